
/-
  Package trial: what is valid.
-/
import Derived.Test.YtegojecjmaifdaaGreatM1
set_option linter.unusedVariables false
set_option linter.unusedSimpArgs false
set_option linter.deprecated false
namespace Go.Sp
open Go Go.Proofs
/-- A trial's slices, as they are read. -/
structure RdTr (w : World) (t : Tr) (sl pl ll tl : Value) : Prop where
  ws : RdI w sl t.s.weights
  ps : RdI w pl t.parts
  ls : RdR w ll t.liquids
  ts : RdT w tl t.tests
theorem RdTr.fr {w w' : World} {t : Tr} {sl pl ll tl : Value} (h : RdTr w t sl pl ll tl) (f : Fr [] w w') : RdTr w' t sl pl ll tl := ⟨h.ws.fr f, h.ps.fr f, h.ls.fr f, h.ts.fr f⟩
structure NT (t : Tr) : Prop where
  ws : (t.s.weights.length : Int) ≤ 9000000000000000000
  ps : (t.parts.length : Int) ≤ 9000000000000000000
  ls : (t.liquids.length : Int) ≤ 9000000000000000000
  ts : (t.tests.length : Int) ≤ 9000000000000000000
def partQ (t : Tr) (l x : Int) : Bool := decide (l < x ∧ (0 ≤ x ∧ x ≤ t.s.divisions))
theorem parted1_c (t : Tr) (sl pl ll tl : Value) (b bt : Nat) (hne : bt ≠ b) (w : World) (hbt : w.heap[bt]? = some (.cells (trV t sl pl ll tl).cells 38 (0, 0))) :
    TestsS Tryz.prog 122 #[] #[ptr b, ptr bt] b (partQ t) w := by
  intro x l w1 f1 hl
  have hb1 := f1.keepS (by simpa using hne) hbt
  rw [show (#[] ++ #[vi x] ++ #[ptr b, ptr bt] : Array Value) = #[vi x, ptr b, ptr bt] from by simp]
  refine cnxS (vs := [_, _, _]) (S := [b]) [(b, .cells #[vi l] 3 (0, 0))] Tryz.func122 rfl rfl ⟨by simp [hl], by simp, by simp⟩ ?_
  all_goals refine tc_seq fun K1 hK1 => ?_
  all_goals refine tc_region ?_
  all_goals refine tl_q (y_assign rfl) rfl ?_
  all_goals refine tl_nil ?_
  all_goals (refine hK1 ?_; try (clear hK1; clear K1))
  all_goals refine tc_seq fun K2 hK2 => ?_
  all_goals refine tc_region ?_
  all_goals refine tl_q (y_move rfl) rfl ?_
  all_goals (refine tl_q (y_load1 rfl (by repeat constructor) (by rfl)) rfl ?_)
  all_goals refine tl_q (y_gtr rfl rfl) rfl ?_
  all_goals refine tl_q (y_move rfl) rfl ?_
  all_goals (refine tl_gs rfl rfl (fun hc => ?_) (fun hc => ?_) <;> (try simp only [decide_eq_true_eq, decide_eq_false_iff_not, Int.not_lt, Int.not_le, Bool.not_eq_true', Bool.not_eq_false', Decidable.not_not, not_true_eq_false] at hc) <;> (first | refine tl_sk rfl rfl rfl rfl ?_ | refine tl_qg rfl rfl (y_loadNo (n := 10) (vs := (trV t sl pl ll tl).cells.toList) rfl (fun w' hw' => (CA_whole (c := (trV t sl pl ll tl).cells) (t := 38) (f := (0, 0)) rfl).cells ((hw'.fr (w0 := w1) (S := [b]) (by simp)).keepS (by simpa using hne) hb1))) rfl ?_))
  all_goals (first | refine tl_sk rfl rfl rfl rfl ?_ | refine tl_qg rfl rfl (y_move rfl) rfl ?_)
  all_goals (first | refine tl_sk rfl rfl rfl rfl ?_ | refine tl_eg rfl rfl rfl (e_callV rfl (.cons rfl (.cons rfl .nil)) (fun w' _ => tdivision_c t x sl pl ll tl w')) (fun _ _ => ?_))
  all_goals (first | refine tl_q (y_pick_t rfl rfl) rfl ?_ | refine tl_q (y_pick_f rfl rfl) rfl ?_)
  all_goals refine tl_q (y_assign rfl) rfl ?_
  all_goals refine tl_nil ?_
  all_goals (refine hK2 ?_; try (clear hK2; clear K2))
  all_goals refine tc_seq fun K3 hK3 => ?_
  all_goals refine tc_region ?_
  all_goals refine tl_q (y_move rfl) rfl ?_
  all_goals refine tl_e (e_store1 rfl rfl (by repeat constructor) (by repeat constructor) (by rfl) (by rfl)) rfl (fun _ _ => ?_)
  all_goals refine tl_nil ?_
  all_goals (refine hK3 ?_; try (clear hK3; clear K3))
  all_goals refine tc_seq fun K4 hK4 => ?_
  all_goals refine tc_region ?_
  all_goals refine tl_q (y_move rfl) rfl ?_
  all_goals refine tl_q (y_assign rfl) rfl ?_
  all_goals refine tl_nil ?_
  all_goals (refine hK4 ?_; try (clear hK4; clear K4))
  all_goals refine tc_ret ?_
  all_goals (repeat (first | refine tk_then_ret ?_))
  all_goals first | refine tk_ret rfl rfl (.cons (.tmp rfl) .nil) ?_ | refine tk_retM rfl (by repeat constructor) rfl (.cons (.tmp rfl) .nil) ?_
  all_goals (
   refine fun w' hw' => ⟨(), ?_, hw'.fr (by simp), trivial, hw'.heap _ (HM.mem (by repeat constructor))⟩
   refine congrArg (fun b => Ending.returned (Value.bool b)) ?_
   unfold partQ
   first
   | exact (decide_eq_true (by omega)).symm
   | exact (decide_eq_false (by omega)).symm
   | exact decide_eq_decide.2 (by omega))
def partB (t : Tr) : Bool := decide (0 < t.parts.length ∧ t.parts.getD 0 0 = 0) && allS (partQ t) (-1) t.parts
theorem parted_c (t : Tr) (hn : NT t) (sl pl ll tl : Value) (w : World) (hr : RdTr w t sl pl ll tl) : CnV Tryz.prog 70 #[trV t sl pl ll tl] w (.bool (partB t)) := by
  have hr0 := hr.ps
  obtain ⟨ad, cap, b0, o, rfl, had, hcell⟩ := hr.ps.open
  have hn2 := hn.ps
  refine cnv (vs := [_]) Tryz.func70 rfl rfl ?_
  all_goals refine tc_seq fun K1 hK1 => ?_
  all_goals refine tc_region ?_
  all_goals refine tl_e (e_box rfl rfl rfl) rfl (fun b1 _ => ?_)
  all_goals refine tl_q (y_assign rfl) rfl ?_
  all_goals refine tl_nil ?_
  all_goals (refine hK1 ?_; try (clear hK1; clear K1))
  all_goals refine tc_seq fun K2 hK2 => ?_
  all_goals refine tc_region ?_
  all_goals refine tl_e (e_alloc1 rfl) rfl (fun b3 _ => ?_)
  all_goals refine tl_e (e_store1 rfl rfl (by repeat constructor) (by repeat constructor) (by rfl) (by rfl)) rfl (fun _ _ => ?_)
  all_goals refine tl_nil ?_
  all_goals (refine hK2 ?_; try (clear hK2; clear K2))
  all_goals refine tc_seq fun K3 hK3 => ?_
  all_goals refine tc_region ?_
  all_goals refine tl_q (y_field rfl) rfl ?_
  all_goals (refine tl_q (y_load1 rfl (by repeat constructor) (by rfl)) rfl ?_)
  all_goals refine tl_q (y_len rfl) rfl ?_
  all_goals refine tl_q (y_gtr rfl rfl) rfl ?_
  all_goals refine tl_q (y_move rfl) rfl ?_
  all_goals (refine tl_gs rfl rfl (fun hc => ?_) (fun hc => ?_) <;> (try simp only [decide_eq_true_eq, decide_eq_false_iff_not, Int.not_lt, Int.not_le, Bool.not_eq_true', Bool.not_eq_false', Decidable.not_not, not_true_eq_false] at hc) <;> (first | refine tl_sk rfl rfl rfl rfl ?_ | refine tl_qg rfl rfl (y_field rfl) rfl ?_))
  all_goals (first | refine tl_sk rfl rfl rfl rfl ?_ | refine tl_qg rfl rfl (y_load1 rfl (by repeat constructor) (by rfl)) rfl ?_)
  all_goals (first | refine tl_sk rfl rfl rfl rfl ?_ | refine tl_qg rfl rfl (y_index rfl rfl (by omega) (had (by omega))) rfl ?_)
  all_goals (first | refine tl_sk rfl rfl rfl rfl ?_ | refine tl_qg rfl rfl (y_load1o (v := vi (t.parts.getD 0 0)) rfl (fun w' hw' => hcell w' (hw'.fr (by simp)) 0 (by omega))) rfl ?_)
  all_goals (first | refine tl_sk rfl rfl rfl rfl ?_ | refine tl_qg rfl rfl (y_eql rfl rfl) rfl ?_)
  all_goals (first | refine tl_q (y_pick_t rfl rfl) rfl ?_ | refine tl_q (y_pick_f rfl rfl) rfl ?_)
  all_goals refine tl_q (y_move rfl) rfl ?_
  all_goals (first | refine tl_sk rfl rfl rfl rfl ?_ | (refine tl_gs rfl rfl (fun hc => ?_) (fun hc => ?_) <;> (try simp only [decide_eq_true_eq, decide_eq_false_iff_not, Int.not_lt, Int.not_le, Bool.not_eq_true', Bool.not_eq_false', Decidable.not_not, not_true_eq_false] at hc) <;> (first | refine tl_sk rfl rfl rfl rfl ?_ | refine tl_qg rfl rfl (y_field rfl) rfl ?_)))
  all_goals (first | refine tl_sk rfl rfl rfl rfl ?_ | refine tl_qg rfl rfl (y_load1 rfl (by repeat constructor) (by rfl)) rfl ?_)
  all_goals (first | refine tl_sk rfl rfl rfl rfl ?_ | refine tl_qg rfl rfl (y_fn .nil (.cons rfl (.cons rfl .nil))) rfl ?_)
  all_goals (first | refine tl_sk rfl rfl rfl rfl ?_ | refine tl_eg rfl rfl rfl (e_callU (ob := fun z : Int => .cells #[vi z] 3 (0, 0)) rfl (.cons rfl (.cons rfl .nil)) (fun w' hw' => allS_c 122 #[] #[ptr b3, ptr b1] b3 (partQ t) t.parts hn2 _ w' (-1) (hw'.heap _ (HM.mem (by repeat constructor))) (fun w2 f => hr0.fr ((hw'.fr (w0 := w) (S := []) (by simp)).trans f (fun x hx => .inr (by rw [List.mem_singleton.1 hx]; exact (hw'.own _ (HM.mem (b := b3) (by repeat constructor)) (w, []) (by simp)).resolve_left (by simp))))) (parted1_c t sl _ ll tl b3 b1 (by have := hw'.nodup; simp at this; omega) w' (hw'.heap _ (HM.mem (by repeat constructor))))) (fun _ => (by repeat constructor))) (fun z hz => ?_))
  all_goals (first | refine tl_q (y_pick_t rfl rfl) rfl ?_ | refine tl_q (y_pick_f rfl rfl) rfl ?_)
  all_goals refine tl_q (y_assign rfl) rfl ?_
  all_goals refine tl_nil ?_
  all_goals (refine hK3 ?_; try (clear hK3; clear K3))
  all_goals refine tc_ret ?_
  all_goals (repeat (first | refine tk_then_ret ?_))
  all_goals first | refine tk_ret rfl rfl (.cons (.tmp rfl) .nil) ?_ | refine tk_retM rfl (by repeat constructor) rfl (.cons (.tmp rfl) .nil) ?_
  all_goals (
   refine fun w' hw' => ⟨congrArg (fun b => Ending.returned (Value.bool b)) ?_, hw'.fr (by simp)⟩
   unfold partB
   first
   | (rw [decide_eq_true (by omega), Bool.true_and])
   | (rw [decide_eq_false (by omega), Bool.false_and]))
end Go.Sp
/-
  Package trial: the error of a trial.
-/
namespace Go.Sp
open Go Go.Proofs
def chkT (t : Tr) : Int := if ¬ chkF t.s = 0 then chkF t.s else if 3 < t.parts.length ∨ 3 < t.liquids.length ∨ 6 < t.tests.length then 3
  else if partB t = true ∧ (0 ≤ t.worst ∧ t.worst ≤ 3) ∧ ¬ t.liquids.length = 0 ∧ t.liquids.all lqB = true ∧ t.tests.all (tsB t) = true then 0 else 1
theorem checkTrial_c (t : Tr) (hn : NT t) (sl pl ll tl : Value) (w : World) (hr : RdTr w t sl pl ll tl) : CnV Tryz.prog 21 #[trV t sl pl ll tl] w (vi (chkT t)) := by
  have hr0 := hr
  obtain ⟨ad, cap, b0, o, rfl, _, _⟩ := hr.ws.open
  obtain ⟨ad1, cap1, b1', o1, rfl, _, _⟩ := hr.ps.open
  obtain ⟨ad2, cap2, b2', o2, rfl, _, _⟩ := hr.ls.open
  obtain ⟨ad3, cap3, b3', o3, rfl, _, _⟩ := hr.ts.open
  refine cnv (vs := [_]) Tryz.func21 rfl rfl ?_
  all_goals refine tc_seq fun K1 hK1 => ?_
  all_goals refine tc_region ?_
  all_goals refine tl_e (e_box rfl rfl rfl) rfl (fun b1 _ => ?_)
  all_goals refine tl_q (y_assign rfl) rfl ?_
  all_goals refine tl_nil ?_
  all_goals (refine hK1 ?_; try (clear hK1; clear K1))
  all_goals refine tc_seq fun K2 hK2 => ?_
  all_goals refine tc_seq fun K3 hK3 => ?_
  all_goals refine tc_region ?_
  all_goals refine tl_q (y_field rfl) rfl ?_
  all_goals (refine tl_q (y_loadN rfl (by repeat constructor) (by (repeat (first | exact .nil | apply CA.cons rfl)); done)) rfl ?_)
  all_goals refine tl_e (e_callV rfl (.cons rfl .nil) (fun w' hw' => chk_c t.s hn.ws _ w' (hr0.ws.fr (hw'.fr (by simp))))) rfl (fun _ _ => ?_)
  all_goals refine tl_q (y_assign rfl) rfl ?_
  all_goals refine tl_nil ?_
  all_goals (refine hK3 ?_; try (clear hK3; clear K3))
  all_goals refine tc_seq fun K4 hK4 => ?_
  all_goals refine tc_region ?_
  all_goals refine tl_q (y_move rfl) rfl ?_
  all_goals refine tl_q (y_neq rfl rfl) rfl ?_
  all_goals refine tl_nil ?_
  all_goals (refine hK4 ?_; try (clear hK4; clear K4))
  all_goals (
   refine tc_cond rfl (fun hc => ?_) (fun hc => ?_)
   · try simp only [decide_eq_true_eq, decide_eq_false_iff_not, Int.not_lt, Int.not_le, Bool.not_eq_true', Bool.not_eq_false', Decidable.not_not, not_true_eq_false] at hc
     all_goals first | (exfalso; with_reducible exact bft hc) | (exfalso; with_reducible exact btf hc) | (exfalso; omega) | skip
     all_goals refine tc_seq fun K5 hK5 => ?_
     all_goals refine tc_region ?_
     all_goals refine tl_q (y_move rfl) rfl ?_
     all_goals refine tl_q (y_assign rfl) rfl ?_
     all_goals refine tl_nil ?_
     all_goals (refine hK5 ?_; try (clear hK5; clear K5))
     all_goals refine tc_ret ?_
     all_goals (repeat (refine tk_then_ret ?_))
     all_goals first | refine tk_ret rfl rfl (.cons (.tmp rfl) .nil) ?_ | refine tk_retM rfl (by repeat constructor) rfl (.cons (.tmp rfl) .nil) ?_
     all_goals (
      refine fun w' hw' => ⟨congrArg (fun n => Ending.returned (Value.int .i64 n)) ?_, hw'.fr (by simp)⟩
      unfold chkT
      first
      | (rw [if_pos (by omega)])
      | (rw [if_neg (by omega), if_pos (by omega)])
      | (rw [if_neg (by omega), if_neg (by omega)]
         clear hr hr0
         generalize partB t = p at *
         generalize t.liquids.all lqB = q at *
         generalize t.tests.all (tsB t) = r at *
         first
         | (refine (if_pos ?_).symm
            refine ⟨?_, ?_, ?_, ?_, ?_⟩ <;> first | assumption | omega)
         | (refine (if_neg ?_).symm
            rintro ⟨h1, h2, h3, h4, h5⟩
            subst h1; subst h4; subst h5
            first | omega | simp at hc)))
   · try simp only [decide_eq_true_eq, decide_eq_false_iff_not, Int.not_lt, Int.not_le, Bool.not_eq_true', Bool.not_eq_false', Decidable.not_not, not_true_eq_false] at hc
     all_goals first | (exfalso; with_reducible exact bft hc) | (exfalso; with_reducible exact btf hc) | (exfalso; omega) | skip
     all_goals refine tc_skip ?_
     all_goals (refine hK2 ?_; try (clear hK2; clear K2))
     all_goals refine tc_seq fun K6 hK6 => ?_
     all_goals refine tc_region ?_
     all_goals (refine tl_q (y_loadW rfl (by repeat constructor) (by rfl)) rfl ?_)
     all_goals refine tl_q (y_fn (.cons rfl .nil) .nil) rfl ?_
     all_goals refine tl_q (y_assign rfl) rfl ?_
     all_goals refine tl_nil ?_
     all_goals (refine hK6 ?_; try (clear hK6; clear K6))
     all_goals refine tc_seq fun K7 hK7 => ?_
     all_goals refine tc_block ?_
     all_goals refine tc_seq fun K8 hK8 => ?_
     all_goals refine tc_region ?_
     all_goals refine tl_q (y_field rfl) rfl ?_
     all_goals refine tl_q (y_load1 rfl (by repeat constructor) (by rfl)) rfl ?_
     all_goals refine tl_q (y_len rfl) rfl ?_
     all_goals refine tl_q (y_gtr rfl rfl) rfl ?_
     all_goals refine tl_q (y_move rfl) rfl ?_
     all_goals (refine tl_gs rfl rfl (fun hc => ?_) (fun hc => ?_) <;> (try simp only [decide_eq_true_eq, decide_eq_false_iff_not, Int.not_lt, Int.not_le, Bool.not_eq_true', Bool.not_eq_false', Decidable.not_not, not_true_eq_false] at hc) <;> (first | refine tl_sk rfl rfl rfl rfl ?_ | refine tl_qg rfl rfl (y_field rfl) rfl ?_))
     all_goals (first | refine tl_sk rfl rfl rfl rfl ?_ | refine tl_qg rfl rfl (y_load1 rfl (by repeat constructor) (by rfl)) rfl ?_)
     all_goals (first | refine tl_sk rfl rfl rfl rfl ?_ | refine tl_qg rfl rfl (y_len rfl) rfl ?_)
     all_goals (first | refine tl_sk rfl rfl rfl rfl ?_ | refine tl_qg rfl rfl (y_gtr rfl rfl) rfl ?_)
     all_goals (first | refine tl_q (y_pick_t rfl rfl) rfl ?_ | refine tl_q (y_pick_f rfl rfl) rfl ?_)
     all_goals refine tl_q (y_move rfl) rfl ?_
     all_goals (first | refine tl_sk rfl rfl rfl rfl ?_ | (refine tl_gs rfl rfl (fun hc => ?_) (fun hc => ?_) <;> (try simp only [decide_eq_true_eq, decide_eq_false_iff_not, Int.not_lt, Int.not_le, Bool.not_eq_true', Bool.not_eq_false', Decidable.not_not, not_true_eq_false] at hc) <;> (first | refine tl_sk rfl rfl rfl rfl ?_ | refine tl_qg rfl rfl (y_field rfl) rfl ?_)))
     all_goals (first | refine tl_sk rfl rfl rfl rfl ?_ | refine tl_qg rfl rfl (y_load1 rfl (by repeat constructor) (by rfl)) rfl ?_)
     all_goals (first | refine tl_sk rfl rfl rfl rfl ?_ | refine tl_qg rfl rfl (y_len rfl) rfl ?_)
     all_goals (first | refine tl_sk rfl rfl rfl rfl ?_ | refine tl_qg rfl rfl (y_gtr rfl rfl) rfl ?_)
     all_goals (first | refine tl_q (y_pick_t rfl rfl) rfl ?_ | refine tl_q (y_pick_f rfl rfl) rfl ?_)
     all_goals refine tl_q (y_assign rfl) rfl ?_
     all_goals refine tl_nil ?_
     all_goals (refine hK8 ?_; try (clear hK8; clear K8))
     all_goals (
      refine tc_cond rfl (fun hc => ?_) (fun hc => ?_)
      · try simp only [decide_eq_true_eq, decide_eq_false_iff_not, Int.not_lt, Int.not_le, Bool.not_eq_true', Bool.not_eq_false', Decidable.not_not, not_true_eq_false] at hc
        all_goals first | (exfalso; with_reducible exact bft hc) | (exfalso; with_reducible exact btf hc) | (exfalso; omega) | skip
        all_goals refine tc_seq fun K9 hK9 => ?_
        all_goals refine tc_region ?_
        all_goals refine tl_q (y_assign rfl) rfl ?_
        all_goals refine tl_nil ?_
        all_goals (refine hK9 ?_; try (clear hK9; clear K9))
        all_goals refine tc_ret ?_
        all_goals (repeat (first | refine tk_then_ret ?_ | refine tk_block_ret ?_))
        all_goals first | refine tk_ret rfl rfl (.cons (.tmp rfl) .nil) ?_ | refine tk_retM rfl (by repeat constructor) rfl (.cons (.tmp rfl) .nil) ?_
        all_goals (
         refine fun w' hw' => ⟨congrArg (fun n => Ending.returned (Value.int .i64 n)) ?_, hw'.fr (by simp)⟩
         unfold chkT
         first
         | (rw [if_pos (by omega)])
         | (rw [if_neg (by omega), if_pos (by omega)])
         | (rw [if_neg (by omega), if_neg (by omega)]
            clear hr hr0
            generalize partB t = p at *
            generalize t.liquids.all lqB = q at *
            generalize t.tests.all (tsB t) = r at *
            first
            | (refine (if_pos ?_).symm
               refine ⟨?_, ?_, ?_, ?_, ?_⟩ <;> first | assumption | omega)
            | (refine (if_neg ?_).symm
               rintro ⟨h1, h2, h3, h4, h5⟩
               subst h1; subst h4; subst h5
               first | omega | simp at hc)))
      · try simp only [decide_eq_true_eq, decide_eq_false_iff_not, Int.not_lt, Int.not_le, Bool.not_eq_true', Bool.not_eq_false', Decidable.not_not, not_true_eq_false] at hc
        all_goals first | (exfalso; with_reducible exact bft hc) | (exfalso; with_reducible exact btf hc) | (exfalso; omega) | skip
        all_goals refine tc_seq fun K10 hK10 => ?_
        all_goals refine tc_region ?_
        all_goals (refine tl_q (y_loadW rfl (by repeat constructor) (by rfl)) rfl ?_)
        all_goals refine tl_e (e_callV rfl (.cons rfl .nil) (fun w' hw' => parted_c t hn _ _ _ _ w' (hr0.fr (hw'.fr (by simp))))) rfl (fun _ _ => ?_)
        all_goals (refine tl_q (y_not rfl) rfl ?_)
        all_goals refine tl_q (y_move rfl) rfl ?_
        all_goals (refine tl_gs rfl rfl (fun hc => ?_) (fun hc => ?_) <;> (try simp only [decide_eq_true_eq, decide_eq_false_iff_not, Int.not_lt, Int.not_le, Bool.not_eq_true', Bool.not_eq_false', Decidable.not_not, not_true_eq_false] at hc) <;> (first | refine tl_sk rfl rfl rfl rfl ?_ | refine tl_qg rfl rfl (y_field rfl) rfl ?_))
        all_goals (first | refine tl_sk rfl rfl rfl rfl ?_ | refine tl_qg rfl rfl (y_load1 rfl (by repeat constructor) (by rfl)) rfl ?_)
        all_goals (first | refine tl_sk rfl rfl rfl rfl ?_ | refine tl_eg rfl rfl rfl (e_callV rfl (.cons rfl (.cons rfl (.cons rfl .nil))) (fun w' _ => twithin_c _ _ _ w')) (fun _ _ => ?_))
        all_goals (first | refine tl_sk rfl rfl rfl rfl ?_ | refine tl_qg rfl rfl (y_not_dec rfl) rfl ?_)
        all_goals (first | refine tl_q (y_pick_t rfl rfl) rfl ?_ | refine tl_q (y_pick_f rfl rfl) rfl ?_)
        all_goals refine tl_q (y_move rfl) rfl ?_
        all_goals (first | refine tl_sk rfl rfl rfl rfl ?_ | (refine tl_gs rfl rfl (fun hc => ?_) (fun hc => ?_) <;> (try simp only [decide_eq_true_eq, decide_eq_false_iff_not, Int.not_lt, Int.not_le, Bool.not_eq_true', Bool.not_eq_false', Decidable.not_not, not_true_eq_false] at hc) <;> (first | refine tl_sk rfl rfl rfl rfl ?_ | refine tl_qg rfl rfl (y_field rfl) rfl ?_)))
        all_goals (first | refine tl_sk rfl rfl rfl rfl ?_ | refine tl_qg rfl rfl (y_load1 rfl (by repeat constructor) (by rfl)) rfl ?_)
        all_goals (first | refine tl_sk rfl rfl rfl rfl ?_ | refine tl_qg rfl rfl (y_len rfl) rfl ?_)
        all_goals (first | refine tl_sk rfl rfl rfl rfl ?_ | refine tl_qg rfl rfl (y_eql rfl rfl) rfl ?_)
        all_goals (first | refine tl_q (y_pick_t rfl rfl) rfl ?_ | refine tl_q (y_pick_f rfl rfl) rfl ?_)
        all_goals refine tl_q (y_move rfl) rfl ?_
        all_goals (first | refine tl_sk rfl rfl rfl rfl ?_ | (refine tl_gs rfl rfl (fun hc => ?_) (fun hc => ?_) <;> (try simp only [decide_eq_true_eq, decide_eq_false_iff_not, Int.not_lt, Int.not_le, Bool.not_eq_true', Bool.not_eq_false', Decidable.not_not, not_true_eq_false] at hc) <;> (first | refine tl_sk rfl rfl rfl rfl ?_ | refine tl_qg rfl rfl (y_field rfl) rfl ?_)))
        all_goals (first | refine tl_sk rfl rfl rfl rfl ?_ | refine tl_qg rfl rfl (y_load1 rfl (by repeat constructor) (by rfl)) rfl ?_)
        all_goals (first | refine tl_sk rfl rfl rfl rfl ?_ | refine tl_eg rfl rfl rfl (e_callV rfl (.cons rfl (.cons rfl .nil)) (fun w' hw' => allG_c 72 #[] #[] lqB t.liquids hn.ls _ w' (hr0.ls.fr (hw'.fr (by simp))) (fun x w2 _ => by simpa using liquid_c x w2))) (fun _ _ => ?_))
        all_goals (first | refine tl_sk rfl rfl rfl rfl ?_ | refine tl_qg rfl rfl (y_not rfl) rfl ?_)
        all_goals (first | refine tl_q (y_pick_t rfl rfl) rfl ?_ | refine tl_q (y_pick_f rfl rfl) rfl ?_)
        all_goals refine tl_q (y_move rfl) rfl ?_
        all_goals (first | refine tl_sk rfl rfl rfl rfl ?_ | (refine tl_gs rfl rfl (fun hc => ?_) (fun hc => ?_) <;> (try simp only [decide_eq_true_eq, decide_eq_false_iff_not, Int.not_lt, Int.not_le, Bool.not_eq_true', Bool.not_eq_false', Decidable.not_not, not_true_eq_false] at hc) <;> (first | refine tl_sk rfl rfl rfl rfl ?_ | refine tl_qg rfl rfl (y_field rfl) rfl ?_)))
        all_goals (first | refine tl_sk rfl rfl rfl rfl ?_ | refine tl_qg rfl rfl (y_load1 rfl (by repeat constructor) (by rfl)) rfl ?_)
        all_goals (first | refine tl_sk rfl rfl rfl rfl ?_ | refine tl_qg rfl rfl (y_move rfl) rfl ?_)
        all_goals (first | refine tl_sk rfl rfl rfl rfl ?_ | refine tl_eg rfl rfl rfl (e_callV rfl (.cons rfl (.cons rfl .nil)) (fun w' hw' => allT_c 69 #[trV t _ _ _ _] #[] (tsB t) t.tests hn.ts _ w' (hr0.ts.fr (hw'.fr (by simp))) (fun x w2 f => by simpa using test_c t hn.ls x _ _ _ _ w2 (hr0.ws.fr ((hw'.fr (w0 := w) (S := []) (by simp)).trans f (by simp))) (hr0.ls.fr ((hw'.fr (w0 := w) (S := []) (by simp)).trans f (by simp)))))) (fun _ _ => ?_))
        all_goals (first | refine tl_sk rfl rfl rfl rfl ?_ | refine tl_qg rfl rfl (y_not rfl) rfl ?_)
        all_goals (first | refine tl_q (y_pick_t rfl rfl) rfl ?_ | refine tl_q (y_pick_f rfl rfl) rfl ?_)
        all_goals refine tl_q (y_assign rfl) rfl ?_
        all_goals refine tl_nil ?_
        all_goals (refine hK10 ?_; try (clear hK10; clear K10))
        all_goals (
         refine tc_cond rfl (fun hc => ?_) (fun hc => ?_)
         · try simp only [decide_eq_true_eq, decide_eq_false_iff_not, Int.not_lt, Int.not_le, Bool.not_eq_true', Bool.not_eq_false', Decidable.not_not, not_true_eq_false] at hc
           all_goals first | (exfalso; with_reducible exact bft hc) | (exfalso; with_reducible exact btf hc) | (exfalso; omega) | skip
           all_goals refine tc_seq fun K11 hK11 => ?_
           all_goals refine tc_region ?_
           all_goals refine tl_q (y_assign rfl) rfl ?_
           all_goals refine tl_nil ?_
           all_goals (refine hK11 ?_; try (clear hK11; clear K11))
           all_goals refine tc_ret ?_
           all_goals (repeat (first | refine tk_then_ret ?_ | refine tk_block_ret ?_))
           all_goals first | refine tk_ret rfl rfl (.cons (.tmp rfl) .nil) ?_ | refine tk_retM rfl (by repeat constructor) rfl (.cons (.tmp rfl) .nil) ?_
           all_goals (
            refine fun w' hw' => ⟨congrArg (fun n => Ending.returned (Value.int .i64 n)) ?_, hw'.fr (by simp)⟩
            unfold chkT
            first
            | (rw [if_pos (by omega)])
            | (rw [if_neg (by omega), if_pos (by omega)])
            | (rw [if_neg (by omega), if_neg (by omega)]
               clear hr hr0
               generalize partB t = p at *
               generalize t.liquids.all lqB = q at *
               generalize t.tests.all (tsB t) = r at *
               first
               | (refine (if_pos ?_).symm
                  refine ⟨?_, ?_, ?_, ?_, ?_⟩ <;> first | assumption | omega)
               | (refine (if_neg ?_).symm
                  rintro ⟨h1, h2, h3, h4, h5⟩
                  subst h1; subst h4; subst h5
                  first | omega | simp at hc)))
         · try simp only [decide_eq_true_eq, decide_eq_false_iff_not, Int.not_lt, Int.not_le, Bool.not_eq_true', Bool.not_eq_false', Decidable.not_not, not_true_eq_false] at hc
           all_goals first | (exfalso; with_reducible exact bft hc) | (exfalso; with_reducible exact btf hc) | (exfalso; omega) | skip
           all_goals refine tc_skip ?_
           all_goals (refine hK7 ?_; try (clear hK7; clear K7))
           all_goals refine tc_seq fun K12 hK12 => ?_
           all_goals refine tc_region ?_
           all_goals refine tl_q (y_assign rfl) rfl ?_
           all_goals refine tl_nil ?_
           all_goals (refine hK12 ?_; try (clear hK12; clear K12))
           all_goals refine tc_ret ?_
           all_goals (repeat (first | refine tk_then_ret ?_))
           all_goals first | refine tk_ret rfl rfl (.cons (.tmp rfl) .nil) ?_ | refine tk_retM rfl (by repeat constructor) rfl (.cons (.tmp rfl) .nil) ?_
           all_goals (
            refine fun w' hw' => ⟨congrArg (fun n => Ending.returned (Value.int .i64 n)) ?_, hw'.fr (by simp)⟩
            unfold chkT
            first
            | (rw [if_pos (by omega)])
            | (rw [if_neg (by omega), if_pos (by omega)])
            | (rw [if_neg (by omega), if_neg (by omega)]
               clear hr hr0
               generalize partB t = p at *
               generalize t.liquids.all lqB = q at *
               generalize t.tests.all (tsB t) = r at *
               first
               | (refine (if_pos ?_).symm
                  refine ⟨?_, ?_, ?_, ?_, ?_⟩ <;> first | assumption | omega)
               | (refine (if_neg ?_).symm
                  rintro ⟨h1, h2, h3, h4, h5⟩
                  subst h1; subst h4; subst h5
                  first | omega | simp at hc))))))
end Go.Sp
/-
  Package trial: a trial at work; what the spindle reads, and what can be shown by errors.
-/
namespace Go.Sp
open Go Go.Proofs
theorem y_build_tw {P : Program} {F : List (Nat × Value)} {bs : List (World × List Nat)} {H : List (Nat × Obj)} {d : Option Tmp} {ty : TypeId} {pos : String} {after : Array Edge} {g : Option (Nat × Bool)} {t : TypeId} {z0 z1 z2 z3 z4 z5 z6 z7 z8 z9 z10 : Value} [TyPlaces P t [(0, 10), (10, 1)]] [TyAgg P t 11 #[z0, z1, z2, z3, z4, z5, z6, z7, z8, z9, z10]] {x y : Operand} {v0 v1 v2 v3 v4 v5 v6 v7 v8 v9 v10 : Value}
    (hx : evalO F x = some (.agg #[v0, v1, v2, v3, v4, v5, v6, v7, v8, v9])) (hy : evalO F y = some v10) (c6 : v10.cells = #[v10]) :
    OpY P ⟨d, .build t #[(0, x), (1, y)], ty, pos, after, g⟩ F bs H (.agg #[v0, v1, v2, v3, v4, v5, v6, v7, v8, v9, v10]) := by
  unfold OpY
  intro N a w ht hw
  have h2 : Instr.fill (([(0, 10), (10, 1)] : List (Nat × Nat))[·]?) #[v0, v1, v2, v3, v4, v5, v6, v7, v8, v9, z10] [(1, v10)] = some #[v0, v1, v2, v3, v4, v5, v6, v7, v8, v9, v10] := fill_one (cells := [v0, v1, v2, v3, v4, v5, v6, v7, v8, v9, z10]) (o := 10) rfl c6 (by simp) rfl
  have h1 : Instr.fill (([(0, 10), (10, 1)] : List (Nat × Nat))[·]?) #[z0, z1, z2, z3, z4, z5, z6, z7, z8, z9, z10] [(0, .agg #[v0, v1, v2, v3, v4, v5, v6, v7, v8, v9]), (1, v10)] = some #[v0, v1, v2, v3, v4, v5, v6, v7, v8, v9, v10] :=
    fill_cons (o := 0) (sz := 10) (c := #[v0, v1, v2, v3, v4, v5, v6, v7, v8, v9]) rfl rfl rfl (by simp) (by simpa [Array.zipIdx] using h2)
  have := build_run (P := P) (t := t) (parts := #[(0, .agg #[v0, v1, v2, v3, v4, v5, v6, v7, v8, v9]), (1, v10)]) (cells := #[v0, v1, v2, v3, v4, v5, v6, v7, v8, v9, v10]) h1 w
  simp [execOp, ht.eval hx, ht.eval hy, this, Result.andThen]
abbrev wkT (t : Tr) (sl pl ll tl : Value) (bm : Nat) : Obj := .cells #[vi t.s.mass, vi t.s.volume, vi t.s.step, vi t.s.divisions, vi t.s.width, sl, pl, vi t.worst, ll, tl, .map (some bm)] 180 (0, 0)
theorem twork_c (t : Tr) (sl pl ll tl : Value) (h1 : sl.oneCell' = true) (h2 : pl.oneCell' = true) (h3 : ll.oneCell' = true) (h4 : tl.oneCell' = true) (w : World) : CnX Tryz.prog 66 #[trV t sl pl ll tl] w [] (fun x : Nat × Nat => ptr x.1)
    (fun x w' => True ∧ (∀ q ∈ [(x.1, wkT t sl pl ll tl x.2), (x.2, .map #[] 0)], w.heap.size ≤ q.1 ∧ w'.heap[q.1]? = some q.2) ∧ (([(x.1, wkT t sl pl ll tl x.2), (x.2, .map #[] 0)] : List (Nat × Obj)).map Prod.fst).Nodup) := by
  refine cnx0 (vs := [_]) Tryz.func66 rfl rfl ?_
  all_goals refine tc_seq fun K1 hK1 => ?_
  all_goals refine tc_region ?_
  all_goals refine tl_e (e_box rfl rfl rfl) rfl (fun b1 _ => ?_)
  all_goals refine tl_q (y_assign rfl) rfl ?_
  all_goals refine tl_nil ?_
  all_goals (refine hK1 ?_; try (clear hK1; clear K1))
  all_goals refine tc_seq fun K2 hK2 => ?_
  all_goals refine tc_region ?_
  all_goals (refine tl_q (y_loadW rfl (by repeat constructor) (by rfl)) rfl ?_)
  all_goals refine tl_e (e_makeMap rfl) rfl (fun bm _ => ?_)
  all_goals (refine tl_q (y_build_tw rfl rfl rfl) rfl ?_)
  all_goals refine tl_e (e_box rfl rfl rfl) rfl (fun bw _ => ?_)
  all_goals refine tl_q (y_assign rfl) rfl ?_
  all_goals refine tl_nil ?_
  all_goals (refine hK2 ?_; try (clear hK2; clear K2))
  all_goals refine tc_ret ?_
  all_goals (repeat (first | refine tk_then_ret ?_))
  all_goals first | refine tk_ret rfl rfl (.cons (.tmp rfl) .nil) ?_ | refine tk_retM rfl (by repeat constructor) rfl (.cons (.tmp rfl) .nil) ?_
  all_goals (
   exact fun w' hw' => ⟨(bw, bm), rfl, hw'.fr (by simp), trivial, fun q hq => by
       simp only [List.mem_cons, List.not_mem_nil, or_false] at hq
       have hn := hw'.own
       have hh := hw'.heap
       rcases hq with rfl | rfl
       · exact ⟨by simpa using hn _ (HM.mem (b := bw) (o := wkT t sl pl ll tl bm) (by repeat constructor)) _ List.mem_cons_self, hh _ (HM.mem (by repeat constructor))⟩
       · exact ⟨by simpa using hn _ (HM.mem (b := bm) (o := .map #[] 0) (by repeat constructor)) _ List.mem_cons_self, hh _ (HM.mem (by repeat constructor))⟩, by
       have := hw'.nodup
       simp only [List.map_cons, List.nodup_cons, List.mem_cons, not_or] at this
       simp only [List.map_cons, List.map_nil, List.nodup_cons, List.mem_singleton]
       simp
       exact this.1.1⟩)
/-- What the spindle reads: none if it doesn't float. -/
def readT (s : Sn) (k d : Int) : Int × Int := if (seeF s k d).2 = 0 then (seeF s k d).1 else (0, -1)
def readV (s : Sn) (k d : Int) : Value := rV (readT s k d)
theorem tread_c (t : Tr) (hn : NT t) (k d : Int) (sl pl ll tl : Value) (w : World) (hr : RdI w sl t.s.weights) (bw bm : Nat) (es : Array MapEntry) (ck : Nat)
    (hbw : w.heap[bw]? = some (wkT t sl pl ll tl bm)) (hbm : w.heap[bm]? = some (.map es ck)) (hc0 : Cache (readV t.s) es.toList) :
    CnX Tryz.prog 156 #[ptr bw, .agg #[vi k, vi d]] w [bm] (fun _ : Array MapEntry × Nat => rV (readT t.s k d)) (fun x w' => Cache (readV t.s) x.1.toList ∧ w'.heap[bm]? = some (.map x.1 x.2)) := by
  have hne : bw ≠ bm := by rintro rfl; rw [hbw] at hbm; simp at hbm
  have hrM : ∀ w', Fr [bw, bm] w w' → w'.heap[bw]? = some (wkT t sl pl ll tl bm) → RdI w' sl t.s.weights := fun w' f hb => by
    refine RdI.frM (bm := bm) (es := es) (ck := ck) (S := [bm]) hr (Fr.but f (by rw [hb, hbw])) (fun x hx => ?_)
    obtain rfl : x = bm := by simpa using hx
    exact ⟨es, ck, hbm⟩
  obtain ⟨e, he⟩ : ∃ e, (seeF t.s k d).2 = e := ⟨_, rfl⟩
  obtain ⟨r, hr1⟩ : ∃ r, (seeF t.s k d).1 = r := ⟨_, rfl⟩
  have hsee : seeF t.s k d = (r, e) := by rw [← he, ← hr1]
  cases hh : hasL es.toList k d
  all_goals refine cnxS (vs := [_, _]) (S := [bw, bm]) [(bw, wkT t sl pl ll tl bm), (bm, .map es ck)] Tryz.func156 rfl rfl ⟨by simp [hbw, hbm], by simp [hne], by simp⟩ ?_
  all_goals refine tc_seq fun K1 hK1 => ?_
  all_goals refine tc_region ?_
  all_goals refine tl_e (e_box rfl rfl rfl) rfl (fun b3 _ => ?_)
  all_goals refine tl_e (e_allocN rfl) rfl (fun b4 _ => ?_)
  all_goals refine tl_nil ?_
  all_goals (refine hK1 ?_; try (clear hK1; clear K1))
  all_goals refine tc_seq fun K2 hK2 => ?_
  all_goals refine tc_draw (by kernel_rfl) ?_
  all_goals refine tx_p 0 rfl (by kernel_rfl) (y_move rfl) rfl (fun _ _ _ h => h) (fun _ h => h) ?_
  all_goals refine tx_p 1 rfl (by kernel_rfl) (y_nil rfl) rfl (fun _ _ _ h => h) (fun _ h => h) ?_
  all_goals refine tx_p 2 rfl (by kernel_rfl) (y_field rfl) rfl (fun _ _ _ h => h) (fun _ h => h) ?_
  all_goals refine tx_q 3 rfl (by kernel_rfl) (y_load1 rfl (by repeat constructor) (by rfl)) rfl (fun _ _ _ h => h) (fun _ h => h) ?_
  all_goals (refine tx_q 4 rfl (by kernel_rfl) (y_loadW rfl (by repeat constructor) (by rfl)) rfl (fun _ _ _ h => h) (fun _ h => h) ?_)
  all_goals (first | refine tx_q 5 rfl (by kernel_rfl) (y_lookup_hit hh rfl rfl (by repeat constructor) hc0) rfl (fun _ _ _ h => h) (fun _ h => h) ?_ | refine tx_q 5 rfl (by kernel_rfl) (y_lookup_miss hh rfl rfl (by repeat constructor) hc0) rfl (fun _ _ _ h => h) (fun _ h => h) ?_)
  all_goals refine tx_p 6 rfl (by kernel_rfl) (y_move rfl) rfl (fun _ _ _ h => h) (fun _ h => h) ?_
  all_goals refine tx_p 7 rfl (by kernel_rfl) (y_extract rfl rfl) rfl (fun _ _ _ h => h) (fun _ h => h) ?_
  all_goals refine tx_p 8 rfl (by kernel_rfl) (y_extract rfl rfl) rfl (fun _ _ _ h => h) (fun _ h => h) ?_
  all_goals refine tx_e 9 rfl (by kernel_rfl) rfl (e_allocN rfl) (.inr qq1) (fun b5 _ => ?_)
  all_goals refine tx_e 10 rfl (by kernel_rfl) rfl (e_storeW rfl rfl (by repeat constructor) (by rfl) (by rfl) (by simp [Value.oneCell'])) (.inl (by kernel_rfl)) (fun _ _ => ?_)
  all_goals refine tx_p 11 rfl (by kernel_rfl) (y_assign rfl) rfl (fun _ _ _ h => h) (fun _ h => h) ?_
  all_goals refine tx_done (by kernel_rfl) ?_
  all_goals (refine hK2 ?_; try (clear hK2; clear K2))
  all_goals refine tc_seq fun K3 hK3 => ?_
  all_goals refine tc_seq fun K4 hK4 => ?_
  all_goals refine tc_region ?_
  all_goals refine tl_q (y_move rfl) rfl ?_
  all_goals refine tl_nil ?_
  all_goals (refine hK4 ?_; try (clear hK4; clear K4))
  all_goals (
   refine tc_cond rfl (fun hc => ?_) (fun hc => ?_)
   · try simp only [decide_eq_true_eq, decide_eq_false_iff_not, Int.not_lt, Int.not_le, Bool.not_eq_true', Bool.not_eq_false', Decidable.not_not, not_true_eq_false] at hc
     all_goals first | (exfalso; with_reducible exact bft hc) | (exfalso; with_reducible exact btf hc) | (exfalso; omega) | skip
     all_goals refine tc_seq fun K5 hK5 => ?_
     all_goals refine tc_region ?_
     all_goals (refine tl_q (y_loadW rfl (by repeat constructor) (by rfl)) rfl ?_)
     all_goals refine tl_e (e_storeW rfl rfl (by repeat constructor) (by rfl) (by rfl) (by simp [Value.oneCell'])) rfl (fun _ _ => ?_)
     all_goals refine tl_nil ?_
     all_goals (refine hK5 ?_; try (clear hK5; clear K5))
     all_goals refine tc_ret ?_
     all_goals (repeat (refine tk_then_ret ?_))
     all_goals first | refine tk_ret rfl rfl (.cons (.agg inferInstance rfl (by repeat constructor) (by rfl)) .nil) ?_ | refine tk_retM rfl (by repeat constructor) rfl (.cons (.agg inferInstance rfl (by repeat constructor) (by rfl)) .nil) ?_
     all_goals (
      refine fun w' hw' => ?_
      have hb2 := hw'.heap (bw, wkT t sl pl ll tl bm) (HM.mem (by repeat constructor))
      have hb1 := hw'.heap _ (HM.mem (b := bm) (by repeat constructor))
      first
      | exact ⟨(es, ck), rfl, Fr.but (hw'.fr (S := [bw, bm]) (by simp)) (by rw [hb2, hbw]), hc0, hb1⟩
      | (have hm : readT t.s k d = r := by unfold readT; rw [hsee, if_pos (by omega)]
         exact ⟨(es.push { key := kv k d, val := rV (readT t.s k d), born := ck }, ck + 1), by rw [hm]; rfl, Fr.but (hw'.fr (S := [bw, bm]) (by simp)) (by rw [hb2, hbw]), Cache.push hc0 k d ck, by rw [hm]; exact hb1⟩)
      | (have hm : readT t.s k d = (0, -1) := by unfold readT; rw [hsee, if_neg (by omega)]
         exact ⟨(es.push { key := kv k d, val := rV (readT t.s k d), born := ck }, ck + 1), by rw [hm]; rfl, Fr.but (hw'.fr (S := [bw, bm]) (by simp)) (by rw [hb2, hbw]), Cache.push hc0 k d ck, by rw [hm]; exact hb1⟩))
   · try simp only [decide_eq_true_eq, decide_eq_false_iff_not, Int.not_lt, Int.not_le, Bool.not_eq_true', Bool.not_eq_false', Decidable.not_not, not_true_eq_false] at hc
     all_goals first | (exfalso; with_reducible exact bft hc) | (exfalso; with_reducible exact btf hc) | (exfalso; omega) | skip
     all_goals refine tc_skip ?_
     all_goals (refine hK3 ?_; try (clear hK3; clear K3))
     all_goals refine tc_seq fun K6 hK6 => ?_
     all_goals refine tc_drawS ([(b3, .cells #[vi k, vi d] 123 (0, 0)), (bw, wkT t sl pl ll tl bm), (bm, .map es ck)]) (by kernel_rfl) ?_
     all_goals refine tx_p 0 rfl (by kernel_rfl) (y_move rfl) rfl (fun _ _ _ h => h) (fun _ h => h.subl (SB.s (by repeat constructor)) (SB.s (by repeat constructor))) ?_
     all_goals refine tx_p 1 rfl (by kernel_rfl) (y_nil rfl) rfl (fun _ _ _ h => h) (fun _ h => h.subl (SB.s (by repeat constructor)) (SB.s (by repeat constructor))) ?_
     all_goals refine tx_p 2 rfl (by kernel_rfl) (y_field rfl) rfl (fun _ _ _ h => h) (fun _ h => h.subl (SB.s (by repeat constructor)) (SB.s (by repeat constructor))) ?_
     all_goals refine tx_p 3 rfl (by kernel_rfl) (y_field rfl) rfl (fun _ _ _ h => h) (fun _ h => h.subl (SB.s (by repeat constructor)) (SB.s (by repeat constructor))) ?_
     all_goals (refine tx_qS 4 rfl (by kernel_rfl) (y_loadN rfl (by repeat constructor) (by (repeat (first | exact .nil | apply CA.cons rfl)); done)) rfl (fun _ _ _ h => h) (fun _ h => h.subl (SB.s (by repeat constructor)) (SB.s (by repeat constructor))) ?_)
     all_goals refine tx_p 5 rfl (by kernel_rfl) (y_field rfl) rfl (fun _ _ _ h => h) (fun _ h => h.subl (SB.s (by repeat constructor)) (SB.s (by repeat constructor))) ?_
     all_goals refine tx_qS 6 rfl (by kernel_rfl) (y_load1 rfl (by repeat constructor) (by rfl)) rfl (fun _ _ _ h => h) (fun _ h => h.subl (SB.s (by repeat constructor)) (SB.s (by repeat constructor))) ?_
     all_goals refine tx_p 7 rfl (by kernel_rfl) (y_field rfl) rfl (fun _ _ _ h => h) (fun _ h => h.subl (SB.s (by repeat constructor)) (SB.s (by repeat constructor))) ?_
     all_goals refine tx_qS 8 rfl (by kernel_rfl) (y_load1 rfl (by repeat constructor) (by rfl)) rfl (fun _ _ _ h => h) (fun _ h => h.subl (SB.s (by repeat constructor)) (SB.s (by repeat constructor))) ?_
     all_goals refine tx_single 9 (by kernel_rfl) (to_e rfl rfl (e_callV rfl (.cons rfl (.cons rfl (.cons rfl .nil))) (fun w' hw' => by have h := see_c t.s hn.ws k d _ w' (hrM w' (hw'.fr (by simp)) (hw'.heap _ (HM.mem (by repeat constructor)))); rw [hsee] at h; exact h)) (.inr ⟨fun _ _ h => h.subl (SB.s (by repeat constructor)) (SB.s (by repeat constructor)), fun _ h => h⟩) (fun _ _ => ?_))
     all_goals refine tx_p 10 rfl (by kernel_rfl) (y_move rfl) rfl (fun _ _ _ h => h) (fun _ h => h.subl (SB.s (by repeat constructor)) (SB.s (by repeat constructor))) ?_
     all_goals refine tx_p 11 rfl (by kernel_rfl) (y_extract rfl rfl) rfl (fun _ _ _ h => h) (fun _ h => h.subl (SB.s (by repeat constructor)) (SB.s (by repeat constructor))) ?_
     all_goals refine tx_p 12 rfl (by kernel_rfl) (y_extract rfl rfl) rfl (fun _ _ _ h => h) (fun _ h => h.subl (SB.s (by repeat constructor)) (SB.s (by repeat constructor))) ?_
     all_goals refine tx_single 13 (by kernel_rfl) (to_e (S' := HG [] []) rfl rfl (e_storeW rfl rfl (by repeat constructor) (by rfl) (by rfl) (by simp [Value.oneCell'])) (.inl (by kernel_rfl)) (fun _ _ => ?_))
     all_goals refine tx_p 14 rfl (by kernel_rfl) (y_assign rfl) rfl (fun _ _ _ h => h) (fun _ h => h.subl (SB.s (by repeat constructor)) (SB.s (by repeat constructor))) ?_
     all_goals refine tx_done (by kernel_rfl) ?_
     all_goals (refine hK6 ?_; try (clear hK6; clear K6))
     all_goals refine tc_seq fun K7 hK7 => ?_
     all_goals refine tc_seq fun K8 hK8 => ?_
     all_goals refine tc_region ?_
     all_goals refine tl_q (y_move rfl) rfl ?_
     all_goals refine tl_q (y_neq rfl rfl) rfl ?_
     all_goals refine tl_nil ?_
     all_goals (refine hK8 ?_; try (clear hK8; clear K8))
     all_goals (
      refine tc_cond rfl (fun hc => ?_) (fun hc => ?_)
      · try simp only [decide_eq_true_eq, decide_eq_false_iff_not, Int.not_lt, Int.not_le, Bool.not_eq_true', Bool.not_eq_false', Decidable.not_not, not_true_eq_false] at hc
        all_goals first | (exfalso; with_reducible exact bft hc) | (exfalso; with_reducible exact btf hc) | (exfalso; omega) | skip
        all_goals refine tc_region ?_
        all_goals refine tl_q (y_build_2 rfl rfl rfl rfl) rfl ?_
        all_goals refine tl_e (e_storeW rfl rfl (by repeat constructor) (by rfl) (by rfl) (by simp [Value.oneCell'])) rfl (fun _ _ => ?_)
        all_goals refine tl_nil ?_
        all_goals (refine hK7 ?_; try (clear hK7; clear K7))
        all_goals refine tc_seq fun K9 hK9 => ?_
        all_goals refine tc_draw (by kernel_rfl) ?_
        all_goals refine tx_p 0 rfl (by kernel_rfl) (y_move rfl) rfl (fun _ _ _ h => h) (fun _ h => h) ?_
        all_goals refine tx_p 1 rfl (by kernel_rfl) (y_nil rfl) rfl (fun _ _ _ h => h) (fun _ h => h) ?_
        all_goals refine tx_p 2 rfl (by kernel_rfl) (y_field rfl) rfl (fun _ _ _ h => h) (fun _ h => h) ?_
        all_goals refine tx_q 3 rfl (by kernel_rfl) (y_load1 rfl (by repeat constructor) (by rfl)) rfl (fun _ _ _ h => h) (fun _ h => h) ?_
        all_goals (refine tx_q 4 rfl (by kernel_rfl) (y_loadW rfl (by repeat constructor) (by rfl)) rfl (fun _ _ _ h => h) (fun _ h => h) ?_)
        all_goals (refine tx_q 5 rfl (by kernel_rfl) (y_loadW rfl (by repeat constructor) (by rfl)) rfl (fun _ _ _ h => h) (fun _ h => h) ?_)
        all_goals refine tx_e 6 rfl (by kernel_rfl) rfl (e_mapUpdate_new hh hc0 rfl rfl rfl (by repeat constructor)) (.inl (by kernel_rfl)) (fun _ _ => ?_)
        all_goals refine tx_done (by kernel_rfl) ?_
        all_goals (refine hK9 ?_; try (clear hK9; clear K9))
        all_goals refine tc_seq fun K10 hK10 => ?_
        all_goals refine tc_region ?_
        all_goals (refine tl_q (y_loadW rfl (by repeat constructor) (by rfl)) rfl ?_)
        all_goals refine tl_e (e_storeW rfl rfl (by repeat constructor) (by rfl) (by rfl) (by simp [Value.oneCell'])) rfl (fun _ _ => ?_)
        all_goals refine tl_nil ?_
        all_goals (refine hK10 ?_; try (clear hK10; clear K10))
        all_goals refine tc_ret ?_
        all_goals (repeat (first | refine tk_then_ret ?_))
        all_goals first | refine tk_ret rfl rfl (.cons (.agg inferInstance rfl (by repeat constructor) (by rfl)) .nil) ?_ | refine tk_retM rfl (by repeat constructor) rfl (.cons (.agg inferInstance rfl (by repeat constructor) (by rfl)) .nil) ?_
        all_goals (
         refine fun w' hw' => ?_
         have hb2 := hw'.heap (bw, wkT t sl pl ll tl bm) (HM.mem (by repeat constructor))
         have hb1 := hw'.heap _ (HM.mem (b := bm) (by repeat constructor))
         first
         | exact ⟨(es, ck), rfl, Fr.but (hw'.fr (S := [bw, bm]) (by simp)) (by rw [hb2, hbw]), hc0, hb1⟩
         | (have hm : readT t.s k d = r := by unfold readT; rw [hsee, if_pos (by omega)]
            exact ⟨(es.push { key := kv k d, val := rV (readT t.s k d), born := ck }, ck + 1), by rw [hm]; rfl, Fr.but (hw'.fr (S := [bw, bm]) (by simp)) (by rw [hb2, hbw]), Cache.push hc0 k d ck, by rw [hm]; exact hb1⟩)
         | (have hm : readT t.s k d = (0, -1) := by unfold readT; rw [hsee, if_neg (by omega)]
            exact ⟨(es.push { key := kv k d, val := rV (readT t.s k d), born := ck }, ck + 1), by rw [hm]; rfl, Fr.but (hw'.fr (S := [bw, bm]) (by simp)) (by rw [hb2, hbw]), Cache.push hc0 k d ck, by rw [hm]; exact hb1⟩))
      · try simp only [decide_eq_true_eq, decide_eq_false_iff_not, Int.not_lt, Int.not_le, Bool.not_eq_true', Bool.not_eq_false', Decidable.not_not, not_true_eq_false] at hc
        all_goals first | (exfalso; with_reducible exact bft hc) | (exfalso; with_reducible exact btf hc) | (exfalso; omega) | skip
        all_goals refine tc_skip ?_
        all_goals (refine hK7 ?_; try (clear hK7; clear K7))
        all_goals refine tc_seq fun K11 hK11 => ?_
        all_goals refine tc_draw (by kernel_rfl) ?_
        all_goals refine tx_p 0 rfl (by kernel_rfl) (y_move rfl) rfl (fun _ _ _ h => h) (fun _ h => h) ?_
        all_goals refine tx_p 1 rfl (by kernel_rfl) (y_nil rfl) rfl (fun _ _ _ h => h) (fun _ h => h) ?_
        all_goals refine tx_p 2 rfl (by kernel_rfl) (y_field rfl) rfl (fun _ _ _ h => h) (fun _ h => h) ?_
        all_goals refine tx_q 3 rfl (by kernel_rfl) (y_load1 rfl (by repeat constructor) (by rfl)) rfl (fun _ _ _ h => h) (fun _ h => h) ?_
        all_goals (refine tx_q 4 rfl (by kernel_rfl) (y_loadW rfl (by repeat constructor) (by rfl)) rfl (fun _ _ _ h => h) (fun _ h => h) ?_)
        all_goals (refine tx_q 5 rfl (by kernel_rfl) (y_loadW rfl (by repeat constructor) (by rfl)) rfl (fun _ _ _ h => h) (fun _ h => h) ?_)
        all_goals refine tx_e 6 rfl (by kernel_rfl) rfl (e_mapUpdate_new hh hc0 rfl rfl rfl (by repeat constructor)) (.inl (by kernel_rfl)) (fun _ _ => ?_)
        all_goals refine tx_done (by kernel_rfl) ?_
        all_goals (refine hK11 ?_; try (clear hK11; clear K11))
        all_goals refine tc_seq fun K12 hK12 => ?_
        all_goals refine tc_region ?_
        all_goals (refine tl_q (y_loadW rfl (by repeat constructor) (by rfl)) rfl ?_)
        all_goals refine tl_e (e_storeW rfl rfl (by repeat constructor) (by rfl) (by rfl) (by simp [Value.oneCell'])) rfl (fun _ _ => ?_)
        all_goals refine tl_nil ?_
        all_goals (refine hK12 ?_; try (clear hK12; clear K12))
        all_goals refine tc_ret ?_
        all_goals (repeat (first | refine tk_then_ret ?_))
        all_goals first | refine tk_ret rfl rfl (.cons (.agg inferInstance rfl (by repeat constructor) (by rfl)) .nil) ?_ | refine tk_retM rfl (by repeat constructor) rfl (.cons (.agg inferInstance rfl (by repeat constructor) (by rfl)) .nil) ?_
        all_goals (
         refine fun w' hw' => ?_
         have hb2 := hw'.heap (bw, wkT t sl pl ll tl bm) (HM.mem (by repeat constructor))
         have hb1 := hw'.heap _ (HM.mem (b := bm) (by repeat constructor))
         first
         | exact ⟨(es, ck), rfl, Fr.but (hw'.fr (S := [bw, bm]) (by simp)) (by rw [hb2, hbw]), hc0, hb1⟩
         | (have hm : readT t.s k d = r := by unfold readT; rw [hsee, if_pos (by omega)]
            exact ⟨(es.push { key := kv k d, val := rV (readT t.s k d), born := ck }, ck + 1), by rw [hm]; rfl, Fr.but (hw'.fr (S := [bw, bm]) (by simp)) (by rw [hb2, hbw]), Cache.push hc0 k d ck, by rw [hm]; exact hb1⟩)
         | (have hm : readT t.s k d = (0, -1) := by unfold readT; rw [hsee, if_neg (by omega)]
            exact ⟨(es.push { key := kv k d, val := rV (readT t.s k d), born := ck }, ck + 1), by rw [hm]; rfl, Fr.but (hw'.fr (S := [bw, bm]) (by simp)) (by rw [hb2, hbw]), Cache.push hc0 k d ck, by rw [hm]; exact hb1⟩))))
end Go.Sp
/-
  Narrow, Leave.
-/
namespace Go.Sp
open Go Go.Proofs
theorem RdI.nil (w : World) : RdI w (.slice none 0 0) [] := ⟨rfl, none, 0, rfl, fun h => absurd rfl h⟩
theorem Reads.frM {w w' : World} {v : Value} {sz n : Nat} {vs : List Value} {S : List Nat} (h : Reads w v sz n vs) (f : Fr S w w') (hS : ∀ x ∈ S, ∃ es ck, w.heap[x]? = some (.map es ck)) : Reads w' v sz n vs := by
  obtain ⟨h1, ad, cap, h2, h3⟩ := h
  refine ⟨h1, ad, cap, h2, fun hn => ?_⟩
  obtain ⟨b, o, h4, h5⟩ := h3 hn
  refine ⟨b, o, h4, ?_⟩
  clear h1 h2 h3 h4 hn
  generalize n * sz = q at h5
  induction h5 with
  | nil => exact .nil
  | @cons o n v vs hv _ ih =>
    refine .cons (f.cell (p := ⟨b, o, none⟩) (fun hb => ?_) hv) ih
    obtain ⟨es, ck, he⟩ := hS b hb
    simp [World.cell?, he] at hv
end Go.Sp
/-
  Package trial: the error of a division, and whether it can be shown.
-/
namespace Go.Sp
open Go Go.Proofs
/-- A valid trial. -/
structure VT (t : Tr) : Prop where
  s : VS t.s
  p1 : 1 ≤ t.parts.length
  p3 : t.parts.length ≤ 3
  p0 : t.parts.getD 0 0 = 0
  pq : allS (partQ t) (-1) t.parts = true
  w : 0 ≤ t.worst ∧ t.worst ≤ 3
  l1 : 1 ≤ t.liquids.length
  l3 : t.liquids.length ≤ 3
  lq : t.liquids.all lqB = true
  t6 : t.tests.length ≤ 6
  ts : t.tests.all (tsB t) = true
theorem chkT_0 {t : Tr} : chkT t = 0 ↔ VT t := by
  unfold chkT
  constructor
  · intro h
    split at h
    · omega
    · rename_i h1
      split at h
      · omega
      · rename_i h2
        split at h
        · rename_i h3
          obtain ⟨g1, g2, g3, g4, g5⟩ := h3
          unfold partB at g1
          rw [Bool.and_eq_true] at g1
          have g6 := of_decide_eq_true g1.1
          exact ⟨chkF_valid.1 (by omega), by omega, by omega, g6.2, g1.2, g2, by omega, by omega, g4, by omega, g5⟩
        · omega
  · intro h
    have h0 : chkF t.s = 0 := chkF_valid.2 h.s
    have h1 := h.p1
    have h2 := h.p3
    have h3 := h.l1
    have h4 := h.l3
    have h5 := h.t6
    rw [if_neg (by omega), if_neg (by omega), if_pos]
    refine ⟨?_, h.w, by omega, h.lq, h.ts⟩
    unfold partB
    rw [Bool.and_eq_true]
    exact ⟨decide_eq_true ⟨by omega, h.p0⟩, h.pq⟩
theorem VT.nt {t : Tr} (h : VT t) : NT t := by
  have h1 := h.s.n
  have h2 := h.p3
  have h4 := h.l3
  have h5 := h.t6
  exact ⟨by omega, by omega, by omega, by omega⟩
theorem RdTr.frM {w w' : World} {t : Tr} {sl pl ll tl : Value} {S : List Nat} (h : RdTr w t sl pl ll tl) (f : Fr S w w') (hS : ∀ x ∈ S, ∃ es ck, w.heap[x]? = some (.map es ck)) : RdTr w' t sl pl ll tl :=
  ⟨Reads.frM h.ws f hS, Reads.frM h.ps f hS, Reads.frM h.ls f hS, Reads.frM h.ts f hS⟩
/-- Errors: no other than those that can be. -/
def ErB (e : Int × Int × Int) : Prop := (-3 ≤ e.1 ∧ e.1 ≤ 3) ∧ (-3 ≤ e.2.1 ∧ e.2.1 ≤ 3) ∧ (-3 ≤ e.2.2 ∧ e.2.2 ≤ 3)
def get3 (e : Int × Int × Int) (i : Nat) : Int := if i = 0 then e.1 else if i = 1 then e.2.1 else e.2.2
theorem ErB.get {e : Int × Int × Int} (h : ErB e) (i : Nat) : -3 ≤ get3 e i ∧ get3 e i ≤ 3 := by
  unfold get3
  obtain ⟨h1, h2, h3⟩ := h
  split
  · exact h1
  · split
    · exact h2
    · exact h3
/-- The part in which a division is: the last one that doesn't begin behind it. -/
def ofFrom (ps : List Int) (d : Int) : Nat → Nat
  | 0 => 0
  | n + 1 => if d < ps.getD (n + 1) 0 then ofFrom ps d n else n + 1
def ofF (t : Tr) (e : Int × Int × Int) (d : Int) : Int := get3 e (ofFrom t.parts d (t.parts.length - 1))
theorem ofFrom_succ (ps : List Int) (d : Int) (n : Nat) : ofFrom ps d (n + 1) = if d < ps.getD (n + 1) 0 then ofFrom ps d n else n + 1 := rfl
theorem tk_blk {id : Nat} {Q : Exit → Act → World → Prop} {N : NN} {F : List (Nat × Value)} {bs : List (World × List Nat)} {H : List (Nat × Obj)} (h : TK (Q .normal) N F bs H) : TK (Exit.inBlock id Q .normal) N F bs H := h
theorem tof_c (t : Tr) (hv : VT t) (e : Int × Int × Int) (d : Int) (hd : 0 ≤ d) (sl pl ll tl : Value) (w : World) (hp : RdI w pl t.parts) : CnV Tryz.prog 79 #[trV t sl pl ll tl, tsV e, vi d] w (vi (ofF t e d)) := by
  have h1 := hv.p1
  have h2 := hv.p3
  have h3 := hv.p0
  obtain ⟨ad, cap, b0, o, rfl, had, hcell⟩ := hp.open
  refine cnv (vs := [_, _, _]) Tryz.func79 rfl rfl ?_
  all_goals refine tc_seq fun K1 hK1 => ?_
  all_goals refine tc_region ?_
  all_goals refine tl_e (e_box rfl rfl rfl) rfl (fun b3 _ => ?_)
  all_goals refine tl_e (e_box rfl rfl rfl) rfl (fun b4 _ => ?_)
  all_goals refine tl_q (y_assign rfl) rfl ?_
  all_goals refine tl_nil ?_
  all_goals (refine hK1 ?_; try (clear hK1; clear K1))
  all_goals refine tc_seq fun K2 hK2 => ?_
  all_goals refine tc_region ?_
  all_goals refine tl_q (y_field rfl) rfl ?_
  all_goals (refine tl_q (y_load1 rfl (by repeat constructor) (by rfl)) rfl ?_)
  all_goals refine tl_q (y_len rfl) rfl ?_
  all_goals refine tl_q (y_sub rfl rfl (by omega)) rfl ?_
  all_goals refine tl_q (y_assign rfl) rfl ?_
  all_goals refine tl_nil ?_
  all_goals (refine hK2 ?_; try (clear hK2; clear K2))
  all_goals refine tc_seq fun K3 hK3 => ?_
  all_goals refine tc_block ?_
  all_goals (
   refine tc_loop (fun i : Nat => i < t.parts.length ∧ ofFrom t.parts d i = ofFrom t.parts d (t.parts.length - 1)) (fun i => [(2, vi d), (3, ptr b3), (4, ptr b4), (7, vi i)]) (fun _ => [(w, [])]) (fun _ => [(b4, .cells (tsV e).cells 126 (0, 0)), (b3, .cells (trV t sl (.slice ad t.parts.length cap) ll tl).cells 38 (0, 0))]) (fun i => i) ?_ ?_
   · refine tk_start (t.parts.length - 1) ⟨by omega, rfl⟩ (.cons rfl (.cons rfl (.cons rfl (.cons ?_ .nil)))) (fun _ h => h)
     show some (vi _) = some (vi _); congr 2; omega
   · rintro i ⟨hi, hI⟩
     all_goals refine tc_seq fun K4 hK4 => ?_
     all_goals refine tc_seq fun K5 hK5 => ?_
     have had' := had (by omega)
     all_goals refine tc_region ?_
     all_goals refine tl_q (y_field rfl) rfl ?_
     all_goals (refine tl_q (y_load1 rfl (by repeat constructor) (by rfl)) rfl ?_)
     all_goals refine tl_q (y_move rfl) rfl ?_
     all_goals (refine tl_q (y_index rfl rfl (by omega) had') rfl ?_)
     all_goals (refine tl_q (y_load1o (v := vi (t.parts.getD i 0)) rfl (fun w' hw' => by rw [show Int.toNat (i : Int) * 1 = i from by omega]; exact hcell w' (hw'.fr (by simp)) i (by omega))) rfl ?_)
     all_goals refine tl_q (y_move rfl) rfl ?_
     all_goals refine tl_q (y_gtr rfl rfl) rfl ?_
     all_goals refine tl_nil ?_
     all_goals (refine hK5 ?_; try (clear hK5; clear K5))
     all_goals (
      refine tc_cond rfl (fun hc => ?_) (fun hc => ?_)
      · try simp only [decide_eq_true_eq, decide_eq_false_iff_not, Int.not_lt, Int.not_le, Bool.not_eq_true', Bool.not_eq_false', Decidable.not_not, not_true_eq_false] at hc
        all_goals first | (exfalso; with_reducible exact bft hc) | (exfalso; with_reducible exact btf hc) | (exfalso; omega) | skip
        all_goals refine tc_skip ?_
        all_goals (refine hK4 ?_; try (clear hK4; clear K4))
        all_goals refine tc_block ?_
        all_goals refine tc_region ?_
        all_goals refine tl_q (y_move rfl) rfl ?_
        all_goals refine tl_q (y_sub rfl rfl (by omega)) rfl ?_
        all_goals refine tl_q (y_assign rfl) rfl ?_
        all_goals refine tl_nil ?_
        all_goals (
         obtain ⟨j, rfl⟩ : ∃ j, i = j + 1 := ⟨i - 1, by by_cases h : i = 0; (subst h; omega); omega⟩
         have hlt : d < t.parts.getD (j + 1) 0 := by omega
         have hj : ofFrom t.parts d j = ofFrom t.parts d (t.parts.length - 1) := by rw [← hI, ofFrom_succ, if_pos hlt]
         refine tk_blk (tk_round j ⟨by omega, hj⟩ (by omega) (.cons rfl (.cons rfl (.cons rfl (.cons ?_ .nil)))) (fun _ h => h))
         show some (vi _) = some (vi _); congr 2; omega)
      · try simp only [decide_eq_true_eq, decide_eq_false_iff_not, Int.not_lt, Int.not_le, Bool.not_eq_true', Bool.not_eq_false', Decidable.not_not, not_true_eq_false] at hc
        all_goals first | (exfalso; with_reducible exact bft hc) | (exfalso; with_reducible exact btf hc) | (exfalso; omega) | skip
        all_goals refine tc_exit ?_
        all_goals (refine hK3 ?_; try (clear hK3; clear K3))
        all_goals refine tc_seq fun K6 hK6 => ?_
        all_goals (have hfin : ofFrom t.parts d i = i := by rcases i with _ | i; rfl; rw [ofFrom_succ, if_neg (by omega)])
        all_goals (have hof : ofF t e d = get3 e i := by unfold ofF; rw [← hI, hfin])
        all_goals (rcases (by omega : i = 0 ∨ i = 1 ∨ i = 2) with rfl | rfl | rfl)
        all_goals refine tc_region ?_
        all_goals refine tl_q (y_move rfl) rfl ?_
        all_goals (refine tl_q (y_indexA rfl rfl (by omega)) rfl ?_)
        all_goals (refine tl_q (y_load1 rfl (by repeat constructor) (by rfl)) rfl ?_)
        all_goals refine tl_q (y_assign rfl) rfl ?_
        all_goals refine tl_nil ?_
        all_goals (refine hK6 ?_; try (clear hK6; clear K6))
        all_goals refine tc_ret ?_
        all_goals (repeat (first | refine tk_then_ret ?_))
        all_goals first | refine tk_ret rfl rfl (.cons (.tmp rfl) .nil) ?_ | refine tk_retM rfl (by repeat constructor) rfl (.cons (.tmp rfl) .nil) ?_
        all_goals (
         exact fun w' hw' => ⟨by rw [hof]; rfl, hw'.fr (by simp)⟩)))
end Go.Sp
/-
  Package trial: what can be shown, and whether a test is right.
-/
namespace Go.Sp
open Go Go.Proofs
def canF (t : Tr) (e : Int × Int × Int) (k d x : Int) : Bool := decide ((readT t.s k d).1 ≤ x - ofF t e x ∧ x - ofF t e x ≤ (readT t.s k d).2)
/-- What is known of a trial at work. -/
structure TW (w : World) (t : Tr) (sl pl ll tl : Value) (bw bm : Nat) (es : Array MapEntry) (ck : Nat) : Prop where
  rd : RdTr w t sl pl ll tl
  hw : w.heap[bw]? = some (wkT t sl pl ll tl bm)
  hm : w.heap[bm]? = some (.map es ck)
  hc : Cache (readV t.s) es.toList
  o1 : sl.oneCell' = true
  o2 : pl.oneCell' = true
  o3 : ll.oneCell' = true
  o4 : tl.oneCell' = true
theorem TW.ne {w : World} {t : Tr} {sl pl ll tl : Value} {bw bm : Nat} {es : Array MapEntry} {ck : Nat} (h : TW w t sl pl ll tl bw bm es ck) : bw ≠ bm := by
  rintro rfl
  have h1 := h.hw
  rw [h.hm] at h1; simp at h1
/-- Later, when only the map has turned. -/
theorem TW.fr {w w' : World} {t : Tr} {sl pl ll tl : Value} {bw bm : Nat} {es es' : Array MapEntry} {ck ck' : Nat} (h : TW w t sl pl ll tl bw bm es ck) (f : Fr [bm] w w') (hm : w'.heap[bm]? = some (.map es' ck')) (hc : Cache (readV t.s) es'.toList) : TW w' t sl pl ll tl bw bm es' ck' :=
  ⟨h.rd.frM f (fun x hx => by obtain rfl := List.mem_singleton.1 hx; exact ⟨es, ck, h.hm⟩), f.keepS (by simpa using h.ne) h.hw, hm, hc, h.o1, h.o2, h.o3, h.o4⟩
theorem TW.fr2 {w w' : World} {t : Tr} {sl pl ll tl : Value} {bw bm : Nat} {es es' : Array MapEntry} {ck ck' : Nat} (h : TW w t sl pl ll tl bw bm es ck) (f : Fr [bw, bm] w w') (hw : w'.heap[bw]? = some (wkT t sl pl ll tl bm)) (hm : w'.heap[bm]? = some (.map es' ck')) (hc : Cache (readV t.s) es'.toList) : TW w' t sl pl ll tl bw bm es' ck' :=
  h.fr (Fr.but f (by rw [hw, h.hw])) hm hc
theorem can_c (t : Tr) (hv : VT t) (e : Int × Int × Int) (he : ErB e) (k d x : Int) (hx0 : 0 ≤ x) (hx1 : x ≤ 100) (sl pl ll tl : Value) (w : World) (bw bm : Nat) (es : Array MapEntry) (ck : Nat) (hT : TW w t sl pl ll tl bw bm es ck) :
    CnX Tryz.prog 119 #[ptr bw, tsV e, .agg #[vi k, vi d], vi x] w [bm] (fun _ : Array MapEntry × Nat => .bool (canF t e k d x)) (fun y w' => Cache (readV t.s) y.1.toList ∧ w'.heap[bm]? = some (.map y.1 y.2)) := by
  have hof := ErB.get he (ofFrom t.parts x (t.parts.length - 1))
  have hne := hT.ne
  refine cnxS (vs := [_, _, _, _]) (S := [bw, bm]) [(bw, wkT t sl pl ll tl bm), (bm, .map es ck)] Tryz.func119 rfl rfl ⟨by simp [hT.hw, hT.hm], by simp [hne], by simp⟩ ?_
  all_goals refine tc_seq fun K1 hK1 => ?_
  all_goals refine tc_region ?_
  all_goals refine tl_e (e_box rfl rfl rfl) rfl (fun b5 _ => ?_)
  all_goals refine tl_e (e_box rfl rfl rfl) rfl (fun b6 _ => ?_)
  all_goals refine tl_q (y_assign rfl) rfl ?_
  all_goals refine tl_nil ?_
  all_goals (refine hK1 ?_; try (clear hK1; clear K1))
  all_goals refine tc_seq fun K2 hK2 => ?_
  all_goals refine tc_region ?_
  all_goals refine tl_q (y_move rfl) rfl ?_
  all_goals (refine tl_q (y_loadW rfl (by repeat constructor) (by rfl)) rfl ?_)
  all_goals refine tl_e (e_callU rfl (.cons rfl (.cons rfl .nil)) (fun w' hw' => tread_c t hv.nt k d sl pl ll tl w' (hT.fr2 (hw'.fr (by simp)) (hw'.heap _ (HM.mem (by repeat constructor))) (hw'.heap _ (HM.mem (b := bm) (by repeat constructor))) hT.hc).rd.ws bw bm es ck (hw'.heap _ (HM.mem (by repeat constructor))) (hw'.heap _ (HM.mem (by repeat constructor))) hT.hc) (fun _ => (by repeat constructor))) rfl (fun y hy => ?_)
  all_goals refine tl_e (e_allocN rfl) rfl (fun b9 _ => ?_)
  all_goals refine tl_e (e_storeW rfl rfl (by repeat constructor) (by rfl) (by rfl) (by simp [Value.oneCell'])) rfl (fun _ _ => ?_)
  all_goals refine tl_nil ?_
  all_goals (refine hK2 ?_; try (clear hK2; clear K2))
  all_goals refine tc_seq fun K3 hK3 => ?_
  all_goals (have hof' : -3 ≤ ofF t e x ∧ ofF t e x ≤ 3 := hof)
  all_goals refine tc_draw (by kernel_rfl) ?_
  all_goals refine tx_p 0 rfl (by kernel_rfl) (y_move rfl) rfl (fun _ _ _ h => h) (fun _ h => h) ?_
  all_goals refine tx_p 1 rfl (by kernel_rfl) (y_move rfl) rfl (fun _ _ _ h => h) (fun _ h => h) ?_
  all_goals refine tx_p 2 rfl (by kernel_rfl) (y_nil rfl) rfl (fun _ _ _ h => h) (fun _ h => h) ?_
  all_goals refine tx_p 3 rfl (by kernel_rfl) (y_field rfl) rfl (fun _ _ _ h => h) (fun _ h => h) ?_
  all_goals (refine tx_q 4 rfl (by kernel_rfl) (y_loadN rfl (by repeat constructor) (by (repeat (first | exact .nil | apply CA.cons rfl)); done)) rfl (fun _ _ _ h => h) (fun _ h => h) ?_)
  all_goals (refine tx_q 5 rfl (by kernel_rfl) (y_loadW rfl (by repeat constructor) (by rfl)) rfl (fun _ _ _ h => h) (fun _ h => h) ?_)
  all_goals refine tx_p 6 rfl (by kernel_rfl) (y_move rfl) rfl (fun _ _ _ h => h) (fun _ h => h) ?_
  all_goals refine tx_p 9 rfl (by kernel_rfl) (y_field rfl) rfl (fun _ _ _ h => h) (fun _ h => h) ?_
  all_goals refine tx_q 10 rfl (by kernel_rfl) (y_load1 rfl (by repeat constructor) (by rfl)) rfl (fun _ _ _ h => h) (fun _ h => h) ?_
  all_goals refine tx_p 11 rfl (by kernel_rfl) (y_field rfl) rfl (fun _ _ _ h => h) (fun _ h => h) ?_
  all_goals refine tx_q 12 rfl (by kernel_rfl) (y_load1 rfl (by repeat constructor) (by rfl)) rfl (fun _ _ _ h => h) (fun _ h => h) ?_
  all_goals refine tx_e 7 rfl (by kernel_rfl) rfl (e_callV rfl (.cons rfl (.cons rfl (.cons rfl .nil))) (fun w' hw' => tof_c t hv e x hx0 _ _ _ _ w' (hT.fr2 (hw'.fr (by simp)) (hw'.heap _ (HM.mem (by repeat constructor))) (hw'.heap _ (HM.mem (b := bm) (by repeat constructor))) hy).rd.ps)) (.inr fun _ _ h => h) (fun _ _ => ?_)
  all_goals refine tx_p 8 rfl (by kernel_rfl) (y_sub rfl rfl (by omega)) rfl (fun _ _ _ h => h) (fun _ h => h) ?_
  all_goals refine tx_e 13 rfl (by kernel_rfl) rfl (e_callV rfl (.cons rfl (.cons rfl (.cons rfl .nil))) (fun w' _ => twithin_c _ _ _ w')) (.inr fun _ _ h => h) (fun _ _ => ?_)
  all_goals refine tx_p 14 rfl (by kernel_rfl) (y_assign rfl) rfl (fun _ _ _ h => h) (fun _ h => h) ?_
  all_goals refine tx_done (by kernel_rfl) ?_
  all_goals (refine hK3 ?_; try (clear hK3; clear K3))
  all_goals refine tc_ret ?_
  all_goals (repeat (first | refine tk_then_ret ?_))
  all_goals first | refine tk_ret rfl rfl (.cons (.tmp rfl) .nil) ?_ | refine tk_retM rfl (by repeat constructor) rfl (.cons (.tmp rfl) .nil) ?_
  all_goals (
   exact fun w' hw' => ⟨y, rfl, Fr.but (hw'.fr (S := [bw, bm]) (by simp)) (by rw [hw'.heap (bw, wkT t sl pl ll tl bm) (HM.mem (by repeat constructor)), hT.hw]), hy, hw'.heap _ (HM.mem (b := bm) (by repeat constructor))⟩)
end Go.Sp
/-
  The loads, Verdicts.
-/
namespace Go.Sp
open Go Go.Proofs
theorem KnS.mem {H : List (Nat × Obj)} {S : List Nat} {w1 : World} (h : KnS H S w1 w1) : ∀ p ∈ H, p.1 ∈ S := fun p hp =>
  (h.own p.1 (List.mem_map.2 ⟨p, hp, rfl⟩)).resolve_right (fun hh => by
    have := h.kn p hp
    rw [Array.getElem?_eq_none hh] at this; cases this)
/-- The slice out of a loop that appends: none yet, or a block of its own. -/
abbrev OutS := Nat × Option (Nat × Nat × List Value)
def outV' : OutS → Value
  | (_, none) => .slice none 0 0
  | (n, some (b, cap, _)) => .slice (some ⟨b, 0, none⟩) n cap
def outOk : OutS → Prop
  | (n, none) => n = 0
  | (n, some (_, cap, junk)) => n ≤ cap ∧ junk.length = cap - n
theorem HG.sw {bs : List (World × List Nat)} {p q : Nat × Obj} {H : List (Nat × Obj)} {w : World} (h : HG bs (p :: q :: H) w) : HG bs (q :: p :: H) w := h.perm (List.Perm.swap _ _ _)
end Go.Sp
/-
  What a load leaves of a range; Best.
-/
namespace Go.Sp
open Go Go.Proofs
end Go.Sp
/-
  Which densities loads cover; Cover, ProveCover.
-/
namespace Go.Sp
open Go Go.Proofs
end Go.Sp
/-
  The reference: what a reading fits, all densities.
-/
namespace Go.Sp
open Go Go.Proofs
theorem in_c (n lo hi : Int) (w : World) : CnV Tryz.prog 23 #[vi n, vi lo, vi hi] w (.bool (decide (lo ≤ n ∧ n ≤ hi))) := by
  refine cnv (vs := [_, _, _]) Tryz.func23 rfl rfl ?_
  all_goals refine tc_seq fun K1 hK1 => ?_
  all_goals refine tc_region ?_
  all_goals refine tl_q (y_assign rfl) rfl ?_
  all_goals refine tl_nil ?_
  all_goals (refine hK1 ?_; try (clear hK1; clear K1))
  all_goals refine tc_seq fun K2 hK2 => ?_
  all_goals refine tc_region ?_
  all_goals refine tl_q (y_move rfl) rfl ?_
  all_goals refine tl_q (y_move rfl) rfl ?_
  all_goals refine tl_q (y_geq rfl rfl) rfl ?_
  all_goals refine tl_q (y_move rfl) rfl ?_
  all_goals (refine tl_gs rfl rfl (fun hc => ?_) (fun hc => ?_) <;> (skip) <;> (first | refine tl_sk rfl rfl rfl rfl ?_ | refine tl_qg rfl rfl (y_move rfl) rfl ?_))
  all_goals (first | refine tl_sk rfl rfl rfl rfl ?_ | refine tl_qg rfl rfl (y_move rfl) rfl ?_)
  all_goals (first | refine tl_sk rfl rfl rfl rfl ?_ | refine tl_qg rfl rfl (y_leq rfl rfl) rfl ?_)
  all_goals (first | refine tl_q (y_pick_t rfl rfl) rfl ?_ | refine tl_q (y_pick_f rfl rfl) rfl ?_)
  all_goals refine tl_q (y_assign rfl) rfl ?_
  all_goals refine tl_nil ?_
  all_goals (refine hK2 ?_; try (clear hK2; clear K2))
  all_goals refine tc_ret ?_
  all_goals (repeat (first | refine tk_then_ret ?_))
  all_goals first | refine tk_ret rfl rfl (.cons (.tmp rfl) .nil) ?_ | refine tk_retM rfl (by repeat constructor) rfl (.cons (.tmp rfl) .nil) ?_
  all_goals (
   refine fun w' hw' => ⟨?_, hw'.fr (by simp)⟩; simp only [outV, decide_eq_true_eq, decide_eq_false_iff_not] at *; simp [hc])
/-- The weights so far are right. -/
def okN (s : Sn) (n : Nat) : Prop := ∀ i : Nat, i < n → 1 ≤ s.weights.getD i 0 ∧ s.weights.getD i 0 ≤ 1000
theorem okW_of {s : Sn} (h : okN s s.weights.length) : okW s = true := List.all_eq_true.2 fun x hx => by
  obtain ⟨i, hi, rfl⟩ := List.getElem_of_mem hx
  have := h i hi
  rw [List.getD_eq_getElem?_getD, List.getElem?_eq_getElem hi] at this
  exact decide_eq_true this
theorem okW_not {s : Sn} {i : Nat} (hi : i < s.weights.length) (h : ¬ (1 ≤ s.weights.getD i 0 ∧ s.weights.getD i 0 ≤ 1000)) : okW s = false := by
  cases hb : okW s
  · rfl
  · exfalso
    have := of_decide_eq_true (List.all_eq_true.1 hb _ (List.getElem_mem hi))
    rw [List.getD_eq_getElem?_getD, List.getElem?_eq_getElem hi] at h
    exact h this
theorem fault_c (s : Sn) (hn : NB s) (sl : Value) (w : World) (hr : RdI w sl s.weights) : CnV Tryz.prog 107 #[spV s sl] w (vi (chkF s)) := by
  unfold NB at hn
  obtain ⟨ad, cap, b0, o, rfl, had, hcell⟩ := hr.open
  refine cnv (vs := [_]) Tryz.func107 rfl rfl ?_
  all_goals refine tc_seq fun K1 hK1 => ?_
  all_goals refine tc_region ?_
  all_goals refine tl_e (e_box rfl rfl rfl) rfl (fun b1 _ => ?_)
  all_goals refine tl_q (y_assign rfl) rfl ?_
  all_goals refine tl_nil ?_
  all_goals (refine hK1 ?_; try (clear hK1; clear K1))
  all_goals refine tc_seq fun K2 hK2 => ?_
  all_goals refine tc_seq fun K3 hK3 => ?_
  all_goals refine tc_region ?_
  all_goals refine tl_q (y_field rfl) rfl ?_
  all_goals (refine tl_q (y_load1 rfl (by repeat constructor) (by rfl)) rfl ?_)
  all_goals refine tl_q (y_len rfl) rfl ?_
  all_goals refine tl_q (y_gtr rfl rfl) rfl ?_
  all_goals refine tl_nil ?_
  all_goals (refine hK3 ?_; try (clear hK3; clear K3))
  all_goals (
   refine tc_cond rfl (fun hc => ?_) (fun hc => ?_)
   · try simp only [decide_eq_true_eq, decide_eq_false_iff_not, Int.not_lt, Int.not_le, Bool.not_eq_true', Bool.not_eq_false', Decidable.not_not, not_true_eq_false] at hc
     all_goals first | (exfalso; with_reducible exact bft hc) | (exfalso; with_reducible exact btf hc) | (exfalso; omega) | skip
     all_goals refine tc_seq fun K4 hK4 => ?_
     all_goals refine tc_region ?_
     all_goals refine tl_q (y_assign rfl) rfl ?_
     all_goals refine tl_nil ?_
     all_goals (refine hK4 ?_; try (clear hK4; clear K4))
     all_goals refine tc_ret ?_
     all_goals (repeat (refine tk_then_ret ?_))
     all_goals first | refine tk_ret rfl rfl (.cons (.tmp rfl) .nil) ?_ | refine tk_retM rfl (by repeat constructor) rfl (.cons (.tmp rfl) .nil) ?_
     all_goals (
      refine fun w' hw' => ⟨congrArg (fun n => Ending.returned (vi n)) ?_, hw'.fr (by simp)⟩
      first
      | exact (chk3 (by omega)).symm
      | exact (chk1 (by omega) (fun h => by have h1 := h.1; have h2 := h.2.1; have h3 := h.2.2.1; have h4 := h.2.2.2.1; have h5 := h.2.2.2.2.1; have h6 := h.2.2.2.2.2.1; omega)).symm
      | exact (chk1 (by omega) (fun h => absurd h.2.2.2.2.2.2 (by rw [okW_not (i := n) (by omega) (by omega)]; exact Bool.false_ne_true))).symm
      | exact (chk0 (by omega) ⟨hO.1, hO.2.1, hO.2.2.1, hO.2.2.2.1, hO.2.2.2.2.1, hO.2.2.2.2.2, okW_of (by rw [show s.weights.length = n from by omega]; exact hI)⟩).symm)
   · try simp only [decide_eq_true_eq, decide_eq_false_iff_not, Int.not_lt, Int.not_le, Bool.not_eq_true', Bool.not_eq_false', Decidable.not_not, not_true_eq_false] at hc
     all_goals first | (exfalso; with_reducible exact bft hc) | (exfalso; with_reducible exact btf hc) | (exfalso; omega) | skip
     all_goals refine tc_skip ?_
     all_goals (refine hK2 ?_; try (clear hK2; clear K2))
     all_goals refine tc_seq fun K5 hK5 => ?_
     all_goals refine tc_seq fun K6 hK6 => ?_
     all_goals refine tc_region ?_
     all_goals refine tl_q (y_field rfl) rfl ?_
     all_goals (refine tl_q (y_load1 rfl (by repeat constructor) (by rfl)) rfl ?_)
     all_goals refine tl_e (e_callV rfl (.cons rfl (.cons rfl (.cons rfl .nil))) (fun w' _ => in_c _ _ _ w')) rfl (fun _ _ => ?_)
     all_goals (refine tl_q (y_not_dec rfl) rfl ?_)
     all_goals refine tl_q (y_move rfl) rfl ?_
     all_goals (refine tl_gs rfl rfl (fun hc => ?_) (fun hc => ?_) <;> (try simp only [decide_eq_true_eq, decide_eq_false_iff_not, Int.not_lt, Int.not_le, Bool.not_eq_true', Bool.not_eq_false', Decidable.not_not, not_true_eq_false] at hc) <;> (first | refine tl_sk rfl rfl rfl rfl ?_ | refine tl_qg rfl rfl (y_field rfl) rfl ?_))
     all_goals (first | refine tl_sk rfl rfl rfl rfl ?_ | refine tl_qg rfl rfl (y_load1 rfl (by repeat constructor) (by rfl)) rfl ?_)
     all_goals (first | refine tl_sk rfl rfl rfl rfl ?_ | refine tl_eg rfl rfl rfl (e_callV rfl (.cons rfl (.cons rfl (.cons rfl .nil))) (fun w' _ => in_c _ _ _ w')) (fun _ _ => ?_))
     all_goals (first | refine tl_sk rfl rfl rfl rfl ?_ | refine tl_qg rfl rfl (y_not_dec rfl) rfl ?_)
     all_goals (first | refine tl_q (y_pick_t rfl rfl) rfl ?_ | refine tl_q (y_pick_f rfl rfl) rfl ?_)
     all_goals refine tl_q (y_move rfl) rfl ?_
     all_goals (first | refine tl_sk rfl rfl rfl rfl ?_ | (refine tl_gs rfl rfl (fun hc => ?_) (fun hc => ?_) <;> (try simp only [decide_eq_true_eq, decide_eq_false_iff_not, Int.not_lt, Int.not_le, Bool.not_eq_true', Bool.not_eq_false', Decidable.not_not, not_true_eq_false] at hc) <;> (first | refine tl_sk rfl rfl rfl rfl ?_ | refine tl_qg rfl rfl (y_field rfl) rfl ?_)))
     all_goals (first | refine tl_sk rfl rfl rfl rfl ?_ | refine tl_qg rfl rfl (y_load1 rfl (by repeat constructor) (by rfl)) rfl ?_)
     all_goals (first | refine tl_sk rfl rfl rfl rfl ?_ | refine tl_eg rfl rfl rfl (e_callV rfl (.cons rfl (.cons rfl (.cons rfl .nil))) (fun w' _ => in_c _ _ _ w')) (fun _ _ => ?_))
     all_goals (first | refine tl_sk rfl rfl rfl rfl ?_ | refine tl_qg rfl rfl (y_not_dec rfl) rfl ?_)
     all_goals (first | refine tl_q (y_pick_t rfl rfl) rfl ?_ | refine tl_q (y_pick_f rfl rfl) rfl ?_)
     all_goals refine tl_q (y_move rfl) rfl ?_
     all_goals (first | refine tl_sk rfl rfl rfl rfl ?_ | (refine tl_gs rfl rfl (fun hc => ?_) (fun hc => ?_) <;> (try simp only [decide_eq_true_eq, decide_eq_false_iff_not, Int.not_lt, Int.not_le, Bool.not_eq_true', Bool.not_eq_false', Decidable.not_not, not_true_eq_false] at hc) <;> (first | refine tl_sk rfl rfl rfl rfl ?_ | refine tl_qg rfl rfl (y_field rfl) rfl ?_)))
     all_goals (first | refine tl_sk rfl rfl rfl rfl ?_ | refine tl_qg rfl rfl (y_load1 rfl (by repeat constructor) (by rfl)) rfl ?_)
     all_goals (first | refine tl_sk rfl rfl rfl rfl ?_ | refine tl_eg rfl rfl rfl (e_callV rfl (.cons rfl (.cons rfl (.cons rfl .nil))) (fun w' _ => in_c _ _ _ w')) (fun _ _ => ?_))
     all_goals (first | refine tl_sk rfl rfl rfl rfl ?_ | refine tl_qg rfl rfl (y_not_dec rfl) rfl ?_)
     all_goals (first | refine tl_q (y_pick_t rfl rfl) rfl ?_ | refine tl_q (y_pick_f rfl rfl) rfl ?_)
     all_goals refine tl_q (y_move rfl) rfl ?_
     all_goals (first | refine tl_sk rfl rfl rfl rfl ?_ | (refine tl_gs rfl rfl (fun hc => ?_) (fun hc => ?_) <;> (try simp only [decide_eq_true_eq, decide_eq_false_iff_not, Int.not_lt, Int.not_le, Bool.not_eq_true', Bool.not_eq_false', Decidable.not_not, not_true_eq_false] at hc) <;> (first | refine tl_sk rfl rfl rfl rfl ?_ | refine tl_qg rfl rfl (y_field rfl) rfl ?_)))
     all_goals (first | refine tl_sk rfl rfl rfl rfl ?_ | refine tl_qg rfl rfl (y_load1 rfl (by repeat constructor) (by rfl)) rfl ?_)
     all_goals (first | refine tl_sk rfl rfl rfl rfl ?_ | refine tl_qg rfl rfl (y_field rfl) rfl ?_)
     all_goals (first | refine tl_sk rfl rfl rfl rfl ?_ | refine tl_qg rfl rfl (y_load1 rfl (by repeat constructor) (by rfl)) rfl ?_)
     all_goals (first | refine tl_sk rfl rfl rfl rfl ?_ | refine tl_eg rfl rfl rfl (e_callV rfl (.cons rfl (.cons rfl (.cons rfl .nil))) (fun w' _ => in_c _ _ _ w')) (fun _ _ => ?_))
     all_goals (first | refine tl_sk rfl rfl rfl rfl ?_ | refine tl_qg rfl rfl (y_not_dec rfl) rfl ?_)
     all_goals (first | refine tl_q (y_pick_t rfl rfl) rfl ?_ | refine tl_q (y_pick_f rfl rfl) rfl ?_)
     all_goals refine tl_q (y_move rfl) rfl ?_
     all_goals (first | refine tl_sk rfl rfl rfl rfl ?_ | (refine tl_gs rfl rfl (fun hc => ?_) (fun hc => ?_) <;> (try simp only [decide_eq_true_eq, decide_eq_false_iff_not, Int.not_lt, Int.not_le, Bool.not_eq_true', Bool.not_eq_false', Decidable.not_not, not_true_eq_false] at hc) <;> (first | refine tl_sk rfl rfl rfl rfl ?_ | refine tl_qg rfl rfl (y_field rfl) rfl ?_)))
     all_goals (first | refine tl_sk rfl rfl rfl rfl ?_ | refine tl_qg rfl rfl (y_load1 rfl (by repeat constructor) (by rfl)) rfl ?_)
     all_goals (first | refine tl_sk rfl rfl rfl rfl ?_ | refine tl_qg rfl rfl (y_mul rfl rfl (by omega)) rfl ?_)
     all_goals (first | refine tl_sk rfl rfl rfl rfl ?_ | refine tl_qg rfl rfl (y_field rfl) rfl ?_)
     all_goals (first | refine tl_sk rfl rfl rfl rfl ?_ | refine tl_qg rfl rfl (y_load1 rfl (by repeat constructor) (by rfl)) rfl ?_)
     all_goals (first | refine tl_sk rfl rfl rfl rfl ?_ | refine tl_qg rfl rfl (y_lss rfl rfl) rfl ?_)
     all_goals (first | refine tl_q (y_pick_t rfl rfl) rfl ?_ | refine tl_q (y_pick_f rfl rfl) rfl ?_)
     all_goals refine tl_nil ?_
     all_goals (refine hK6 ?_; try (clear hK6; clear K6))
     all_goals (
      refine tc_cond rfl (fun hc => ?_) (fun hc => ?_)
      · try simp only [decide_eq_true_eq, decide_eq_false_iff_not, Int.not_lt, Int.not_le, Bool.not_eq_true', Bool.not_eq_false', Decidable.not_not, not_true_eq_false] at hc
        all_goals first | (exfalso; with_reducible exact bft hc) | (exfalso; with_reducible exact btf hc) | (exfalso; omega) | skip
        all_goals refine tc_seq fun K7 hK7 => ?_
        all_goals refine tc_region ?_
        all_goals refine tl_q (y_assign rfl) rfl ?_
        all_goals refine tl_nil ?_
        all_goals (refine hK7 ?_; try (clear hK7; clear K7))
        all_goals refine tc_ret ?_
        all_goals (repeat (refine tk_then_ret ?_))
        all_goals first | refine tk_ret rfl rfl (.cons (.tmp rfl) .nil) ?_ | refine tk_retM rfl (by repeat constructor) rfl (.cons (.tmp rfl) .nil) ?_
        all_goals (
         refine fun w' hw' => ⟨congrArg (fun n => Ending.returned (vi n)) ?_, hw'.fr (by simp)⟩
         first
         | exact (chk3 (by omega)).symm
         | exact (chk1 (by omega) (fun h => by have h1 := h.1; have h2 := h.2.1; have h3 := h.2.2.1; have h4 := h.2.2.2.1; have h5 := h.2.2.2.2.1; have h6 := h.2.2.2.2.2.1; omega)).symm
         | exact (chk1 (by omega) (fun h => absurd h.2.2.2.2.2.2 (by rw [okW_not (i := n) (by omega) (by omega)]; exact Bool.false_ne_true))).symm
         | exact (chk0 (by omega) ⟨hO.1, hO.2.1, hO.2.2.1, hO.2.2.2.1, hO.2.2.2.2.1, hO.2.2.2.2.2, okW_of (by rw [show s.weights.length = n from by omega]; exact hI)⟩).symm)
      · try simp only [decide_eq_true_eq, decide_eq_false_iff_not, Int.not_lt, Int.not_le, Bool.not_eq_true', Bool.not_eq_false', Decidable.not_not, not_true_eq_false] at hc
        all_goals first | (exfalso; with_reducible exact bft hc) | (exfalso; with_reducible exact btf hc) | (exfalso; omega) | skip
        all_goals refine tc_skip ?_
        all_goals (refine hK5 ?_; try (clear hK5; clear K5))
        all_goals refine tc_seq fun K8 hK8 => ?_
        all_goals refine tc_seq fun K9 hK9 => ?_
        all_goals (have hO : (1 ≤ s.mass ∧ s.mass ≤ 5000) ∧ (1 ≤ s.volume ∧ s.volume ≤ 5000) ∧ (1 ≤ s.step ∧ s.step ≤ 100) ∧ (1 ≤ s.divisions ∧ s.divisions ≤ 20) ∧ (1 ≤ s.width ∧ s.width ≤ s.step) ∧ s.step ≤ 2 * s.width := by omega)
        all_goals refine tc_region ?_
        all_goals refine tl_q (y_assign rfl) rfl ?_
        all_goals refine tl_nil ?_
        all_goals (refine hK9 ?_; try (clear hK9; clear K9))
        all_goals refine tc_block ?_
        all_goals (
         refine tc_loop (fun n : Nat => n ≤ s.weights.length ∧ okN s n) (fun n => [(1, ptr b1), (3, vi n)]) (fun _ => [(w, [])]) (fun _ => [(b1, .cells (spV s (.slice ad s.weights.length cap)).cells 24 (0, 0))]) (fun n => s.weights.length - n) ?_ ?_
         · exact tk_start 0 ⟨Nat.zero_le _, fun i hi => absurd hi (Nat.not_lt_zero i)⟩ (.cons rfl (.cons rfl .nil)) (fun _ h => h.sub (fun _ h => h) (SB.s (by repeat constructor)))
         · rintro n ⟨hn, hI⟩
           all_goals refine tc_seq fun K10 hK10 => ?_
           all_goals refine tc_seq fun K11 hK11 => ?_
           all_goals refine tc_region ?_
           all_goals refine tl_q (y_move rfl) rfl ?_
           all_goals refine tl_q (y_field rfl) rfl ?_
           all_goals (refine tl_q (y_load1 rfl (by repeat constructor) (by rfl)) rfl ?_)
           all_goals refine tl_q (y_len rfl) rfl ?_
           all_goals refine tl_q (y_lss rfl rfl) rfl ?_
           all_goals refine tl_nil ?_
           all_goals (refine hK11 ?_; try (clear hK11; clear K11))
           all_goals (
            refine tc_cond rfl (fun hc => ?_) (fun hc => ?_)
            · try simp only [decide_eq_true_eq, decide_eq_false_iff_not, Int.not_lt, Int.not_le, Bool.not_eq_true', Bool.not_eq_false', Decidable.not_not, not_true_eq_false] at hc
              all_goals first | (exfalso; with_reducible exact bft hc) | (exfalso; with_reducible exact btf hc) | (exfalso; omega) | skip
              all_goals refine tc_skip ?_
              all_goals (refine hK10 ?_; try (clear hK10; clear K10))
              all_goals refine tc_seq fun K12 hK12 => ?_
              all_goals refine tc_block ?_
              all_goals refine tc_seq fun K13 hK13 => ?_
              have had' := had (by omega)
              all_goals refine tc_region ?_
              all_goals refine tl_q (y_field rfl) rfl ?_
              all_goals (refine tl_q (y_load1 rfl (by repeat constructor) (by rfl)) rfl ?_)
              all_goals refine tl_q (y_move rfl) rfl ?_
              all_goals (refine tl_q (y_index rfl rfl (by omega) had') rfl ?_)
              all_goals (refine tl_q (y_load1o (v := vi (s.weights.getD n 0)) rfl (fun w' hw' => by rw [show Int.toNat (n : Int) * 1 = n from by omega]; exact hcell w' (hw'.fr (by simp)) n (by omega))) rfl ?_)
              all_goals refine tl_e (e_callV rfl (.cons rfl (.cons rfl (.cons rfl .nil))) (fun w' _ => in_c _ _ _ w')) rfl (fun _ _ => ?_)
              all_goals (refine tl_q (y_not_dec rfl) rfl ?_)
              all_goals refine tl_nil ?_
              all_goals (refine hK13 ?_; try (clear hK13; clear K13))
              all_goals (
               refine tc_cond rfl (fun hc => ?_) (fun hc => ?_)
               · try simp only [decide_eq_true_eq, decide_eq_false_iff_not, Int.not_lt, Int.not_le, Bool.not_eq_true', Bool.not_eq_false', Decidable.not_not, not_true_eq_false] at hc
                 all_goals first | (exfalso; with_reducible exact bft hc) | (exfalso; with_reducible exact btf hc) | (exfalso; omega) | skip
                 all_goals refine tc_seq fun K14 hK14 => ?_
                 all_goals refine tc_region ?_
                 all_goals refine tl_q (y_assign rfl) rfl ?_
                 all_goals refine tl_nil ?_
                 all_goals (refine hK14 ?_; try (clear hK14; clear K14))
                 all_goals refine tc_ret ?_
                 all_goals (repeat (first | refine tk_then_ret ?_ | refine tk_block_ret ?_))
                 all_goals first | refine tk_ret rfl rfl (.cons (.tmp rfl) .nil) ?_ | refine tk_retM rfl (by repeat constructor) rfl (.cons (.tmp rfl) .nil) ?_
                 all_goals (
                  refine fun w' hw' => ⟨congrArg (fun n => Ending.returned (vi n)) ?_, hw'.fr (by simp)⟩
                  first
                  | exact (chk3 (by omega)).symm
                  | exact (chk1 (by omega) (fun h => by have h1 := h.1; have h2 := h.2.1; have h3 := h.2.2.1; have h4 := h.2.2.2.1; have h5 := h.2.2.2.2.1; have h6 := h.2.2.2.2.2.1; omega)).symm
                  | exact (chk1 (by omega) (fun h => absurd h.2.2.2.2.2.2 (by rw [okW_not (i := n) (by omega) (by omega)]; exact Bool.false_ne_true))).symm
                  | exact (chk0 (by omega) ⟨hO.1, hO.2.1, hO.2.2.1, hO.2.2.2.1, hO.2.2.2.2.1, hO.2.2.2.2.2, okW_of (by rw [show s.weights.length = n from by omega]; exact hI)⟩).symm)
               · try simp only [decide_eq_true_eq, decide_eq_false_iff_not, Int.not_lt, Int.not_le, Bool.not_eq_true', Bool.not_eq_false', Decidable.not_not, not_true_eq_false] at hc
                 all_goals first | (exfalso; with_reducible exact bft hc) | (exfalso; with_reducible exact btf hc) | (exfalso; omega) | skip
                 all_goals refine tc_skip ?_
                 all_goals (refine hK12 ?_; try (clear hK12; clear K12))
                 all_goals refine tc_region ?_
                 all_goals refine tl_q (y_move rfl) rfl ?_
                 all_goals refine tl_q (y_add rfl rfl (by omega)) rfl ?_
                 all_goals refine tl_q (y_assign rfl) rfl ?_
                 all_goals refine tl_nil ?_
                 all_goals (
                  exact tk_round (n + 1) ⟨by omega, fun i hi => by
                    rcases Nat.lt_succ_iff_lt_or_eq.1 hi with h | rfl
                    · exact hI i h
                    · omega⟩ (by omega) (.cons rfl (.cons rfl .nil)) (fun _ h => h)))
            · try simp only [decide_eq_true_eq, decide_eq_false_iff_not, Int.not_lt, Int.not_le, Bool.not_eq_true', Bool.not_eq_false', Decidable.not_not, not_true_eq_false] at hc
              all_goals first | (exfalso; with_reducible exact bft hc) | (exfalso; with_reducible exact btf hc) | (exfalso; omega) | skip
              all_goals refine tc_exit ?_
              all_goals (refine hK8 ?_; try (clear hK8; clear K8))
              all_goals refine tc_seq fun K15 hK15 => ?_
              all_goals refine tc_region ?_
              all_goals refine tl_q (y_assign rfl) rfl ?_
              all_goals refine tl_nil ?_
              all_goals (refine hK15 ?_; try (clear hK15; clear K15))
              all_goals refine tc_ret ?_
              all_goals (repeat (first | refine tk_then_ret ?_))
              all_goals first | refine tk_ret rfl rfl (.cons (.tmp rfl) .nil) ?_ | refine tk_retM rfl (by repeat constructor) rfl (.cons (.tmp rfl) .nil) ?_
              all_goals (
               refine fun w' hw' => ⟨congrArg (fun n => Ending.returned (vi n)) ?_, hw'.fr (by simp)⟩
               first
               | exact (chk3 (by omega)).symm
               | exact (chk1 (by omega) (fun h => by have h1 := h.1; have h2 := h.2.1; have h3 := h.2.2.1; have h4 := h.2.2.2.1; have h5 := h.2.2.2.2.1; have h6 := h.2.2.2.2.2.1; omega)).symm
               | exact (chk1 (by omega) (fun h => absurd h.2.2.2.2.2.2 (by rw [okW_not (i := n) (by omega) (by omega)]; exact Bool.false_ne_true))).symm
               | exact (chk0 (by omega) ⟨hO.1, hO.2.1, hO.2.2.1, hO.2.2.2.1, hO.2.2.2.2.1, hO.2.2.2.2.2, okW_of (by rw [show s.weights.length = n from by omega]; exact hI)⟩).symm)))))
/-- What the reference says of floating. -/
def rFlo (s : Sn) (k d : Int) : Int := if 1000 * massF s k < d * s.volume then -2 else if d * (s.volume + s.divisions * s.step) < 1000 * massF s k then -1 else 0
def rFit (s : Sn) (r : Int × Int) (d : Int) : Bool :=
  if r.2 < 0 ∨ rFlo s r.1 d < 0 then decide (rFlo s r.1 d = r.2) else decide (d * (s.volume + r.2 * s.step - s.width) ≤ 1000 * massF s r.1 ∧ 1000 * massF s r.1 ≤ d * (s.volume + r.2 * s.step + s.width))
end Go.Sp
/-
  The reference: all densities, verdicts, covers, what a load leaves.
-/
namespace Go.Sp
open Go Go.Proofs
def denseF (r : Int × Int) : Bool := decide (1 ≤ r.1 ∧ r.1 ≤ r.2 ∧ r.2 ≤ 2000)
theorem dense_c (r : Int × Int) (w : World) : CnV Tryz.prog 108 #[rV r] w (.bool (denseF r)) := by
  refine cnv (vs := [_]) Tryz.func108 rfl rfl ?_
  all_goals refine tc_seq fun K1 hK1 => ?_
  all_goals refine tc_region ?_
  all_goals refine tl_e (e_box rfl rfl rfl) rfl (fun _ _ => ?_)
  all_goals refine tl_q (y_assign rfl) rfl ?_
  all_goals refine tl_nil ?_
  all_goals (refine hK1 ?_; try (clear hK1; clear K1))
  all_goals refine tc_seq fun K2 hK2 => ?_
  all_goals refine tc_region ?_
  all_goals refine tl_q (y_field rfl) rfl ?_
  all_goals refine tl_q (y_load1 rfl (by repeat constructor) (by rfl)) rfl ?_
  all_goals refine tl_q (y_geq rfl rfl) rfl ?_
  all_goals refine tl_q (y_move rfl) rfl ?_
  all_goals (refine tl_gs rfl rfl (fun hc => ?_) (fun hc => ?_) <;> (try simp only [decide_eq_true_eq, decide_eq_false_iff_not, Int.not_lt, Int.not_le] at hc) <;> (first | refine tl_sk rfl rfl rfl rfl ?_ | refine tl_qg rfl rfl (y_field rfl) rfl ?_))
  all_goals (first | refine tl_sk rfl rfl rfl rfl ?_ | refine tl_qg rfl rfl (y_load1 rfl (by repeat constructor) (by rfl)) rfl ?_)
  all_goals (first | refine tl_sk rfl rfl rfl rfl ?_ | refine tl_qg rfl rfl (y_field rfl) rfl ?_)
  all_goals (first | refine tl_sk rfl rfl rfl rfl ?_ | refine tl_qg rfl rfl (y_load1 rfl (by repeat constructor) (by rfl)) rfl ?_)
  all_goals (first | refine tl_sk rfl rfl rfl rfl ?_ | refine tl_qg rfl rfl (y_leq rfl rfl) rfl ?_)
  all_goals (first | refine tl_q (y_pick_t rfl rfl) rfl ?_ | refine tl_q (y_pick_f rfl rfl) rfl ?_)
  all_goals refine tl_q (y_move rfl) rfl ?_
  all_goals (first | refine tl_sk rfl rfl rfl rfl ?_ | (refine tl_gs rfl rfl (fun hc => ?_) (fun hc => ?_) <;> (try simp only [decide_eq_true_eq, decide_eq_false_iff_not, Int.not_lt, Int.not_le] at hc) <;> (first | refine tl_sk rfl rfl rfl rfl ?_ | refine tl_qg rfl rfl (y_field rfl) rfl ?_)))
  all_goals (first | refine tl_sk rfl rfl rfl rfl ?_ | refine tl_qg rfl rfl (y_load1 rfl (by repeat constructor) (by rfl)) rfl ?_)
  all_goals (first | refine tl_sk rfl rfl rfl rfl ?_ | refine tl_qg rfl rfl (y_leq rfl rfl) rfl ?_)
  all_goals (first | refine tl_q (y_pick_t rfl rfl) rfl ?_ | refine tl_q (y_pick_f rfl rfl) rfl ?_)
  all_goals refine tl_q (y_assign rfl) rfl ?_
  all_goals refine tl_nil ?_
  all_goals (refine hK2 ?_; try (clear hK2; clear K2))
  all_goals refine tc_ret ?_
  all_goals (repeat (first | refine tk_then_ret ?_))
  all_goals first | refine tk_ret rfl rfl (.cons (.tmp rfl) .nil) ?_ | refine tk_retM rfl (by repeat constructor) rfl (.cons (.tmp rfl) .nil) ?_
  all_goals (
   refine fun w' hw' => ⟨congrArg (fun n => Ending.returned (Value.bool n)) ?_, hw'.fr (by simp)⟩
   unfold denseF
   first
   | (simp only [decide_eq_decide]; omega)
   | (symm; exact decide_eq_false (by omega)))
end Go.Sp
/-
  The reference: verdicts, covers, what a load leaves, lists.
-/
namespace Go.Sp
open Go Go.Proofs
end Go.Sp
/-
  The reference: lists by bits, which is less; the smallest set, the fewest loads.
-/
namespace Go.Sp
open Go Go.Proofs
/-- The first difference decides. -/
def lexLt : List Int → List Int → Bool
  | [], _ => false
  | _, [] => false
  | x :: xs, y :: ys => if x = y then lexLt xs ys else decide (x < y)
def lessF (a b : List Int) : Bool := if a.length = b.length then lexLt a b else decide (a.length < b.length)
def bitB (b : Int) (i : Nat) : Bool := decide (b / 2 ^ i % 2 = 1)
def bitsN (b : Int) (n : Nat) : List Int := ((List.range n).filter (bitB b)).map fun (i : Nat) => (i : Int)
def bitsL (b : Int) : List Int := bitsN b 16
theorem bitsL_mem {n m : Nat} (h : n < 2 ^ m) {x : Int} (hx : x ∈ bitsL n) : 0 ≤ x ∧ x < m := by
  unfold bitsL bitsN at hx
  obtain ⟨i, hi, rfl⟩ := List.mem_map.1 hx
  have hb := of_decide_eq_true (List.mem_filter.1 hi).2
  refine ⟨by omega, ?_⟩
  rcases Nat.lt_or_ge i m with h1 | h1
  · omega
  · exfalso
    have h2 : (2 : Nat) ^ m ≤ 2 ^ i := Nat.pow_le_pow_right (by decide) h1
    have h3 : (n : Int) / 2 ^ i = 0 := by
      rw [show ((2 : Int) ^ i) = ((2 ^ i : Nat) : Int) from by simp]
      exact Int.ediv_eq_zero_of_lt (by omega) (by omega)
    rw [h3] at hb
    exact absurd hb (by decide)
end Go.Sp
/-
  What the statements are made of: conversions, errors, lists.
-/
namespace Go.Sp
open Go Go.Proofs
abbrev slV (n : Nat) (x : Option Addr × Nat) : Value := .slice x.1 n x.2
/-- The slice's array is newer than w. -/
def NewS (w : World) (v : Value) : Prop := ∀ p m c, v = .slice (some p) m c → w.heap.size ≤ p.block
theorem NewS.nil (w : World) (n c : Nat) : NewS w (.slice none n c) := fun p m c h => by cases h
theorem NewS.own {bs : List (World × List Nat)} {H : List (Nat × Obj)} {w w' : World} {b o n c : Nat} {ob : Obj} (hw : HG bs H w') (hm : HM b ob H) (hb : (w, []) ∈ bs) : NewS w (.slice (some ⟨b, o, none⟩) n c) := fun p m c h => by
  cases h
  exact (hw.own _ hm.mem (w, []) hb).resolve_left (by simp)
theorem CnX.sep {P : Program} {f : FuncId} {args : Array Value} {w : World} {S : List Nat} {α : Type} {val : α → Value} {q : α → World → Prop} {v : α → Value} {bs : List (World × List Nat)} {H : List (Nat × Obj)}
    (h : CnX P f args w S val (fun x w' => q x w' ∧ NewS w (v x))) (hw : HG bs H w) : CnX P f args w S val (fun x w' => q x w' ∧ sepS (v x) (H.map Prod.fst)) :=
  CnX.of (h.out.mono fun e w' he => by
    obtain ⟨x, he, hf, hq, hn⟩ := he
    refine ⟨x, he, hf, hq, fun p m c e hb => ?_⟩
    obtain ⟨a, ha, e2⟩ := List.mem_map.1 hb
    have h1 := hw.lt ha
    have h2 := hn p m c e
    omega)
theorem thin_c (s : Sn) (sl : Value) (w : World) (hr : RdI w sl s.weights) : CnV Tryz.prog 62 #[spV s sl] w (.bool (decide ((s.weights.length : Int) ≤ 9))) := by
  obtain ⟨ad, cap, b0, o, rfl, had, hcell⟩ := hr.open
  refine cnv (vs := [_]) Tryz.func62 rfl rfl ?_
  all_goals refine tc_seq fun K1 hK1 => ?_
  all_goals refine tc_region ?_
  all_goals refine tl_e (e_box rfl rfl rfl) rfl (fun _ _ => ?_)
  all_goals refine tl_q (y_assign rfl) rfl ?_
  all_goals refine tl_nil ?_
  all_goals (refine hK1 ?_; try (clear hK1; clear K1))
  all_goals refine tc_seq fun K2 hK2 => ?_
  all_goals refine tc_region ?_
  all_goals refine tl_q (y_field rfl) rfl ?_
  all_goals refine tl_q (y_load1 rfl (by repeat constructor) (by rfl)) rfl ?_
  all_goals refine tl_q (y_len rfl) rfl ?_
  all_goals refine tl_q (y_leq rfl rfl) rfl ?_
  all_goals refine tl_q (y_assign rfl) rfl ?_
  all_goals refine tl_nil ?_
  all_goals (refine hK2 ?_; try (clear hK2; clear K2))
  all_goals refine tc_ret ?_
  all_goals (repeat (first | refine tk_then_ret ?_))
  all_goals first | refine tk_ret rfl rfl (.cons (.tmp rfl) .nil) ?_ | refine tk_retM rfl (by repeat constructor) rfl (.cons (.tmp rfl) .nil) ?_
  all_goals (
   exact fun w' hw' => ⟨rfl, hw'.fr (by simp)⟩)
theorem list_c (xs : List Int) (hx : xs.length ≤ 1000) (sl : Value) (w : World) (hr : RdI w sl xs) : CnX Tryz.prog 106 #[sl] w [] (slV xs.length) (fun x w' => RdI w' (slV xs.length x) xs ∧ NewS w (slV xs.length x)) := by
  have hr0 := hr
  obtain ⟨ad, cap, b0, o, rfl, had, hcell⟩ := hr.open
  rcases Nat.eq_zero_or_pos xs.length with h0 | h0
  all_goals refine cnx0 (vs := [_]) Tryz.func106 rfl rfl ?_
  all_goals refine tc_seq fun K1 hK1 => ?_
  all_goals refine tc_region ?_
  all_goals refine tl_q (y_assign rfl) rfl ?_
  all_goals refine tl_nil ?_
  all_goals (refine hK1 ?_; try (clear hK1; clear K1))
  all_goals refine tc_seq fun K2 hK2 => ?_
  all_goals refine tc_region ?_
  all_goals refine tl_q (y_move rfl) rfl ?_
  all_goals (first | refine tl_e (e_append_nil rfl rfl rfl (fun w' hw' => hr0.fr (hw'.fr (by simp))) (fun u hu => by obtain ⟨_, _, rfl⟩ := List.mem_map.1 hu; rfl) h0 (by omega) rfl) rfl (fun y hy => ?_) | refine tl_e (e_append_nil0 (ad := ad) (cap := cap) rfl rfl (by show some (Value.slice ad xs.length cap) = some (Value.slice ad 0 cap); rw [h0])) rfl (fun y hy => ?_))
  all_goals refine tl_q (y_assign rfl) rfl ?_
  all_goals refine tl_nil ?_
  all_goals (refine hK2 ?_; try (clear hK2; clear K2))
  all_goals refine tc_ret ?_
  all_goals (repeat (first | refine tk_then_ret ?_))
  all_goals first | refine tk_ret rfl rfl (.cons (.tmp rfl) .nil) ?_ | refine tk_retM rfl (by repeat constructor) rfl (.cons (.tmp rfl) .nil) ?_
  all_goals (
   first
   | exact fun w' hw' => ⟨(some ⟨y.1, 0, none⟩, y.2.1), rfl, hw'.fr (by simp), RdI.own (xs := xs) (junk := y.2.2) hw' (by repeat constructor), NewS.own hw' (b := y.1) (by repeat constructor) (by simp)⟩
   | exact fun w' hw' => ⟨(none, 0), by unfold slV; rw [h0]; rfl, hw'.fr (by simp), by unfold slV; rw [h0, List.eq_nil_of_length_eq_zero h0]; exact RdI.nil _, NewS.nil _ _ _⟩)
end Go.Sp
/-
  Package trial: all that can be shown, and whether a test is right.
-/
namespace Go.Sp
open Go Go.Proofs
/-- A call that turns a block that is known, and returns something of which more is known. -/
theorem e_callUX {P : Program} {N : NN} {F : List (Nat × Value)} {bs : List (World × List Nat)} {H : List (Nat × Obj)} {d : Tmp} {ty : TypeId} {pos : String} {after : Array Edge} {g : Option (Nat × Bool)} {f : FuncId} [GoFn P f] {xs : List Operand} {tys : Array TypeId} {vs : List Value} {α : Type} {val : α → Value} {p : α → World → Prop} {b : Nat} {o : Obj} {ob : α → Obj} {H' : α → List (Nat × Obj)}
    (hd : Nat.blt d N.n = true) (hxs : EA F xs vs) (hc : ∀ w, HG bs H w → CnX P f vs.toArray w [b] val (fun x w' => p x w' ∧ w'.heap[b]? = some (ob x))) (hu : ∀ x, HU b o (ob x) H (H' x)) :
    OpE P ⟨some d, .call ⟨.value (.func f), xs.toArray, tys⟩, ty, pos, after, g⟩ N F bs H (fun y : α × World => p y.1 y.2 ∧ HG bs (H' y.1) y.2) (fun y => (d, val y.1) :: F) (fun y => (y.2, (H' y.1).map Prod.fst) :: bs) (fun y => H' y.1) := by
  unfold OpE
  intro a w ht hw K Q hK
  unfold Oper.wp
  rw [exec_call (x := .func f) rfl hxs ht w]
  simp only [Oper.upon]
  simp only [Array.empty_append, Array.append_empty]
  have hcc := hc w hw
  unfold CnX at hcc
  refine hcc.mono fun e w' he => ?_
  obtain ⟨x, rfl, hf, hp, h1⟩ := he
  have hg := hw.callU hf h1 (hu x)
  exact hK (x, w') _ _ ⟨hp, hg⟩ (ht.put hd _) hg.push
def shownN (t : Tr) (e : Int × Int × Int) (k d : Int) (n : Nat) : List Int := ((List.range n).filter fun (x : Nat) => canF t e k d x).map fun (x : Nat) => (x : Int)
theorem shownN_succ (t : Tr) (e : Int × Int × Int) (k d : Int) (n : Nat) : shownN t e k d (n + 1) = if canF t e k d n = true then shownN t e k d n ++ [(n : Int)] else shownN t e k d n := by
  unfold shownN
  rw [List.range_succ, List.filter_append, List.map_append]
  cases h : canF t e k d n <;> simp [h]
theorem shownN_len (t : Tr) (e : Int × Int × Int) (k d : Int) (n : Nat) : (shownN t e k d n).length ≤ n := by
  unfold shownN
  rw [List.length_map]
  exact Nat.le_trans (List.length_filter_le _ _) (by simp)
def shownL (t : Tr) (e : Int × Int × Int) (k d : Int) : List Int := if (shownN t e k d (t.s.divisions + 1).toNat).length = 0 then [-1] else shownN t e k d (t.s.divisions + 1).toNat
theorem shownL_pos (t : Tr) (e : Int × Int × Int) (k d : Int) : 0 < (shownL t e k d).length := by
  unfold shownL
  split
  · simp
  · omega
theorem shown_c (t : Tr) (hv : VT t) (e : Int × Int × Int) (he : ErB e) (k d : Int) (sl pl ll tl : Value) (w : World) (bw bm : Nat) (es : Array MapEntry) (ck : Nat) (hT : TW w t sl pl ll tl bw bm es ck) :
    CnX Tryz.prog 67 #[ptr bw, tsV e, .agg #[vi k, vi d]] w [bm] (fun y : (Option Addr × Nat) × Array MapEntry × Nat => slV (shownL t e k d).length y.1) (fun y w' => (RdI w' (slV (shownL t e k d).length y.1) (shownL t e k d) ∧ Cache (readV t.s) y.2.1.toList) ∧ w'.heap[bm]? = some (.map y.2.1 y.2.2)) := by
  have hne := hT.ne
  have hd1 := hv.s.d1
  have hd2 := hv.s.d2
  refine cnxS (vs := [_, _, _]) (S := [bw, bm]) [(bw, wkT t sl pl ll tl bm), (bm, .map es ck)] Tryz.func67 rfl rfl ⟨by simp [hT.hw, hT.hm], by simp [hne], by simp⟩ ?_
  all_goals refine tc_seq fun K1 hK1 => ?_
  all_goals refine tc_region ?_
  all_goals refine tl_e (e_box rfl rfl rfl) rfl (fun b4 _ => ?_)
  all_goals refine tl_e (e_box rfl rfl rfl) rfl (fun b5 _ => ?_)
  all_goals refine tl_q (y_assign rfl) rfl ?_
  all_goals refine tl_nil ?_
  all_goals (refine hK1 ?_; try (clear hK1; clear K1))
  all_goals refine tc_seq fun K2 hK2 => ?_
  all_goals refine tc_seq fun K3 hK3 => ?_
  all_goals refine tc_region ?_
  all_goals refine tl_q (y_move rfl) rfl ?_
  all_goals refine tl_q (y_nil rfl) rfl ?_
  all_goals refine tl_q (y_field rfl) rfl ?_
  all_goals refine tl_q (y_field rfl) rfl ?_
  all_goals refine tl_q (y_field rfl) rfl ?_
  all_goals refine tl_q (y_load1 rfl (by repeat constructor) (by rfl)) rfl ?_
  all_goals refine tl_q (y_add rfl rfl (by omega)) rfl ?_
  all_goals refine tl_q (y_move rfl) rfl ?_
  all_goals refine tl_nil ?_
  all_goals (refine hK3 ?_; try (clear hK3; clear K3))
  all_goals refine tc_block ?_
  all_goals (
   refine tc_loop (fun p : Nat × Option (Nat × Nat × List Value) × Array MapEntry × Nat => p.1 ≤ (t.s.divisions + 1).toNat ∧ outOk ((shownN t e k d p.1).length, p.2.1) ∧ Cache (readV t.s) p.2.2.1.toList ∧ (p.2.1.isSome = true → 0 < (shownN t e k d p.1).length)) (fun p => [(0, ptr bw), (4, ptr b4), (5, ptr b5), (6, outV' ((shownN t e k d p.1).length, p.2.1)), (14, vi (t.s.divisions + 1)), (15, vi p.1)]) (fun _ => [(w, [bw, bm])]) (fun p => match p.2.1 with | none => [(b5, .cells #[vi k, vi d] 123 (0, 0)), (b4, .cells (tsV e).cells 126 (0, 0)), (bw, wkT t sl pl ll tl bm), (bm, .map p.2.2.1 p.2.2.2)] | some (b0, cap, junk) => [(b0, .cells ((shownN t e k d p.1).map vi ++ junk).toArray 3 (0, 0)), (b5, .cells #[vi k, vi d] 123 (0, 0)), (b4, .cells (tsV e).cells 126 (0, 0)), (bw, wkT t sl pl ll tl bm), (bm, .map p.2.2.1 p.2.2.2)]) (fun p => (t.s.divisions + 1).toNat - p.1) ?_ ?_
   · exact tk_start (0, none, es, ck) ⟨Nat.zero_le _, rfl, hT.hc, fun h => Bool.noConfusion h⟩ (.cons rfl (.cons rfl (.cons rfl (.cons rfl (.cons rfl (.cons rfl .nil)))))) (fun _ h => h.subl (SB.s (by repeat constructor)) (SB.s (by repeat constructor)))
   · rintro ⟨n, oo, es', ck'⟩ ⟨hn, hok, hca, hps⟩
     have hlen := shownN_len t e k d n
     rcases oo with _ | ⟨b0, cap, junk⟩
     all_goals (dsimp only [outOk] at hn hok hca hps ⊢; dsimp only [outV'])
     all_goals refine tc_seq fun K4 hK4 => ?_
     all_goals refine tc_region ?_
     all_goals refine tl_q (y_lss rfl rfl) rfl ?_
     all_goals refine tl_nil ?_
     all_goals (refine hK4 ?_; try (clear hK4; clear K4))
     all_goals refine tc_seq fun K5 hK5 => ?_
     all_goals (
      refine tc_cond rfl (fun hc => ?_) (fun hc => ?_)
      · try simp only [decide_eq_true_eq, decide_eq_false_iff_not, Int.not_lt, Int.not_le, Bool.not_eq_true', Bool.not_eq_false', Decidable.not_not, not_true_eq_false] at hc
        all_goals first | (exfalso; with_reducible exact bft hc) | (exfalso; with_reducible exact btf hc) | (exfalso; omega) | (exfalso; simp at hc; done) | skip
        all_goals refine tc_skip ?_
        all_goals (refine hK5 ?_; try (clear hK5; clear K5))
        all_goals refine tc_seq fun K6 hK6 => ?_
        all_goals refine tc_block ?_
        all_goals refine tc_seq fun K7 hK7 => ?_
        all_goals refine tc_region ?_
        all_goals refine tl_q (y_move rfl) rfl ?_
        all_goals refine tl_q (y_assign rfl) rfl ?_
        all_goals refine tl_nil ?_
        all_goals (refine hK7 ?_; try (clear hK7; clear K7))
        all_goals refine tc_seq fun K8 hK8 => ?_
        all_goals refine tc_region ?_
        all_goals refine tl_q (y_move rfl) rfl ?_
        all_goals (refine tl_q (y_loadW rfl (by repeat constructor) (by rfl)) rfl ?_)
        all_goals (refine tl_q (y_loadW rfl (by repeat constructor) (by rfl)) rfl ?_)
        all_goals refine tl_q (y_move rfl) rfl ?_
        all_goals refine tl_e (e_callU rfl (.cons rfl (.cons rfl (.cons rfl (.cons rfl .nil)))) (fun w' hw' => can_c t hv e he k d (n : Nat) (by omega) (by omega) sl pl ll tl w' bw bm es' ck' (hT.fr2 (hw'.fr (MI.m (by repeat constructor))) (hw'.heap _ (HM.mem (by repeat constructor))) (hw'.heap _ (HM.mem (b := bm) (by repeat constructor))) hca)) (fun _ => (by repeat constructor))) rfl (fun z hz => ?_)
        all_goals refine tl_nil ?_
        all_goals (refine hK8 ?_; try (clear hK8; clear K8))
        all_goals (
         refine tc_cond rfl (fun hc => ?_) (fun hc => ?_)
         · try simp only [decide_eq_true_eq, decide_eq_false_iff_not, Int.not_lt, Int.not_le, Bool.not_eq_true', Bool.not_eq_false', Decidable.not_not, not_true_eq_false] at hc
           all_goals first | (exfalso; with_reducible exact bft hc) | (exfalso; with_reducible exact btf hc) | (exfalso; omega) | (exfalso; simp at hc; done) | skip
           all_goals refine tc_region ?_
           all_goals refine tl_q (y_move rfl) rfl ?_
           all_goals refine tl_q (y_move rfl) rfl ?_
           all_goals refine tl_e (e_bslice rfl (by (repeat (first | exact .nil | apply PV.one rfl rfl)); done) rfl rfl) rfl (fun _ _ => ?_)
           all_goals (first | refine tl_e (e_append_own (old := (shownN t e k d n).map vi) (junk := junk) rfl rfl rfl (by repeat constructor) (by simp) (by omega) hok.1 (fun w' hw' => RdI.own0 (xs := [(n : Int)]) hw' (by repeat constructor)) (fun u hu => by obtain ⟨_, _, rfl⟩ := List.mem_map.1 hu; rfl) (by simp only [List.length_cons, List.length_nil]; omega) rfl) rfl (fun y hy => ?_) | refine tl_e (e_append_nil rfl rfl rfl (fun w' hw' => RdI.own0 (xs := [(n : Int)]) hw' (by repeat constructor)) (fun u hu => by obtain ⟨_, _, rfl⟩ := List.mem_map.1 hu; rfl) Nat.zero_lt_one (Nat.le_of_ble_eq_true rfl) rfl) rfl (fun y hy => ?_))
           all_goals refine tl_q (y_assign rfl) rfl ?_
           all_goals refine tl_nil ?_
           all_goals (refine hK6 ?_; try (clear hK6; clear K6))
           all_goals refine tc_region ?_
           all_goals refine tl_q (y_add rfl rfl (by omega)) rfl ?_
           all_goals refine tl_q (y_move rfl) rfl ?_
           all_goals refine tl_nil ?_
           all_goals (
            first
            | (have hs2 : shownN t e k d (n + 1) = shownN t e k d n ++ [(n : Int)] := by rw [shownN_succ, if_pos hc]
               refine tk_round (n + 1, some (y.1, y.2.1, y.2.2), z.1, z.2) ⟨by omega, ?_, hz, fun _ => by rw [hs2, List.length_append]; simp only [List.length_cons, List.length_nil]; omega⟩ (by omega) (.cons rfl (.cons rfl (.cons rfl (.cons ?_ (.cons rfl (.cons rfl .nil)))))) (fun _ h => ?_)
               · dsimp only [outOk]; rw [hs2, List.length_append]; simp only [List.length_cons, List.length_nil] at hy ⊢; omega
               · dsimp only [outV']; rw [hs2, List.length_append]; first | rfl | (rw [hok]; rfl)
               · dsimp only; rw [hs2, List.map_append]
                 try rw [show shownN t e k d n = [] from List.eq_nil_of_length_eq_zero hok, List.map_nil, List.nil_append]
                 exact h.subl (SB.s (by repeat constructor)) (SB.s (by repeat constructor)))
            | (have hs2 : shownN t e k d (n + 1) = shownN t e k d n := by rw [shownN_succ, if_neg (by rw [hc]; exact Bool.false_ne_true)]
               first
               | (refine tk_round (n + 1, none, z.1, z.2) ⟨by omega, by dsimp only [outOk]; rw [hs2]; exact hok, hz, by rw [hs2]; exact hps⟩ (by omega) (.cons rfl (.cons rfl (.cons rfl (.cons rfl (.cons rfl (.cons rfl .nil)))))) (fun _ h => h.subl (SB.s (by repeat constructor)) (SB.s (by repeat constructor))))
               | (refine tk_round (n + 1, some (b0, cap, junk), z.1, z.2) ⟨by omega, by dsimp only [outOk]; rw [hs2]; exact hok, hz, by rw [hs2]; exact hps⟩ (by omega) (.cons rfl (.cons rfl (.cons rfl (.cons ?_ (.cons rfl (.cons rfl .nil)))))) (fun _ h => ?_)
                  · dsimp only [outV']; rw [hs2]; rfl
                  · dsimp only; rw [hs2]; exact h.subl (SB.s (by repeat constructor)) (SB.s (by repeat constructor)))))
         · try simp only [decide_eq_true_eq, decide_eq_false_iff_not, Int.not_lt, Int.not_le, Bool.not_eq_true', Bool.not_eq_false', Decidable.not_not, not_true_eq_false] at hc
           all_goals first | (exfalso; with_reducible exact bft hc) | (exfalso; with_reducible exact btf hc) | (exfalso; omega) | (exfalso; simp at hc; done) | skip
           all_goals refine tc_skip ?_
           all_goals (refine hK6 ?_; try (clear hK6; clear K6))
           all_goals refine tc_region ?_
           all_goals refine tl_q (y_add rfl rfl (by omega)) rfl ?_
           all_goals refine tl_q (y_move rfl) rfl ?_
           all_goals refine tl_nil ?_
           all_goals (
            first
            | (have hs2 : shownN t e k d (n + 1) = shownN t e k d n ++ [(n : Int)] := by rw [shownN_succ, if_pos hc]
               refine tk_round (n + 1, some (y.1, y.2.1, y.2.2), z.1, z.2) ⟨by omega, ?_, hz, fun _ => by rw [hs2, List.length_append]; simp only [List.length_cons, List.length_nil]; omega⟩ (by omega) (.cons rfl (.cons rfl (.cons rfl (.cons ?_ (.cons rfl (.cons rfl .nil)))))) (fun _ h => ?_)
               · dsimp only [outOk]; rw [hs2, List.length_append]; simp only [List.length_cons, List.length_nil] at hy ⊢; omega
               · dsimp only [outV']; rw [hs2, List.length_append]; first | rfl | (rw [hok]; rfl)
               · dsimp only; rw [hs2, List.map_append]
                 try rw [show shownN t e k d n = [] from List.eq_nil_of_length_eq_zero hok, List.map_nil, List.nil_append]
                 exact h.subl (SB.s (by repeat constructor)) (SB.s (by repeat constructor)))
            | (have hs2 : shownN t e k d (n + 1) = shownN t e k d n := by rw [shownN_succ, if_neg (by rw [hc]; exact Bool.false_ne_true)]
               first
               | (refine tk_round (n + 1, none, z.1, z.2) ⟨by omega, by dsimp only [outOk]; rw [hs2]; exact hok, hz, by rw [hs2]; exact hps⟩ (by omega) (.cons rfl (.cons rfl (.cons rfl (.cons rfl (.cons rfl (.cons rfl .nil)))))) (fun _ h => h.subl (SB.s (by repeat constructor)) (SB.s (by repeat constructor))))
               | (refine tk_round (n + 1, some (b0, cap, junk), z.1, z.2) ⟨by omega, by dsimp only [outOk]; rw [hs2]; exact hok, hz, by rw [hs2]; exact hps⟩ (by omega) (.cons rfl (.cons rfl (.cons rfl (.cons ?_ (.cons rfl (.cons rfl .nil)))))) (fun _ h => ?_)
                  · dsimp only [outV']; rw [hs2]; rfl
                  · dsimp only; rw [hs2]; exact h.subl (SB.s (by repeat constructor)) (SB.s (by repeat constructor))))))
      · try simp only [decide_eq_true_eq, decide_eq_false_iff_not, Int.not_lt, Int.not_le, Bool.not_eq_true', Bool.not_eq_false', Decidable.not_not, not_true_eq_false] at hc
        all_goals first | (exfalso; with_reducible exact bft hc) | (exfalso; with_reducible exact btf hc) | (exfalso; omega) | (exfalso; simp at hc; done) | skip
        all_goals refine tc_exit ?_
        all_goals (refine hK2 ?_; try (clear hK2; clear K2))
        all_goals refine tc_seq fun K9 hK9 => ?_
        all_goals refine tc_seq fun K10 hK10 => ?_
        all_goals (have hnn : n = (t.s.divisions + 1).toNat := by omega)
        all_goals subst hnn
        all_goals refine tc_region ?_
        all_goals refine tl_q (y_move rfl) rfl ?_
        all_goals refine tl_q (y_eql_nil rfl rfl) rfl ?_
        all_goals refine tl_nil ?_
        all_goals (refine hK10 ?_; try (clear hK10; clear K10))
        all_goals (
         refine tc_cond rfl (fun hc => ?_) (fun hc => ?_)
         · try simp only [decide_eq_true_eq, decide_eq_false_iff_not, Int.not_lt, Int.not_le, Bool.not_eq_true', Bool.not_eq_false', Decidable.not_not, not_true_eq_false] at hc
           all_goals first | (exfalso; with_reducible exact bft hc) | (exfalso; with_reducible exact btf hc) | (exfalso; omega) | (exfalso; simp at hc; done) | skip
           all_goals refine tc_seq fun K11 hK11 => ?_
           all_goals refine tc_region ?_
           all_goals refine tl_e (e_bslice rfl (by (repeat (first | exact .nil | apply PV.one rfl rfl)); done) rfl rfl) rfl (fun b30 _ => ?_)
           all_goals refine tl_q (y_assign rfl) rfl ?_
           all_goals refine tl_nil ?_
           all_goals (refine hK11 ?_; try (clear hK11; clear K11))
           all_goals refine tc_ret ?_
           all_goals (repeat (refine tk_then_ret ?_))
           all_goals first | refine tk_ret rfl rfl (.cons (.tmp rfl) .nil) ?_ | refine tk_retM rfl (by repeat constructor) rfl (.cons (.tmp rfl) .nil) ?_
           all_goals (
            refine fun w' hw' => ?_
            have hb2 : Fr [bm] w w' := Fr.but (hw'.fr (S := [bw, bm]) (by simp)) (by rw [hw'.heap (bw, wkT t sl pl ll tl bm) (HM.mem (by repeat constructor)), hT.hw])
            have hb1 := hw'.heap _ (HM.mem (b := bm) (by repeat constructor))
            first
            | (have hsh : shownL t e k d = [-1] := by unfold shownL; rw [if_pos hok]
               rw [hsh]
               exact ⟨((some ⟨b30, 0, none⟩, 1), es', ck'), rfl, hb2, ⟨RdI.own0 (xs := [-1]) hw' (by repeat constructor), hca⟩, hb1⟩)
            | (have hpos := hps rfl
               have hsh : shownL t e k d = shownN t e k d (t.s.divisions + 1).toNat := by unfold shownL; rw [if_neg (by omega)]
               rw [hsh]
               exact ⟨((some ⟨b0, 0, none⟩, cap), es', ck'), rfl, hb2, ⟨RdI.own (xs := shownN t e k d (t.s.divisions + 1).toNat) (cap := cap) (junk := junk) hw' (by repeat constructor), hca⟩, hb1⟩))
         · try simp only [decide_eq_true_eq, decide_eq_false_iff_not, Int.not_lt, Int.not_le, Bool.not_eq_true', Bool.not_eq_false', Decidable.not_not, not_true_eq_false] at hc
           all_goals first | (exfalso; with_reducible exact bft hc) | (exfalso; with_reducible exact btf hc) | (exfalso; omega) | (exfalso; simp at hc; done) | skip
           all_goals refine tc_skip ?_
           all_goals (refine hK9 ?_; try (clear hK9; clear K9))
           all_goals refine tc_seq fun K12 hK12 => ?_
           all_goals refine tc_region ?_
           all_goals refine tl_q (y_move rfl) rfl ?_
           all_goals refine tl_q (y_assign rfl) rfl ?_
           all_goals refine tl_nil ?_
           all_goals (refine hK12 ?_; try (clear hK12; clear K12))
           all_goals refine tc_ret ?_
           all_goals (repeat (first | refine tk_then_ret ?_))
           all_goals first | refine tk_ret rfl rfl (.cons (.tmp rfl) .nil) ?_ | refine tk_retM rfl (by repeat constructor) rfl (.cons (.tmp rfl) .nil) ?_
           all_goals (
            refine fun w' hw' => ?_
            have hb2 : Fr [bm] w w' := Fr.but (hw'.fr (S := [bw, bm]) (by simp)) (by rw [hw'.heap (bw, wkT t sl pl ll tl bm) (HM.mem (by repeat constructor)), hT.hw])
            have hb1 := hw'.heap _ (HM.mem (b := bm) (by repeat constructor))
            first
            | (have hsh : shownL t e k d = [-1] := by unfold shownL; rw [if_pos hok]
               rw [hsh]
               exact ⟨((some ⟨b30, 0, none⟩, 1), es', ck'), rfl, hb2, ⟨RdI.own0 (xs := [-1]) hw' (by repeat constructor), hca⟩, hb1⟩)
            | (have hpos := hps rfl
               have hsh : shownL t e k d = shownN t e k d (t.s.divisions + 1).toNat := by unfold shownL; rw [if_neg (by omega)]
               rw [hsh]
               exact ⟨((some ⟨b0, 0, none⟩, cap), es', ck'), rfl, hb2, ⟨RdI.own (xs := shownN t e k d (t.s.divisions + 1).toNat) (cap := cap) (junk := junk) hw' (by repeat constructor), hca⟩, hb1⟩)))))
end Go.Sp
/-
  Package trial: whether a test is right; the densities in which all tests are.
-/
namespace Go.Sp
open Go Go.Proofs
theorem RdI.opensT {w : World} {xs : List Int} {x : Option Addr × Nat} (h : RdI w (slV xs.length x) xs) : ∃ b o, (0 < xs.length → x.1 = some ⟨b, o, none⟩) ∧ ∀ w', Fr [] w w' → ∀ i, i < xs.length → w'.cell? ⟨b, o + i, none⟩ = some (vi (xs.getD i 0)) := by
  obtain ⟨ad, cap, b, o, e, had, hcell⟩ := h.open
  injection e with e1 e2 e3
  subst e1
  exact ⟨b, o, had, hcell⟩
def rightF (t : Tr) (e : Int × Int × Int) (x : Int × Int × Int) (d : Int) : Bool := if x.2.2 = -1 then decide ((shownL t e x.2.1 d).getD 0 0 = -1) else canF t e x.2.1 d x.2.2
theorem right_c (t : Tr) (hv : VT t) (e : Int × Int × Int) (he : ErB e) (x : Int × Int × Int) (hx : tsB t x = true) (d : Int) (sl pl ll tl : Value) (w : World) (bw bm : Nat) (es : Array MapEntry) (ck : Nat) (hT : TW w t sl pl ll tl bw bm es ck) :
    CnX Tryz.prog 115 #[ptr bw, tsV e, tsV x, vi d] w [bm] (fun _ : Array MapEntry × Nat => .bool (rightF t e x d)) (fun y w' => Cache (readV t.s) y.1.toList ∧ w'.heap[bm]? = some (.map y.1 y.2)) := by
  have hne := hT.ne
  have hd2 := hv.s.d2
  have hx' := of_decide_eq_true hx
  have hpos := shownL_pos t e x.2.1 d
  refine cnxS (vs := [_, _, _, _]) (S := [bw, bm]) [(bw, wkT t sl pl ll tl bm), (bm, .map es ck)] Tryz.func115 rfl rfl ⟨by simp [hT.hw, hT.hm], by simp [hne], by simp⟩ ?_
  all_goals refine tc_seq fun K1 hK1 => ?_
  all_goals refine tc_region ?_
  all_goals refine tl_e (e_box rfl rfl rfl) rfl (fun b5 _ => ?_)
  all_goals refine tl_e (e_box rfl rfl rfl) rfl (fun b6 _ => ?_)
  all_goals refine tl_q (y_assign rfl) rfl ?_
  all_goals refine tl_nil ?_
  all_goals (refine hK1 ?_; try (clear hK1; clear K1))
  all_goals refine tc_seq fun K2 hK2 => ?_
  all_goals refine tc_region ?_
  all_goals refine tl_q (y_field rfl) rfl ?_
  all_goals (refine tl_q (y_load1 rfl (by repeat constructor) (by rfl)) rfl ?_)
  all_goals refine tl_q (y_move rfl) rfl ?_
  all_goals refine tl_q (y_build_2 rfl rfl rfl rfl) rfl ?_
  all_goals refine tl_e (e_allocN rfl) rfl (fun b9 _ => ?_)
  all_goals refine tl_e (e_storeW rfl rfl (by repeat constructor) (by rfl) (by rfl) (by simp [Value.oneCell'])) rfl (fun _ _ => ?_)
  all_goals refine tl_nil ?_
  all_goals (refine hK2 ?_; try (clear hK2; clear K2))
  all_goals refine tc_seq fun K3 hK3 => ?_
  all_goals refine tc_seq fun K4 hK4 => ?_
  all_goals refine tc_region ?_
  all_goals refine tl_q (y_field rfl) rfl ?_
  all_goals (refine tl_q (y_load1 rfl (by repeat constructor) (by rfl)) rfl ?_)
  all_goals refine tl_q (y_eql rfl rfl) rfl ?_
  all_goals refine tl_nil ?_
  all_goals (refine hK4 ?_; try (clear hK4; clear K4))
  all_goals (
   refine tc_cond rfl (fun hc => ?_) (fun hc => ?_)
   · try simp only [decide_eq_true_eq, decide_eq_false_iff_not, Int.not_lt, Int.not_le, Bool.not_eq_true', Bool.not_eq_false', Decidable.not_not, not_true_eq_false] at hc
     all_goals first | (exfalso; with_reducible exact bft hc) | (exfalso; with_reducible exact btf hc) | (exfalso; omega) | skip
     all_goals refine tc_seq fun K5 hK5 => ?_
     all_goals refine tc_region ?_
     all_goals refine tl_q (y_move rfl) rfl ?_
     all_goals (refine tl_q (y_loadW rfl (by repeat constructor) (by rfl)) rfl ?_)
     all_goals (refine tl_q (y_loadW rfl (by repeat constructor) (by rfl)) rfl ?_)
     all_goals refine tl_e (e_callUX rfl (.cons rfl (.cons rfl (.cons rfl .nil))) (fun w' hw' => shown_c t hv e he x.2.1 d sl pl ll tl w' bw bm es ck (hT.fr2 (hw'.fr (by simp)) (hw'.heap _ (HM.mem (by repeat constructor))) (hw'.heap _ (HM.mem (b := bm) (by repeat constructor))) hT.hc)) (fun _ => (by repeat constructor))) rfl (fun y hy => ?_)
     all_goals (obtain ⟨yb, yo, had, hcell⟩ := hy.1.1.opensT; have had' := had hpos)
     all_goals (refine tl_q (y_index rfl rfl (by omega) had') rfl ?_)
     all_goals (refine tl_q (y_load1o (v := vi ((shownL t e x.2.1 d).getD 0 0)) rfl (fun w' hw' => hcell w' (hw'.calm hy.2 (by simp) (List.Sublist.refl _)) 0 hpos)) rfl ?_)
     all_goals refine tl_q (y_eql rfl rfl) rfl ?_
     all_goals refine tl_q (y_assign rfl) rfl ?_
     all_goals refine tl_nil ?_
     all_goals (refine hK5 ?_; try (clear hK5; clear K5))
     all_goals refine tc_ret ?_
     all_goals (repeat (refine tk_then_ret ?_))
     all_goals first | refine tk_ret rfl rfl (.cons (.tmp rfl) .nil) ?_ | refine tk_retM rfl (by repeat constructor) rfl (.cons (.tmp rfl) .nil) ?_
     all_goals (
      refine fun w' hw' => ?_
      have hb2 : Fr [bm] w w' := Fr.but (hw'.fr (S := [bw, bm]) (by simp)) (by rw [hw'.heap (bw, wkT t sl pl ll tl bm) (HM.mem (by repeat constructor)), hT.hw])
      have hb1 := hw'.heap _ (HM.mem (b := bm) (by repeat constructor))
      first
      | exact ⟨(y.1.2.1, y.1.2.2), by unfold rightF; rw [if_pos (by omega)]; rfl, hb2, hy.1.2, hb1⟩
      | exact ⟨z, by unfold rightF; rw [if_neg (by omega)]; rfl, hb2, hz, hb1⟩)
   · try simp only [decide_eq_true_eq, decide_eq_false_iff_not, Int.not_lt, Int.not_le, Bool.not_eq_true', Bool.not_eq_false', Decidable.not_not, not_true_eq_false] at hc
     all_goals first | (exfalso; with_reducible exact bft hc) | (exfalso; with_reducible exact btf hc) | (exfalso; omega) | skip
     all_goals refine tc_skip ?_
     all_goals (refine hK3 ?_; try (clear hK3; clear K3))
     all_goals refine tc_seq fun K6 hK6 => ?_
     all_goals refine tc_region ?_
     all_goals refine tl_q (y_move rfl) rfl ?_
     all_goals (refine tl_q (y_loadW rfl (by repeat constructor) (by rfl)) rfl ?_)
     all_goals (refine tl_q (y_loadW rfl (by repeat constructor) (by rfl)) rfl ?_)
     all_goals refine tl_q (y_field rfl) rfl ?_
     all_goals (refine tl_q (y_load1 rfl (by repeat constructor) (by rfl)) rfl ?_)
     all_goals refine tl_e (e_callU rfl (.cons rfl (.cons rfl (.cons rfl (.cons rfl .nil)))) (fun w' hw' => can_c t hv e he x.2.1 d x.2.2 (by omega) (by omega) sl pl ll tl w' bw bm es ck (hT.fr2 (hw'.fr (by simp)) (hw'.heap _ (HM.mem (by repeat constructor))) (hw'.heap _ (HM.mem (b := bm) (by repeat constructor))) hT.hc)) (fun _ => (by repeat constructor))) rfl (fun z hz => ?_)
     all_goals refine tl_q (y_assign rfl) rfl ?_
     all_goals refine tl_nil ?_
     all_goals (refine hK6 ?_; try (clear hK6; clear K6))
     all_goals refine tc_ret ?_
     all_goals (repeat (first | refine tk_then_ret ?_))
     all_goals first | refine tk_ret rfl rfl (.cons (.tmp rfl) .nil) ?_ | refine tk_retM rfl (by repeat constructor) rfl (.cons (.tmp rfl) .nil) ?_
     all_goals (
      refine fun w' hw' => ?_
      have hb2 : Fr [bm] w w' := Fr.but (hw'.fr (S := [bw, bm]) (by simp)) (by rw [hw'.heap (bw, wkT t sl pl ll tl bm) (HM.mem (by repeat constructor)), hT.hw])
      have hb1 := hw'.heap _ (HM.mem (b := bm) (by repeat constructor))
      first
      | exact ⟨(y.1.2.1, y.1.2.2), by unfold rightF; rw [if_pos (by omega)]; rfl, hb2, hy.1.2, hb1⟩
      | exact ⟨z, by unfold rightF; rw [if_neg (by omega)]; rfl, hb2, hz, hb1⟩))
end Go.Sp
/-
  Package trial: the densities of a liquid in which all tests are right.
-/
namespace Go.Sp
open Go Go.Proofs
theorem HM.app {b : Nat} {o : Obj} : ∀ (X : List (Nat × Obj)) {Y : List (Nat × Obj)}, HM b o (X ++ (b, o) :: Y)
  | [], _ => .head
  | _ :: X, _ => .tail (HM.app X)
theorem HU.app {b : Nat} {o o' : Obj} : ∀ (X : List (Nat × Obj)) {Y : List (Nat × Obj)}, HU b o o' (X ++ (b, o) :: Y) (X ++ (b, o') :: Y)
  | [], _ => .head
  | _ :: X, _ => .tail (HU.app X)
theorem RdR.at {w : World} {b o cp : Nat} {l : List (Int × Int)} (h : RdR w (.slice (some ⟨b, o, none⟩) l.length cp) l) {i : Nat} (hi : i < l.length) : w.cell? ⟨b, o + i * 2, none⟩ = some (vi (l.getD i (0, 0)).1) ∧ w.cell? ⟨b, o + i * 2 + 1, none⟩ = some (vi (l.getD i (0, 0)).2) := by
  obtain ⟨_, _, _, _, e, had, hcell⟩ := h.open
  cases e
  cases had (by omega)
  have := hcell w [] (Fr.refl _ _) (by simp) i hi
  exact ⟨this.get 0 _ rfl, this.get 1 _ rfl⟩
theorem RdT.at {w : World} {b o cp : Nat} {l : List (Int × Int × Int)} (h : RdT w (.slice (some ⟨b, o, none⟩) l.length cp) l) {i : Nat} (hi : i < l.length) : CA (fun k => w.cell? ⟨b, k, none⟩) (o + i * 3) 3 [vi (l.getD i (0, 0, 0)).1, vi (l.getD i (0, 0, 0)).2.1, vi (l.getD i (0, 0, 0)).2.2] := by
  obtain ⟨_, _, _, _, e, had, hcell⟩ := h.open
  cases e
  cases had (by omega)
  exact hcell w [] (Fr.refl _ _) (by simp) i hi
/-- A test is passed by: it is of another liquid, or left out, or right. -/
def passF (t : Tr) (e : Int × Int × Int) (i : Nat) (out : List Int) (d : Int) (j : Nat) : Bool := decide (¬ (t.tests.getD j (0, 0, 0)).1 = i) || (decide ((j : Int) ∈ out) || rightF t e (t.tests.getD j (0, 0, 0)) d)
def passN (t : Tr) (e : Int × Int × Int) (i : Nat) (out : List Int) (d : Int) (n : Nat) : Bool := (List.range n).all (passF t e i out d)
theorem passN_succ (t : Tr) (e : Int × Int × Int) (i : Nat) (out : List Int) (d : Int) (n : Nat) : passN t e i out d (n + 1) = (passN t e i out d n && passF t e i out d n) := by simp [passN, List.range_succ, List.all_append]
def lqAt (t : Tr) (i : Nat) : Int × Int := t.liquids.getD i (0, 0)
def denseN (t : Tr) (e : Int × Int × Int) (i : Nat) (out : List Int) (n : Nat) : List Int := ((List.range n).filter fun (j : Nat) => passN t e i out ((lqAt t i).1 + j) t.tests.length).map fun (j : Nat) => (lqAt t i).1 + j
theorem denseN_succ (t : Tr) (e : Int × Int × Int) (i : Nat) (out : List Int) (n : Nat) : denseN t e i out (n + 1) = if passN t e i out ((lqAt t i).1 + n) t.tests.length = true then denseN t e i out n ++ [(lqAt t i).1 + n] else denseN t e i out n := by
  unfold denseN
  rw [List.range_succ, List.filter_append, List.map_append]
  cases h : passN t e i out ((lqAt t i).1 + n) t.tests.length <;> simp [h]
def lqC (t : Tr) (i : Nat) : Nat := ((lqAt t i).2 - (lqAt t i).1 + 1).toNat
def denseL (t : Tr) (e : Int × Int × Int) (i : Nat) (out : List Int) : List Int := denseN t e i out (lqC t i)
theorem denseN_pre (t : Tr) (e : Int × Int × Int) (i : Nat) (out : List Int) {n : Nat} : ∀ {m : Nat}, n ≤ m → ∃ r, denseN t e i out m = denseN t e i out n ++ r := by
  intro m
  induction m with
  | zero => intro h; obtain rfl : n = 0 := by omega
            exact ⟨[], by simp⟩
  | succ m ih =>
    intro h
    by_cases e1 : n = m + 1
    · subst e1; exact ⟨[], by simp⟩
    · obtain ⟨r, hr⟩ := ih (by omega)
      rw [denseN_succ]
      split
      · exact ⟨r ++ [(lqAt t i).1 + m], by rw [hr, List.append_assoc]⟩
      · exact ⟨r, hr⟩
theorem denseN_get {t : Tr} {e : Int × Int × Int} {i : Nat} {out : List Int} {n : Nat} (hn : n < lqC t i) (h : passN t e i out ((lqAt t i).1 + n) t.tests.length = true) : (denseL t e i out)[(denseN t e i out n).length]? = some ((lqAt t i).1 + n) := by
  obtain ⟨r, hr⟩ := denseN_pre t e i out (n := n + 1) (m := lqC t i) (by omega)
  unfold denseL
  rw [hr, denseN_succ, if_pos h]
  simp
theorem VT.lqb {t : Tr} (h : VT t) {i : Nat} (hi : i < t.liquids.length) : 1 ≤ (lqAt t i).1 ∧ (lqAt t i).1 ≤ (lqAt t i).2 ∧ (lqAt t i).2 ≤ 2000 ∧ (lqAt t i).2 - (lqAt t i).1 ≤ 40 := by
  have := List.all_eq_true.1 h.lq (lqAt t i) (by unfold lqAt; rw [List.getD_eq_getElem?_getD, List.getElem?_eq_getElem hi]; exact List.getElem_mem hi)
  exact of_decide_eq_true this
theorem tdense_c (e : Int × Int × Int) (i : Int) (bw : Nat) (oa : Option Addr) (on oc : Nat) (w : World) :
    CnX Tryz.prog 109 #[ptr bw, tsV e, vi i, .slice oa on oc] w [] (fun x : Nat × Nat × Nat × Nat => .func (.func 154) #[] #[ptr x.1, ptr x.2.1, ptr x.2.2.1, ptr x.2.2.2])
    (fun x w' => True ∧ (∀ q ∈ [(x.2.2.1, Obj.cells #[.slice oa on oc] 22 (0, 0)), (x.2.1, .cells #[vi i] 3 (0, 0)), (x.2.2.2, .cells (tsV e).cells 126 (0, 0)), (x.1, .cells #[ptr bw] 130 (0, 0))], w.heap.size ≤ q.1 ∧ w'.heap[q.1]? = some q.2) ∧ (([(x.2.2.1, Obj.cells #[.slice oa on oc] 22 (0, 0)), (x.2.1, .cells #[vi i] 3 (0, 0)), (x.2.2.2, .cells (tsV e).cells 126 (0, 0)), (x.1, .cells #[ptr bw] 130 (0, 0))] : List (Nat × Obj)).map Prod.fst).Nodup) := by
  refine cnx0 (vs := [_, _, _, _]) Tryz.func109 rfl rfl ?_
  all_goals refine tc_seq fun K1 hK1 => ?_
  all_goals refine tc_region ?_
  all_goals refine tl_e (e_box rfl rfl rfl) rfl (fun b4 _ => ?_)
  all_goals refine tl_e (e_box rfl rfl rfl) rfl (fun b5 _ => ?_)
  all_goals refine tl_e (e_box rfl rfl rfl) rfl (fun b6 _ => ?_)
  all_goals refine tl_e (e_box rfl rfl rfl) rfl (fun b7 _ => ?_)
  all_goals refine tl_q (y_assign rfl) rfl ?_
  all_goals refine tl_nil ?_
  all_goals (refine hK1 ?_; try (clear hK1; clear K1))
  all_goals refine tc_seq fun K2 hK2 => ?_
  all_goals refine tc_region ?_
  all_goals refine tl_q (y_fn .nil (.cons rfl (.cons rfl (.cons rfl (.cons rfl .nil))))) rfl ?_
  all_goals refine tl_q (y_assign rfl) rfl ?_
  all_goals refine tl_nil ?_
  all_goals (refine hK2 ?_; try (clear hK2; clear K2))
  all_goals refine tc_ret ?_
  all_goals (repeat (first | refine tk_then_ret ?_))
  all_goals first | refine tk_ret rfl rfl (.cons (.tmp rfl) .nil) ?_ | refine tk_retM rfl (by repeat constructor) rfl (.cons (.tmp rfl) .nil) ?_
  all_goals (
   exact fun w' hw' => ⟨(b4, b6, b7, b5), rfl, hw'.fr (by simp), trivial, fun q hq => ⟨by
       have := hw'.own q hq (w, []) (by simp)
       simpa using this, hw'.heap q hq⟩, hw'.nodup⟩)
end Go.Sp
/-
  Package trial: a range over the densities of a liquid.
-/
namespace Go.Sp
open Go Go.Proofs
def JMt (t : Tr) (o : Obj) : Prop := ∃ es ck, o = .map es ck ∧ Cache (readV t.s) es.toList
theorem dense_seq (t : Tr) (hv : VT t) (e : Int × Int × Int) (he : ErB e) (i : Nat) (hi : i < t.liquids.length) (out : List Int) (ho : (out.length : Int) ≤ 9000000000000000000) (ov sl pl ll tl : Value) (w : World) (bw bm b1 b2 b3 b4 : Nat) (S0 : List Nat)
    (h1 : w.heap[b1]? = some (.cells #[ptr bw] 130 (0, 0))) (h2 : w.heap[b2]? = some (.cells #[vi i] 3 (0, 0))) (h3 : w.heap[b3]? = some (.cells #[ov] 22 (0, 0))) (h4 : w.heap[b4]? = some (.cells (tsV e).cells 126 (0, 0)))
    (hb1 : b1 ∉ S0) (hb2 : b2 ∉ S0) (hb3 : b3 ∉ S0) (hb4 : b4 ∉ S0) (hbw : w.heap[bw]? = some (wkT t sl pl ll tl bm)) (hbwS : bw ∉ S0) (hmS : bm ∈ S0)
    (o1 : sl.oneCell' = true) (o2 : pl.oneCell' = true) (o3 : ll.oneCell' = true) (o4 : tl.oneCell' = true)
    (hrd : ∀ w', Fr S0 w w' → RdTr w' t sl pl ll tl ∧ RdI w' ov out) :
    SeqP Tryz.prog 154 #[ptr b1, ptr b2, ptr b3, ptr b4] (fun d : Int => [vi d]) (denseL t e i out) bm (JMt t) S0 w := by
  intro σ l S Hx I J s0 w1 ob f0 hbS hS hbo hJb hbx hK0 h0 hY
  obtain ⟨es0, ck0, rfl, hc0⟩ := hJb
  have hlq := hv.lqb hi
  have hl3 := hv.l3
  have ht6 := hv.t6
  have hlt : ∀ b, w.heap[b]? ≠ none → b < w.heap.size := fun b h => by
    rcases Nat.lt_or_ge b w.heap.size with g | g
    · exact g
    · exact absurd (Array.getElem?_eq_none g) h
  have hnS : ∀ b, b ∉ S0 → w.heap[b]? ≠ none → b ∉ S := fun b hb h hm => (hS b hm).elim hb (fun g => by have := hlt b h; omega)
  have n1 := hnS b1 hb1 (by rw [h1]; simp)
  have n2 := hnS b2 hb2 (by rw [h2]; simp)
  have n3 := hnS b3 hb3 (by rw [h3]; simp)
  have n4 := hnS b4 hb4 (by rw [h4]; simp)
  have nw := hnS bw hbwS (by rw [hbw]; simp)
  have g1 := f0.keep h1
  have g2 := f0.keep h2
  have g3 := f0.keep h3
  have g4 := f0.keep h4
  have gw := f0.keep hbw
  have hrd1 : ∀ w', Fr S w1 w' → RdTr w' t sl pl ll tl ∧ RdI w' ov out := fun w' f => hrd w' (f0.mono (fun x hx => by simp at hx) |>.trans f (fun x hx => hS x hx))
  have hTW : ∀ (w' : World) (es : Array MapEntry) (ck : Nat), Fr S w1 w' → w'.heap[bm]? = some (.map es ck) → Cache (readV t.s) es.toList → TW w' t sl pl ll tl bw bm es ck := fun w' es ck f hm hc =>
    ⟨(hrd1 w' f).1, f.keepS nw gw, hm, hc, o1, o2, o3, o4⟩
  obtain ⟨ad1, cp1, bl, ol, rfl, hadl, _⟩ := (hrd1 w1 (Fr.refl _ _)).1.ls.open
  obtain ⟨ad2, cp2, bt, ot, rfl, hadt, _⟩ := (hrd1 w1 (Fr.refl _ _)).1.ts.open
  cases hadl (by omega)
  have hwk : ∀ w', Fr S w1 w' → w'.cell? ⟨bw, 8, none⟩ = some (.slice (some ⟨bl, ol, none⟩) t.liquids.length cp1) ∧ w'.cell? ⟨bw, 9, none⟩ = some (.slice ad2 t.tests.length cp2) := fun w' f => ⟨cell0 (f.keepS nw gw) rfl, cell0 (f.keepS nw gw) rfl⟩
  rw [show (#[.func (.yield l) #[] #[]] ++ #[ptr b1, ptr b2, ptr b3, ptr b4] : Array Value) = #[.func (.yield l) #[] #[], ptr b1, ptr b2, ptr b3, ptr b4] from by simp]
  refine cnxS (vs := [_, _, _, _, _]) (S := S) (Hx s0 ++ [(bm, .map es0 ck0)]) Tryz.func154 rfl rfl ⟨fun p hp => ?_, ?_, fun p hp => ?_⟩ ?_
  · rcases List.mem_append.1 hp with hp | hp
    · exact hK0.kn p hp
    · obtain rfl := List.mem_singleton.1 hp; exact hbo
  · rw [List.map_append, List.nodup_append]
    refine ⟨hK0.nd, by simp, fun a ha b hb e => ?_⟩
    simp only [List.map_cons, List.map_nil, List.mem_singleton] at hb
    subst hb; subst e
    exact hbx s0 (.inl ⟨0, h0⟩) ha
  · rcases List.mem_append.1 hp with hp | hp
    · exact hK0.mem p hp
    · obtain rfl := List.mem_singleton.1 hp; exact hbS
  all_goals refine tc_seq fun K1 hK1 => ?_
  all_goals refine tc_draw (by kernel_rfl) ?_
  all_goals (refine tx_q 0 rfl (by kernel_rfl) (y_load1o (v := ptr bw) rfl (fun w' hw' => cell0 ((hw'.fr (w0 := w1) (S := S) (MI.m (by repeat constructor))).keepS n1 g1) rfl)) rfl (fun _ _ _ h => h) (fun _ h => h) ?_)
  all_goals refine tx_p 1 rfl (by kernel_rfl) (y_nil rfl) rfl (fun _ _ _ h => h) (fun _ h => h) ?_
  all_goals refine tx_p 2 rfl (by kernel_rfl) (y_field rfl) rfl (fun _ _ _ h => h) (fun _ h => h) ?_
  all_goals refine tx_p 3 rfl (by kernel_rfl) (y_field rfl) rfl (fun _ _ _ h => h) (fun _ h => h) ?_
  all_goals (refine tx_q 4 rfl (by kernel_rfl) (y_load1o (v := .slice (some ⟨bl, ol, none⟩) t.liquids.length cp1) rfl (fun w' hw' => (hwk w' (hw'.fr (w0 := w1) (S := S) (MI.m (by repeat constructor)))).1)) rfl (fun _ _ _ h => h) (fun _ h => h) ?_)
  all_goals (refine tx_q 5 rfl (by kernel_rfl) (y_load1o (v := vi i) rfl (fun w' hw' => cell0 ((hw'.fr (w0 := w1) (S := S) (MI.m (by repeat constructor))).keepS n2 g2) rfl)) rfl (fun _ _ _ h => h) (fun _ h => h) ?_)
  all_goals (refine tx_p 6 rfl (by kernel_rfl) (y_index rfl rfl (by omega) rfl) rfl (fun _ _ _ h => h) (fun _ h => h) ?_)
  all_goals refine tx_p 7 rfl (by kernel_rfl) (y_field rfl) rfl (fun _ _ _ h => h) (fun _ h => h) ?_
  all_goals (refine tx_q 8 rfl (by kernel_rfl) (y_load1o (v := vi (lqAt t i).1) rfl (fun w' hw' => by rw [show Int.toNat (i : Int) * 2 = i * 2 from by omega]; exact ((hrd1 w' (hw'.fr (w0 := w1) (S := S) (MI.m (by repeat constructor)))).1.ls.at hi).1)) rfl (fun _ _ _ h => h) (fun _ h => h) ?_)
  all_goals refine tx_p 9 rfl (by kernel_rfl) (y_assign rfl) rfl (fun _ _ _ h => h) (fun _ h => h) ?_
  all_goals refine tx_done (by kernel_rfl) ?_
  all_goals (refine hK1 ?_; try (clear hK1; clear K1))
  all_goals refine tc_block ?_
  all_goals (
   refine tc_loop (fun p : Nat × σ × Array MapEntry × Nat => p.1 ≤ lqC t i ∧ I (denseN t e i out p.1).length p.2.1 ∧ Cache (readV t.s) p.2.2.1.toList) (fun p => [(0, .func (.yield l) #[] #[]), (1, ptr b1), (2, ptr b2), (3, ptr b3), (4, ptr b4), (6, vi ((lqAt t i).1 + p.1))]) (fun _ => [(w1, S)]) (fun p => Hx p.2.1 ++ [(bm, .map p.2.2.1 p.2.2.2)]) (fun p => lqC t i - p.1) ?_ ?_
   · refine tk_start (0, s0, es0, ck0) ⟨Nat.zero_le _, h0, hc0⟩ (.cons rfl (.cons rfl (.cons rfl (.cons rfl (.cons rfl (.cons ?_ .nil)))))) (fun _ h => h)
     show some (vi (lqAt t i).1) = some (vi ((lqAt t i).1 + ((0 : Nat) : Int))); congr 2; omega
   · rintro ⟨m, st, es, ck⟩ ⟨hm, hI, hca⟩
     have hlc : (lqC t i : Int) = (lqAt t i).2 - (lqAt t i).1 + 1 := by unfold lqC; omega
     dsimp only at hm hI hca ⊢
     all_goals refine tc_seq fun K2 hK2 => ?_
     all_goals refine tc_seq fun K3 hK3 => ?_
     all_goals refine tc_draw (by kernel_rfl) ?_
     all_goals refine tx_p 0 rfl (by kernel_rfl) (y_move rfl) rfl (fun _ _ _ h => h) (fun _ h => h) ?_
     all_goals (refine tx_q 1 rfl (by kernel_rfl) (y_load1o (v := ptr bw) rfl (fun w' hw' => cell0 ((hw'.fr (w0 := w1) (S := S) (MI.m (by repeat constructor))).keepS n1 g1) rfl)) rfl (fun _ _ _ h => h) (fun _ h => h) ?_)
     all_goals refine tx_p 2 rfl (by kernel_rfl) (y_nil rfl) rfl (fun _ _ _ h => h) (fun _ h => h) ?_
     all_goals refine tx_p 3 rfl (by kernel_rfl) (y_field rfl) rfl (fun _ _ _ h => h) (fun _ h => h) ?_
     all_goals refine tx_p 4 rfl (by kernel_rfl) (y_field rfl) rfl (fun _ _ _ h => h) (fun _ h => h) ?_
     all_goals (refine tx_q 5 rfl (by kernel_rfl) (y_load1o (v := .slice (some ⟨bl, ol, none⟩) t.liquids.length cp1) rfl (fun w' hw' => (hwk w' (hw'.fr (w0 := w1) (S := S) (MI.m (by repeat constructor)))).1)) rfl (fun _ _ _ h => h) (fun _ h => h) ?_)
     all_goals (refine tx_q 6 rfl (by kernel_rfl) (y_load1o (v := vi i) rfl (fun w' hw' => cell0 ((hw'.fr (w0 := w1) (S := S) (MI.m (by repeat constructor))).keepS n2 g2) rfl)) rfl (fun _ _ _ h => h) (fun _ h => h) ?_)
     all_goals (refine tx_p 7 rfl (by kernel_rfl) (y_index rfl rfl (by omega) rfl) rfl (fun _ _ _ h => h) (fun _ h => h) ?_)
     all_goals refine tx_p 8 rfl (by kernel_rfl) (y_field rfl) rfl (fun _ _ _ h => h) (fun _ h => h) ?_
     all_goals (refine tx_q 9 rfl (by kernel_rfl) (y_load1o (v := vi (lqAt t i).2) rfl (fun w' hw' => by rw [show Int.toNat (i : Int) * 2 = i * 2 from by omega]; exact ((hrd1 w' (hw'.fr (w0 := w1) (S := S) (MI.m (by repeat constructor)))).1.ls.at hi).2)) rfl (fun _ _ _ h => h) (fun _ h => h) ?_)
     all_goals refine tx_p 10 rfl (by kernel_rfl) (y_leq rfl rfl) rfl (fun _ _ _ h => h) (fun _ h => h) ?_
     all_goals refine tx_done (by kernel_rfl) ?_
     all_goals (refine hK3 ?_; try (clear hK3; clear K3))
     all_goals (
      refine tc_cond rfl (fun hc => ?_) (fun hc => ?_)
      · try simp only [decide_eq_true_eq, decide_eq_false_iff_not, Int.not_lt, Int.not_le, Bool.not_eq_true', Bool.not_eq_false', Decidable.not_not, not_true_eq_false] at hc
        all_goals first | (exfalso; with_reducible exact bft hc) | (exfalso; with_reducible exact btf hc) | (exfalso; omega) | skip
        all_goals refine tc_skip ?_
        all_goals (refine hK2 ?_; try (clear hK2; clear K2))
        all_goals refine tc_seq fun K4 hK4 => ?_
        all_goals refine tc_block ?_
        all_goals refine tc_seq fun K5 hK5 => ?_
        all_goals refine tc_region ?_
        all_goals refine tl_q (y_assign rfl) rfl ?_
        all_goals refine tl_nil ?_
        all_goals (refine hK5 ?_; try (clear hK5; clear K5))
        all_goals refine tc_seq fun K6 hK6 => ?_
        all_goals refine tc_seq fun K7 hK7 => ?_
        all_goals refine tc_region ?_
        all_goals (refine tl_q (y_load1o (v := ptr bw) rfl (fun w' hw' => cell0 ((hw'.fr (w0 := w1) (S := S) (MI.m (by repeat constructor))).keepS n1 g1) rfl)) rfl ?_)
        all_goals refine tl_q (y_nil rfl) rfl ?_
        all_goals refine tl_q (y_field rfl) rfl ?_
        all_goals refine tl_q (y_field rfl) rfl ?_
        all_goals (refine tl_q (y_load1o (v := .slice ad2 t.tests.length cp2) rfl (fun w' hw' => (hwk w' (hw'.fr (w0 := w1) (S := S) (MI.m (by repeat constructor)))).2)) rfl ?_)
        all_goals refine tl_q (y_len rfl) rfl ?_
        all_goals refine tl_q (y_move rfl) rfl ?_
        all_goals refine tl_nil ?_
        all_goals (refine hK7 ?_; try (clear hK7; clear K7))
        all_goals refine tc_block ?_
        all_goals (
         refine tc_loop (fun q : Nat × Array MapEntry × Nat => q.1 ≤ t.tests.length ∧ Cache (readV t.s) q.2.1.toList) (fun q => [(0, .func (.yield l) #[] #[]), (1, ptr b1), (2, ptr b2), (3, ptr b3), (4, ptr b4), (6, vi ((lqAt t i).1 + m)), (7, .bool (passN t e i out ((lqAt t i).1 + m) q.1)), (36, .slice ad2 t.tests.length cp2), (37, vi t.tests.length), (38, vi q.1)]) (fun _ => [(w1, S)]) (fun q => Hx st ++ [(bm, .map q.2.1 q.2.2)]) (fun q => t.tests.length - q.1) ?_ ?_
         · exact tk_start (0, es, ck) ⟨Nat.zero_le _, hca⟩ (.cons rfl (.cons rfl (.cons rfl (.cons rfl (.cons rfl (.cons rfl (.cons rfl (.cons rfl (.cons rfl (.cons rfl .nil)))))))))) (fun _ h => h)
         · rintro ⟨j, es2, ck2⟩ ⟨hj, hca2⟩
           dsimp only at hj hca2 ⊢
           all_goals refine tc_seq fun K8 hK8 => ?_
           all_goals refine tc_region ?_
           all_goals refine tl_q (y_lss rfl rfl) rfl ?_
           all_goals refine tl_nil ?_
           all_goals (refine hK8 ?_; try (clear hK8; clear K8))
           all_goals refine tc_seq fun K9 hK9 => ?_
           all_goals (
            refine tc_cond rfl (fun hc => ?_) (fun hc => ?_)
            · try simp only [decide_eq_true_eq, decide_eq_false_iff_not, Int.not_lt, Int.not_le, Bool.not_eq_true', Bool.not_eq_false', Decidable.not_not, not_true_eq_false] at hc
              all_goals first | (exfalso; with_reducible exact bft hc) | (exfalso; with_reducible exact btf hc) | (exfalso; omega) | skip
              all_goals refine tc_skip ?_
              all_goals (refine hK9 ?_; try (clear hK9; clear K9))
              all_goals refine tc_seq fun K10 hK10 => ?_
              all_goals refine tc_block ?_
              all_goals refine tc_seq fun K11 hK11 => ?_
              all_goals (have had' := hadt (by omega); subst had')
              all_goals (have htj : tsB t (t.tests.getD j (0, 0, 0)) = true := List.all_eq_true.1 hv.ts _ (by rw [List.getD_eq_getElem?_getD, List.getElem?_eq_getElem (by omega)]; exact List.getElem_mem (by omega)))
              all_goals refine tc_region ?_
              all_goals refine tl_q (y_move rfl) rfl ?_
              all_goals (refine tl_q (y_index rfl rfl (by omega) rfl) rfl ?_)
              all_goals (refine tl_q (y_loadNo (n := 3) rfl (fun w' hw' => by rw [show Int.toNat (j : Int) * 3 = j * 3 from by omega]; exact (hrd1 w' (hw'.fr (w0 := w1) (S := S) (MI.m (by repeat constructor)))).1.ts.at (by omega))) rfl ?_)
              all_goals refine tl_e (e_allocN rfl) rfl (fun b9 _ => ?_)
              all_goals refine tl_q (y_assign rfl) rfl ?_
              all_goals refine tl_e (e_storeW rfl rfl (by repeat constructor) (by rfl) (by rfl) (by simp [Value.oneCell'])) rfl (fun _ _ => ?_)
              all_goals refine tl_nil ?_
              all_goals (refine hK11 ?_; try (clear hK11; clear K11))
              all_goals refine tc_region ?_
              all_goals refine tl_q (y_move rfl) rfl ?_
              all_goals refine tl_q (y_move rfl) rfl ?_
              all_goals (refine tl_gs rfl rfl (fun hc => ?_) (fun hc => ?_) <;> (try simp only [decide_eq_true_eq, decide_eq_false_iff_not, Int.not_lt, Int.not_le, Bool.not_eq_true', Bool.not_eq_false', Decidable.not_not, not_true_eq_false] at hc) <;> (first | refine tl_sk rfl rfl rfl rfl ?_ | refine tl_qg rfl rfl (y_field rfl) rfl ?_))
              all_goals (first | refine tl_sk rfl rfl rfl rfl ?_ | refine tl_qg rfl rfl (y_load1 rfl (by repeat constructor) (by rfl)) rfl ?_)
              all_goals (first | refine tl_sk rfl rfl rfl rfl ?_ | refine tl_qg rfl rfl (y_load1o (v := vi i) rfl (fun w' hw' => cell0 ((hw'.fr (w0 := w1) (S := S) (MI.m (by repeat constructor))).keepS n2 g2) rfl)) rfl ?_)
              all_goals (first | refine tl_sk rfl rfl rfl rfl ?_ | refine tl_qg rfl rfl (y_neq rfl rfl) rfl ?_)
              all_goals (first | refine tl_sk rfl rfl rfl rfl ?_ | refine tl_qg rfl rfl (y_move rfl) rfl ?_)
              all_goals (first | refine tl_su rfl rfl rfl ?_ | (refine tl_gs rfl rfl (fun hc => ?_) (fun hc => ?_) <;> (try simp only [decide_eq_true_eq, decide_eq_false_iff_not, Int.not_lt, Int.not_le, Bool.not_eq_true', Bool.not_eq_false', Decidable.not_not, not_true_eq_false] at hc) <;> (first | refine tl_sk rfl rfl rfl rfl ?_ | refine tl_qg rfl rfl (y_load1o (v := ov) rfl (fun w' hw' => cell0 ((hw'.fr (w0 := w1) (S := S) (MI.m (by repeat constructor))).keepS n3 g3) rfl)) rfl ?_)))
              all_goals (first | refine tl_sk rfl rfl rfl rfl ?_ | refine tl_qg rfl rfl (y_move rfl) rfl ?_ | refine tl_su rfl rfl rfl ?_)
              all_goals (first | refine tl_sk rfl rfl rfl rfl ?_ | refine tl_eg rfl rfl rfl (e_callV rfl (.cons rfl (.cons rfl .nil)) (fun w' hw' => contains_c out ho _ _ w' (hrd1 w' (hw'.fr (w0 := w1) (S := S) (MI.m (by repeat constructor)))).2)) (fun _ _ => ?_) | refine tl_su rfl rfl rfl ?_)
              all_goals (first | refine tl_sk rfl rfl rfl rfl ?_ | refine tl_qg rfl rfl (y_pick_t rfl rfl) rfl ?_ | refine tl_qg rfl rfl (y_pick_f rfl rfl) rfl ?_)
              all_goals (first | refine tl_sk rfl rfl rfl rfl ?_ | refine tl_qg rfl rfl (y_move rfl) rfl ?_)
              all_goals (first | refine tl_sk rfl rfl rfl rfl ?_ | refine tl_su rfl rfl rfl ?_ | (refine tl_gs rfl rfl (fun hc => ?_) (fun hc => ?_) <;> (try simp only [decide_eq_true_eq, decide_eq_false_iff_not, Int.not_lt, Int.not_le, Bool.not_eq_true', Bool.not_eq_false', Decidable.not_not, not_true_eq_false] at hc) <;> (first | refine tl_sk rfl rfl rfl rfl ?_ | refine tl_qg rfl rfl (y_load1o (v := ptr bw) rfl (fun w' hw' => cell0 ((hw'.fr (w0 := w1) (S := S) (MI.m (by repeat constructor))).keepS n1 g1) rfl)) rfl ?_)))
              all_goals (first | refine tl_sk rfl rfl rfl rfl ?_ | refine tl_qg rfl rfl (y_loadNo (n := 3) (vs := [vi e.1, vi e.2.1, vi e.2.2]) rfl (fun w' hw' => (CA_whole (c := (tsV e).cells) (t := 126) (f := (0, 0)) rfl).cells ((hw'.fr (w0 := w1) (S := S) (MI.m (by repeat constructor))).keepS n4 g4))) rfl ?_ | refine tl_su rfl rfl rfl ?_)
              all_goals (first | refine tl_sk rfl rfl rfl rfl ?_ | refine tl_qg rfl rfl (y_loadW rfl (by repeat constructor) (by rfl)) rfl ?_ | refine tl_su rfl rfl rfl ?_)
              all_goals (first | refine tl_sk rfl rfl rfl rfl ?_ | refine tl_qg rfl rfl (y_move rfl) rfl ?_ | refine tl_su rfl rfl rfl ?_)
              all_goals (first | refine tl_sk rfl rfl rfl rfl ?_ | refine tl_eg rfl rfl rfl (e_callU rfl (.cons rfl (.cons rfl (.cons rfl (.cons rfl .nil)))) (fun w' hw' => right_c t hv e he (t.tests.getD j (0, 0, 0)) htj ((lqAt t i).1 + m) _ _ _ _ w' bw bm es2 ck2 (hTW w' es2 ck2 (hw'.fr (w0 := w1) (S := S) (MI.m (by repeat constructor))) (hw'.heap _ (HM.mem (.tail (HM.app _)))) hca2)) (fun _ => .tail (HU.app _))) (fun z hz => ?_) | refine tl_su rfl rfl rfl ?_)
              all_goals (first | refine tl_sk rfl rfl rfl rfl ?_ | refine tl_qg rfl rfl (y_pick_t rfl rfl) rfl ?_ | refine tl_qg rfl rfl (y_pick_f rfl rfl) rfl ?_)
              all_goals (first | refine tl_q (y_pick_t rfl rfl) rfl ?_ | refine tl_q (y_pick_f rfl rfl) rfl ?_)
              all_goals refine tl_q (y_assign rfl) rfl ?_
              all_goals refine tl_nil ?_
              all_goals (refine hK10 ?_; try (clear hK10; clear K10))
              all_goals refine tc_region ?_
              all_goals refine tl_q (y_add rfl rfl (by omega)) rfl ?_
              all_goals refine tl_q (y_move rfl) rfl ?_
              all_goals refine tl_nil ?_
              all_goals (
               first
               | (refine tk_round (j + 1, z.1, z.2) ⟨by dsimp only; omega, hz⟩ (by dsimp only; omega) (.cons rfl (.cons rfl (.cons rfl (.cons rfl (.cons rfl (.cons rfl (.cons ?_ (.cons rfl (.cons rfl (.cons rfl .nil)))))))))) (fun _ h => h.subl (SB.s (by repeat constructor)) (SB.s (by repeat constructor)))
                  show some (Value.bool _) = some (Value.bool _); congr 2; rw [passN_succ]; unfold passF; simp_all)
               | (refine tk_round (j + 1, es2, ck2) ⟨by dsimp only; omega, hca2⟩ (by dsimp only; omega) (.cons rfl (.cons rfl (.cons rfl (.cons rfl (.cons rfl (.cons rfl (.cons ?_ (.cons rfl (.cons rfl (.cons rfl .nil)))))))))) (fun _ h => h.subl (SB.s (by repeat constructor)) (SB.s (by repeat constructor)))
                  show some (Value.bool _) = some (Value.bool _); congr 2; rw [passN_succ]; unfold passF; simp_all))
            · try simp only [decide_eq_true_eq, decide_eq_false_iff_not, Int.not_lt, Int.not_le, Bool.not_eq_true', Bool.not_eq_false', Decidable.not_not, not_true_eq_false] at hc
              all_goals first | (exfalso; with_reducible exact bft hc) | (exfalso; with_reducible exact btf hc) | (exfalso; omega) | skip
              all_goals refine tc_exit ?_
              all_goals (refine hK6 ?_; try (clear hK6; clear K6))
              all_goals refine tc_seq fun K12 hK12 => ?_
              all_goals (have hjt : j = t.tests.length := by omega)
              all_goals subst hjt
              all_goals refine tc_region ?_
              all_goals refine tl_q (y_move rfl) rfl ?_
              all_goals refine tl_q (y_move rfl) rfl ?_
              all_goals (refine tl_gs rfl rfl (fun hc => ?_) (fun hc => ?_) <;> (try simp only [decide_eq_true_eq, decide_eq_false_iff_not, Int.not_lt, Int.not_le, Bool.not_eq_true', Bool.not_eq_false', Decidable.not_not, not_true_eq_false] at hc) <;> (first | refine tl_sk rfl rfl rfl rfl ?_ | refine tl_qg rfl rfl (y_move rfl) rfl ?_))
              all_goals (first | refine tl_sk rfl rfl rfl rfl ?_ | refine tl_qg rfl rfl (y_move rfl) rfl ?_)
              all_goals (first | refine tl_sk rfl rfl rfl rfl ?_ | refine tl_rg rfl rfl (e_yield [(bm, .map es2 ck2)] (denseN t e i out m).length st ((lqAt t i).1 + m) rfl rfl rfl (.cons rfl .nil) rfl (denseN_get (by omega) (by assumption)) hI hY (by simp) rfl) (fun q hq => ?_))
              all_goals (first | refine tl_sk rfl rfl rfl rfl ?_ | refine tl_qg rfl rfl (y_not rfl) rfl ?_)
              all_goals (first | refine tl_q (y_pick_t rfl rfl) rfl ?_ | refine tl_q (y_pick_f rfl rfl) rfl ?_)
              all_goals refine tl_nil ?_
              all_goals (refine hK12 ?_; try (clear hK12; clear K12))
              all_goals (
               refine tc_cond rfl (fun hc => ?_) (fun hc => ?_)
               · try simp only [decide_eq_true_eq, decide_eq_false_iff_not, Int.not_lt, Int.not_le, Bool.not_eq_true', Bool.not_eq_false', Decidable.not_not, not_true_eq_false] at hc
                 all_goals first | (exfalso; with_reducible exact bft hc) | (exfalso; with_reducible exact btf hc) | (exfalso; omega) | skip
                 all_goals refine tc_ret ?_
                 all_goals (repeat (first | refine tk_then_ret ?_ | refine tk_block_ret ?_))
                 all_goals first | refine tk_ret rfl rfl .nil ?_ | refine tk_retM rfl (by repeat constructor) rfl .nil ?_
                 all_goals (
                  first
                  | (rcases hq with hq | hq
                     · rw [hq.1] at hc; cases hc
                     · exact fun w' hw' => ⟨(q.2, .map es2 ck2), rfl, hw'.fr (by simp), (hw'.sub (bs' := [(w1, S)]) (by simp) (List.sublist_append_left _ _)).knS (by simp), .inr hq.2, hw'.heap _ (HM.mem (HM.app _)), es2, ck2, rfl, hca2⟩)
                  | (have hml : m = lqC t i := by omega
                     subst hml
                     exact fun w' hw' => ⟨(st, .map es ck), rfl, hw'.fr (by simp), (hw'.sub (bs' := [(w1, S)]) (by simp) (List.sublist_append_left _ _)).knS (by simp), .inl hI, hw'.heap _ (HM.mem (HM.app _)), es, ck, rfl, hca⟩))
               · try simp only [decide_eq_true_eq, decide_eq_false_iff_not, Int.not_lt, Int.not_le, Bool.not_eq_true', Bool.not_eq_false', Decidable.not_not, not_true_eq_false] at hc
                 all_goals first | (exfalso; with_reducible exact bft hc) | (exfalso; with_reducible exact btf hc) | (exfalso; omega) | skip
                 all_goals refine tc_skip ?_
                 all_goals (refine hK4 ?_; try (clear hK4; clear K4))
                 all_goals refine tc_region ?_
                 all_goals refine tl_q (y_move rfl) rfl ?_
                 all_goals refine tl_q (y_add rfl rfl (by omega)) rfl ?_
                 all_goals refine tl_q (y_assign rfl) rfl ?_
                 all_goals refine tl_nil ?_
                 all_goals (
                  first
                  | (have hs2 : denseN t e i out (m + 1) = denseN t e i out m ++ [(lqAt t i).1 + m] := by rw [denseN_succ, if_pos (by assumption)]
                     rcases hq with hq | hq
                     · refine tk_round (m + 1, q.2, es2, ck2) ⟨by dsimp only; omega, by dsimp only; rw [hs2, List.length_append]; exact hq.2, hca2⟩ (by dsimp only; omega) (.cons rfl (.cons rfl (.cons rfl (.cons rfl (.cons rfl (.cons ?_ .nil)))))) (fun _ h => h)
                       show some (vi _) = some (vi _); congr 2; dsimp only; omega
                     · rw [hq.1] at hc; cases hc)
                  | (have hs2 : denseN t e i out (m + 1) = denseN t e i out m := by rw [denseN_succ, if_neg (by simp_all)]
                     refine tk_round (m + 1, st, es2, ck2) ⟨by dsimp only; omega, by dsimp only; rw [hs2]; exact hI, hca2⟩ (by dsimp only; omega) (.cons rfl (.cons rfl (.cons rfl (.cons rfl (.cons rfl (.cons ?_ .nil)))))) (fun _ h => h)
                     show some (vi _) = some (vi _); congr 2; dsimp only; omega)))))
      · try simp only [decide_eq_true_eq, decide_eq_false_iff_not, Int.not_lt, Int.not_le, Bool.not_eq_true', Bool.not_eq_false', Decidable.not_not, not_true_eq_false] at hc
        all_goals first | (exfalso; with_reducible exact bft hc) | (exfalso; with_reducible exact btf hc) | (exfalso; omega) | skip
        all_goals refine tc_exit ?_
        all_goals first | refine tk_end rfl rfl .nil ?_ | refine tk_endM rfl (by repeat constructor) rfl .nil ?_
        all_goals (
         first
         | (rcases hq with hq | hq
            · rw [hq.1] at hc; cases hc
            · exact fun w' hw' => ⟨(q.2, .map es2 ck2), rfl, hw'.fr (by simp), (hw'.sub (bs' := [(w1, S)]) (by simp) (List.sublist_append_left _ _)).knS (by simp), .inr hq.2, hw'.heap _ (HM.mem (HM.app _)), es2, ck2, rfl, hca2⟩)
         | (have hml : m = lqC t i := by omega
            subst hml
            exact fun w' hw' => ⟨(st, .map es ck), rfl, hw'.fr (by simp), (hw'.sub (bs' := [(w1, S)]) (by simp) (List.sublist_append_left _ _)).knS (by simp), .inl hI, hw'.heap _ (HM.mem (HM.app _)), es, ck, rfl, hca⟩))))
end Go.Sp
/-
  Package trial: one density for each liquid.
-/
namespace Go.Sp
open Go Go.Proofs
theorem tk_ibe {id id' : Nat} {Q : Exit → Act → World → Prop} {N : NN} {F : List (Nat × Value)} {bs : List (World × List Nat)} {H : List (Nat × Obj)} (hne : ¬ id' = id) (h : TK (Q (.exit id')) N F bs H) : TK (Exit.inBlock id Q (.exit id')) N F bs H := by
  unfold TK at h ⊢
  intro a w ht hw
  show if id' = id then Q .normal a w else Q (.exit id') a w
  rw [if_neg hne]
  exact h a w ht hw
/-- The first densities, of the first liquids. -/
def dlN (t : Tr) (e : Int × Int × Int) (out : List Int) (n : Nat) : List Int := (List.range n).map fun i => (denseL t e i out).headD 0
theorem dlN_succ (t : Tr) (e : Int × Int × Int) (out : List Int) (n : Nat) : dlN t e out (n + 1) = dlN t e out n ++ [(denseL t e n out).headD 0] := by simp [dlN, List.range_succ]
theorem dlN_len (t : Tr) (e : Int × Int × Int) (out : List Int) (n : Nat) : (dlN t e out n).length = n := by simp [dlN]
def denOk (t : Tr) (e : Int × Int × Int) (out : List Int) : Bool := (List.range t.liquids.length).all fun i => !(denseL t e i out).isEmpty
def denD (t : Tr) (e : Int × Int × Int) (out : List Int) : List Int := if denOk t e out = true then dlN t e out t.liquids.length else []
theorem denOk_no {t : Tr} {e : Int × Int × Int} {out : List Int} {i : Nat} (hi : i < t.liquids.length) (h : (denseL t e i out).length = 0) : denOk t e out = false := by
  cases hb : denOk t e out
  · rfl
  · have := List.all_eq_true.1 hb i (List.mem_range.2 hi)
    rw [List.eq_nil_of_length_eq_zero h] at this; simp at this
theorem denOk_yes {t : Tr} {e : Int × Int × Int} {out : List Int} (h : ∀ i : Nat, i < t.liquids.length → 0 < (denseL t e i out).length) : denOk t e out = true :=
  List.all_eq_true.2 fun i hi => by
    have := h i (List.mem_range.1 hi)
    cases hd : denseL t e i out with
    | nil => rw [hd] at this; simp at this
    | cons _ _ => rfl
/-- The cell of the result, its own block, and the rest. -/
def dnH (t : Tr) (e : Int × Int × Int) (out : List Int) (b6 b4 : Nat) (Ds : List Nat) : OutS → List (Nat × Obj)
  | (_, none) => (b6, .cells #[.slice none 0 0] 22 (0, 0)) :: (b4, .cells (tsV e).cells 126 (0, 0)) :: Dl Ds
  | (n, some (b, cap, junk)) => (b, .cells ((dlN t e out n).map vi ++ junk).toArray 3 (0, 0)) :: (b6, .cells #[.slice (some ⟨b, 0, none⟩) n cap] 22 (0, 0)) :: (b4, .cells (tsV e).cells 126 (0, 0)) :: Dl Ds
def outM : OutS → Prop
  | (n, none) => n = 0
  | (n, some (_, cap, junk)) => n ≤ cap ∧ junk.length = cap - n
theorem nodup4 {a b c d : Nat} {M : List Nat} (h : (a :: b :: c :: d :: M).Nodup) : a ∉ M ∧ b ∉ M ∧ c ∉ M ∧ d ∉ M := by
  simp only [List.nodup_cons, List.mem_cons, not_or] at h
  exact ⟨h.1.2.2.2, h.2.1.2.2, h.2.2.1.2, h.2.2.2.1⟩
theorem den_seq (t : Tr) (hv : VT t) (e : Int × Int × Int) (he : ErB e) (out : List Int) (ho : (out.length : Int) ≤ 9000000000000000000) (oa : Option Addr) (oc : Nat) (sl pl ll tl : Value) (w : World) (bw bm : Nat) (es : Array MapEntry) (ck : Nat) (hT : TW w t sl pl ll tl bw bm es ck) (hO : RdI w (.slice oa out.length oc) out) (i : Nat) (hi : i < t.liquids.length) (w' : World) (x : Nat × Nat × Nat × Nat) {bs : List (World × List Nat)} (ob : Obj) (H : List (Nat × Obj))
    (hw : HG bs ([(x.2.2.1, Obj.cells #[.slice oa out.length oc] 22 (0, 0)), (x.2.1, .cells #[vi i] 3 (0, 0)), (x.2.2.2, .cells (tsV e).cells 126 (0, 0)), (x.1, .cells #[ptr bw] 130 (0, 0))] ++ (bm, ob) :: H) w') (hb : (w, [bm]) ∈ bs) :
    SeqP Tryz.prog 154 #[ptr x.1, ptr x.2.1, ptr x.2.2.1, ptr x.2.2.2] (fun d : Int => [vi d]) (denseL t e i out) bm (JMt t) (bm :: H.map Prod.fst) w' := by
  have hn := hw.nodup
  simp only [List.cons_append, List.nil_append, List.map_cons] at hn
  obtain ⟨n1, n2, n3, n4⟩ := nodup4 hn
  have hbwlt : bw < w.heap.size := (Array.getElem?_eq_some_iff.1 hT.hw).1
  have hf := hw.base _ hb
  have hown : ∀ z ∈ bm :: H.map Prod.fst, z ∈ [bm] ∨ w.heap.size ≤ z := fun z hz => by
    rcases List.mem_cons.1 hz with rfl | hz
    · exact .inl (by simp)
    · obtain ⟨q, hq, rfl⟩ := List.mem_map.1 hz
      exact hw.own q (by simp [hq]) _ hb
  refine dense_seq t hv e he i hi out ho _ sl pl ll tl w' bw bm x.1 x.2.1 x.2.2.1 x.2.2.2 _ (hw.heap (x.1, .cells #[ptr bw] 130 (0, 0)) (by simp)) (hw.heap (x.2.1, .cells #[vi i] 3 (0, 0)) (by simp)) (hw.heap (x.2.2.1, Obj.cells #[.slice oa out.length oc] 22 (0, 0)) (by simp)) (hw.heap (x.2.2.2, .cells (tsV e).cells 126 (0, 0)) (by simp)) n4 n2 n1 n3 (hf.keepS (by simpa using hT.ne) hT.hw) (fun h => ?_) (by simp) hT.o1 hT.o2 hT.o3 hT.o4 (fun w2 f => ?_)
  · rcases hown _ h with g | g
    · exact hT.ne (by simpa using g)
    · omega
  · have f2 := hf.trans f hown
    exact ⟨hT.rd.frM f2 (fun x hx => by obtain rfl := List.mem_singleton.1 hx; exact ⟨es, ck, hT.hm⟩), Reads.frM hO f2 (fun x hx => by obtain rfl := List.mem_singleton.1 hx; exact ⟨es, ck, hT.hm⟩)⟩
set_option maxHeartbeats 1000000 in
theorem densities_c (t : Tr) (hv : VT t) (e : Int × Int × Int) (he : ErB e) (out : List Int) (ho : (out.length : Int) ≤ 9000000000000000000) (oa : Option Addr) (oc : Nat) (sl pl ll tl : Value) (w : World) (bw bm : Nat) (es : Array MapEntry) (ck : Nat) (hT : TW w t sl pl ll tl bw bm es ck) (hO : RdI w (.slice oa out.length oc) out) :
    CnX Tryz.prog 112 #[ptr bw, tsV e, .slice oa out.length oc] w [bm] (fun y : Value × Array MapEntry × Nat => .tuple #[y.1, .bool (denOk t e out)]) (fun y w' => (RdI w' y.1 (denD t e out) ∧ Cache (readV t.s) y.2.1.toList) ∧ w'.heap[bm]? = some (.map y.2.1 y.2.2)) := by
  have hne := hT.ne
  have hl3 := hv.l3
  have hbwlt : bw < w.heap.size := (Array.getElem?_eq_some_iff.1 hT.hw).1
  have hkeep : ∀ w', Fr [bm] w w' → w'.heap[bw]? = some (wkT t sl pl ll tl bm) := fun w' f => f.keepS (by simpa using hne) hT.hw
  have hrd : ∀ w', Fr [bm] w w' → RdTr w' t sl pl ll tl ∧ RdI w' (.slice oa out.length oc) out := fun w' f =>
    ⟨hT.rd.frM f (fun x hx => by obtain rfl := List.mem_singleton.1 hx; exact ⟨es, ck, hT.hm⟩), Reads.frM hO f (fun x hx => by obtain rfl := List.mem_singleton.1 hx; exact ⟨es, ck, hT.hm⟩)⟩
  obtain ⟨ad1, cp1, bl, ol, rfl, _, _⟩ := hT.rd.ls.open
  refine cnxS (vs := [_, _, _]) (S := [bm]) [(bm, .map es ck)] Tryz.func112 rfl rfl ⟨by simp [hT.hm], by simp, by simp⟩ ?_
  all_goals refine tc_seq fun K1 hK1 => ?_
  all_goals refine tc_region ?_
  all_goals refine tl_e (e_box rfl rfl rfl) rfl (fun b4 _ => ?_)
  all_goals refine tl_e (e_alloc1 rfl) rfl (fun b6 _ => ?_)
  all_goals refine tl_q (y_assign rfl) rfl ?_
  all_goals refine tl_nil ?_
  all_goals (refine hK1 ?_; try (clear hK1; clear K1))
  all_goals refine tc_seq fun K2 hK2 => ?_
  all_goals refine tc_seq fun K3 hK3 => ?_
  all_goals refine tc_region ?_
  all_goals refine tl_q (y_move rfl) rfl ?_
  all_goals refine tl_q (y_nil rfl) rfl ?_
  all_goals refine tl_q (y_field rfl) rfl ?_
  all_goals refine tl_q (y_field rfl) rfl ?_
  all_goals (refine tl_q (y_load1o (v := .slice ad1 t.liquids.length cp1) rfl (fun w' hw' => cell0 (hkeep w' (hw'.fr (w0 := w) (S := [bm]) (MI.m (by repeat constructor)))) rfl)) rfl ?_)
  all_goals refine tl_q (y_len rfl) rfl ?_
  all_goals refine tl_q (y_move rfl) rfl ?_
  all_goals refine tl_nil ?_
  all_goals (refine hK3 ?_; try (clear hK3; clear K3))
  all_goals refine tc_block ?_
  all_goals (
   refine tc_loopN (fun p : Nat × Option (Nat × Nat × List Value) × (Array MapEntry × Nat) × List Nat => p.1 ≤ t.liquids.length ∧ outM (p.1, p.2.1) ∧ Cache (readV t.s) p.2.2.1.1.toList ∧ ∀ j : Nat, j < p.1 → 0 < (denseL t e j out).length) (fun p => ⟨Tryz.f112.ntmps, p.2.2.2.map coll⟩) (fun p => [(0, ptr bw), (2, .slice oa out.length oc), (4, ptr b4), (6, ptr b6), (15, vi t.liquids.length), (16, vi p.1)]) (fun _ => [(w, [bm])]) (fun p => (bm, .map p.2.2.1.1 p.2.2.1.2) :: dnH t e out b6 b4 p.2.2.2 (p.1, p.2.1)) (fun p => t.liquids.length - p.1) ?_ ?_
   · exact tk_startN (0, none, (es, ck), []) ⟨Nat.zero_le _, rfl, hT.hc, fun j hj => absurd hj (Nat.not_lt_zero j)⟩ rfl (.cons rfl (.cons rfl (.cons rfl (.cons rfl (.cons rfl (.cons rfl .nil)))))) (fun _ h => h.perm (List.perm_append_comm (l₁ := [_, _]) (l₂ := [_])))
   · rintro ⟨i, oo, ⟨es2, ck2⟩, Ds⟩ ⟨hi, hok, hca, hall⟩
     dsimp only at hi hok hca hall ⊢
     refine tc_fact (bm ∉ (dnH t e out b6 b4 Ds (i, oo)).map Prod.fst) (fun w' h => (List.nodup_cons.1 h.nodup).1) (fun hbm0 => ?_)
     rcases oo with _ | ⟨b0, cap, junk⟩
     all_goals (dsimp only [outM] at hok; dsimp only [dnH])
     all_goals refine tc_seq fun K4 hK4 => ?_
     all_goals refine tc_region ?_
     all_goals refine tl_q (y_lss rfl rfl) rfl ?_
     all_goals refine tl_nil ?_
     all_goals (refine hK4 ?_; try (clear hK4; clear K4))
     all_goals refine tc_seq fun K5 hK5 => ?_
     all_goals (
      refine tc_cond rfl (fun hc => ?_) (fun hc => ?_)
      · try simp only [decide_eq_true_eq, decide_eq_false_iff_not, Int.not_lt, Int.not_le, Bool.not_eq_true', Bool.not_eq_false', Decidable.not_not, not_true_eq_false] at hc
        all_goals first | (exfalso; with_reducible exact bft hc) | (exfalso; with_reducible exact btf hc) | (exfalso; omega) | skip
        all_goals refine tc_skip ?_
        all_goals (refine hK5 ?_; try (clear hK5; clear K5))
        all_goals refine tc_seq fun K6 hK6 => ?_
        all_goals refine tc_block ?_
        all_goals refine tc_seq fun K7 hK7 => ?_
        all_goals refine tc_region ?_
        all_goals refine tl_q (y_move rfl) rfl ?_
        all_goals refine tl_q (y_assign rfl) rfl ?_
        all_goals refine tl_nil ?_
        all_goals (refine hK7 ?_; try (clear hK7; clear K7))
        all_goals refine tc_seq fun K8 hK8 => ?_
        all_goals refine tc_seq fun K9 hK9 => ?_
        all_goals refine tc_region ?_
        all_goals refine tl_q (y_move rfl) rfl ?_
        all_goals (refine tl_q (y_loadW rfl (by repeat constructor) (by rfl)) rfl ?_)
        all_goals refine tl_q (y_move rfl) rfl ?_
        all_goals refine tl_q (y_move rfl) rfl ?_
        all_goals refine tl_e (e_callN rfl (.cons rfl (.cons rfl (.cons rfl (.cons rfl .nil)))) (fun w' hw' => tdense_c e i bw oa out.length oc w')) rfl (fun x hx => ?_)
        all_goals refine tl_nil ?_
        all_goals (refine hK9 ?_; try (clear hK9; clear K9))
        all_goals refine tc_block ?_
        all_goals (
         first
         | refine tc_rangeP (α := Int) (σ := OutS) (gf := 154) (lb := #[ptr x.1, ptr x.2.1, ptr x.2.2.1, ptr x.2.2.2]) (enc := fun d => [vi d]) (denseL t e i out) (bm :: (dnH t e out b6 b4 Ds (i, none)).map Prod.fst) bm (.map es2 ck2) (JMt t) (dnH t e out b6 b4 Ds) (fun k st => k = 0 ∧ st = (i, none)) (fun c st => c = .exit 2 ∧ outM st ∧ st.1 = i + 1 ∧ st.2.isSome = true ∧ 0 < (denseL t e i out).length ∧ bm ∉ (dnH t e out b6 b4 Ds st).map Prod.fst) (i, none) rfl rfl (fun _ => rfl) ⟨rfl, rfl⟩ (fun q hq => List.mem_cons_of_mem _ (List.mem_map.2 ⟨q, hq, rfl⟩)) (fun w' h => h.subl (SB.s (by repeat constructor)) (SB.s (by repeat constructor))) (by simp) ⟨es2, ck2, rfl, hca⟩ (fun st h => by rcases h with ⟨_, _, rfl⟩ | ⟨_, _, _, _, _, _, h⟩; exact hbm0; exact h) (fun w' hw' => den_seq t hv e he out ho oa oc sl pl _ tl w bw bm es ck hT hO i (by omega) w' x _ _ hw' (by simp)) ?_ ?_ ?_
         | refine tc_rangeP (α := Int) (σ := OutS) (gf := 154) (lb := #[ptr x.1, ptr x.2.1, ptr x.2.2.1, ptr x.2.2.2]) (enc := fun d => [vi d]) (denseL t e i out) (bm :: (dnH t e out b6 b4 Ds (i, some (b0, cap, junk))).map Prod.fst) bm (.map es2 ck2) (JMt t) (dnH t e out b6 b4 Ds) (fun k st => k = 0 ∧ st = (i, some (b0, cap, junk))) (fun c st => c = .exit 2 ∧ outM st ∧ st.1 = i + 1 ∧ st.2.isSome = true ∧ 0 < (denseL t e i out).length ∧ bm ∉ (dnH t e out b6 b4 Ds st).map Prod.fst) (i, some (b0, cap, junk)) rfl rfl (fun _ => rfl) ⟨rfl, rfl⟩ (fun q hq => List.mem_cons_of_mem _ (List.mem_map.2 ⟨q, hq, rfl⟩)) (fun w' h => h.subl (SB.s (by repeat constructor)) (SB.s (by repeat constructor))) (by simp) ⟨es2, ck2, rfl, hca⟩ (fun st h => by rcases h with ⟨_, _, rfl⟩ | ⟨_, _, _, _, _, _, h⟩; exact hbm0; exact h) (fun w' hw' => den_seq t hv e he out ho oa oc sl pl _ tl w bw bm es ck hT hO i (by omega) w' x _ _ hw' (by simp)) ?_ ?_ ?_
         · intro l R0 R1 k st d w2 hlb hb2 hx2 hI K hK
           obtain ⟨rfl, rfl⟩ := hI
           have hdp : 0 < (denseL t e i out).length := (List.getElem?_eq_some_iff.1 hx2).1
           have hdh : (denseL t e i out).headD 0 = d := by rw [List.headD_eq_head?_getD, List.head?_eq_getElem?, hx2]; rfl
           all_goals (dsimp only [dnH] at hK ⊢)
           all_goals refine tc_region ?_
           all_goals refine tl_q (y_assign rfl) rfl ?_
           all_goals refine tl_nil ?_
           all_goals refine hK ?_
           all_goals clear hK
           all_goals refine tc_block ?_
           all_goals refine tc_seq fun K10 hK10 => ?_
           all_goals refine tc_region ?_
           all_goals (refine tl_q (y_load1 rfl (by repeat constructor) (by rfl)) rfl ?_)
           all_goals refine tl_q (y_move rfl) rfl ?_
           all_goals refine tl_e (e_bslice rfl (by (repeat (first | exact .nil | apply PV.one rfl rfl)); done) rfl rfl) rfl (fun _ _ => ?_)
           all_goals (first | refine tl_e (e_append_own (old := (dlN t e out i).map vi) (junk := junk) rfl rfl rfl (by repeat constructor) (by simp [dlN_len]) (by omega) hok.1 (fun w' hw' => RdI.own0 (xs := [d]) hw' (by repeat constructor)) (fun u hu => by obtain ⟨_, _, rfl⟩ := List.mem_map.1 hu; rfl) (by simp only [List.length_cons, List.length_nil]; omega) rfl) rfl (fun y hy => ?_) | refine tl_e (e_append_nil rfl rfl rfl (fun w' hw' => RdI.own0 (xs := [d]) hw' (by repeat constructor)) (fun u hu => by obtain ⟨_, _, rfl⟩ := List.mem_map.1 hu; rfl) Nat.zero_lt_one (Nat.le_of_ble_eq_true rfl) rfl) rfl (fun y hy => ?_))
           all_goals refine tl_e (e_store1 rfl rfl (by repeat constructor) (by repeat constructor) (by rfl) (by rfl)) rfl (fun _ _ => ?_)
           all_goals refine tl_nil ?_
           all_goals (refine hK10 ?_; try (clear hK10; clear K10))
           all_goals refine tc_exit ?_
           all_goals (
            refine tk_ibe (by decide) ?_
            refine tk_fact (y.1 ≠ bm) (fun w' h => ?_) (fun hyb => ?_)
            · intro hyb
              rcases h.own (y.1, _) List.mem_cons_self (w2, _) List.mem_cons_self with g | g
              · rw [hyb] at g
                rcases List.mem_cons.1 g with g | g
                · exact hlb g.symm
                · exact hbm0 g
              · dsimp only at g; omega
            · have hs2 := dlN_succ t e out i
              rw [hdh] at hs2
              refine tk_rexit (i + 1, some (y.1, y.2.1, y.2.2)) ⟨rfl, ?_, rfl, rfl, hdp, ?_⟩ (fun w' h => ?_)
              · dsimp only [outM]; simp only [List.length_cons, List.length_nil] at hy; omega
              · dsimp only [dnH] at hbm0 ⊢
                simp only [List.map_cons, List.mem_cons, not_or] at hbm0 ⊢
                first
                | exact ⟨Ne.symm hyb, hbm0.1, hbm0.2⟩
                | exact ⟨Ne.symm hyb, hbm0.2.1, hbm0.2.2⟩
              · dsimp only [dnH]
                rw [hs2, List.map_append]
                first
                | (rw [show dlN t e out i = [] from List.eq_nil_of_length_eq_zero (by rw [dlN_len]; exact hok), List.map_nil, List.nil_append, show i + 1 = [d].length from by simp only [List.length_cons, List.length_nil]; omega]
                   exact (h.subl (SB.s (by repeat constructor)) (SB.s (by repeat constructor))).sw)
                | exact (h.subl (SB.s (by repeat constructor)) (SB.s (by repeat constructor))).sw)
         · intro D st o' hJo hI
           obtain ⟨hl0, rfl⟩ := hI
           obtain ⟨es3, ck3, rfl, hca3⟩ := hJo
           dsimp only [dnH]
           all_goals (refine hK8 ?_; try (clear hK8; clear K8))
           all_goals refine tc_seq fun K11 hK11 => ?_
           all_goals refine tc_region ?_
           all_goals (refine tl_q (y_load1 rfl (by repeat constructor) (by rfl)) rfl ?_)
           all_goals refine tl_q (y_len rfl) rfl ?_
           all_goals refine tl_q (y_move rfl) rfl ?_
           all_goals refine tl_q (y_leq rfl rfl) rfl ?_
           all_goals refine tl_nil ?_
           all_goals (refine hK11 ?_; try (clear hK11; clear K11))
           all_goals (
            refine tc_cond rfl (fun hc => ?_) (fun hc => ?_)
            · try simp only [decide_eq_true_eq, decide_eq_false_iff_not, Int.not_lt, Int.not_le, Bool.not_eq_true', Bool.not_eq_false', Decidable.not_not, not_true_eq_false] at hc
              all_goals first | (exfalso; with_reducible exact bft hc) | (exfalso; with_reducible exact btf hc) | (exfalso; omega) | skip
              all_goals refine tc_seq fun K12 hK12 => ?_
              all_goals refine tc_region ?_
              all_goals refine tl_e (e_store1 rfl rfl (by repeat constructor) (by repeat constructor) (by rfl) (by rfl)) rfl (fun _ _ => ?_)
              all_goals refine tl_q (y_assign rfl) rfl ?_
              all_goals refine tl_nil ?_
              all_goals (refine hK12 ?_; try (clear hK12; clear K12))
              all_goals refine tc_ret ?_
              all_goals (repeat (first | refine tk_then_ret ?_ | refine tk_block_ret ?_))
              all_goals (first
              | refine tk_retD (D :: Ds) rfl (fun _ h => h.perm (.cons _ (List.perm_append_comm (l₁ := [_, _, _])))) rfl (.cons (.one inferInstance rfl (by repeat constructor) (by rfl)) (.cons (.tmp rfl) .nil)) ?_
              | refine tk_retD (D :: Ds) rfl (fun _ h => h.perm (.cons _ (List.perm_append_comm (l₁ := [_, _, _, _])))) rfl (.cons (.one inferInstance rfl (by repeat constructor) (by rfl)) (.cons (.tmp rfl) .nil)) ?_
              | refine tk_retD Ds rfl (fun _ h => h.perm (List.perm_append_comm (l₁ := [_, _, _]))) rfl (.cons (.one inferInstance rfl (by repeat constructor) (by rfl)) (.cons (.tmp rfl) .nil)) ?_
              | refine tk_retD Ds rfl (fun _ h => h.perm (List.perm_append_comm (l₁ := [_, _, _, _]))) rfl (.cons (.one inferInstance rfl (by repeat constructor) (by rfl)) (.cons (.tmp rfl) .nil)) ?_)
              all_goals (
               first
               | (have hno := denOk_no (t := t) (e := e) (out := out) (i := i) (by omega) hl0
                  exact fun w' hw' => ⟨(.slice none 0 0, es3, ck3), by rw [hno]; rfl, hw'.fr (by simp), ⟨by unfold denD; rw [hno]; exact RdI.nil _, hca3⟩, hw'.heap _ (HM.mem (b := bm) (by repeat constructor))⟩)
               | (have hil : i = t.liquids.length := by omega
                  subst hil
                  have hyes := denOk_yes (t := t) (e := e) (out := out) hall
                  refine fun w' hw' => ⟨(.slice (some ⟨b0, 0, none⟩) t.liquids.length cap, es2, ck2), by rw [hyes]; rfl, hw'.fr (by simp), ⟨?_, hca⟩, hw'.heap _ (HM.mem (b := bm) (by repeat constructor))⟩
                  have := RdI.own (xs := dlN t e out t.liquids.length) (cap := cap) (junk := junk) hw' (b := b0) (by repeat constructor)
                  rw [dlN_len] at this
                  unfold denD; rw [if_pos hyes]; exact this)
               | (have := hv.l1; exfalso; omega))
            · try simp only [decide_eq_true_eq, decide_eq_false_iff_not, Int.not_lt, Int.not_le, Bool.not_eq_true', Bool.not_eq_false', Decidable.not_not, not_true_eq_false] at hc
              all_goals first | (exfalso; with_reducible exact bft hc) | (exfalso; with_reducible exact btf hc) | (exfalso; omega) | skip
              all_goals refine tc_skip ?_
              all_goals (refine hK6 ?_; try (clear hK6; clear K6))
              all_goals refine tc_region ?_
              all_goals refine tl_q (y_add rfl rfl (by omega)) rfl ?_
              all_goals refine tl_q (y_move rfl) rfl ?_
              all_goals refine tl_nil ?_
              all_goals (
               refine tk_roundN (i + 1, some (b2, cap2, junk2), (es3, ck3), D :: Ds) ⟨by dsimp only; omega, hok2, hca3, fun j hj => ?_⟩ (by dsimp only; omega) rfl (.cons rfl (.cons rfl (.cons rfl (.cons rfl (.cons rfl (.cons rfl .nil)))))) (fun _ h => h.perm (List.perm_middle (l₁ := [_, _, _, _])).symm)
               rcases Nat.lt_succ_iff_lt_or_eq.1 hj with g | rfl
               · exact hall j g
               · exact hdp))
         · intro D c st o' hJo hJ
           obtain ⟨rfl, hok2, hst, hsome, hdp, _⟩ := hJ
           obtain ⟨es3, ck3, rfl, hca3⟩ := hJo
           obtain ⟨n, o2⟩ := st
           rcases o2 with _ | ⟨b2, cap2, junk2⟩
           · simp at hsome
           dsimp only at hst
           subst hst
           dsimp only [dnH, outM] at hok2 ⊢
           all_goals refine tc_exit ?_
           all_goals (refine hK8 ?_; try (clear hK8; clear K8))
           all_goals refine tc_seq fun K13 hK13 => ?_
           all_goals refine tc_region ?_
           all_goals (refine tl_q (y_load1 rfl (by repeat constructor) (by rfl)) rfl ?_)
           all_goals refine tl_q (y_len rfl) rfl ?_
           all_goals refine tl_q (y_move rfl) rfl ?_
           all_goals refine tl_q (y_leq rfl rfl) rfl ?_
           all_goals refine tl_nil ?_
           all_goals (refine hK13 ?_; try (clear hK13; clear K13))
           all_goals (
            refine tc_cond rfl (fun hc => ?_) (fun hc => ?_)
            · try simp only [decide_eq_true_eq, decide_eq_false_iff_not, Int.not_lt, Int.not_le, Bool.not_eq_true', Bool.not_eq_false', Decidable.not_not, not_true_eq_false] at hc
              all_goals first | (exfalso; with_reducible exact bft hc) | (exfalso; with_reducible exact btf hc) | (exfalso; omega) | skip
              all_goals refine tc_seq fun K14 hK14 => ?_
              all_goals refine tc_region ?_
              all_goals refine tl_e (e_store1 rfl rfl (by repeat constructor) (by repeat constructor) (by rfl) (by rfl)) rfl (fun _ _ => ?_)
              all_goals refine tl_q (y_assign rfl) rfl ?_
              all_goals refine tl_nil ?_
              all_goals (refine hK14 ?_; try (clear hK14; clear K14))
              all_goals refine tc_ret ?_
              all_goals (repeat (first | refine tk_then_ret ?_))
              all_goals (first
              | refine tk_retD (D :: Ds) rfl (fun _ h => h.perm (.cons _ (List.perm_append_comm (l₁ := [_, _, _])))) rfl (.cons (.one inferInstance rfl (by repeat constructor) (by rfl)) (.cons (.tmp rfl) .nil)) ?_
              | refine tk_retD (D :: Ds) rfl (fun _ h => h.perm (.cons _ (List.perm_append_comm (l₁ := [_, _, _, _])))) rfl (.cons (.one inferInstance rfl (by repeat constructor) (by rfl)) (.cons (.tmp rfl) .nil)) ?_
              | refine tk_retD Ds rfl (fun _ h => h.perm (List.perm_append_comm (l₁ := [_, _, _]))) rfl (.cons (.one inferInstance rfl (by repeat constructor) (by rfl)) (.cons (.tmp rfl) .nil)) ?_
              | refine tk_retD Ds rfl (fun _ h => h.perm (List.perm_append_comm (l₁ := [_, _, _, _]))) rfl (.cons (.one inferInstance rfl (by repeat constructor) (by rfl)) (.cons (.tmp rfl) .nil)) ?_)
              all_goals (
               first
               | (have hno := denOk_no (t := t) (e := e) (out := out) (i := i) (by omega) hl0
                  exact fun w' hw' => ⟨(.slice none 0 0, es3, ck3), by rw [hno]; rfl, hw'.fr (by simp), ⟨by unfold denD; rw [hno]; exact RdI.nil _, hca3⟩, hw'.heap _ (HM.mem (b := bm) (by repeat constructor))⟩)
               | (have hil : i = t.liquids.length := by omega
                  subst hil
                  have hyes := denOk_yes (t := t) (e := e) (out := out) hall
                  refine fun w' hw' => ⟨(.slice (some ⟨b0, 0, none⟩) t.liquids.length cap, es2, ck2), by rw [hyes]; rfl, hw'.fr (by simp), ⟨?_, hca⟩, hw'.heap _ (HM.mem (b := bm) (by repeat constructor))⟩
                  have := RdI.own (xs := dlN t e out t.liquids.length) (cap := cap) (junk := junk) hw' (b := b0) (by repeat constructor)
                  rw [dlN_len] at this
                  unfold denD; rw [if_pos hyes]; exact this)
               | (have := hv.l1; exfalso; omega))
            · try simp only [decide_eq_true_eq, decide_eq_false_iff_not, Int.not_lt, Int.not_le, Bool.not_eq_true', Bool.not_eq_false', Decidable.not_not, not_true_eq_false] at hc
              all_goals first | (exfalso; with_reducible exact bft hc) | (exfalso; with_reducible exact btf hc) | (exfalso; omega) | skip
              all_goals refine tc_skip ?_
              all_goals (refine hK6 ?_; try (clear hK6; clear K6))
              all_goals refine tc_region ?_
              all_goals refine tl_q (y_add rfl rfl (by omega)) rfl ?_
              all_goals refine tl_q (y_move rfl) rfl ?_
              all_goals refine tl_nil ?_
              all_goals (
               refine tk_roundN (i + 1, some (b2, cap2, junk2), (es3, ck3), D :: Ds) ⟨by dsimp only; omega, hok2, hca3, fun j hj => ?_⟩ (by dsimp only; omega) rfl (.cons rfl (.cons rfl (.cons rfl (.cons rfl (.cons rfl (.cons rfl .nil)))))) (fun _ h => h.perm (List.perm_middle (l₁ := [_, _, _, _])).symm)
               rcases Nat.lt_succ_iff_lt_or_eq.1 hj with g | rfl
               · exact hall j g
               · exact hdp)))
      · try simp only [decide_eq_true_eq, decide_eq_false_iff_not, Int.not_lt, Int.not_le, Bool.not_eq_true', Bool.not_eq_false', Decidable.not_not, not_true_eq_false] at hc
        all_goals first | (exfalso; with_reducible exact bft hc) | (exfalso; with_reducible exact btf hc) | (exfalso; omega) | skip
        all_goals refine tc_exit ?_
        all_goals (refine hK2 ?_; try (clear hK2; clear K2))
        all_goals refine tc_seq fun K15 hK15 => ?_
        all_goals refine tc_region ?_
        all_goals (refine tl_q (y_load1 rfl (by repeat constructor) (by rfl)) rfl ?_)
        all_goals refine tl_e (e_store1 rfl rfl (by repeat constructor) (by repeat constructor) (by rfl) (by rfl)) rfl (fun _ _ => ?_)
        all_goals refine tl_q (y_assign rfl) rfl ?_
        all_goals refine tl_nil ?_
        all_goals (refine hK15 ?_; try (clear hK15; clear K15))
        all_goals refine tc_ret ?_
        all_goals (repeat (first | refine tk_then_ret ?_))
        all_goals (first
        | refine tk_retD (D :: Ds) rfl (fun _ h => h.perm (.cons _ (List.perm_append_comm (l₁ := [_, _, _])))) rfl (.cons (.one inferInstance rfl (by repeat constructor) (by rfl)) (.cons (.tmp rfl) .nil)) ?_
        | refine tk_retD (D :: Ds) rfl (fun _ h => h.perm (.cons _ (List.perm_append_comm (l₁ := [_, _, _, _])))) rfl (.cons (.one inferInstance rfl (by repeat constructor) (by rfl)) (.cons (.tmp rfl) .nil)) ?_
        | refine tk_retD Ds rfl (fun _ h => h.perm (List.perm_append_comm (l₁ := [_, _, _]))) rfl (.cons (.one inferInstance rfl (by repeat constructor) (by rfl)) (.cons (.tmp rfl) .nil)) ?_
        | refine tk_retD Ds rfl (fun _ h => h.perm (List.perm_append_comm (l₁ := [_, _, _, _]))) rfl (.cons (.one inferInstance rfl (by repeat constructor) (by rfl)) (.cons (.tmp rfl) .nil)) ?_)
        all_goals (
         first
         | (have hno := denOk_no (t := t) (e := e) (out := out) (i := i) (by omega) hl0
            exact fun w' hw' => ⟨(.slice none 0 0, es3, ck3), by rw [hno]; rfl, hw'.fr (by simp), ⟨by unfold denD; rw [hno]; exact RdI.nil _, hca3⟩, hw'.heap _ (HM.mem (b := bm) (by repeat constructor))⟩)
         | (have hil : i = t.liquids.length := by omega
            subst hil
            have hyes := denOk_yes (t := t) (e := e) (out := out) hall
            refine fun w' hw' => ⟨(.slice (some ⟨b0, 0, none⟩) t.liquids.length cap, es2, ck2), by rw [hyes]; rfl, hw'.fr (by simp), ⟨?_, hca⟩, hw'.heap _ (HM.mem (b := bm) (by repeat constructor))⟩
            have := RdI.own (xs := dlN t e out t.liquids.length) (cap := cap) (junk := junk) hw' (b := b0) (by repeat constructor)
            rw [dlN_len] at this
            unfold denD; rw [if_pos hyes]; exact this)
         | (have := hv.l1; exfalso; omega))))
end Go.Sp
/-
  Package trial: all errors, one after the other.
-/
namespace Go.Sp
open Go Go.Proofs
def nth3 (W n k : Nat) : Int × Int × Int := (((k % (2 * W + 1) : Nat) : Int) - W, if 2 ≤ n then ((k / (2 * W + 1) % (2 * W + 1) : Nat) : Int) - W else 0, if 3 ≤ n then ((k / (2 * W + 1) / (2 * W + 1) % (2 * W + 1) : Nat) : Int) - W else 0)
def cntE (W n : Nat) : Nat := (2 * W + 1) ^ n
def lastE (W n : Nat) : Int × Int × Int := (if 0 < n then (W : Int) else 0, if 1 < n then (W : Int) else 0, if 2 < n then (W : Int) else 0)
def iniE (W n : Nat) : Int × Int × Int := (if 0 < n then -(W : Int) else 0, if 1 < n then -(W : Int) else 0, if 2 < n then -(W : Int) else 0)
def stepE (W : Nat) (e : Int × Int × Int) : Int × Int × Int := if ¬ e.1 = W then (e.1 + 1, e.2) else if ¬ e.2.1 = W then (-(W : Int), e.2.1 + 1, e.2.2) else (-(W : Int), -(W : Int), e.2.2 + 1)
theorem nth_all : ∀ W : Fin 4, ∀ n : Fin 4, 1 ≤ n.1 → ∀ k : Fin 343, k.1 < cntE W n → (nth3 W n k = lastE W n ↔ k.1 = cntE W n - 1) ∧ (k.1 + 1 < cntE W n → stepE W (nth3 W n k) = nth3 W n (k.1 + 1) ∧ ¬ ((nth3 W n k).1 = W.1 ∧ (nth3 W n k).2.1 = W.1 ∧ (nth3 W n k).2.2 = W.1)) := by decide +kernel
theorem ini_all : ∀ W : Fin 4, ∀ n : Fin 4, 1 ≤ n.1 → iniE W n = nth3 W n 0 ∧ 0 < cntE W n ∧ cntE W n ≤ 343 := by decide +kernel
theorem nth_bd {W n k : Nat} (hW : W ≤ 3) : ErB (nth3 W n k) := by
  unfold ErB nth3
  dsimp only
  have h1 := Nat.mod_lt k (show 0 < 2 * W + 1 by omega)
  have h2 := Nat.mod_lt (k / (2 * W + 1)) (show 0 < 2 * W + 1 by omega)
  have h3 := Nat.mod_lt (k / (2 * W + 1) / (2 * W + 1)) (show 0 < 2 * W + 1 by omega)
  generalize k % (2 * W + 1) = a at h1 ⊢
  generalize k / (2 * W + 1) % (2 * W + 1) = b at h2 ⊢
  generalize k / (2 * W + 1) / (2 * W + 1) % (2 * W + 1) = c at h3 ⊢
  refine ⟨by omega, ?_, ?_⟩
  · split <;> omega
  · split <;> omega
def everyL (t : Tr) : List (Int × Int × Int) := (List.range (cntE t.worst.toNat t.parts.length)).map (nth3 t.worst.toNat t.parts.length)
def midE (W : Nat) (e : Int × Int × Int) (i : Nat) : Int × Int × Int := (if 0 < i then -(W : Int) else e.1, if 1 < i then -(W : Int) else e.2.1, e.2.2)
theorem mid_bd {W : Nat} {e : Int × Int × Int} (hW : W ≤ 3) (he : ErB e) (i : Nat) : ErB (midE W e i) := by
  obtain ⟨h1, h2, h3⟩ := he
  unfold ErB midE
  dsimp only
  refine ⟨?_, ?_, h3⟩
  · split <;> omega
  · split <;> omega
theorem stepE_0 {W : Nat} {e : Int × Int × Int} (h : ¬ e.1 = W) : stepE W e = (e.1 + 1, e.2) := by unfold stepE; rw [if_pos h]
theorem stepE_1 {W : Nat} {e : Int × Int × Int} (h0 : e.1 = W) (h : ¬ e.2.1 = W) : stepE W e = (-(W : Int), e.2.1 + 1, e.2.2) := by unfold stepE; rw [if_neg (fun g => g h0), if_pos h]
theorem stepE_2 {W : Nat} {e : Int × Int × Int} (h0 : e.1 = W) (h : e.2.1 = W) : stepE W e = (-(W : Int), -(W : Int), e.2.2 + 1) := by unfold stepE; rw [if_neg (fun g => g h0), if_neg (fun g => g h)]
theorem lt_last {W n k : Nat} (hlast : nth3 W n k = lastE W n ↔ k = cntE W n - 1) (hk : k < cntE W n) (hc : ¬((nth3 W n k).1 = (lastE W n).1 ∧ (nth3 W n k).2.1 = (lastE W n).2.1 ∧ (nth3 W n k).2.2 = (lastE W n).2.2)) : k + 1 < cntE W n := by
  have h1 : ¬ nth3 W n k = lastE W n := fun h => hc (by rw [h]; exact ⟨rfl, rfl, rfl⟩)
  have h2 := mt hlast.2 h1
  omega
theorem yq {b : Bool} {A B : Prop} (h : b = true ∧ A ∨ b = false ∧ B) (hb : b = true) : A := by
  rcases h with h | h
  · exact h.2
  · rw [h.1] at hb; cases hb
theorem yq2 {b : Bool} {A B : Prop} (h : b = true ∧ A ∨ b = false ∧ B) (hb : b = false) : B := by
  rcases h with h | h
  · rw [h.1] at hb; cases hb
  · exact h.2
theorem tevery_c (bw : Nat) (w : World) :
    CnX Tryz.prog 145 #[ptr bw] w [] (fun b : Nat => .func (.func 177) #[] #[ptr b])
    (fun b w' => True ∧ w.heap.size ≤ b ∧ w'.heap[b]? = some (.cells #[ptr bw] 130 (0, 0))) := by
  refine cnx0 (vs := [_]) Tryz.func145 rfl rfl ?_
  all_goals refine tc_seq fun K1 hK1 => ?_
  all_goals refine tc_region ?_
  all_goals refine tl_e (e_box rfl rfl rfl) rfl (fun b _ => ?_)
  all_goals refine tl_q (y_assign rfl) rfl ?_
  all_goals refine tl_nil ?_
  all_goals (refine hK1 ?_; try (clear hK1; clear K1))
  all_goals refine tc_seq fun K2 hK2 => ?_
  all_goals refine tc_region ?_
  all_goals refine tl_q (y_fn .nil (.cons rfl .nil)) rfl ?_
  all_goals refine tl_q (y_assign rfl) rfl ?_
  all_goals refine tl_nil ?_
  all_goals (refine hK2 ?_; try (clear hK2; clear K2))
  all_goals refine tc_ret ?_
  all_goals (repeat (first | refine tk_then_ret ?_))
  all_goals first | refine tk_ret rfl rfl (.cons (.tmp rfl) .nil) ?_ | refine tk_retM rfl (by repeat constructor) rfl (.cons (.tmp rfl) .nil) ?_
  all_goals (
   exact fun w' hw' => ⟨b, rfl, hw'.fr (by simp), trivial, (hw'.own _ (HM.mem (b := b) (by repeat constructor)) (w, []) (by simp)).resolve_left (by simp), hw'.heap _ (HM.mem (by repeat constructor))⟩)
theorem every_seq (t : Tr) (hv : VT t) (sl pl ll tl : Value) (hpl : ∃ ad cp, pl = .slice ad t.parts.length cp) (w : World) (bw bm b1 : Nat) (S0 : List Nat) (h1 : w.heap[b1]? = some (.cells #[ptr bw] 130 (0, 0))) (hb1 : b1 ∉ S0) (hbw : w.heap[bw]? = some (wkT t sl pl ll tl bm)) (hbwS : bw ∉ S0) :
    Seq Tryz.prog 177 #[ptr b1] (fun e : Int × Int × Int => [tsV e]) (everyL t) S0 w := by
  intro σ l S Hx I J s0 w1 f0 hS hK0 h0 hY
  obtain ⟨adp, cpp, rfl⟩ := hpl
  obtain ⟨W, hW⟩ : ∃ W : Nat, t.worst = (W : Int) := ⟨t.worst.toNat, by have := hv.w; omega⟩
  have hW3 : W ≤ 3 := by have := hv.w; omega
  have hWn : t.worst.toNat = W := by omega
  obtain ⟨n, hn⟩ : ∃ n, n = t.parts.length := ⟨_, rfl⟩
  have hn1 : 1 ≤ n := by rw [hn]; exact hv.p1
  have hn3 : n ≤ 3 := by rw [hn]; exact hv.p3
  obtain ⟨i1, i2, i3⟩ := ini_all ⟨W, by omega⟩ ⟨n, by omega⟩ hn1
  dsimp only at i1 i2 i3
  have hall := fun (k : Nat) (hk : k < cntE W n) => nth_all ⟨W, by omega⟩ ⟨n, by omega⟩ hn1 ⟨k, by omega⟩ hk
  dsimp only at hall
  have hL : everyL t = (List.range (cntE W n)).map (nth3 W n) := by unfold everyL; rw [hWn, ← hn]
  have hLl : (everyL t).length = cntE W n := by rw [hL]; simp
  have hLg : ∀ k, k < cntE W n → (everyL t)[k]? = some (nth3 W n k) := fun k hk => by rw [hL, List.getElem?_map, List.getElem?_range hk]; rfl
  have hlt : ∀ b, w.heap[b]? ≠ none → b < w.heap.size := fun b h => by
    rcases Nat.lt_or_ge b w.heap.size with g | g
    · exact g
    · exact absurd (Array.getElem?_eq_none g) h
  have n1 : b1 ∉ S := fun hm => (hS b1 hm).elim hb1 (fun g => by have := hlt b1 (by rw [h1]; simp); omega)
  have nw : bw ∉ S := fun hm => (hS bw hm).elim hbwS (fun g => by have := hlt bw (by rw [hbw]; simp); omega)
  have g1 := f0.keep h1
  have gw := f0.keep hbw
  rw [show (#[.func (.yield l) #[] #[]] ++ #[ptr b1] : Array Value) = #[.func (.yield l) #[] #[], ptr b1] from by simp]
  refine cnxS (vs := [_, _]) (S := S) (Hx s0) Tryz.func177 rfl rfl ⟨hK0.kn, hK0.nd, hK0.mem⟩ ?_
  all_goals refine tc_seq fun K1 hK1 => ?_
  all_goals refine tc_region ?_
  all_goals refine tl_e (e_allocN rfl) rfl (fun b3 _ => ?_)
  all_goals refine tl_nil ?_
  all_goals (refine hK1 ?_; try (clear hK1; clear K1))
  all_goals refine tc_seq fun K2 hK2 => ?_
  all_goals refine tc_region ?_
  all_goals refine tl_e (e_allocN rfl) rfl (fun b4 _ => ?_)
  all_goals refine tl_nil ?_
  all_goals (refine hK2 ?_; try (clear hK2; clear K2))
  all_goals refine tc_seq fun K3 hK3 => ?_
  all_goals refine tc_seq fun K4 hK4 => ?_
  all_goals refine tc_region ?_
  all_goals (refine tl_q (y_load1o (v := ptr bw) rfl (fun w' hw' => cell0 ((hw'.fr (w0 := w1) (S := S) (MI.m (by repeat constructor))).keepS n1 g1) rfl)) rfl ?_)
  all_goals refine tl_q (y_nil rfl) rfl ?_
  all_goals refine tl_q (y_field rfl) rfl ?_
  all_goals refine tl_q (y_field rfl) rfl ?_
  all_goals (refine tl_q (y_load1o (v := .slice adp n cpp) rfl (fun w' hw' => cell0 ((hw'.fr (w0 := w1) (S := S) (MI.m (by repeat constructor))).keepS nw gw) (by rw [hn]; rfl))) rfl ?_)
  all_goals refine tl_q (y_len rfl) rfl ?_
  all_goals refine tl_q (y_move rfl) rfl ?_
  all_goals refine tl_nil ?_
  all_goals (refine hK4 ?_; try (clear hK4; clear K4))
  all_goals refine tc_block ?_
  all_goals (
   refine tc_loop (fun i : Nat => i ≤ n) (fun i => [(0, .func (.yield l) #[] #[]), (1, ptr b1), (3, ptr b3), (4, ptr b4), (12, vi n), (13, vi i)]) (fun _ => [(w1, S)]) (fun i => (b4, .cells (tsV (lastE W i)).cells 126 (0, 0)) :: (b3, .cells (tsV (iniE W i)).cells 126 (0, 0)) :: Hx s0) (fun i => n - i) ?_ ?_
   · exact tk_start 0 (Nat.zero_le _) (.cons rfl (.cons rfl (.cons rfl (.cons rfl (.cons rfl (.cons rfl .nil)))))) (fun _ h => h)
   · rintro i hi
     all_goals refine tc_seq fun K5 hK5 => ?_
     all_goals refine tc_region ?_
     all_goals refine tl_q (y_lss rfl rfl) rfl ?_
     all_goals refine tl_nil ?_
     all_goals (refine hK5 ?_; try (clear hK5; clear K5))
     all_goals refine tc_seq fun K6 hK6 => ?_
     all_goals (
      refine tc_cond rfl (fun hc => ?_) (fun hc => ?_)
      · try simp only [decide_eq_true_eq, decide_eq_false_iff_not, Int.not_lt, Int.not_le, Bool.not_eq_true', Bool.not_eq_false', Decidable.not_not, not_true_eq_false] at hc
        all_goals first | (exfalso; with_reducible exact bft hc) | (exfalso; with_reducible exact btf hc) | (exfalso; omega) | skip
        all_goals refine tc_skip ?_
        all_goals (refine hK6 ?_; try (clear hK6; clear K6))
        all_goals refine tc_seq fun K7 hK7 => ?_
        all_goals refine tc_block ?_
        all_goals refine tc_seq fun K8 hK8 => ?_
        all_goals refine tc_region ?_
        all_goals refine tl_q (y_move rfl) rfl ?_
        all_goals refine tl_q (y_assign rfl) rfl ?_
        all_goals refine tl_nil ?_
        all_goals (refine hK8 ?_; try (clear hK8; clear K8))
        all_goals (rcases (by omega : i = 0 ∨ i = 1 ∨ i = 2) with rfl | rfl | rfl)
        all_goals refine tc_drawS (Hx s0) (by kernel_rfl) ?_
        all_goals refine tx_p 0 rfl (by kernel_rfl) (y_move rfl) rfl (fun _ _ _ h => h) (fun _ h => h.subl (SB.s (by repeat constructor)) (SB.s (by repeat constructor))) ?_
        all_goals refine tx_p 1 rfl (by kernel_rfl) (y_move rfl) rfl (fun _ _ _ h => h) (fun _ h => h.subl (SB.s (by repeat constructor)) (SB.s (by repeat constructor))) ?_
        all_goals (refine tx_qS 2 rfl (by kernel_rfl) (y_load1o (v := ptr bw) rfl (fun w' hw' => cell0 ((hw'.fr (w0 := w1) (S := S) (MI.m (by repeat constructor))).keepS n1 g1) rfl)) rfl (fun _ _ _ h => h) (fun _ h => h.subl (SB.s (by repeat constructor)) (SB.s (by repeat constructor))) ?_)
        all_goals refine tx_p 3 rfl (by kernel_rfl) (y_nil rfl) rfl (fun _ _ _ h => h) (fun _ h => h.subl (SB.s (by repeat constructor)) (SB.s (by repeat constructor))) ?_
        all_goals refine tx_p 4 rfl (by kernel_rfl) (y_field rfl) rfl (fun _ _ _ h => h) (fun _ h => h.subl (SB.s (by repeat constructor)) (SB.s (by repeat constructor))) ?_
        all_goals refine tx_p 5 rfl (by kernel_rfl) (y_field rfl) rfl (fun _ _ _ h => h) (fun _ h => h.subl (SB.s (by repeat constructor)) (SB.s (by repeat constructor))) ?_
        all_goals (refine tx_qS 6 rfl (by kernel_rfl) (y_load1o (v := vi W) rfl (fun w' hw' => cell0 ((hw'.fr (w0 := w1) (S := S) (MI.m (by repeat constructor))).keepS nw gw) (by rw [← hW]; rfl))) rfl (fun _ _ _ h => h) (fun _ h => h.subl (SB.s (by repeat constructor)) (SB.s (by repeat constructor))) ?_)
        all_goals refine tx_p 7 rfl (by kernel_rfl) (y_neg rfl (by omega)) rfl (fun _ _ _ h => h) (fun _ h => h.subl (SB.s (by repeat constructor)) (SB.s (by repeat constructor))) ?_
        all_goals (refine tx_qS 8 rfl (by kernel_rfl) (y_load1o (v := ptr bw) rfl (fun w' hw' => cell0 ((hw'.fr (w0 := w1) (S := S) (MI.m (by repeat constructor))).keepS n1 g1) rfl)) rfl (fun _ _ _ h => h) (fun _ h => h.subl (SB.s (by repeat constructor)) (SB.s (by repeat constructor))) ?_)
        all_goals refine tx_p 9 rfl (by kernel_rfl) (y_nil rfl) rfl (fun _ _ _ h => h) (fun _ h => h.subl (SB.s (by repeat constructor)) (SB.s (by repeat constructor))) ?_
        all_goals refine tx_p 10 rfl (by kernel_rfl) (y_field rfl) rfl (fun _ _ _ h => h) (fun _ h => h.subl (SB.s (by repeat constructor)) (SB.s (by repeat constructor))) ?_
        all_goals refine tx_p 11 rfl (by kernel_rfl) (y_field rfl) rfl (fun _ _ _ h => h) (fun _ h => h.subl (SB.s (by repeat constructor)) (SB.s (by repeat constructor))) ?_
        all_goals (refine tx_qS 12 rfl (by kernel_rfl) (y_load1o (v := vi W) rfl (fun w' hw' => cell0 ((hw'.fr (w0 := w1) (S := S) (MI.m (by repeat constructor))).keepS nw gw) (by rw [← hW]; rfl))) rfl (fun _ _ _ h => h) (fun _ h => h.subl (SB.s (by repeat constructor)) (SB.s (by repeat constructor))) ?_)
        all_goals (refine tx_p 13 rfl (by kernel_rfl) (y_indexA rfl rfl (by omega)) rfl (fun _ _ _ h => h) (fun _ h => h.subl (SB.s (by repeat constructor)) (SB.s (by repeat constructor))) ?_)
        all_goals refine tx_single 14 (by kernel_rfl) (to_e rfl rfl (e_store1 rfl rfl (by repeat constructor) (by repeat constructor) (by rfl) (by rfl)) (.inr ⟨fun _ _ h => h.subl (SB.s (by repeat constructor)) (SB.s (by repeat constructor)), fun _ h => h⟩) (fun _ _ => ?_))
        all_goals (refine tx_p 15 rfl (by kernel_rfl) (y_indexA rfl rfl (by omega)) rfl (fun _ _ _ h => h) (fun _ h => h.subl (SB.s (by repeat constructor)) (SB.s (by repeat constructor))) ?_)
        all_goals refine tx_single 16 (by kernel_rfl) (to_e (S' := HG [] []) rfl rfl (e_store1 rfl rfl (by repeat constructor) (by repeat constructor) (by rfl) (by rfl)) (.inl (by kernel_rfl)) (fun _ _ => ?_))
        all_goals refine tx_done (by kernel_rfl) ?_
        all_goals (refine hK7 ?_; try (clear hK7; clear K7))
        all_goals refine tc_region ?_
        all_goals refine tl_q (y_add rfl rfl (by omega)) rfl ?_
        all_goals refine tl_q (y_move rfl) rfl ?_
        all_goals refine tl_nil ?_
        all_goals (
         first
         | exact tk_round 1 (by omega) (by omega) (.cons rfl (.cons rfl (.cons rfl (.cons rfl (.cons rfl (.cons rfl .nil)))))) (fun _ h => h)
         | exact tk_round 2 (by omega) (by omega) (.cons rfl (.cons rfl (.cons rfl (.cons rfl (.cons rfl (.cons rfl .nil)))))) (fun _ h => h)
         | exact tk_round 3 (by omega) (by omega) (.cons rfl (.cons rfl (.cons rfl (.cons rfl (.cons rfl (.cons rfl .nil)))))) (fun _ h => h))
      · try simp only [decide_eq_true_eq, decide_eq_false_iff_not, Int.not_lt, Int.not_le, Bool.not_eq_true', Bool.not_eq_false', Decidable.not_not, not_true_eq_false] at hc
        all_goals first | (exfalso; with_reducible exact bft hc) | (exfalso; with_reducible exact btf hc) | (exfalso; omega) | skip
        all_goals refine tc_exit ?_
        all_goals (refine hK3 ?_; try (clear hK3; clear K3))
        all_goals refine tc_block ?_
        all_goals (
         refine tc_loop (fun p : Nat × σ => p.1 < cntE W n ∧ I p.1 p.2) (fun p => [(0, .func (.yield l) #[] #[]), (1, ptr b1), (3, ptr b3), (4, ptr b4)]) (fun _ => [(w1, S)]) (fun p => (b4, .cells (tsV (lastE W n)).cells 126 (0, 0)) :: (b3, .cells (tsV (nth3 W n p.1)).cells 126 (0, 0)) :: Hx p.2) (fun p => cntE W n - p.1) ?_ ?_
         · refine tk_start (0, s0) ⟨i2, h0⟩ (.cons rfl (.cons rfl (.cons rfl (.cons rfl .nil)))) (fun _ h => ?_)
           have hin : i = n := by omega
           subst hin
           dsimp only; rw [← i1]; exact h
         · rintro ⟨k, st⟩ ⟨hk, hI⟩
           dsimp only at hk hI ⊢
           obtain ⟨hlast, hstep⟩ := hall k hk
           all_goals refine tc_block ?_
           all_goals refine tc_seq fun K9 hK9 => ?_
           all_goals refine tc_seq fun K10 hK10 => ?_
           all_goals refine tc_region ?_
           all_goals refine tl_q (y_move rfl) rfl ?_
           all_goals (refine tl_q (y_loadW rfl (by repeat constructor) (by rfl)) rfl ?_)
           all_goals refine tl_r (e_yieldF [(b4, .cells (tsV (lastE W n)).cells 126 (0, 0)), (b3, .cells (tsV (nth3 W n k)).cells 126 (0, 0))] k st (nth3 W n k) rfl rfl rfl (.cons rfl .nil) rfl (hLg k hk) hI hY (by simp) rfl) rfl (fun q hq => ?_)
           all_goals (refine tl_q (y_not rfl) rfl ?_)
           all_goals refine tl_q (y_move rfl) rfl ?_
           all_goals (refine tl_gs rfl rfl (fun hc => ?_) (fun hc => ?_) <;> (try simp only [decide_eq_true_eq, decide_eq_false_iff_not, Int.not_lt, Int.not_le, Bool.not_eq_true', Bool.not_eq_false', Decidable.not_not, not_true_eq_false] at hc) <;> (first | refine tl_sk rfl rfl rfl rfl ?_ | refine tl_qg rfl rfl (y_loadW rfl (by repeat constructor) (by rfl)) rfl ?_))
           all_goals (first | refine tl_sk rfl rfl rfl rfl ?_ | refine tl_qg rfl rfl (y_loadW rfl (by repeat constructor) (by rfl)) rfl ?_)
           all_goals (first | refine tl_sk rfl rfl rfl rfl ?_ | refine tl_qg rfl rfl (y_eqlA3 rfl rfl) rfl ?_)
           all_goals (first | refine tl_q (y_pick_t rfl rfl) rfl ?_ | refine tl_q (y_pick_f rfl rfl) rfl ?_)
           all_goals refine tl_nil ?_
           all_goals (refine hK10 ?_; try (clear hK10; clear K10))
           all_goals (
            refine tc_cond rfl (fun hc => ?_) (fun hc => ?_)
            · try simp only [decide_eq_true_eq, decide_eq_false_iff_not, Int.not_lt, Int.not_le, Bool.not_eq_true', Bool.not_eq_false', Decidable.not_not, not_true_eq_false] at hc
              all_goals first | (exfalso; with_reducible exact bft hc) | (exfalso; with_reducible exact btf hc) | (exfalso; omega) | skip
              all_goals refine tc_ret ?_
              all_goals (repeat (first | refine tk_then_ret ?_ | refine tk_block_ret ?_))
              all_goals first | refine tk_ret rfl rfl .nil ?_ | refine tk_retM rfl (by repeat constructor) rfl .nil ?_
              all_goals (
               first
               | (have hk1 : nth3 W n k = lastE W n := Prod.ext hc.1 (Prod.ext hc.2.1 hc.2.2)
                  have hk2 := hlast.1 hk1
                  have hq1 : I (everyL t).length q.2 := by
                    rw [hLl, show cntE W n = k + 1 by omega]
                    exact yq hq (by assumption)
                  exact fun w' hw' => ⟨q.2, rfl, hw'.fr (by simp), (hw'.sub (bs' := [(w1, S)]) (by simp) (List.sublist_append_right _ _)).knS (by simp), .inl hq1⟩)
               | (have hJ : J q.2 := by
                    exact yq2 hq (by assumption)
                  exact fun w' hw' => ⟨q.2, rfl, hw'.fr (by simp), (hw'.sub (bs' := [(w1, S)]) (by simp) (List.sublist_append_right _ _)).knS (by simp), .inr hJ⟩))
            · try simp only [decide_eq_true_eq, decide_eq_false_iff_not, Int.not_lt, Int.not_le, Bool.not_eq_true', Bool.not_eq_false', Decidable.not_not, not_true_eq_false] at hc
              all_goals first | (exfalso; with_reducible exact bft hc) | (exfalso; with_reducible exact btf hc) | (exfalso; omega) | skip
              all_goals refine tc_skip ?_
              all_goals (refine hK9 ?_; try (clear hK9; clear K9))
              all_goals refine tc_seq fun K11 hK11 => ?_
              all_goals (have hkn : k + 1 < cntE W n := lt_last hlast hk hc; obtain ⟨hst, hno⟩ := hstep hkn; have hq1 : I (k + 1) q.2 := yq hq (by assumption))
              all_goals refine tc_region ?_
              all_goals refine tl_q (y_assign rfl) rfl ?_
              all_goals refine tl_nil ?_
              all_goals (refine hK11 ?_; try (clear hK11; clear K11))
              all_goals refine tc_seq fun K12 hK12 => ?_
              all_goals refine tc_block ?_
              all_goals (
               refine tc_loop (fun i : Nat => i ≤ 2 ∧ (0 < i → (nth3 W n k).1 = W) ∧ (1 < i → (nth3 W n k).2.1 = W)) (fun i => [(0, .func (.yield l) #[] #[]), (1, ptr b1), (3, ptr b3), (4, ptr b4), (6, vi i)]) (fun _ => [(w1, S)]) (fun i => (b4, .cells (tsV (lastE W n)).cells 126 (0, 0)) :: (b3, .cells (tsV (midE W (nth3 W n k) i)).cells 126 (0, 0)) :: Hx q.2) (fun i => 3 - i) ?_ ?_
               · exact tk_start 0 ⟨by omega, fun h => absurd h (Nat.lt_irrefl _), fun h => absurd h (by omega)⟩ (.cons rfl (.cons rfl (.cons rfl (.cons rfl (.cons rfl .nil))))) (fun _ h => h)
               · rintro i ⟨hi2, hm0, hm1⟩
                 all_goals refine tc_seq fun K13 hK13 => ?_
                 all_goals refine tc_seq fun K14 hK14 => ?_
                 all_goals (obtain ⟨hb1, hb2, hb3⟩ := mid_bd hW3 (nth_bd (W := W) (n := n) (k := k) hW3) i)
                 all_goals (rcases (by omega : i = 0 ∨ i = 1 ∨ i = 2) with rfl | rfl | rfl)
                 all_goals refine tc_draw (by kernel_rfl) ?_
                 all_goals refine tx_p 0 rfl (by kernel_rfl) (y_move rfl) rfl (fun _ _ _ h => h) (fun _ h => h) ?_
                 all_goals (refine tx_p 1 rfl (by kernel_rfl) (y_indexA rfl rfl (by omega)) rfl (fun _ _ _ h => h) (fun _ h => h) ?_)
                 all_goals (refine tx_q 2 rfl (by kernel_rfl) (y_load1 rfl (by repeat constructor) (by rfl)) rfl (fun _ _ _ h => h) (fun _ h => h) ?_)
                 all_goals (refine tx_q 3 rfl (by kernel_rfl) (y_load1o (v := ptr bw) rfl (fun w' hw' => cell0 ((hw'.fr (w0 := w1) (S := S) (MI.m (by repeat constructor))).keepS n1 g1) rfl)) rfl (fun _ _ _ h => h) (fun _ h => h) ?_)
                 all_goals refine tx_p 4 rfl (by kernel_rfl) (y_nil rfl) rfl (fun _ _ _ h => h) (fun _ h => h) ?_
                 all_goals refine tx_p 5 rfl (by kernel_rfl) (y_field rfl) rfl (fun _ _ _ h => h) (fun _ h => h) ?_
                 all_goals refine tx_p 6 rfl (by kernel_rfl) (y_field rfl) rfl (fun _ _ _ h => h) (fun _ h => h) ?_
                 all_goals (refine tx_q 7 rfl (by kernel_rfl) (y_load1o (v := vi W) rfl (fun w' hw' => cell0 ((hw'.fr (w0 := w1) (S := S) (MI.m (by repeat constructor))).keepS nw gw) (by rw [← hW]; rfl))) rfl (fun _ _ _ h => h) (fun _ h => h) ?_)
                 all_goals (refine tx_p 8 rfl (by kernel_rfl) (y_eql rfl rfl) rfl (fun _ _ _ h => h) (fun _ h => h) ?_)
                 all_goals refine tx_done (by kernel_rfl) ?_
                 all_goals (refine hK14 ?_; try (clear hK14; clear K14))
                 all_goals (
                  refine tc_cond rfl (fun hc => ?_) (fun hc => ?_)
                  · try simp only [decide_eq_true_eq, decide_eq_false_iff_not, Int.not_lt, Int.not_le, Bool.not_eq_true', Bool.not_eq_false', Decidable.not_not, not_true_eq_false] at hc
                    all_goals first | (exfalso; with_reducible exact bft hc) | (exfalso; with_reducible exact btf hc) | (exfalso; omega) | skip
                    all_goals refine tc_skip ?_
                    all_goals (refine hK13 ?_; try (clear hK13; clear K13))
                    all_goals refine tc_block ?_
                    all_goals refine tc_seq fun K15 hK15 => ?_
                    all_goals refine tc_region ?_
                    all_goals refine tl_q (y_move rfl) rfl ?_
                    all_goals (refine tl_q (y_load1o (v := ptr bw) rfl (fun w' hw' => cell0 ((hw'.fr (w0 := w1) (S := S) (MI.m (by repeat constructor))).keepS n1 g1) rfl)) rfl ?_)
                    all_goals refine tl_q (y_nil rfl) rfl ?_
                    all_goals refine tl_q (y_field rfl) rfl ?_
                    all_goals refine tl_q (y_field rfl) rfl ?_
                    all_goals (refine tl_q (y_load1o (v := vi W) rfl (fun w' hw' => cell0 ((hw'.fr (w0 := w1) (S := S) (MI.m (by repeat constructor))).keepS nw gw) (by rw [← hW]; rfl))) rfl ?_)
                    all_goals refine tl_q (y_neg rfl (by omega)) rfl ?_
                    all_goals (refine tl_q (y_indexA rfl rfl (by omega)) rfl ?_)
                    all_goals refine tl_e (e_store1 rfl rfl (by repeat constructor) (by repeat constructor) (by rfl) (by rfl)) rfl (fun _ _ => ?_)
                    all_goals refine tl_nil ?_
                    all_goals (refine hK15 ?_; try (clear hK15; clear K15))
                    all_goals refine tc_region ?_
                    all_goals refine tl_q (y_move rfl) rfl ?_
                    all_goals refine tl_q (y_add rfl rfl (by omega)) rfl ?_
                    all_goals refine tl_q (y_assign rfl) rfl ?_
                    all_goals refine tl_nil ?_
                    all_goals (
                     first
                     | exact tk_blk (tk_round 1 ⟨by omega, fun _ => hc, fun h => absurd h (by omega)⟩ (by omega) (.cons rfl (.cons rfl (.cons rfl (.cons rfl (.cons rfl .nil))))) (fun _ h => h))
                     | exact tk_blk (tk_round 2 ⟨by omega, fun _ => hm0 (by omega), fun _ => hc⟩ (by omega) (.cons rfl (.cons rfl (.cons rfl (.cons rfl (.cons rfl .nil))))) (fun _ h => h))
                     | exact absurd ⟨hm0 (by omega), hm1 (by omega), hc⟩ hno)
                  · try simp only [decide_eq_true_eq, decide_eq_false_iff_not, Int.not_lt, Int.not_le, Bool.not_eq_true', Bool.not_eq_false', Decidable.not_not, not_true_eq_false] at hc
                    all_goals first | (exfalso; with_reducible exact bft hc) | (exfalso; with_reducible exact btf hc) | (exfalso; omega) | skip
                    all_goals refine tc_exit ?_
                    all_goals (refine hK12 ?_; try (clear hK12; clear K12))
                    all_goals refine tc_region ?_
                    all_goals refine tl_q (y_move rfl) rfl ?_
                    all_goals (refine tl_q (y_indexA rfl rfl (by omega)) rfl ?_)
                    all_goals (refine tl_q (y_load1 rfl (by repeat constructor) (by rfl)) rfl ?_)
                    all_goals refine tl_q (y_add rfl rfl (by omega)) rfl ?_
                    all_goals (refine tl_q (y_indexA rfl rfl (by omega)) rfl ?_)
                    all_goals refine tl_e (e_store1 rfl rfl (by repeat constructor) (by repeat constructor) (by rfl) (by rfl)) rfl (fun _ _ => ?_)
                    all_goals refine tl_nil ?_
                    all_goals (
                     first
                     | (have hs3 : nth3 W n (k + 1) = _ := hst.symm.trans (stepE_0 hc)
                        refine tk_blk (tk_round (k + 1, q.2) ⟨hkn, hq1⟩ (by dsimp only; omega) (.cons rfl (.cons rfl (.cons rfl (.cons rfl .nil)))) (fun _ h => ?_))
                        dsimp only; rw [hs3]; exact h)
                     | (have hs3 : nth3 W n (k + 1) = _ := hst.symm.trans (stepE_1 (hm0 Nat.zero_lt_one) hc)
                        refine tk_blk (tk_round (k + 1, q.2) ⟨hkn, hq1⟩ (by dsimp only; omega) (.cons rfl (.cons rfl (.cons rfl (.cons rfl .nil)))) (fun _ h => ?_))
                        dsimp only; rw [hs3]; exact h)
                     | (have hs3 : nth3 W n (k + 1) = _ := hst.symm.trans (stepE_2 (hm0 Nat.zero_lt_two) (hm1 Nat.one_lt_two))
                        refine tk_blk (tk_round (k + 1, q.2) ⟨hkn, hq1⟩ (by dsimp only; omega) (.cons rfl (.cons rfl (.cons rfl (.cons rfl .nil)))) (fun _ h => ?_))
                        dsimp only; rw [hs3]; exact h))))))))
end Go.Sp
/-
  Package trial: the errors of all truths.
-/
namespace Go.Sp
open Go Go.Proofs
theorem e_bslice31 {P : Program} {N : NN} {F : List (Nat × Value)} {bs : List (World × List Nat)} {H : List (Nat × Obj)} {ty : TypeId} {pos : String} {after : Array Edge} {g : Option (Nat × Bool)} {dd : Tmp} {t e : TypeId} {by_ : Nat} {x : Operand} {a b c : Value} [hs : TySlice P t e 3] [hi : TyElem P e 3 by_] (hd : Nat.blt dd N.n = true) (hx : evalO F x = some (.agg #[a, b, c])) :
    OpE P ⟨some dd, .buildSlice t 1 #[(0, x)], ty, pos, after, g⟩ N F bs H (fun _ : Nat => True) (fun b0 => (dd, .slice (some ⟨b0, 0, none⟩) 1 1) :: F) (fun _ => bs) (fun b0 => (b0, .cells #[a, b, c] e (0, 0)) :: H) := by
  unfold OpE
  intro a' w ht hw K Q hK
  obtain ⟨i, z, h1, h2, h3, h4, h5⟩ := hi.info
  have key : ∀ zero : Array Value, Instr.fill (fun i => some (i * 3, 3)) ((Array.range (1 * 3)).map (zero[· % zero.size]!)) [(0, .agg #[a, b, c])] = some #[a, b, c] := fun zero => by
    simp [Instr.fill, Array.zipIdx, Array.range, Value.cells]
    apply Array.ext (by simp)
    intro i g1 g2
    have g3 : i < 3 := g2
    rcases (by omega : i = 0 ∨ i = 1 ∨ i = 2) with rfl | rfl | rfl <;> simp
  have hrun : (Instr.buildSlice t 1 #[(0, .agg #[a, b, c])]).run P w = .ok (.slice (some ⟨w.heap.size, 0, none⟩) 1 1) (w.alloc (.cells #[a, b, c] e)) := by
    unfold Instr.buildSlice
    simp only [Sem.run_bind, underlying_run hs.ty, Result.andThen, sizeOf_run hs.info]
    rw [if_neg (by omega)]
    split
    · rename_i hz; omega
    · simp only [Sem.run_bind, zeroValue_run h1 h2, Sem.run_pure, Result.andThen, key, newRow, run_newObj]; rfl
  unfold Oper.wp
  simp only [execOp, Sem.run_bind, List.map_toArray, List.map_cons, List.map_nil, ht.eval hx, hrun, Result.andThen, Sem.run_pure, Oper.upon]
  exact hK w.heap.size _ _ trivial (ht.put hd _) (hw.alloc _)
def truN (t : Tr) (out : List Int) (i : Nat) : List (Int × Int × Int) := ((everyL t).take i).filter fun e => denOk t e out
def truthsL (t : Tr) (out : List Int) : List (Int × Int × Int) := (everyL t).filter fun e => denOk t e out
theorem truN_succ {t : Tr} {out : List Int} {i : Nat} {e : Int × Int × Int} (h : (everyL t)[i]? = some e) : truN t out (i + 1) = if denOk t e out = true then truN t out i ++ [e] else truN t out i := by
  unfold truN
  rw [List.take_add_one, h, List.filter_append]
  cases hd : denOk t e out <;> simp [hd]
theorem truN_all (t : Tr) (out : List Int) : truN t out (everyL t).length = truthsL t out := by unfold truN truthsL; rw [List.take_length]
theorem truN_len (t : Tr) (out : List Int) (i : Nat) : (truN t out i).length ≤ i := by
  unfold truN
  exact Nat.le_trans (List.length_filter_le _ _) (by rw [List.length_take]; omega)
theorem every_len {t : Tr} (hv : VT t) : (everyL t).length ≤ 343 := by
  have h1 := hv.p1
  have h3 := hv.p3
  have hw := hv.w
  have := (ini_all ⟨t.worst.toNat, by omega⟩ ⟨t.parts.length, by omega⟩ h1).2.2
  unfold everyL; rw [List.length_map, List.length_range]; exact this
theorem every_bd {t : Tr} (hv : VT t) {e : Int × Int × Int} (h : e ∈ everyL t) : ErB e := by
  unfold everyL at h
  obtain ⟨k, _, rfl⟩ := List.mem_map.1 h
  exact nth_bd (by have := hv.w; omega)
theorem flatT_append (l m : List (Int × Int × Int)) : flatT (l ++ m) = flatT l ++ flatT m := by simp [flatT]
theorem flatT_len (l : List (Int × Int × Int)) : (flatT l).length = l.length * 3 := by
  induction l with
  | nil => rfl
  | cons x l ih => simp [flatT] at ih ⊢; omega
theorem flatT_one (l : List (Int × Int × Int)) : one' (flatT l) := fun u hu => by
  obtain ⟨x, _, h⟩ := List.mem_flatMap.1 hu
  simp only [List.mem_cons, List.not_mem_nil, or_false] at h
  rcases h with rfl | rfl | rfl <;> rfl
theorem RdT.nil (w : World) : RdT w (.slice none 0 0) [] := ⟨rfl, none, 0, rfl, fun h => absurd rfl h⟩
theorem RdT.own {bs : List (World × List Nat)} {H : List (Nat × Obj)} {w : World} {b : Nat} {xs : List (Int × Int × Int)} {e : TypeId} {f : Nat × Nat} {cap : Nat} {junk : List Value} (hw : HG bs H w) (hm : HM b (.cells (flatT xs ++ junk).toArray e f) H) : RdT w (.slice (some ⟨b, 0, none⟩) xs.length cap) xs := by
  refine ⟨flatT_len xs, _, _, rfl, fun _ => ⟨b, 0, rfl, ?_⟩⟩
  have := CA_pre (flatT xs) junk e f
  rw [flatT_len] at this
  exact this.cells (hw.heap _ hm.mem)
theorem RdT.own0 {bs : List (World × List Nat)} {H : List (Nat × Obj)} {w : World} {b : Nat} {xs : List (Int × Int × Int)} {e : TypeId} {f : Nat × Nat} {cap : Nat} (hw : HG bs H w) (hm : HM b (.cells (flatT xs).toArray e f) H) : RdT w (.slice (some ⟨b, 0, none⟩) xs.length cap) xs :=
  RdT.own (junk := []) hw (by rw [List.append_nil]; exact hm)
abbrev TrS := (Nat × Option (Nat × Nat × List Value)) × (Array MapEntry × Nat)
def truH (t : Tr) (out : List Int) (b4 b3 b2 bm bw : Nat) (ov : Value) : TrS → List (Nat × Obj)
  | ((_, none), (es, ck)) => (b4, .cells #[.slice none 0 0] 139 (0, 0)) :: (b3, .cells #[ov] 22 (0, 0)) :: (b2, .cells #[ptr bw] 130 (0, 0)) :: (bm, .map es ck) :: []
  | ((i, some (b, cap, junk)), (es, ck)) => (b, .cells (flatT (truN t out i) ++ junk).toArray 126 (0, 0)) :: (b4, .cells #[.slice (some ⟨b, 0, none⟩) (truN t out i).length cap] 139 (0, 0)) :: (b3, .cells #[ov] 22 (0, 0)) :: (b2, .cells #[ptr bw] 130 (0, 0)) :: (bm, .map es ck) :: []
def truO (t : Tr) (out : List Int) : TrS → Prop
  | ((i, none), _) => (truN t out i).length = 0
  | ((i, some (_, cap, junk)), _) => (truN t out i).length ≤ cap ∧ junk.length = (cap - (truN t out i).length) * 3
set_option maxHeartbeats 1000000 in
theorem truths_c (t : Tr) (hv : VT t) (out : List Int) (ho : (out.length : Int) ≤ 9000000000000000000) (oa : Option Addr) (oc : Nat) (sl pl ll tl : Value) (w : World) (bw bm : Nat) (es : Array MapEntry) (ck : Nat) (hT : TW w t sl pl ll tl bw bm es ck) (hO : RdI w (.slice oa out.length oc) out) :
    CnX Tryz.prog 99 #[ptr bw, .slice oa out.length oc] w [bm] (fun y : (Option Addr × Nat) × Array MapEntry × Nat => slV (truthsL t out).length y.1) (fun y w' => (RdT w' (slV (truthsL t out).length y.1) (truthsL t out) ∧ Cache (readV t.s) y.2.1.toList) ∧ w'.heap[bm]? = some (.map y.2.1 y.2.2)) := by
  have hne := hT.ne
  have hel := every_len hv
  have hbwlt : bw < w.heap.size := (Array.getElem?_eq_some_iff.1 hT.hw).1
  have hkeep : ∀ w', Fr [bm] w w' → w'.heap[bw]? = some (wkT t sl pl ll tl bm) := fun w' f => f.keepS (by simpa using hne) hT.hw
  have hOr : ∀ w', Fr [bm] w w' → RdI w' (.slice oa out.length oc) out := fun w' f => Reads.frM hO f (fun x hx => by obtain rfl := List.mem_singleton.1 hx; exact ⟨es, ck, hT.hm⟩)
  obtain ⟨adp, cpp, bp, op, rfl, _, _⟩ := hT.rd.ps.open
  refine cnxS (vs := [_, _]) (S := [bm]) [(bm, .map es ck)] Tryz.func99 rfl rfl ⟨by simp [hT.hm], by simp, by simp⟩ ?_
  all_goals refine tc_seq fun K1 hK1 => ?_
  all_goals refine tc_region ?_
  all_goals refine tl_e (e_box rfl rfl rfl) rfl (fun b2 _ => ?_)
  all_goals refine tl_e (e_box rfl rfl rfl) rfl (fun b3 _ => ?_)
  all_goals refine tl_e (e_alloc1 rfl) rfl (fun b4 _ => ?_)
  all_goals refine tl_nil ?_
  all_goals (refine hK1 ?_; try (clear hK1; clear K1))
  all_goals refine tc_seq fun K2 hK2 => ?_
  all_goals refine tc_seq fun K3 hK3 => ?_
  all_goals refine tc_region ?_
  all_goals refine tl_q (y_load1 rfl (by repeat constructor) (by rfl)) rfl ?_
  all_goals refine tl_e (e_callB rfl (.cons rfl .nil) (fun w' _ => tevery_c bw w')) rfl (fun bL _ => ?_)
  all_goals refine tl_nil ?_
  all_goals (refine hK3 ?_; try (clear hK3; clear K3))
  all_goals refine tc_block ?_
  all_goals (
   refine tc_rangeU (α := Int × Int × Int) (σ := TrS) (gf := 177) (lb := #[ptr bL]) (enc := fun e => [tsV e]) (everyL t) [b4, b3, b2, bm] (truH t out b4 b3 b2 bm bw (.slice oa out.length oc)) (fun i st => st.1.1 = i ∧ truO t out st ∧ Cache (readV t.s) st.2.1.toList) (fun _ _ => False) ((0, none), (es, ck)) rfl rfl (fun _ => rfl) ⟨rfl, rfl, hT.hc⟩ (by simp [truH]) (fun _ h => h.subl (SB.s (by repeat constructor)) (SB.s (by repeat constructor))) (fun w' hw' => every_seq t hv sl _ ll tl ⟨_, _, rfl⟩ w' bw bm bL _ (hw'.heap _ (HM.mem (by repeat constructor))) (by have := hw'.nodup; simp at this ⊢; omega) (hkeep w' (hw'.fr (by simp))) (fun hm => by have h4 := hw'.own _ (HM.mem (b := b4) (by repeat constructor)) (w, [bm]) (by simp); have h3 := hw'.own _ (HM.mem (b := b3) (by repeat constructor)) (w, [bm]) (by simp); have h2 := hw'.own _ (HM.mem (b := b2) (by repeat constructor)) (w, [bm]) (by simp); simp at hm h4 h3 h2; omega)) ?_ ?_ ?_
   · intro l R0 R1 i st e w2 hx hI K hK
     obtain ⟨rfl, hok, hca⟩ := hI
     have heb := every_bd hv (List.mem_of_getElem? hx)
     have hil := (List.getElem?_eq_some_iff.1 hx).1
     have hsu := truN_succ (out := out) hx
     obtain ⟨⟨i, o⟩, ⟨es2, ck2⟩⟩ := st
     have hlen := truN_len t out i
     rcases o with _ | ⟨b0, cap, junk⟩
     all_goals (dsimp only [truO] at hok hca hil hsu; dsimp only [truH] at hK ⊢)
     all_goals refine tc_region ?_
     all_goals refine tl_e (e_allocN rfl) rfl (fun b5 _ => ?_)
     all_goals refine tl_e (e_storeW rfl rfl (by repeat constructor) (by rfl) (by rfl) (by simp [Value.oneCell'])) rfl (fun _ _ => ?_)
     all_goals refine tl_nil ?_
     all_goals refine hK (by repeat constructor) ?_
     all_goals clear hK
     all_goals refine tc_block ?_
     all_goals refine tc_seq fun K4 hK4 => ?_
     all_goals refine tc_region ?_
     all_goals refine tl_q (y_load1 rfl (by repeat constructor) (by rfl)) rfl ?_
     all_goals (refine tl_q (y_loadW rfl (by repeat constructor) (by rfl)) rfl ?_)
     all_goals refine tl_q (y_load1 rfl (by repeat constructor) (by rfl)) rfl ?_
     all_goals refine tl_e (e_callU (val := fun y : Value × Array MapEntry × Nat => .tuple #[y.1, .bool (denOk t e out)]) (p := fun y => Cache (readV t.s) y.2.1.toList) (ob := fun y => .map y.2.1 y.2.2) rfl (.cons rfl (.cons rfl (.cons rfl .nil))) (fun w' hw' => (densities_c t hv e heb out ho oa oc sl _ ll tl w' bw bm es2 ck2 (hT.fr (hw'.fr (w0 := w) (S := [bm]) (MI.m (by repeat constructor))) (hw'.heap _ (HM.mem (b := bm) (by repeat constructor))) hca) (hOr w' (hw'.fr (w0 := w) (S := [bm]) (MI.m (by repeat constructor))))).imp id (fun _ => rfl) (fun _ h => h) (fun y w' _ h => ⟨h.1.2, h.2⟩)) (fun _ => (by repeat constructor))) rfl (fun z hz => ?_)
     all_goals refine tl_q (y_move rfl) rfl ?_
     all_goals refine tl_q (y_extract rfl rfl) rfl ?_
     all_goals refine tl_q (y_extract rfl rfl) rfl ?_
     all_goals refine tl_q (y_assign rfl) rfl ?_
     all_goals refine tl_q (y_assign rfl) rfl ?_
     all_goals refine tl_nil ?_
     all_goals (refine hK4 ?_; try (clear hK4; clear K4))
     all_goals refine tc_seq fun K5 hK5 => ?_
     all_goals refine tc_region ?_
     all_goals refine tl_q (y_move rfl) rfl ?_
     all_goals refine tl_nil ?_
     all_goals (refine hK5 ?_; try (clear hK5; clear K5))
     all_goals (
      refine tc_cond rfl (fun hc => ?_) (fun hc => ?_)
      · try simp only [decide_eq_true_eq, decide_eq_false_iff_not, Int.not_lt, Int.not_le, Bool.not_eq_true', Bool.not_eq_false', Decidable.not_not, not_true_eq_false] at hc
        all_goals first | (exfalso; with_reducible exact bft hc) | (exfalso; with_reducible exact btf hc) | (exfalso; omega) | skip
        all_goals refine tc_region ?_
        all_goals refine tl_q (y_load1 rfl (by repeat constructor) (by rfl)) rfl ?_
        all_goals (refine tl_q (y_loadW rfl (by repeat constructor) (by rfl)) rfl ?_)
        all_goals refine tl_e (e_bslice31 rfl rfl) rfl (fun _ _ => ?_)
        all_goals (first | refine tl_e (e_append_own (old := flatT (truN t out i)) (junk := junk) rfl rfl rfl (by repeat constructor) (flatT_len _) hok.2 hok.1 (fun w' hw' => RdT.own0 (xs := [e]) hw' (by repeat constructor)) (flatT_one _) (by simp only [List.length_cons, List.length_nil]; omega) rfl) rfl (fun y hy => ?_) | refine tl_e (e_append_nil rfl rfl rfl (fun w' hw' => RdT.own0 (xs := [e]) hw' (by repeat constructor)) (flatT_one _) Nat.zero_lt_one (Nat.le_of_ble_eq_true rfl) rfl) rfl (fun y hy => ?_))
        all_goals refine tl_e (e_store1 rfl rfl (by repeat constructor) (by repeat constructor) (by rfl) (by rfl)) rfl (fun _ _ => ?_)
        all_goals refine tl_nil ?_
        all_goals (
         repeat (refine tk_ib ?_)
         first
         | (have hs2 : truN t out (i + 1) = truN t out i ++ [e] := by rw [hsu, if_pos hc]
            refine tk_rq ((i + 1, some (y.1, y.2.1, y.2.2)), (z.2.1, z.2.2)) ⟨rfl, ?_, hz⟩ (fun _ h => ?_)
            · dsimp only [truO]; rw [hs2, List.length_append]; simp only [List.length_cons, List.length_nil] at hy ⊢; omega
            · dsimp only [truH]
              rw [hs2, flatT_append, List.length_append]
              first
              | (rw [show truN t out i = [] from List.eq_nil_of_length_eq_zero hok, show flatT [] = [] from rfl, List.nil_append]; exact (h.subl (SB.s (by repeat constructor)) (SB.s (by repeat constructor))).sw)
              | exact (h.subl (SB.s (by repeat constructor)) (SB.s (by repeat constructor))).sw)
         | (have hs2 : truN t out (i + 1) = truN t out i := by rw [hsu, if_neg (by rw [hc]; exact Bool.false_ne_true)]
            first
            | (refine tk_rq ((i + 1, none), (z.2.1, z.2.2)) ⟨rfl, by dsimp only [truO]; rw [hs2]; exact hok, hz⟩ (fun _ h => ?_)
               dsimp only [truH]; exact h.subl (SB.s (by repeat constructor)) (SB.s (by repeat constructor)))
            | (refine tk_rq ((i + 1, some (b0, cap, junk)), (z.2.1, z.2.2)) ⟨rfl, by dsimp only [truO]; rw [hs2]; exact hok, hz⟩ (fun _ h => ?_)
               dsimp only [truH]; rw [hs2]; exact h.subl (SB.s (by repeat constructor)) (SB.s (by repeat constructor)))))
      · try simp only [decide_eq_true_eq, decide_eq_false_iff_not, Int.not_lt, Int.not_le, Bool.not_eq_true', Bool.not_eq_false', Decidable.not_not, not_true_eq_false] at hc
        all_goals first | (exfalso; with_reducible exact bft hc) | (exfalso; with_reducible exact btf hc) | (exfalso; omega) | skip
        all_goals refine tc_skip ?_
        all_goals (
         repeat (refine tk_ib ?_)
         first
         | (have hs2 : truN t out (i + 1) = truN t out i ++ [e] := by rw [hsu, if_pos hc]
            refine tk_rq ((i + 1, some (y.1, y.2.1, y.2.2)), (z.2.1, z.2.2)) ⟨rfl, ?_, hz⟩ (fun _ h => ?_)
            · dsimp only [truO]; rw [hs2, List.length_append]; simp only [List.length_cons, List.length_nil] at hy ⊢; omega
            · dsimp only [truH]
              rw [hs2, flatT_append, List.length_append]
              first
              | (rw [show truN t out i = [] from List.eq_nil_of_length_eq_zero hok, show flatT [] = [] from rfl, List.nil_append]; exact (h.subl (SB.s (by repeat constructor)) (SB.s (by repeat constructor))).sw)
              | exact (h.subl (SB.s (by repeat constructor)) (SB.s (by repeat constructor))).sw)
         | (have hs2 : truN t out (i + 1) = truN t out i := by rw [hsu, if_neg (by rw [hc]; exact Bool.false_ne_true)]
            first
            | (refine tk_rq ((i + 1, none), (z.2.1, z.2.2)) ⟨rfl, by dsimp only [truO]; rw [hs2]; exact hok, hz⟩ (fun _ h => ?_)
               dsimp only [truH]; exact h.subl (SB.s (by repeat constructor)) (SB.s (by repeat constructor)))
            | (refine tk_rq ((i + 1, some (b0, cap, junk)), (z.2.1, z.2.2)) ⟨rfl, by dsimp only [truO]; rw [hs2]; exact hok, hz⟩ (fun _ h => ?_)
               dsimp only [truH]; rw [hs2]; exact h.subl (SB.s (by repeat constructor)) (SB.s (by repeat constructor))))))
   · intro D st hI
     obtain ⟨hi, hok, hca⟩ := hI
     obtain ⟨⟨i, o⟩, ⟨es2, ck2⟩⟩ := st
     dsimp only at hi
     subst hi
     rcases o with _ | ⟨b0, cap, junk⟩
     all_goals (dsimp only [truO] at hok hca; dsimp only [truH])
     all_goals rw [truN_all] at hok
     all_goals try rw [truN_all]
     all_goals (refine hK2 ?_; try (clear hK2; clear K2))
     all_goals refine tc_seq fun K6 hK6 => ?_
     all_goals refine tc_region ?_
     all_goals refine tl_q (y_load1 rfl (by repeat constructor) (by rfl)) rfl ?_
     all_goals refine tl_e (e_store1 rfl rfl (by repeat constructor) (by repeat constructor) (by rfl) (by rfl)) rfl (fun _ _ => ?_)
     all_goals refine tl_nil ?_
     all_goals (refine hK6 ?_; try (clear hK6; clear K6))
     all_goals refine tc_ret ?_
     all_goals (repeat (first | refine tk_then_ret ?_))
     all_goals first | refine tk_ret rfl rfl (.cons (.one inferInstance rfl (by repeat constructor) (by rfl)) .nil) ?_ | refine tk_retM rfl (by repeat constructor) rfl (.cons (.one inferInstance rfl (by repeat constructor) (by rfl)) .nil) ?_
     all_goals (
      first
      | exact fun w' hw' => ⟨((none, 0), es2, ck2), by unfold slV; rw [hok]; rfl, hw'.fr (by simp), ⟨by unfold slV; rw [hok, List.eq_nil_of_length_eq_zero hok]; exact RdT.nil _, hca⟩, hw'.heap _ (HM.mem (b := bm) (by repeat constructor))⟩
      | exact fun w' hw' => ⟨((some ⟨b0, 0, none⟩, cap), es2, ck2), rfl, hw'.fr (by simp), ⟨RdT.own (xs := truthsL t out) (cap := cap) (junk := junk) (b := b0) hw' (by repeat constructor), hca⟩, hw'.heap _ (HM.mem (b := bm) (by repeat constructor))⟩)
   · intro D c s hJ; exact hJ.elim)
end Go.Sp
/-
  Package trial: the errors of all truths, or the error.
-/
namespace Go.Sp
open Go Go.Proofs
def askedE (t : Tr) : Int := if ¬ chkT t = 0 then chkT t else if (truthsL t []).length = 0 then 11 else 0
theorem askedE_0 {t : Tr} (h : askedE t = 0) : VT t ∧ 0 < (truthsL t []).length := by
  unfold askedE at h
  split at h
  · omega
  · split at h
    · omega
    · exact ⟨chkT_0.1 (by omega), by omega⟩
theorem tw0 {w : World} {t : Tr} {sl pl ll tl : Value} {bw bm : Nat} (hr : RdTr w t sl pl ll tl) (hw : w.heap[bw]? = some (wkT t sl pl ll tl bm)) (hm : w.heap[bm]? = some (.map #[] 0)) : TW w t sl pl ll tl bw bm #[] 0 :=
  ⟨hr, hw, hm, fun e he => by simp at he, hr.ws.one, hr.ps.one, hr.ls.one, hr.ts.one⟩
theorem asked_no (t : Tr) (hn : NT t) (he : ¬ askedE t = 0) (sl pl ll tl : Value) (w : World) (hr : RdTr w t sl pl ll tl) : CnV Tryz.prog 77 #[trV t sl pl ll tl] w (.tuple #[.pointer none, .slice none 0 0, vi (askedE t)]) := by
  have hr0 := hr
  unfold askedE at he ⊢
  refine cnv (vs := [_]) Tryz.func77 rfl rfl ?_
  all_goals refine tc_seq fun K1 hK1 => ?_
  all_goals refine tc_region ?_
  all_goals refine tl_e (e_box rfl rfl rfl) rfl (fun b1 _ => ?_)
  all_goals refine tl_q (y_assign rfl) rfl ?_
  all_goals refine tl_q (y_assign rfl) rfl ?_
  all_goals refine tl_q (y_assign rfl) rfl ?_
  all_goals refine tl_nil ?_
  all_goals (refine hK1 ?_; try (clear hK1; clear K1))
  all_goals refine tc_seq fun K2 hK2 => ?_
  all_goals refine tc_seq fun K3 hK3 => ?_
  all_goals refine tc_region ?_
  all_goals (refine tl_q (y_loadW rfl (by repeat constructor) (by rfl)) rfl ?_)
  all_goals refine tl_e (e_callV rfl (.cons rfl .nil) (fun w' hw' => checkTrial_c t hn _ _ _ _ w' (hr0.fr (hw'.fr (by simp))))) rfl (fun _ _ => ?_)
  all_goals refine tl_q (y_assign rfl) rfl ?_
  all_goals refine tl_nil ?_
  all_goals (refine hK3 ?_; try (clear hK3; clear K3))
  all_goals refine tc_seq fun K4 hK4 => ?_
  all_goals refine tc_region ?_
  all_goals refine tl_q (y_move rfl) rfl ?_
  all_goals refine tl_q (y_neq rfl rfl) rfl ?_
  all_goals refine tl_nil ?_
  all_goals (refine hK4 ?_; try (clear hK4; clear K4))
  all_goals (
   refine tc_cond rfl (fun hc => ?_) (fun hc => ?_)
   · try simp only [decide_eq_true_eq, decide_eq_false_iff_not, Int.not_lt, Int.not_le, Bool.not_eq_true', Bool.not_eq_false', Decidable.not_not, not_true_eq_false] at hc
     all_goals first | (exfalso; with_reducible exact bft hc) | (exfalso; with_reducible exact btf hc) | (exfalso; omega) | skip
     all_goals refine tc_seq fun K5 hK5 => ?_
     all_goals refine tc_region ?_
     all_goals refine tl_q (y_move rfl) rfl ?_
     all_goals refine tl_q (y_assign rfl) rfl ?_
     all_goals refine tl_q (y_assign rfl) rfl ?_
     all_goals refine tl_q (y_assign rfl) rfl ?_
     all_goals refine tl_nil ?_
     all_goals (refine hK5 ?_; try (clear hK5; clear K5))
     all_goals refine tc_ret ?_
     all_goals (repeat (refine tk_then_ret ?_))
     all_goals first | refine tk_ret rfl rfl (.cons (.tmp rfl) (.cons (.tmp rfl) (.cons (.tmp rfl) .nil))) ?_ | refine tk_retM rfl (by repeat constructor) rfl (.cons (.tmp rfl) (.cons (.tmp rfl) (.cons (.tmp rfl) .nil))) ?_
     all_goals (
      refine fun w' hw' => ⟨?_, hw'.fr (by simp)⟩
      first
      | (rw [if_pos (by assumption)]; rfl)
      | (rw [if_neg (by omega), if_pos (by omega)]; rfl)
      | (exfalso; rw [if_neg (by omega), if_neg (by omega)] at he; exact he rfl))
   · try simp only [decide_eq_true_eq, decide_eq_false_iff_not, Int.not_lt, Int.not_le, Bool.not_eq_true', Bool.not_eq_false', Decidable.not_not, not_true_eq_false] at hc
     all_goals first | (exfalso; with_reducible exact bft hc) | (exfalso; with_reducible exact btf hc) | (exfalso; omega) | skip
     all_goals refine tc_skip ?_
     all_goals (refine hK2 ?_; try (clear hK2; clear K2))
     all_goals refine tc_seq fun K6 hK6 => ?_
     all_goals refine tc_region ?_
     all_goals (refine tl_q (y_loadW rfl (by repeat constructor) (by rfl)) rfl ?_)
     all_goals refine tl_e (e_callN rfl (.cons rfl .nil) (fun w' hw' => twork_c t sl pl ll tl hr0.ws.one hr0.ps.one hr0.ls.one hr0.ts.one w')) rfl (fun x hx => ?_)
     all_goals refine tl_q (y_assign rfl) rfl ?_
     all_goals refine tl_nil ?_
     all_goals (refine hK6 ?_; try (clear hK6; clear K6))
     all_goals refine tc_seq fun K7 hK7 => ?_
     all_goals refine tc_region ?_
     all_goals refine tl_q (y_move rfl) rfl ?_
     all_goals refine tl_e (e_callU (val := fun y : (Option Addr × Nat) × Array MapEntry × Nat => slV (truthsL t []).length y.1) (p := fun y => Cache (readV t.s) y.2.1.toList) (ob := fun y => .map y.2.1 y.2.2) rfl (.cons rfl (.cons rfl .nil)) (fun w' hw' => (truths_c t (chkT_0.1 (by omega)) [] (by simp) none 0 sl pl ll tl w' x.1 x.2 #[] 0 (tw0 (hr0.fr (hw'.fr (by simp))) (hw'.heap _ (HM.mem (by repeat constructor))) (hw'.heap _ (HM.mem (b := x.2) (by repeat constructor)))) (RdI.nil w')).imp id (fun _ => rfl) (fun _ h => h) (fun y w' _ h => ⟨h.1.2, h.2⟩)) (fun _ => (by repeat constructor))) rfl (fun _ _ => ?_)
     all_goals refine tl_q (y_assign rfl) rfl ?_
     all_goals refine tl_nil ?_
     all_goals (refine hK7 ?_; try (clear hK7; clear K7))
     all_goals refine tc_seq fun K8 hK8 => ?_
     all_goals refine tc_seq fun K9 hK9 => ?_
     all_goals refine tc_region ?_
     all_goals refine tl_q (y_move rfl) rfl ?_
     all_goals refine tl_q (y_len rfl) rfl ?_
     all_goals refine tl_q (y_eql rfl rfl) rfl ?_
     all_goals refine tl_nil ?_
     all_goals (refine hK9 ?_; try (clear hK9; clear K9))
     all_goals (
      refine tc_cond rfl (fun hc => ?_) (fun hc => ?_)
      · try simp only [decide_eq_true_eq, decide_eq_false_iff_not, Int.not_lt, Int.not_le, Bool.not_eq_true', Bool.not_eq_false', Decidable.not_not, not_true_eq_false] at hc
        all_goals first | (exfalso; with_reducible exact bft hc) | (exfalso; with_reducible exact btf hc) | (exfalso; omega) | skip
        all_goals refine tc_seq fun K10 hK10 => ?_
        all_goals refine tc_region ?_
        all_goals refine tl_q (y_assign rfl) rfl ?_
        all_goals refine tl_q (y_assign rfl) rfl ?_
        all_goals refine tl_q (y_assign rfl) rfl ?_
        all_goals refine tl_nil ?_
        all_goals (refine hK10 ?_; try (clear hK10; clear K10))
        all_goals refine tc_ret ?_
        all_goals (repeat (refine tk_then_ret ?_))
        all_goals first | refine tk_ret rfl rfl (.cons (.tmp rfl) (.cons (.tmp rfl) (.cons (.tmp rfl) .nil))) ?_ | refine tk_retM rfl (by repeat constructor) rfl (.cons (.tmp rfl) (.cons (.tmp rfl) (.cons (.tmp rfl) .nil))) ?_
        all_goals (
         refine fun w' hw' => ⟨?_, hw'.fr (by simp)⟩
         first
         | (rw [if_pos (by assumption)]; rfl)
         | (rw [if_neg (by omega), if_pos (by omega)]; rfl)
         | (exfalso; rw [if_neg (by omega), if_neg (by omega)] at he; exact he rfl))
      · try simp only [decide_eq_true_eq, decide_eq_false_iff_not, Int.not_lt, Int.not_le, Bool.not_eq_true', Bool.not_eq_false', Decidable.not_not, not_true_eq_false] at hc
        all_goals first | (exfalso; with_reducible exact bft hc) | (exfalso; with_reducible exact btf hc) | (exfalso; omega) | skip
        all_goals refine tc_skip ?_
        all_goals (refine hK8 ?_; try (clear hK8; clear K8))
        all_goals refine tc_seq fun K11 hK11 => ?_
        all_goals refine tc_region ?_
        all_goals refine tl_q (y_move rfl) rfl ?_
        all_goals refine tl_q (y_move rfl) rfl ?_
        all_goals refine tl_q (y_assign rfl) rfl ?_
        all_goals refine tl_q (y_assign rfl) rfl ?_
        all_goals refine tl_q (y_assign rfl) rfl ?_
        all_goals refine tl_nil ?_
        all_goals (refine hK11 ?_; try (clear hK11; clear K11))
        all_goals refine tc_ret ?_
        all_goals (repeat (first | refine tk_then_ret ?_))
        all_goals first | refine tk_ret rfl rfl (.cons (.tmp rfl) (.cons (.tmp rfl) (.cons (.tmp rfl) .nil))) ?_ | refine tk_retM rfl (by repeat constructor) rfl (.cons (.tmp rfl) (.cons (.tmp rfl) (.cons (.tmp rfl) .nil))) ?_
        all_goals (
         refine fun w' hw' => ⟨?_, hw'.fr (by simp)⟩
         first
         | (rw [if_pos (by assumption)]; rfl)
         | (rw [if_neg (by omega), if_pos (by omega)]; rfl)
         | (exfalso; rw [if_neg (by omega), if_neg (by omega)] at he; exact he rfl))))
theorem asked_ok (t : Tr) (hn : NT t) (he : askedE t = 0) (sl pl ll tl : Value) (w : World) (hr : RdTr w t sl pl ll tl) :
    CnX Tryz.prog 77 #[trV t sl pl ll tl] w [] (fun y : (Nat × Nat) × (Option Addr × Nat) × Array MapEntry × Nat => .tuple #[ptr y.1.1, slV (truthsL t []).length y.2.1, vi 0])
      (fun y w' => (RdT w' (slV (truthsL t []).length y.2.1) (truthsL t []) ∧ Cache (readV t.s) y.2.2.1.toList ∧ w'.heap[y.1.1]? = some (wkT t sl pl ll tl y.1.2) ∧ y.1.1 ≠ y.1.2) ∧ w.heap.size ≤ y.1.2 ∧ w'.heap[y.1.2]? = some (.map y.2.2.1 y.2.2.2)) := by
  have hr0 := hr
  obtain ⟨hv, hpos⟩ := askedE_0 he
  have hck := chkT_0.2 hv
  refine cnx0 (vs := [_]) Tryz.func77 rfl rfl ?_
  all_goals refine tc_seq fun K1 hK1 => ?_
  all_goals refine tc_region ?_
  all_goals refine tl_e (e_box rfl rfl rfl) rfl (fun b1 _ => ?_)
  all_goals refine tl_q (y_assign rfl) rfl ?_
  all_goals refine tl_q (y_assign rfl) rfl ?_
  all_goals refine tl_q (y_assign rfl) rfl ?_
  all_goals refine tl_nil ?_
  all_goals (refine hK1 ?_; try (clear hK1; clear K1))
  all_goals refine tc_seq fun K2 hK2 => ?_
  all_goals refine tc_seq fun K3 hK3 => ?_
  all_goals refine tc_region ?_
  all_goals (refine tl_q (y_loadW rfl (by repeat constructor) (by rfl)) rfl ?_)
  all_goals refine tl_e (e_callV rfl (.cons rfl .nil) (fun w' hw' => checkTrial_c t hn _ _ _ _ w' (hr0.fr (hw'.fr (by simp))))) rfl (fun _ _ => ?_)
  all_goals refine tl_q (y_assign rfl) rfl ?_
  all_goals refine tl_nil ?_
  all_goals (refine hK3 ?_; try (clear hK3; clear K3))
  all_goals refine tc_seq fun K4 hK4 => ?_
  all_goals refine tc_region ?_
  all_goals refine tl_q (y_move rfl) rfl ?_
  all_goals refine tl_q (y_neq rfl rfl) rfl ?_
  all_goals refine tl_nil ?_
  all_goals (refine hK4 ?_; try (clear hK4; clear K4))
  all_goals (
   refine tc_cond rfl (fun hc => ?_) (fun hc => ?_)
   · try simp only [decide_eq_true_eq, decide_eq_false_iff_not, Int.not_lt, Int.not_le, Bool.not_eq_true', Bool.not_eq_false', Decidable.not_not, not_true_eq_false] at hc
     all_goals first | (exfalso; with_reducible exact bft hc) | (exfalso; with_reducible exact btf hc) | (exfalso; omega) | skip
     all_goals refine tc_seq fun K5 hK5 => ?_
     all_goals refine tc_region ?_
     all_goals refine tl_q (y_move rfl) rfl ?_
     all_goals refine tl_q (y_assign rfl) rfl ?_
     all_goals refine tl_q (y_assign rfl) rfl ?_
     all_goals refine tl_q (y_assign rfl) rfl ?_
     all_goals refine tl_nil ?_
     all_goals (refine hK5 ?_; try (clear hK5; clear K5))
     all_goals refine tc_ret ?_
     all_goals (repeat (first | refine tk_then_ret ?_))
     all_goals first | refine tk_ret rfl rfl (.cons (.tmp rfl) (.cons (.tmp rfl) (.cons (.tmp rfl) .nil))) ?_ | refine tk_retM rfl (by repeat constructor) rfl (.cons (.tmp rfl) (.cons (.tmp rfl) (.cons (.tmp rfl) .nil))) ?_
     all_goals (
      refine fun w' hw' => ?_
      first
      | exact ⟨((x.1, x.2), y.1.1, y.1.2.1, y.1.2.2), rfl, hw'.fr (by simp), ⟨hy.1.1.fr (hw'.calm hy.2 (by simp) (List.Sublist.refl _)), hy.1.2, hw'.heap _ (HM.mem (by repeat constructor)), by have := hw'.nodup; simp at this; dsimp only; omega⟩, (hw'.own _ (HM.mem (b := x.2) (by repeat constructor)) (w, []) (by simp)).resolve_left (by simp), hw'.heap _ (HM.mem (b := x.2) (by repeat constructor))⟩
      | (exfalso; omega))
   · try simp only [decide_eq_true_eq, decide_eq_false_iff_not, Int.not_lt, Int.not_le, Bool.not_eq_true', Bool.not_eq_false', Decidable.not_not, not_true_eq_false] at hc
     all_goals first | (exfalso; with_reducible exact bft hc) | (exfalso; with_reducible exact btf hc) | (exfalso; omega) | skip
     all_goals refine tc_skip ?_
     all_goals (refine hK2 ?_; try (clear hK2; clear K2))
     all_goals refine tc_seq fun K6 hK6 => ?_
     all_goals refine tc_region ?_
     all_goals (refine tl_q (y_loadW rfl (by repeat constructor) (by rfl)) rfl ?_)
     all_goals refine tl_e (e_callN rfl (.cons rfl .nil) (fun w' hw' => twork_c t sl pl ll tl hr0.ws.one hr0.ps.one hr0.ls.one hr0.ts.one w')) rfl (fun x hx => ?_)
     all_goals refine tl_q (y_assign rfl) rfl ?_
     all_goals refine tl_nil ?_
     all_goals (refine hK6 ?_; try (clear hK6; clear K6))
     all_goals refine tc_seq fun K7 hK7 => ?_
     all_goals refine tc_region ?_
     all_goals refine tl_q (y_move rfl) rfl ?_
     all_goals refine tl_e (e_callUX rfl (.cons rfl (.cons rfl .nil)) (fun w' hw' => truths_c t hv [] (by simp) none 0 sl pl ll tl w' x.1 x.2 #[] 0 (tw0 (hr0.fr (hw'.fr (by simp))) (hw'.heap _ (HM.mem (by repeat constructor))) (hw'.heap _ (HM.mem (b := x.2) (by repeat constructor)))) (RdI.nil w')) (fun _ => (by repeat constructor))) rfl (fun y hy => ?_)
     all_goals refine tl_q (y_assign rfl) rfl ?_
     all_goals refine tl_nil ?_
     all_goals (refine hK7 ?_; try (clear hK7; clear K7))
     all_goals refine tc_seq fun K8 hK8 => ?_
     all_goals refine tc_seq fun K9 hK9 => ?_
     all_goals refine tc_region ?_
     all_goals refine tl_q (y_move rfl) rfl ?_
     all_goals refine tl_q (y_len rfl) rfl ?_
     all_goals refine tl_q (y_eql rfl rfl) rfl ?_
     all_goals refine tl_nil ?_
     all_goals (refine hK9 ?_; try (clear hK9; clear K9))
     all_goals (
      refine tc_cond rfl (fun hc => ?_) (fun hc => ?_)
      · try simp only [decide_eq_true_eq, decide_eq_false_iff_not, Int.not_lt, Int.not_le, Bool.not_eq_true', Bool.not_eq_false', Decidable.not_not, not_true_eq_false] at hc
        all_goals first | (exfalso; with_reducible exact bft hc) | (exfalso; with_reducible exact btf hc) | (exfalso; omega) | skip
        all_goals refine tc_seq fun K10 hK10 => ?_
        all_goals refine tc_region ?_
        all_goals refine tl_q (y_assign rfl) rfl ?_
        all_goals refine tl_q (y_assign rfl) rfl ?_
        all_goals refine tl_q (y_assign rfl) rfl ?_
        all_goals refine tl_nil ?_
        all_goals (refine hK10 ?_; try (clear hK10; clear K10))
        all_goals refine tc_ret ?_
        all_goals (repeat (first | refine tk_then_ret ?_))
        all_goals first | refine tk_ret rfl rfl (.cons (.tmp rfl) (.cons (.tmp rfl) (.cons (.tmp rfl) .nil))) ?_ | refine tk_retM rfl (by repeat constructor) rfl (.cons (.tmp rfl) (.cons (.tmp rfl) (.cons (.tmp rfl) .nil))) ?_
        all_goals (
         refine fun w' hw' => ?_
         first
         | exact ⟨((x.1, x.2), y.1.1, y.1.2.1, y.1.2.2), rfl, hw'.fr (by simp), ⟨hy.1.1.fr (hw'.calm hy.2 (by simp) (List.Sublist.refl _)), hy.1.2, hw'.heap _ (HM.mem (by repeat constructor)), by have := hw'.nodup; simp at this; dsimp only; omega⟩, (hw'.own _ (HM.mem (b := x.2) (by repeat constructor)) (w, []) (by simp)).resolve_left (by simp), hw'.heap _ (HM.mem (b := x.2) (by repeat constructor))⟩
         | (exfalso; omega))
      · try simp only [decide_eq_true_eq, decide_eq_false_iff_not, Int.not_lt, Int.not_le, Bool.not_eq_true', Bool.not_eq_false', Decidable.not_not, not_true_eq_false] at hc
        all_goals first | (exfalso; with_reducible exact bft hc) | (exfalso; with_reducible exact btf hc) | (exfalso; omega) | skip
        all_goals refine tc_skip ?_
        all_goals (refine hK8 ?_; try (clear hK8; clear K8))
        all_goals refine tc_seq fun K11 hK11 => ?_
        all_goals refine tc_region ?_
        all_goals refine tl_q (y_move rfl) rfl ?_
        all_goals refine tl_q (y_move rfl) rfl ?_
        all_goals refine tl_q (y_assign rfl) rfl ?_
        all_goals refine tl_q (y_assign rfl) rfl ?_
        all_goals refine tl_q (y_assign rfl) rfl ?_
        all_goals refine tl_nil ?_
        all_goals (refine hK11 ?_; try (clear hK11; clear K11))
        all_goals refine tc_ret ?_
        all_goals (repeat (first | refine tk_then_ret ?_))
        all_goals first | refine tk_ret rfl rfl (.cons (.tmp rfl) (.cons (.tmp rfl) (.cons (.tmp rfl) .nil))) ?_ | refine tk_retM rfl (by repeat constructor) rfl (.cons (.tmp rfl) (.cons (.tmp rfl) (.cons (.tmp rfl) .nil))) ?_
        all_goals (
         refine fun w' hw' => ?_
         first
         | exact ⟨((x.1, x.2), y.1.1, y.1.2.1, y.1.2.2), rfl, hw'.fr (by simp), ⟨hy.1.1.fr (hw'.calm hy.2 (by simp) (List.Sublist.refl _)), hy.1.2, hw'.heap _ (HM.mem (by repeat constructor)), by have := hw'.nodup; simp at this; dsimp only; omega⟩, (hw'.own _ (HM.mem (b := x.2) (by repeat constructor)) (w, []) (by simp)).resolve_left (by simp), hw'.heap _ (HM.mem (b := x.2) (by repeat constructor))⟩
         | (exfalso; omega))))
end Go.Sp
/-
  What the statements are made of: readings, words, awake.
-/
namespace Go.Sp
open Go Go.Proofs
theorem flatR_append (l m : List (Int × Int)) : flatR (l ++ m) = flatR l ++ flatR m := by simp [flatR]
theorem flatR_len (l : List (Int × Int)) : (flatR l).length = l.length * 2 := by
  induction l with
  | nil => rfl
  | cons r l ih => simp only [flatR, List.flatMap_cons, List.length_append, List.length_cons, List.length_nil] at ih ⊢; omega
theorem flatR_one (l : List (Int × Int)) : one' (flatR l) := fun u hu => by
  obtain ⟨r, _, h⟩ := List.mem_flatMap.1 hu
  simp at h
  rcases h with rfl | rfl <;> rfl
theorem RdR.nil (w : World) : RdR w (.slice none 0 0) [] := ⟨rfl, none, 0, rfl, fun h => absurd rfl h⟩
theorem RdR.own {bs : List (World × List Nat)} {H : List (Nat × Obj)} {w : World} {b : Nat} {xs : List (Int × Int)} {e : TypeId} {f : Nat × Nat} {cap : Nat} {junk : List Value} (hw : HG bs H w) (hm : HM b (.cells (flatR xs ++ junk).toArray e f) H) : RdR w (.slice (some ⟨b, 0, none⟩) xs.length cap) xs := by
  refine ⟨flatR_len xs, _, _, rfl, fun _ => ⟨b, 0, rfl, ?_⟩⟩
  have := CA_pre (flatR xs) junk e f
  rw [flatR_len] at this
  exact this.cells (hw.heap _ hm.mem)
theorem RdR.own0 {bs : List (World × List Nat)} {H : List (Nat × Obj)} {w : World} {b : Nat} {xs : List (Int × Int)} {e : TypeId} {f : Nat × Nat} {cap : Nat} (hw : HG bs H w) (hm : HM b (.cells (flatR xs).toArray e f) H) : RdR w (.slice (some ⟨b, 0, none⟩) xs.length cap) xs :=
  RdR.own (junk := []) hw (by rw [List.append_nil]; exact hm)
def outOkR : Nat × Option (Nat × Nat × List Value) → Prop
  | (n, none) => n = 0
  | (n, some (_, cap, junk)) => n ≤ cap ∧ junk.length = (cap - n) * 2
theorem take_succ' {l : List (Int × Int)} {n : Nat} (h : n < l.length) : l.take (n + 1) = l.take n ++ [l.getD n (0, 0)] := by
  rw [List.take_add_one, List.getElem?_eq_getElem h, List.getD_eq_getElem?_getD, List.getElem?_eq_getElem h]; rfl
end Go.Sp
/-
  Package trial: the bounds of all densities.
-/
namespace Go.Sp
open Go Go.Proofs
/-- A call that makes a block that is known, and returns something of which more is known. -/
theorem RdT.opens1 {w : World} {xs : List (Int × Int × Int)} {x : Option Addr × Nat} (h : RdT w (slV xs.length x) xs) : ∃ b o, 0 < xs.length → x.1 = some ⟨b, o, none⟩ := by
  obtain ⟨ad, cap, b, o, e, had, _⟩ := h.open
  injection e with e1 e2 e3
  subst e1
  exact ⟨b, o, had⟩
theorem RdT.at1 {w : World} {b o : Nat} {xs : List (Int × Int × Int)} {x : Option Addr × Nat} (h : RdT w (slV xs.length x) xs) (hx : x.1 = some ⟨b, o, none⟩) {i : Nat} (hi : i < xs.length) : CA (fun k => w.cell? ⟨b, k, none⟩) (o + i * 3) 3 [vi (xs.getD i (0, 0, 0)).1, vi (xs.getD i (0, 0, 0)).2.1, vi (xs.getD i (0, 0, 0)).2.2] := by
  unfold slV at h
  rw [hx] at h
  exact h.at hi
theorem e_callBX {P : Program} {N : NN} {F : List (Nat × Value)} {bs : List (World × List Nat)} {H : List (Nat × Obj)} {d : Tmp} {ty : TypeId} {pos : String} {after : Array Edge} {g : Option (Nat × Bool)} {f : FuncId} [GoFn P f] {xs : List Operand} {tys : Array TypeId} {vs : List Value} {α : Type} {val : α → Value} {p : α → World → Prop} {bk : α → Nat} {ob : α → Obj}
    (hd : Nat.blt d N.n = true) (hxs : EA F xs vs) (hc : ∀ w, HG bs H w → CnX P f vs.toArray w [] val (fun x w' => p x w' ∧ w.heap.size ≤ bk x ∧ w'.heap[bk x]? = some (ob x))) :
    OpE P ⟨some d, .call ⟨.value (.func f), xs.toArray, tys⟩, ty, pos, after, g⟩ N F bs H (fun y : α × World => p y.1 y.2 ∧ HG bs ((bk y.1, ob y.1) :: H) y.2) (fun y => (d, val y.1) :: F) (fun y => (y.2, bk y.1 :: H.map Prod.fst) :: bs) (fun y => (bk y.1, ob y.1) :: H) := by
  unfold OpE
  intro a w ht hw K Q hK
  unfold Oper.wp
  rw [exec_call (x := .func f) rfl hxs ht w]
  simp only [Oper.upon]
  simp only [Array.empty_append, Array.append_empty]
  have hcc := hc w hw
  unfold CnX at hcc
  refine hcc.mono fun e w' he => ?_
  obtain ⟨x, rfl, hf, hp, h1, h2⟩ := he
  have hg := hw.add hf h1 h2
  exact hK (x, w') _ _ ⟨hp, hg⟩ (ht.put hd _) hg.push
end Go.Sp
