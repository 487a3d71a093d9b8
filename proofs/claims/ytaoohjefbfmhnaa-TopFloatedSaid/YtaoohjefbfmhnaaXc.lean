/-
  Package trial: what is valid.
-/
import Derived.Test.YtaoohjefbfmhnaaXb
set_option linter.unusedVariables false
set_option linter.unusedSimpArgs false
set_option linter.deprecated false
namespace Go.Sp
open Go Go.Proofs
/-- A trial's slices, as they are read. -/
structure RdTr (w : World) (t : Tr) (sl pl ll tl : Value) : Prop where
  ws : RdI w sl t.s.weights
  ps : RdI w pl t.parts
  ls : RdR w ll t.liquids
  ts : RdT w tl t.tests
theorem RdTr.fr {w w' : World} {t : Tr} {sl pl ll tl : Value} (h : RdTr w t sl pl ll tl) (f : Fr [] w w') : RdTr w' t sl pl ll tl := ⟨h.ws.fr f, h.ps.fr f, h.ls.fr f, h.ts.fr f⟩
structure NT (t : Tr) : Prop where
  ws : (t.s.weights.length : Int) ≤ 9000000000000000000
  ps : (t.parts.length : Int) ≤ 9000000000000000000
  ls : (t.liquids.length : Int) ≤ 9000000000000000000
  ts : (t.tests.length : Int) ≤ 9000000000000000000
def partQ (t : Tr) (l x : Int) : Bool := decide (l < x ∧ (0 ≤ x ∧ x ≤ t.s.divisions))
theorem parted1_c (t : Tr) (sl pl ll tl : Value) (b bt : Nat) (hne : bt ≠ b) (w : World) (hbt : w.heap[bt]? = some (.cells (trV t sl pl ll tl).cells 54 (0, 0))) :
    TestsS Try.prog 74 #[] #[ptr b, ptr bt] b (partQ t) w := by
  intro x l w1 f1 hl
  have hb1 := f1.keepS (by simpa using hne) hbt
  rw [show (#[] ++ #[vi x] ++ #[ptr b, ptr bt] : Array Value) = #[vi x, ptr b, ptr bt] from by simp]
  refine cnxS (vs := [_, _, _]) (S := [b]) [(b, .cells #[vi l] 3 (0, 0))] Try.func74 rfl rfl ⟨by simp [hl], by simp, by simp⟩ ?_
  all_goals refine tc_seq fun K1 hK1 => ?_
  all_goals refine tc_region ?_
  all_goals refine tl_q (y_assign rfl) rfl ?_
  all_goals refine tl_nil ?_
  all_goals (refine hK1 ?_; try (clear hK1; clear K1))
  all_goals refine tc_seq fun K2 hK2 => ?_
  all_goals refine tc_region ?_
  all_goals refine tl_q (y_move rfl) rfl ?_
  all_goals (refine tl_q (y_load1 rfl (by repeat constructor) (by rfl)) rfl ?_)
  all_goals refine tl_q (y_gtr rfl rfl) rfl ?_
  all_goals refine tl_q (y_move rfl) rfl ?_
  all_goals (refine tl_gs rfl rfl (fun hc => ?_) (fun hc => ?_) <;> (try simp only [decide_eq_true_eq, decide_eq_false_iff_not, Int.not_lt, Int.not_le, Bool.not_eq_true', Bool.not_eq_false', Decidable.not_not, not_true_eq_false] at hc) <;> (first | refine tl_sk rfl rfl rfl rfl ?_ | refine tl_qg rfl rfl (y_loadNo (n := 10) (vs := (trV t sl pl ll tl).cells.toList) rfl (fun w' hw' => (CA_whole (c := (trV t sl pl ll tl).cells) (t := 54) (f := (0, 0)) rfl).cells ((hw'.fr (w0 := w1) (S := [b]) (by simp)).keepS (by simpa using hne) hb1))) rfl ?_))
  all_goals (first | refine tl_sk rfl rfl rfl rfl ?_ | refine tl_qg rfl rfl (y_move rfl) rfl ?_)
  all_goals (first | refine tl_sk rfl rfl rfl rfl ?_ | refine tl_eg rfl rfl rfl (e_callV rfl (.cons rfl (.cons rfl .nil)) (fun w' _ => tdivision_c t x sl pl ll tl w')) (fun _ _ => ?_))
  all_goals (first | refine tl_q (y_pick_t rfl rfl) rfl ?_ | refine tl_q (y_pick_f rfl rfl) rfl ?_)
  all_goals refine tl_q (y_assign rfl) rfl ?_
  all_goals refine tl_nil ?_
  all_goals (refine hK2 ?_; try (clear hK2; clear K2))
  all_goals refine tc_seq fun K3 hK3 => ?_
  all_goals refine tc_region ?_
  all_goals refine tl_q (y_move rfl) rfl ?_
  all_goals refine tl_e (e_store1 rfl rfl (by repeat constructor) (by repeat constructor) (by rfl) (by rfl)) rfl (fun _ _ => ?_)
  all_goals refine tl_nil ?_
  all_goals (refine hK3 ?_; try (clear hK3; clear K3))
  all_goals refine tc_seq fun K4 hK4 => ?_
  all_goals refine tc_region ?_
  all_goals refine tl_q (y_move rfl) rfl ?_
  all_goals refine tl_q (y_assign rfl) rfl ?_
  all_goals refine tl_nil ?_
  all_goals (refine hK4 ?_; try (clear hK4; clear K4))
  all_goals refine tc_ret ?_
  all_goals (repeat (first | refine tk_then_ret ?_))
  all_goals first | refine tk_ret rfl rfl (.cons (.tmp rfl) .nil) ?_ | refine tk_retM rfl (by repeat constructor) rfl (.cons (.tmp rfl) .nil) ?_
  all_goals (
   refine fun w' hw' => ⟨(), ?_, hw'.fr (by simp), trivial, hw'.heap _ (HM.mem (by repeat constructor))⟩
   refine congrArg (fun b => Ending.returned (Value.bool b)) ?_
   unfold partQ
   first
   | exact (decide_eq_true (by omega)).symm
   | exact (decide_eq_false (by omega)).symm
   | exact decide_eq_decide.2 (by omega))
def partB (t : Tr) : Bool := decide (0 < t.parts.length ∧ t.parts.getD 0 0 = 0) && allS (partQ t) (-1) t.parts
theorem parted_c (t : Tr) (hn : NT t) (sl pl ll tl : Value) (w : World) (hr : RdTr w t sl pl ll tl) : CnV Try.prog 47 #[trV t sl pl ll tl] w (.bool (partB t)) := by
  have hr0 := hr.ps
  obtain ⟨ad, cap, b0, o, rfl, had, hcell⟩ := hr.ps.open
  have hn2 := hn.ps
  refine cnv (vs := [_]) Try.func47 rfl rfl ?_
  all_goals refine tc_seq fun K1 hK1 => ?_
  all_goals refine tc_region ?_
  all_goals refine tl_e (e_box rfl rfl rfl) rfl (fun b1 _ => ?_)
  all_goals refine tl_q (y_assign rfl) rfl ?_
  all_goals refine tl_nil ?_
  all_goals (refine hK1 ?_; try (clear hK1; clear K1))
  all_goals refine tc_seq fun K2 hK2 => ?_
  all_goals refine tc_region ?_
  all_goals refine tl_e (e_alloc1 rfl) rfl (fun b3 _ => ?_)
  all_goals refine tl_e (e_store1 rfl rfl (by repeat constructor) (by repeat constructor) (by rfl) (by rfl)) rfl (fun _ _ => ?_)
  all_goals refine tl_nil ?_
  all_goals (refine hK2 ?_; try (clear hK2; clear K2))
  all_goals refine tc_seq fun K3 hK3 => ?_
  all_goals refine tc_region ?_
  all_goals refine tl_q (y_field rfl) rfl ?_
  all_goals (refine tl_q (y_load1 rfl (by repeat constructor) (by rfl)) rfl ?_)
  all_goals refine tl_q (y_len rfl) rfl ?_
  all_goals refine tl_q (y_gtr rfl rfl) rfl ?_
  all_goals refine tl_q (y_move rfl) rfl ?_
  all_goals (refine tl_gs rfl rfl (fun hc => ?_) (fun hc => ?_) <;> (try simp only [decide_eq_true_eq, decide_eq_false_iff_not, Int.not_lt, Int.not_le, Bool.not_eq_true', Bool.not_eq_false', Decidable.not_not, not_true_eq_false] at hc) <;> (first | refine tl_sk rfl rfl rfl rfl ?_ | refine tl_qg rfl rfl (y_field rfl) rfl ?_))
  all_goals (first | refine tl_sk rfl rfl rfl rfl ?_ | refine tl_qg rfl rfl (y_load1 rfl (by repeat constructor) (by rfl)) rfl ?_)
  all_goals (first | refine tl_sk rfl rfl rfl rfl ?_ | refine tl_qg rfl rfl (y_index rfl rfl (by omega) (had (by omega))) rfl ?_)
  all_goals (first | refine tl_sk rfl rfl rfl rfl ?_ | refine tl_qg rfl rfl (y_load1o (v := vi (t.parts.getD 0 0)) rfl (fun w' hw' => hcell w' (hw'.fr (by simp)) 0 (by omega))) rfl ?_)
  all_goals (first | refine tl_sk rfl rfl rfl rfl ?_ | refine tl_qg rfl rfl (y_eql rfl rfl) rfl ?_)
  all_goals (first | refine tl_q (y_pick_t rfl rfl) rfl ?_ | refine tl_q (y_pick_f rfl rfl) rfl ?_)
  all_goals refine tl_q (y_move rfl) rfl ?_
  all_goals (first | refine tl_sk rfl rfl rfl rfl ?_ | (refine tl_gs rfl rfl (fun hc => ?_) (fun hc => ?_) <;> (try simp only [decide_eq_true_eq, decide_eq_false_iff_not, Int.not_lt, Int.not_le, Bool.not_eq_true', Bool.not_eq_false', Decidable.not_not, not_true_eq_false] at hc) <;> (first | refine tl_sk rfl rfl rfl rfl ?_ | refine tl_qg rfl rfl (y_field rfl) rfl ?_)))
  all_goals (first | refine tl_sk rfl rfl rfl rfl ?_ | refine tl_qg rfl rfl (y_load1 rfl (by repeat constructor) (by rfl)) rfl ?_)
  all_goals (first | refine tl_sk rfl rfl rfl rfl ?_ | refine tl_qg rfl rfl (y_fn .nil (.cons rfl (.cons rfl .nil))) rfl ?_)
  all_goals (first | refine tl_sk rfl rfl rfl rfl ?_ | refine tl_eg rfl rfl rfl (e_callU (ob := fun z : Int => .cells #[vi z] 3 (0, 0)) rfl (.cons rfl (.cons rfl .nil)) (fun w' hw' => allS_c 74 #[] #[ptr b3, ptr b1] b3 (partQ t) t.parts hn2 _ w' (-1) (hw'.heap _ (HM.mem (by repeat constructor))) (fun w2 f => hr0.fr ((hw'.fr (w0 := w) (S := []) (by simp)).trans f (fun x hx => .inr (by rw [List.mem_singleton.1 hx]; exact (hw'.own _ (HM.mem (b := b3) (by repeat constructor)) (w, []) (by simp)).resolve_left (by simp))))) (parted1_c t sl _ ll tl b3 b1 (by have := hw'.nodup; simp at this; omega) w' (hw'.heap _ (HM.mem (by repeat constructor))))) (fun _ => (by repeat constructor))) (fun z hz => ?_))
  all_goals (first | refine tl_q (y_pick_t rfl rfl) rfl ?_ | refine tl_q (y_pick_f rfl rfl) rfl ?_)
  all_goals refine tl_q (y_assign rfl) rfl ?_
  all_goals refine tl_nil ?_
  all_goals (refine hK3 ?_; try (clear hK3; clear K3))
  all_goals refine tc_ret ?_
  all_goals (repeat (first | refine tk_then_ret ?_))
  all_goals first | refine tk_ret rfl rfl (.cons (.tmp rfl) .nil) ?_ | refine tk_retM rfl (by repeat constructor) rfl (.cons (.tmp rfl) .nil) ?_
  all_goals (
   refine fun w' hw' => ⟨congrArg (fun b => Ending.returned (Value.bool b)) ?_, hw'.fr (by simp)⟩
   unfold partB
   first
   | (rw [decide_eq_true (by omega), Bool.true_and])
   | (rw [decide_eq_false (by omega), Bool.false_and]))
end Go.Sp
