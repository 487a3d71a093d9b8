/-
  Package trial: the smallest set of tests.
-/
import Derived.Test.YtaoohjefbfmhnaaXq
import Derived.Test.YtaoohjefbfmhnaaLs
set_option linter.unusedVariables false
set_option linter.unusedSimpArgs false
set_option linter.deprecated false
namespace Go.Sp
open Go Go.Proofs
def fitsT (t : Tr) (xs : List Int) : Bool := decide (0 < (truthsL t xs).length)
theorem fits_full {t : Tr} (hv : VT t) {xs : List Int} (h : ∀ i : Nat, i < t.tests.length → (i : Int) ∈ xs) : fitsT t xs = true := by
  have hp : ∀ (e : Int × Int × Int) (i : Nat) (d : Int), passN t e i xs d t.tests.length = true := fun e i d => List.all_eq_true.2 fun j hj => by
    unfold passF
    rw [decide_eq_true (h j (List.mem_range.1 hj)), Bool.true_or, Bool.or_true]
  have hd : ∀ (e : Int × Int × Int) (i : Nat), i < t.liquids.length → 0 < (denseL t e i xs).length := fun e i hi => by
    have hb := hv.lqb hi
    have hc : 0 < lqC t i := by unfold lqC; omega
    have := denseN_get hc (hp e i _)
    exact Nat.lt_of_le_of_lt (Nat.zero_le _) (List.getElem?_eq_some_iff.1 this).1
  have hn : 0 < (everyL t).length := by
    have h1 := hv.p1
    have h3 := hv.p3
    have hw := hv.w
    have := (ini_all ⟨t.worst.toNat, by omega⟩ ⟨t.parts.length, by omega⟩ h1).2.1
    unfold everyL; rw [List.length_map, List.length_range]; exact this
  have ht : truthsL t xs = everyL t := by
    unfold truthsL
    exact List.filter_eq_self.2 fun e _ => denOk_yes fun i hi => hd e i hi
  unfold fitsT
  rw [ht]; exact decide_eq_true hn
theorem leaveT_p (t : Tr) (hv : VT t) (sl pl ll tl : Value) (w : World) (bt bw bm : Nat) (es : Array MapEntry) (ck : Nat) (hbt : w.heap[bt]? = some (.cells #[ptr bw] 70 (0, 0))) (hT : TW w t sl pl ll tl bw bm es ck) :
    Pass Try.prog 32 #[ptr bt] (fitsT t) t.tests.length [bm] bm (JMt t) w := by
  intro w1 o xs v f1 h1 hJ hx hsep hone hlen _
  obtain ⟨es1, ck1, rfl, hc1⟩ := hJ
  have hnb : bt ∉ [bm] := fun hb => by
    obtain rfl := List.mem_singleton.1 hb
    rw [hT.hm] at hbt; cases hbt
  have g1 := f1.keepS hnb hbt
  have hT1 := hT.fr f1 h1 hc1
  obtain ⟨adv, cpv, _, _, rfl, _, _⟩ := hx.open
  rw [show (#[] ++ #[.slice adv xs.length cpv] ++ #[ptr bt] : Array Value) = #[.slice adv xs.length cpv, ptr bt] from by simp]
  refine cnxS (vs := [_, _]) (S := [bm]) [(bm, .map es1 ck1)] Try.func32 rfl rfl ⟨by simp [h1], by simp, by simp⟩ ?_
  all_goals refine tc_seq fun K1 hK1 => ?_
  all_goals refine tc_region ?_
  all_goals refine tl_q (y_assign rfl) rfl ?_
  all_goals refine tl_nil ?_
  all_goals (refine hK1 ?_; try (clear hK1; clear K1))
  all_goals refine tc_seq fun K2 hK2 => ?_
  all_goals refine tc_region ?_
  all_goals (first | refine tl_q (y_load1 rfl (by repeat constructor) (by rfl)) rfl ?_ | refine tl_q (y_load1o rfl (fun w' hw' => cell0 ((hw'.fr (w0 := w1) (S := [bm]) (by simp)).keepS hnb g1) rfl)) rfl ?_)
  all_goals refine tl_q (y_move rfl) rfl ?_
  all_goals refine tl_e (e_callU (val := fun y : (Option Addr × Nat) × Array MapEntry × Nat => slV (truthsL t xs).length y.1) (p := fun y => Cache (readV t.s) y.2.1.toList) (ob := fun y => .map y.2.1 y.2.2) rfl (.cons rfl (.cons rfl .nil)) (fun w' hw' => (truths_c t hv xs (by omega) adv cpv sl pl ll tl w' bw bm es1 ck1 (hT1.fr (hw'.fr (by simp)) (hw'.heap _ (HM.mem (by repeat constructor))) hc1) (Reads.frM hx (hw'.fr (S := [bm]) (by simp)) (fun x hx => by obtain rfl := List.mem_singleton.1 hx; exact ⟨_, _, h1⟩))).imp id (fun _ => rfl) (fun _ h => h) (fun y w' _ h => ⟨h.1.2, h.2⟩)) (fun _ => (by repeat constructor))) rfl (fun y hy => ?_)
  all_goals refine tl_q (y_len rfl) rfl ?_
  all_goals refine tl_q (y_gtr rfl rfl) rfl ?_
  all_goals refine tl_q (y_assign rfl) rfl ?_
  all_goals refine tl_nil ?_
  all_goals (refine hK2 ?_; try (clear hK2; clear K2))
  all_goals refine tc_ret ?_
  all_goals (repeat (first | refine tk_then_ret ?_ | refine tk_block_ret ?_ | refine tk_scope_ret ?_))
  all_goals first | refine tk_ret rfl rfl (.cons (.tmp rfl) .nil) ?_ | refine tk_retM rfl (by repeat constructor) rfl (.cons (.tmp rfl) .nil) ?_
  all_goals (
   refine fun w' hw' => ⟨.map y.2.1 y.2.2, ?_, hw'.fr (by simp), ⟨_, _, rfl, hy⟩, hw'.heap _ (HM.mem (by repeat constructor))⟩
   refine congrArg (fun b => Ending.returned (Value.bool b)) ?_
   unfold fitsT
   exact decide_eq_decide.2 (by omega))
def leaveTL (t : Tr) : List Int := (searchT (fitsT t) t.tests.length).getD []
theorem leaveTL_some {t : Tr} (hv : VT t) : searchT (fitsT t) t.tests.length = some (leaveTL t) ∧ Least (fitsT t) t.tests.length (leaveTL t) := by
  have h6 := hv.t6
  unfold leaveTL
  rcases h : searchT (fitsT t) t.tests.length with _ | r
  · have hn := search_none (N := t.tests.length) (M := t.tests.length + 1) (by omega) h (bitsL_inc (n := 2 ^ t.tests.length - 1) (m := t.tests.length) (by have := Nat.two_pow_pos t.tests.length; omega))
    rw [fits_full hv (fun i hi => by rw [bitsL_iff (by omega), Nat.testBit_two_pow_sub_one]; exact decide_eq_true hi)] at hn
    cases hn
  · exact ⟨rfl, search_some (N := t.tests.length) (M := t.tests.length + 1) (by omega) h⟩
theorem leaveT_ok (t : Tr) (hv : VT t) (sl pl ll tl : Value) (w : World) (hr : RdTr w t sl pl ll tl) :
    CnX Try.prog 14 #[trV t sl pl ll tl] w [] (fun y : Value => .tuple #[y, vi 0]) (fun y w' => RdI w' y (leaveTL t)) := by
  have hr0 := hr
  have hn := hv.nt
  have hck := chkT_0.2 hv
  have h6 := hv.t6
  obtain ⟨hls, _⟩ := leaveTL_some hv
  obtain ⟨ad, cp, b0, o0, rfl, _, _⟩ := hr.ts.open
  refine cnx0 (vs := [_]) Try.func14 rfl rfl ?_
  all_goals refine tc_seq fun K1 hK1 => ?_
  all_goals refine tc_region ?_
  all_goals refine tl_e (e_box rfl rfl rfl) rfl (fun b1 _ => ?_)
  all_goals refine tl_q (y_assign rfl) rfl ?_
  all_goals refine tl_q (y_assign rfl) rfl ?_
  all_goals refine tl_nil ?_
  all_goals (refine hK1 ?_; try (clear hK1; clear K1))
  all_goals refine tc_seq fun K2 hK2 => ?_
  all_goals refine tc_seq fun K3 hK3 => ?_
  all_goals refine tc_region ?_
  all_goals (first | refine tl_q (y_loadW rfl (by repeat constructor) (by rfl)) rfl ?_ | refine tl_q (y_loadN rfl (by repeat constructor) (by (repeat (first | exact .nil | apply CA.cons rfl)); done)) rfl ?_)
  all_goals refine tl_e (e_callV rfl (.cons rfl .nil) (fun w' hw' => checkTrial_c t hn _ _ _ _ w' (hr0.fr (hw'.fr (by simp))))) rfl (fun _ _ => ?_)
  all_goals refine tl_q (y_assign rfl) rfl ?_
  all_goals refine tl_nil ?_
  all_goals (refine hK3 ?_; try (clear hK3; clear K3))
  all_goals refine tc_seq fun K4 hK4 => ?_
  all_goals refine tc_region ?_
  all_goals refine tl_q (y_move rfl) rfl ?_
  all_goals refine tl_q (y_neq rfl rfl) rfl ?_
  all_goals refine tl_nil ?_
  all_goals (refine hK4 ?_; try (clear hK4; clear K4))
  all_goals (
   refine tc_cond rfl (fun hc => ?_) (fun hc => ?_)
   · try simp only [decide_eq_true_eq, decide_eq_false_iff_not, Int.not_lt, Int.not_le, Bool.not_eq_true', Bool.not_eq_false', Decidable.not_not, not_true_eq_false] at hc
     all_goals first | (exfalso; with_reducible exact bft hc) | (exfalso; with_reducible exact btf hc) | (exfalso; omega) | skip
     all_goals refine tc_seq fun K5 hK5 => ?_
     all_goals refine tc_region ?_
     all_goals refine tl_q (y_move rfl) rfl ?_
     all_goals refine tl_q (y_assign rfl) rfl ?_
     all_goals refine tl_q (y_assign rfl) rfl ?_
     all_goals refine tl_nil ?_
     all_goals (refine hK5 ?_; try (clear hK5; clear K5))
     all_goals refine tc_ret ?_
     all_goals (repeat (first | refine tk_then_ret ?_ | refine tk_block_ret ?_ | refine tk_scope_ret ?_))
     all_goals first | refine tk_ret rfl rfl (.cons (.tmp rfl) (.cons (.tmp rfl) .nil)) ?_ | refine tk_retM rfl (by repeat constructor) rfl (.cons (.tmp rfl) (.cons (.tmp rfl) .nil)) ?_
     all_goals (
      first
      | exact fun w' hw' => ⟨y.1.1, rfl, hw'.fr (by simp), hy.2.2.fr (hw'.fr (by simp))⟩
      | (exfalso; omega))
   · try simp only [decide_eq_true_eq, decide_eq_false_iff_not, Int.not_lt, Int.not_le, Bool.not_eq_true', Bool.not_eq_false', Decidable.not_not, not_true_eq_false] at hc
     all_goals first | (exfalso; with_reducible exact bft hc) | (exfalso; with_reducible exact btf hc) | (exfalso; omega) | skip
     all_goals refine tc_skip ?_
     all_goals (refine hK2 ?_; try (clear hK2; clear K2))
     all_goals refine tc_seq fun K6 hK6 => ?_
     all_goals refine tc_region ?_
     all_goals (first | refine tl_q (y_loadW rfl (by repeat constructor) (by rfl)) rfl ?_ | refine tl_q (y_loadN rfl (by repeat constructor) (by (repeat (first | exact .nil | apply CA.cons rfl)); done)) rfl ?_)
     all_goals refine tl_e (e_callN rfl (.cons rfl .nil) (fun w' hw' => twork_c t sl pl ll _ hr0.ws.one hr0.ps.one hr0.ls.one hr0.ts.one w')) rfl (fun x hx => ?_)
     all_goals refine tl_e (e_alloc1 rfl) rfl (fun b5 _ => ?_)
     all_goals refine tl_e (e_store1 rfl rfl (by repeat constructor) (by repeat constructor) (by rfl) (by rfl)) rfl (fun _ _ => ?_)
     all_goals refine tl_nil ?_
     all_goals (refine hK6 ?_; try (clear hK6; clear K6))
     all_goals refine tc_seq fun K7 hK7 => ?_
     all_goals refine tc_region ?_
     all_goals refine tl_q (y_field rfl) rfl ?_
     all_goals refine tl_q (y_load1 rfl (by repeat constructor) (by rfl)) rfl ?_
     all_goals refine tl_q (y_len rfl) rfl ?_
     all_goals refine tl_q (y_fn .nil (.cons rfl .nil)) rfl ?_
     all_goals refine tl_e (e_callEndF (val := fun z : Value × Obj => .tuple #[z.1, .bool true]) (p := fun z w' => RdI w' z.1 (leaveTL t)) (S := [x.2]) rfl (.cons rfl (.cons rfl .nil)) (fun w' hw' => CnX.imp (val' := fun z : Value × Obj => .tuple #[z.1, .bool true]) (tlists_c 32 #[ptr b5] (fitsT t) t.tests.length (by omega) x.2 (.map #[] 0) (JMt t) w' (hw'.heap _ (HM.mem (by repeat constructor))) ⟨_, _, rfl, fun e he => by simp at he⟩ (leaveT_p t hv sl pl ll _ w' b5 x.1 x.2 #[] 0 (hw'.heap _ (HM.mem (by repeat constructor))) (tw0 (hr0.fr (hw'.fr (by simp))) (hw'.heap _ (HM.mem (by repeat constructor))) (hw'.heap _ (HM.mem (b := x.2) (by repeat constructor)))))) id (fun z => by rw [hls]; rfl) (fun _ h => h) (fun z w2 _ hx => hx.2.2.2 _ hls)) (fun w' hw' β hβ q hq => .inr (by obtain rfl := List.mem_singleton.1 hβ; obtain rfl := List.mem_singleton.1 hq; exact (hw'.own (x.2, _) (HM.mem (by repeat constructor)) (w, []) (by simp)).resolve_left (by simp)))) rfl (fun y hy => ?_)
     all_goals refine tl_q (y_move rfl) rfl ?_
     all_goals refine tl_q (y_extract rfl rfl) rfl ?_
     all_goals refine tl_q (y_extract rfl rfl) rfl ?_
     all_goals refine tl_q (y_assign rfl) rfl ?_
     all_goals refine tl_q (y_assign rfl) rfl ?_
     all_goals refine tl_nil ?_
     all_goals (refine hK7 ?_; try (clear hK7; clear K7))
     all_goals refine tc_seq fun K8 hK8 => ?_
     all_goals refine tc_region ?_
     all_goals refine tl_q (y_move rfl) rfl ?_
     all_goals refine tl_q (y_assign rfl) rfl ?_
     all_goals refine tl_q (y_assign rfl) rfl ?_
     all_goals refine tl_nil ?_
     all_goals (refine hK8 ?_; try (clear hK8; clear K8))
     all_goals refine tc_ret ?_
     all_goals (repeat (first | refine tk_then_ret ?_ | refine tk_block_ret ?_ | refine tk_scope_ret ?_))
     all_goals first | refine tk_ret rfl rfl (.cons (.tmp rfl) (.cons (.tmp rfl) .nil)) ?_ | refine tk_retM rfl (by repeat constructor) rfl (.cons (.tmp rfl) (.cons (.tmp rfl) .nil)) ?_
     all_goals (
      first
      | exact fun w' hw' => ⟨y.1.1, rfl, hw'.fr (by simp), hy.2.2.fr (hw'.fr (by simp))⟩
      | (exfalso; omega)))
end Go.Sp
