/-
  Package trial: what can be shown, and whether a test is right.
-/
import Derived.Test.YtaoohjefbfmhnaaXf
set_option linter.unusedVariables false
set_option linter.unusedSimpArgs false
set_option linter.deprecated false
namespace Go.Sp
open Go Go.Proofs
def canF (t : Tr) (e : Int × Int × Int) (k d x : Int) : Bool := decide ((readT t.s k d).1 ≤ x - ofF t e x ∧ x - ofF t e x ≤ (readT t.s k d).2)
/-- What is known of a trial at work. -/
structure TW (w : World) (t : Tr) (sl pl ll tl : Value) (bw bm : Nat) (es : Array MapEntry) (ck : Nat) : Prop where
  rd : RdTr w t sl pl ll tl
  hw : w.heap[bw]? = some (wkT t sl pl ll tl bm)
  hm : w.heap[bm]? = some (.map es ck)
  hc : Cache (readV t.s) es.toList
  o1 : sl.oneCell' = true
  o2 : pl.oneCell' = true
  o3 : ll.oneCell' = true
  o4 : tl.oneCell' = true
theorem TW.ne {w : World} {t : Tr} {sl pl ll tl : Value} {bw bm : Nat} {es : Array MapEntry} {ck : Nat} (h : TW w t sl pl ll tl bw bm es ck) : bw ≠ bm := by
  rintro rfl
  have h1 := h.hw
  rw [h.hm] at h1; simp at h1
/-- Later, when only the map has turned. -/
theorem TW.fr {w w' : World} {t : Tr} {sl pl ll tl : Value} {bw bm : Nat} {es es' : Array MapEntry} {ck ck' : Nat} (h : TW w t sl pl ll tl bw bm es ck) (f : Fr [bm] w w') (hm : w'.heap[bm]? = some (.map es' ck')) (hc : Cache (readV t.s) es'.toList) : TW w' t sl pl ll tl bw bm es' ck' :=
  ⟨h.rd.frM f (fun x hx => by obtain rfl := List.mem_singleton.1 hx; exact ⟨es, ck, h.hm⟩), f.keepS (by simpa using h.ne) h.hw, hm, hc, h.o1, h.o2, h.o3, h.o4⟩
theorem TW.fr2 {w w' : World} {t : Tr} {sl pl ll tl : Value} {bw bm : Nat} {es es' : Array MapEntry} {ck ck' : Nat} (h : TW w t sl pl ll tl bw bm es ck) (f : Fr [bw, bm] w w') (hw : w'.heap[bw]? = some (wkT t sl pl ll tl bm)) (hm : w'.heap[bm]? = some (.map es' ck')) (hc : Cache (readV t.s) es'.toList) : TW w' t sl pl ll tl bw bm es' ck' :=
  h.fr (Fr.but f (by rw [hw, h.hw])) hm hc
theorem can_c (t : Tr) (hv : VT t) (e : Int × Int × Int) (he : ErB e) (k d x : Int) (hx0 : 0 ≤ x) (hx1 : x ≤ 100) (sl pl ll tl : Value) (w : World) (bw bm : Nat) (es : Array MapEntry) (ck : Nat) (hT : TW w t sl pl ll tl bw bm es ck) :
    CnX Try.prog 69 #[ptr bw, tsV e, .agg #[vi k, vi d], vi x] w [bm] (fun _ : Array MapEntry × Nat => .bool (canF t e k d x)) (fun y w' => Cache (readV t.s) y.1.toList ∧ w'.heap[bm]? = some (.map y.1 y.2)) := by
  have hof := ErB.get he (ofFrom t.parts x (t.parts.length - 1))
  have hne := hT.ne
  refine cnxS (vs := [_, _, _, _]) (S := [bw, bm]) [(bw, wkT t sl pl ll tl bm), (bm, .map es ck)] Try.func69 rfl rfl ⟨by simp [hT.hw, hT.hm], by simp [hne], by simp⟩ ?_
  all_goals refine tc_seq fun K1 hK1 => ?_
  all_goals refine tc_region ?_
  all_goals refine tl_e (e_box rfl rfl rfl) rfl (fun b5 _ => ?_)
  all_goals refine tl_e (e_box rfl rfl rfl) rfl (fun b6 _ => ?_)
  all_goals refine tl_q (y_assign rfl) rfl ?_
  all_goals refine tl_nil ?_
  all_goals (refine hK1 ?_; try (clear hK1; clear K1))
  all_goals refine tc_seq fun K2 hK2 => ?_
  all_goals refine tc_region ?_
  all_goals refine tl_q (y_move rfl) rfl ?_
  all_goals (first | refine tl_q (y_loadW rfl (by repeat constructor) (by rfl)) rfl ?_ | refine tl_q (y_loadN rfl (by repeat constructor) (by (repeat (first | exact .nil | apply CA.cons rfl)); done)) rfl ?_)
  all_goals refine tl_e (e_callU rfl (.cons rfl (.cons rfl .nil)) (fun w' hw' => tread_c t hv.nt k d sl pl ll tl w' (hT.fr2 (hw'.fr (by simp)) (hw'.heap _ (HM.mem (by repeat constructor))) (hw'.heap _ (HM.mem (b := bm) (by repeat constructor))) hT.hc).rd.ws bw bm es ck (hw'.heap _ (HM.mem (by repeat constructor))) (hw'.heap _ (HM.mem (by repeat constructor))) hT.hc) (fun _ => (by repeat constructor))) rfl (fun y hy => ?_)
  all_goals refine tl_e (e_allocN rfl) rfl (fun b9 _ => ?_)
  all_goals refine tl_e (e_storeW rfl rfl (by repeat constructor) (by rfl) (by rfl) (by simp [Value.oneCell'])) rfl (fun _ _ => ?_)
  all_goals refine tl_nil ?_
  all_goals (refine hK2 ?_; try (clear hK2; clear K2))
  all_goals refine tc_seq fun K3 hK3 => ?_
  all_goals (have hof' : -3 ≤ ofF t e x ∧ ofF t e x ≤ 3 := hof)
  all_goals refine tc_draw (by kernel_rfl) ?_
  all_goals refine tx_p 0 rfl (by kernel_rfl) (y_move rfl) rfl (fun _ _ _ h => h) (fun _ h => h) ?_
  all_goals refine tx_p 1 rfl (by kernel_rfl) (y_move rfl) rfl (fun _ _ _ h => h) (fun _ h => h) ?_
  all_goals refine tx_p 2 rfl (by kernel_rfl) (y_nil rfl) rfl (fun _ _ _ h => h) (fun _ h => h) ?_
  all_goals refine tx_p 3 rfl (by kernel_rfl) (y_field rfl) rfl (fun _ _ _ h => h) (fun _ h => h) ?_
  all_goals (first | refine tx_q 4 rfl (by kernel_rfl) (y_loadW rfl (by repeat constructor) (by rfl)) rfl (fun _ _ _ h => h) (fun _ h => h) ?_ | refine tx_q 4 rfl (by kernel_rfl) (y_loadN rfl (by repeat constructor) (by (repeat (first | exact .nil | apply CA.cons rfl)); done)) rfl (fun _ _ _ h => h) (fun _ h => h) ?_)
  all_goals (first | refine tx_q 5 rfl (by kernel_rfl) (y_loadW rfl (by repeat constructor) (by rfl)) rfl (fun _ _ _ h => h) (fun _ h => h) ?_ | refine tx_q 5 rfl (by kernel_rfl) (y_loadN rfl (by repeat constructor) (by (repeat (first | exact .nil | apply CA.cons rfl)); done)) rfl (fun _ _ _ h => h) (fun _ h => h) ?_)
  all_goals refine tx_p 6 rfl (by kernel_rfl) (y_move rfl) rfl (fun _ _ _ h => h) (fun _ h => h) ?_
  all_goals refine tx_p 9 rfl (by kernel_rfl) (y_field rfl) rfl (fun _ _ _ h => h) (fun _ h => h) ?_
  all_goals refine tx_q 10 rfl (by kernel_rfl) (y_load1 rfl (by repeat constructor) (by rfl)) rfl (fun _ _ _ h => h) (fun _ h => h) ?_
  all_goals refine tx_p 11 rfl (by kernel_rfl) (y_field rfl) rfl (fun _ _ _ h => h) (fun _ h => h) ?_
  all_goals refine tx_q 12 rfl (by kernel_rfl) (y_load1 rfl (by repeat constructor) (by rfl)) rfl (fun _ _ _ h => h) (fun _ h => h) ?_
  all_goals refine tx_e 7 rfl (by kernel_rfl) rfl (e_callV rfl (.cons rfl (.cons rfl (.cons rfl .nil))) (fun w' hw' => tof_c t hv e x hx0 _ _ _ _ w' (hT.fr2 (hw'.fr (by simp)) (hw'.heap _ (HM.mem (by repeat constructor))) (hw'.heap _ (HM.mem (b := bm) (by repeat constructor))) hy).rd.ps)) (.inr fun _ _ h => h) (fun _ _ => ?_)
  all_goals refine tx_p 8 rfl (by kernel_rfl) (y_sub rfl rfl (by omega)) rfl (fun _ _ _ h => h) (fun _ h => h) ?_
  all_goals refine tx_e 13 rfl (by kernel_rfl) rfl (e_callV rfl (.cons rfl (.cons rfl (.cons rfl .nil))) (fun w' _ => twithin_c _ _ _ w')) (.inr fun _ _ h => h) (fun _ _ => ?_)
  all_goals refine tx_p 14 rfl (by kernel_rfl) (y_assign rfl) rfl (fun _ _ _ h => h) (fun _ h => h) ?_
  all_goals refine tx_done (by kernel_rfl) ?_
  all_goals (refine hK3 ?_; try (clear hK3; clear K3))
  all_goals refine tc_ret ?_
  all_goals (repeat (first | refine tk_then_ret ?_ | refine tk_block_ret ?_ | refine tk_scope_ret ?_))
  all_goals first | refine tk_ret rfl rfl (.cons (.tmp rfl) .nil) ?_ | refine tk_retM rfl (by repeat constructor) rfl (.cons (.tmp rfl) .nil) ?_
  all_goals (
   exact fun w' hw' => ⟨y, rfl, Fr.but (hw'.fr (S := [bw, bm]) (by simp)) (by rw [hw'.heap (bw, wkT t sl pl ll tl bm) (HM.mem (by repeat constructor)), hT.hw]), hy, hw'.heap _ (HM.mem (b := bm) (by repeat constructor))⟩)
end Go.Sp
