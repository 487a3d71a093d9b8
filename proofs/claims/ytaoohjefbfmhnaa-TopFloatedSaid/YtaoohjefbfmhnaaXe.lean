/-
  Package trial: a trial at work; what the spindle reads, and what can be shown by errors.
-/
import Derived.Test.YtaoohjefbfmhnaaXd
set_option linter.unusedVariables false
set_option linter.unusedSimpArgs false
set_option linter.deprecated false
namespace Go.Sp
open Go Go.Proofs
theorem y_build_tw {P : Program} {F : List (Nat × Value)} {bs : List (World × List Nat)} {H : List (Nat × Obj)} {d : Option Tmp} {ty : TypeId} {pos : String} {after : Array Edge} {g : Option (Nat × Bool)} {t : TypeId} {z0 z1 z2 z3 z4 z5 z6 z7 z8 z9 z10 : Value} [TyPlaces P t [(0, 10), (10, 1)]] [TyAgg P t 11 #[z0, z1, z2, z3, z4, z5, z6, z7, z8, z9, z10]] {x y : Operand} {v0 v1 v2 v3 v4 v5 v6 v7 v8 v9 v10 : Value}
    (hx : evalO F x = some (.agg #[v0, v1, v2, v3, v4, v5, v6, v7, v8, v9])) (hy : evalO F y = some v10) (c6 : v10.cells = #[v10]) :
    OpY P ⟨d, .build t #[(0, x), (1, y)], ty, pos, after, g⟩ F bs H (.agg #[v0, v1, v2, v3, v4, v5, v6, v7, v8, v9, v10]) := by
  unfold OpY
  intro N a w ht hw
  have h2 : Instr.fill (([(0, 10), (10, 1)] : List (Nat × Nat))[·]?) #[v0, v1, v2, v3, v4, v5, v6, v7, v8, v9, z10] [(1, v10)] = some #[v0, v1, v2, v3, v4, v5, v6, v7, v8, v9, v10] := fill_one (cells := [v0, v1, v2, v3, v4, v5, v6, v7, v8, v9, z10]) (o := 10) rfl c6 (by simp) rfl
  have h1 : Instr.fill (([(0, 10), (10, 1)] : List (Nat × Nat))[·]?) #[z0, z1, z2, z3, z4, z5, z6, z7, z8, z9, z10] [(0, .agg #[v0, v1, v2, v3, v4, v5, v6, v7, v8, v9]), (1, v10)] = some #[v0, v1, v2, v3, v4, v5, v6, v7, v8, v9, v10] :=
    fill_cons (o := 0) (sz := 10) (c := #[v0, v1, v2, v3, v4, v5, v6, v7, v8, v9]) rfl rfl rfl (by simp) (by simpa [Array.zipIdx] using h2)
  have := build_run (P := P) (t := t) (parts := #[(0, .agg #[v0, v1, v2, v3, v4, v5, v6, v7, v8, v9]), (1, v10)]) (cells := #[v0, v1, v2, v3, v4, v5, v6, v7, v8, v9, v10]) h1 w
  simp [execOp, ht.eval hx, ht.eval hy, this, Result.andThen]
abbrev wkT (t : Tr) (sl pl ll tl : Value) (bm : Nat) : Obj := .cells #[vi t.s.mass, vi t.s.volume, vi t.s.step, vi t.s.divisions, vi t.s.width, sl, pl, vi t.worst, ll, tl, .map (some bm)] 101 (0, 0)
theorem twork_c (t : Tr) (sl pl ll tl : Value) (h1 : sl.oneCell' = true) (h2 : pl.oneCell' = true) (h3 : ll.oneCell' = true) (h4 : tl.oneCell' = true) (w : World) : CnX Try.prog 30 #[trV t sl pl ll tl] w [] (fun x : Nat × Nat => ptr x.1)
    (fun x w' => True ∧ (∀ q ∈ [(x.1, wkT t sl pl ll tl x.2), (x.2, .map #[] 0)], w.heap.size ≤ q.1 ∧ w'.heap[q.1]? = some q.2) ∧ (([(x.1, wkT t sl pl ll tl x.2), (x.2, .map #[] 0)] : List (Nat × Obj)).map Prod.fst).Nodup) := by
  refine cnx0 (vs := [_]) Try.func30 rfl rfl ?_
  all_goals refine tc_seq fun K1 hK1 => ?_
  all_goals refine tc_region ?_
  all_goals refine tl_e (e_box rfl rfl rfl) rfl (fun b1 _ => ?_)
  all_goals refine tl_q (y_assign rfl) rfl ?_
  all_goals refine tl_nil ?_
  all_goals (refine hK1 ?_; try (clear hK1; clear K1))
  all_goals refine tc_seq fun K2 hK2 => ?_
  all_goals refine tc_region ?_
  all_goals (refine tl_q (y_loadW rfl (by repeat constructor) (by rfl)) rfl ?_)
  all_goals refine tl_e (e_makeMap rfl) rfl (fun bm _ => ?_)
  all_goals (refine tl_q (y_build_tw rfl rfl rfl) rfl ?_)
  all_goals refine tl_e (e_box rfl rfl rfl) rfl (fun bw _ => ?_)
  all_goals refine tl_q (y_assign rfl) rfl ?_
  all_goals refine tl_nil ?_
  all_goals (refine hK2 ?_; try (clear hK2; clear K2))
  all_goals refine tc_ret ?_
  all_goals (repeat (first | refine tk_then_ret ?_))
  all_goals first | refine tk_ret rfl rfl (.cons (.tmp rfl) .nil) ?_ | refine tk_retM rfl (by repeat constructor) rfl (.cons (.tmp rfl) .nil) ?_
  all_goals (
   exact fun w' hw' => ⟨(bw, bm), rfl, hw'.fr (by simp), trivial, fun q hq => by
       simp only [List.mem_cons, List.not_mem_nil, or_false] at hq
       have hn := hw'.own
       have hh := hw'.heap
       rcases hq with rfl | rfl
       · exact ⟨by simpa using hn _ (HM.mem (b := bw) (o := wkT t sl pl ll tl bm) (by repeat constructor)) _ List.mem_cons_self, hh _ (HM.mem (by repeat constructor))⟩
       · exact ⟨by simpa using hn _ (HM.mem (b := bm) (o := .map #[] 0) (by repeat constructor)) _ List.mem_cons_self, hh _ (HM.mem (by repeat constructor))⟩, by
       have := hw'.nodup
       simp only [List.map_cons, List.nodup_cons, List.mem_cons, not_or] at this
       simp only [List.map_cons, List.map_nil, List.nodup_cons, List.mem_singleton]
       simp
       exact this.1.1⟩)
/-- What the spindle reads: none if it doesn't float. -/
def readT (s : Sn) (k d : Int) : Int × Int := if (seeF s k d).2 = 0 then (seeF s k d).1 else (0, -1)
def readV (s : Sn) (k d : Int) : Value := rV (readT s k d)
theorem tread_c (t : Tr) (hn : NT t) (k d : Int) (sl pl ll tl : Value) (w : World) (hr : RdI w sl t.s.weights) (bw bm : Nat) (es : Array MapEntry) (ck : Nat)
    (hbw : w.heap[bw]? = some (wkT t sl pl ll tl bm)) (hbm : w.heap[bm]? = some (.map es ck)) (hc0 : Cache (readV t.s) es.toList) :
    CnX Try.prog 83 #[ptr bw, .agg #[vi k, vi d]] w [bm] (fun _ : Array MapEntry × Nat => rV (readT t.s k d)) (fun x w' => Cache (readV t.s) x.1.toList ∧ w'.heap[bm]? = some (.map x.1 x.2)) := by
  have hne : bw ≠ bm := by rintro rfl; rw [hbw] at hbm; simp at hbm
  have hrM : ∀ w', Fr [bw, bm] w w' → w'.heap[bw]? = some (wkT t sl pl ll tl bm) → RdI w' sl t.s.weights := fun w' f hb => by
    refine RdI.frM (bm := bm) (es := es) (ck := ck) (S := [bm]) hr (Fr.but f (by rw [hb, hbw])) (fun x hx => ?_)
    obtain rfl : x = bm := by simpa using hx
    exact ⟨es, ck, hbm⟩
  obtain ⟨e, he⟩ : ∃ e, (seeF t.s k d).2 = e := ⟨_, rfl⟩
  obtain ⟨r, hr1⟩ : ∃ r, (seeF t.s k d).1 = r := ⟨_, rfl⟩
  have hsee : seeF t.s k d = (r, e) := by rw [← he, ← hr1]
  cases hh : hasL es.toList k d
  all_goals refine cnxS (vs := [_, _]) (S := [bw, bm]) [(bw, wkT t sl pl ll tl bm), (bm, .map es ck)] Try.func83 rfl rfl ⟨by simp [hbw, hbm], by simp [hne], by simp⟩ ?_
  all_goals refine tc_seq fun K1 hK1 => ?_
  all_goals refine tc_region ?_
  all_goals refine tl_e (e_box rfl rfl rfl) rfl (fun b3 _ => ?_)
  all_goals refine tl_e (e_allocN rfl) rfl (fun b4 _ => ?_)
  all_goals refine tl_nil ?_
  all_goals (refine hK1 ?_; try (clear hK1; clear K1))
  all_goals refine tc_seq fun K2 hK2 => ?_
  all_goals refine tc_draw (by kernel_rfl) ?_
  all_goals refine tx_p 0 rfl (by kernel_rfl) (y_move rfl) rfl (fun _ _ _ h => h) (fun _ h => h) ?_
  all_goals refine tx_p 1 rfl (by kernel_rfl) (y_nil rfl) rfl (fun _ _ _ h => h) (fun _ h => h) ?_
  all_goals refine tx_p 2 rfl (by kernel_rfl) (y_field rfl) rfl (fun _ _ _ h => h) (fun _ h => h) ?_
  all_goals refine tx_q 3 rfl (by kernel_rfl) (y_load1 rfl (by repeat constructor) (by rfl)) rfl (fun _ _ _ h => h) (fun _ h => h) ?_
  all_goals (refine tx_q 4 rfl (by kernel_rfl) (y_loadW rfl (by repeat constructor) (by rfl)) rfl (fun _ _ _ h => h) (fun _ h => h) ?_)
  all_goals (first | refine tx_q 5 rfl (by kernel_rfl) (y_lookup_hit hh rfl rfl (by repeat constructor) hc0) rfl (fun _ _ _ h => h) (fun _ h => h) ?_ | refine tx_q 5 rfl (by kernel_rfl) (y_lookup_miss hh rfl rfl (by repeat constructor) hc0) rfl (fun _ _ _ h => h) (fun _ h => h) ?_)
  all_goals refine tx_p 6 rfl (by kernel_rfl) (y_move rfl) rfl (fun _ _ _ h => h) (fun _ h => h) ?_
  all_goals refine tx_p 7 rfl (by kernel_rfl) (y_extract rfl rfl) rfl (fun _ _ _ h => h) (fun _ h => h) ?_
  all_goals refine tx_p 8 rfl (by kernel_rfl) (y_extract rfl rfl) rfl (fun _ _ _ h => h) (fun _ h => h) ?_
  all_goals refine tx_e 9 rfl (by kernel_rfl) rfl (e_allocN rfl) (.inr qq1) (fun b5 _ => ?_)
  all_goals refine tx_e 10 rfl (by kernel_rfl) rfl (e_storeW rfl rfl (by repeat constructor) (by rfl) (by rfl) (by simp [Value.oneCell'])) (.inl (by kernel_rfl)) (fun _ _ => ?_)
  all_goals refine tx_p 11 rfl (by kernel_rfl) (y_assign rfl) rfl (fun _ _ _ h => h) (fun _ h => h) ?_
  all_goals refine tx_done (by kernel_rfl) ?_
  all_goals (refine hK2 ?_; try (clear hK2; clear K2))
  all_goals refine tc_seq fun K3 hK3 => ?_
  all_goals refine tc_seq fun K4 hK4 => ?_
  all_goals refine tc_region ?_
  all_goals refine tl_q (y_move rfl) rfl ?_
  all_goals refine tl_nil ?_
  all_goals (refine hK4 ?_; try (clear hK4; clear K4))
  all_goals (
   refine tc_cond rfl (fun hc => ?_) (fun hc => ?_)
   · try simp only [decide_eq_true_eq, decide_eq_false_iff_not, Int.not_lt, Int.not_le, Bool.not_eq_true', Bool.not_eq_false', Decidable.not_not, not_true_eq_false] at hc
     all_goals first | (exfalso; with_reducible exact bft hc) | (exfalso; with_reducible exact btf hc) | (exfalso; omega) | skip
     all_goals refine tc_seq fun K5 hK5 => ?_
     all_goals refine tc_region ?_
     all_goals (refine tl_q (y_loadW rfl (by repeat constructor) (by rfl)) rfl ?_)
     all_goals refine tl_e (e_storeW rfl rfl (by repeat constructor) (by rfl) (by rfl) (by simp [Value.oneCell'])) rfl (fun _ _ => ?_)
     all_goals refine tl_nil ?_
     all_goals (refine hK5 ?_; try (clear hK5; clear K5))
     all_goals refine tc_ret ?_
     all_goals (repeat (refine tk_then_ret ?_))
     all_goals first | refine tk_ret rfl rfl (.cons (.agg inferInstance rfl (by repeat constructor) (by rfl)) .nil) ?_ | refine tk_retM rfl (by repeat constructor) rfl (.cons (.agg inferInstance rfl (by repeat constructor) (by rfl)) .nil) ?_
     all_goals (
      refine fun w' hw' => ?_
      have hb2 := hw'.heap (bw, wkT t sl pl ll tl bm) (HM.mem (by repeat constructor))
      have hb1 := hw'.heap _ (HM.mem (b := bm) (by repeat constructor))
      first
      | exact ⟨(es, ck), rfl, Fr.but (hw'.fr (S := [bw, bm]) (by simp)) (by rw [hb2, hbw]), hc0, hb1⟩
      | (have hm : readT t.s k d = r := by unfold readT; rw [hsee, if_pos (by omega)]
         exact ⟨(es.push { key := kv k d, val := rV (readT t.s k d), born := ck }, ck + 1), by rw [hm]; rfl, Fr.but (hw'.fr (S := [bw, bm]) (by simp)) (by rw [hb2, hbw]), Cache.push hc0 k d ck, by rw [hm]; exact hb1⟩)
      | (have hm : readT t.s k d = (0, -1) := by unfold readT; rw [hsee, if_neg (by omega)]
         exact ⟨(es.push { key := kv k d, val := rV (readT t.s k d), born := ck }, ck + 1), by rw [hm]; rfl, Fr.but (hw'.fr (S := [bw, bm]) (by simp)) (by rw [hb2, hbw]), Cache.push hc0 k d ck, by rw [hm]; exact hb1⟩))
   · try simp only [decide_eq_true_eq, decide_eq_false_iff_not, Int.not_lt, Int.not_le, Bool.not_eq_true', Bool.not_eq_false', Decidable.not_not, not_true_eq_false] at hc
     all_goals first | (exfalso; with_reducible exact bft hc) | (exfalso; with_reducible exact btf hc) | (exfalso; omega) | skip
     all_goals refine tc_skip ?_
     all_goals (refine hK3 ?_; try (clear hK3; clear K3))
     all_goals refine tc_seq fun K6 hK6 => ?_
     all_goals refine tc_drawS ([(b3, .cells #[vi k, vi d] 120 (0, 0)), (bw, wkT t sl pl ll tl bm), (bm, .map es ck)]) (by kernel_rfl) ?_
     all_goals refine tx_p 0 rfl (by kernel_rfl) (y_move rfl) rfl (fun _ _ _ h => h) (fun _ h => h.subl (SB.s (by repeat constructor)) (SB.s (by repeat constructor))) ?_
     all_goals refine tx_p 1 rfl (by kernel_rfl) (y_nil rfl) rfl (fun _ _ _ h => h) (fun _ h => h.subl (SB.s (by repeat constructor)) (SB.s (by repeat constructor))) ?_
     all_goals refine tx_p 2 rfl (by kernel_rfl) (y_field rfl) rfl (fun _ _ _ h => h) (fun _ h => h.subl (SB.s (by repeat constructor)) (SB.s (by repeat constructor))) ?_
     all_goals refine tx_p 3 rfl (by kernel_rfl) (y_field rfl) rfl (fun _ _ _ h => h) (fun _ h => h.subl (SB.s (by repeat constructor)) (SB.s (by repeat constructor))) ?_
     all_goals (refine tx_qS 4 rfl (by kernel_rfl) (y_loadN rfl (by repeat constructor) (by (repeat (first | exact .nil | apply CA.cons rfl)); done)) rfl (fun _ _ _ h => h) (fun _ h => h.subl (SB.s (by repeat constructor)) (SB.s (by repeat constructor))) ?_)
     all_goals refine tx_p 5 rfl (by kernel_rfl) (y_field rfl) rfl (fun _ _ _ h => h) (fun _ h => h.subl (SB.s (by repeat constructor)) (SB.s (by repeat constructor))) ?_
     all_goals refine tx_qS 6 rfl (by kernel_rfl) (y_load1 rfl (by repeat constructor) (by rfl)) rfl (fun _ _ _ h => h) (fun _ h => h.subl (SB.s (by repeat constructor)) (SB.s (by repeat constructor))) ?_
     all_goals refine tx_p 7 rfl (by kernel_rfl) (y_field rfl) rfl (fun _ _ _ h => h) (fun _ h => h.subl (SB.s (by repeat constructor)) (SB.s (by repeat constructor))) ?_
     all_goals refine tx_qS 8 rfl (by kernel_rfl) (y_load1 rfl (by repeat constructor) (by rfl)) rfl (fun _ _ _ h => h) (fun _ h => h.subl (SB.s (by repeat constructor)) (SB.s (by repeat constructor))) ?_
     all_goals refine tx_single 9 (by kernel_rfl) (to_e rfl rfl (e_callV rfl (.cons rfl (.cons rfl (.cons rfl .nil))) (fun w' hw' => by have h := see_c t.s hn.ws k d _ w' (hrM w' (hw'.fr (by simp)) (hw'.heap _ (HM.mem (by repeat constructor)))); rw [hsee] at h; exact h)) (.inr ⟨fun _ _ h => h.subl (SB.s (by repeat constructor)) (SB.s (by repeat constructor)), fun _ h => h⟩) (fun _ _ => ?_))
     all_goals refine tx_p 10 rfl (by kernel_rfl) (y_move rfl) rfl (fun _ _ _ h => h) (fun _ h => h.subl (SB.s (by repeat constructor)) (SB.s (by repeat constructor))) ?_
     all_goals refine tx_p 11 rfl (by kernel_rfl) (y_extract rfl rfl) rfl (fun _ _ _ h => h) (fun _ h => h.subl (SB.s (by repeat constructor)) (SB.s (by repeat constructor))) ?_
     all_goals refine tx_p 12 rfl (by kernel_rfl) (y_extract rfl rfl) rfl (fun _ _ _ h => h) (fun _ h => h.subl (SB.s (by repeat constructor)) (SB.s (by repeat constructor))) ?_
     all_goals refine tx_single 13 (by kernel_rfl) (to_e (S' := HG [] []) rfl rfl (e_storeW rfl rfl (by repeat constructor) (by rfl) (by rfl) (by simp [Value.oneCell'])) (.inl (by kernel_rfl)) (fun _ _ => ?_))
     all_goals refine tx_p 14 rfl (by kernel_rfl) (y_assign rfl) rfl (fun _ _ _ h => h) (fun _ h => h.subl (SB.s (by repeat constructor)) (SB.s (by repeat constructor))) ?_
     all_goals refine tx_done (by kernel_rfl) ?_
     all_goals (refine hK6 ?_; try (clear hK6; clear K6))
     all_goals refine tc_seq fun K7 hK7 => ?_
     all_goals refine tc_seq fun K8 hK8 => ?_
     all_goals refine tc_region ?_
     all_goals refine tl_q (y_move rfl) rfl ?_
     all_goals refine tl_q (y_neq rfl rfl) rfl ?_
     all_goals refine tl_nil ?_
     all_goals (refine hK8 ?_; try (clear hK8; clear K8))
     all_goals (
      refine tc_cond rfl (fun hc => ?_) (fun hc => ?_)
      · try simp only [decide_eq_true_eq, decide_eq_false_iff_not, Int.not_lt, Int.not_le, Bool.not_eq_true', Bool.not_eq_false', Decidable.not_not, not_true_eq_false] at hc
        all_goals first | (exfalso; with_reducible exact bft hc) | (exfalso; with_reducible exact btf hc) | (exfalso; omega) | skip
        all_goals refine tc_region ?_
        all_goals refine tl_q (y_build_2 rfl rfl rfl rfl) rfl ?_
        all_goals refine tl_e (e_storeW rfl rfl (by repeat constructor) (by rfl) (by rfl) (by simp [Value.oneCell'])) rfl (fun _ _ => ?_)
        all_goals refine tl_nil ?_
        all_goals (refine hK7 ?_; try (clear hK7; clear K7))
        all_goals refine tc_seq fun K9 hK9 => ?_
        all_goals refine tc_draw (by kernel_rfl) ?_
        all_goals refine tx_p 0 rfl (by kernel_rfl) (y_move rfl) rfl (fun _ _ _ h => h) (fun _ h => h) ?_
        all_goals refine tx_p 1 rfl (by kernel_rfl) (y_nil rfl) rfl (fun _ _ _ h => h) (fun _ h => h) ?_
        all_goals refine tx_p 2 rfl (by kernel_rfl) (y_field rfl) rfl (fun _ _ _ h => h) (fun _ h => h) ?_
        all_goals refine tx_q 3 rfl (by kernel_rfl) (y_load1 rfl (by repeat constructor) (by rfl)) rfl (fun _ _ _ h => h) (fun _ h => h) ?_
        all_goals (refine tx_q 4 rfl (by kernel_rfl) (y_loadW rfl (by repeat constructor) (by rfl)) rfl (fun _ _ _ h => h) (fun _ h => h) ?_)
        all_goals (refine tx_q 5 rfl (by kernel_rfl) (y_loadW rfl (by repeat constructor) (by rfl)) rfl (fun _ _ _ h => h) (fun _ h => h) ?_)
        all_goals refine tx_e 6 rfl (by kernel_rfl) rfl (e_mapUpdate_new hh hc0 rfl rfl rfl (by repeat constructor)) (.inl (by kernel_rfl)) (fun _ _ => ?_)
        all_goals refine tx_done (by kernel_rfl) ?_
        all_goals (refine hK9 ?_; try (clear hK9; clear K9))
        all_goals refine tc_seq fun K10 hK10 => ?_
        all_goals refine tc_region ?_
        all_goals (refine tl_q (y_loadW rfl (by repeat constructor) (by rfl)) rfl ?_)
        all_goals refine tl_e (e_storeW rfl rfl (by repeat constructor) (by rfl) (by rfl) (by simp [Value.oneCell'])) rfl (fun _ _ => ?_)
        all_goals refine tl_nil ?_
        all_goals (refine hK10 ?_; try (clear hK10; clear K10))
        all_goals refine tc_ret ?_
        all_goals (repeat (first | refine tk_then_ret ?_))
        all_goals first | refine tk_ret rfl rfl (.cons (.agg inferInstance rfl (by repeat constructor) (by rfl)) .nil) ?_ | refine tk_retM rfl (by repeat constructor) rfl (.cons (.agg inferInstance rfl (by repeat constructor) (by rfl)) .nil) ?_
        all_goals (
         refine fun w' hw' => ?_
         have hb2 := hw'.heap (bw, wkT t sl pl ll tl bm) (HM.mem (by repeat constructor))
         have hb1 := hw'.heap _ (HM.mem (b := bm) (by repeat constructor))
         first
         | exact ⟨(es, ck), rfl, Fr.but (hw'.fr (S := [bw, bm]) (by simp)) (by rw [hb2, hbw]), hc0, hb1⟩
         | (have hm : readT t.s k d = r := by unfold readT; rw [hsee, if_pos (by omega)]
            exact ⟨(es.push { key := kv k d, val := rV (readT t.s k d), born := ck }, ck + 1), by rw [hm]; rfl, Fr.but (hw'.fr (S := [bw, bm]) (by simp)) (by rw [hb2, hbw]), Cache.push hc0 k d ck, by rw [hm]; exact hb1⟩)
         | (have hm : readT t.s k d = (0, -1) := by unfold readT; rw [hsee, if_neg (by omega)]
            exact ⟨(es.push { key := kv k d, val := rV (readT t.s k d), born := ck }, ck + 1), by rw [hm]; rfl, Fr.but (hw'.fr (S := [bw, bm]) (by simp)) (by rw [hb2, hbw]), Cache.push hc0 k d ck, by rw [hm]; exact hb1⟩))
      · try simp only [decide_eq_true_eq, decide_eq_false_iff_not, Int.not_lt, Int.not_le, Bool.not_eq_true', Bool.not_eq_false', Decidable.not_not, not_true_eq_false] at hc
        all_goals first | (exfalso; with_reducible exact bft hc) | (exfalso; with_reducible exact btf hc) | (exfalso; omega) | skip
        all_goals refine tc_skip ?_
        all_goals (refine hK7 ?_; try (clear hK7; clear K7))
        all_goals refine tc_seq fun K11 hK11 => ?_
        all_goals refine tc_draw (by kernel_rfl) ?_
        all_goals refine tx_p 0 rfl (by kernel_rfl) (y_move rfl) rfl (fun _ _ _ h => h) (fun _ h => h) ?_
        all_goals refine tx_p 1 rfl (by kernel_rfl) (y_nil rfl) rfl (fun _ _ _ h => h) (fun _ h => h) ?_
        all_goals refine tx_p 2 rfl (by kernel_rfl) (y_field rfl) rfl (fun _ _ _ h => h) (fun _ h => h) ?_
        all_goals refine tx_q 3 rfl (by kernel_rfl) (y_load1 rfl (by repeat constructor) (by rfl)) rfl (fun _ _ _ h => h) (fun _ h => h) ?_
        all_goals (refine tx_q 4 rfl (by kernel_rfl) (y_loadW rfl (by repeat constructor) (by rfl)) rfl (fun _ _ _ h => h) (fun _ h => h) ?_)
        all_goals (refine tx_q 5 rfl (by kernel_rfl) (y_loadW rfl (by repeat constructor) (by rfl)) rfl (fun _ _ _ h => h) (fun _ h => h) ?_)
        all_goals refine tx_e 6 rfl (by kernel_rfl) rfl (e_mapUpdate_new hh hc0 rfl rfl rfl (by repeat constructor)) (.inl (by kernel_rfl)) (fun _ _ => ?_)
        all_goals refine tx_done (by kernel_rfl) ?_
        all_goals (refine hK11 ?_; try (clear hK11; clear K11))
        all_goals refine tc_seq fun K12 hK12 => ?_
        all_goals refine tc_region ?_
        all_goals (refine tl_q (y_loadW rfl (by repeat constructor) (by rfl)) rfl ?_)
        all_goals refine tl_e (e_storeW rfl rfl (by repeat constructor) (by rfl) (by rfl) (by simp [Value.oneCell'])) rfl (fun _ _ => ?_)
        all_goals refine tl_nil ?_
        all_goals (refine hK12 ?_; try (clear hK12; clear K12))
        all_goals refine tc_ret ?_
        all_goals (repeat (first | refine tk_then_ret ?_))
        all_goals first | refine tk_ret rfl rfl (.cons (.agg inferInstance rfl (by repeat constructor) (by rfl)) .nil) ?_ | refine tk_retM rfl (by repeat constructor) rfl (.cons (.agg inferInstance rfl (by repeat constructor) (by rfl)) .nil) ?_
        all_goals (
         refine fun w' hw' => ?_
         have hb2 := hw'.heap (bw, wkT t sl pl ll tl bm) (HM.mem (by repeat constructor))
         have hb1 := hw'.heap _ (HM.mem (b := bm) (by repeat constructor))
         first
         | exact ⟨(es, ck), rfl, Fr.but (hw'.fr (S := [bw, bm]) (by simp)) (by rw [hb2, hbw]), hc0, hb1⟩
         | (have hm : readT t.s k d = r := by unfold readT; rw [hsee, if_pos (by omega)]
            exact ⟨(es.push { key := kv k d, val := rV (readT t.s k d), born := ck }, ck + 1), by rw [hm]; rfl, Fr.but (hw'.fr (S := [bw, bm]) (by simp)) (by rw [hb2, hbw]), Cache.push hc0 k d ck, by rw [hm]; exact hb1⟩)
         | (have hm : readT t.s k d = (0, -1) := by unfold readT; rw [hsee, if_neg (by omega)]
            exact ⟨(es.push { key := kv k d, val := rV (readT t.s k d), born := ck }, ck + 1), by rw [hm]; rfl, Fr.but (hw'.fr (S := [bw, bm]) (by simp)) (by rw [hb2, hbw]), Cache.push hc0 k d ck, by rw [hm]; exact hb1⟩))))
end Go.Sp
