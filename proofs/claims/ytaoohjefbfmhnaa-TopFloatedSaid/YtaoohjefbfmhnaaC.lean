/-
  A spindle at work: what a reading means, what floats, what is seen.
-/
import Derived.Test.YtaoohjefbfmhnaaB
set_option linter.unusedVariables false
set_option linter.unusedSimpArgs false
set_option linter.deprecated false
namespace Go.Sp
open Go Go.Proofs

abbrev rV (r : Int × Int) : Value := .agg #[vi r.1, vi r.2]
abbrev ptr (b : Nat) : Value := .pointer (some ⟨b, 0, none⟩)
def meetF (a b : Int × Int) : Int × Int := (max a.1 b.1, min a.2 b.2)
/-- The densities that fit a reading. -/
def meanF (s : Sn) (k : Int) (seen : Int) : Int × Int :=
  if seen = -1 then meetF (1, 2000) (1, fromF (massF s k) (s.volume + s.divisions * s.step) - 1)
  else if seen = -2 then meetF (1, 2000) (belowF (massF s k) s.volume + 1, 2000)
  else if s.width < s.volume + seen * s.step then meetF (meetF (floF s k) (fromF (massF s k) (s.volume + seen * s.step + s.width), 2000)) (1, belowF (massF s k) (s.volume + seen * s.step - s.width))
  else meetF (floF s k) (fromF (massF s k) (s.volume + seen * s.step + s.width), 2000)
def meanV (s : Sn) (a b : Int) : Value := rV (meanF s a b)
/-- The block of a spindle at work. -/
abbrev wkO (s : Sn) (sl : Value) (bm : Nat) : Obj := .cells #[vi s.mass, vi s.volume, vi s.step, vi s.divisions, vi s.width, sl, .map (some bm)] 93 (0, 0)
theorem RdI.frM {w w' : World} {sl : Value} {xs : List Int} {bm : Nat} {es : Array MapEntry} {ck : Nat} {S : List Nat} (h : RdI w sl xs) (f : Fr S w w') (hS : ∀ x ∈ S, ∃ es ck, w.heap[x]? = some (.map es ck)) : RdI w' sl xs := by
  obtain ⟨h1, ad, cap, h2, h3⟩ := h
  refine ⟨h1, ad, cap, h2, fun hn => ?_⟩
  obtain ⟨b, o, h4, h5⟩ := h3 hn
  refine ⟨b, o, h4, ?_⟩
  clear h1 h2 h3 h4 hn
  generalize xs.map vi = vs at h5
  generalize xs.length * 1 = n at h5
  induction h5 with
  | nil => exact .nil
  | @cons o n v vs hv _ ih =>
    refine .cons (f.cell (p := ⟨b, o, none⟩) (fun hb => ?_) hv) ih
    obtain ⟨es, ck, he⟩ := hS b hb
    simp [World.cell?, he] at hv
theorem dv_bd {s : Sn} (h : VS s) {n : Int} (h0 : 0 ≤ n) (h1 : n ≤ s.divisions) : 0 ≤ n * s.step ∧ n * s.step ≤ 2000 := by
  have := h.s1; have := h.s2; have := h.d1; have := h.d2
  constructor
  · exact Int.mul_nonneg h0 (by omega)
  · have := Int.mul_le_mul (a := n) (c := 20) (b := s.step) (d := 100) (by omega) (by omega) (by omega) (by omega); omega
theorem from_bd {m v : Int} (h1 : 1 ≤ m) (h2 : m ≤ 6000) (h3 : 1 ≤ v) : 1 ≤ fromF m v ∧ fromF m v ≤ 6000000 := by
  unfold fromF
  constructor
  · exact Int.le_ediv_of_mul_le (by omega) (by omega)
  · have : (1000 * m + v - 1) / v ≤ (1000 * m * v) / v := Int.ediv_le_ediv (by omega) (by
      have := Int.mul_le_mul (a := 1000 * m - 1) (c := 1000 * m - 1) (b := 1) (d := v) (by omega) (by omega) (by omega) (by omega)
      have e : 1000 * m * v = (1000 * m - 1) * v + v := by rw [Int.sub_mul]; omega
      omega)
    rw [Int.mul_ediv_cancel _ (by omega)] at this
    omega
theorem below_bd {m v : Int} (h1 : 1 ≤ m) (h2 : m ≤ 6000) (h3 : 1 ≤ v) : 0 ≤ belowF m v ∧ belowF m v ≤ 6000000 := by
  unfold belowF
  constructor
  · exact Int.ediv_nonneg (by omega) (by omega)
  · have := Int.ediv_le_self (a := 1000 * m) v (by omega); omega

theorem work_c (s : Sn) (sl : Value) (hsl : sl.oneCell' = true) (w : World) : CnX Try.prog 18 #[spV s sl] w [] (fun x : Nat × Nat => ptr x.1)
    (fun x w' => True ∧ (∀ q ∈ [(x.1, wkO s sl x.2), (x.2, .map #[] 0)], w.heap.size ≤ q.1 ∧ w'.heap[q.1]? = some q.2) ∧ (([(x.1, wkO s sl x.2), (x.2, .map #[] 0)] : List (Nat × Obj)).map Prod.fst).Nodup) := by
  refine cnx0 (vs := [_]) Try.func18 rfl rfl ?_
  all_goals refine tc_seq fun K1 hK1 => ?_
  all_goals refine tc_region ?_
  all_goals refine tl_e (e_box rfl rfl rfl) rfl (fun _ _ => ?_)
  all_goals refine tl_q (y_assign rfl) rfl ?_
  all_goals refine tl_nil ?_
  all_goals (refine hK1 ?_; try (clear hK1; clear K1))
  all_goals refine tc_seq fun K2 hK2 => ?_
  all_goals refine tc_region ?_
  all_goals (refine tl_q (y_loadW rfl (by repeat constructor) (by rfl)) rfl ?_)
  all_goals refine tl_e (e_makeMap rfl) rfl (fun bm _ => ?_)
  all_goals (refine tl_q (y_build_w rfl rfl rfl) rfl ?_)
  all_goals refine tl_e (e_box rfl rfl rfl) rfl (fun bw _ => ?_)
  all_goals refine tl_q (y_assign rfl) rfl ?_
  all_goals refine tl_nil ?_
  all_goals (refine hK2 ?_; try (clear hK2; clear K2))
  all_goals refine tc_ret ?_
  all_goals (repeat (first | refine tk_then_ret ?_))
  all_goals first | refine tk_ret rfl rfl (.cons (.tmp rfl) .nil) ?_ | refine tk_retM rfl (by repeat constructor) rfl (.cons (.tmp rfl) .nil) ?_
  all_goals (
   exact fun w' hw' => ⟨(bw, bm), rfl, hw'.fr (by simp), trivial, fun q hq => by
       simp only [List.mem_cons, List.not_mem_nil, or_false] at hq
       have hn := hw'.own
       have hh := hw'.heap
       rcases hq with rfl | rfl
       · exact ⟨by simpa using hn _ (HM.mem (b := bw) (o := wkO s sl bm) (by repeat constructor)) _ List.mem_cons_self, hh _ (HM.mem (by repeat constructor))⟩
       · exact ⟨by simpa using hn _ (HM.mem (b := bm) (o := .map #[] 0) (by repeat constructor)) _ List.mem_cons_self, hh _ (HM.mem (by repeat constructor))⟩, by
       have := hw'.nodup
       simp only [List.map_cons, List.nodup_cons, List.mem_cons, not_or] at this
       simp only [List.map_cons, List.map_nil, List.nodup_cons, List.mem_singleton]
       simp
       exact this.1.1⟩)
theorem mean_c (s : Sn) (hs : VS s) (k seen : Int) (h0 : 0 ≤ k) (h1 : k ≤ s.weights.length) (h2 : -2 ≤ seen) (h3 : seen ≤ s.divisions) (sl : Value) (hsl : sl.oneCell' = true) (w : World) (hr : RdI w sl s.weights) (bw bm : Nat) (es : Array MapEntry) (ck : Nat)
    (hbw : w.heap[bw]? = some (wkO s sl bm)) (hbm : w.heap[bm]? = some (.map es ck)) (hc0 : Cache (meanV s) es.toList) :
    CnX Try.prog 40 #[ptr bw, .agg #[vi k, vi seen]] w [bm] (fun _ : Array MapEntry × Nat => rV (meanF s k seen)) (fun x w' => Cache (meanV s) x.1.toList ∧ w'.heap[bm]? = some (.map x.1 x.2)) := by
  have hne : bw ≠ bm := by rintro rfl; rw [hbw] at hbm; simp at hbm
  have hbd := massF_bd hs h0 h1
  have hds := ds_bd hs
  have hv1 := hs.v1
  have hv2 := hs.v2
  have hw1 := hs.w1
  have hw2 := hs.w2
  have hs1 := hs.s1
  have hs2 := hs.s2
  have hfb := from_bd hbd.1 hbd.2 (v := s.volume + s.divisions * s.step) (by omega)
  have hbb := below_bd hbd.1 hbd.2 hv1
  have hrM : ∀ w', Fr [bw, bm] w w' → w'.heap[bw]? = some (wkO s sl bm) → RdI w' sl s.weights := fun w' f hb => by
    refine RdI.frM (bm := bm) (es := es) (ck := ck) (S := [bm]) hr (Fr.but f (by rw [hb, hbw])) (fun x hx => ?_)
    obtain rfl : x = bm := by simpa using hx
    exact ⟨es, ck, hbm⟩
  cases hh : hasL es.toList k seen
  all_goals refine cnxS (vs := [_, _]) (S := [bw, bm]) [(bw, wkO s sl bm), (bm, .map es ck)] Try.func40 rfl rfl ⟨by simp [hbw, hbm], by simp [hne], by simp⟩ ?_
  all_goals refine tc_seq fun K1 hK1 => ?_
  all_goals refine tc_region ?_
  all_goals refine tl_e (e_box rfl rfl rfl) rfl (fun _ _ => ?_)
  all_goals refine tl_e (e_allocN rfl) rfl (fun _ _ => ?_)
  all_goals refine tl_nil ?_
  all_goals (refine hK1 ?_; try (clear hK1; clear K1))
  all_goals refine tc_seq fun K2 hK2 => ?_
  all_goals refine tc_draw (by kernel_rfl) ?_
  all_goals refine tx_p 0 rfl (by kernel_rfl) (y_move rfl) rfl (fun _ _ _ h => h) (fun _ h => h) ?_
  all_goals refine tx_p 1 rfl (by kernel_rfl) (y_nil rfl) rfl (fun _ _ _ h => h) (fun _ h => h) ?_
  all_goals refine tx_p 2 rfl (by kernel_rfl) (y_field rfl) rfl (fun _ _ _ h => h) (fun _ h => h) ?_
  all_goals refine tx_q 3 rfl (by kernel_rfl) (y_load1 rfl (by repeat constructor) (by rfl)) rfl (fun _ _ _ h => h) (fun _ h => h) ?_
  all_goals (refine tx_q 4 rfl (by kernel_rfl) (y_loadW rfl (by repeat constructor) (by rfl)) rfl (fun _ _ _ h => h) (fun _ h => h) ?_)
  all_goals (first | refine tx_q 5 rfl (by kernel_rfl) (y_lookup_hit hh rfl rfl (by repeat constructor) hc0) rfl (fun _ _ _ h => h) (fun _ h => h) ?_ | refine tx_q 5 rfl (by kernel_rfl) (y_lookup_miss hh rfl rfl (by repeat constructor) hc0) rfl (fun _ _ _ h => h) (fun _ h => h) ?_)
  all_goals refine tx_p 6 rfl (by kernel_rfl) (y_move rfl) rfl (fun _ _ _ h => h) (fun _ h => h) ?_
  all_goals refine tx_p 7 rfl (by kernel_rfl) (y_extract rfl rfl) rfl (fun _ _ _ h => h) (fun _ h => h) ?_
  all_goals refine tx_p 8 rfl (by kernel_rfl) (y_extract rfl rfl) rfl (fun _ _ _ h => h) (fun _ h => h) ?_
  all_goals refine tx_e 9 rfl (by kernel_rfl) rfl (e_allocN rfl) (.inr qq1) (fun _ _ => ?_)
  all_goals refine tx_e 10 rfl (by kernel_rfl) rfl (e_storeW rfl rfl (by repeat constructor) (by rfl) (by rfl) (by simp [Value.oneCell'])) (.inl (by kernel_rfl)) (fun _ _ => ?_)
  all_goals refine tx_p 11 rfl (by kernel_rfl) (y_assign rfl) rfl (fun _ _ _ h => h) (fun _ h => h) ?_
  all_goals refine tx_done (by kernel_rfl) ?_
  all_goals (refine hK2 ?_; try (clear hK2; clear K2))
  all_goals refine tc_seq fun K3 hK3 => ?_
  all_goals refine tc_seq fun K4 hK4 => ?_
  all_goals refine tc_region ?_
  all_goals refine tl_q (y_move rfl) rfl ?_
  all_goals refine tl_nil ?_
  all_goals (refine hK4 ?_; try (clear hK4; clear K4))
  all_goals (
   refine tc_cond rfl (fun hc => ?_) (fun hc => ?_)
   · try simp only [decide_eq_true_eq, decide_eq_false_iff_not, Int.not_lt, Int.not_le, Bool.not_eq_true', Bool.not_eq_false', Decidable.not_not, not_true_eq_false] at hc
     all_goals first | (exfalso; with_reducible exact bft hc) | (exfalso; with_reducible exact btf hc) | (exfalso; omega) | skip
     all_goals refine tc_seq fun K5 hK5 => ?_
     all_goals refine tc_region ?_
     all_goals (refine tl_q (y_loadW rfl (by repeat constructor) (by rfl)) rfl ?_)
     all_goals refine tl_e (e_storeW rfl rfl (by repeat constructor) (by rfl) (by rfl) (by simp [Value.oneCell'])) rfl (fun _ _ => ?_)
     all_goals refine tl_nil ?_
     all_goals (refine hK5 ?_; try (clear hK5; clear K5))
     all_goals refine tc_ret ?_
     all_goals (repeat (refine tk_then_ret ?_))
     all_goals first | refine tk_ret rfl rfl (.cons (.agg inferInstance rfl (by repeat constructor) (by rfl)) .nil) ?_ | refine tk_retM rfl (by repeat constructor) rfl (.cons (.agg inferInstance rfl (by repeat constructor) (by rfl)) .nil) ?_
     all_goals (
      refine fun w' hw' => ?_
      have hb2 := hw'.heap (bw, wkO s sl bm) (HM.mem (by repeat constructor))
      have hb1 := hw'.heap _ (HM.mem (b := bm) (by repeat constructor))
      first
      | exact ⟨(es, ck), rfl, Fr.but (hw'.fr (S := [bw, bm]) (by simp)) (by rw [hb2, hbw]), hc0, hb1⟩
      | (have hm : meanF s k seen = meetF (1, 2000) (1, fromF (massF s k) (s.volume + s.divisions * s.step) - 1) := by unfold meanF; rw [if_pos (by omega)]
         exact ⟨(es.push { key := kv k seen, val := rV (meanF s k seen), born := ck }, ck + 1), by rw [hm]; rfl, Fr.but (hw'.fr (S := [bw, bm]) (by simp)) (by rw [hb2, hbw]), Cache.push hc0 k seen ck, by rw [hm]; exact hb1⟩)
      | (have hm : meanF s k seen = meetF (1, 2000) (belowF (massF s k) s.volume + 1, 2000) := by unfold meanF; rw [if_neg (by omega), if_pos (by omega)]
         exact ⟨(es.push { key := kv k seen, val := rV (meanF s k seen), born := ck }, ck + 1), by rw [hm]; rfl, Fr.but (hw'.fr (S := [bw, bm]) (by simp)) (by rw [hb2, hbw]), Cache.push hc0 k seen ck, by rw [hm]; exact hb1⟩)
      | (have hm : meanF s k seen = meetF (meetF (floF s k) (fromF (massF s k) (s.volume + seen * s.step + s.width), 2000)) (1, belowF (massF s k) (s.volume + seen * s.step - s.width)) := by unfold meanF; rw [if_neg (by omega), if_neg (by omega), if_pos (by omega)]
         exact ⟨(es.push { key := kv k seen, val := rV (meanF s k seen), born := ck }, ck + 1), by rw [hm]; rfl, Fr.but (hw'.fr (S := [bw, bm]) (by simp)) (by rw [hb2, hbw]), Cache.push hc0 k seen ck, by rw [hm]; exact hb1⟩)
      | (have hm : meanF s k seen = meetF (floF s k) (fromF (massF s k) (s.volume + seen * s.step + s.width), 2000) := by unfold meanF; rw [if_neg (by omega), if_neg (by omega), if_neg (by omega)]
         exact ⟨(es.push { key := kv k seen, val := rV (meanF s k seen), born := ck }, ck + 1), by rw [hm]; rfl, Fr.but (hw'.fr (S := [bw, bm]) (by simp)) (by rw [hb2, hbw]), Cache.push hc0 k seen ck, by rw [hm]; exact hb1⟩))
   · try simp only [decide_eq_true_eq, decide_eq_false_iff_not, Int.not_lt, Int.not_le, Bool.not_eq_true', Bool.not_eq_false', Decidable.not_not, not_true_eq_false] at hc
     all_goals first | (exfalso; with_reducible exact bft hc) | (exfalso; with_reducible exact btf hc) | (exfalso; omega) | skip
     all_goals refine tc_skip ?_
     all_goals (refine hK3 ?_; try (clear hK3; clear K3))
     all_goals refine tc_seq fun K6 hK6 => ?_
     all_goals refine tc_draw (by kernel_rfl) ?_
     all_goals refine tx_p 0 rfl (by kernel_rfl) (y_move rfl) rfl (fun _ _ _ h => h) (fun _ h => h) ?_
     all_goals refine tx_p 1 rfl (by kernel_rfl) (y_nil rfl) rfl (fun _ _ _ h => h) (fun _ h => h) ?_
     all_goals refine tx_p 2 rfl (by kernel_rfl) (y_field rfl) rfl (fun _ _ _ h => h) (fun _ h => h) ?_
     all_goals (refine tx_q 3 rfl (by kernel_rfl) (y_loadN rfl (by repeat constructor) (by (repeat (first | exact .nil | apply CA.cons rfl)); done)) rfl (fun _ _ _ h => h) (fun _ h => h) ?_)
     all_goals refine tx_p 4 rfl (by kernel_rfl) (y_field rfl) rfl (fun _ _ _ h => h) (fun _ h => h) ?_
     all_goals refine tx_q 5 rfl (by kernel_rfl) (y_load1 rfl (by repeat constructor) (by rfl)) rfl (fun _ _ _ h => h) (fun _ h => h) ?_
     all_goals refine tx_e 6 rfl (by kernel_rfl) rfl (e_callV rfl (.cons rfl (.cons rfl .nil)) (fun w' hw' => mass_c s hs k h0 h1 _ w' (hrM w' (hw'.fr (by simp)) (hw'.heap _ (HM.mem (by repeat constructor)))))) (.inr fun _ _ h => h) (fun _ _ => ?_)
     all_goals refine tx_p 7 rfl (by kernel_rfl) (y_assign rfl) rfl (fun _ _ _ h => h) (fun _ h => h) ?_
     all_goals refine tx_done (by kernel_rfl) ?_
     all_goals (refine hK6 ?_; try (clear hK6; clear K6))
     all_goals refine tc_seq fun K7 hK7 => ?_
     all_goals refine tc_seq fun K8 hK8 => ?_
     all_goals refine tc_region ?_
     all_goals refine tl_q (y_field rfl) rfl ?_
     all_goals refine tl_q (y_load1 rfl (by repeat constructor) (by rfl)) rfl ?_
     all_goals refine tl_nil ?_
     all_goals (refine hK8 ?_; try (clear hK8; clear K8))
     all_goals refine tc_block ?_
     all_goals refine tc_seq fun K9 hK9 => ?_
     all_goals refine tc_region ?_
     all_goals refine tl_q (y_eql rfl rfl) rfl ?_
     all_goals refine tl_q (y_assign rfl) rfl ?_
     all_goals refine tl_nil ?_
     all_goals (refine hK9 ?_; try (clear hK9; clear K9))
     all_goals (
      refine tc_cond rfl (fun hc => ?_) (fun hc => ?_)
      · try simp only [decide_eq_true_eq, decide_eq_false_iff_not, Int.not_lt, Int.not_le, Bool.not_eq_true', Bool.not_eq_false', Decidable.not_not, not_true_eq_false] at hc
        all_goals first | (exfalso; with_reducible exact bft hc) | (exfalso; with_reducible exact btf hc) | (exfalso; omega) | skip
        all_goals refine tc_draw (by kernel_rfl) ?_
        all_goals refine tx_p 1 rfl (by kernel_rfl) (y_move rfl) rfl (fun _ _ _ h => h) (fun _ h => h) ?_
        all_goals refine tx_p 2 rfl (by kernel_rfl) (y_move rfl) rfl (fun _ _ _ h => h) (fun _ h => h) ?_
        all_goals refine tx_p 3 rfl (by kernel_rfl) (y_nil rfl) rfl (fun _ _ _ h => h) (fun _ h => h) ?_
        all_goals refine tx_p 4 rfl (by kernel_rfl) (y_field rfl) rfl (fun _ _ _ h => h) (fun _ h => h) ?_
        all_goals refine tx_p 5 rfl (by kernel_rfl) (y_field rfl) rfl (fun _ _ _ h => h) (fun _ h => h) ?_
        all_goals refine tx_q 6 rfl (by kernel_rfl) (y_load1 rfl (by repeat constructor) (by rfl)) rfl (fun _ _ _ h => h) (fun _ h => h) ?_
        all_goals refine tx_p 7 rfl (by kernel_rfl) (y_move rfl) rfl (fun _ _ _ h => h) (fun _ h => h) ?_
        all_goals refine tx_p 8 rfl (by kernel_rfl) (y_nil rfl) rfl (fun _ _ _ h => h) (fun _ h => h) ?_
        all_goals refine tx_p 9 rfl (by kernel_rfl) (y_field rfl) rfl (fun _ _ _ h => h) (fun _ h => h) ?_
        all_goals refine tx_p 10 rfl (by kernel_rfl) (y_field rfl) rfl (fun _ _ _ h => h) (fun _ h => h) ?_
        all_goals refine tx_q 11 rfl (by kernel_rfl) (y_load1 rfl (by repeat constructor) (by rfl)) rfl (fun _ _ _ h => h) (fun _ h => h) ?_
        all_goals refine tx_p 12 rfl (by kernel_rfl) (y_move rfl) rfl (fun _ _ _ h => h) (fun _ h => h) ?_
        all_goals refine tx_p 13 rfl (by kernel_rfl) (y_nil rfl) rfl (fun _ _ _ h => h) (fun _ h => h) ?_
        all_goals refine tx_p 14 rfl (by kernel_rfl) (y_field rfl) rfl (fun _ _ _ h => h) (fun _ h => h) ?_
        all_goals refine tx_p 15 rfl (by kernel_rfl) (y_field rfl) rfl (fun _ _ _ h => h) (fun _ h => h) ?_
        all_goals refine tx_q 16 rfl (by kernel_rfl) (y_load1 rfl (by repeat constructor) (by rfl)) rfl (fun _ _ _ h => h) (fun _ h => h) ?_
        all_goals refine tx_p 17 rfl (by kernel_rfl) (y_mul rfl rfl (by omega)) rfl (fun _ _ _ h => h) (fun _ h => h) ?_
        all_goals refine tx_p 18 rfl (by kernel_rfl) (y_add rfl rfl (by omega)) rfl (fun _ _ _ h => h) (fun _ h => h) ?_
        all_goals refine tx_e 0 rfl (by kernel_rfl) rfl (e_callV rfl .nil (fun w' _ => every_c w')) (.inr fun _ _ h => h) (fun _ _ => ?_)
        all_goals refine tx_e 19 rfl (by kernel_rfl) rfl (e_callV rfl (.cons rfl (.cons rfl .nil)) (fun w' _ => from_c _ _ (by omega) (by omega) (by omega) (by omega) w')) (.inr fun _ _ h => h) (fun _ _ => ?_)
        all_goals refine tx_p 20 rfl (by kernel_rfl) (y_sub rfl rfl (by omega)) rfl (fun _ _ _ h => h) (fun _ h => h) ?_
        all_goals refine tx_p 21 rfl (by kernel_rfl) (y_build_2 rfl rfl rfl rfl) rfl (fun _ _ _ h => h) (fun _ h => h) ?_
        all_goals refine tx_e 22 rfl (by kernel_rfl) rfl (e_callV rfl (.cons rfl (.cons rfl .nil)) (fun w' _ => meet_c _ _ _ _ w')) (.inr fun _ _ h => h) (fun _ _ => ?_)
        all_goals refine tx_e 23 rfl (by kernel_rfl) rfl (e_storeW rfl rfl (by repeat constructor) (by rfl) (by rfl) (by simp [Value.oneCell'])) (.inl (by kernel_rfl)) (fun _ _ => ?_)
        all_goals refine tx_done (by kernel_rfl) ?_
        all_goals (refine hK7 ?_; try (clear hK7; clear K7))
        all_goals refine tc_seq fun K10 hK10 => ?_
        all_goals refine tc_draw (by kernel_rfl) ?_
        all_goals refine tx_p 0 rfl (by kernel_rfl) (y_move rfl) rfl (fun _ _ _ h => h) (fun _ h => h) ?_
        all_goals refine tx_p 1 rfl (by kernel_rfl) (y_nil rfl) rfl (fun _ _ _ h => h) (fun _ h => h) ?_
        all_goals refine tx_p 2 rfl (by kernel_rfl) (y_field rfl) rfl (fun _ _ _ h => h) (fun _ h => h) ?_
        all_goals refine tx_q 3 rfl (by kernel_rfl) (y_load1 rfl (by repeat constructor) (by rfl)) rfl (fun _ _ _ h => h) (fun _ h => h) ?_
        all_goals (refine tx_q 4 rfl (by kernel_rfl) (y_loadW rfl (by repeat constructor) (by rfl)) rfl (fun _ _ _ h => h) (fun _ h => h) ?_)
        all_goals (refine tx_q 5 rfl (by kernel_rfl) (y_loadW rfl (by repeat constructor) (by rfl)) rfl (fun _ _ _ h => h) (fun _ h => h) ?_)
        all_goals refine tx_e 6 rfl (by kernel_rfl) rfl (e_mapUpdate_new hh hc0 rfl rfl rfl (by repeat constructor)) (.inl (by kernel_rfl)) (fun _ _ => ?_)
        all_goals refine tx_done (by kernel_rfl) ?_
        all_goals (refine hK10 ?_; try (clear hK10; clear K10))
        all_goals refine tc_seq fun K11 hK11 => ?_
        all_goals refine tc_region ?_
        all_goals (refine tl_q (y_loadW rfl (by repeat constructor) (by rfl)) rfl ?_)
        all_goals refine tl_e (e_storeW rfl rfl (by repeat constructor) (by rfl) (by rfl) (by simp [Value.oneCell'])) rfl (fun _ _ => ?_)
        all_goals refine tl_nil ?_
        all_goals (refine hK11 ?_; try (clear hK11; clear K11))
        all_goals refine tc_ret ?_
        all_goals (repeat (first | refine tk_then_ret ?_))
        all_goals first | refine tk_ret rfl rfl (.cons (.agg inferInstance rfl (by repeat constructor) (by rfl)) .nil) ?_ | refine tk_retM rfl (by repeat constructor) rfl (.cons (.agg inferInstance rfl (by repeat constructor) (by rfl)) .nil) ?_
        all_goals (
         refine fun w' hw' => ?_
         have hb2 := hw'.heap (bw, wkO s sl bm) (HM.mem (by repeat constructor))
         have hb1 := hw'.heap _ (HM.mem (b := bm) (by repeat constructor))
         first
         | exact ⟨(es, ck), rfl, Fr.but (hw'.fr (S := [bw, bm]) (by simp)) (by rw [hb2, hbw]), hc0, hb1⟩
         | (have hm : meanF s k seen = meetF (1, 2000) (1, fromF (massF s k) (s.volume + s.divisions * s.step) - 1) := by unfold meanF; rw [if_pos (by omega)]
            exact ⟨(es.push { key := kv k seen, val := rV (meanF s k seen), born := ck }, ck + 1), by rw [hm]; rfl, Fr.but (hw'.fr (S := [bw, bm]) (by simp)) (by rw [hb2, hbw]), Cache.push hc0 k seen ck, by rw [hm]; exact hb1⟩)
         | (have hm : meanF s k seen = meetF (1, 2000) (belowF (massF s k) s.volume + 1, 2000) := by unfold meanF; rw [if_neg (by omega), if_pos (by omega)]
            exact ⟨(es.push { key := kv k seen, val := rV (meanF s k seen), born := ck }, ck + 1), by rw [hm]; rfl, Fr.but (hw'.fr (S := [bw, bm]) (by simp)) (by rw [hb2, hbw]), Cache.push hc0 k seen ck, by rw [hm]; exact hb1⟩)
         | (have hm : meanF s k seen = meetF (meetF (floF s k) (fromF (massF s k) (s.volume + seen * s.step + s.width), 2000)) (1, belowF (massF s k) (s.volume + seen * s.step - s.width)) := by unfold meanF; rw [if_neg (by omega), if_neg (by omega), if_pos (by omega)]
            exact ⟨(es.push { key := kv k seen, val := rV (meanF s k seen), born := ck }, ck + 1), by rw [hm]; rfl, Fr.but (hw'.fr (S := [bw, bm]) (by simp)) (by rw [hb2, hbw]), Cache.push hc0 k seen ck, by rw [hm]; exact hb1⟩)
         | (have hm : meanF s k seen = meetF (floF s k) (fromF (massF s k) (s.volume + seen * s.step + s.width), 2000) := by unfold meanF; rw [if_neg (by omega), if_neg (by omega), if_neg (by omega)]
            exact ⟨(es.push { key := kv k seen, val := rV (meanF s k seen), born := ck }, ck + 1), by rw [hm]; rfl, Fr.but (hw'.fr (S := [bw, bm]) (by simp)) (by rw [hb2, hbw]), Cache.push hc0 k seen ck, by rw [hm]; exact hb1⟩))
      · try simp only [decide_eq_true_eq, decide_eq_false_iff_not, Int.not_lt, Int.not_le, Bool.not_eq_true', Bool.not_eq_false', Decidable.not_not, not_true_eq_false] at hc
        all_goals first | (exfalso; with_reducible exact bft hc) | (exfalso; with_reducible exact btf hc) | (exfalso; omega) | skip
        all_goals refine tc_seq fun K12 hK12 => ?_
        all_goals refine tc_region ?_
        all_goals refine tl_q (y_eql rfl rfl) rfl ?_
        all_goals refine tl_q (y_assign rfl) rfl ?_
        all_goals refine tl_nil ?_
        all_goals (refine hK12 ?_; try (clear hK12; clear K12))
        all_goals (
         refine tc_cond rfl (fun hc => ?_) (fun hc => ?_)
         · try simp only [decide_eq_true_eq, decide_eq_false_iff_not, Int.not_lt, Int.not_le, Bool.not_eq_true', Bool.not_eq_false', Decidable.not_not, not_true_eq_false] at hc
           all_goals first | (exfalso; with_reducible exact bft hc) | (exfalso; with_reducible exact btf hc) | (exfalso; omega) | skip
           all_goals refine tc_draw (by kernel_rfl) ?_
           all_goals refine tx_p 1 rfl (by kernel_rfl) (y_move rfl) rfl (fun _ _ _ h => h) (fun _ h => h) ?_
           all_goals refine tx_p 2 rfl (by kernel_rfl) (y_move rfl) rfl (fun _ _ _ h => h) (fun _ h => h) ?_
           all_goals refine tx_p 3 rfl (by kernel_rfl) (y_nil rfl) rfl (fun _ _ _ h => h) (fun _ h => h) ?_
           all_goals refine tx_p 4 rfl (by kernel_rfl) (y_field rfl) rfl (fun _ _ _ h => h) (fun _ h => h) ?_
           all_goals refine tx_p 5 rfl (by kernel_rfl) (y_field rfl) rfl (fun _ _ _ h => h) (fun _ h => h) ?_
           all_goals refine tx_q 6 rfl (by kernel_rfl) (y_load1 rfl (by repeat constructor) (by rfl)) rfl (fun _ _ _ h => h) (fun _ h => h) ?_
           all_goals refine tx_e 0 rfl (by kernel_rfl) rfl (e_callV rfl .nil (fun w' _ => every_c w')) (.inr fun _ _ h => h) (fun _ _ => ?_)
           all_goals refine tx_e 7 rfl (by kernel_rfl) rfl (e_callV rfl (.cons rfl (.cons rfl .nil)) (fun w' _ => below_c _ _ (by omega) (by omega) (by omega) (by omega) w')) (.inr fun _ _ h => h) (fun _ _ => ?_)
           all_goals refine tx_p 8 rfl (by kernel_rfl) (y_add rfl rfl (by omega)) rfl (fun _ _ _ h => h) (fun _ h => h) ?_
           all_goals refine tx_p 9 rfl (by kernel_rfl) (y_build_2 rfl rfl rfl rfl) rfl (fun _ _ _ h => h) (fun _ h => h) ?_
           all_goals refine tx_e 10 rfl (by kernel_rfl) rfl (e_callV rfl (.cons rfl (.cons rfl .nil)) (fun w' _ => meet_c _ _ _ _ w')) (.inr fun _ _ h => h) (fun _ _ => ?_)
           all_goals refine tx_e 11 rfl (by kernel_rfl) rfl (e_storeW rfl rfl (by repeat constructor) (by rfl) (by rfl) (by simp [Value.oneCell'])) (.inl (by kernel_rfl)) (fun _ _ => ?_)
           all_goals refine tx_done (by kernel_rfl) ?_
           all_goals (refine hK7 ?_; try (clear hK7; clear K7))
           all_goals refine tc_seq fun K13 hK13 => ?_
           all_goals refine tc_draw (by kernel_rfl) ?_
           all_goals refine tx_p 0 rfl (by kernel_rfl) (y_move rfl) rfl (fun _ _ _ h => h) (fun _ h => h) ?_
           all_goals refine tx_p 1 rfl (by kernel_rfl) (y_nil rfl) rfl (fun _ _ _ h => h) (fun _ h => h) ?_
           all_goals refine tx_p 2 rfl (by kernel_rfl) (y_field rfl) rfl (fun _ _ _ h => h) (fun _ h => h) ?_
           all_goals refine tx_q 3 rfl (by kernel_rfl) (y_load1 rfl (by repeat constructor) (by rfl)) rfl (fun _ _ _ h => h) (fun _ h => h) ?_
           all_goals (refine tx_q 4 rfl (by kernel_rfl) (y_loadW rfl (by repeat constructor) (by rfl)) rfl (fun _ _ _ h => h) (fun _ h => h) ?_)
           all_goals (refine tx_q 5 rfl (by kernel_rfl) (y_loadW rfl (by repeat constructor) (by rfl)) rfl (fun _ _ _ h => h) (fun _ h => h) ?_)
           all_goals refine tx_e 6 rfl (by kernel_rfl) rfl (e_mapUpdate_new hh hc0 rfl rfl rfl (by repeat constructor)) (.inl (by kernel_rfl)) (fun _ _ => ?_)
           all_goals refine tx_done (by kernel_rfl) ?_
           all_goals (refine hK13 ?_; try (clear hK13; clear K13))
           all_goals refine tc_seq fun K14 hK14 => ?_
           all_goals refine tc_region ?_
           all_goals (refine tl_q (y_loadW rfl (by repeat constructor) (by rfl)) rfl ?_)
           all_goals refine tl_e (e_storeW rfl rfl (by repeat constructor) (by rfl) (by rfl) (by simp [Value.oneCell'])) rfl (fun _ _ => ?_)
           all_goals refine tl_nil ?_
           all_goals (refine hK14 ?_; try (clear hK14; clear K14))
           all_goals refine tc_ret ?_
           all_goals (repeat (first | refine tk_then_ret ?_))
           all_goals first | refine tk_ret rfl rfl (.cons (.agg inferInstance rfl (by repeat constructor) (by rfl)) .nil) ?_ | refine tk_retM rfl (by repeat constructor) rfl (.cons (.agg inferInstance rfl (by repeat constructor) (by rfl)) .nil) ?_
           all_goals (
            refine fun w' hw' => ?_
            have hb2 := hw'.heap (bw, wkO s sl bm) (HM.mem (by repeat constructor))
            have hb1 := hw'.heap _ (HM.mem (b := bm) (by repeat constructor))
            first
            | exact ⟨(es, ck), rfl, Fr.but (hw'.fr (S := [bw, bm]) (by simp)) (by rw [hb2, hbw]), hc0, hb1⟩
            | (have hm : meanF s k seen = meetF (1, 2000) (1, fromF (massF s k) (s.volume + s.divisions * s.step) - 1) := by unfold meanF; rw [if_pos (by omega)]
               exact ⟨(es.push { key := kv k seen, val := rV (meanF s k seen), born := ck }, ck + 1), by rw [hm]; rfl, Fr.but (hw'.fr (S := [bw, bm]) (by simp)) (by rw [hb2, hbw]), Cache.push hc0 k seen ck, by rw [hm]; exact hb1⟩)
            | (have hm : meanF s k seen = meetF (1, 2000) (belowF (massF s k) s.volume + 1, 2000) := by unfold meanF; rw [if_neg (by omega), if_pos (by omega)]
               exact ⟨(es.push { key := kv k seen, val := rV (meanF s k seen), born := ck }, ck + 1), by rw [hm]; rfl, Fr.but (hw'.fr (S := [bw, bm]) (by simp)) (by rw [hb2, hbw]), Cache.push hc0 k seen ck, by rw [hm]; exact hb1⟩)
            | (have hm : meanF s k seen = meetF (meetF (floF s k) (fromF (massF s k) (s.volume + seen * s.step + s.width), 2000)) (1, belowF (massF s k) (s.volume + seen * s.step - s.width)) := by unfold meanF; rw [if_neg (by omega), if_neg (by omega), if_pos (by omega)]
               exact ⟨(es.push { key := kv k seen, val := rV (meanF s k seen), born := ck }, ck + 1), by rw [hm]; rfl, Fr.but (hw'.fr (S := [bw, bm]) (by simp)) (by rw [hb2, hbw]), Cache.push hc0 k seen ck, by rw [hm]; exact hb1⟩)
            | (have hm : meanF s k seen = meetF (floF s k) (fromF (massF s k) (s.volume + seen * s.step + s.width), 2000) := by unfold meanF; rw [if_neg (by omega), if_neg (by omega), if_neg (by omega)]
               exact ⟨(es.push { key := kv k seen, val := rV (meanF s k seen), born := ck }, ck + 1), by rw [hm]; rfl, Fr.but (hw'.fr (S := [bw, bm]) (by simp)) (by rw [hb2, hbw]), Cache.push hc0 k seen ck, by rw [hm]; exact hb1⟩))
         · try simp only [decide_eq_true_eq, decide_eq_false_iff_not, Int.not_lt, Int.not_le, Bool.not_eq_true', Bool.not_eq_false', Decidable.not_not, not_true_eq_false] at hc
           all_goals first | (exfalso; with_reducible exact bft hc) | (exfalso; with_reducible exact btf hc) | (exfalso; omega) | skip
           all_goals refine tc_seq fun K15 hK15 => ?_
           have hdv := dv_bd hs (n := seen) (by omega) h3
           all_goals refine tc_draw (by kernel_rfl) ?_
           all_goals refine tx_p 0 rfl (by kernel_rfl) (y_move rfl) rfl (fun _ _ _ h => h) (fun _ h => h) ?_
           all_goals refine tx_p 1 rfl (by kernel_rfl) (y_nil rfl) rfl (fun _ _ _ h => h) (fun _ h => h) ?_
           all_goals refine tx_p 2 rfl (by kernel_rfl) (y_field rfl) rfl (fun _ _ _ h => h) (fun _ h => h) ?_
           all_goals refine tx_p 3 rfl (by kernel_rfl) (y_field rfl) rfl (fun _ _ _ h => h) (fun _ h => h) ?_
           all_goals refine tx_q 4 rfl (by kernel_rfl) (y_load1 rfl (by repeat constructor) (by rfl)) rfl (fun _ _ _ h => h) (fun _ h => h) ?_
           all_goals refine tx_p 5 rfl (by kernel_rfl) (y_field rfl) rfl (fun _ _ _ h => h) (fun _ h => h) ?_
           all_goals refine tx_q 6 rfl (by kernel_rfl) (y_load1 rfl (by repeat constructor) (by rfl)) rfl (fun _ _ _ h => h) (fun _ h => h) ?_
           all_goals refine tx_p 7 rfl (by kernel_rfl) (y_move rfl) rfl (fun _ _ _ h => h) (fun _ h => h) ?_
           all_goals refine tx_p 8 rfl (by kernel_rfl) (y_nil rfl) rfl (fun _ _ _ h => h) (fun _ h => h) ?_
           all_goals refine tx_p 9 rfl (by kernel_rfl) (y_field rfl) rfl (fun _ _ _ h => h) (fun _ h => h) ?_
           all_goals refine tx_p 10 rfl (by kernel_rfl) (y_field rfl) rfl (fun _ _ _ h => h) (fun _ h => h) ?_
           all_goals refine tx_q 11 rfl (by kernel_rfl) (y_load1 rfl (by repeat constructor) (by rfl)) rfl (fun _ _ _ h => h) (fun _ h => h) ?_
           all_goals refine tx_p 12 rfl (by kernel_rfl) (y_mul rfl rfl (by omega)) rfl (fun _ _ _ h => h) (fun _ h => h) ?_
           all_goals refine tx_p 13 rfl (by kernel_rfl) (y_add rfl rfl (by omega)) rfl (fun _ _ _ h => h) (fun _ h => h) ?_
           all_goals refine tx_p 14 rfl (by kernel_rfl) (y_assign rfl) rfl (fun _ _ _ h => h) (fun _ h => h) ?_
           all_goals refine tx_done (by kernel_rfl) ?_
           all_goals (refine hK15 ?_; try (clear hK15; clear K15))
           all_goals refine tc_seq fun K16 hK16 => ?_
           all_goals refine tc_draw (by kernel_rfl) ?_
           all_goals refine tx_p 0 rfl (by kernel_rfl) (y_move rfl) rfl (fun _ _ _ h => h) (fun _ h => h) ?_
           all_goals refine tx_p 1 rfl (by kernel_rfl) (y_nil rfl) rfl (fun _ _ _ h => h) (fun _ h => h) ?_
           all_goals refine tx_p 2 rfl (by kernel_rfl) (y_field rfl) rfl (fun _ _ _ h => h) (fun _ h => h) ?_
           all_goals (refine tx_q 3 rfl (by kernel_rfl) (y_loadN rfl (by repeat constructor) (by (repeat (first | exact .nil | apply CA.cons rfl)); done)) rfl (fun _ _ _ h => h) (fun _ h => h) ?_)
           all_goals refine tx_p 4 rfl (by kernel_rfl) (y_field rfl) rfl (fun _ _ _ h => h) (fun _ h => h) ?_
           all_goals refine tx_q 5 rfl (by kernel_rfl) (y_load1 rfl (by repeat constructor) (by rfl)) rfl (fun _ _ _ h => h) (fun _ h => h) ?_
           all_goals refine tx_p 7 rfl (by kernel_rfl) (y_move rfl) rfl (fun _ _ _ h => h) (fun _ h => h) ?_
           all_goals refine tx_p 8 rfl (by kernel_rfl) (y_move rfl) rfl (fun _ _ _ h => h) (fun _ h => h) ?_
           all_goals refine tx_p 9 rfl (by kernel_rfl) (y_move rfl) rfl (fun _ _ _ h => h) (fun _ h => h) ?_
           all_goals refine tx_p 10 rfl (by kernel_rfl) (y_nil rfl) rfl (fun _ _ _ h => h) (fun _ h => h) ?_
           all_goals refine tx_p 11 rfl (by kernel_rfl) (y_field rfl) rfl (fun _ _ _ h => h) (fun _ h => h) ?_
           all_goals refine tx_p 12 rfl (by kernel_rfl) (y_field rfl) rfl (fun _ _ _ h => h) (fun _ h => h) ?_
           all_goals refine tx_q 13 rfl (by kernel_rfl) (y_load1 rfl (by repeat constructor) (by rfl)) rfl (fun _ _ _ h => h) (fun _ h => h) ?_
           all_goals refine tx_p 14 rfl (by kernel_rfl) (y_add rfl rfl (by omega)) rfl (fun _ _ _ h => h) (fun _ h => h) ?_
           all_goals refine tx_e 6 rfl (by kernel_rfl) rfl (e_callV rfl (.cons rfl (.cons rfl .nil)) (fun w' hw' => floating_c s hs k h0 h1 _ w' (hrM w' (hw'.fr (by simp)) (hw'.heap _ (HM.mem (by repeat constructor)))))) (.inr fun _ _ h => h) (fun _ _ => ?_)
           all_goals refine tx_e 15 rfl (by kernel_rfl) rfl (e_callV rfl (.cons rfl (.cons rfl .nil)) (fun w' _ => from_c _ _ (by omega) (by omega) (by omega) (by omega) w')) (.inr fun _ _ h => h) (fun _ _ => ?_)
           all_goals refine tx_p 16 rfl (by kernel_rfl) (y_build_2 rfl rfl rfl rfl) rfl (fun _ _ _ h => h) (fun _ h => h) ?_
           all_goals refine tx_e 17 rfl (by kernel_rfl) rfl (e_callV rfl (.cons rfl (.cons rfl .nil)) (fun w' _ => meet_c _ _ _ _ w')) (.inr fun _ _ h => h) (fun _ _ => ?_)
           all_goals refine tx_e 18 rfl (by kernel_rfl) rfl (e_storeW rfl rfl (by repeat constructor) (by rfl) (by rfl) (by simp [Value.oneCell'])) (.inl (by kernel_rfl)) (fun _ _ => ?_)
           all_goals refine tx_done (by kernel_rfl) ?_
           all_goals (refine hK16 ?_; try (clear hK16; clear K16))
           all_goals refine tc_seq fun K17 hK17 => ?_
           all_goals refine tc_region ?_
           all_goals refine tl_q (y_move rfl) rfl ?_
           all_goals refine tl_q (y_move rfl) rfl ?_
           all_goals refine tl_q (y_nil rfl) rfl ?_
           all_goals refine tl_q (y_field rfl) rfl ?_
           all_goals refine tl_q (y_field rfl) rfl ?_
           all_goals refine tl_q (y_load1 rfl (by repeat constructor) (by rfl)) rfl ?_
           all_goals refine tl_q (y_gtr rfl rfl) rfl ?_
           all_goals refine tl_nil ?_
           all_goals (refine hK17 ?_; try (clear hK17; clear K17))
           all_goals (
            refine tc_cond rfl (fun hc => ?_) (fun hc => ?_)
            · try simp only [decide_eq_true_eq, decide_eq_false_iff_not, Int.not_lt, Int.not_le, Bool.not_eq_true', Bool.not_eq_false', Decidable.not_not, not_true_eq_false] at hc
              all_goals first | (exfalso; with_reducible exact bft hc) | (exfalso; with_reducible exact btf hc) | (exfalso; omega) | skip
              all_goals refine tc_draw (by kernel_rfl) ?_
              all_goals (refine tx_q 0 rfl (by kernel_rfl) (y_loadW rfl (by repeat constructor) (by rfl)) rfl (fun _ _ _ h => h) (fun _ h => h) ?_)
              all_goals refine tx_p 1 rfl (by kernel_rfl) (y_move rfl) rfl (fun _ _ _ h => h) (fun _ h => h) ?_
              all_goals refine tx_p 2 rfl (by kernel_rfl) (y_move rfl) rfl (fun _ _ _ h => h) (fun _ h => h) ?_
              all_goals refine tx_p 3 rfl (by kernel_rfl) (y_move rfl) rfl (fun _ _ _ h => h) (fun _ h => h) ?_
              all_goals refine tx_p 4 rfl (by kernel_rfl) (y_nil rfl) rfl (fun _ _ _ h => h) (fun _ h => h) ?_
              all_goals refine tx_p 5 rfl (by kernel_rfl) (y_field rfl) rfl (fun _ _ _ h => h) (fun _ h => h) ?_
              all_goals refine tx_p 6 rfl (by kernel_rfl) (y_field rfl) rfl (fun _ _ _ h => h) (fun _ h => h) ?_
              all_goals refine tx_q 7 rfl (by kernel_rfl) (y_load1 rfl (by repeat constructor) (by rfl)) rfl (fun _ _ _ h => h) (fun _ h => h) ?_
              all_goals refine tx_p 8 rfl (by kernel_rfl) (y_sub rfl rfl (by omega)) rfl (fun _ _ _ h => h) (fun _ h => h) ?_
              all_goals refine tx_e 9 rfl (by kernel_rfl) rfl (e_callV rfl (.cons rfl (.cons rfl .nil)) (fun w' _ => below_c _ _ (by omega) (by omega) (by omega) (by omega) w')) (.inr fun _ _ h => h) (fun _ _ => ?_)
              all_goals refine tx_p 10 rfl (by kernel_rfl) (y_build_2 rfl rfl rfl rfl) rfl (fun _ _ _ h => h) (fun _ h => h) ?_
              all_goals refine tx_e 11 rfl (by kernel_rfl) rfl (e_callV rfl (.cons rfl (.cons rfl .nil)) (fun w' _ => meet_c _ _ _ _ w')) (.inr fun _ _ h => h) (fun _ _ => ?_)
              all_goals refine tx_e 12 rfl (by kernel_rfl) rfl (e_storeW rfl rfl (by repeat constructor) (by rfl) (by rfl) (by simp [Value.oneCell'])) (.inl (by kernel_rfl)) (fun _ _ => ?_)
              all_goals refine tx_done (by kernel_rfl) ?_
              all_goals (refine hK7 ?_; try (clear hK7; clear K7))
              all_goals refine tc_seq fun K18 hK18 => ?_
              all_goals refine tc_draw (by kernel_rfl) ?_
              all_goals refine tx_p 0 rfl (by kernel_rfl) (y_move rfl) rfl (fun _ _ _ h => h) (fun _ h => h) ?_
              all_goals refine tx_p 1 rfl (by kernel_rfl) (y_nil rfl) rfl (fun _ _ _ h => h) (fun _ h => h) ?_
              all_goals refine tx_p 2 rfl (by kernel_rfl) (y_field rfl) rfl (fun _ _ _ h => h) (fun _ h => h) ?_
              all_goals refine tx_q 3 rfl (by kernel_rfl) (y_load1 rfl (by repeat constructor) (by rfl)) rfl (fun _ _ _ h => h) (fun _ h => h) ?_
              all_goals (refine tx_q 4 rfl (by kernel_rfl) (y_loadW rfl (by repeat constructor) (by rfl)) rfl (fun _ _ _ h => h) (fun _ h => h) ?_)
              all_goals (refine tx_q 5 rfl (by kernel_rfl) (y_loadW rfl (by repeat constructor) (by rfl)) rfl (fun _ _ _ h => h) (fun _ h => h) ?_)
              all_goals refine tx_e 6 rfl (by kernel_rfl) rfl (e_mapUpdate_new hh hc0 rfl rfl rfl (by repeat constructor)) (.inl (by kernel_rfl)) (fun _ _ => ?_)
              all_goals refine tx_done (by kernel_rfl) ?_
              all_goals (refine hK18 ?_; try (clear hK18; clear K18))
              all_goals refine tc_seq fun K19 hK19 => ?_
              all_goals refine tc_region ?_
              all_goals (refine tl_q (y_loadW rfl (by repeat constructor) (by rfl)) rfl ?_)
              all_goals refine tl_e (e_storeW rfl rfl (by repeat constructor) (by rfl) (by rfl) (by simp [Value.oneCell'])) rfl (fun _ _ => ?_)
              all_goals refine tl_nil ?_
              all_goals (refine hK19 ?_; try (clear hK19; clear K19))
              all_goals refine tc_ret ?_
              all_goals (repeat (first | refine tk_then_ret ?_))
              all_goals first | refine tk_ret rfl rfl (.cons (.agg inferInstance rfl (by repeat constructor) (by rfl)) .nil) ?_ | refine tk_retM rfl (by repeat constructor) rfl (.cons (.agg inferInstance rfl (by repeat constructor) (by rfl)) .nil) ?_
              all_goals (
               refine fun w' hw' => ?_
               have hb2 := hw'.heap (bw, wkO s sl bm) (HM.mem (by repeat constructor))
               have hb1 := hw'.heap _ (HM.mem (b := bm) (by repeat constructor))
               first
               | exact ⟨(es, ck), rfl, Fr.but (hw'.fr (S := [bw, bm]) (by simp)) (by rw [hb2, hbw]), hc0, hb1⟩
               | (have hm : meanF s k seen = meetF (1, 2000) (1, fromF (massF s k) (s.volume + s.divisions * s.step) - 1) := by unfold meanF; rw [if_pos (by omega)]
                  exact ⟨(es.push { key := kv k seen, val := rV (meanF s k seen), born := ck }, ck + 1), by rw [hm]; rfl, Fr.but (hw'.fr (S := [bw, bm]) (by simp)) (by rw [hb2, hbw]), Cache.push hc0 k seen ck, by rw [hm]; exact hb1⟩)
               | (have hm : meanF s k seen = meetF (1, 2000) (belowF (massF s k) s.volume + 1, 2000) := by unfold meanF; rw [if_neg (by omega), if_pos (by omega)]
                  exact ⟨(es.push { key := kv k seen, val := rV (meanF s k seen), born := ck }, ck + 1), by rw [hm]; rfl, Fr.but (hw'.fr (S := [bw, bm]) (by simp)) (by rw [hb2, hbw]), Cache.push hc0 k seen ck, by rw [hm]; exact hb1⟩)
               | (have hm : meanF s k seen = meetF (meetF (floF s k) (fromF (massF s k) (s.volume + seen * s.step + s.width), 2000)) (1, belowF (massF s k) (s.volume + seen * s.step - s.width)) := by unfold meanF; rw [if_neg (by omega), if_neg (by omega), if_pos (by omega)]
                  exact ⟨(es.push { key := kv k seen, val := rV (meanF s k seen), born := ck }, ck + 1), by rw [hm]; rfl, Fr.but (hw'.fr (S := [bw, bm]) (by simp)) (by rw [hb2, hbw]), Cache.push hc0 k seen ck, by rw [hm]; exact hb1⟩)
               | (have hm : meanF s k seen = meetF (floF s k) (fromF (massF s k) (s.volume + seen * s.step + s.width), 2000) := by unfold meanF; rw [if_neg (by omega), if_neg (by omega), if_neg (by omega)]
                  exact ⟨(es.push { key := kv k seen, val := rV (meanF s k seen), born := ck }, ck + 1), by rw [hm]; rfl, Fr.but (hw'.fr (S := [bw, bm]) (by simp)) (by rw [hb2, hbw]), Cache.push hc0 k seen ck, by rw [hm]; exact hb1⟩))
            · try simp only [decide_eq_true_eq, decide_eq_false_iff_not, Int.not_lt, Int.not_le, Bool.not_eq_true', Bool.not_eq_false', Decidable.not_not, not_true_eq_false] at hc
              all_goals first | (exfalso; with_reducible exact bft hc) | (exfalso; with_reducible exact btf hc) | (exfalso; omega) | skip
              all_goals refine tc_skip ?_
              all_goals (refine hK7 ?_; try (clear hK7; clear K7))
              all_goals refine tc_seq fun K20 hK20 => ?_
              all_goals refine tc_draw (by kernel_rfl) ?_
              all_goals refine tx_p 0 rfl (by kernel_rfl) (y_move rfl) rfl (fun _ _ _ h => h) (fun _ h => h) ?_
              all_goals refine tx_p 1 rfl (by kernel_rfl) (y_nil rfl) rfl (fun _ _ _ h => h) (fun _ h => h) ?_
              all_goals refine tx_p 2 rfl (by kernel_rfl) (y_field rfl) rfl (fun _ _ _ h => h) (fun _ h => h) ?_
              all_goals refine tx_q 3 rfl (by kernel_rfl) (y_load1 rfl (by repeat constructor) (by rfl)) rfl (fun _ _ _ h => h) (fun _ h => h) ?_
              all_goals (refine tx_q 4 rfl (by kernel_rfl) (y_loadW rfl (by repeat constructor) (by rfl)) rfl (fun _ _ _ h => h) (fun _ h => h) ?_)
              all_goals (refine tx_q 5 rfl (by kernel_rfl) (y_loadW rfl (by repeat constructor) (by rfl)) rfl (fun _ _ _ h => h) (fun _ h => h) ?_)
              all_goals refine tx_e 6 rfl (by kernel_rfl) rfl (e_mapUpdate_new hh hc0 rfl rfl rfl (by repeat constructor)) (.inl (by kernel_rfl)) (fun _ _ => ?_)
              all_goals refine tx_done (by kernel_rfl) ?_
              all_goals (refine hK20 ?_; try (clear hK20; clear K20))
              all_goals refine tc_seq fun K21 hK21 => ?_
              all_goals refine tc_region ?_
              all_goals (refine tl_q (y_loadW rfl (by repeat constructor) (by rfl)) rfl ?_)
              all_goals refine tl_e (e_storeW rfl rfl (by repeat constructor) (by rfl) (by rfl) (by simp [Value.oneCell'])) rfl (fun _ _ => ?_)
              all_goals refine tl_nil ?_
              all_goals (refine hK21 ?_; try (clear hK21; clear K21))
              all_goals refine tc_ret ?_
              all_goals (repeat (first | refine tk_then_ret ?_))
              all_goals first | refine tk_ret rfl rfl (.cons (.agg inferInstance rfl (by repeat constructor) (by rfl)) .nil) ?_ | refine tk_retM rfl (by repeat constructor) rfl (.cons (.agg inferInstance rfl (by repeat constructor) (by rfl)) .nil) ?_
              all_goals (
               refine fun w' hw' => ?_
               have hb2 := hw'.heap (bw, wkO s sl bm) (HM.mem (by repeat constructor))
               have hb1 := hw'.heap _ (HM.mem (b := bm) (by repeat constructor))
               first
               | exact ⟨(es, ck), rfl, Fr.but (hw'.fr (S := [bw, bm]) (by simp)) (by rw [hb2, hbw]), hc0, hb1⟩
               | (have hm : meanF s k seen = meetF (1, 2000) (1, fromF (massF s k) (s.volume + s.divisions * s.step) - 1) := by unfold meanF; rw [if_pos (by omega)]
                  exact ⟨(es.push { key := kv k seen, val := rV (meanF s k seen), born := ck }, ck + 1), by rw [hm]; rfl, Fr.but (hw'.fr (S := [bw, bm]) (by simp)) (by rw [hb2, hbw]), Cache.push hc0 k seen ck, by rw [hm]; exact hb1⟩)
               | (have hm : meanF s k seen = meetF (1, 2000) (belowF (massF s k) s.volume + 1, 2000) := by unfold meanF; rw [if_neg (by omega), if_pos (by omega)]
                  exact ⟨(es.push { key := kv k seen, val := rV (meanF s k seen), born := ck }, ck + 1), by rw [hm]; rfl, Fr.but (hw'.fr (S := [bw, bm]) (by simp)) (by rw [hb2, hbw]), Cache.push hc0 k seen ck, by rw [hm]; exact hb1⟩)
               | (have hm : meanF s k seen = meetF (meetF (floF s k) (fromF (massF s k) (s.volume + seen * s.step + s.width), 2000)) (1, belowF (massF s k) (s.volume + seen * s.step - s.width)) := by unfold meanF; rw [if_neg (by omega), if_neg (by omega), if_pos (by omega)]
                  exact ⟨(es.push { key := kv k seen, val := rV (meanF s k seen), born := ck }, ck + 1), by rw [hm]; rfl, Fr.but (hw'.fr (S := [bw, bm]) (by simp)) (by rw [hb2, hbw]), Cache.push hc0 k seen ck, by rw [hm]; exact hb1⟩)
               | (have hm : meanF s k seen = meetF (floF s k) (fromF (massF s k) (s.volume + seen * s.step + s.width), 2000) := by unfold meanF; rw [if_neg (by omega), if_neg (by omega), if_neg (by omega)]
                  exact ⟨(es.push { key := kv k seen, val := rV (meanF s k seen), born := ck }, ck + 1), by rw [hm]; rfl, Fr.but (hw'.fr (S := [bw, bm]) (by simp)) (by rw [hb2, hbw]), Cache.push hc0 k seen ck, by rw [hm]; exact hb1⟩))))))
end Go.Sp
