/-
  Package trial: a range over the densities of a liquid.
-/
import Derived.Test.YtaoohjefbfmhnaaXj
set_option linter.unusedVariables false
set_option linter.unusedSimpArgs false
set_option linter.deprecated false
namespace Go.Sp
open Go Go.Proofs
def JMt (t : Tr) (o : Obj) : Prop := ∃ es ck, o = .map es ck ∧ Cache (readV t.s) es.toList
theorem dense_seq (t : Tr) (hv : VT t) (e : Int × Int × Int) (he : ErB e) (i : Nat) (hi : i < t.liquids.length) (out : List Int) (ho : (out.length : Int) ≤ 9000000000000000000) (ov sl pl ll tl : Value) (w : World) (bw bm b1 b2 b3 b4 : Nat) (S0 : List Nat)
    (h1 : w.heap[b1]? = some (.cells #[ptr bw] 70 (0, 0))) (h2 : w.heap[b2]? = some (.cells #[vi i] 3 (0, 0))) (h3 : w.heap[b3]? = some (.cells #[ov] 22 (0, 0))) (h4 : w.heap[b4]? = some (.cells (tsV e).cells 75 (0, 0)))
    (hb1 : b1 ∉ S0) (hb2 : b2 ∉ S0) (hb3 : b3 ∉ S0) (hb4 : b4 ∉ S0) (hbw : w.heap[bw]? = some (wkT t sl pl ll tl bm)) (hbwS : bw ∉ S0) (hmS : bm ∈ S0)
    (o1 : sl.oneCell' = true) (o2 : pl.oneCell' = true) (o3 : ll.oneCell' = true) (o4 : tl.oneCell' = true)
    (hrd : ∀ w', Fr S0 w w' → RdTr w' t sl pl ll tl ∧ RdI w' ov out) :
    SeqP Try.prog 41 #[ptr b1, ptr b2, ptr b3, ptr b4] (fun d : Int => [vi d]) (denseL t e i out) bm (JMt t) S0 w := by
  intro σ l S Hx I J s0 w1 ob f0 hbS hS hbo hJb hbx hK0 h0 hY
  obtain ⟨es0, ck0, rfl, hc0⟩ := hJb
  have hlq := hv.lqb hi
  have hl3 := hv.l3
  have ht6 := hv.t6
  have hlt : ∀ b, w.heap[b]? ≠ none → b < w.heap.size := fun b h => by
    rcases Nat.lt_or_ge b w.heap.size with g | g
    · exact g
    · exact absurd (Array.getElem?_eq_none g) h
  have hnS : ∀ b, b ∉ S0 → w.heap[b]? ≠ none → b ∉ S := fun b hb h hm => (hS b hm).elim hb (fun g => by have := hlt b h; omega)
  have n1 := hnS b1 hb1 (by rw [h1]; simp)
  have n2 := hnS b2 hb2 (by rw [h2]; simp)
  have n3 := hnS b3 hb3 (by rw [h3]; simp)
  have n4 := hnS b4 hb4 (by rw [h4]; simp)
  have nw := hnS bw hbwS (by rw [hbw]; simp)
  have g1 := f0.keep h1
  have g2 := f0.keep h2
  have g3 := f0.keep h3
  have g4 := f0.keep h4
  have gw := f0.keep hbw
  have hrd1 : ∀ w', Fr S w1 w' → RdTr w' t sl pl ll tl ∧ RdI w' ov out := fun w' f => hrd w' (f0.mono (fun x hx => by simp at hx) |>.trans f (fun x hx => hS x hx))
  have hTW : ∀ (w' : World) (es : Array MapEntry) (ck : Nat), Fr S w1 w' → w'.heap[bm]? = some (.map es ck) → Cache (readV t.s) es.toList → TW w' t sl pl ll tl bw bm es ck := fun w' es ck f hm hc =>
    ⟨(hrd1 w' f).1, f.keepS nw gw, hm, hc, o1, o2, o3, o4⟩
  obtain ⟨ad1, cp1, bl, ol, rfl, hadl, _⟩ := (hrd1 w1 (Fr.refl _ _)).1.ls.open
  obtain ⟨ad2, cp2, bt, ot, rfl, hadt, _⟩ := (hrd1 w1 (Fr.refl _ _)).1.ts.open
  cases hadl (by omega)
  have hwk : ∀ w', Fr S w1 w' → w'.cell? ⟨bw, 8, none⟩ = some (.slice (some ⟨bl, ol, none⟩) t.liquids.length cp1) ∧ w'.cell? ⟨bw, 9, none⟩ = some (.slice ad2 t.tests.length cp2) := fun w' f => ⟨cell0 (f.keepS nw gw) rfl, cell0 (f.keepS nw gw) rfl⟩
  rw [show (#[.func (.yield l) #[] #[]] ++ #[ptr b1, ptr b2, ptr b3, ptr b4] : Array Value) = #[.func (.yield l) #[] #[], ptr b1, ptr b2, ptr b3, ptr b4] from by simp]
  refine cnxS (vs := [_, _, _, _, _]) (S := S) (Hx s0 ++ [(bm, .map es0 ck0)]) Try.func41 rfl rfl ⟨fun p hp => ?_, ?_, fun p hp => ?_⟩ ?_
  · rcases List.mem_append.1 hp with hp | hp
    · exact hK0.kn p hp
    · obtain rfl := List.mem_singleton.1 hp; exact hbo
  · rw [List.map_append, List.nodup_append]
    refine ⟨hK0.nd, by simp, fun a ha b hb e => ?_⟩
    simp only [List.map_cons, List.map_nil, List.mem_singleton] at hb
    subst hb; subst e
    exact hbx s0 (.inl ⟨0, h0⟩) ha
  · rcases List.mem_append.1 hp with hp | hp
    · exact hK0.mem p hp
    · obtain rfl := List.mem_singleton.1 hp; exact hbS
  all_goals refine tc_seq fun K1 hK1 => ?_
  all_goals refine tc_draw (by kernel_rfl) ?_
  all_goals (refine tx_q 0 rfl (by kernel_rfl) (y_load1o (v := ptr bw) rfl (fun w' hw' => cell0 ((hw'.fr (w0 := w1) (S := S) (MI.m (by repeat constructor))).keepS n1 g1) rfl)) rfl (fun _ _ _ h => h) (fun _ h => h) ?_)
  all_goals refine tx_p 1 rfl (by kernel_rfl) (y_nil rfl) rfl (fun _ _ _ h => h) (fun _ h => h) ?_
  all_goals refine tx_p 2 rfl (by kernel_rfl) (y_field rfl) rfl (fun _ _ _ h => h) (fun _ h => h) ?_
  all_goals refine tx_p 3 rfl (by kernel_rfl) (y_field rfl) rfl (fun _ _ _ h => h) (fun _ h => h) ?_
  all_goals (refine tx_q 4 rfl (by kernel_rfl) (y_load1o (v := .slice (some ⟨bl, ol, none⟩) t.liquids.length cp1) rfl (fun w' hw' => (hwk w' (hw'.fr (w0 := w1) (S := S) (MI.m (by repeat constructor)))).1)) rfl (fun _ _ _ h => h) (fun _ h => h) ?_)
  all_goals (refine tx_q 5 rfl (by kernel_rfl) (y_load1o (v := vi i) rfl (fun w' hw' => cell0 ((hw'.fr (w0 := w1) (S := S) (MI.m (by repeat constructor))).keepS n2 g2) rfl)) rfl (fun _ _ _ h => h) (fun _ h => h) ?_)
  all_goals (refine tx_p 6 rfl (by kernel_rfl) (y_index rfl rfl (by omega) rfl) rfl (fun _ _ _ h => h) (fun _ h => h) ?_)
  all_goals refine tx_p 7 rfl (by kernel_rfl) (y_field rfl) rfl (fun _ _ _ h => h) (fun _ h => h) ?_
  all_goals (refine tx_q 8 rfl (by kernel_rfl) (y_load1o (v := vi (lqAt t i).1) rfl (fun w' hw' => by rw [show Int.toNat (i : Int) * 2 = i * 2 from by omega]; exact ((hrd1 w' (hw'.fr (w0 := w1) (S := S) (MI.m (by repeat constructor)))).1.ls.at hi).1)) rfl (fun _ _ _ h => h) (fun _ h => h) ?_)
  all_goals refine tx_p 9 rfl (by kernel_rfl) (y_assign rfl) rfl (fun _ _ _ h => h) (fun _ h => h) ?_
  all_goals refine tx_done (by kernel_rfl) ?_
  all_goals (refine hK1 ?_; try (clear hK1; clear K1))
  all_goals refine tc_block ?_
  all_goals (
   refine tc_loop (fun p : Nat × σ × Array MapEntry × Nat => p.1 ≤ lqC t i ∧ I (denseN t e i out p.1).length p.2.1 ∧ Cache (readV t.s) p.2.2.1.toList) (fun p => [(0, .func (.yield l) #[] #[]), (1, ptr b1), (2, ptr b2), (3, ptr b3), (4, ptr b4), (6, vi ((lqAt t i).1 + p.1))]) (fun _ => [(w1, S)]) (fun p => Hx p.2.1 ++ [(bm, .map p.2.2.1 p.2.2.2)]) (fun p => lqC t i - p.1) ?_ ?_
   · refine tk_start (0, s0, es0, ck0) ⟨Nat.zero_le _, h0, hc0⟩ (.cons rfl (.cons rfl (.cons rfl (.cons rfl (.cons rfl (.cons ?_ .nil)))))) (fun _ h => h)
     show some (vi (lqAt t i).1) = some (vi ((lqAt t i).1 + ((0 : Nat) : Int))); congr 2; omega
   · rintro ⟨m, st, es, ck⟩ ⟨hm, hI, hca⟩
     have hlc : (lqC t i : Int) = (lqAt t i).2 - (lqAt t i).1 + 1 := by unfold lqC; omega
     dsimp only at hm hI hca ⊢
     all_goals refine tc_seq fun K2 hK2 => ?_
     all_goals refine tc_seq fun K3 hK3 => ?_
     all_goals refine tc_draw (by kernel_rfl) ?_
     all_goals refine tx_p 0 rfl (by kernel_rfl) (y_move rfl) rfl (fun _ _ _ h => h) (fun _ h => h) ?_
     all_goals (refine tx_q 1 rfl (by kernel_rfl) (y_load1o (v := ptr bw) rfl (fun w' hw' => cell0 ((hw'.fr (w0 := w1) (S := S) (MI.m (by repeat constructor))).keepS n1 g1) rfl)) rfl (fun _ _ _ h => h) (fun _ h => h) ?_)
     all_goals refine tx_p 2 rfl (by kernel_rfl) (y_nil rfl) rfl (fun _ _ _ h => h) (fun _ h => h) ?_
     all_goals refine tx_p 3 rfl (by kernel_rfl) (y_field rfl) rfl (fun _ _ _ h => h) (fun _ h => h) ?_
     all_goals refine tx_p 4 rfl (by kernel_rfl) (y_field rfl) rfl (fun _ _ _ h => h) (fun _ h => h) ?_
     all_goals (refine tx_q 5 rfl (by kernel_rfl) (y_load1o (v := .slice (some ⟨bl, ol, none⟩) t.liquids.length cp1) rfl (fun w' hw' => (hwk w' (hw'.fr (w0 := w1) (S := S) (MI.m (by repeat constructor)))).1)) rfl (fun _ _ _ h => h) (fun _ h => h) ?_)
     all_goals (refine tx_q 6 rfl (by kernel_rfl) (y_load1o (v := vi i) rfl (fun w' hw' => cell0 ((hw'.fr (w0 := w1) (S := S) (MI.m (by repeat constructor))).keepS n2 g2) rfl)) rfl (fun _ _ _ h => h) (fun _ h => h) ?_)
     all_goals (refine tx_p 7 rfl (by kernel_rfl) (y_index rfl rfl (by omega) rfl) rfl (fun _ _ _ h => h) (fun _ h => h) ?_)
     all_goals refine tx_p 8 rfl (by kernel_rfl) (y_field rfl) rfl (fun _ _ _ h => h) (fun _ h => h) ?_
     all_goals (refine tx_q 9 rfl (by kernel_rfl) (y_load1o (v := vi (lqAt t i).2) rfl (fun w' hw' => by rw [show Int.toNat (i : Int) * 2 = i * 2 from by omega]; exact ((hrd1 w' (hw'.fr (w0 := w1) (S := S) (MI.m (by repeat constructor)))).1.ls.at hi).2)) rfl (fun _ _ _ h => h) (fun _ h => h) ?_)
     all_goals refine tx_p 10 rfl (by kernel_rfl) (y_leq rfl rfl) rfl (fun _ _ _ h => h) (fun _ h => h) ?_
     all_goals refine tx_done (by kernel_rfl) ?_
     all_goals (refine hK3 ?_; try (clear hK3; clear K3))
     all_goals (
      refine tc_cond rfl (fun hc => ?_) (fun hc => ?_)
      · try simp only [decide_eq_true_eq, decide_eq_false_iff_not, Int.not_lt, Int.not_le, Bool.not_eq_true', Bool.not_eq_false', Decidable.not_not, not_true_eq_false] at hc
        all_goals first | (exfalso; with_reducible exact bft hc) | (exfalso; with_reducible exact btf hc) | (exfalso; omega) | skip
        all_goals refine tc_skip ?_
        all_goals (refine hK2 ?_; try (clear hK2; clear K2))
        all_goals refine tc_seq fun K4 hK4 => ?_
        all_goals refine tc_block ?_
        all_goals refine tc_seq fun K5 hK5 => ?_
        all_goals refine tc_region ?_
        all_goals refine tl_q (y_assign rfl) rfl ?_
        all_goals refine tl_nil ?_
        all_goals (refine hK5 ?_; try (clear hK5; clear K5))
        all_goals refine tc_seq fun K6 hK6 => ?_
        all_goals refine tc_seq fun K7 hK7 => ?_
        all_goals refine tc_region ?_
        all_goals (refine tl_q (y_load1o (v := ptr bw) rfl (fun w' hw' => cell0 ((hw'.fr (w0 := w1) (S := S) (MI.m (by repeat constructor))).keepS n1 g1) rfl)) rfl ?_)
        all_goals refine tl_q (y_nil rfl) rfl ?_
        all_goals refine tl_q (y_field rfl) rfl ?_
        all_goals refine tl_q (y_field rfl) rfl ?_
        all_goals (refine tl_q (y_load1o (v := .slice ad2 t.tests.length cp2) rfl (fun w' hw' => (hwk w' (hw'.fr (w0 := w1) (S := S) (MI.m (by repeat constructor)))).2)) rfl ?_)
        all_goals refine tl_q (y_len rfl) rfl ?_
        all_goals refine tl_q (y_move rfl) rfl ?_
        all_goals refine tl_nil ?_
        all_goals (refine hK7 ?_; try (clear hK7; clear K7))
        all_goals refine tc_block ?_
        all_goals (
         refine tc_loop (fun q : Nat × Array MapEntry × Nat => q.1 ≤ t.tests.length ∧ Cache (readV t.s) q.2.1.toList) (fun q => [(0, .func (.yield l) #[] #[]), (1, ptr b1), (2, ptr b2), (3, ptr b3), (4, ptr b4), (6, vi ((lqAt t i).1 + m)), (7, .bool (passN t e i out ((lqAt t i).1 + m) q.1)), (36, .slice ad2 t.tests.length cp2), (37, vi t.tests.length), (38, vi q.1)]) (fun _ => [(w1, S)]) (fun q => Hx st ++ [(bm, .map q.2.1 q.2.2)]) (fun q => t.tests.length - q.1) ?_ ?_
         · exact tk_start (0, es, ck) ⟨Nat.zero_le _, hca⟩ (.cons rfl (.cons rfl (.cons rfl (.cons rfl (.cons rfl (.cons rfl (.cons rfl (.cons rfl (.cons rfl (.cons rfl .nil)))))))))) (fun _ h => h)
         · rintro ⟨j, es2, ck2⟩ ⟨hj, hca2⟩
           dsimp only at hj hca2 ⊢
           all_goals refine tc_seq fun K8 hK8 => ?_
           all_goals refine tc_region ?_
           all_goals refine tl_q (y_lss rfl rfl) rfl ?_
           all_goals refine tl_nil ?_
           all_goals (refine hK8 ?_; try (clear hK8; clear K8))
           all_goals refine tc_seq fun K9 hK9 => ?_
           all_goals (
            refine tc_cond rfl (fun hc => ?_) (fun hc => ?_)
            · try simp only [decide_eq_true_eq, decide_eq_false_iff_not, Int.not_lt, Int.not_le, Bool.not_eq_true', Bool.not_eq_false', Decidable.not_not, not_true_eq_false] at hc
              all_goals first | (exfalso; with_reducible exact bft hc) | (exfalso; with_reducible exact btf hc) | (exfalso; omega) | skip
              all_goals refine tc_skip ?_
              all_goals (refine hK9 ?_; try (clear hK9; clear K9))
              all_goals refine tc_seq fun K10 hK10 => ?_
              all_goals refine tc_block ?_
              all_goals refine tc_seq fun K11 hK11 => ?_
              all_goals (have had' := hadt (by omega); subst had')
              all_goals (have htj : tsB t (t.tests.getD j (0, 0, 0)) = true := List.all_eq_true.1 hv.ts _ (by rw [List.getD_eq_getElem?_getD, List.getElem?_eq_getElem (by omega)]; exact List.getElem_mem (by omega)))
              all_goals refine tc_region ?_
              all_goals refine tl_q (y_move rfl) rfl ?_
              all_goals (refine tl_q (y_index rfl rfl (by omega) rfl) rfl ?_)
              all_goals (refine tl_q (y_loadNo (n := 3) rfl (fun w' hw' => by rw [show Int.toNat (j : Int) * 3 = j * 3 from by omega]; exact (hrd1 w' (hw'.fr (w0 := w1) (S := S) (MI.m (by repeat constructor)))).1.ts.at (by omega))) rfl ?_)
              all_goals refine tl_e (e_allocN rfl) rfl (fun b9 _ => ?_)
              all_goals refine tl_q (y_assign rfl) rfl ?_
              all_goals refine tl_e (e_storeW rfl rfl (by repeat constructor) (by rfl) (by rfl) (by simp [Value.oneCell'])) rfl (fun _ _ => ?_)
              all_goals refine tl_nil ?_
              all_goals (refine hK11 ?_; try (clear hK11; clear K11))
              all_goals refine tc_region ?_
              all_goals refine tl_q (y_move rfl) rfl ?_
              all_goals refine tl_q (y_move rfl) rfl ?_
              all_goals (refine tl_gs rfl rfl (fun hc => ?_) (fun hc => ?_) <;> (try simp only [decide_eq_true_eq, decide_eq_false_iff_not, Int.not_lt, Int.not_le, Bool.not_eq_true', Bool.not_eq_false', Decidable.not_not, not_true_eq_false] at hc) <;> (first | refine tl_sk rfl rfl rfl rfl ?_ | refine tl_qg rfl rfl (y_field rfl) rfl ?_))
              all_goals (first | refine tl_sk rfl rfl rfl rfl ?_ | refine tl_qg rfl rfl (y_load1 rfl (by repeat constructor) (by rfl)) rfl ?_)
              all_goals (first | refine tl_sk rfl rfl rfl rfl ?_ | refine tl_qg rfl rfl (y_load1o (v := vi i) rfl (fun w' hw' => cell0 ((hw'.fr (w0 := w1) (S := S) (MI.m (by repeat constructor))).keepS n2 g2) rfl)) rfl ?_)
              all_goals (first | refine tl_sk rfl rfl rfl rfl ?_ | refine tl_qg rfl rfl (y_neq rfl rfl) rfl ?_)
              all_goals (first | refine tl_sk rfl rfl rfl rfl ?_ | refine tl_qg rfl rfl (y_move rfl) rfl ?_)
              all_goals (first | refine tl_su rfl rfl rfl ?_ | (refine tl_gs rfl rfl (fun hc => ?_) (fun hc => ?_) <;> (try simp only [decide_eq_true_eq, decide_eq_false_iff_not, Int.not_lt, Int.not_le, Bool.not_eq_true', Bool.not_eq_false', Decidable.not_not, not_true_eq_false] at hc) <;> (first | refine tl_sk rfl rfl rfl rfl ?_ | refine tl_qg rfl rfl (y_load1o (v := ov) rfl (fun w' hw' => cell0 ((hw'.fr (w0 := w1) (S := S) (MI.m (by repeat constructor))).keepS n3 g3) rfl)) rfl ?_)))
              all_goals (first | refine tl_sk rfl rfl rfl rfl ?_ | refine tl_qg rfl rfl (y_move rfl) rfl ?_ | refine tl_su rfl rfl rfl ?_)
              all_goals (first | refine tl_sk rfl rfl rfl rfl ?_ | refine tl_eg rfl rfl rfl (e_callV rfl (.cons rfl (.cons rfl .nil)) (fun w' hw' => contains_c out ho _ _ w' (hrd1 w' (hw'.fr (w0 := w1) (S := S) (MI.m (by repeat constructor)))).2)) (fun _ _ => ?_) | refine tl_su rfl rfl rfl ?_)
              all_goals (first | refine tl_sk rfl rfl rfl rfl ?_ | refine tl_qg rfl rfl (y_pick_t rfl rfl) rfl ?_ | refine tl_qg rfl rfl (y_pick_f rfl rfl) rfl ?_)
              all_goals (first | refine tl_sk rfl rfl rfl rfl ?_ | refine tl_qg rfl rfl (y_move rfl) rfl ?_)
              all_goals (first | refine tl_sk rfl rfl rfl rfl ?_ | refine tl_su rfl rfl rfl ?_ | (refine tl_gs rfl rfl (fun hc => ?_) (fun hc => ?_) <;> (try simp only [decide_eq_true_eq, decide_eq_false_iff_not, Int.not_lt, Int.not_le, Bool.not_eq_true', Bool.not_eq_false', Decidable.not_not, not_true_eq_false] at hc) <;> (first | refine tl_sk rfl rfl rfl rfl ?_ | refine tl_qg rfl rfl (y_load1o (v := ptr bw) rfl (fun w' hw' => cell0 ((hw'.fr (w0 := w1) (S := S) (MI.m (by repeat constructor))).keepS n1 g1) rfl)) rfl ?_)))
              all_goals (first | refine tl_sk rfl rfl rfl rfl ?_ | refine tl_qg rfl rfl (y_loadNo (n := 3) (vs := [vi e.1, vi e.2.1, vi e.2.2]) rfl (fun w' hw' => (CA_whole (c := (tsV e).cells) (t := 75) (f := (0, 0)) rfl).cells ((hw'.fr (w0 := w1) (S := S) (MI.m (by repeat constructor))).keepS n4 g4))) rfl ?_ | refine tl_su rfl rfl rfl ?_)
              all_goals (first | refine tl_sk rfl rfl rfl rfl ?_ | refine tl_qg rfl rfl (y_loadW rfl (by repeat constructor) (by rfl)) rfl ?_ | refine tl_su rfl rfl rfl ?_)
              all_goals (first | refine tl_sk rfl rfl rfl rfl ?_ | refine tl_qg rfl rfl (y_move rfl) rfl ?_ | refine tl_su rfl rfl rfl ?_)
              all_goals (first | refine tl_sk rfl rfl rfl rfl ?_ | refine tl_eg rfl rfl rfl (e_callU rfl (.cons rfl (.cons rfl (.cons rfl (.cons rfl .nil)))) (fun w' hw' => right_c t hv e he (t.tests.getD j (0, 0, 0)) htj ((lqAt t i).1 + m) _ _ _ _ w' bw bm es2 ck2 (hTW w' es2 ck2 (hw'.fr (w0 := w1) (S := S) (MI.m (by repeat constructor))) (hw'.heap _ (HM.mem (.tail (HM.app _)))) hca2)) (fun _ => .tail (HU.app _))) (fun z hz => ?_) | refine tl_su rfl rfl rfl ?_)
              all_goals (first | refine tl_sk rfl rfl rfl rfl ?_ | refine tl_qg rfl rfl (y_pick_t rfl rfl) rfl ?_ | refine tl_qg rfl rfl (y_pick_f rfl rfl) rfl ?_)
              all_goals (first | refine tl_q (y_pick_t rfl rfl) rfl ?_ | refine tl_q (y_pick_f rfl rfl) rfl ?_)
              all_goals refine tl_q (y_assign rfl) rfl ?_
              all_goals refine tl_nil ?_
              all_goals (refine hK10 ?_; try (clear hK10; clear K10))
              all_goals refine tc_region ?_
              all_goals refine tl_q (y_add rfl rfl (by omega)) rfl ?_
              all_goals refine tl_q (y_move rfl) rfl ?_
              all_goals refine tl_nil ?_
              all_goals (
               first
               | (refine tk_round (j + 1, z.1, z.2) ⟨by dsimp only; omega, hz⟩ (by dsimp only; omega) (.cons rfl (.cons rfl (.cons rfl (.cons rfl (.cons rfl (.cons rfl (.cons ?_ (.cons rfl (.cons rfl (.cons rfl .nil)))))))))) (fun _ h => h.subl (SB.s (by repeat constructor)) (SB.s (by repeat constructor)))
                  show some (Value.bool _) = some (Value.bool _); congr 2; rw [passN_succ]; unfold passF; simp_all)
               | (refine tk_round (j + 1, es2, ck2) ⟨by dsimp only; omega, hca2⟩ (by dsimp only; omega) (.cons rfl (.cons rfl (.cons rfl (.cons rfl (.cons rfl (.cons rfl (.cons ?_ (.cons rfl (.cons rfl (.cons rfl .nil)))))))))) (fun _ h => h.subl (SB.s (by repeat constructor)) (SB.s (by repeat constructor)))
                  show some (Value.bool _) = some (Value.bool _); congr 2; rw [passN_succ]; unfold passF; simp_all))
            · try simp only [decide_eq_true_eq, decide_eq_false_iff_not, Int.not_lt, Int.not_le, Bool.not_eq_true', Bool.not_eq_false', Decidable.not_not, not_true_eq_false] at hc
              all_goals first | (exfalso; with_reducible exact bft hc) | (exfalso; with_reducible exact btf hc) | (exfalso; omega) | skip
              all_goals refine tc_exit ?_
              all_goals (refine hK6 ?_; try (clear hK6; clear K6))
              all_goals refine tc_seq fun K12 hK12 => ?_
              all_goals (have hjt : j = t.tests.length := by omega)
              all_goals subst hjt
              all_goals refine tc_region ?_
              all_goals refine tl_q (y_move rfl) rfl ?_
              all_goals refine tl_q (y_move rfl) rfl ?_
              all_goals (refine tl_gs rfl rfl (fun hc => ?_) (fun hc => ?_) <;> (try simp only [decide_eq_true_eq, decide_eq_false_iff_not, Int.not_lt, Int.not_le, Bool.not_eq_true', Bool.not_eq_false', Decidable.not_not, not_true_eq_false] at hc) <;> (first | refine tl_sk rfl rfl rfl rfl ?_ | refine tl_qg rfl rfl (y_move rfl) rfl ?_))
              all_goals (first | refine tl_sk rfl rfl rfl rfl ?_ | refine tl_qg rfl rfl (y_move rfl) rfl ?_)
              all_goals (first | refine tl_sk rfl rfl rfl rfl ?_ | refine tl_rg rfl rfl (e_yield [(bm, .map es2 ck2)] (denseN t e i out m).length st ((lqAt t i).1 + m) rfl rfl rfl (.cons rfl .nil) rfl (denseN_get (by omega) (by assumption)) hI hY (by simp) rfl) (fun q hq => ?_))
              all_goals (first | refine tl_sk rfl rfl rfl rfl ?_ | refine tl_qg rfl rfl (y_not rfl) rfl ?_)
              all_goals (first | refine tl_q (y_pick_t rfl rfl) rfl ?_ | refine tl_q (y_pick_f rfl rfl) rfl ?_)
              all_goals refine tl_nil ?_
              all_goals (refine hK12 ?_; try (clear hK12; clear K12))
              all_goals (
               refine tc_cond rfl (fun hc => ?_) (fun hc => ?_)
               · try simp only [decide_eq_true_eq, decide_eq_false_iff_not, Int.not_lt, Int.not_le, Bool.not_eq_true', Bool.not_eq_false', Decidable.not_not, not_true_eq_false] at hc
                 all_goals first | (exfalso; with_reducible exact bft hc) | (exfalso; with_reducible exact btf hc) | (exfalso; omega) | skip
                 all_goals refine tc_ret ?_
                 all_goals (repeat (first | refine tk_then_ret ?_ | refine tk_block_ret ?_))
                 all_goals first | refine tk_ret rfl rfl .nil ?_ | refine tk_retM rfl (by repeat constructor) rfl .nil ?_
                 all_goals (
                  first
                  | (rcases hq with hq | hq
                     · rw [hq.1] at hc; cases hc
                     · exact fun w' hw' => ⟨(q.2, .map es2 ck2), rfl, hw'.fr (by simp), (hw'.sub (bs' := [(w1, S)]) (by simp) (List.sublist_append_left _ _)).knS (by simp), .inr hq.2, hw'.heap _ (HM.mem (HM.app _)), es2, ck2, rfl, hca2⟩)
                  | (have hml : m = lqC t i := by omega
                     subst hml
                     exact fun w' hw' => ⟨(st, .map es ck), rfl, hw'.fr (by simp), (hw'.sub (bs' := [(w1, S)]) (by simp) (List.sublist_append_left _ _)).knS (by simp), .inl hI, hw'.heap _ (HM.mem (HM.app _)), es, ck, rfl, hca⟩))
               · try simp only [decide_eq_true_eq, decide_eq_false_iff_not, Int.not_lt, Int.not_le, Bool.not_eq_true', Bool.not_eq_false', Decidable.not_not, not_true_eq_false] at hc
                 all_goals first | (exfalso; with_reducible exact bft hc) | (exfalso; with_reducible exact btf hc) | (exfalso; omega) | skip
                 all_goals refine tc_skip ?_
                 all_goals (refine hK4 ?_; try (clear hK4; clear K4))
                 all_goals refine tc_region ?_
                 all_goals refine tl_q (y_move rfl) rfl ?_
                 all_goals refine tl_q (y_add rfl rfl (by omega)) rfl ?_
                 all_goals refine tl_q (y_assign rfl) rfl ?_
                 all_goals refine tl_nil ?_
                 all_goals (
                  first
                  | (have hs2 : denseN t e i out (m + 1) = denseN t e i out m ++ [(lqAt t i).1 + m] := by rw [denseN_succ, if_pos (by assumption)]
                     rcases hq with hq | hq
                     · refine tk_round (m + 1, q.2, es2, ck2) ⟨by dsimp only; omega, by dsimp only; rw [hs2, List.length_append]; exact hq.2, hca2⟩ (by dsimp only; omega) (.cons rfl (.cons rfl (.cons rfl (.cons rfl (.cons rfl (.cons ?_ .nil)))))) (fun _ h => h)
                       show some (vi _) = some (vi _); congr 2; dsimp only; omega
                     · rw [hq.1] at hc; cases hc)
                  | (have hs2 : denseN t e i out (m + 1) = denseN t e i out m := by rw [denseN_succ, if_neg (by simp_all)]
                     refine tk_round (m + 1, st, es2, ck2) ⟨by dsimp only; omega, by dsimp only; rw [hs2]; exact hI, hca2⟩ (by dsimp only; omega) (.cons rfl (.cons rfl (.cons rfl (.cons rfl (.cons rfl (.cons ?_ .nil)))))) (fun _ h => h)
                     show some (vi _) = some (vi _); congr 2; dsimp only; omega)))))
      · try simp only [decide_eq_true_eq, decide_eq_false_iff_not, Int.not_lt, Int.not_le, Bool.not_eq_true', Bool.not_eq_false', Decidable.not_not, not_true_eq_false] at hc
        all_goals first | (exfalso; with_reducible exact bft hc) | (exfalso; with_reducible exact btf hc) | (exfalso; omega) | skip
        all_goals refine tc_exit ?_
        all_goals first | refine tk_end rfl rfl .nil ?_ | refine tk_endM rfl (by repeat constructor) rfl .nil ?_
        all_goals (
         first
         | (rcases hq with hq | hq
            · rw [hq.1] at hc; cases hc
            · exact fun w' hw' => ⟨(q.2, .map es2 ck2), rfl, hw'.fr (by simp), (hw'.sub (bs' := [(w1, S)]) (by simp) (List.sublist_append_left _ _)).knS (by simp), .inr hq.2, hw'.heap _ (HM.mem (HM.app _)), es2, ck2, rfl, hca2⟩)
         | (have hml : m = lqC t i := by omega
            subst hml
            exact fun w' hw' => ⟨(st, .map es ck), rfl, hw'.fr (by simp), (hw'.sub (bs' := [(w1, S)]) (by simp) (List.sublist_append_left _ _)).knS (by simp), .inl hI, hw'.heap _ (HM.mem (HM.app _)), es, ck, rfl, hca⟩))))
end Go.Sp
