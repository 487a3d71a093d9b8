/-
  What the statements about trials are made of: a trial.
-/
import Derived.Test.YtaoohjefbfmhnaaXt
set_option linter.unusedVariables false
set_option linter.unusedSimpArgs false
set_option linter.deprecated false
namespace Go.Sp
open Go Go.Proofs
abbrev tr9O (t : Tr) (sl pl ll tl : Value) : Obj := .cells #[vi t.s.mass, vi t.s.volume, vi t.s.step, vi t.s.divisions, vi t.s.width, sl, pl, vi t.worst, ll, tl] 54 (0, 0)
abbrev zr9O : Obj := .cells #[vi 0, vi 0, vi 0, vi 0, vi 0, .slice none 0 0, .slice none 0 0, vi 0, .slice none 0 0, .slice none 0 0] 54 (0, 0)
def outOkT : Nat × Option (Nat × Nat × List Value) → Prop
  | (n, none) => n = 0
  | (n, some (_, cap, junk)) => n ≤ cap ∧ junk.length = (cap - n) * 3
theorem takeT_succ {l : List (Int × Int × Int)} {n : Nat} (h : n < l.length) : l.take (n + 1) = l.take n ++ [l.getD n (0, 0, 0)] := by
  rw [List.take_add_one, List.getElem?_eq_getElem h, List.getD_eq_getElem?_getD, List.getElem?_eq_getElem h]; rfl
theorem trial9_c (t : Tr) (hn1 : t.s.weights.length ≤ 1000) (hn2 : t.parts.length ≤ 1000) (hn3 : t.liquids.length ≤ 1000) (hn4 : t.tests.length ≤ 1000) (sl pl ll tl : Value) (w : World) (hr : RdTr w t sl pl ll tl) :
    CnX Try.prog 12 #[trV t sl pl ll tl] w [] (fun x : (Option Addr × Nat) × (Option Addr × Nat) × (Option Addr × Nat) × (Option Addr × Nat) => trV t (slV t.s.weights.length x.1) (slV t.parts.length x.2.1) (slV t.liquids.length x.2.2.1) (slV t.tests.length x.2.2.2))
      (fun x w' => RdTr w' t (slV t.s.weights.length x.1) (slV t.parts.length x.2.1) (slV t.liquids.length x.2.2.1) (slV t.tests.length x.2.2.2)) := by
  have hr0 := hr
  obtain ⟨ad1, cp1, c1, o1, rfl, had1, hcell1⟩ := hr.ls.open
  obtain ⟨ad2, cp2, c2, o2, rfl, had2, hcell2⟩ := hr.ts.open
  refine cnx0 (vs := [_]) Try.func12 rfl rfl ?_
  all_goals refine tc_seq fun K1 hK1 => ?_
  all_goals refine tc_region ?_
  all_goals refine tl_e (e_box rfl rfl rfl) rfl (fun b1 _ => ?_)
  all_goals refine tl_e (e_allocN rfl) rfl (fun b2 _ => ?_)
  all_goals refine tl_nil ?_
  all_goals (refine hK1 ?_; try (clear hK1; clear K1))
  all_goals (
   refine tc_join (fun z : (World × Nat) × (Option Addr × Nat) × (Option Addr × Nat) => (∀ w', Fr [z.1.2, b2] z.1.1 w' → RdI w' (slV t.s.weights.length z.2.1) t.s.weights) ∧ (∀ w', Fr [z.1.2, b2] z.1.1 w' → RdI w' (slV t.parts.length z.2.2) t.parts) ∧ z.1.1.heap[b1]? = some (.cells (trV t sl pl (.slice ad1 t.liquids.length cp1) (.slice ad2 t.tests.length cp2)).cells 35 (0, 0)) ∧ b1 ∉ [z.1.2, b2]) (fun z => [(1, ptr b1), (2, ptr b2), (3, ptr z.1.2)]) (fun z => [(z.1.1, [z.1.2, b2]), (w, [])]) (fun z => [(z.1.2, tr9O t (slV t.s.weights.length z.2.1) (slV t.parts.length z.2.2) (.slice none 0 0) (.slice none 0 0)), (b2, zr9O)]) ?_ ?_
   · skip
     all_goals refine tc_draw (by kernel_rfl) ?_
     all_goals refine tx_p 0 rfl (by kernel_rfl) (y_field rfl) rfl (fun _ _ _ h => h) (fun _ h => h.subl (SB.s (by repeat constructor)) (SB.s (by repeat constructor))) ?_
     all_goals (refine tx_qS 1 rfl (by kernel_rfl) (y_loadN rfl (by repeat constructor) (by (repeat (first | exact .nil | apply CA.cons rfl)); done)) rfl (fun _ _ _ h => h) (fun _ h => h.subl (SB.s (by repeat constructor)) (SB.s (by repeat constructor))) ?_)
     all_goals refine tx_p 3 rfl (by kernel_rfl) (y_field rfl) rfl (fun _ _ _ h => h) (fun _ h => h.subl (SB.s (by repeat constructor)) (SB.s (by repeat constructor))) ?_
     all_goals (refine tx_qS 4 rfl (by kernel_rfl) (y_load1 rfl (by repeat constructor) (by rfl)) rfl (fun _ _ _ h => h) (fun _ h => h.subl (SB.s (by repeat constructor)) (SB.s (by repeat constructor))) ?_)
     all_goals refine tx_p 6 rfl (by kernel_rfl) (y_field rfl) rfl (fun _ _ _ h => h) (fun _ h => h.subl (SB.s (by repeat constructor)) (SB.s (by repeat constructor))) ?_
     all_goals (refine tx_qS 7 rfl (by kernel_rfl) (y_load1 rfl (by repeat constructor) (by rfl)) rfl (fun _ _ _ h => h) (fun _ h => h.subl (SB.s (by repeat constructor)) (SB.s (by repeat constructor))) ?_)
     all_goals (
      refine tx_pair 2 9 (by kernel_rfl) ?_ ?_
      rotate_left
      focus (
       (refine to_e rfl rfl (e_allocN rfl) (.inr ⟨fun _ _ h => h.subl (SB.s (by repeat constructor)) (SB.s (by repeat constructor)), fun _ h => h⟩) (fun b3 _ => ?_))
       all_goals refine tx_single 2 (by kernel_rfl) (to_e rfl rfl (e_callX rfl (.cons rfl .nil) (fun w' hw' => (spindleN_c t.s hn1 _ w' (hr0.ws.fr (hw'.fr (by simp)))).sep hw')) (.inr ⟨fun _ _ h => h.subl (SB.s (by repeat constructor)) (SB.s (by repeat constructor)), fun _ h => h⟩) (fun y hy => ?_))
       all_goals refine tx_single 5 (by kernel_rfl) (to_e rfl rfl (e_callX rfl (.cons rfl .nil) (fun w' hw' => (list9_c t.parts hn2 _ w' (hr0.ps.fr (hw'.fr (w0 := w) (S := []) (MI.m (by repeat constructor))))).sep hw')) (.inr ⟨fun _ _ h => h.subl (SB.s (by repeat constructor)) (SB.s (by repeat constructor)), fun _ h => h⟩) (fun z hz => ?_))
       all_goals refine tx_p 8 rfl (by kernel_rfl) (y_build_g (by repeat constructor)) rfl (fun _ _ _ h => h) (fun _ h => h.subl (SB.s (by repeat constructor)) (SB.s (by repeat constructor))) ?_
       all_goals refine tx_single 10 (by kernel_rfl) (to_e (S' := HG [] []) rfl rfl (e_storeW rfl rfl (by repeat constructor) (by rfl) (by rfl) (by simp [Value.oneCell'])) (.inl (by kernel_rfl)) (fun _ _ => ?_))
       all_goals refine tx_done (by kernel_rfl) ?_)
      rotate_right
      focus (
       (refine to_e rfl rfl (e_callX rfl (.cons rfl .nil) (fun w' hw' => (spindleN_c t.s hn1 _ w' (hr0.ws.fr (hw'.fr (by simp)))).sep hw')) (.inr ⟨fun _ _ h => h.subl (SB.s (by repeat constructor)) (SB.s (by repeat constructor)), fun _ h => h⟩) (fun y hy => ?_))
       all_goals (
        refine tx_pair 5 9 (by kernel_rfl) ?_ ?_
        rotate_left
        focus (
         (refine to_e rfl rfl (e_allocN rfl) (.inr ⟨fun _ _ h => h.subl (SB.s (by repeat constructor)) (SB.s (by repeat constructor)), fun _ h => h⟩) (fun b3 _ => ?_))
         all_goals refine tx_single 5 (by kernel_rfl) (to_e rfl rfl (e_callX rfl (.cons rfl .nil) (fun w' hw' => (list9_c t.parts hn2 _ w' (hr0.ps.fr (hw'.fr (w0 := w) (S := []) (MI.m (by repeat constructor))))).sep hw')) (.inr ⟨fun _ _ h => h.subl (SB.s (by repeat constructor)) (SB.s (by repeat constructor)), fun _ h => h⟩) (fun z hz => ?_))
         all_goals refine tx_p 8 rfl (by kernel_rfl) (y_build_g (by repeat constructor)) rfl (fun _ _ _ h => h) (fun _ h => h.subl (SB.s (by repeat constructor)) (SB.s (by repeat constructor))) ?_
         all_goals refine tx_single 10 (by kernel_rfl) (to_e (S' := HG [] []) rfl rfl (e_storeW rfl rfl (by repeat constructor) (by rfl) (by rfl) (by simp [Value.oneCell'])) (.inl (by kernel_rfl)) (fun _ _ => ?_))
         all_goals refine tx_done (by kernel_rfl) ?_)
        rotate_right
        focus (
         (refine to_e rfl rfl (e_callX rfl (.cons rfl .nil) (fun w' hw' => (list9_c t.parts hn2 _ w' (hr0.ps.fr (hw'.fr (w0 := w) (S := []) (MI.m (by repeat constructor))))).sep hw')) (.inr ⟨fun _ _ h => h.subl (SB.s (by repeat constructor)) (SB.s (by repeat constructor)), fun _ h => h⟩) (fun z hz => ?_))
         all_goals refine tx_p 8 rfl (by kernel_rfl) (y_build_g (by repeat constructor)) rfl (fun _ _ _ h => h) (fun _ h => h.subl (SB.s (by repeat constructor)) (SB.s (by repeat constructor))) ?_
         all_goals refine tx_single 9 (by kernel_rfl) (to_e rfl rfl (e_allocN rfl) (.inr ⟨fun _ _ h => h.subl (SB.s (by repeat constructor)) (SB.s (by repeat constructor)), fun _ h => h⟩) (fun b3 _ => ?_))
         all_goals refine tx_single 10 (by kernel_rfl) (to_e (S' := HG [] []) rfl rfl (e_storeW rfl rfl (by repeat constructor) (by rfl) (by rfl) (by simp [Value.oneCell'])) (.inl (by kernel_rfl)) (fun _ _ => ?_))
         all_goals refine tx_done (by kernel_rfl) ?_))))
     all_goals (
      refine tk_lay [(b3, tr9O t (slV t.s.weights.length y.1) (slV t.parts.length z.1) (.slice none 0 0) (.slice none 0 0)), (b2, zr9O)] (SB.s (by repeat constructor)) (fun w1 h1 => ?_)
      refine tk_start ((w1, b3), y.1, z.1) ⟨?_, ?_, ?_, ?_⟩ (.cons rfl (.cons rfl (.cons rfl .nil))) (fun _ h => h.subl (SB.s (by repeat constructor)) (SB.s (by repeat constructor)))
      · refine fun w' f => hy.1.1.frS ((h1.fr (w0 := y.2) (MI.m (by repeat constructor))).trans f (fun x hx => ?_)) hy.1.2
        rcases (by simpa using hx : x = b3 ∨ x = b2) with h | h
        · rw [h]; exact h1.own (b3, _) (HM.mem (by repeat constructor)) (y.2, _) (MI.m (by repeat constructor))
        · rw [h]; exact h1.own (b2, _) (HM.mem (by repeat constructor)) (y.2, _) (MI.m (by repeat constructor))
      · refine fun w' f => hz.1.1.frS ((h1.fr (w0 := z.2) (MI.m (by repeat constructor))).trans f (fun x hx => ?_)) hz.1.2
        rcases (by simpa using hx : x = b3 ∨ x = b2) with h | h
        · rw [h]; exact h1.own (b3, _) (HM.mem (by repeat constructor)) (z.2, _) (MI.m (by repeat constructor))
        · rw [h]; exact h1.own (b2, _) (HM.mem (by repeat constructor)) (z.2, _) (MI.m (by repeat constructor))
      · exact h1.heap _ (HM.mem (b := b1) (by repeat constructor))
      · have := h1.nodup; simp at this ⊢; omega)
   · rintro ⟨⟨w1, b3⟩, x1, x2⟩ ⟨hs1, hs2, hb1, hne⟩
     dsimp only at hs1 hs2 hb1 hne ⊢
     all_goals (
      refine tc_join (fun z : World × (Option Addr × Nat) => ∀ w', Fr [b3, b2] z.1 w' → RdR w' (slV t.liquids.length z.2) t.liquids) (fun z => [(1, ptr b1), (2, ptr b2), (3, ptr b3)]) (fun z => [(z.1, [b3, b2]), (w1, [b3, b2]), (w, [])]) (fun z => [(b3, tr9O t (slV t.s.weights.length x1) (slV t.parts.length x2) (slV t.liquids.length z.2) (.slice none 0 0)), (b2, zr9O)]) ?_ ?_
      · skip
        all_goals refine tc_seq fun K2 hK2 => ?_
        all_goals refine tc_region ?_
        all_goals refine tl_q (y_assign rfl) rfl ?_
        all_goals refine tl_nil ?_
        all_goals (refine hK2 ?_; try (clear hK2; clear K2))
        all_goals refine tc_block ?_
        all_goals (
         refine tc_loop (fun p : Nat × Option (Nat × Nat × List Value) => p.1 ≤ t.liquids.length ∧ outOkR (p.1, p.2)) (fun p => [(1, ptr b1), (2, ptr b2), (3, ptr b3), (4, vi p.1)]) (fun _ => [(w1, [b3, b2]), (w, [])]) (fun p => match p.2 with | none => [(b3, tr9O t (slV t.s.weights.length x1) (slV t.parts.length x2) (.slice none 0 0) (.slice none 0 0)), (b2, zr9O)] | some (bo, cap, junk) => [(bo, .cells (flatR (t.liquids.take p.1) ++ junk).toArray 59 (0, 0)), (b3, tr9O t (slV t.s.weights.length x1) (slV t.parts.length x2) (.slice (some ⟨bo, 0, none⟩) p.1 cap) (.slice none 0 0)), (b2, zr9O)]) (fun p => t.liquids.length - p.1) ?_ ?_
         · exact tk_start (0, none) ⟨Nat.zero_le _, rfl⟩ (.cons rfl (.cons rfl (.cons rfl (.cons rfl .nil)))) (fun _ h => h)
         · rintro ⟨n, oo⟩ ⟨hn, hok⟩
           rcases oo with _ | ⟨bo, cap, junk⟩
           all_goals dsimp only [outOkR] at hn hok ⊢
           all_goals refine tc_seq fun K3 hK3 => ?_
           all_goals refine tc_seq fun K4 hK4 => ?_
           all_goals refine tc_region ?_
           all_goals refine tl_q (y_move rfl) rfl ?_
           all_goals refine tl_q (y_field rfl) rfl ?_
           all_goals (refine tl_q (y_load1o rfl (fun w' hw' => cellAt_cell? ((hw'.fr (w0 := w1) (S := [b3, b2]) (MI.m (by repeat constructor))).keeps hne hb1) rfl)) rfl ?_)
           all_goals refine tl_q (y_len rfl) rfl ?_
           all_goals refine tl_q (y_lss rfl rfl) rfl ?_
           all_goals refine tl_nil ?_
           all_goals (refine hK4 ?_; try (clear hK4; clear K4))
           all_goals (
            refine tc_cond rfl (fun hc => ?_) (fun hc => ?_)
            · try simp only [decide_eq_true_eq, decide_eq_false_iff_not, Int.not_lt, Int.not_le, Bool.not_eq_true', Bool.not_eq_false', Decidable.not_not, not_true_eq_false] at hc
              all_goals first | (exfalso; with_reducible exact bft hc) | (exfalso; with_reducible exact btf hc) | (exfalso; omega) | skip
              all_goals refine tc_skip ?_
              all_goals (refine hK3 ?_; try (clear hK3; clear K3))
              all_goals refine tc_seq fun K5 hK5 => ?_
              all_goals refine tc_block ?_
              all_goals (have had1' := had1 (by omega); have hlen : (flatR (t.liquids.take n)).length = n * 2 := by rw [flatR_len, List.length_take]; omega)
              all_goals refine tc_drawS (by first | exact [(b3, tr9O t (slV t.s.weights.length x1) (slV t.parts.length x2) (.slice (some ⟨bo, 0, none⟩) n cap) (.slice none 0 0))] | exact [(b3, tr9O t (slV t.s.weights.length x1) (slV t.parts.length x2) (.slice none 0 0) (.slice none 0 0))]) (by kernel_rfl) ?_
              all_goals refine tx_p 0 rfl (by kernel_rfl) (y_field rfl) rfl (fun _ _ _ h => h) (fun _ h => h.subl (SB.s (by repeat constructor)) (SB.s (by repeat constructor))) ?_
              all_goals (refine tx_qS 1 rfl (by kernel_rfl) (y_load1 rfl (by repeat constructor) (by rfl)) rfl (fun _ _ _ h => h) (fun _ h => h.subl (SB.s (by repeat constructor)) (SB.s (by repeat constructor))) ?_)
              all_goals refine tx_p 2 rfl (by kernel_rfl) (y_field rfl) rfl (fun _ _ _ h => h) (fun _ h => h.subl (SB.s (by repeat constructor)) (SB.s (by repeat constructor))) ?_
              all_goals (refine tx_qS 3 rfl (by kernel_rfl) (y_load1o rfl (fun w' hw' => cellAt_cell? ((hw'.fr (w0 := w1) (S := [b3, b2]) (MI.m (by repeat constructor))).keeps hne hb1) rfl)) rfl (fun _ _ _ h => h) (fun _ h => h.subl (SB.s (by repeat constructor)) (SB.s (by repeat constructor))) ?_)
              all_goals refine tx_p 4 rfl (by kernel_rfl) (y_move rfl) rfl (fun _ _ _ h => h) (fun _ h => h.subl (SB.s (by repeat constructor)) (SB.s (by repeat constructor))) ?_
              all_goals (refine tx_p 5 rfl (by kernel_rfl) (y_index rfl rfl (by omega) had1') rfl (fun _ _ _ h => h) (fun _ h => h.subl (SB.s (by repeat constructor)) (SB.s (by repeat constructor))) ?_)
              all_goals (refine tx_qS 6 rfl (by kernel_rfl) (y_loadNo rfl (fun w' hw' => hcell1 w' [] (hw'.fr (w0 := w) (S := []) (MI.m (by repeat constructor))) (by simp) (Int.toNat n) (by omega))) rfl (fun _ _ _ h => h) (fun _ h => h.subl (SB.s (by repeat constructor)) (SB.s (by repeat constructor))) ?_)
              all_goals refine tx_single 7 (by kernel_rfl) (to_e rfl rfl (e_callV rfl (.cons rfl .nil) (fun w' _ => to9_c (t.liquids.getD n (0, 0)) w')) (.inr ⟨fun _ _ h => h.subl (SB.s (by repeat constructor)) (SB.s (by repeat constructor)), fun _ h => h⟩) (fun _ _ => ?_))
              all_goals (refine tx_single 8 (by kernel_rfl) (to_e rfl rfl (e_bslice rfl (by (repeat (first | exact .nil | apply PV.two rfl)); done) rfl rfl) (.inr ⟨fun _ _ h => h.subl (SB.s (by repeat constructor)) (SB.s (by repeat constructor)), fun _ h => h⟩) (fun _ _ => ?_)))
              all_goals (first | refine tx_single 9 (by kernel_rfl) (to_e rfl rfl (e_append_own (old := flatR (t.liquids.take n)) (junk := junk) rfl rfl rfl (by repeat constructor) (by rw [hlen]) (by omega) hok.1 (fun w' hw' => RdR.own0 (xs := [t.liquids.getD n (0, 0)]) hw' (by repeat constructor)) (flatR_one _) (by simp only [List.length_cons, List.length_nil]; omega) rfl) (.inr ⟨fun _ _ h => h.subl (SB.s (by repeat constructor)) (SB.s (by repeat constructor)), fun _ h => h⟩) (fun y hy => ?_)) | refine tx_single 9 (by kernel_rfl) (to_e rfl rfl (e_append_nil rfl rfl rfl (fun w' hw' => RdR.own0 (xs := [t.liquids.getD n (0, 0)]) hw' (by repeat constructor)) (flatR_one _) Nat.zero_lt_one (Nat.le_of_ble_eq_true rfl) rfl) (.inr ⟨fun _ _ h => h.subl (SB.s (by repeat constructor)) (SB.s (by repeat constructor)), fun _ h => h⟩) (fun y hy => ?_)))
              all_goals refine tx_p 10 rfl (by kernel_rfl) (y_field rfl) rfl (fun _ _ _ h => h) (fun _ h => h.subl (SB.s (by repeat constructor)) (SB.s (by repeat constructor))) ?_
              all_goals refine tx_single 11 (by kernel_rfl) (to_e (S' := HG [] []) rfl rfl (e_store1 rfl rfl (by repeat constructor) (by repeat constructor) (by rfl) (by rfl)) (.inl (by kernel_rfl)) (fun _ _ => ?_))
              all_goals refine tx_done (by kernel_rfl) ?_
              all_goals (refine hK5 ?_; try (clear hK5; clear K5))
              all_goals refine tc_region ?_
              all_goals refine tl_q (y_move rfl) rfl ?_
              all_goals refine tl_q (y_add rfl rfl (by omega)) rfl ?_
              all_goals refine tl_q (y_assign rfl) rfl ?_
              all_goals refine tl_nil ?_
              all_goals (
               have hs : flatR (t.liquids.take (n + 1)) = flatR (t.liquids.take n) ++ flatR [t.liquids.getD n (0, 0)] := by rw [take_succ' (by omega), flatR_append]
               refine tk_round (n + 1, some (y.1, y.2.1, y.2.2)) ⟨by dsimp only; omega, ?_⟩ (by dsimp only; omega) (.cons rfl (.cons rfl (.cons rfl (.cons rfl .nil)))) (fun _ h => ?_)
               · dsimp only [outOkR]; simp only [List.length_cons, List.length_nil] at hy ⊢; omega
               · dsimp only; rw [hs]
                 first
                 | (rw [show t.liquids.take n = [] from by rw [hok]; rfl, show flatR [] = [] from rfl, List.nil_append, show n + 1 = ([t.liquids.getD n (0, 0)] : List (Int × Int)).length from by simp only [List.length_cons, List.length_nil]; omega]; exact h.subl (SB.s (by repeat constructor)) (SB.s (by repeat constructor)))
                 | exact h.subl (SB.s (by repeat constructor)) (SB.s (by repeat constructor)))
            · try simp only [decide_eq_true_eq, decide_eq_false_iff_not, Int.not_lt, Int.not_le, Bool.not_eq_true', Bool.not_eq_false', Decidable.not_not, not_true_eq_false] at hc
              all_goals first | (exfalso; with_reducible exact bft hc) | (exfalso; with_reducible exact btf hc) | (exfalso; omega) | skip
              all_goals refine tc_exit ?_
              all_goals (
               have e : n = t.liquids.length := by omega
               subst e
               first
               | (refine tk_lay [(b3, tr9O t (slV t.s.weights.length x1) (slV t.parts.length x2) (.slice (some ⟨bo, 0, none⟩) t.liquids.length cap) (.slice none 0 0)), (b2, zr9O)] (SB.s (by repeat constructor)) (fun w2 h2 => ?_)
                  refine tk_start (w2, some ⟨bo, 0, none⟩, cap) (fun w' f => ?_) (.cons rfl (.cons rfl (.cons rfl .nil))) (fun _ h => h.subl (SB.s (by repeat constructor)) (SB.s (by repeat constructor)))
                  refine Reads.frS (RdR.own (xs := t.liquids) (cap := cap) (junk := junk) (b := bo) h2 (by rw [List.take_length]; exact .head)) f (fun p m c hp => ?_)
                  cases hp
                  have := h2.nodup
                  simp at this ⊢
                  omega)
               | (refine tk_lay [(b3, tr9O t (slV t.s.weights.length x1) (slV t.parts.length x2) (.slice none 0 0) (.slice none 0 0)), (b2, zr9O)] (SB.s (by repeat constructor)) (fun w2 h2 => ?_)
                  refine tk_start (w2, none, 0) (fun w' f => ?_) (.cons rfl (.cons rfl (.cons rfl .nil))) (fun _ h => by unfold slV; dsimp only; rw [hok]; exact h.subl (SB.s (by repeat constructor)) (SB.s (by repeat constructor)))
                  unfold slV
                  rw [hok, List.eq_nil_of_length_eq_zero hok]
                  exact RdR.nil _))))
      · rintro ⟨w2, x3⟩ hs3
        dsimp only at hs3 ⊢
        all_goals refine tc_seq fun K6 hK6 => ?_
        all_goals refine tc_seq fun K7 hK7 => ?_
        all_goals refine tc_region ?_
        all_goals refine tl_q (y_assign rfl) rfl ?_
        all_goals refine tl_nil ?_
        all_goals (refine hK7 ?_; try (clear hK7; clear K7))
        all_goals refine tc_block ?_
        all_goals (
         refine tc_loop (fun p : Nat × Option (Nat × Nat × List Value) => p.1 ≤ t.tests.length ∧ outOkT (p.1, p.2)) (fun p => [(1, ptr b1), (2, ptr b2), (3, ptr b3), (5, vi p.1)]) (fun _ => [(w2, [b3, b2]), (w1, [b3, b2]), (w, [])]) (fun p => match p.2 with | none => [(b3, tr9O t (slV t.s.weights.length x1) (slV t.parts.length x2) (slV t.liquids.length x3) (.slice none 0 0)), (b2, zr9O)] | some (bo, cap, junk) => [(bo, .cells (flatT (t.tests.take p.1) ++ junk).toArray 63 (0, 0)), (b3, tr9O t (slV t.s.weights.length x1) (slV t.parts.length x2) (slV t.liquids.length x3) (.slice (some ⟨bo, 0, none⟩) p.1 cap)), (b2, zr9O)]) (fun p => t.tests.length - p.1) ?_ ?_
         · exact tk_start (0, none) ⟨Nat.zero_le _, rfl⟩ (.cons rfl (.cons rfl (.cons rfl (.cons rfl .nil)))) (fun _ h => h)
         · rintro ⟨n, oo⟩ ⟨hn, hok⟩
           rcases oo with _ | ⟨bo, cap, junk⟩
           all_goals dsimp only [outOkT] at hn hok ⊢
           all_goals refine tc_seq fun K8 hK8 => ?_
           all_goals refine tc_seq fun K9 hK9 => ?_
           all_goals refine tc_region ?_
           all_goals refine tl_q (y_move rfl) rfl ?_
           all_goals refine tl_q (y_field rfl) rfl ?_
           all_goals (refine tl_q (y_load1o rfl (fun w' hw' => cellAt_cell? ((hw'.fr (w0 := w1) (S := [b3, b2]) (MI.m (by repeat constructor))).keeps hne hb1) rfl)) rfl ?_)
           all_goals refine tl_q (y_len rfl) rfl ?_
           all_goals refine tl_q (y_lss rfl rfl) rfl ?_
           all_goals refine tl_nil ?_
           all_goals (refine hK9 ?_; try (clear hK9; clear K9))
           all_goals (
            refine tc_cond rfl (fun hc => ?_) (fun hc => ?_)
            · try simp only [decide_eq_true_eq, decide_eq_false_iff_not, Int.not_lt, Int.not_le, Bool.not_eq_true', Bool.not_eq_false', Decidable.not_not, not_true_eq_false] at hc
              all_goals first | (exfalso; with_reducible exact bft hc) | (exfalso; with_reducible exact btf hc) | (exfalso; omega) | skip
              all_goals refine tc_skip ?_
              all_goals (refine hK8 ?_; try (clear hK8; clear K8))
              all_goals refine tc_seq fun K10 hK10 => ?_
              all_goals refine tc_block ?_
              all_goals (have had2' := had2 (by omega); have hlen : (flatT (t.tests.take n)).length = n * 3 := by rw [flatT_len, List.length_take]; omega)
              all_goals (have hca : ∀ w', Fr [] w w' → w'.cell? ⟨c2, o2 + n * 3, none⟩ = some (vi (t.tests.getD n (0, 0, 0)).1) ∧ w'.cell? ⟨c2, o2 + n * 3 + 1, none⟩ = some (vi (t.tests.getD n (0, 0, 0)).2.1) ∧ w'.cell? ⟨c2, o2 + n * 3 + 2, none⟩ = some (vi (t.tests.getD n (0, 0, 0)).2.2) := fun w' f => ⟨(hcell2 w' [] f (by simp) n (by omega)).get 0 _ rfl, (hcell2 w' [] f (by simp) n (by omega)).get 1 _ rfl, (hcell2 w' [] f (by simp) n (by omega)).get 2 _ rfl⟩)
              all_goals refine tc_drawS (by first | exact [(b3, tr9O t (slV t.s.weights.length x1) (slV t.parts.length x2) (slV t.liquids.length x3) (.slice (some ⟨bo, 0, none⟩) n cap))] | exact [(b3, tr9O t (slV t.s.weights.length x1) (slV t.parts.length x2) (slV t.liquids.length x3) (.slice none 0 0))]) (by kernel_rfl) ?_
              all_goals refine tx_p 0 rfl (by kernel_rfl) (y_field rfl) rfl (fun _ _ _ h => h) (fun _ h => h.subl (SB.s (by repeat constructor)) (SB.s (by repeat constructor))) ?_
              all_goals (refine tx_qS 1 rfl (by kernel_rfl) (y_load1 rfl (by repeat constructor) (by rfl)) rfl (fun _ _ _ h => h) (fun _ h => h.subl (SB.s (by repeat constructor)) (SB.s (by repeat constructor))) ?_)
              all_goals refine tx_p 2 rfl (by kernel_rfl) (y_field rfl) rfl (fun _ _ _ h => h) (fun _ h => h.subl (SB.s (by repeat constructor)) (SB.s (by repeat constructor))) ?_
              all_goals (refine tx_qS 3 rfl (by kernel_rfl) (y_load1o rfl (fun w' hw' => cellAt_cell? ((hw'.fr (w0 := w1) (S := [b3, b2]) (MI.m (by repeat constructor))).keeps hne hb1) rfl)) rfl (fun _ _ _ h => h) (fun _ h => h.subl (SB.s (by repeat constructor)) (SB.s (by repeat constructor))) ?_)
              all_goals refine tx_p 4 rfl (by kernel_rfl) (y_move rfl) rfl (fun _ _ _ h => h) (fun _ h => h.subl (SB.s (by repeat constructor)) (SB.s (by repeat constructor))) ?_
              all_goals (refine tx_p 5 rfl (by kernel_rfl) (y_index rfl rfl (by omega) had2') rfl (fun _ _ _ h => h) (fun _ h => h.subl (SB.s (by repeat constructor)) (SB.s (by repeat constructor))) ?_)
              all_goals refine tx_p 6 rfl (by kernel_rfl) (y_field rfl) rfl (fun _ _ _ h => h) (fun _ h => h.subl (SB.s (by repeat constructor)) (SB.s (by repeat constructor))) ?_
              all_goals (refine tx_qS 7 rfl (by kernel_rfl) (y_load1o (v := vi (t.tests.getD n (0, 0, 0)).1) rfl (fun w' hw' => by rw [show o2 + Int.toNat (n : Int) * 3 + 0 = o2 + n * 3 from by omega]; exact (hca w' (hw'.fr (w0 := w) (S := []) (MI.m (by repeat constructor)))).1)) rfl (fun _ _ _ h => h) (fun _ h => h.subl (SB.s (by repeat constructor)) (SB.s (by repeat constructor))) ?_)
              all_goals refine tx_p 8 rfl (by kernel_rfl) (y_field rfl) rfl (fun _ _ _ h => h) (fun _ h => h.subl (SB.s (by repeat constructor)) (SB.s (by repeat constructor))) ?_
              all_goals (refine tx_qS 9 rfl (by kernel_rfl) (y_load1o rfl (fun w' hw' => cellAt_cell? ((hw'.fr (w0 := w1) (S := [b3, b2]) (MI.m (by repeat constructor))).keeps hne hb1) rfl)) rfl (fun _ _ _ h => h) (fun _ h => h.subl (SB.s (by repeat constructor)) (SB.s (by repeat constructor))) ?_)
              all_goals refine tx_p 10 rfl (by kernel_rfl) (y_move rfl) rfl (fun _ _ _ h => h) (fun _ h => h.subl (SB.s (by repeat constructor)) (SB.s (by repeat constructor))) ?_
              all_goals (refine tx_p 11 rfl (by kernel_rfl) (y_index rfl rfl (by omega) had2') rfl (fun _ _ _ h => h) (fun _ h => h.subl (SB.s (by repeat constructor)) (SB.s (by repeat constructor))) ?_)
              all_goals refine tx_p 12 rfl (by kernel_rfl) (y_field rfl) rfl (fun _ _ _ h => h) (fun _ h => h.subl (SB.s (by repeat constructor)) (SB.s (by repeat constructor))) ?_
              all_goals (refine tx_qS 13 rfl (by kernel_rfl) (y_load1o (v := vi (t.tests.getD n (0, 0, 0)).2.1) rfl (fun w' hw' => by rw [show o2 + Int.toNat (n : Int) * 3 + 1 = o2 + n * 3 + 1 from by omega]; exact (hca w' (hw'.fr (w0 := w) (S := []) (MI.m (by repeat constructor)))).2.1)) rfl (fun _ _ _ h => h) (fun _ h => h.subl (SB.s (by repeat constructor)) (SB.s (by repeat constructor))) ?_)
              all_goals refine tx_p 14 rfl (by kernel_rfl) (y_field rfl) rfl (fun _ _ _ h => h) (fun _ h => h.subl (SB.s (by repeat constructor)) (SB.s (by repeat constructor))) ?_
              all_goals (refine tx_qS 15 rfl (by kernel_rfl) (y_load1o rfl (fun w' hw' => cellAt_cell? ((hw'.fr (w0 := w1) (S := [b3, b2]) (MI.m (by repeat constructor))).keeps hne hb1) rfl)) rfl (fun _ _ _ h => h) (fun _ h => h.subl (SB.s (by repeat constructor)) (SB.s (by repeat constructor))) ?_)
              all_goals refine tx_p 16 rfl (by kernel_rfl) (y_move rfl) rfl (fun _ _ _ h => h) (fun _ h => h.subl (SB.s (by repeat constructor)) (SB.s (by repeat constructor))) ?_
              all_goals (refine tx_p 17 rfl (by kernel_rfl) (y_index rfl rfl (by omega) had2') rfl (fun _ _ _ h => h) (fun _ h => h.subl (SB.s (by repeat constructor)) (SB.s (by repeat constructor))) ?_)
              all_goals refine tx_p 18 rfl (by kernel_rfl) (y_field rfl) rfl (fun _ _ _ h => h) (fun _ h => h.subl (SB.s (by repeat constructor)) (SB.s (by repeat constructor))) ?_
              all_goals (refine tx_qS 19 rfl (by kernel_rfl) (y_load1o (v := vi (t.tests.getD n (0, 0, 0)).2.2) rfl (fun w' hw' => by rw [show o2 + Int.toNat (n : Int) * 3 + 2 = o2 + n * 3 + 2 from by omega]; exact (hca w' (hw'.fr (w0 := w) (S := []) (MI.m (by repeat constructor)))).2.2)) rfl (fun _ _ _ h => h) (fun _ h => h.subl (SB.s (by repeat constructor)) (SB.s (by repeat constructor))) ?_)
              all_goals refine tx_p 20 rfl (by kernel_rfl) (y_build_g (by repeat constructor)) rfl (fun _ _ _ h => h) (fun _ h => h.subl (SB.s (by repeat constructor)) (SB.s (by repeat constructor))) ?_
              all_goals (refine tx_single 21 (by kernel_rfl) (to_e rfl rfl (e_bslice31 rfl rfl) (.inr ⟨fun _ _ h => h.subl (SB.s (by repeat constructor)) (SB.s (by repeat constructor)), fun _ h => h⟩) (fun _ _ => ?_)))
              all_goals (first | refine tx_single 22 (by kernel_rfl) (to_e rfl rfl (e_append_own (old := flatT (t.tests.take n)) (junk := junk) rfl rfl rfl (by repeat constructor) (by rw [hlen]) (by omega) hok.1 (fun w' hw' => RdT.own0 (xs := [t.tests.getD n (0, 0, 0)]) hw' (by repeat constructor)) (flatT_one _) (by simp only [List.length_cons, List.length_nil]; omega) rfl) (.inr ⟨fun _ _ h => h.subl (SB.s (by repeat constructor)) (SB.s (by repeat constructor)), fun _ h => h⟩) (fun y hy => ?_)) | refine tx_single 22 (by kernel_rfl) (to_e rfl rfl (e_append_nil rfl rfl rfl (fun w' hw' => RdT.own0 (xs := [t.tests.getD n (0, 0, 0)]) hw' (by repeat constructor)) (flatT_one _) Nat.zero_lt_one (Nat.le_of_ble_eq_true rfl) rfl) (.inr ⟨fun _ _ h => h.subl (SB.s (by repeat constructor)) (SB.s (by repeat constructor)), fun _ h => h⟩) (fun y hy => ?_)))
              all_goals refine tx_p 23 rfl (by kernel_rfl) (y_field rfl) rfl (fun _ _ _ h => h) (fun _ h => h.subl (SB.s (by repeat constructor)) (SB.s (by repeat constructor))) ?_
              all_goals refine tx_single 24 (by kernel_rfl) (to_e (S' := HG [] []) rfl rfl (e_store1 rfl rfl (by repeat constructor) (by repeat constructor) (by rfl) (by rfl)) (.inl (by kernel_rfl)) (fun _ _ => ?_))
              all_goals refine tx_done (by kernel_rfl) ?_
              all_goals (refine hK10 ?_; try (clear hK10; clear K10))
              all_goals refine tc_region ?_
              all_goals refine tl_q (y_move rfl) rfl ?_
              all_goals refine tl_q (y_add rfl rfl (by omega)) rfl ?_
              all_goals refine tl_q (y_assign rfl) rfl ?_
              all_goals refine tl_nil ?_
              all_goals (
               have hs : flatT (t.tests.take (n + 1)) = flatT (t.tests.take n) ++ flatT [t.tests.getD n (0, 0, 0)] := by rw [takeT_succ (by omega), flatT_append]
               refine tk_round (n + 1, some (y.1, y.2.1, y.2.2)) ⟨by dsimp only; omega, ?_⟩ (by dsimp only; omega) (.cons rfl (.cons rfl (.cons rfl (.cons rfl .nil)))) (fun _ h => ?_)
               · dsimp only [outOkT]; simp only [List.length_cons, List.length_nil] at hy ⊢; omega
               · dsimp only; rw [hs]
                 first
                 | (rw [show t.tests.take n = [] from by rw [hok]; rfl, show flatT [] = [] from rfl, List.nil_append, show n + 1 = ([t.tests.getD n (0, 0, 0)] : List (Int × Int × Int)).length from by simp only [List.length_cons, List.length_nil]; omega]; exact h.subl (SB.s (by repeat constructor)) (SB.s (by repeat constructor)))
                 | exact h.subl (SB.s (by repeat constructor)) (SB.s (by repeat constructor)))
            · try simp only [decide_eq_true_eq, decide_eq_false_iff_not, Int.not_lt, Int.not_le, Bool.not_eq_true', Bool.not_eq_false', Decidable.not_not, not_true_eq_false] at hc
              all_goals first | (exfalso; with_reducible exact bft hc) | (exfalso; with_reducible exact btf hc) | (exfalso; omega) | skip
              all_goals refine tc_exit ?_
              all_goals (refine hK6 ?_; try (clear hK6; clear K6))
              all_goals refine tc_seq fun K11 hK11 => ?_
              all_goals (have e : n = t.tests.length := by omega)
              all_goals subst e
              all_goals refine tc_region ?_
              all_goals (refine tl_q (y_loadW rfl (by repeat constructor) (by rfl)) rfl ?_)
              all_goals refine tl_e (e_storeW rfl rfl (by repeat constructor) (by rfl) (by rfl) (by simp [Value.oneCell'])) rfl (fun _ _ => ?_)
              all_goals refine tl_nil ?_
              all_goals (refine hK11 ?_; try (clear hK11; clear K11))
              all_goals refine tc_ret ?_
              all_goals (repeat (first | refine tk_then_ret ?_))
              all_goals first | refine tk_ret rfl rfl (.cons (.agg inferInstance rfl (by repeat constructor) (by rfl)) .nil) ?_ | refine tk_retM rfl (by repeat constructor) rfl (.cons (.agg inferInstance rfl (by repeat constructor) (by rfl)) .nil) ?_
              all_goals (
               first
               | exact fun w' hw' => ⟨(x1, x2, x3, some ⟨bo, 0, none⟩, cap), rfl, hw'.fr (w0 := w) (S := []) (MI.m (by repeat constructor)), hs1 w' (hw'.fr (MI.m (by repeat constructor))), hs2 w' (hw'.fr (MI.m (by repeat constructor))), hs3 w' (hw'.fr (MI.m (by repeat constructor))), RdT.own (xs := t.tests) (cap := cap) (junk := junk) (b := bo) hw' (by rw [List.take_length]; repeat constructor)⟩
               | exact fun w' hw' => ⟨(x1, x2, x3, none, 0), by unfold slV; rw [hok]; rfl, hw'.fr (w0 := w) (S := []) (MI.m (by repeat constructor)), hs1 w' (hw'.fr (MI.m (by repeat constructor))), hs2 w' (hw'.fr (MI.m (by repeat constructor))), hs3 w' (hw'.fr (MI.m (by repeat constructor))), by unfold slV; rw [hok, List.eq_nil_of_length_eq_zero hok]; exact RdT.nil _⟩)))))
end Go.Sp
