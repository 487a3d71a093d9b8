
/-
  The law's helpers: samples for the program; the reference's Kept.
-/
import Derived.Test.YtgfpkpiigkcndaaGreatM3
import Derived.Laws.AppendOwn
set_option linter.unusedVariables false
set_option linter.unusedSimpArgs false
set_option linter.deprecated false
namespace Go.Sp
open Go Go.Proofs
theorem take_all2 {α : Type} {l : List α} {n : Nat} (h : l.length ≤ n) : l.take n = l := List.take_of_length_le h
set_option maxHeartbeats 4000000 in
theorem lawSample_c (s : Smp) (hf : Few s) (tv pv gv : Value) (w : World) (hr : RdSm w s tv pv gv) :
    CnX Tryz.prog 18 #[smV s tv pv gv] w [] (fun y : (Option Addr × Nat) × (Option Addr × Nat) × (Option Addr × Nat) => smV s (slV s.st.length y.1) (slV s.ps.length y.2.1) (slV s.sg.length y.2.2)) (fun y w' => RdSm w' s (slV s.st.length y.1) (slV s.ps.length y.2.1) (slV s.sg.length y.2.2)) := by
  have hr0 := hr
  have hft := hf.st
  have hfp := hf.ps
  have hfg := hf.sg
  obtain ⟨adt, cpt, bt, ot, rfl, hadt, hct⟩ := hr.st.open boE_len false
  obtain ⟨adp, cpp, bp, op, rfl, hadp, hcp⟩ := hr.ps.open psE_len pas0
  obtain ⟨adg, cpg, bg, og, rfl, hadg, hcg⟩ := hr.sg.open sgE_len sgt0
  refine cnx0 (vs := [_]) Tryz.func18 rfl rfl ?_
  all_goals refine tc_seq fun K1 hK1 => ?_; refine tc_region ?_; refine tl_e (e_box rfl rfl rfl) rfl (fun b1 _ => ?_); refine tl_e (e_allocN rfl) rfl (fun b2 _ => ?_); refine tl_nil ?_; ((refine hK1 ?_; try (clear hK1; clear K1)))
  all_goals (
   refine tc_join (fun q : Nat × Nat × Nat × List Value => s.st.length ≤ q.2.2.1) (fun q => [(1, ptr b1), (2, ptr b2), (3, ptr q.1)]) (fun _ => [(w, [])]) (fun q => [(q.1, .cells #[vi s.B, vi s.P, vi s.L, vi s.F, .slice (some ⟨q.2.1, 0, none⟩) s.st.length q.2.2.1, .slice none 0 0, .slice none 0 0] 36 (0, 0)), (q.2.1, .cells (s.st.flatMap boE ++ q.2.2.2).toArray 4 (0, 0)), (b2, .cells #[vi 0, vi 0, vi 0, vi 0, .slice none 0 0, .slice none 0 0, .slice none 0 0] 36 (0, 0)), (b1, .cells #[vi s.B, vi s.P, vi s.L, vi s.F, .slice adt s.st.length cpt, .slice adp s.ps.length cpp, .slice adg s.sg.length cpg] 26 (0, 0))]) ?_ ?_
   · skip
     all_goals refine tc_drawS ([(b2, .cells #[vi 0, vi 0, vi 0, vi 0, .slice none 0 0, .slice none 0 0, .slice none 0 0] 36 (0, 0)), (b1, .cells #[vi s.B, vi s.P, vi s.L, vi s.F, .slice adt s.st.length cpt, .slice adp s.ps.length cpp, .slice adg s.sg.length cpg] 26 (0, 0))]) (by kernel_rfl) ?_; refine tx_p 0 rfl (by kernel_rfl) (y_field rfl) rfl (fun _ _ _ h => h) (fun _ h => h.subl (SB.s (by repeat constructor)) (SB.s (by repeat constructor))) ?_; refine tx_qS 1 rfl (by kernel_rfl) (y_load1 rfl (by repeat constructor) (by rfl)) rfl (fun _ _ _ h => h) (fun _ h => h.subl (SB.s (by repeat constructor)) (SB.s (by repeat constructor))) ?_; refine tx_p 2 rfl (by kernel_rfl) (y_field rfl) rfl (fun _ _ _ h => h) (fun _ h => h.subl (SB.s (by repeat constructor)) (SB.s (by repeat constructor))) ?_; refine tx_qS 3 rfl (by kernel_rfl) (y_load1 rfl (by repeat constructor) (by rfl)) rfl (fun _ _ _ h => h) (fun _ h => h.subl (SB.s (by repeat constructor)) (SB.s (by repeat constructor))) ?_; refine tx_p 4 rfl (by kernel_rfl) (y_field rfl) rfl (fun _ _ _ h => h) (fun _ h => h.subl (SB.s (by repeat constructor)) (SB.s (by repeat constructor))) ?_; refine tx_qS 5 rfl (by kernel_rfl) (y_load1 rfl (by repeat constructor) (by rfl)) rfl (fun _ _ _ h => h) (fun _ h => h.subl (SB.s (by repeat constructor)) (SB.s (by repeat constructor))) ?_; refine tx_p 6 rfl (by kernel_rfl) (y_field rfl) rfl (fun _ _ _ h => h) (fun _ h => h.subl (SB.s (by repeat constructor)) (SB.s (by repeat constructor))) ?_; refine tx_qS 7 rfl (by kernel_rfl) (y_load1 rfl (by repeat constructor) (by rfl)) rfl (fun _ _ _ h => h) (fun _ h => h.subl (SB.s (by repeat constructor)) (SB.s (by repeat constructor))) ?_; refine tx_p 9 rfl (by kernel_rfl) (y_field rfl) rfl (fun _ _ _ h => h) (fun _ h => h.subl (SB.s (by repeat constructor)) (SB.s (by repeat constructor))) ?_; refine tx_qS 10 rfl (by kernel_rfl) (y_load1 rfl (by repeat constructor) (by rfl)) rfl (fun _ _ _ h => h) (fun _ h => h.subl (SB.s (by repeat constructor)) (SB.s (by repeat constructor))) ?_
     all_goals (
      refine tx_pair 8 13 (by kernel_rfl) ?_ ?_
      rotate_left
      focus (
       (refine to_e rfl rfl (e_allocN rfl) (.inr ⟨fun _ _ h => h.subl (SB.s (by repeat constructor)) (SB.s (by repeat constructor)), fun _ h => h⟩) (fun b3 _ => ?_))
       all_goals ((refine tx_single 8 (by kernel_rfl) (to_e rfl rfl (e_bslice rfl (by (repeat (exact .nil)); done) rfl rfl) (.inr ⟨fun _ _ h => h.subl (SB.s (by repeat constructor)) (SB.s (by repeat constructor)), fun _ h => h⟩) (fun b16 _ => ?_))))
       all_goals (refine tx_single 11 (by kernel_rfl) (to_e rfl rfl (e_append_own (old := []) (junk := []) rfl rfl rfl (by repeat constructor) rfl rfl (Nat.le_refl 0) (fun w' hw' => hr0.st.fr (hw'.fr (w0 := w) (S := []) (MI.m (by repeat constructor)))) (one_flat boE_one _) (by omega) rfl) (.inr ⟨fun _ _ h => h.subl (SB.s (by repeat constructor)) (SB.s (by repeat constructor)), fun _ h => h⟩) (fun rt hrt => ?_))); refine tx_p 12 rfl (by kernel_rfl) (y_build_g (by repeat constructor)) rfl (fun _ _ _ h => h) (fun _ h => h.subl (SB.s (by repeat constructor)) (SB.s (by repeat constructor))) ?_; refine tx_single 14 (by kernel_rfl) (to_e (S' := HG [] []) rfl rfl (e_storeW rfl rfl (by repeat constructor) (by rfl) (by rfl) (by simp [Value.oneCell'])) (.inl (by kernel_rfl)) (fun _ _ => ?_))
       all_goals refine tx_done (by kernel_rfl) ?_)
      rotate_right
      focus (
       (refine to_e rfl rfl (e_bslice rfl (by (repeat (exact .nil)); done) rfl rfl) (.inr ⟨fun _ _ h => h.subl (SB.s (by repeat constructor)) (SB.s (by repeat constructor)), fun _ h => h⟩) (fun b16 _ => ?_))
       all_goals (
        refine tx_pair 11 13 (by kernel_rfl) ?_ ?_
        rotate_left
        focus (
         (refine to_e rfl rfl (e_allocN rfl) (.inr ⟨fun _ _ h => h.subl (SB.s (by repeat constructor)) (SB.s (by repeat constructor)), fun _ h => h⟩) (fun b3 _ => ?_))
         all_goals (refine tx_single 11 (by kernel_rfl) (to_e rfl rfl (e_append_own (old := []) (junk := []) rfl rfl rfl (by repeat constructor) rfl rfl (Nat.le_refl 0) (fun w' hw' => hr0.st.fr (hw'.fr (w0 := w) (S := []) (MI.m (by repeat constructor)))) (one_flat boE_one _) (by omega) rfl) (.inr ⟨fun _ _ h => h.subl (SB.s (by repeat constructor)) (SB.s (by repeat constructor)), fun _ h => h⟩) (fun rt hrt => ?_))); refine tx_p 12 rfl (by kernel_rfl) (y_build_g (by repeat constructor)) rfl (fun _ _ _ h => h) (fun _ h => h.subl (SB.s (by repeat constructor)) (SB.s (by repeat constructor))) ?_; refine tx_single 14 (by kernel_rfl) (to_e (S' := HG [] []) rfl rfl (e_storeW rfl rfl (by repeat constructor) (by rfl) (by rfl) (by simp [Value.oneCell'])) (.inl (by kernel_rfl)) (fun _ _ => ?_))
         all_goals refine tx_done (by kernel_rfl) ?_)
        rotate_right
        focus (
         (refine to_e rfl rfl (e_append_own (old := []) (junk := []) rfl rfl rfl (by repeat constructor) rfl rfl (Nat.le_refl 0) (fun w' hw' => hr0.st.fr (hw'.fr (w0 := w) (S := []) (MI.m (by repeat constructor)))) (one_flat boE_one _) (by omega) rfl) (.inr ⟨fun _ _ h => h.subl (SB.s (by repeat constructor)) (SB.s (by repeat constructor)), fun _ h => h⟩) (fun rt hrt => ?_))
         all_goals refine tx_p 12 rfl (by kernel_rfl) (y_build_g (by repeat constructor)) rfl (fun _ _ _ h => h) (fun _ h => h.subl (SB.s (by repeat constructor)) (SB.s (by repeat constructor))) ?_; refine tx_single 13 (by kernel_rfl) (to_e rfl rfl (e_allocN rfl) (.inr ⟨fun _ _ h => h.subl (SB.s (by repeat constructor)) (SB.s (by repeat constructor)), fun _ h => h⟩) (fun b3 _ => ?_)); refine tx_single 14 (by kernel_rfl) (to_e (S' := HG [] []) rfl rfl (e_storeW rfl rfl (by repeat constructor) (by rfl) (by rfl) (by simp [Value.oneCell'])) (.inl (by kernel_rfl)) (fun _ _ => ?_))
         all_goals refine tx_done (by kernel_rfl) ?_))))
     all_goals (
      refine tk_start (b3, rt.1, rt.2.1, rt.2.2) (by simpa using hrt.1) (.cons rfl (.cons rfl (.cons rfl .nil))) (fun _ h => ?_)
      rw [Nat.zero_add] at h
      first
      | (refine h.subl (SB.s ?_) (SB.s ?_)
         all_goals ((repeat constructor); done))
      | (refine HG.sw (h.subl (SB.s ?_) (SB.s ?_))
         all_goals ((repeat constructor); done)))
   · rintro ⟨b3, rb, rc, rj⟩ hrc
     dsimp only at hrc ⊢
     all_goals refine tc_seq fun K2 hK2 => ?_; refine tc_seq fun K3 hK3 => ?_; refine tc_region ?_; refine tl_q (y_assign rfl) rfl ?_; refine tl_nil ?_; ((refine hK3 ?_; try (clear hK3; clear K3)))
     all_goals refine tc_block ?_
     all_goals (
      refine tc_loop (fun p : Nat × OwnB => p.1 ≤ s.ps.length ∧ okE 5 (s.ps.take p.1) p.2) (fun p => [(1, ptr b1), (2, ptr b2), (3, ptr b3), (4, vi p.1)]) (fun _ => [(w, [])]) (fun p => (b3, .cells #[vi s.B, vi s.P, vi s.L, vi s.F, .slice (some ⟨rb, 0, none⟩) s.st.length rc, ouV (s.ps.take p.1).length p.2, .slice none 0 0] 36 (0, 0)) :: (rb, .cells (s.st.flatMap boE ++ rj).toArray 4 (0, 0)) :: (b2, .cells #[vi 0, vi 0, vi 0, vi 0, .slice none 0 0, .slice none 0 0, .slice none 0 0] 36 (0, 0)) :: (b1, .cells #[vi s.B, vi s.P, vi s.L, vi s.F, .slice adt s.st.length cpt, .slice adp s.ps.length cpp, .slice adg s.sg.length cpg] 26 (0, 0)) :: slE 92 psE (s.ps.take p.1) p.2) (fun p => s.ps.length - p.1) ?_ ?_
      · exact tk_start (0, none) ⟨Nat.zero_le _, rfl⟩ (.cons rfl (.cons rfl (.cons rfl (.cons rfl .nil)))) (fun _ h => by rw [slE_none]; exact h.subl (SB.s (by repeat constructor)) (SB.s (by repeat constructor)))
      · rintro ⟨k, oo⟩ ⟨hk, hok⟩
        dsimp only at hk hok ⊢
        have hkl : (s.ps.take k).length ≤ k := by rw [List.length_take]; omega
        all_goals refine tc_seq fun K4 hK4 => ?_; refine tc_seq fun K5 hK5 => ?_; refine tc_region ?_; refine tl_q (y_move rfl) rfl ?_; refine tl_q (y_field rfl) rfl ?_; refine tl_q (y_load1 rfl (by repeat constructor) (by rfl)) rfl ?_; refine tl_q (y_len rfl) rfl ?_; refine tl_q (y_lss rfl rfl) rfl ?_; refine tl_nil ?_; ((refine hK5 ?_; try (clear hK5; clear K5)))
        all_goals (
         refine tc_cond rfl (fun hc => ?_) (fun hc => ?_)
         · try simp only [decide_eq_true_eq, decide_eq_false_iff_not, Int.not_lt, Int.not_le, Bool.not_eq_true', Bool.not_eq_false', Decidable.not_not, not_true_eq_false] at hc
           all_goals refine tc_skip ?_; ((refine hK4 ?_; try (clear hK4; clear K4)))
           all_goals refine tc_seq fun K6 hK6 => ?_; refine tc_block ?_; refine tc_seq fun K7 hK7 => ?_; refine tc_region ?_; refine tl_q (y_field rfl) rfl ?_; refine tl_q (y_load1 rfl (by repeat constructor) (by rfl)) rfl ?_; refine tl_q (y_move rfl) rfl ?_; refine tl_q (y_index rfl rfl (by omega) (hadp (by omega))) rfl ?_; ((refine tl_q (y_loadNo (n := 5) (vs := [vi (s.ps.getD k pas0).b, vi (s.ps.getD k pas0).fr, vi (s.ps.getD k pas0).to, vi (s.ps.getD k pas0).lo, vi (s.ps.getD k pas0).hi]) rfl (fun w' hw' => by rw [show Int.toNat (k : Int) * 5 = k * 5 from by omega]; exact hcp w' [] (hw'.fr (w0 := w) (S := []) (MI.m (by repeat constructor))) (by simp) k (by omega))) rfl ?_))
           all_goals refine tl_e (e_allocN rfl) rfl (fun b5 _ => ?_); refine tl_e (e_storeW rfl rfl (by repeat constructor) (by rfl) (by rfl) (by simp [Value.oneCell'])) rfl (fun _ _ => ?_); refine tl_nil ?_; ((refine hK7 ?_; try (clear hK7; clear K7)))
           all_goals refine tc_region ?_; refine tl_q (y_field rfl) rfl ?_; refine tl_q (y_load1 rfl (by repeat constructor) (by rfl)) rfl ?_; refine tl_q (y_field rfl) rfl ?_; refine tl_q (y_load1 rfl (by repeat constructor) (by rfl)) rfl ?_; refine tl_q (y_field rfl) rfl ?_; refine tl_q (y_load1 rfl (by repeat constructor) (by rfl)) rfl ?_; refine tl_q (y_field rfl) rfl ?_; refine tl_q (y_load1 rfl (by repeat constructor) (by rfl)) rfl ?_; refine tl_q (y_field rfl) rfl ?_; refine tl_q (y_field rfl) rfl ?_; refine tl_q (y_load1 rfl (by repeat constructor) (by rfl)) rfl ?_; refine tl_q (y_field rfl) rfl ?_; refine tl_q (y_field rfl) rfl ?_; refine tl_q (y_load1 rfl (by repeat constructor) (by rfl)) rfl ?_; refine tl_q (y_build_g (by repeat constructor)) rfl ?_; refine tl_q (y_build_g (by repeat constructor)) rfl ?_; refine tl_e (e_bsliceG rfl (.agg rfl rfl .nil) rfl rfl) rfl (fun _ _ => ?_); ((refine tl_e (e_appendE (enc := psE) (xs := s.ps.take k) (ys := [s.ps.getD k pas0]) psE_len psE_one rfl rfl rfl hok (fun _ => by repeat constructor) (fun w' hw' => RdS.own0 psE_len hw' (by repeat constructor)) (by simp only [List.length_cons, List.length_nil]; omega) rfl) rfl (fun oo' hok' => ?_)))
           all_goals refine tl_q (y_field rfl) rfl ?_; refine tl_e (e_store1 rfl rfl (by repeat constructor) (by repeat constructor) (by rfl) (by rfl)) rfl (fun _ _ => ?_); refine tl_nil ?_; ((refine hK6 ?_; try (clear hK6; clear K6)))
           all_goals refine tc_region ?_; refine tl_q (y_move rfl) rfl ?_; refine tl_q (y_add rfl rfl (by omega)) rfl ?_; refine tl_q (y_assign rfl) rfl ?_; refine tl_nil ?_
           all_goals (
            have hs := takeG_succ (d := pas0) (l := s.ps) (n := k) (by omega)
            exact tk_round (k + 1, oo') ⟨by dsimp only; omega, by dsimp only; rw [hs]; exact hok'⟩ (by dsimp only; omega) (.cons rfl (.cons rfl (.cons rfl (.cons rfl .nil)))) (fun _ h => by dsimp only; rw [hs]; exact h.subl (SB.s (by repeat constructor)) (SB.s (by repeat constructor))))
         · try simp only [decide_eq_true_eq, decide_eq_false_iff_not, Int.not_lt, Int.not_le, Bool.not_eq_true', Bool.not_eq_false', Decidable.not_not, not_true_eq_false] at hc
           all_goals refine tc_exit ?_; ((refine hK2 ?_; try (clear hK2; clear K2)))
           all_goals refine tc_seq fun K8 hK8 => ?_; refine tc_seq fun K9 hK9 => ?_; refine tc_region ?_; refine tl_q (y_assign rfl) rfl ?_; refine tl_nil ?_; ((refine hK9 ?_; try (clear hK9; clear K9)))
           all_goals refine tc_block ?_
           all_goals (
            refine tc_loop (fun p : Nat × OwnB => p.1 ≤ s.sg.length ∧ okE 3 (s.sg.take p.1) p.2) (fun p => [(1, ptr b1), (2, ptr b2), (3, ptr b3), (6, vi p.1)]) (fun _ => [(w, [])]) (fun p => (b3, .cells #[vi s.B, vi s.P, vi s.L, vi s.F, .slice (some ⟨rb, 0, none⟩) s.st.length rc, ouV (s.ps.take k).length oo, ouV (s.sg.take p.1).length p.2] 36 (0, 0)) :: (rb, .cells (s.st.flatMap boE ++ rj).toArray 4 (0, 0)) :: (b2, .cells #[vi 0, vi 0, vi 0, vi 0, .slice none 0 0, .slice none 0 0, .slice none 0 0] 36 (0, 0)) :: (b1, .cells #[vi s.B, vi s.P, vi s.L, vi s.F, .slice adt s.st.length cpt, .slice adp s.ps.length cpp, .slice adg s.sg.length cpg] 26 (0, 0)) :: (slE 89 sgE (s.sg.take p.1) p.2 ++ slE 92 psE (s.ps.take k) oo)) (fun p => s.sg.length - p.1) ?_ ?_
            · exact tk_start (0, none) ⟨Nat.zero_le _, rfl⟩ (.cons rfl (.cons rfl (.cons rfl (.cons rfl .nil)))) (fun _ h => by rw [slE_none]; exact h.subl (SB.s (by repeat constructor)) (SB.s (by repeat constructor)))
            · rintro ⟨j, oo2⟩ ⟨hj, hok2⟩
              dsimp only at hj hok2 ⊢
              have hjl : (s.sg.take j).length ≤ j := by rw [List.length_take]; omega
              all_goals refine tc_seq fun K10 hK10 => ?_; refine tc_seq fun K11 hK11 => ?_; refine tc_region ?_; refine tl_q (y_move rfl) rfl ?_; refine tl_q (y_field rfl) rfl ?_; refine tl_q (y_load1 rfl (by repeat constructor) (by rfl)) rfl ?_; refine tl_q (y_len rfl) rfl ?_; refine tl_q (y_lss rfl rfl) rfl ?_; refine tl_nil ?_; ((refine hK11 ?_; try (clear hK11; clear K11)))
              all_goals (
               refine tc_cond rfl (fun hc => ?_) (fun hc => ?_)
               · try simp only [decide_eq_true_eq, decide_eq_false_iff_not, Int.not_lt, Int.not_le, Bool.not_eq_true', Bool.not_eq_false', Decidable.not_not, not_true_eq_false] at hc
                 all_goals refine tc_skip ?_; ((refine hK10 ?_; try (clear hK10; clear K10)))
                 all_goals refine tc_seq fun K12 hK12 => ?_; refine tc_block ?_; refine tc_seq fun K13 hK13 => ?_; refine tc_region ?_; refine tl_q (y_field rfl) rfl ?_; refine tl_q (y_load1 rfl (by repeat constructor) (by rfl)) rfl ?_; refine tl_q (y_move rfl) rfl ?_; refine tl_q (y_index rfl rfl (by omega) (hadg (by omega))) rfl ?_; ((refine tl_q (y_loadNo (n := 3) (vs := [vi (s.sg.getD j sgt0).b, vi (s.sg.getD j sgt0).h, .bool (s.sg.getD j sgt0).wh]) rfl (fun w' hw' => by rw [show Int.toNat (j : Int) * 3 = j * 3 from by omega]; exact hcg w' [] (hw'.fr (w0 := w) (S := []) (MI.m (by repeat constructor))) (by simp) j (by omega))) rfl ?_))
                 all_goals refine tl_e (e_allocN rfl) rfl (fun b7 _ => ?_); refine tl_e (e_storeW rfl rfl (by repeat constructor) (by rfl) (by rfl) (by simp [Value.oneCell'])) rfl (fun _ _ => ?_); refine tl_nil ?_; ((refine hK13 ?_; try (clear hK13; clear K13)))
                 all_goals refine tc_region ?_; refine tl_q (y_field rfl) rfl ?_; refine tl_q (y_load1 rfl (by repeat constructor) (by rfl)) rfl ?_; refine tl_q (y_field rfl) rfl ?_; refine tl_q (y_load1 rfl (by repeat constructor) (by rfl)) rfl ?_; refine tl_q (y_field rfl) rfl ?_; refine tl_q (y_load1 rfl (by repeat constructor) (by rfl)) rfl ?_; refine tl_q (y_field rfl) rfl ?_; refine tl_q (y_load1 rfl (by repeat constructor) (by rfl)) rfl ?_; refine tl_q (y_build_g (by repeat constructor)) rfl ?_; refine tl_e (e_bsliceG rfl (.agg rfl rfl .nil) rfl rfl) rfl (fun _ _ => ?_); ((refine tl_e (e_appendE (enc := sgE) (xs := s.sg.take j) (ys := [s.sg.getD j sgt0]) sgE_len sgE_one rfl rfl rfl hok2 (fun _ => by repeat constructor) (fun w' hw' => RdS.own0 sgE_len hw' (by repeat constructor)) (by simp only [List.length_cons, List.length_nil]; omega) rfl) rfl (fun oo' hok' => ?_)))
                 all_goals refine tl_q (y_field rfl) rfl ?_; refine tl_e (e_store1 rfl rfl (by repeat constructor) (by repeat constructor) (by rfl) (by rfl)) rfl (fun _ _ => ?_); refine tl_nil ?_; ((refine hK12 ?_; try (clear hK12; clear K12)))
                 all_goals refine tc_region ?_; refine tl_q (y_move rfl) rfl ?_; refine tl_q (y_add rfl rfl (by omega)) rfl ?_; refine tl_q (y_assign rfl) rfl ?_; refine tl_nil ?_
                 all_goals (
                  have hs := takeG_succ (d := sgt0) (l := s.sg) (n := j) (by omega)
                  exact tk_round (j + 1, oo') ⟨by dsimp only; omega, by dsimp only; rw [hs]; exact hok'⟩ (by dsimp only; omega) (.cons rfl (.cons rfl (.cons rfl (.cons rfl .nil)))) (fun _ h => by dsimp only; rw [hs]; exact h.subl (SB.s (by repeat constructor)) (SB.s (by repeat constructor))))
               · try simp only [decide_eq_true_eq, decide_eq_false_iff_not, Int.not_lt, Int.not_le, Bool.not_eq_true', Bool.not_eq_false', Decidable.not_not, not_true_eq_false] at hc
                 all_goals refine tc_exit ?_; ((refine hK8 ?_; try (clear hK8; clear K8)))
                 all_goals refine tc_seq fun K14 hK14 => ?_; refine tc_region ?_; refine tl_q (y_loadW rfl (by repeat constructor) (by rfl)) rfl ?_; refine tl_e (e_storeW rfl rfl (by repeat constructor) (by rfl) (by rfl) (smV_ones (s := s) rfl rfl rfl)) rfl (fun _ _ => ?_); refine tl_nil ?_; ((refine hK14 ?_; try (clear hK14; clear K14)))
                 all_goals refine tc_ret ?_; (repeat (first | refine tk_then_ret ?_))
                 all_goals (refine tk_ret rfl rfl (.cons (.agg inferInstance rfl (by repeat constructor) (by rfl)) .nil) ?_)
                 all_goals (
                  have e1 := take_all2 (l := s.ps) (n := k) (by omega)
                  have e2 := take_all2 (l := s.sg) (n := j) (by omega)
                  refine fun w' hw' => ?_
                  have h1 := RdS.ofO psE_len hok hw' (by repeat constructor)
                  have h2 := RdS.ofO sgE_len hok2 hw' (by repeat constructor)
                  have h3 := RdS.own (xs := s.st) (cap := rc) (junk := rj) boE_len hw' (b := rb) (by repeat constructor)
                  rw [e1] at h1 ⊢
                  rw [e2] at h2 ⊢
                  exact ⟨((some ⟨rb, 0, none⟩, rc), ouA oo, ouA oo2), rfl, hw'.fr (w0 := w) (S := []) (MI.m (by repeat constructor)), h3, h1, h2⟩))))))
end Go.Sp
/-
  What is so of a bottle depends on its own entries alone.
-/
namespace Go.Sp
open Go Go.Proofs
abbrev psO (s : Smp) (b : Int) : List Pas := s.ps.filter fun p => decide (p.b = b)
abbrev sgO (s : Smp) (b : Int) : List Sgt := s.sg.filter fun g => decide (g.b = b)
/-- Two samples are the same as to a bottle. -/
structure SamB (s s' : Smp) (b : Int) : Prop where
  L : s.L = s'.L
  F : s.F = s'.F
  st : s.st = s'.st
  ps : psO s b = psO s' b
  sg : sgO s b = sgO s' b
def zStp (b h : Int) (acc : Option Int) (q : Pas × Int) : Option Int := match acc with
  | none => none
  | some a => if q.1.b = b ∧ q.2 = h then (if q.1.fr = a then some q.1.to else none) else some a
theorem zStp_no {b h : Int} {acc : Option Int} {q : Pas × Int} (hq : ¬ q.1.b = b) : zStp b h acc q = acc := by
  cases acc with
  | none => rfl
  | some a =>
    show (if q.1.b = b ∧ q.2 = h then (if q.1.fr = a then some q.1.to else none) else some a) = some a
    exact if_neg (fun g => hq g.1)
theorem zStp_filt (b h : Int) : ∀ (l : List (Pas × Int)) (acc : Option Int), l.foldl (zStp b h) acc = (l.filter fun q => decide (q.1.b = b)).foldl (zStp b h) acc
  | [], _ => rfl
  | q :: l, acc => by
    rw [List.foldl_cons, List.filter_cons]
    by_cases hq : q.1.b = b
    · rw [if_pos (by simpa using hq), List.foldl_cons]; exact zStp_filt b h l _
    · rw [if_neg (by simpa using hq), zStp_no hq]; exact zStp_filt b h l _
theorem pasN_fold (s : Smp) (b : Int) (ts : List Int) (hts : ts.length = s.ps.length) (h a0 : Int) : ∀ n, n ≤ s.ps.length → pasN s b ts h a0 n = ((s.ps.zip ts).take n).foldl (zStp b h) (some a0)
  | 0, _ => rfl
  | n + 1, hn => by
    have hz : n < (s.ps.zip ts).length := by rw [List.length_zip]; omega
    have e : (s.ps.zip ts).take (n + 1) = (s.ps.zip ts).take n ++ [(s.ps.getD n pas0, ts.getD n 0)] := by
      rw [List.take_succ, List.getElem?_eq_getElem hz]
      simp [List.getElem?_eq_getElem (show n < s.ps.length by omega), List.getElem?_eq_getElem (show n < ts.length by omega)]
    rw [pasN, e, List.foldl_append, ← pasN_fold s b ts hts h a0 n (by omega)]
    cases pasN s b ts h a0 n <;> rfl
def zch (F b : Int) (z : List (Pas × Int)) : Nat → Option (List Int × Int)
  | 0 => some ([], F)
  | h + 1 => match zch F b z h with
    | none => none
    | some (c, a) => match z.foldl (zStp b h) (some a) with
      | none => none
      | some a' => some (c ++ [a'], a')
abbrev zOwn (b : Int) (ps : List Pas) (ts : List Int) : List (Pas × Int) := (ps.zip ts).filter fun q => decide (q.1.b = b)
theorem chN_z (s : Smp) (b : Int) (ts : List Int) (hts : ts.length = s.ps.length) : ∀ n, chN s b ts n = zch s.F b (zOwn b s.ps ts) n
  | 0 => rfl
  | n + 1 => by
    rw [chN, zch, chN_z s b ts hts n]
    cases zch s.F b (zOwn b s.ps ts) n with
    | none => rfl
    | some q =>
      obtain ⟨c, a⟩ := q
      simp only
      rw [pasN_fold s b ts hts n a _ (Nat.le_refl _), List.take_of_length_le (by rw [List.length_zip]; omega), zStp_filt]
      rfl
def zchF (L F b : Int) (z : List (Pas × Int)) : Option (List Int) := (zch F b z (L + 1).toNat).map fun q => padC q.1
theorem genT_pre (b : Int) : ∀ (ps : List Pas) (pre : List Int), genT b ps pre = (genT b ps []).map fun x => pre ++ x
  | [], pre => by simp [genT]
  | p :: ps, pre => by
    rw [genT, genT]
    split
    · rw [List.map_flatMap]
      refine congrArg (fun f => List.flatMap f _) (funext fun j => ?_)
      rw [genT_pre b ps (pre ++ [_]), genT_pre b ps ([] ++ [_]), List.map_map]
      refine List.map_congr_left fun x _ => ?_
      simp
    · rw [genT_pre b ps (pre ++ [_]), genT_pre b ps ([] ++ [_]), List.map_map]
      refine List.map_congr_left fun x _ => ?_
      simp
def zAll (b : Int) (ps : List Pas) : List (List (Pas × Int)) := (genT b ps []).map (zOwn b ps)
theorem zAll_own {b : Int} {p : Pas} {ps : List Pas} (h : p.b = b) : zAll b (p :: ps) = (List.range (p.hi - p.lo + 1).toNat).flatMap fun (j : Nat) => (zAll b ps).map fun z => (p, p.lo + (j : Int)) :: z := by
  unfold zAll
  rw [genT, if_pos h, List.map_flatMap]
  refine congrArg (fun f => List.flatMap f _) (funext fun j => ?_)
  rw [genT_pre, List.map_map, List.map_map]
  refine List.map_congr_left fun x _ => ?_
  simp [zOwn, h]
theorem zAll_oth {b : Int} {p : Pas} {ps : List Pas} (h : ¬ p.b = b) : zAll b (p :: ps) = zAll b ps := by
  unfold zAll
  rw [genT, if_neg h, genT_pre, List.map_map]
  refine List.map_congr_left fun x _ => ?_
  simp [zOwn, h]
theorem chF_z {s : Smp} {b : Int} {ts : List Int} (hts : ts.length = s.ps.length) : chF s b ts = zchF s.L s.F b (zOwn b s.ps ts) := by
  unfold chF zchF
  rw [chN_z s b ts hts]
theorem seen_own (s : Smp) (b h : Int) (x : Bool) : seenB s b h x = (sgO s b).all (sgB b h x) := by
  unfold seenB sgO
  rw [List.all_filter]
  refine congrArg (fun f => s.sg.all f) (funext fun g => ?_)
  unfold sgB
  by_cases hb : g.b = b
  · rw [decide_eq_true hb]; rfl
  · rw [decide_eq_true hb, decide_eq_false hb]; rfl
theorem SamB.seen {s s' : Smp} {b : Int} (h : SamB s s' b) : seenB s b = seenB s' b := funext fun hr => funext fun x => by rw [seen_own, seen_own, h.sg]
theorem SamB.step {s s' : Smp} {b : Int} (h : SamB s s' b) : stepN s b = stepN s' b := funext fun hr => funext fun st => funext fun x => funext fun n => by
  unfold stepN stp1
  rw [h.seen]
theorem SamB.stB {s s' : Smp} {b : Int} (h : SamB s s' b) : stB s = stB s' := funext fun c => funext fun hr => by unfold Go.Sp.stB; rw [h.st]
theorem SamB.rst {s s' : Smp} {b : Int} (h : SamB s s' b) (c : List Int) : ∀ k, rstF s b c k = rstF s' b c k
  | 0 => funext fun x => by rw [rstF, rstF]
  | k + 1 => funext fun x => by
    rw [rstF, rstF, SamB.rst h c k]
    show minP (stepN s b _ _ x 4) _ (stepN s b _ _ x 4).length = minP (stepN s' b _ _ x 4) _ (stepN s' b _ _ x 4).length
    rw [h.step, h.stB, h.L]
theorem SamB.can {s s' : Smp} {b : Int} (h : SamB s s' b) : canF s b = canF s' b := funext fun c => by unfold canF; rw [h.rst, h.L]
theorem SamB.on {s s' : Smp} {b : Int} (h : SamB s s' b) (c : List Int) : onL s b c = onL s' b c := funext fun hr => funext fun x => funext fun n => by
  unfold onL
  show ((stepN s b _ _ x 4).take n).filter _ = ((stepN s' b _ _ x 4).take n).filter _
  rw [h.rst, h.step, h.stB, h.L]
theorem SamB.cnd {s s' : Smp} {b : Int} (h : SamB s s' b) (c : List Int) : cnd s b c = cnd s' b c := funext fun hr => funext fun now => by
  show (now.flatMap fun x => onL s b c hr x (stepN s b hr (Go.Sp.stB s c hr) x 4).length) = (now.flatMap fun x => onL s' b c hr x (stepN s' b hr (Go.Sp.stB s' c hr) x 4).length)
  rw [h.on, h.step, h.stB]
theorem SamB.now {s s' : Smp} {b : Int} (h : SamB s s' b) (c : List Int) : ∀ n, nowN s b c n = nowN s' b c n
  | 0 => rfl
  | n + 1 => by
    rw [nowN, nowN, SamB.now h c n]
    exact congrArg (fun f => ddB ((f n (nowN s' b c n)).map Prod.fst)) (h.cnd c)
theorem SamB.opn {s s' : Smp} {b : Int} (h : SamB s s' b) (c : List Int) : opnL s b c = opnL s' b c := by
  have e : opnH s b c = opnH s' b c := funext fun n => by
    unfold opnH
    rw [h.now c n]
    exact congrArg (fun f => (f n (nowN s' b c n)).any fun y => decide (y.2 = 1)) (h.cnd c)
  show outN s b c _ _ = outN s' b c _ _
  unfold outN
  rw [e, h.L]
end Go.Sp
/-
  The reference of samples: acts, sights, lists of hours, holders.
-/
namespace Go.Sp
open Go Go.Proofs
def acY (x : Bool) (a : Int) : Bool := if a = 1 then true else if a = 2 then false else if a = 3 then false else x
def acIs (x st : Bool) (a : Int) : Bool := if a = 1 then !x else if a = 2 then x && st else if a = 3 then !x && st else true
theorem acY_nat (x : Bool) {n : Nat} (h : n < 4) : acY x n = actY x n := by
  match n, h with
  | 0, _ => rfl
  | 1, _ => rfl
  | 2, _ => rfl
  | 3, _ => rfl
theorem acIs_nat (x st : Bool) {n : Nat} (h : n < 4) : acIs x st n = actIs x st n := by
  match n, h with
  | 0, _ => rfl
  | 1, _ => rfl
  | 2, _ => rfl
  | 3, _ => rfl
theorem acted_c (x st : Bool) (a : Int) (w : World) : CnV Tryz.prog 74 #[.bool x, .bool st, vi a] w (.tuple #[.bool (acY x a), .bool (acIs x st a)]) := by
  refine cnv (vs := [_, _, _]) Tryz.func74 rfl rfl ?_
  all_goals refine tc_seq fun K1 hK1 => ?_; refine tc_region ?_; refine tl_q (y_assign rfl) rfl ?_; refine tl_q (y_assign rfl) rfl ?_; refine tl_nil ?_; ((refine hK1 ?_; try (clear hK1; clear K1)))
  all_goals refine tc_seq fun K2 hK2 => ?_; refine tc_seq fun K3 hK3 => ?_; refine tc_region ?_; refine tl_q (y_move rfl) rfl ?_; refine tl_nil ?_; ((refine hK3 ?_; try (clear hK3; clear K3)))
  all_goals refine tc_block ?_; refine tc_seq fun K4 hK4 => ?_; refine tc_region ?_; refine tl_q (y_eql rfl rfl) rfl ?_; refine tl_q (y_assign rfl) rfl ?_; refine tl_nil ?_; ((refine hK4 ?_; try (clear hK4; clear K4)))
  all_goals (
   refine tc_cond rfl (fun hc => ?_) (fun hc => ?_)
   · try simp only [decide_eq_true_eq, decide_eq_false_iff_not, Int.not_lt, Int.not_le, Bool.not_eq_true', Bool.not_eq_false', Decidable.not_not, not_true_eq_false] at hc
     all_goals refine tc_seq fun K5 hK5 => ?_; refine tc_region ?_; refine tl_q (y_move rfl) rfl ?_; refine tl_q (y_not rfl) rfl ?_; refine tl_q (y_assign rfl) rfl ?_; refine tl_q (y_assign rfl) rfl ?_; refine tl_nil ?_; ((refine hK5 ?_; try (clear hK5; clear K5)))
     all_goals refine tc_ret ?_; (repeat (first | refine tk_then_ret ?_ | refine tk_block_ret ?_))
     all_goals (refine tk_ret rfl rfl (.cons (.tmp rfl) (.cons (.tmp rfl) .nil)) ?_)
     all_goals (
      refine fun w' hw' => ⟨?_, hw'.fr (by simp)⟩
      unfold acY acIs
      first
      | (rw [if_pos (by omega), if_pos (by omega)]; cases x <;> cases st <;> rfl)
      | (rw [if_neg (by omega), if_pos (by omega), if_neg (by omega), if_pos (by omega)]; cases x <;> cases st <;> simp_all <;> rfl)
      | (rw [if_neg (by omega), if_neg (by omega), if_pos (by omega), if_neg (by omega), if_neg (by omega), if_pos (by omega)]; cases x <;> cases st <;> simp_all <;> rfl)
      | (rw [if_neg (by omega), if_neg (by omega), if_neg (by omega), if_neg (by omega), if_neg (by omega), if_neg (by omega)]; rfl))
   · try simp only [decide_eq_true_eq, decide_eq_false_iff_not, Int.not_lt, Int.not_le, Bool.not_eq_true', Bool.not_eq_false', Decidable.not_not, not_true_eq_false] at hc
     all_goals refine tc_seq fun K6 hK6 => ?_; refine tc_region ?_; refine tl_q (y_eql rfl rfl) rfl ?_; refine tl_q (y_assign rfl) rfl ?_; refine tl_nil ?_; ((refine hK6 ?_; try (clear hK6; clear K6)))
     all_goals (
      refine tc_cond rfl (fun hc => ?_) (fun hc => ?_)
      · try simp only [decide_eq_true_eq, decide_eq_false_iff_not, Int.not_lt, Int.not_le, Bool.not_eq_true', Bool.not_eq_false', Decidable.not_not, not_true_eq_false] at hc
        all_goals refine tc_seq fun K7 hK7 => ?_; refine tc_region ?_; refine tl_q (y_move rfl) rfl ?_; refine tl_q (y_move rfl) rfl ?_; ((refine tl_gs rfl rfl (fun hc => ?_) (fun hc => ?_) <;> (try simp only [decide_eq_true_eq, decide_eq_false_iff_not, Int.not_lt, Int.not_le, Bool.not_eq_true', Bool.not_eq_false', Decidable.not_not, not_true_eq_false] at hc) <;> (first | refine tl_sk rfl rfl rfl rfl ?_ | refine tl_qg rfl rfl (y_move rfl) rfl ?_)))
        all_goals (first | refine tl_q (y_pick_t rfl rfl) rfl ?_ | refine tl_q (y_pick_f rfl rfl) rfl ?_); refine tl_q (y_assign rfl) rfl ?_; refine tl_q (y_assign rfl) rfl ?_; refine tl_nil ?_; ((refine hK7 ?_; try (clear hK7; clear K7)))
        all_goals refine tc_ret ?_; (repeat (first | refine tk_then_ret ?_ | refine tk_block_ret ?_))
        all_goals (refine tk_ret rfl rfl (.cons (.tmp rfl) (.cons (.tmp rfl) .nil)) ?_)
        all_goals (
         refine fun w' hw' => ⟨?_, hw'.fr (by simp)⟩
         unfold acY acIs
         first
         | (rw [if_pos (by omega), if_pos (by omega)]; cases x <;> cases st <;> rfl)
         | (rw [if_neg (by omega), if_pos (by omega), if_neg (by omega), if_pos (by omega)]; cases x <;> cases st <;> simp_all <;> rfl)
         | (rw [if_neg (by omega), if_neg (by omega), if_pos (by omega), if_neg (by omega), if_neg (by omega), if_pos (by omega)]; cases x <;> cases st <;> simp_all <;> rfl)
         | (rw [if_neg (by omega), if_neg (by omega), if_neg (by omega), if_neg (by omega), if_neg (by omega), if_neg (by omega)]; rfl))
      · try simp only [decide_eq_true_eq, decide_eq_false_iff_not, Int.not_lt, Int.not_le, Bool.not_eq_true', Bool.not_eq_false', Decidable.not_not, not_true_eq_false] at hc
        all_goals refine tc_seq fun K8 hK8 => ?_; refine tc_region ?_; refine tl_q (y_eql rfl rfl) rfl ?_; refine tl_q (y_assign rfl) rfl ?_; refine tl_nil ?_; ((refine hK8 ?_; try (clear hK8; clear K8)))
        all_goals (
         refine tc_cond rfl (fun hc => ?_) (fun hc => ?_)
         · try simp only [decide_eq_true_eq, decide_eq_false_iff_not, Int.not_lt, Int.not_le, Bool.not_eq_true', Bool.not_eq_false', Decidable.not_not, not_true_eq_false] at hc
           all_goals refine tc_seq fun K9 hK9 => ?_; refine tc_region ?_; refine tl_q (y_move rfl) rfl ?_; refine tl_q (y_not rfl) rfl ?_; refine tl_q (y_move rfl) rfl ?_; ((refine tl_gs rfl rfl (fun hc => ?_) (fun hc => ?_) <;> (try simp only [decide_eq_true_eq, decide_eq_false_iff_not, Int.not_lt, Int.not_le, Bool.not_eq_true', Bool.not_eq_false', Decidable.not_not, not_true_eq_false] at hc) <;> (first | refine tl_sk rfl rfl rfl rfl ?_ | refine tl_qg rfl rfl (y_move rfl) rfl ?_)))
           all_goals (first | refine tl_q (y_pick_t rfl rfl) rfl ?_ | refine tl_q (y_pick_f rfl rfl) rfl ?_); refine tl_q (y_assign rfl) rfl ?_; refine tl_q (y_assign rfl) rfl ?_; refine tl_nil ?_; ((refine hK9 ?_; try (clear hK9; clear K9)))
           all_goals refine tc_ret ?_; (repeat (first | refine tk_then_ret ?_ | refine tk_block_ret ?_))
           all_goals (refine tk_ret rfl rfl (.cons (.tmp rfl) (.cons (.tmp rfl) .nil)) ?_)
           all_goals (
            refine fun w' hw' => ⟨?_, hw'.fr (by simp)⟩
            unfold acY acIs
            first
            | (rw [if_pos (by omega), if_pos (by omega)]; cases x <;> cases st <;> rfl)
            | (rw [if_neg (by omega), if_pos (by omega), if_neg (by omega), if_pos (by omega)]; cases x <;> cases st <;> simp_all <;> rfl)
            | (rw [if_neg (by omega), if_neg (by omega), if_pos (by omega), if_neg (by omega), if_neg (by omega), if_pos (by omega)]; cases x <;> cases st <;> simp_all <;> rfl)
            | (rw [if_neg (by omega), if_neg (by omega), if_neg (by omega), if_neg (by omega), if_neg (by omega), if_neg (by omega)]; rfl))
         · try simp only [decide_eq_true_eq, decide_eq_false_iff_not, Int.not_lt, Int.not_le, Bool.not_eq_true', Bool.not_eq_false', Decidable.not_not, not_true_eq_false] at hc
           all_goals refine tc_skip ?_; ((refine hK2 ?_; try (clear hK2; clear K2)))
           all_goals refine tc_seq fun K10 hK10 => ?_; refine tc_region ?_; refine tl_q (y_move rfl) rfl ?_; refine tl_q (y_assign rfl) rfl ?_; refine tl_q (y_assign rfl) rfl ?_; refine tl_nil ?_; ((refine hK10 ?_; try (clear hK10; clear K10)))
           all_goals refine tc_ret ?_; (repeat (first | refine tk_then_ret ?_))
           all_goals (refine tk_ret rfl rfl (.cons (.tmp rfl) (.cons (.tmp rfl) .nil)) ?_)
           all_goals (
            refine fun w' hw' => ⟨?_, hw'.fr (by simp)⟩
            unfold acY acIs
            first
            | (rw [if_pos (by omega), if_pos (by omega)]; cases x <;> cases st <;> rfl)
            | (rw [if_neg (by omega), if_pos (by omega), if_neg (by omega), if_pos (by omega)]; cases x <;> cases st <;> simp_all <;> rfl)
            | (rw [if_neg (by omega), if_neg (by omega), if_pos (by omega), if_neg (by omega), if_neg (by omega), if_pos (by omega)]; cases x <;> cases st <;> simp_all <;> rfl)
            | (rw [if_neg (by omega), if_neg (by omega), if_neg (by omega), if_neg (by omega), if_neg (by omega), if_neg (by omega)]; rfl)))))
theorem sgB_no {b h : Int} {x : Bool} {g : Sgt} (hg : sgB b h x g = false) : g.b = b ∧ g.h = h ∧ g.wh = x := by
  unfold sgB at hg
  simp only [Bool.or_eq_false_iff, decide_eq_false_iff_not, Decidable.not_not, bne_eq_false_iff_eq] at hg
  exact hg
theorem agrees_c (s : Smp) (hf : s.sg.length ≤ 9) (b h : Int) (x : Bool) (tv pv gv : Value) (w : World) (hr : RdS 3 sgE w gv s.sg) : CnV Tryz.prog 75 #[smV s tv pv gv, vi b, vi h, .bool x] w (.bool (seenB s b h x)) := by
  obtain ⟨adg, cpg, bg, og, rfl, hadg, hcg⟩ := hr.open sgE_len sgt0
  refine cnv (vs := [_, _, _, _]) Tryz.func75 rfl rfl ?_
  all_goals refine tc_seq fun K1 hK1 => ?_; refine tc_region ?_; refine tl_e (e_box rfl rfl rfl) rfl (fun b4 _ => ?_); refine tl_q (y_assign rfl) rfl ?_; refine tl_nil ?_; ((refine hK1 ?_; try (clear hK1; clear K1)))
  all_goals refine tc_seq fun K2 hK2 => ?_; refine tc_seq fun K3 hK3 => ?_; refine tc_region ?_; refine tl_q (y_assign rfl) rfl ?_; refine tl_nil ?_; ((refine hK3 ?_; try (clear hK3; clear K3)))
  all_goals refine tc_block ?_
  all_goals (
   refine tc_loop (fun j : Nat => j ≤ s.sg.length ∧ ∀ i, i < j → sgB b h x (s.sg.getD i sgt0) = true) (fun j => [(1, vi b), (2, vi h), (3, .bool x), (4, ptr b4), (9, vi j)]) (fun _ => [(w, [])]) (fun _ => [(b4, .cells #[vi s.B, vi s.P, vi s.L, vi s.F, tv, pv, .slice adg s.sg.length cpg] 26 (0, 0))]) (fun j => s.sg.length - j) ?_ ?_
   · exact tk_start 0 ⟨Nat.zero_le _, fun i hi => absurd hi (Nat.not_lt_zero i)⟩ (.cons rfl (.cons rfl (.cons rfl (.cons rfl (.cons rfl .nil))))) (fun _ h => h.subl (SB.s (by repeat constructor)) (SB.s (by repeat constructor)))
   · rintro j ⟨hj, hall⟩
     all_goals refine tc_seq fun K4 hK4 => ?_; refine tc_seq fun K5 hK5 => ?_; refine tc_region ?_; refine tl_q (y_move rfl) rfl ?_; refine tl_q (y_field rfl) rfl ?_; refine tl_q (y_load1 rfl (by repeat constructor) (by rfl)) rfl ?_; refine tl_q (y_len rfl) rfl ?_; refine tl_q (y_lss rfl rfl) rfl ?_; refine tl_nil ?_; ((refine hK5 ?_; try (clear hK5; clear K5)))
     all_goals (
      refine tc_cond rfl (fun hc => ?_) (fun hc => ?_)
      · try simp only [decide_eq_true_eq, decide_eq_false_iff_not, Int.not_lt, Int.not_le, Bool.not_eq_true', Bool.not_eq_false', Decidable.not_not, not_true_eq_false] at hc
        all_goals refine tc_skip ?_; ((refine hK4 ?_; try (clear hK4; clear K4)))
        all_goals refine tc_seq fun K6 hK6 => ?_; refine tc_block ?_; refine tc_seq fun K7 hK7 => ?_; refine tc_region ?_; refine tl_q (y_field rfl) rfl ?_; refine tl_q (y_load1 rfl (by repeat constructor) (by rfl)) rfl ?_; refine tl_q (y_move rfl) rfl ?_; refine tl_q (y_index rfl rfl (by omega) (hadg (by omega))) rfl ?_; ((refine tl_q (y_loadNo (n := 3) (vs := [vi (s.sg.getD j sgt0).b, vi (s.sg.getD j sgt0).h, .bool (s.sg.getD j sgt0).wh]) rfl (fun w' hw' => by rw [show Int.toNat (j : Int) * 3 = j * 3 from by omega]; exact hcg w' [] (hw'.fr (w0 := w) (S := []) (MI.m (by repeat constructor))) (by simp) j (by omega))) rfl ?_))
        all_goals refine tl_e (e_allocN rfl) rfl (fun b10 _ => ?_); refine tl_e (e_storeW rfl rfl (by repeat constructor) (by rfl) (by rfl) (by simp [Value.oneCell'])) rfl (fun _ _ => ?_); refine tl_nil ?_; ((refine hK7 ?_; try (clear hK7; clear K7)))
        all_goals refine tc_seq fun K8 hK8 => ?_; refine tc_region ?_; refine tl_q (y_field rfl) rfl ?_; refine tl_q (y_load1 rfl (by repeat constructor) (by rfl)) rfl ?_; refine tl_q (y_move rfl) rfl ?_; refine tl_q (y_eql rfl rfl) rfl ?_; refine tl_q (y_move rfl) rfl ?_; ((refine tl_gs rfl rfl (fun hc => ?_) (fun hc => ?_) <;> (try simp only [decide_eq_true_eq, decide_eq_false_iff_not, Int.not_lt, Int.not_le, Bool.not_eq_true', Bool.not_eq_false', Decidable.not_not, not_true_eq_false] at hc) <;> (first | refine tl_sk rfl rfl rfl rfl ?_ | refine tl_qg rfl rfl (y_field rfl) rfl ?_)))
        all_goals (first | refine tl_sk rfl rfl rfl rfl ?_ | refine tl_qg rfl rfl (y_load1 rfl (by repeat constructor) (by rfl)) rfl ?_); (first | refine tl_sk rfl rfl rfl rfl ?_ | refine tl_qg rfl rfl (y_move rfl) rfl ?_); (first | refine tl_sk rfl rfl rfl rfl ?_ | refine tl_qg rfl rfl (y_eql rfl rfl) rfl ?_); (first | refine tl_q (y_pick_t rfl rfl) rfl ?_ | refine tl_q (y_pick_f rfl rfl) rfl ?_); refine tl_q (y_move rfl) rfl ?_; ((first | refine tl_sk rfl rfl rfl rfl ?_ | (refine tl_gs rfl rfl (fun hc => ?_) (fun hc => ?_) <;> (try simp only [decide_eq_true_eq, decide_eq_false_iff_not, Int.not_lt, Int.not_le, Bool.not_eq_true', Bool.not_eq_false', Decidable.not_not, not_true_eq_false] at hc) <;> (first | refine tl_sk rfl rfl rfl rfl ?_ | refine tl_qg rfl rfl (y_field rfl) rfl ?_))))
        all_goals (first | refine tl_sk rfl rfl rfl rfl ?_ | refine tl_qg rfl rfl (y_load1 rfl (by repeat constructor) (by rfl)) rfl ?_); (first | refine tl_sk rfl rfl rfl rfl ?_ | refine tl_qg rfl rfl (y_move rfl) rfl ?_); (first | refine tl_sk rfl rfl rfl rfl ?_ | refine tl_qg rfl rfl (y_eqlb rfl rfl) rfl ?_); (first | refine tl_q (y_pick_t rfl rfl) rfl ?_ | refine tl_q (y_pick_f rfl rfl) rfl ?_); refine tl_nil ?_; ((refine hK8 ?_; try (clear hK8; clear K8)))
        all_goals (
         refine tc_cond rfl (fun hc => ?_) (fun hc => ?_)
         · all_goals ((first | (exfalso; with_reducible exact bft hc) | skip))
           all_goals refine tc_seq fun K9 hK9 => ?_; refine tc_region ?_; refine tl_q (y_assign rfl) rfl ?_; refine tl_nil ?_; ((refine hK9 ?_; try (clear hK9; clear K9)))
           all_goals refine tc_ret ?_; (repeat (first | refine tk_then_ret ?_ | refine tk_block_ret ?_))
           all_goals (refine tk_ret rfl rfl (.cons (.tmp rfl) .nil) ?_)
           all_goals (
            first
            | (have hE : seenB s b h x = true := all_upto (by omega) hall
               rw [hE]
               exact fun w' hw' => ⟨rfl, hw'.fr (w0 := w) (S := []) (MI.m (by repeat constructor))⟩)
            | (have hE : seenB s b h x = false := all_not (p := sgB b h x) (d := sgt0) (n := j) (by omega) (fun g => by unfold sgB at g; simp_all)
               rw [hE]
               exact fun w' hw' => ⟨rfl, hw'.fr (w0 := w) (S := []) (MI.m (by repeat constructor))⟩))
         · try simp only [decide_eq_true_eq, decide_eq_false_iff_not, Int.not_lt, Int.not_le, Bool.not_eq_true', Bool.not_eq_false', Decidable.not_not, not_true_eq_false] at hc
           all_goals refine tc_skip ?_; ((refine hK6 ?_; try (clear hK6; clear K6)))
           all_goals refine tc_region ?_; refine tl_q (y_move rfl) rfl ?_; refine tl_q (y_add rfl rfl (by omega)) rfl ?_; refine tl_q (y_assign rfl) rfl ?_; refine tl_nil ?_
           all_goals (
            exact tk_round (j + 1) ⟨by omega, fun i hi => by
              rcases Nat.lt_succ_iff_lt_or_eq.1 hi with g | rfl
              · exact hall i g
              · cases hq : sgB b h x (s.sg.getD i sgt0) with
                | true => rfl
                | false => exfalso; have hq2 := sgB_no hq; simp_all⟩ (by omega) (.cons rfl (.cons rfl (.cons rfl (.cons rfl (.cons rfl .nil))))) (fun _ h => h.subl (SB.s (by repeat constructor)) (SB.s (by repeat constructor)))))
      · try simp only [decide_eq_true_eq, decide_eq_false_iff_not, Int.not_lt, Int.not_le, Bool.not_eq_true', Bool.not_eq_false', Decidable.not_not, not_true_eq_false] at hc
        all_goals refine tc_exit ?_; ((refine hK2 ?_; try (clear hK2; clear K2)))
        all_goals refine tc_seq fun K10 hK10 => ?_; refine tc_region ?_; refine tl_q (y_assign rfl) rfl ?_; refine tl_nil ?_; ((refine hK10 ?_; try (clear hK10; clear K10)))
        all_goals refine tc_ret ?_; (repeat (first | refine tk_then_ret ?_))
        all_goals (refine tk_ret rfl rfl (.cons (.tmp rfl) .nil) ?_)
        all_goals (
         first
         | (have hE : seenB s b h x = true := all_upto (by omega) hall
            rw [hE]
            exact fun w' hw' => ⟨rfl, hw'.fr (w0 := w) (S := []) (MI.m (by repeat constructor))⟩)
         | (have hE : seenB s b h x = false := all_not (p := sgB b h x) (d := sgt0) (n := j) (by omega) (fun g => by unfold sgB at g; simp_all)
            rw [hE]
            exact fun w' hw' => ⟨rfl, hw'.fr (w0 := w) (S := []) (MI.m (by repeat constructor))⟩))))
def heldF (s : Smp) (b : Int) (ts : List Int) : Option (List Int) := (chN s b ts (s.L + 1).toNat).map Prod.fst
theorem heldN_c (s : Smp) (hv : VSm s) (b : Int) (ts : List Int) (hts : ts.length = s.ps.length) (tv pv gv hv' : Value) (w : World) (hr : RdSm w s tv pv gv) (hh : RdI w hv' ts) :
    CnX Tryz.prog 59 #[smV s tv pv gv, vi b, hv'] w [] (fun y : Option Addr × Nat => .tuple #[slV ((heldF s b ts).getD []).length y, .bool (heldF s b ts).isSome]) (fun y w' => RdI w' (slV ((heldF s b ts).getD []).length y) ((heldF s b ts).getD []) ∧ NewS w (slV ((heldF s b ts).getD []).length y)) := by
  have hl0 := hv.l0
  have hl9 := hv.l9
  have hn6 := hv.n6
  obtain ⟨adp, cpp, bp, op, rfl, hadp, hcp⟩ := hr.ps.open psE_len pas0
  obtain ⟨adh, cph, bh, oh, rfl, hadh, hch⟩ := hh.open
  refine cnx0 (vs := [_, _, _]) Tryz.func59 rfl rfl ?_
  all_goals refine tc_seq fun K1 hK1 => ?_; refine tc_region ?_; refine tl_e (e_box rfl rfl rfl) rfl (fun b3 _ => ?_); refine tl_q (y_assign rfl) rfl ?_; refine tl_q (y_assign rfl) rfl ?_; refine tl_nil ?_; ((refine hK1 ?_; try (clear hK1; clear K1)))
  all_goals refine tc_seq fun K2 hK2 => ?_; refine tc_region ?_; refine tl_q (y_assign rfl) rfl ?_; refine tl_nil ?_; ((refine hK2 ?_; try (clear hK2; clear K2)))
  all_goals refine tc_seq fun K3 hK3 => ?_; refine tc_region ?_; refine tl_q (y_field rfl) rfl ?_; refine tl_q (y_load1 rfl (by repeat constructor) (by rfl)) rfl ?_; refine tl_q (y_assign rfl) rfl ?_; refine tl_nil ?_; ((refine hK3 ?_; try (clear hK3; clear K3)))
  all_goals refine tc_seq fun K4 hK4 => ?_; refine tc_seq fun K5 hK5 => ?_; refine tc_region ?_; refine tl_q (y_assign rfl) rfl ?_; refine tl_nil ?_; ((refine hK5 ?_; try (clear hK5; clear K5)))
  all_goals refine tc_block ?_
  all_goals (
   refine tc_loop (fun p : Nat × (List Int × Int) × OwnB => (p.1 : Int) ≤ s.L + 1 ∧ chN s b ts p.1 = some p.2.1 ∧ okE 1 p.2.1.1 p.2.2) (fun p => [(1, vi b), (2, .slice adh ts.length cph), (3, ptr b3), (8, ouV p.2.1.1.length p.2.2), (9, vi p.2.1.2), (10, vi p.1)]) (fun _ => [(w, [])]) (fun p => (b3, .cells #[vi s.B, vi s.P, vi s.L, vi s.F, tv, .slice adp s.ps.length cpp, gv] 26 (0, 0)) :: slE 3 inE p.2.1.1 p.2.2) (fun p => (s.L + 1).toNat - p.1) ?_ ?_
   · exact tk_start (0, ([], s.F), none) ⟨by dsimp only; omega, rfl, rfl⟩ (.cons rfl (.cons rfl (.cons rfl (.cons rfl (.cons rfl (.cons rfl .nil)))))) (fun _ h => by rw [slE_none]; exact h.subl (SB.s (by repeat constructor)) (SB.s (by repeat constructor)))
   · rintro ⟨h, ⟨c, a⟩, oo⟩ ⟨hh2, hcn, hok⟩
     dsimp only at hh2 hcn hok ⊢
     have hcl := chN_len hcn
     dsimp only at hcl
     all_goals refine tc_seq fun K6 hK6 => ?_; refine tc_seq fun K7 hK7 => ?_; refine tc_region ?_; refine tl_q (y_move rfl) rfl ?_; refine tl_q (y_field rfl) rfl ?_; refine tl_q (y_load1 rfl (by repeat constructor) (by rfl)) rfl ?_; refine tl_q (y_leq rfl rfl) rfl ?_; refine tl_nil ?_; ((refine hK7 ?_; try (clear hK7; clear K7)))
     all_goals (
      refine tc_cond rfl (fun hc => ?_) (fun hc => ?_)
      · try simp only [decide_eq_true_eq, decide_eq_false_iff_not, Int.not_lt, Int.not_le, Bool.not_eq_true', Bool.not_eq_false', Decidable.not_not, not_true_eq_false] at hc
        all_goals refine tc_skip ?_; ((refine hK6 ?_; try (clear hK6; clear K6)))
        all_goals refine tc_seq fun K8 hK8 => ?_; refine tc_block ?_; refine tc_seq fun K9 hK9 => ?_; refine tc_seq fun K10 hK10 => ?_; refine tc_region ?_; refine tl_q (y_assign rfl) rfl ?_; refine tl_nil ?_; ((refine hK10 ?_; try (clear hK10; clear K10)))
        all_goals refine tc_block ?_
        all_goals (
         refine tc_loop (fun p : Nat × Int => p.1 ≤ s.ps.length ∧ pasN s b ts h a p.1 = some p.2) (fun p => [(1, vi b), (2, .slice adh ts.length cph), (3, ptr b3), (8, ouV c.length oo), (9, vi p.2), (10, vi h), (11, vi p.1)]) (fun _ => [(w, [])]) (fun p => (b3, .cells #[vi s.B, vi s.P, vi s.L, vi s.F, tv, .slice adp s.ps.length cpp, gv] 26 (0, 0)) :: slE 3 inE c oo) (fun p => s.ps.length - p.1) ?_ ?_
         · exact tk_start (0, a) ⟨Nat.zero_le _, rfl⟩ (.cons rfl (.cons rfl (.cons rfl (.cons rfl (.cons rfl (.cons rfl (.cons rfl .nil))))))) (fun _ h => h.subl (SB.s (by repeat constructor)) (SB.s (by repeat constructor)))
         · rintro ⟨n, a1⟩ ⟨hn, hpn⟩
           dsimp only at hn hpn ⊢
           all_goals refine tc_seq fun K11 hK11 => ?_; refine tc_seq fun K12 hK12 => ?_; refine tc_region ?_; refine tl_q (y_move rfl) rfl ?_; refine tl_q (y_move rfl) rfl ?_; refine tl_q (y_len rfl) rfl ?_; refine tl_q (y_lss rfl rfl) rfl ?_; refine tl_nil ?_; ((refine hK12 ?_; try (clear hK12; clear K12)))
           all_goals (
            refine tc_cond rfl (fun hc => ?_) (fun hc => ?_)
            · try simp only [decide_eq_true_eq, decide_eq_false_iff_not, Int.not_lt, Int.not_le, Bool.not_eq_true', Bool.not_eq_false', Decidable.not_not, not_true_eq_false] at hc
              all_goals refine tc_skip ?_; ((refine hK11 ?_; try (clear hK11; clear K11)))
              all_goals refine tc_seq fun K13 hK13 => ?_; refine tc_block ?_; refine tc_seq fun K14 hK14 => ?_; refine tc_region ?_; refine tl_q (y_field rfl) rfl ?_; refine tl_q (y_load1 rfl (by repeat constructor) (by rfl)) rfl ?_; refine tl_q (y_move rfl) rfl ?_; refine tl_q (y_index rfl rfl (by omega) (hadp (by omega))) rfl ?_; ((refine tl_q (y_loadNo (n := 5) (vs := [vi (s.ps.getD n pas0).b, vi (s.ps.getD n pas0).fr, vi (s.ps.getD n pas0).to, vi (s.ps.getD n pas0).lo, vi (s.ps.getD n pas0).hi]) rfl (fun w' hw' => by rw [show Int.toNat (n : Int) * 5 = n * 5 from by omega]; exact hcp w' [] (hw'.fr (w0 := w) (S := []) (MI.m (by repeat constructor))) (by simp) n (by omega))) rfl ?_))
              all_goals refine tl_e (e_allocN rfl) rfl (fun b12 _ => ?_); refine tl_e (e_storeW rfl rfl (by repeat constructor) (by rfl) (by rfl) (by simp [Value.oneCell'])) rfl (fun _ _ => ?_); refine tl_nil ?_; ((refine hK14 ?_; try (clear hK14; clear K14)))
              all_goals refine tc_seq fun K15 hK15 => ?_; refine tc_region ?_; refine tl_q (y_field rfl) rfl ?_; refine tl_q (y_load1 rfl (by repeat constructor) (by rfl)) rfl ?_; refine tl_q (y_move rfl) rfl ?_; refine tl_q (y_eql rfl rfl) rfl ?_; refine tl_q (y_move rfl) rfl ?_; ((refine tl_gs rfl rfl (fun hc => ?_) (fun hc => ?_) <;> (try simp only [decide_eq_true_eq, decide_eq_false_iff_not, Int.not_lt, Int.not_le, Bool.not_eq_true', Bool.not_eq_false', Decidable.not_not, not_true_eq_false] at hc) <;> (first | refine tl_sk rfl rfl rfl rfl ?_ | refine tl_qg rfl rfl (y_move rfl) rfl ?_)))
              all_goals (first | refine tl_sk rfl rfl rfl rfl ?_ | refine tl_qg rfl rfl (y_move rfl) rfl ?_); (first | refine tl_sk rfl rfl rfl rfl ?_ | refine tl_qg rfl rfl (y_index rfl rfl (by omega) (hadh (by omega))) rfl ?_); ((first | refine tl_sk rfl rfl rfl rfl ?_ | refine tl_qg rfl rfl (y_load1o (v := vi (ts.getD n 0)) rfl (fun w' hw' => by rw [show Int.toNat (n : Int) * 1 = n from by omega]; exact hch w' (hw'.fr (w0 := w) (S := []) (MI.m (by repeat constructor))) n (by omega))) rfl ?_))
              all_goals (first | refine tl_sk rfl rfl rfl rfl ?_ | refine tl_qg rfl rfl (y_move rfl) rfl ?_); (first | refine tl_sk rfl rfl rfl rfl ?_ | refine tl_qg rfl rfl (y_eql rfl rfl) rfl ?_); (first | refine tl_q (y_pick_t rfl rfl) rfl ?_ | refine tl_q (y_pick_f rfl rfl) rfl ?_); refine tl_nil ?_; ((refine hK15 ?_; try (clear hK15; clear K15)))
              all_goals (
               refine tc_cond rfl (fun hc => ?_) (fun hc => ?_)
               · try simp only [decide_eq_true_eq, decide_eq_false_iff_not, Int.not_lt, Int.not_le, Bool.not_eq_true', Bool.not_eq_false', Decidable.not_not, not_true_eq_false] at hc
                 all_goals ((first | (exfalso; with_reducible exact bft hc) | skip))
                 all_goals refine tc_seq fun K16 hK16 => ?_; refine tc_seq fun K17 hK17 => ?_; refine tc_region ?_; refine tl_q (y_field rfl) rfl ?_; refine tl_q (y_load1 rfl (by repeat constructor) (by rfl)) rfl ?_; refine tl_q (y_move rfl) rfl ?_; refine tl_q (y_neq rfl rfl) rfl ?_; refine tl_nil ?_; ((refine hK17 ?_; try (clear hK17; clear K17)))
                 all_goals (
                  refine tc_cond rfl (fun hc => ?_) (fun hc => ?_)
                  · try simp only [decide_eq_true_eq, decide_eq_false_iff_not, Int.not_lt, Int.not_le, Bool.not_eq_true', Bool.not_eq_false', Decidable.not_not, not_true_eq_false] at hc
                    all_goals refine tc_seq fun K18 hK18 => ?_; refine tc_region ?_; refine tl_q (y_assign rfl) rfl ?_; refine tl_q (y_assign rfl) rfl ?_; refine tl_nil ?_; ((refine hK18 ?_; try (clear hK18; clear K18)))
                    all_goals refine tc_ret ?_; (repeat (first | refine tk_then_ret ?_ | refine tk_block_ret ?_))
                    all_goals (refine tk_ret rfl rfl (.cons (.tmp rfl) (.cons (.tmp rfl) .nil)) ?_)
                    all_goals (
                     first
                     | (have hs : pasN s b ts h a (n + 1) = none := by rw [pasN, hpn]; simp only; rw [if_pos (by omega), if_neg (by omega)]
                        have hs2 : chN s b ts (h + 1) = none := by rw [chN, hcn]; simp only; rw [pasN_none hs _ (by omega)]
                        have hs3 : heldF s b ts = none := by unfold heldF; rw [chN_none hs2 _ (by omega)]; rfl
                        rw [hs3]
                        exact fun w' hw' => ⟨(none, 0), rfl, hw'.fr (w0 := w) (S := []) (MI.m (by repeat constructor)), RdI.nil _, NewS.nil _ _ _⟩)
                     | (obtain rfl : h = (s.L + 1).toNat := by omega
                        have hs3 : heldF s b ts = some c := by unfold heldF; rw [hcn]; rfl
                        rw [hs3]
                        exact fun w' hw' => ⟨ouA oo, rfl, hw'.fr (w0 := w) (S := []) (MI.m (by repeat constructor)), (RdS.ofO inE_len hok hw' (by repeat constructor)).toI, NewS.ofO hw' (by repeat constructor) (MI.m (by repeat constructor))⟩))
                  · try simp only [decide_eq_true_eq, decide_eq_false_iff_not, Int.not_lt, Int.not_le, Bool.not_eq_true', Bool.not_eq_false', Decidable.not_not, not_true_eq_false] at hc
                    all_goals refine tc_skip ?_; ((refine hK16 ?_; try (clear hK16; clear K16)))
                    all_goals refine tc_region ?_; refine tl_q (y_field rfl) rfl ?_; refine tl_q (y_load1 rfl (by repeat constructor) (by rfl)) rfl ?_; refine tl_q (y_assign rfl) rfl ?_; refine tl_nil ?_; ((refine hK13 ?_; try (clear hK13; clear K13)))
                    all_goals refine tc_region ?_; refine tl_q (y_move rfl) rfl ?_; refine tl_q (y_add rfl rfl (by omega)) rfl ?_; refine tl_q (y_assign rfl) rfl ?_; refine tl_nil ?_
                    all_goals (
                     first
                     | (have hs : pasN s b ts h a (n + 1) = some (s.ps.getD n pas0).to := by rw [pasN, hpn]; simp only; rw [if_pos (by omega), if_pos (by omega)]
                        exact tk_round (n + 1, (s.ps.getD n pas0).to) ⟨by dsimp only; omega, hs⟩ (by dsimp only; omega) (.cons rfl (.cons rfl (.cons rfl (.cons rfl (.cons rfl (.cons rfl (.cons rfl .nil))))))) (fun _ h => h.subl (SB.s (by repeat constructor)) (SB.s (by repeat constructor))))
                     | (have hs : pasN s b ts h a (n + 1) = some a1 := by rw [pasN, hpn]; simp only; rw [if_neg (by omega)]
                        exact tk_round (n + 1, a1) ⟨by dsimp only; omega, hs⟩ (by dsimp only; omega) (.cons rfl (.cons rfl (.cons rfl (.cons rfl (.cons rfl (.cons rfl (.cons rfl .nil))))))) (fun _ h => h.subl (SB.s (by repeat constructor)) (SB.s (by repeat constructor))))))
               · try simp only [decide_eq_true_eq, decide_eq_false_iff_not, Int.not_lt, Int.not_le, Bool.not_eq_true', Bool.not_eq_false', Decidable.not_not, not_true_eq_false] at hc
                 all_goals refine tc_skip ?_; ((refine hK13 ?_; try (clear hK13; clear K13)))
                 all_goals refine tc_region ?_; refine tl_q (y_move rfl) rfl ?_; refine tl_q (y_add rfl rfl (by omega)) rfl ?_; refine tl_q (y_assign rfl) rfl ?_; refine tl_nil ?_
                 all_goals (
                  first
                  | (have hs : pasN s b ts h a (n + 1) = some (s.ps.getD n pas0).to := by rw [pasN, hpn]; simp only; rw [if_pos (by omega), if_pos (by omega)]
                     exact tk_round (n + 1, (s.ps.getD n pas0).to) ⟨by dsimp only; omega, hs⟩ (by dsimp only; omega) (.cons rfl (.cons rfl (.cons rfl (.cons rfl (.cons rfl (.cons rfl (.cons rfl .nil))))))) (fun _ h => h.subl (SB.s (by repeat constructor)) (SB.s (by repeat constructor))))
                  | (have hs : pasN s b ts h a (n + 1) = some a1 := by rw [pasN, hpn]; simp only; rw [if_neg (by omega)]
                     exact tk_round (n + 1, a1) ⟨by dsimp only; omega, hs⟩ (by dsimp only; omega) (.cons rfl (.cons rfl (.cons rfl (.cons rfl (.cons rfl (.cons rfl (.cons rfl .nil))))))) (fun _ h => h.subl (SB.s (by repeat constructor)) (SB.s (by repeat constructor))))))
            · try simp only [decide_eq_true_eq, decide_eq_false_iff_not, Int.not_lt, Int.not_le, Bool.not_eq_true', Bool.not_eq_false', Decidable.not_not, not_true_eq_false] at hc
              all_goals refine tc_exit ?_; ((refine hK9 ?_; try (clear hK9; clear K9)))
              all_goals refine tc_region ?_; refine tl_q (y_move rfl) rfl ?_; refine tl_q (y_move rfl) rfl ?_; (refine tl_e (e_bslice rfl (by (repeat (first | exact .nil | apply PV.one rfl rfl)); done) rfl rfl) rfl (fun _ _ => ?_))
              all_goals (refine tl_e (e_appendE (enc := inE) (xs := c) (ys := [a1]) inE_len inE_one rfl rfl rfl hok (fun _ => by repeat constructor) (fun w' hw' => RdS.own0 inE_len hw' (by repeat constructor)) (by simp only [List.length_cons, List.length_nil]; omega) rfl) rfl (fun oo' hok' => ?_))
              all_goals refine tl_q (y_assign rfl) rfl ?_; refine tl_nil ?_; ((refine hK8 ?_; try (clear hK8; clear K8)))
              all_goals refine tc_region ?_; refine tl_q (y_move rfl) rfl ?_; refine tl_q (y_add rfl rfl (by omega)) rfl ?_; refine tl_q (y_assign rfl) rfl ?_; refine tl_nil ?_
              all_goals (
               obtain rfl : n = s.ps.length := by omega
               have hs : chN s b ts (h + 1) = some (c ++ [a1], a1) := by rw [chN, hcn]; simp only; rw [hpn]
               exact tk_round (h + 1, (c ++ [a1], a1), oo') ⟨by dsimp only; omega, hs, hok'⟩ (by dsimp only; omega) (.cons rfl (.cons rfl (.cons rfl (.cons rfl (.cons rfl (.cons rfl .nil)))))) (fun _ h => h.subl (SB.s (by repeat constructor)) (SB.s (by repeat constructor))))))
      · try simp only [decide_eq_true_eq, decide_eq_false_iff_not, Int.not_lt, Int.not_le, Bool.not_eq_true', Bool.not_eq_false', Decidable.not_not, not_true_eq_false] at hc
        all_goals refine tc_exit ?_; ((refine hK4 ?_; try (clear hK4; clear K4)))
        all_goals refine tc_seq fun K19 hK19 => ?_; refine tc_region ?_; refine tl_q (y_move rfl) rfl ?_; refine tl_q (y_assign rfl) rfl ?_; refine tl_q (y_assign rfl) rfl ?_; refine tl_nil ?_; ((refine hK19 ?_; try (clear hK19; clear K19)))
        all_goals refine tc_ret ?_; (repeat (first | refine tk_then_ret ?_))
        all_goals (refine tk_ret rfl rfl (.cons (.tmp rfl) (.cons (.tmp rfl) .nil)) ?_)
        all_goals (
         first
         | (have hs : pasN s b ts h a (n + 1) = none := by rw [pasN, hpn]; simp only; rw [if_pos (by omega), if_neg (by omega)]
            have hs2 : chN s b ts (h + 1) = none := by rw [chN, hcn]; simp only; rw [pasN_none hs _ (by omega)]
            have hs3 : heldF s b ts = none := by unfold heldF; rw [chN_none hs2 _ (by omega)]; rfl
            rw [hs3]
            exact fun w' hw' => ⟨(none, 0), rfl, hw'.fr (w0 := w) (S := []) (MI.m (by repeat constructor)), RdI.nil _, NewS.nil _ _ _⟩)
         | (obtain rfl : h = (s.L + 1).toNat := by omega
            have hs3 : heldF s b ts = some c := by unfold heldF; rw [hcn]; rfl
            rw [hs3]
            exact fun w' hw' => ⟨ouA oo, rfl, hw'.fr (w0 := w) (S := []) (MI.m (by repeat constructor)), (RdS.ofO inE_len hok hw' (by repeat constructor)).toI, NewS.ofO hw' (by repeat constructor) (MI.m (by repeat constructor))⟩))))
end Go.Sp
/-
  The reference of samples: whether a bottle in some hands has a way; whether a sample has a truth.
-/
namespace Go.Sp
open Go Go.Proofs
theorem heldF_ok {s : Smp} (hv : VSm s) {b : Int} {ts c : List Int} (h : heldF s b ts = some c) : (c.length : Int) = s.L + 1 ∧ ∀ i, i < c.length → 0 ≤ c.getD i 0 ∧ c.getD i 0 < s.P := by
  unfold heldF at h
  obtain ⟨q, h1, rfl⟩ := Option.map_eq_some_iff.1 h
  have hl := chN_len h1
  have hl0 := hv.l0
  exact ⟨by omega, fun i hi => (chN_ok hv h1).2 _ (getD_memG hi)⟩
end Go.Sp
/-
  A sample has a truth after the reference if it has one after the package.
-/
namespace Go.Sp
open Go Go.Proofs
theorem mem_stepL {s : Smp} {b h : Int} {st x : Bool} {y : Bool × Int} : y ∈ stepL s b h st x ↔ ∃ n : Nat, n < 4 ∧ (actIs x st n = true ∧ seenB s b h (actY x n) = true) ∧ y = (actY x n, if x = true ∨ opF n = true then 1 else 0) := by
  show y ∈ stepN s b h st x 4 ↔ _
  unfold stepN
  rw [List.mem_flatMap]
  constructor
  · rintro ⟨n, hn, hy⟩
    unfold stp1 at hy
    split at hy
    · rename_i hc
      exact ⟨n, List.mem_range.1 hn, hc, List.mem_singleton.1 hy⟩
    · cases hy
  · rintro ⟨n, hn, hc, rfl⟩
    exact ⟨n, List.mem_range.2 hn, by unfold stp1; rw [if_pos hc]; exact List.mem_singleton.2 rfl⟩
theorem minP_any {l : List (Bool × Int)} {r : Bool → Option Int} : ∀ {n : Nat}, n ≤ l.length → (minP l r n).isSome = true → ∃ i, i < n ∧ (r (l.getD i (false, 0)).1).isSome = true
  | 0, _, h => by cases h
  | n + 1, hn, h => by
    rw [minP] at h
    split at h
    · obtain ⟨i, h1, h2⟩ := minP_any (by omega) h
      exact ⟨i, by omega, h2⟩
    · rename_i m hm
      exact ⟨n, by omega, by rw [hm]; rfl⟩
theorem rst_some {s : Smp} {b : Int} {c : List Int} {k : Nat} {x : Bool} : (rstF s b c (k + 1) x).isSome = true ↔ ∃ y ∈ stepL s b (s.L - k) (stB s c (s.L - k)) x, (rstF s b c k y.1).isSome = true := by
  rw [rstF]
  constructor
  · intro h
    obtain ⟨i, hi, hs⟩ := minP_any (Nat.le_refl _) h
    exact ⟨_, getD_memG hi, hs⟩
  · rintro ⟨y, hy, hs⟩
    obtain ⟨i, hi, rfl⟩ := List.getElem_of_mem hy
    refine minP_some (Nat.le_refl _) (i := i) hi ?_
    rw [List.getD_eq_getElem?_getD, List.getElem?_eq_getElem hi]; exact hs
theorem stB_pad {s : Smp} {c : List Int} {h : Nat} (hh : h < c.length) : stB s c h = stB s (padC c) h := by
  unfold stB padC
  rw [Int.toNat_natCast, List.getD_eq_getElem?_getD (l := c ++ _), List.getElem?_append_left hh, ← List.getD_eq_getElem?_getD]
/-- Hours that are within the passes' ranges. -/
def InR : List Pas → List Int → Prop
  | [], hs => hs = []
  | p :: ps, hs => ∃ h t, hs = h :: t ∧ (p.lo ≤ h ∧ h ≤ p.hi) ∧ InR ps t
theorem InR.len : ∀ {ps : List Pas} {hs : List Int}, InR ps hs → hs.length = ps.length
  | [], hs, h => by obtain rfl : hs = [] := h; rfl
  | p :: ps, hs, h => by
    obtain ⟨a, t, rfl, _, ht⟩ := h
    simp [InR.len ht]
theorem zOwn_in {b : Int} : ∀ {ps : List Pas} {hs : List Int}, InR ps hs → zOwn b ps hs ∈ zAll b ps
  | [], hs, h => by
    obtain rfl : hs = [] := h
    simp [zAll, genT, zOwn]
  | p :: ps, hs, h => by
    obtain ⟨a, t, rfl, ha, ht⟩ := h
    have ih := zOwn_in (b := b) ht
    by_cases hb : p.b = b
    · rw [zAll_own hb, List.mem_flatMap]
      refine ⟨(a - p.lo).toNat, List.mem_range.2 (by omega), List.mem_map.2 ⟨zOwn b ps t, ih, ?_⟩⟩
      rw [show p.lo + (((a - p.lo).toNat : Nat) : Int) = a from by omega]
      simp [zOwn, hb]
    · rw [zAll_oth hb]
      simpa [zOwn, hb] using ih
theorem zAll_ex {b : Int} : ∀ {ps : List Pas} {z : List (Pas × Int)}, (∀ p ∈ ps, p.lo ≤ p.hi) → z ∈ zAll b ps → ∃ hs, InR ps hs ∧ zOwn b ps hs = z
  | [], z, _, h => by
    refine ⟨[], rfl, ?_⟩
    simp [zAll, genT, zOwn] at h
    subst h; rfl
  | p :: ps, z, hp, h => by
    have hp2 : ∀ q ∈ ps, q.lo ≤ q.hi := fun q hq => hp q (List.mem_cons_of_mem _ hq)
    by_cases hb : p.b = b
    · rw [zAll_own hb, List.mem_flatMap] at h
      obtain ⟨j, hj, h⟩ := h
      obtain ⟨z', hz', rfl⟩ := List.mem_map.1 h
      obtain ⟨hs, h1, rfl⟩ := zAll_ex hp2 hz'
      rw [List.mem_range] at hj
      refine ⟨(p.lo + (j : Int)) :: hs, ⟨_, _, rfl, by omega, h1⟩, ?_⟩
      simp [zOwn, hb]
    · rw [zAll_oth hb] at h
      obtain ⟨hs, h1, rfl⟩ := zAll_ex hp2 h
      refine ⟨p.lo :: hs, ⟨_, _, rfl, ⟨Int.le_refl _, hp p (List.mem_cons_self ..)⟩, h1⟩, ?_⟩
      simp [zOwn, hb]
theorem VSm.ple {s : Smp} (hv : VSm s) : ∀ p ∈ s.ps, p.lo ≤ p.hi := fun p hp => (hv.ps p hp).2.2.2.2.2.1
end Go.Sp
/-
  Runs: what can be done with a bottle, from hour to hour; what ask returns, in terms of them.
-/
namespace Go.Sp
open Go Go.Proofs
/-- What is done in the last k hours, from a seal on. -/
def RunF (s : Smp) (b : Int) (c : List Int) : Nat → Bool → List (Bool × Int) → Prop
  | 0, _, l => l = []
  | k + 1, x, l => ∃ z t, l = z :: t ∧ z ∈ stepL s b (s.L - k) (stB s c (s.L - k)) x ∧ RunF s b c k z.1 t
theorem rst_run {s : Smp} {b : Int} {c : List Int} : ∀ {k : Nat} {x : Bool}, (rstF s b c k x).isSome = true ↔ ∃ l, RunF s b c k x l
  | 0, x => ⟨fun _ => ⟨[], rfl⟩, fun _ => rfl⟩
  | k + 1, x => by
    rw [rst_some]
    constructor
    · rintro ⟨y, hy, h⟩
      obtain ⟨t, ht⟩ := rst_run.1 h
      exact ⟨y :: t, y, t, rfl, hy, ht⟩
    · rintro ⟨l, z, t, rfl, hz, ht⟩
      exact ⟨z, hz, rst_run.2 ⟨t, ht⟩⟩
/-- What is done in the first hours. -/
def PreF (s : Smp) (b : Int) (c : List Int) : Nat → List (Bool × Int) → Bool → Prop
  | 0, l, x => l = [] ∧ x = false
  | h + 1, l, x => ∃ l' z y, l = l' ++ [z] ∧ PreF s b c h l' y ∧ z ∈ stepL s b h (stB s c h) y ∧ z.1 = x
theorem PreF.len {s : Smp} {b : Int} {c : List Int} : ∀ {h : Nat} {l : List (Bool × Int)} {x : Bool}, PreF s b c h l x → l.length = h
  | 0, _, _, ⟨rfl, _⟩ => rfl
  | h + 1, _, _, ⟨l', z, y, rfl, h1, _, _⟩ => by simp [PreF.len h1]
theorem PreF.join {s : Smp} {b : Int} {c : List Int} : ∀ {h : Nat} {l : List (Bool × Int)} {x : Bool} {t : List (Bool × Int)}, (h : Int) ≤ s.L + 1 → PreF s b c h l x → RunF s b c (s.L + 1 - h).toNat x t → RunF s b c (s.L + 1).toNat false (l ++ t)
  | 0, _, _, t, hh, ⟨rfl, rfl⟩, h => by
    rw [show (s.L + 1 - ((0 : Nat) : Int)).toNat = (s.L + 1).toNat from by omega] at h
    exact h
  | h + 1, _, _, t, hh, ⟨l', z, y, rfl, h1, h2, h3⟩, ht => by
    rw [List.append_assoc]
    subst h3
    refine PreF.join (h := h) (by omega) h1 ?_
    rw [show (s.L + 1 - (h : Int)).toNat = (s.L + 1 - ((h + 1 : Nat) : Int)).toNat + 1 from by omega]
    refine ⟨z, t, rfl, ?_, ht⟩
    rw [show s.L - (((s.L + 1 - ((h + 1 : Nat) : Int)).toNat : Nat) : Int) = (h : Int) from by omega]
    exact h2
theorem RunF.split {s : Smp} {b : Int} {c : List Int} {l : List (Bool × Int)} (hl : RunF s b c (s.L + 1).toNat false l) : ∀ h : Nat, (h : Int) ≤ s.L + 1 → ∃ l1 t x, l = l1 ++ t ∧ PreF s b c h l1 x ∧ RunF s b c (s.L + 1 - h).toNat x t
  | 0, _ => ⟨[], l, false, rfl, ⟨rfl, rfl⟩, by rw [show (s.L + 1 - ((0 : Nat) : Int)).toNat = (s.L + 1).toNat from by omega]; exact hl⟩
  | h + 1, hh => by
    obtain ⟨l1, t, x, rfl, h1, h2⟩ := RunF.split hl h (by omega)
    rw [show (s.L + 1 - (h : Int)).toNat = (s.L + 1 - ((h + 1 : Nat) : Int)).toNat + 1 from by omega] at h2
    obtain ⟨z, t', rfl, hz, ht⟩ := h2
    rw [show s.L - (((s.L + 1 - ((h + 1 : Nat) : Int)).toNat : Nat) : Int) = (h : Int) from by omega] at hz
    exact ⟨l1 ++ [z], t', z.1, by simp, ⟨l1, z, x, rfl, h1, hz, rfl⟩, ht⟩
theorem RunF.len {s : Smp} {b : Int} {c : List Int} : ∀ {k : Nat} {x : Bool} {l : List (Bool × Int)}, RunF s b c k x l → l.length = k
  | 0, _, _, h => by obtain rfl := h; rfl
  | k + 1, _, _, ⟨z, t, h, _, ht⟩ => by subst h; simp [RunF.len ht]
theorem ddB_mem (x : Bool) : ∀ l : List Bool, x ∈ ddB l ↔ x ∈ l := by
  intro l
  obtain ⟨r, rfl⟩ : ∃ r : List Bool, l = r.reverse := ⟨l.reverse, by simp⟩
  induction r with
  | nil => simp [ddB]
  | cons y r ih =>
    rw [List.reverse_cons, ddB_snoc]
    split
    · rename_i h
      rw [ih, List.mem_append]
      constructor
      · exact fun h => .inl h
      · rintro (h1 | h1)
        · exact h1
        · obtain rfl := List.mem_singleton.1 h1
          obtain ⟨z, hz, hxz⟩ := List.any_eq_true.1 h
          obtain rfl := of_decide_eq_true hxz
          exact ih.1 hz
    · rw [List.mem_append, List.mem_append, ih]
theorem cnd_mem {s : Smp} {b : Int} {c : List Int} {h : Nat} {now : List Bool} {z : Bool × Int} : z ∈ cnd s b c h now ↔ ∃ x ∈ now, z ∈ stepL s b h (stB s c h) x ∧ (rstF s b c (s.L - h).toNat z.1).isSome = true := by
  show z ∈ (now.flatMap fun x => onL s b c h x (stepL s b h (stB s c h) x).length) ↔ _
  rw [List.mem_flatMap]
  constructor
  · rintro ⟨x, hx, h1⟩
    unfold onL at h1
    rw [List.take_length] at h1
    obtain ⟨h2, h3⟩ := List.mem_filter.1 h1
    exact ⟨x, hx, h2, h3⟩
  · rintro ⟨x, hx, h2, h3⟩
    refine ⟨x, hx, ?_⟩
    unfold onL
    rw [List.take_length]
    exact List.mem_filter.2 ⟨h2, h3⟩
theorem nowN_mem {s : Smp} {b : Int} {c : List Int} (hc : canF s b c = true) : ∀ {h : Nat} {x : Bool}, (h : Int) ≤ s.L + 1 → (x ∈ nowN s b c h ↔ (∃ l, PreF s b c h l x) ∧ (rstF s b c (s.L + 1 - h).toNat x).isSome = true)
  | 0, x, _ => by
    unfold canF at hc
    rw [nowN, List.mem_singleton, show (s.L + 1 - ((0 : Nat) : Int)).toNat = (s.L + 1).toNat from by omega]
    constructor
    · rintro rfl; exact ⟨⟨[], rfl, rfl⟩, hc⟩
    · rintro ⟨⟨l, _, h⟩, _⟩; exact h
  | h + 1, x, hh => by
    rw [nowN, ddB_mem, List.mem_map]
    have e : (s.L + 1 - ((h + 1 : Nat) : Int)).toNat = (s.L - (h : Int)).toNat := by omega
    have e1 : (s.L + 1 - (h : Int)).toNat = (s.L - (h : Int)).toNat + 1 := by omega
    have e2 : s.L - (((s.L - (h : Int)).toNat : Nat) : Int) = (h : Int) := by omega
    rw [e]
    constructor
    · rintro ⟨z, hz, rfl⟩
      obtain ⟨y, hy, h1, h2⟩ := cnd_mem.1 hz
      obtain ⟨⟨l, hl⟩, _⟩ := (nowN_mem hc (by omega)).1 hy
      exact ⟨⟨l ++ [z], l, z, y, rfl, hl, h1, rfl⟩, h2⟩
    · rintro ⟨⟨l, l', z, y, rfl, h1, h2, h3⟩, h4⟩
      subst h3
      refine ⟨z, cnd_mem.2 ⟨y, (nowN_mem hc (by omega)).2 ⟨⟨l', h1⟩, ?_⟩, h2, h4⟩, rfl⟩
      rw [e1, rst_some]
      exact ⟨z, by rw [e2]; exact h2, h4⟩
theorem opn_run {s : Smp} {b : Int} {c : List Int} (hc : canF s b c = true) {h : Nat} (hh : (h : Int) ≤ s.L) : opnH s b c h = true ↔ ∃ l, RunF s b c (s.L + 1).toNat false l ∧ (l.getD h (false, 0)).2 = 1 := by
  have e1 : (s.L + 1 - (h : Int)).toNat = (s.L - (h : Int)).toNat + 1 := by omega
  have e2 : s.L - (((s.L - (h : Int)).toNat : Nat) : Int) = (h : Int) := by omega
  unfold opnH
  rw [List.any_eq_true]
  constructor
  · rintro ⟨z, hz, h1⟩
    obtain ⟨x, hx, h2, h3⟩ := cnd_mem.1 hz
    obtain ⟨⟨l, hl⟩, _⟩ := (nowN_mem hc (by omega)).1 hx
    obtain ⟨t, ht⟩ := rst_run.1 h3
    refine ⟨l ++ z :: t, hl.join (by omega) ?_, ?_⟩
    · rw [e1]; exact ⟨z, t, rfl, by rw [e2]; exact h2, ht⟩
    · rw [List.getD_eq_getElem?_getD, List.getElem?_append_right (by rw [hl.len]; exact Nat.le_refl _), hl.len, Nat.sub_self]
      exact of_decide_eq_true h1
  · rintro ⟨l, hl, h1⟩
    obtain ⟨l1, t, x, rfl, h2, h3⟩ := hl.split h (by omega)
    have h3' := h3
    rw [e1] at h3
    obtain ⟨z, t', rfl, hz, ht⟩ := h3
    rw [e2] at hz
    rw [List.getD_eq_getElem?_getD, List.getElem?_append_right (by rw [h2.len]; exact Nat.le_refl _), h2.len, Nat.sub_self] at h1
    exact ⟨z, cnd_mem.2 ⟨x, (nowN_mem hc (by omega)).2 ⟨⟨l1, h2⟩, rst_run.2 ⟨_, h3'⟩⟩, hz, rst_run.2 ⟨t', ht⟩⟩, decide_eq_true h1⟩
end Go.Sp
/-
  The document's examples, computed.
-/
namespace Go.Sp
open Go Go.Proofs
def twoS (m : List Sgt) : Smp := ⟨2, 3, 4, 0, [false, false, true], [⟨0, 0, 1, 1, 2⟩, ⟨0, 1, 2, 3, 3⟩, ⟨1, 0, 1, 2, 2⟩], [⟨0, 2, true⟩, ⟨1, 4, true⟩] ++ m⟩
abbrev badG : Sgt := ⟨0, 2, false⟩
theorem two_few (m : List Sgt) (h : m.length ≤ 1) : Few (twoS m) := ⟨by simp [twoS], by simp [twoS], by simp [twoS]; omega⟩
theorem aw_h : hdE (twoS []) 0 1 = 0 ∧ hdL (twoS []) 0 1 = [0, 1] := by decide +kernel
theorem aw_o : opE (twoS []) 0 = 0 ∧ opL (twoS []) 0 = [2] := by decide +kernel
theorem aw_v : vdE (twoS []) = 0 ∧ vdL (twoS []) = [3, 2] := by decide +kernel
theorem aw_a : alF (twoS []) = 3 := by decide +kernel
theorem aw_l : lsL (twoS []) = [0, 0] := by decide +kernel
theorem aw_f : frsE (twoS [badG]) = (5, 0) := by decide +kernel
theorem aw_x : chkS (twoS [badG]) = 0 ∧ lvN (twoS [badG]) 2 = [3] := by decide +kernel
theorem aw_x2 : levL (twoS [badG]) = [3] := by
  unfold levL lvS
  rw [if_pos aw_x.1, show (twoS [badG]).B.toNat = 2 from rfl, aw_x.2]
  simp
end Go.Sp
/-
  The document's examples, walked: two, awake.
-/
namespace Go.Sp
open Go Go.Proofs
theorem between_c (a b : Int) (w : World) : CnV Tryz.prog 49 #[vi a, vi b] w (.agg #[vi a, vi b]) := by
  refine cnv (vs := [_, _]) Tryz.func49 rfl rfl ?_
  all_goals refine tc_seq fun K1 hK1 => ?_; refine tc_region ?_; refine tl_e (e_allocN rfl) rfl (fun b4 _ => ?_); refine tl_nil ?_; ((refine hK1 ?_; try (clear hK1; clear K1)))
  all_goals refine tc_seq fun K2 hK2 => ?_; refine tc_region ?_; refine tl_q (y_move rfl) rfl ?_; refine tl_q (y_move rfl) rfl ?_; refine tl_q (y_build_g (by repeat constructor)) rfl ?_; refine tl_e (e_storeW rfl rfl (by repeat constructor) (by rfl) (by rfl) (by simp [Value.oneCell'])) rfl (fun _ _ => ?_); refine tl_nil ?_; ((refine hK2 ?_; try (clear hK2; clear K2)))
  all_goals refine tc_ret ?_; (repeat (first | refine tk_then_ret ?_))
  all_goals (refine tk_ret rfl rfl (.cons (.agg inferInstance rfl (by repeat constructor) (by rfl)) .nil) ?_)
  all_goals (
   exact fun w' hw' => ⟨rfl, hw'.fr (by simp)⟩)
set_option maxHeartbeats 1000000 in
theorem two_c (m : List Sgt) (hm : m.length ≤ 1) (mv : Value) (w : World) (hr : RdS 3 sgE w mv m) :
    CnX Tryz.prog 48 #[mv] w [] (fun y : Nat × Nat × Nat × Nat × List Value => smV (twoS m) (.slice (some ⟨y.1, 0, none⟩) 3 3) (.slice (some ⟨y.2.1, 0, none⟩) 3 3) (.slice (some ⟨y.2.2.1, 0, none⟩) (2 + m.length) y.2.2.2.1))
      (fun y w' => RdSm w' (twoS m) (.slice (some ⟨y.1, 0, none⟩) 3 3) (.slice (some ⟨y.2.1, 0, none⟩) 3 3) (.slice (some ⟨y.2.2.1, 0, none⟩) (2 + m.length) y.2.2.2.1)) := by
  refine cnx0 (vs := [_]) Tryz.func48 rfl rfl ?_
  all_goals refine tc_seq fun K1 hK1 => ?_; refine tc_region ?_; refine tl_e (e_allocN rfl) rfl (fun b2 _ => ?_); refine tl_nil ?_; ((refine hK1 ?_; try (clear hK1; clear K1)))
  all_goals refine tc_seq fun K2 hK2 => ?_; refine tc_region ?_; ((refine tl_e (e_bslice rfl (by (repeat (first | exact .nil | apply PV.one rfl rfl)); done) rfl rfl) rfl (fun b3 _ => ?_)))
  all_goals refine tl_e (e_callV rfl (.cons rfl (.cons rfl .nil)) (fun w' _ => between_c _ _ w')) rfl (fun _ _ => ?_); refine tl_q (y_build_g (by repeat constructor)) rfl ?_; refine tl_e (e_callV rfl (.cons rfl (.cons rfl .nil)) (fun w' _ => between_c _ _ w')) rfl (fun _ _ => ?_); refine tl_q (y_build_g (by repeat constructor)) rfl ?_; refine tl_e (e_callV rfl (.cons rfl (.cons rfl .nil)) (fun w' _ => between_c _ _ w')) rfl (fun _ _ => ?_); refine tl_q (y_build_g (by repeat constructor)) rfl ?_; refine tl_e (e_bsliceG rfl (.agg rfl rfl (.agg rfl rfl (.agg rfl rfl .nil))) rfl rfl) rfl (fun b10 _ => ?_); refine tl_q (y_build_g (by repeat constructor)) rfl ?_; refine tl_q (y_build_g (by repeat constructor)) rfl ?_; refine tl_e (e_bsliceG rfl (.agg rfl rfl (.agg rfl rfl .nil)) rfl rfl) rfl (fun b13 _ => ?_); refine tl_q (y_move rfl) rfl ?_; refine tl_e (e_append_own (old := [vi 0, vi 2, .bool true, vi 1, vi 4, .bool true]) (junk := []) rfl rfl rfl (by repeat constructor) rfl rfl (Nat.le_refl 2) (fun w' hw' => hr.fr (hw'.fr (w0 := w) (S := []) (MI.m (by repeat constructor)))) (one_flat sgE_one _) (by omega) rfl) rfl (fun r hq => ?_); refine tl_q (y_build_g (by repeat constructor)) rfl ?_; refine tl_e (e_storeW rfl rfl (by repeat constructor) (by rfl) (by rfl) (by simp [Value.oneCell'])) rfl (fun _ _ => ?_); refine tl_nil ?_; ((refine hK2 ?_; try (clear hK2; clear K2)))
  all_goals refine tc_ret ?_; (repeat (first | refine tk_then_ret ?_))
  all_goals (refine tk_ret rfl rfl (.cons (.agg inferInstance rfl (by repeat constructor) (by rfl)) .nil) ?_)
  all_goals (
   refine fun w' hw' => ⟨(b3, b10, r.1, r.2.1, r.2.2), rfl, hw'.fr (w0 := w) (S := []) (MI.m (by repeat constructor)), ?_, ?_, ?_⟩
   · exact RdS.own (xs := (twoS m).st) (cap := 3) (junk := []) boE_len hw' (b := b3) (by repeat constructor)
   · exact RdS.own (xs := (twoS m).ps) (cap := 3) (junk := []) psE_len hw' (b := b10) (by repeat constructor)
   · have := RdS.own (xs := (twoS m).sg) (cap := r.2.1) (junk := r.2.2) sgE_len hw' (b := r.1) (by repeat constructor)
     rw [show (twoS m).sg.length = 2 + m.length from by simp [twoS]; omega] at this
     exact this)
theorem two0 : Few (twoS []) := two_few [] (by simp)
theorem two1 : Few (twoS [badG]) := two_few [badG] (by simp)
theorem hold_v (tv pv gv : Value) (w : World) (hr : RdSm w (twoS []) tv pv gv) : CnX Tryz.prog 17 #[smV (twoS []) tv pv gv, vi 0, vi 1] w [] (fun y : Option Addr × Nat => .tuple #[slV 2 y, vi 0]) (fun y w' => RdI w' (slV 2 y) [0, 1]) := by
  have h := holders_c (twoS []) two0 0 1 tv pv gv w hr
  rw [aw_h.1, aw_h.2] at h
  exact h.imp id (fun _ => rfl) (fun _ h => h) (fun _ _ _ h => h.toI)
theorem open_v (tv pv gv : Value) (w : World) (hr : RdSm w (twoS []) tv pv gv) : CnX Tryz.prog 19 #[smV (twoS []) tv pv gv, vi 0] w [] (fun y : Option Addr × Nat => .tuple #[slV 1 y, vi 0]) (fun y w' => RdI w' (slV 1 y) [2]) := by
  have h := openers_c (twoS []) two0 0 tv pv gv w hr
  rw [aw_o.1, aw_o.2] at h
  exact h.imp id (fun _ => rfl) (fun _ h => h) (fun _ _ _ h => h.toI)
theorem verd_v (tv pv gv : Value) (w : World) (hr : RdSm w (twoS []) tv pv gv) : CnX Tryz.prog 26 #[smV (twoS []) tv pv gv] w [] (fun y : Option Addr × Nat => .tuple #[slV 2 y, vi 0]) (fun y w' => RdI w' (slV 2 y) [3, 2]) := by
  have h := verdicts_c (twoS []) two0 tv pv gv w hr
  rw [aw_v.1, aw_v.2] at h
  exact h.imp id (fun _ => rfl) (fun _ h => h) (fun _ _ _ h => h.toI)
theorem alik_v (tv pv gv : Value) (w : World) (hr : RdSm w (twoS []) tv pv gv) : CnV Tryz.prog 27 #[smV (twoS []) tv pv gv] w (.tuple #[vi 3, vi 0]) := by
  have h := alike_c (twoS []) two0 tv pv gv w hr
  rw [aw_a, aw_v.1] at h
  exact h
theorem leas_v (tv pv gv : Value) (w : World) (hr : RdSm w (twoS []) tv pv gv) : CnX Tryz.prog 28 #[smV (twoS []) tv pv gv] w [] (fun y : Option Addr × Nat => .tuple #[slV 2 y, vi 0]) (fun y w' => RdI w' (slV 2 y) [0, 0]) := by
  have h := least_c (twoS []) two0 tv pv gv w hr
  rw [aw_v.1, aw_l] at h
  exact h.imp id (fun _ => rfl) (fun _ h => h) (fun _ _ _ h => h.toI)
theorem frst_v (tv pv gv : Value) (w : World) (hr : RdSm w (twoS [badG]) tv pv gv) : CnV Tryz.prog 30 #[smV (twoS [badG]) tv pv gv] w (.tuple #[vi 5, vi 0]) := by
  have h := first_c (twoS [badG]) two1 tv pv gv w hr
  rw [aw_f] at h
  exact h
theorem leav_v (tv pv gv : Value) (w : World) (hr : RdSm w (twoS [badG]) tv pv gv) : CnX Tryz.prog 31 #[smV (twoS [badG]) tv pv gv] w [] (fun y : Option Addr × Nat => .tuple #[slV 1 y, vi 0]) (fun y w' => RdI w' (slV 1 y) [3]) := by
  have h := leaveAll_c (twoS [badG]) two1 tv pv gv w hr
  rw [aw_x.1, aw_x2] at h
  exact h
set_option maxHeartbeats 4000000 in
theorem awake_c (w : World) : CnV Tryz.prog 16 #[] w (.bool true) := by
  refine cnv (vs := []) Tryz.func16 rfl rfl ?_
  all_goals refine tc_seq fun K1 hK1 => ?_; refine tc_region ?_; refine tl_q (y_assign rfl) rfl ?_; refine tl_nil ?_; ((refine hK1 ?_; try (clear hK1; clear K1)))
  all_goals refine tc_seq fun K2 hK2 => ?_; refine tc_lay ([]) (SB.s .nil) (fun wl1 hl1 => ?_); refine tc_region ?_; refine tl_e (e_callX rfl (.cons rfl .nil) (fun w' hw' => two_c [] (by simp) (.slice none 0 0) w' (RdS.nil _ _ _ _))) rfl (fun x1 hx1 => ?_); refine tl_e (e_callX rfl (.cons rfl (.cons rfl (.cons rfl .nil))) (fun w' hw' => hold_v _ _ _ w' (hx1.1.fr (hw'.calm hx1.2 (MI.m (by repeat constructor)) (SB.s (by repeat constructor)))))) rfl (fun y1 hy1 => ?_); refine tl_q (y_move rfl) rfl ?_; refine tl_q (y_extract rfl rfl) rfl ?_; refine tl_q (y_extract rfl rfl) rfl ?_; refine tl_q (y_assign rfl) rfl ?_; refine tl_q (y_assign rfl) rfl ?_; refine tl_nil ?_; ((refine hK2 ?_; try (clear hK2; clear K2)))
  all_goals refine tc_seq fun K3 hK3 => ?_; refine tc_lay ([]) (SB.s .nil) (fun wl2 hl2 => ?_); refine tc_region ?_; refine tl_e (e_callX rfl (.cons rfl .nil) (fun w' hw' => two_c [] (by simp) (.slice none 0 0) w' (RdS.nil _ _ _ _))) rfl (fun x2 hx2 => ?_); refine tl_e (e_callX rfl (.cons rfl (.cons rfl .nil)) (fun w' hw' => open_v _ _ _ w' (hx2.1.fr (hw'.calm hx2.2 (MI.m (by repeat constructor)) (SB.s (by repeat constructor)))))) rfl (fun y2 hy2 => ?_); refine tl_q (y_move rfl) rfl ?_; refine tl_q (y_extract rfl rfl) rfl ?_; refine tl_q (y_extract rfl rfl) rfl ?_; refine tl_q (y_assign rfl) rfl ?_; refine tl_q (y_assign rfl) rfl ?_; refine tl_nil ?_; ((refine hK3 ?_; try (clear hK3; clear K3)))
  all_goals refine tc_seq fun K4 hK4 => ?_; refine tc_lay ([]) (SB.s .nil) (fun wl3 hl3 => ?_); refine tc_region ?_; refine tl_e (e_callX rfl (.cons rfl .nil) (fun w' hw' => two_c [] (by simp) (.slice none 0 0) w' (RdS.nil _ _ _ _))) rfl (fun x3 hx3 => ?_); refine tl_e (e_callX rfl (.cons rfl .nil) (fun w' hw' => verd_v _ _ _ w' (hx3.1.fr (hw'.calm hx3.2 (MI.m (by repeat constructor)) (SB.s (by repeat constructor)))))) rfl (fun y3 hy3 => ?_); refine tl_q (y_move rfl) rfl ?_; refine tl_q (y_extract rfl rfl) rfl ?_; refine tl_q (y_extract rfl rfl) rfl ?_; refine tl_q (y_assign rfl) rfl ?_; refine tl_q (y_assign rfl) rfl ?_; refine tl_nil ?_; ((refine hK4 ?_; try (clear hK4; clear K4)))
  all_goals refine tc_seq fun K5 hK5 => ?_; refine tc_lay ([]) (SB.s .nil) (fun wl4 hl4 => ?_); refine tc_region ?_; refine tl_e (e_callX rfl (.cons rfl .nil) (fun w' hw' => two_c [] (by simp) (.slice none 0 0) w' (RdS.nil _ _ _ _))) rfl (fun x4 hx4 => ?_); refine tl_e (e_callV rfl (.cons rfl .nil) (fun w' hw' => alik_v _ _ _ w' (hx4.1.fr (hw'.calm hx4.2 (MI.m (by repeat constructor)) (SB.s (by repeat constructor)))))) rfl (fun _ _ => ?_); refine tl_q (y_move rfl) rfl ?_; refine tl_q (y_extract rfl rfl) rfl ?_; refine tl_q (y_extract rfl rfl) rfl ?_; refine tl_q (y_assign rfl) rfl ?_; refine tl_q (y_assign rfl) rfl ?_; refine tl_nil ?_; ((refine hK5 ?_; try (clear hK5; clear K5)))
  all_goals refine tc_seq fun K6 hK6 => ?_; refine tc_lay ([]) (SB.s .nil) (fun wl5 hl5 => ?_); refine tc_region ?_; refine tl_e (e_callX rfl (.cons rfl .nil) (fun w' hw' => two_c [] (by simp) (.slice none 0 0) w' (RdS.nil _ _ _ _))) rfl (fun x5 hx5 => ?_); refine tl_e (e_callX rfl (.cons rfl .nil) (fun w' hw' => leas_v _ _ _ w' (hx5.1.fr (hw'.calm hx5.2 (MI.m (by repeat constructor)) (SB.s (by repeat constructor)))))) rfl (fun y5 hy5 => ?_); refine tl_q (y_move rfl) rfl ?_; refine tl_q (y_extract rfl rfl) rfl ?_; refine tl_q (y_extract rfl rfl) rfl ?_; refine tl_q (y_assign rfl) rfl ?_; refine tl_q (y_assign rfl) rfl ?_; refine tl_nil ?_; ((refine hK6 ?_; try (clear hK6; clear K6)))
  all_goals refine tc_seq fun K7 hK7 => ?_; refine tc_lay ([]) (SB.s .nil) (fun wl6 hl6 => ?_); refine tc_region ?_; refine tl_q (y_build_g (by repeat constructor)) rfl ?_; refine tl_e (e_bsliceG rfl (.agg rfl rfl .nil) rfl rfl) rfl (fun b42 _ => ?_); refine tl_e (e_callX rfl (.cons rfl .nil) (fun w' hw' => two_c [badG] (by simp) _ w' (RdS.own0 (xs := [badG]) sgE_len hw' (by repeat constructor)))) rfl (fun x6 hx6 => ?_); refine tl_e (e_callV rfl (.cons rfl .nil) (fun w' hw' => frst_v _ _ _ w' (hx6.1.fr (hw'.calm hx6.2 (MI.m (by repeat constructor)) (SB.s (by repeat constructor)))))) rfl (fun _ _ => ?_); refine tl_q (y_move rfl) rfl ?_; refine tl_q (y_extract rfl rfl) rfl ?_; refine tl_q (y_extract rfl rfl) rfl ?_; refine tl_q (y_assign rfl) rfl ?_; refine tl_q (y_assign rfl) rfl ?_; refine tl_nil ?_; ((refine hK7 ?_; try (clear hK7; clear K7)))
  all_goals refine tc_seq fun K8 hK8 => ?_; refine tc_lay ([]) (SB.s .nil) (fun wl7 hl7 => ?_); refine tc_region ?_; refine tl_q (y_build_g (by repeat constructor)) rfl ?_; refine tl_e (e_bsliceG rfl (.agg rfl rfl .nil) rfl rfl) rfl (fun b49 _ => ?_); refine tl_e (e_callX rfl (.cons rfl .nil) (fun w' hw' => two_c [badG] (by simp) _ w' (RdS.own0 (xs := [badG]) sgE_len hw' (by repeat constructor)))) rfl (fun x7 hx7 => ?_); refine tl_e (e_callX rfl (.cons rfl .nil) (fun w' hw' => leav_v _ _ _ w' (hx7.1.fr (hw'.calm hx7.2 (MI.m (by repeat constructor)) (SB.s (by repeat constructor)))))) rfl (fun y7 hy7 => ?_); refine tl_q (y_move rfl) rfl ?_; refine tl_q (y_extract rfl rfl) rfl ?_; refine tl_q (y_extract rfl rfl) rfl ?_; refine tl_q (y_assign rfl) rfl ?_; refine tl_q (y_assign rfl) rfl ?_; refine tl_nil ?_; ((refine hK8 ?_; try (clear hK8; clear K8)))
  all_goals refine tc_seq fun K9 hK9 => ?_; refine tc_lay ([]) (SB.s .nil) (fun wl8 hl8 => ?_); refine tc_region ?_; refine tl_q (y_move rfl) rfl ?_; refine tl_q (y_eql rfl rfl) rfl ?_; refine tl_q (y_move rfl) rfl ?_; refine tl_qg rfl rfl (y_move rfl) rfl ?_; ((refine tl_eg rfl rfl rfl (e_bslice rfl (by (repeat (first | exact .nil | apply PV.one rfl rfl)); done) rfl rfl) (fun _ _ => ?_)))
  all_goals (refine tl_eg rfl rfl rfl (e_callV rfl (.cons rfl (.cons rfl .nil)) (fun w' hw' => rSame_c [0, 1] [0, 1] (by decide) (by decide) _ _ w' (hy1.1.fr (hw'.fr (MI.m (by repeat constructor)))) (RdI.own0 hw' (by repeat constructor)))) (fun _ _ => ?_)); refine tl_q (y_pick_t rfl rfl) rfl ?_; refine tl_q (y_move rfl) rfl ?_; refine tl_qg rfl rfl (y_move rfl) rfl ?_; refine tl_qg rfl rfl (y_eql rfl rfl) rfl ?_; refine tl_q (y_pick_t rfl rfl) rfl ?_; refine tl_q (y_move rfl) rfl ?_; refine tl_qg rfl rfl (y_move rfl) rfl ?_; ((refine tl_eg rfl rfl rfl (e_bslice rfl (by (repeat (first | exact .nil | apply PV.one rfl rfl)); done) rfl rfl) (fun _ _ => ?_)))
  all_goals (refine tl_eg rfl rfl rfl (e_callV rfl (.cons rfl (.cons rfl .nil)) (fun w' hw' => rSame_c [2] [2] (by decide) (by decide) _ _ w' (hy2.1.fr (hw'.fr (MI.m (by repeat constructor)))) (RdI.own0 hw' (by repeat constructor)))) (fun _ _ => ?_)); refine tl_q (y_pick_t rfl rfl) rfl ?_; refine tl_q (y_move rfl) rfl ?_; refine tl_qg rfl rfl (y_move rfl) rfl ?_; refine tl_qg rfl rfl (y_eql rfl rfl) rfl ?_; refine tl_q (y_pick_t rfl rfl) rfl ?_; refine tl_q (y_move rfl) rfl ?_; refine tl_qg rfl rfl (y_move rfl) rfl ?_; ((refine tl_eg rfl rfl rfl (e_bslice rfl (by (repeat (first | exact .nil | apply PV.one rfl rfl)); done) rfl rfl) (fun _ _ => ?_)))
  all_goals (refine tl_eg rfl rfl rfl (e_callV rfl (.cons rfl (.cons rfl .nil)) (fun w' hw' => rSame_c [3, 2] [3, 2] (by decide) (by decide) _ _ w' (hy3.1.fr (hw'.fr (MI.m (by repeat constructor)))) (RdI.own0 hw' (by repeat constructor)))) (fun _ _ => ?_)); refine tl_q (y_pick_t rfl rfl) rfl ?_; refine tl_q (y_move rfl) rfl ?_; refine tl_qg rfl rfl (y_move rfl) rfl ?_; refine tl_qg rfl rfl (y_eql rfl rfl) rfl ?_; refine tl_q (y_pick_t rfl rfl) rfl ?_; refine tl_q (y_move rfl) rfl ?_; refine tl_qg rfl rfl (y_move rfl) rfl ?_; refine tl_qg rfl rfl (y_eql rfl rfl) rfl ?_; refine tl_q (y_pick_t rfl rfl) rfl ?_; refine tl_q (y_move rfl) rfl ?_; refine tl_qg rfl rfl (y_move rfl) rfl ?_; refine tl_qg rfl rfl (y_eql rfl rfl) rfl ?_; refine tl_q (y_pick_t rfl rfl) rfl ?_; refine tl_q (y_move rfl) rfl ?_; refine tl_qg rfl rfl (y_move rfl) rfl ?_; ((refine tl_eg rfl rfl rfl (e_bslice rfl (by (repeat (first | exact .nil | apply PV.one rfl rfl)); done) rfl rfl) (fun _ _ => ?_)))
  all_goals (refine tl_eg rfl rfl rfl (e_callV rfl (.cons rfl (.cons rfl .nil)) (fun w' hw' => rSame_c [0, 0] [0, 0] (by decide) (by decide) _ _ w' (hy5.1.fr (hw'.fr (MI.m (by repeat constructor)))) (RdI.own0 hw' (by repeat constructor)))) (fun _ _ => ?_)); refine tl_q (y_pick_t rfl rfl) rfl ?_; refine tl_q (y_move rfl) rfl ?_; refine tl_qg rfl rfl (y_move rfl) rfl ?_; refine tl_qg rfl rfl (y_eql rfl rfl) rfl ?_; refine tl_q (y_pick_t rfl rfl) rfl ?_; refine tl_q (y_move rfl) rfl ?_; refine tl_qg rfl rfl (y_move rfl) rfl ?_; refine tl_qg rfl rfl (y_eql rfl rfl) rfl ?_; refine tl_q (y_pick_t rfl rfl) rfl ?_; refine tl_q (y_move rfl) rfl ?_; refine tl_qg rfl rfl (y_move rfl) rfl ?_; refine tl_qg rfl rfl (y_eql rfl rfl) rfl ?_; refine tl_q (y_pick_t rfl rfl) rfl ?_; refine tl_q (y_move rfl) rfl ?_; refine tl_qg rfl rfl (y_move rfl) rfl ?_; ((refine tl_eg rfl rfl rfl (e_bslice rfl (by (repeat (first | exact .nil | apply PV.one rfl rfl)); done) rfl rfl) (fun _ _ => ?_)))
  all_goals (refine tl_eg rfl rfl rfl (e_callV rfl (.cons rfl (.cons rfl .nil)) (fun w' hw' => rSame_c [3] [3] (by decide) (by decide) _ _ w' ((hy7.1.fr (hl8.calm hy7.2 (MI.m (by repeat constructor)) (SB.s (by repeat constructor)))).fr (hw'.fr (w0 := wl8) (S := []) (MI.m (by repeat constructor)))) (RdI.own0 hw' (by repeat constructor)))) (fun _ _ => ?_)); refine tl_q (y_pick_t rfl rfl) rfl ?_; refine tl_q (y_assign rfl) rfl ?_; refine tl_nil ?_; ((refine hK9 ?_; try (clear hK9; clear K9)))
  all_goals refine tc_ret ?_; (repeat (first | refine tk_then_ret ?_))
  all_goals (refine tk_ret rfl rfl (.cons (.tmp rfl) .nil) ?_)
  all_goals (
   exact fun w' hw' => ⟨rfl, hw'.fr (w0 := w) (S := []) (MI.m (by repeat constructor))⟩)
end Go.Sp
/-
  SampleVerdicts, walked.
-/
namespace Go.Sp
open Go Go.Proofs
theorem RunF.mem {s : Smp} {b : Int} {c : List Int} : ∀ {k : Nat} {x : Bool} {l : List (Bool × Int)}, RunF s b c k x l → ∀ z ∈ l, z.2 = 0 ∨ z.2 = 1
  | 0, _, _, h, z, hz => by obtain rfl := h; cases hz
  | k + 1, _, _, ⟨y, t, h, hy, ht⟩, z, hz => by
    subst h
    rcases List.mem_cons.1 hz with rfl | hz
    · obtain ⟨n, _, _, rfl⟩ := mem_stepL.1 hy
      dsimp only
      split
      · exact .inr rfl
      · exact .inl rfl
    · exact RunF.mem ht z hz
end Go.Sp
/-
  SampleApart, walked.
-/
namespace Go.Sp
open Go Go.Proofs
def psQ (s : Smp) (b : Int) (n : Nat) : List Pas := ((List.range n).filter fun i => decide ((s.ps.getD i pas0).b = b)).map fun i => s.ps.getD i pas0
def sgQ (s : Smp) (b : Int) (n : Nat) : List Sgt := ((List.range n).filter fun i => decide ((s.sg.getD i sgt0).b = b)).map fun i => s.sg.getD i sgt0
theorem psQ_len (s : Smp) (b : Int) (n : Nat) : (psQ s b n).length ≤ n := filt_len
theorem sgQ_len (s : Smp) (b : Int) (n : Nat) : (sgQ s b n).length ≤ n := filt_len
/-- The sample with the entries of a bottle alone. -/
def ownB (s : Smp) (b : Int) : Smp := { s with ps := psQ s b s.ps.length, sg := sgQ s b s.sg.length }
theorem Few.own {s : Smp} (h : Few s) (b : Int) : Few (ownB s b) := ⟨h.st, Nat.le_trans (psQ_len s b _) h.ps, Nat.le_trans (sgQ_len s b _) h.sg⟩
theorem VSm.own {s : Smp} (hv : VSm s) (b : Int) : VSm (ownB s b) := hv.sub (filt_sub s.ps pas0 _) (filt_sub s.sg sgt0 _)
end Go.Sp
/-
  Law's helpers: has, within, fewer.
-/
namespace Go.Sp
open Go Go.Proofs
end Go.Sp
/-
  Lists of slices, read and made.
-/
namespace Go.Sp
open Go Go.Proofs
/-- A value of one cell. -/
abbrev Sv := { v : Value // v.oneCell' = true }
def svE (v : Sv) : List Value := [v.1]
theorem svE_len (v : Sv) : (svE v).length = 1 := rfl
theorem svE_one (v : Sv) : one' (svE v) := fun u hu => by obtain rfl := List.mem_singleton.1 hu; exact v.2
def sv0 : Sv := ⟨.slice none 0 0, rfl⟩
abbrev svS (n : Nat) (y : Option Addr × Nat) : Sv := ⟨slV n y, rfl⟩
/-- A slice reads so, and stays so as long as nothing but S turns. -/
def OKS {α : Type} (k : Nat) (enc : α → List Value) (w : World) (S : List Nat) (v : Value) (xs : List α) : Prop := RdS k enc w v xs ∧ (0 < xs.length → ∀ p m c, v = .slice (some p) m c → p.block < w.heap.size ∧ p.block ∉ S)
theorem RdS.frO {α : Type} {k : Nat} {enc : α → List Value} {w w' : World} {v : Value} {xs : List α} {S : List Nat} (h : RdS k enc w v xs) (f : Fr S w w') (hS : 0 < xs.length → sepS v S) : RdS k enc w' v xs := by
  by_cases h0 : 0 < xs.length
  · exact h.frS f (hS h0)
  · obtain ⟨h1, ad, cap, h2, _⟩ := h
    exact ⟨h1, ad, cap, h2, fun hn => absurd (Nat.pos_of_ne_zero hn) h0⟩
theorem OKS.rd' {α : Type} {k : Nat} {enc : α → List Value} {w w' : World} {S : List Nat} {v : Value} {xs : List α} (h : OKS k enc w S v xs) (f : Fr S w w') : RdS k enc w' v xs := h.1.frO f fun h0 p m c e hm => (h.2 h0 p m c e).2 hm
theorem OKS.step {α : Type} {k : Nat} {enc : α → List Value} {w w1 : World} {S S' : List Nat} {v : Value} {xs : List α} (h : OKS k enc w S v xs) (f : Fr S w w1) (hS : ∀ b ∈ S', b ∈ S ∨ w.heap.size ≤ b) : OKS k enc w1 S' v xs :=
  ⟨h.rd' f, fun h0 p m c e => by
    obtain ⟨h1, h2⟩ := h.2 h0 p m c e
    refine ⟨Nat.lt_of_lt_of_le h1 f.size, fun hm => ?_⟩
    rcases hS _ hm with g | g
    · exact h2 g
    · omega⟩
theorem HG.ownsK {bs : List (World × List Nat)} {H Hk : List (Nat × Obj)} {w : World} (hw : HG bs H w) (hk : Hk.Sublist H) {w0 : World} {S : List Nat} (hb : (w0, S) ∈ bs) : ∀ x ∈ Hk.map Prod.fst, x ∈ S ∨ w0.heap.size ≤ x := fun x hx => by
  obtain ⟨p, hp, rfl⟩ := List.mem_map.1 hx
  exact hw.own p (hk.subset hp) (w0, S) hb
theorem RdS.lt {α : Type} {k : Nat} {enc : α → List Value} (hk : ∀ x, (enc x).length = k) (h0 : 0 < k) {w : World} {v : Value} {xs : List α} (hr : RdS k enc w v xs) (hx : 0 < xs.length) : ∀ p m c, v = .slice (some p) m c → p.block < w.heap.size := fun p m c e => by
  obtain ⟨hl, ad, cap, e0, hc⟩ := hr
  obtain ⟨q, o, e2, hca⟩ := hc (by omega)
  rw [e0] at e
  injection e with e1
  rw [e2] at e1
  cases e1
  have hlen : 0 < (xs.flatMap enc).length := by rw [hl]; exact Nat.mul_pos hx h0
  have := hca.get 0 ((xs.flatMap enc)[0]'hlen) (by rw [List.getElem?_eq_getElem hlen])
  rcases Nat.lt_or_ge q w.heap.size with g | g
  · exact g
  · unfold World.cell? at this
    rw [show w.heap[(⟨q, o + 0, none⟩ : Addr).block]? = none from Array.getElem?_eq_none g] at this
    cases this
/-- What a call returned. -/
theorem OKS.mk' {α : Type} {k : Nat} {enc : α → List Value} (hk : ∀ x, (enc x).length = k) (h0 : 0 < k) {bs : List (World × List Nat)} {H Hk : List (Nat × Obj)} {w1 x2 : World} {S0 : List Nat} {v : Value} {xs : List α} (hw : HG bs H w1) (hs' : Hk.Sublist H) (hb : (x2, S0) ∈ bs) (hs : sepS v S0) (hr : RdS k enc x2 v xs) : OKS k enc w1 (Hk.map Prod.fst) v xs := by
  refine ⟨hr.frO (hw.fr hb) fun _ => hs, fun hx p m c e => ?_⟩
  have hlt := hr.lt hk h0 hx p m c e
  refine ⟨Nat.lt_of_lt_of_le hlt (hw.fr hb).size, fun hm => ?_⟩
  rcases hw.ownsK hs' hb _ hm with g | g
  · exact hs p m c e g
  · omega
/-- An own slice, let go. -/
theorem OKS.ofO {α : Type} {k : Nat} {enc : α → List Value} (hk : ∀ x, (enc x).length = k) {bs : List (World × List Nat)} {H' : List (Nat × Obj)} {w1 : World} {e : TypeId} {xs : List α} {oo : OwnB} (hok : okE k xs oo) (hw : HG bs (slE e enc xs oo ++ H') w1) : OKS k enc w1 (H'.map Prod.fst) (ouV xs.length oo) xs := by
  rcases oo with _ | ⟨b, cap, junk⟩
  · obtain rfl : xs = [] := hok
    exact ⟨RdS.nil k enc w1 0, fun h => absurd h (Nat.lt_irrefl 0)⟩
  · rw [slE_some] at hw
    have hn := hw.nodup
    rw [List.singleton_append, List.map_cons, List.nodup_cons] at hn
    refine ⟨?_, fun hx p m c e => by cases e; exact ⟨hw.lt List.mem_cons_self, hn.1⟩⟩
    refine ⟨flatS_len hk xs, some ⟨b, 0, none⟩, cap, rfl, fun _ => ⟨b, 0, rfl, ?_⟩⟩
    have := CA_pre (xs.flatMap enc) junk e (0, 0)
    rw [flatS_len hk] at this
    exact this.cells (hw.heap _ List.mem_cons_self)
def OKV {α : Type} (k : Nat) (enc : α → List Value) (w : World) (S : List Nat) (us : List Sv) (xss : List (List α)) : Prop := us.length = xss.length ∧ ∀ j, j < xss.length → OKS k enc w S (us.getD j sv0).1 (xss.getD j [])
theorem OKV.nil {α : Type} {k : Nat} {enc : α → List Value} {w : World} {S : List Nat} : OKV k enc w S [] [] := ⟨rfl, fun j hj => absurd hj (Nat.not_lt_zero j)⟩
theorem OKV.step {α : Type} {k : Nat} {enc : α → List Value} {w w1 : World} {S S' : List Nat} {us : List Sv} {xss : List (List α)} (h : OKV k enc w S us xss) (f : Fr S w w1) (hS : ∀ b ∈ S', b ∈ S ∨ w.heap.size ≤ b) : OKV k enc w1 S' us xss := ⟨h.1, fun j hj => (h.2 j hj).step f hS⟩
theorem getD_snocK {α : Type} {l : List α} {x z : α} {j : Nat} : (l ++ [x]).getD j z = if j < l.length then l.getD j z else if j = l.length then x else z := by
  rw [List.getD_eq_getElem?_getD, List.getD_eq_getElem?_getD]
  split
  · rename_i h; rw [List.getElem?_append_left h]
  · rename_i h
    rw [List.getElem?_append_right (by omega)]
    split
    · rename_i h2; subst h2; rw [Nat.sub_self]; rfl
    · rename_i h2; rw [List.getElem?_eq_none (by simp; omega)]; rfl
theorem OKV.snoc {α : Type} {k : Nat} {enc : α → List Value} {w : World} {S : List Nat} {us : List Sv} {xss : List (List α)} {v : Sv} {xs : List α} (h : OKV k enc w S us xss) (hv : OKS k enc w S v.1 xs) : OKV k enc w S (us ++ [v]) (xss ++ [xs]) := by
  refine ⟨by simp [h.1], fun j hj => ?_⟩
  rw [List.length_append, List.length_singleton] at hj
  rw [getD_snocK, getD_snocK, h.1]
  by_cases hlt : j < xss.length
  · rw [if_pos hlt, if_pos hlt]; exact h.2 j hlt
  · rw [if_neg hlt, if_neg hlt, if_pos (by omega), if_pos (by omega)]; exact hv
/-- A slice of slices reads so. -/
def RdLL {α : Type} (k : Nat) (enc : α → List Value) (w : World) (v : Value) (xss : List (List α)) : Prop := ∃ us : List Sv, RdS 1 svE w v us ∧ us.length = xss.length ∧ ∀ j, j < xss.length → RdS k enc w (us.getD j sv0).1 (xss.getD j [])
theorem RdLL.fr {α : Type} {k : Nat} {enc : α → List Value} {w w' : World} {v : Value} {xss : List (List α)} (h : RdLL k enc w v xss) (f : Fr [] w w') : RdLL k enc w' v xss := by
  obtain ⟨us, h1, h2, h3⟩ := h
  exact ⟨us, h1.fr f, h2, fun j hj => (h3 j hj).fr f⟩
theorem RdLL.nil {α : Type} (k : Nat) (enc : α → List Value) (w : World) (c : Nat) : RdLL k enc w (.slice none 0 c) [] := ⟨[], RdS.nil 1 svE w c, rfl, fun j hj => absurd hj (Nat.not_lt_zero j)⟩
theorem RdLL.one {α : Type} {k : Nat} {enc : α → List Value} {w : World} {v : Value} {xss : List (List α)} (h : RdLL k enc w v xss) : v.oneCell' = true := by obtain ⟨us, h1, _⟩ := h; exact h1.one
theorem RdLL.open {α : Type} {k : Nat} {enc : α → List Value} {w : World} {v : Value} {xss : List (List α)} (h : RdLL k enc w v xss) :
    ∃ ad cap b o, ∃ us : List Sv, v = .slice ad xss.length cap ∧ (0 < xss.length → ad = some ⟨b, o, none⟩) ∧ (∀ w', Fr [] w w' → ∀ i, i < xss.length → w'.cell? ⟨b, o + i, none⟩ = some (us.getD i sv0).1) ∧ ∀ w', Fr [] w w' → ∀ i, i < xss.length → RdS k enc w' (us.getD i sv0).1 (xss.getD i []) := by
  obtain ⟨us, h1, h2, h3⟩ := h
  obtain ⟨ad, cap, b, o, rfl, had, hcell⟩ := h1.open svE_len sv0
  rw [h2] at had
  refine ⟨ad, cap, b, o, us, by rw [h2], had, fun w' f i hi => ?_, fun w' f i hi => (h3 i hi).fr f⟩
  have := (hcell w' [] f (by simp) i (by omega)).get 0 _ rfl
  rw [Nat.mul_one, Nat.add_zero] at this
  exact this
theorem RdLL.ofO {α : Type} {k : Nat} {enc : α → List Value} {bs : List (World × List Nat)} {H H' : List (Nat × Obj)} {w wz : World} {S : List Nat} {us : List Sv} {xss : List (List α)} {e : TypeId} {oo : OwnB} (hok : okE 1 us oo) (hu : OKV k enc wz S us xss) (hw : HG bs H w) (hf : Fr S wz w) (hm : HT (slE e svE us oo) [] H H') : RdLL k enc w (ouV us.length oo) xss :=
  ⟨us, RdS.ofO svE_len hok hw hm, hu.1, fun j hj => (hu.2 j hj).rd' hf⟩
def NewV (w0 : World) (us : List Sv) : Prop := ∀ v ∈ us, NewS w0 v.1
theorem NewV.nil (w0 : World) : NewV w0 [] := fun v hv => by cases hv
theorem NewV.snoc {w0 : World} {us : List Sv} {v : Sv} (h : NewV w0 us) (hv : NewS w0 v.1) : NewV w0 (us ++ [v]) := fun u hu => by
  rcases List.mem_append.1 hu with hu | hu
  · exact h u hu
  · obtain rfl := List.mem_singleton.1 hu; exact hv
theorem NewS.sepN {w0 : World} {v : Value} {S : List Nat} (h : NewS w0 v) (hS : ∀ b ∈ S, b < w0.heap.size) : sepS v S := fun p m c e hm => by
  have h1 := h p m c e
  have h2 := hS _ hm
  omega
theorem NewS.le {w0 w1 : World} {v : Value} (h : NewS w1 v) (hs : w0.heap.size ≤ w1.heap.size) : NewS w0 v := fun p m c e => Nat.le_trans hs (h p m c e)
def RdLN {α : Type} (k : Nat) (enc : α → List Value) (w0 w : World) (v : Value) (xss : List (List α)) : Prop := ∃ us : List Sv, (RdS 1 svE w v us ∧ NewS w0 v) ∧ (us.length = xss.length ∧ NewV w0 us) ∧ ∀ j, j < xss.length → RdS k enc w (us.getD j sv0).1 (xss.getD j [])
theorem RdLN.fr {α : Type} {k : Nat} {enc : α → List Value} {w0 w w' : World} {v : Value} {xss : List (List α)} (h : RdLN k enc w0 w v xss) {S : List Nat} (hS : ∀ b ∈ S, b < w0.heap.size) (f : Fr S w w') : RdLN k enc w0 w' v xss := by
  obtain ⟨us, ⟨h1, h2⟩, ⟨h3, h4⟩, h5⟩ := h
  refine ⟨us, ⟨h1.frS f (h2.sepN hS), h2⟩, ⟨h3, h4⟩, fun j hj => (h5 j hj).frS f ?_⟩
  refine NewS.sepN (h4 _ ?_) hS
  exact getD_memG (by omega)
theorem RdLN.ll {α : Type} {k : Nat} {enc : α → List Value} {w0 w : World} {v : Value} {xss : List (List α)} (h : RdLN k enc w0 w v xss) : RdLL k enc w v xss := by
  obtain ⟨us, ⟨h1, h2⟩, ⟨h3, h4⟩, h5⟩ := h
  exact ⟨us, h1, h3, h5⟩
theorem RdLN.nil {α : Type} (k : Nat) (enc : α → List Value) (w0 w : World) (c : Nat) : RdLN k enc w0 w (.slice none 0 c) [] := ⟨[], ⟨RdS.nil 1 svE w c, NewS.nil _ _ _⟩, ⟨rfl, NewV.nil _⟩, fun j hj => absurd hj (Nat.not_lt_zero j)⟩
theorem RdLN.ofO {α : Type} {k : Nat} {enc : α → List Value} {bs : List (World × List Nat)} {H H' : List (Nat × Obj)} {w wz w0 : World} {S : List Nat} {us : List Sv} {xss : List (List α)} {e : TypeId} {oo : OwnB} (hok : okE 1 us oo) (hu : OKV k enc wz S us xss) (hn : NewV w0 us) (hw : HG bs H w) (hf : Fr S wz w) (hb : (w0, []) ∈ bs) (hm : HT (slE e svE us oo) [] H H') : RdLN k enc w0 w (ouV us.length oo) xss :=
  ⟨us, ⟨RdS.ofO svE_len hok hw hm, NewS.ofO hw hm hb⟩, ⟨hu.1, hn⟩, fun j hj => (hu.2 j hj).rd' hf⟩
end Go.Sp
/-
  The reference's Play.
-/
namespace Go.Sp
open Go Go.Proofs
/-- A truth: the hours of passes, and what was done. -/
structure Tth where
  hs : List Int
  ac : List (List Int)
structure RdTh (w : World) (t : Tth) (hv av : Value) : Prop where
  hs : RdI w hv t.hs
  ac : RdLL 1 inE w av t.ac
theorem RdTh.fr {w w' : World} {t : Tth} {hv av : Value} (h : RdTh w t hv av) (f : Fr [] w w') : RdTh w' t hv av := ⟨h.hs.fr f, h.ac.fr f⟩
abbrev tV (hv av : Value) : Value := .agg #[hv, av]
/-- How the seal of a bottle is, hour by hour. -/
def whN (s : Smp) (b : Int) (c acts : List Int) : Nat → Option (List Bool × Bool)
  | 0 => some ([], false)
  | h + 1 => match whN s b c acts h with
    | none => none
    | some (ws, br) => if acIs br (stB s c h) (acts.getD h 0) = true ∧ seenB s b h (acY br (acts.getD h 0)) = true then some (ws ++ [!acY br (acts.getD h 0)], acY br (acts.getD h 0)) else none
def playB (s : Smp) (t : Tth) (b : Nat) : Option (List Int × List Bool) := match heldF s b t.hs with
  | none => none
  | some l => match whN s b l (t.ac.getD b []) (s.L + 1).toNat with
    | none => none
    | some q => some (l, q.1)
def playN (s : Smp) (t : Tth) : Nat → Option (List (List Int) × List (List Bool))
  | 0 => some ([], [])
  | n + 1 => match playN s t n with
    | none => none
    | some q => match playB s t n with
      | none => none
      | some (l, ws) => some (q.1 ++ [l], q.2 ++ [ws])
def playF (s : Smp) (t : Tth) : Option (List (List Int) × List (List Bool)) := playN s t s.B.toNat
theorem whN_len {s : Smp} {b : Int} {c acts : List Int} : ∀ {h : Nat} {q : List Bool × Bool}, whN s b c acts h = some q → q.1.length = h
  | 0, q, e => by cases e; rfl
  | h + 1, q, e => by
    rw [whN] at e
    split at e
    · cases e
    · rename_i ws br h1
      split at e
      · cases e
        have := whN_len h1
        simp only at this
        simp [this]
      · cases e
theorem whN_none {s : Smp} {b : Int} {c acts : List Int} {n : Nat} (hn : whN s b c acts n = none) : ∀ m, n ≤ m → whN s b c acts m = none := by
  intro m hm
  obtain ⟨d, rfl⟩ : ∃ d, m = n + d := ⟨m - n, by omega⟩
  clear hm
  induction d with
  | zero => exact hn
  | succ d ih => rw [← Nat.add_assoc, whN, ih]
theorem playN_none {s : Smp} {t : Tth} {n : Nat} (hn : playN s t n = none) : ∀ m, n ≤ m → playN s t m = none := by
  intro m hm
  obtain ⟨d, rfl⟩ : ∃ d, m = n + d := ⟨m - n, by omega⟩
  clear hm
  induction d with
  | zero => exact hn
  | succ d ih => rw [← Nat.add_assoc, playN, ih]
theorem playN_len {s : Smp} {t : Tth} : ∀ {n : Nat} {q : List (List Int) × List (List Bool)}, playN s t n = some q → q.1.length = n ∧ q.2.length = n
  | 0, q, e => by cases e; exact ⟨rfl, rfl⟩
  | n + 1, q, e => by
    rw [playN] at e
    split at e
    · cases e
    · rename_i q' h1
      split at e
      · cases e
      · cases e
        have := playN_len h1
        simp [this]
/-- A truth that has as many hours and acts as a sample asks for. -/
structure Lst (s : Smp) (t : Tth) : Prop where
  hs : t.hs.length = s.ps.length
  an : (t.ac.length : Int) = s.B
  al : ∀ j, j < t.ac.length → ((t.ac.getD j []).length : Int) = s.L + 1
theorem heldF_none {s : Smp} (hv : VSm s) {b : Int} {ts : List Int} (hE : heldF s b ts = none) (hts : ts.length = s.ps.length) (tv pv gv hv' : Value) (w : World) (hr : RdSm w s tv pv gv) (hh : RdI w hv' ts) :
    CnX Tryz.prog 59 #[smV s tv pv gv, vi b, hv'] w [] (fun y : Option Addr × Nat => .tuple #[slV ([] : List Int).length y, .bool false]) (fun _ _ => True) := by
  have h := heldN_c s hv b ts hts tv pv gv hv' w hr hh
  rw [hE] at h
  exact h.imp id (fun _ => rfl) (fun _ h => h) (fun _ _ _ _ => trivial)
theorem heldF_some {s : Smp} (hv : VSm s) {b : Int} {ts c : List Int} (hE : heldF s b ts = some c) (hts : ts.length = s.ps.length) (tv pv gv hv' : Value) (w : World) (hr : RdSm w s tv pv gv) (hh : RdI w hv' ts) :
    CnX Tryz.prog 59 #[smV s tv pv gv, vi b, hv'] w [] (fun y : Option Addr × Nat => .tuple #[slV c.length y, .bool true]) (fun y w' => RdI w' (slV c.length y) c ∧ NewS w (slV c.length y)) := by
  have h := heldN_c s hv b ts hts tv pv gv hv' w hr hh
  rw [hE] at h
  exact h
theorem RdI.opensS {w : World} {xs : List Int} {x : Option Addr × Nat} {S : List Nat} (h : RdI w (slV xs.length x) xs) (hS : sepS (slV xs.length x) S) : ∃ b o, (0 < xs.length → x.1 = some ⟨b, o, none⟩) ∧ ∀ w', Fr S w w' → ∀ i, i < xs.length → w'.cell? ⟨b, o + i, none⟩ = some (vi (xs.getD i 0)) := by
  obtain ⟨ad, cap, b, o, e, had, hcell⟩ := RdS.opens (RdS.int.2 h) (fun _ => rfl) 0 hS
  injection e with e1 e2 e3
  subst e1
  refine ⟨b, o, had, fun w' f i hi => ?_⟩
  have := (hcell w' f i hi).get 0 _ rfl
  rw [Nat.mul_one] at this
  exact this
theorem ouV_one (n : Nat) (oo : OwnB) : (ouV n oo).oneCell' = true := by rcases oo with _ | ⟨b, c, j⟩ <;> rfl
abbrev svO (n : Nat) (oo : OwnB) : Sv := ⟨ouV n oo, ouV_one n oo⟩
set_option maxHeartbeats 4000000 in
theorem rPlay_c (s : Smp) (hf : Few s) (hv : VSm s) (t : Tth) (hl : Lst s t) (tv pv gv hvv avv : Value) (w : World) (hr : RdSm w s tv pv gv) (hrt : RdTh w t hvv avv) :
    CnX Tryz.prog 38 #[smV s tv pv gv, tV hvv avv] w [] (fun y : (Option Addr × Nat) × (Option Addr × Nat) => .tuple #[slV ((playF s t).getD ([], [])).1.length y.1, slV ((playF s t).getD ([], [])).2.length y.2, .bool (playF s t).isSome])
      (fun y w' => RdLN 1 inE w w' (slV ((playF s t).getD ([], [])).1.length y.1) ((playF s t).getD ([], [])).1 ∧ RdLN 1 boE w w' (slV ((playF s t).getD ([], [])).2.length y.2) ((playF s t).getD ([], [])).2) := by
  have hr0 := hr
  have ht0 := hrt
  have hb1 := hv.b1
  have hb3 := hv.b3
  have hl0 := hv.l0
  have hl9 := hv.l9
  have hst := hv.st
  have hla := hl.an
  obtain ⟨adt, cpt, bt, ot, rfl, hadt, hct⟩ := hr.st.open boE_len false
  obtain ⟨_, _, _, _, rfl, _, _⟩ := hr.ps.open psE_len pas0
  obtain ⟨_, _, _, _, rfl, _, _⟩ := hr.sg.open sgE_len sgt0
  obtain ⟨_, _, _, _, rfl, _, _⟩ := hrt.hs.open
  obtain ⟨ada, cpa, ba, oa, aus, rfl, hada, hca, hra⟩ := hrt.ac.open
  refine cnx0 (vs := [_, _]) Tryz.func38 rfl rfl ?_
  all_goals refine tc_seq fun K1 hK1 => ?_; refine tc_region ?_; refine tl_e (e_box rfl rfl rfl) rfl (fun b2 _ => ?_); refine tl_e (e_box rfl rfl rfl) rfl (fun b3 _ => ?_); refine tl_q (y_assign rfl) rfl ?_; refine tl_q (y_assign rfl) rfl ?_; refine tl_q (y_assign rfl) rfl ?_; refine tl_nil ?_; ((refine hK1 ?_; try (clear hK1; clear K1)))
  all_goals refine tc_seq fun K2 hK2 => ?_; refine tc_lay ([]) (SB.s .nil) (fun wl1 hl1 => ?_); refine tc_region ?_; refine tl_q (y_assign rfl) rfl ?_; refine tl_nil ?_; ((refine hK2 ?_; try (clear hK2; clear K2)))
  all_goals refine tc_seq fun K3 hK3 => ?_; refine tc_region ?_; refine tl_q (y_assign rfl) rfl ?_; refine tl_nil ?_; ((refine hK3 ?_; try (clear hK3; clear K3)))
  all_goals refine tc_seq fun K4 hK4 => ?_; refine tc_seq fun K5 hK5 => ?_; refine tc_region ?_; refine tl_q (y_assign rfl) rfl ?_; refine tl_nil ?_; ((refine hK5 ?_; try (clear hK5; clear K5)))
  all_goals refine tc_block ?_
  all_goals (
   refine tc_loop (fun p : Nat × (List (List Int) × List (List Bool)) × (List Sv × List Sv) × (OwnB × OwnB) × World => (p.1 : Int) ≤ s.B ∧ playN s t p.1 = some p.2.1 ∧ (okE 1 p.2.2.1.1 p.2.2.2.1.1 ∧ okE 1 p.2.2.1.2 p.2.2.2.1.2) ∧ OKV 1 inE p.2.2.2.2 ((slE 29 svE p.2.2.1.1 p.2.2.2.1.1 ++ slE 22 svE p.2.2.1.2 p.2.2.2.1.2).map Prod.fst) p.2.2.1.1 p.2.1.1 ∧ OKV 1 boE p.2.2.2.2 ((slE 29 svE p.2.2.1.1 p.2.2.2.1.1 ++ slE 22 svE p.2.2.1.2 p.2.2.2.1.2).map Prod.fst) p.2.2.1.2 p.2.1.2 ∧ NewV w p.2.2.1.1 ∧ NewV w p.2.2.1.2) (fun p => [(2, ptr b2), (3, ptr b3), (7, ouV p.2.2.1.1.length p.2.2.2.1.1), (8, ouV p.2.2.1.2.length p.2.2.2.1.2), (9, vi p.1)]) (fun p => [(p.2.2.2.2, (slE 29 svE p.2.2.1.1 p.2.2.2.1.1 ++ slE 22 svE p.2.2.1.2 p.2.2.2.1.2).map Prod.fst), (wl1, []), (w, [])]) (fun p => slE 29 svE p.2.2.1.1 p.2.2.2.1.1 ++ slE 22 svE p.2.2.1.2 p.2.2.2.1.2) (fun p => s.B.toNat - p.1) ?_ ?_
   · exact tk_lay [] (.refl _) fun wl2 hl2 => tk_start (0, ([], []), ([], []), (none, none), wl2) ⟨by dsimp only; omega, rfl, ⟨rfl, rfl⟩, OKV.nil, OKV.nil, NewV.nil _, NewV.nil _⟩ (.cons rfl (.cons rfl (.cons rfl (.cons rfl (.cons rfl .nil))))) (fun _ h => by rw [slE_none, slE_none]; exact h.subl (SB.s (by repeat constructor)) (SB.s (by repeat constructor)))
   · rintro ⟨n, q, ⟨us, vs⟩, ⟨o1, o2⟩, wz⟩ ⟨hn, hpn, ⟨hok1, hok2⟩, hu, hvv, hnu, hnv⟩
     dsimp only at hn hpn hok1 hok2 hu hvv hnu hnv ⊢
     obtain ⟨S, hS⟩ : ∃ S, S = (slE 29 svE us o1 ++ slE 22 svE vs o2).map Prod.fst := ⟨_, rfl⟩
     rw [← hS] at hu hvv ⊢
     have hpl := playN_len hpn
     have hul := hu.1
     have hvl := hvv.1
     all_goals refine tc_seq fun K6 hK6 => ?_; refine tc_seq fun K7 hK7 => ?_; refine tc_region ?_; refine tl_q (y_move rfl) rfl ?_; refine tl_q (y_field rfl) rfl ?_; refine tl_q (y_load1f rfl (hl1.at (by repeat constructor)) (MI.m (by repeat constructor)) (by simp) (by rfl)) rfl ?_; refine tl_q (y_lss rfl rfl) rfl ?_; refine tl_nil ?_; ((refine hK7 ?_; try (clear hK7; clear K7)))
     all_goals (
      refine tc_cond rfl (fun hc => ?_) (fun hc => ?_)
      · try simp only [decide_eq_true_eq, decide_eq_false_iff_not, Int.not_lt, Int.not_le, Bool.not_eq_true', Bool.not_eq_false', Decidable.not_not, not_true_eq_false] at hc
        all_goals refine tc_skip ?_; ((refine hK6 ?_; try (clear hK6; clear K6)))
        all_goals refine tc_seq fun K8 hK8 => ?_; refine tc_block ?_; refine tc_seq fun K9 hK9 => ?_; (rcases hhf : heldF s (n : Nat) t.hs with _ | l)
        all_goals refine tc_region ?_; refine tl_q (y_loadWf rfl (hl1.at (by repeat constructor)) (MI.m (by repeat constructor)) (by simp) (by rfl)) rfl ?_; refine tl_q (y_move rfl) rfl ?_; refine tl_q (y_field rfl) rfl ?_; refine tl_q (y_load1f rfl (hl1.at (by repeat constructor)) (MI.m (by repeat constructor)) (by simp) (by rfl)) rfl ?_; ((first | refine tl_e (e_callX rfl (.cons rfl (.cons rfl (.cons rfl .nil))) (fun w' hw' => heldF_none hv hhf hl.hs _ _ _ _ w' (hr0.fr (hw'.fr (w0 := w) (S := []) (MI.m (by repeat constructor)))) (ht0.hs.fr (hw'.fr (w0 := w) (S := []) (MI.m (by repeat constructor)))))) rfl (fun y hy => ?_) | refine tl_e (e_callX rfl (.cons rfl (.cons rfl (.cons rfl .nil))) (fun w' hw' => (heldF_some hv hhf hl.hs _ _ _ _ w' (hr0.fr (hw'.fr (w0 := w) (S := []) (MI.m (by repeat constructor)))) (ht0.hs.fr (hw'.fr (w0 := w) (S := []) (MI.m (by repeat constructor))))).imp (val' := fun y : Option Addr × Nat => .tuple #[slV l.length y, .bool true]) (p' := fun y w2 => RdI w2 (slV l.length y) l ∧ sepS (slV l.length y) S ∧ NewS w (slV l.length y)) id (fun _ => rfl) (fun _ h => h) (fun _ _ _ hp => ⟨hp.1, by rw [hS]; exact hp.2.sep hw', hp.2.le (hw'.fr (w0 := w) (S := []) (MI.m (by repeat constructor))).size⟩))) rfl (fun y hy => ?_)))
        all_goals refine tl_q (y_move rfl) rfl ?_; refine tl_q (y_extract rfl rfl) rfl ?_; refine tl_q (y_extract rfl rfl) rfl ?_; refine tl_q (y_assign rfl) rfl ?_; refine tl_q (y_assign rfl) rfl ?_; refine tl_nil ?_; ((refine hK9 ?_; try (clear hK9; clear K9)))
        all_goals refine tc_seq fun K10 hK10 => ?_; refine tc_seq fun K11 hK11 => ?_; refine tc_region ?_; refine tl_q (y_move rfl) rfl ?_; refine tl_q (y_not rfl) rfl ?_; refine tl_nil ?_; ((refine hK11 ?_; try (clear hK11; clear K11)))
        all_goals (
         refine tc_cond rfl (fun hc => ?_) (fun hc => ?_)
         · try simp only [decide_eq_true_eq, decide_eq_false_iff_not, Int.not_lt, Int.not_le, Bool.not_eq_true', Bool.not_eq_false', Decidable.not_not, not_true_eq_false] at hc
           all_goals ((first | (exfalso; with_reducible exact btf hc) | skip))
           all_goals refine tc_seq fun K12 hK12 => ?_; refine tc_region ?_; refine tl_q (y_assign rfl) rfl ?_; refine tl_q (y_assign rfl) rfl ?_; refine tl_q (y_assign rfl) rfl ?_; refine tl_nil ?_; ((refine hK12 ?_; try (clear hK12; clear K12)))
           all_goals refine tc_ret ?_; (repeat (first | refine tk_then_ret ?_ | refine tk_block_ret ?_))
           all_goals (refine tk_ret rfl rfl (.cons (.tmp rfl) (.cons (.tmp rfl) (.cons (.tmp rfl) .nil))) ?_)
           all_goals (
            first
            | (have hE : playF s t = none := by
                 have h1 : playB s t n = none := by unfold playB; rw [hhf]
                 have h2 : playN s t (n + 1) = none := by rw [playN, hpn]; simp only; rw [h1]
                 exact playN_none h2 _ (by omega)
               rw [hE]
               exact fun w' hw' => ⟨((none, 0), (none, 0)), rfl, hw'.fr (w0 := w) (S := []) (MI.m (by repeat constructor)), RdLN.nil _ _ _ _ _, RdLN.nil _ _ _ _ _⟩)
            | (have hE : playF s t = none := by
                 have h0 : whN s (n : Nat) l (t.ac.getD n []) (h + 1) = none := by rw [whN, hwh]; simp only; rw [if_neg (fun g => by simp_all)]
                 have h1 : playB s t n = none := by unfold playB; rw [hhf]; simp only; rw [whN_none h0 _ (by omega)]
                 have h2 : playN s t (n + 1) = none := by rw [playN, hpn]; simp only; rw [h1]
                 exact playN_none h2 _ (by omega)
               rw [hE]
               exact fun w' hw' => ⟨((none, 0), (none, 0)), rfl, hw'.fr (w0 := w) (S := []) (MI.m (by repeat constructor)), RdLN.nil _ _ _ _ _, RdLN.nil _ _ _ _ _⟩)
            | (obtain rfl : n = s.B.toNat := by omega
               have hE : playF s t = some q := hpn
               rw [hE]
               refine fun w' hw' => ⟨(ouA o1, ouA o2), ?_, hw'.fr (w0 := w) (S := []) (MI.m (by repeat constructor)), ?_, ?_⟩
               · show Ending.returned (outV [ouV us.length o1, ouV vs.length o2, .bool true]) = _
                 rw [hul, hvl]; rfl
               · have := RdLN.ofO hok1 hu hnu hw' (hw'.fr (w0 := wz) (S := S) (MI.m (by repeat constructor))) (w0 := w) (MI.m (by repeat constructor)) (by repeat constructor)
                 rw [hul] at this; exact this
               · have := RdLN.ofO hok2 hvv hnv hw' (hw'.fr (w0 := wz) (S := S) (MI.m (by repeat constructor))) (w0 := w) (MI.m (by repeat constructor)) (by repeat constructor)
                 rw [hvl] at this; exact this))
         · try simp only [decide_eq_true_eq, decide_eq_false_iff_not, Int.not_lt, Int.not_le, Bool.not_eq_true', Bool.not_eq_false', Decidable.not_not, not_true_eq_false] at hc
           all_goals ((first | (exfalso; with_reducible exact bft hc) | skip))
           all_goals refine tc_skip ?_; ((refine hK10 ?_; try (clear hK10; clear K10)))
           all_goals refine tc_seq fun K13 hK13 => ?_; ((obtain ⟨hyr, hyw⟩ := hy; have hlo := heldF_ok hv hhf; obtain ⟨yb, yo, hady, hcy⟩ := hyr.1.opensS hyr.2.1))
           all_goals (have hnB : n < t.ac.length := by omega)
           all_goals ((have hal := hl.al n hnB; obtain ⟨adn, cpn, bn, on, hen, hadn, hcn⟩ := (hra w (Fr.refl _ _) n hnB).open inE_len 0))
           all_goals refine tc_region ?_; refine tl_q (y_assign rfl) rfl ?_; refine tl_nil ?_; ((refine hK13 ?_; try (clear hK13; clear K13)))
           all_goals refine tc_seq fun K14 hK14 => ?_; refine tc_region ?_; refine tl_q (y_assign rfl) rfl ?_; refine tl_nil ?_; ((refine hK14 ?_; try (clear hK14; clear K14)))
           all_goals refine tc_seq fun K15 hK15 => ?_; refine tc_seq fun K16 hK16 => ?_; refine tc_region ?_; refine tl_q (y_assign rfl) rfl ?_; refine tl_nil ?_; ((refine hK16 ?_; try (clear hK16; clear K16)))
           all_goals refine tc_block ?_
           all_goals (
            refine tc_loop (fun p : Nat × (List Bool × Bool) × OwnB => (p.1 : Int) ≤ s.L + 1 ∧ whN s (n : Nat) l (t.ac.getD n []) p.1 = some p.2.1 ∧ okE 1 p.2.1.1 p.2.2) (fun p => [(2, ptr b2), (3, ptr b3), (7, ouV us.length o1), (8, ouV vs.length o2), (9, vi n), (10, slV l.length y.1), (12, ouV p.2.1.1.length p.2.2), (13, .bool p.2.1.2), (14, vi p.1)]) (fun _ => [(y.2, S), (wz, S), (wl1, []), (w, [])]) (fun p => slE 4 boE p.2.1.1 p.2.2 ++ (slE 29 svE us o1 ++ slE 22 svE vs o2)) (fun p => (s.L + 1).toNat - p.1) ?_ ?_
            · subst hS
              exact tk_start (0, ([], false), none) ⟨by dsimp only; omega, rfl, rfl⟩ (.cons rfl (.cons rfl (.cons rfl (.cons rfl (.cons rfl (.cons rfl (.cons rfl (.cons rfl (.cons rfl .nil))))))))) (fun _ h => by rw [slE_none, List.nil_append]; exact h.subl (SB.s (by repeat constructor)) (SB.s (by repeat constructor)))
            · rintro ⟨h, ⟨ws, br⟩, o3⟩ ⟨hh, hwh, hok3⟩
              dsimp only at hh hwh hok3 ⊢
              have hwl := whN_len hwh
              dsimp only at hwl
              all_goals refine tc_seq fun K17 hK17 => ?_; refine tc_seq fun K18 hK18 => ?_; refine tc_region ?_; refine tl_q (y_move rfl) rfl ?_; refine tl_q (y_field rfl) rfl ?_; refine tl_q (y_load1f rfl (hl1.at (by repeat constructor)) (MI.m (by repeat constructor)) (by simp) (by rfl)) rfl ?_; refine tl_q (y_leq rfl rfl) rfl ?_; refine tl_nil ?_; ((refine hK18 ?_; try (clear hK18; clear K18)))
              all_goals (
               refine tc_cond rfl (fun hc => ?_) (fun hc => ?_)
               · try simp only [decide_eq_true_eq, decide_eq_false_iff_not, Int.not_lt, Int.not_le, Bool.not_eq_true', Bool.not_eq_false', Decidable.not_not, not_true_eq_false] at hc
                 all_goals refine tc_skip ?_; ((refine hK17 ?_; try (clear hK17; clear K17)))
                 all_goals refine tc_seq fun K19 hK19 => ?_; refine tc_block ?_; refine tc_seq fun K20 hK20 => ?_; ((have hhl : h < l.length := (by omega); have hlb := hlo.2 h hhl; have hha : h < (t.ac.getD n []).length := (by omega)))
                 all_goals refine tc_draw (by kernel_rfl) ?_; refine tx_p 0 rfl (by kernel_rfl) (y_move rfl) rfl (fun _ _ _ h => h) (fun _ h => h) ?_; refine tx_p 1 rfl (by kernel_rfl) (y_field rfl) rfl (fun _ _ _ h => h) (fun _ h => h) ?_; refine tx_q 2 rfl (by kernel_rfl) (y_load1f rfl (hl1.at (by repeat constructor)) (MI.m (by repeat constructor)) (by simp) (by rfl)) rfl (fun _ _ _ h => h) (fun _ h => h) ?_; refine tx_p 3 rfl (by kernel_rfl) (y_move rfl) rfl (fun _ _ _ h => h) (fun _ h => h) ?_; refine tx_p 4 rfl (by kernel_rfl) (y_move rfl) rfl (fun _ _ _ h => h) (fun _ h => h) ?_; refine tx_p 5 rfl (by kernel_rfl) (y_index rfl rfl (by omega) (hady (by omega))) rfl (fun _ _ _ h => h) (fun _ h => h) ?_; ((refine tx_q 6 rfl (by kernel_rfl) (y_load1o (v := vi (l.getD h 0)) rfl (fun w' hw' => by rw [show Int.toNat (h : Int) * 1 = h from by omega]; exact hcy w' (hw'.fr (w0 := y.2) (S := S) (MI.m (by repeat constructor))) h hhl)) rfl (fun _ _ _ h => h) (fun _ h => h) ?_))
                 all_goals (refine tx_p 7 rfl (by kernel_rfl) (y_index rfl rfl (by omega) (hadt (by omega))) rfl (fun _ _ _ h => h) (fun _ h => h) ?_); ((refine tx_q 8 rfl (by kernel_rfl) (y_load1o (v := .bool (stB s l h)) rfl (fun w' hw' => by unfold stB; rw [Int.toNat_natCast]; have hx := (hct w' [] (hw'.fr (w0 := w) (S := []) (MI.m (by repeat constructor))) (by simp) (l.getD h 0).toNat (by omega)).get 0 _ rfl; exact hx)) rfl (fun _ _ _ h => h) (fun _ h => h) ?_))
                 all_goals refine tx_p 9 rfl (by kernel_rfl) (y_field rfl) rfl (fun _ _ _ h => h) (fun _ h => h) ?_; refine tx_q 10 rfl (by kernel_rfl) (y_load1f rfl (hl1.at (by repeat constructor)) (MI.m (by repeat constructor)) (by simp) (by rfl)) rfl (fun _ _ _ h => h) (fun _ h => h) ?_; refine tx_p 11 rfl (by kernel_rfl) (y_move rfl) rfl (fun _ _ _ h => h) (fun _ h => h) ?_; refine tx_p 12 rfl (by kernel_rfl) (y_index rfl rfl (by omega) (hada (by omega))) rfl (fun _ _ _ h => h) (fun _ h => h) ?_; ((refine tx_q 13 rfl (by kernel_rfl) (y_load1o (v := .slice adn (t.ac.getD n []).length cpn) rfl (fun w' hw' => by rw [show Int.toNat (n : Int) * 1 = n from by omega, ← hen]; exact hca w' (hw'.fr (w0 := w) (S := []) (MI.m (by repeat constructor))) n hnB)) rfl (fun _ _ _ h => h) (fun _ h => h) ?_))
                 all_goals refine tx_p 14 rfl (by kernel_rfl) (y_move rfl) rfl (fun _ _ _ h => h) (fun _ h => h) ?_; refine tx_p 15 rfl (by kernel_rfl) (y_index rfl rfl (by omega) (hadn (by omega))) rfl (fun _ _ _ h => h) (fun _ h => h) ?_; ((refine tx_q 16 rfl (by kernel_rfl) (y_load1o (v := vi ((t.ac.getD n []).getD h 0)) rfl (fun w' hw' => by rw [show Int.toNat (h : Int) * 1 = h from by omega]; have hx := (hcn w' [] (hw'.fr (w0 := w) (S := []) (MI.m (by repeat constructor))) (by simp) h hha).get 0 _ rfl; rw [Nat.mul_one] at hx; exact hx)) rfl (fun _ _ _ h => h) (fun _ h => h) ?_))
                 all_goals refine tx_e 17 rfl (by kernel_rfl) rfl (e_callV rfl (.cons rfl (.cons rfl (.cons rfl .nil))) (fun w' _ => acted_c br (stB s l h) _ w')) (.inr fun _ _ h => h) (fun _ _ => ?_); refine tx_p 18 rfl (by kernel_rfl) (y_move rfl) rfl (fun _ _ _ h => h) (fun _ h => h) ?_; refine tx_p 19 rfl (by kernel_rfl) (y_extract rfl rfl) rfl (fun _ _ _ h => h) (fun _ h => h) ?_; refine tx_p 20 rfl (by kernel_rfl) (y_extract rfl rfl) rfl (fun _ _ _ h => h) (fun _ h => h) ?_; refine tx_p 21 rfl (by kernel_rfl) (y_assign rfl) rfl (fun _ _ _ h => h) (fun _ h => h) ?_; refine tx_p 22 rfl (by kernel_rfl) (y_assign rfl) rfl (fun _ _ _ h => h) (fun _ h => h) ?_; refine tx_done (by kernel_rfl) ?_; ((refine hK20 ?_; try (clear hK20; clear K20)))
                 all_goals refine tc_seq fun K21 hK21 => ?_; refine tc_seq fun K22 hK22 => ?_; refine tc_region ?_; refine tl_q (y_move rfl) rfl ?_; refine tl_q (y_not rfl) rfl ?_; refine tl_q (y_move rfl) rfl ?_; ((refine tl_gs rfl rfl (fun hc => ?_) (fun hc => ?_) <;> (try simp only [decide_eq_true_eq, decide_eq_false_iff_not, Int.not_lt, Int.not_le, Bool.not_eq_true', Bool.not_eq_false', Decidable.not_not, not_true_eq_false] at hc) <;> (first | refine tl_sk rfl rfl rfl rfl ?_ | refine tl_qg rfl rfl (y_loadWf rfl (hl1.at (by repeat constructor)) (MI.m (by repeat constructor)) (by simp) (by rfl)) rfl ?_)))
                 all_goals (first | refine tl_sk rfl rfl rfl rfl ?_ | refine tl_qg rfl rfl (y_move rfl) rfl ?_); (first | refine tl_sk rfl rfl rfl rfl ?_ | refine tl_qg rfl rfl (y_move rfl) rfl ?_); (first | refine tl_sk rfl rfl rfl rfl ?_ | refine tl_qg rfl rfl (y_move rfl) rfl ?_); (first | refine tl_sk rfl rfl rfl rfl ?_ | refine tl_eg rfl rfl rfl (e_callV rfl (.cons rfl (.cons rfl (.cons rfl (.cons rfl .nil)))) (fun w' hw' => agrees_c s hf.sg n h _ _ _ _ w' (hr0.sg.fr (hw'.fr (w0 := w) (S := []) (MI.m (by repeat constructor)))))) (fun _ _ => ?_)); (first | refine tl_sk rfl rfl rfl rfl ?_ | refine tl_qg rfl rfl (y_not rfl) rfl ?_); (first | refine tl_q (y_pick_t rfl rfl) rfl ?_ | refine tl_q (y_pick_f rfl rfl) rfl ?_); refine tl_nil ?_; ((refine hK22 ?_; try (clear hK22; clear K22)))
                 all_goals (
                  refine tc_cond rfl (fun hc => ?_) (fun hc => ?_)
                  · try simp only [decide_eq_true_eq, decide_eq_false_iff_not, Int.not_lt, Int.not_le, Bool.not_eq_true', Bool.not_eq_false', Decidable.not_not, not_true_eq_false] at hc
                    all_goals refine tc_seq fun K23 hK23 => ?_; refine tc_region ?_; refine tl_q (y_assign rfl) rfl ?_; refine tl_q (y_assign rfl) rfl ?_; refine tl_q (y_assign rfl) rfl ?_; refine tl_nil ?_; ((refine hK23 ?_; try (clear hK23; clear K23)))
                    all_goals refine tc_ret ?_; (repeat (first | refine tk_then_ret ?_ | refine tk_block_ret ?_))
                    all_goals (refine tk_ret rfl rfl (.cons (.tmp rfl) (.cons (.tmp rfl) (.cons (.tmp rfl) .nil))) ?_)
                    all_goals (
                     first
                     | (have hE : playF s t = none := by
                          have h1 : playB s t n = none := by unfold playB; rw [hhf]
                          have h2 : playN s t (n + 1) = none := by rw [playN, hpn]; simp only; rw [h1]
                          exact playN_none h2 _ (by omega)
                        rw [hE]
                        exact fun w' hw' => ⟨((none, 0), (none, 0)), rfl, hw'.fr (w0 := w) (S := []) (MI.m (by repeat constructor)), RdLN.nil _ _ _ _ _, RdLN.nil _ _ _ _ _⟩)
                     | (have hE : playF s t = none := by
                          have h0 : whN s (n : Nat) l (t.ac.getD n []) (h + 1) = none := by rw [whN, hwh]; simp only; rw [if_neg (fun g => by simp_all)]
                          have h1 : playB s t n = none := by unfold playB; rw [hhf]; simp only; rw [whN_none h0 _ (by omega)]
                          have h2 : playN s t (n + 1) = none := by rw [playN, hpn]; simp only; rw [h1]
                          exact playN_none h2 _ (by omega)
                        rw [hE]
                        exact fun w' hw' => ⟨((none, 0), (none, 0)), rfl, hw'.fr (w0 := w) (S := []) (MI.m (by repeat constructor)), RdLN.nil _ _ _ _ _, RdLN.nil _ _ _ _ _⟩)
                     | (obtain rfl : n = s.B.toNat := by omega
                        have hE : playF s t = some q := hpn
                        rw [hE]
                        refine fun w' hw' => ⟨(ouA o1, ouA o2), ?_, hw'.fr (w0 := w) (S := []) (MI.m (by repeat constructor)), ?_, ?_⟩
                        · show Ending.returned (outV [ouV us.length o1, ouV vs.length o2, .bool true]) = _
                          rw [hul, hvl]; rfl
                        · have := RdLN.ofO hok1 hu hnu hw' (hw'.fr (w0 := wz) (S := S) (MI.m (by repeat constructor))) (w0 := w) (MI.m (by repeat constructor)) (by repeat constructor)
                          rw [hul] at this; exact this
                        · have := RdLN.ofO hok2 hvv hnv hw' (hw'.fr (w0 := wz) (S := S) (MI.m (by repeat constructor))) (w0 := w) (MI.m (by repeat constructor)) (by repeat constructor)
                          rw [hvl] at this; exact this))
                  · try simp only [decide_eq_true_eq, decide_eq_false_iff_not, Int.not_lt, Int.not_le, Bool.not_eq_true', Bool.not_eq_false', Decidable.not_not, not_true_eq_false] at hc
                    all_goals ((first | (exfalso; with_reducible exact btf hc) | skip))
                    all_goals refine tc_skip ?_; ((refine hK21 ?_; try (clear hK21; clear K21)))
                    all_goals refine tc_region ?_; refine tl_q (y_move rfl) rfl ?_; refine tl_q (y_move rfl) rfl ?_; refine tl_q (y_not rfl) rfl ?_; (refine tl_e (e_bslice rfl (by (repeat (first | exact .nil | apply PV.one rfl rfl)); done) rfl rfl) rfl (fun _ _ => ?_))
                    all_goals ((refine tl_e (e_appendE (enc := boE) (xs := ws) (ys := [!acY br ((t.ac.getD n []).getD h 0)]) boE_len boE_one rfl rfl rfl hok3 (fun _ => by repeat constructor) (fun w' hw' => RdS.own0 boE_len hw' (by repeat constructor)) (by simp only [List.length_cons, List.length_nil]; omega) rfl) rfl (fun o3' hok3' => ?_)))
                    all_goals refine tl_q (y_assign rfl) rfl ?_; refine tl_nil ?_; ((refine hK19 ?_; try (clear hK19; clear K19)))
                    all_goals refine tc_region ?_; refine tl_q (y_move rfl) rfl ?_; refine tl_q (y_add rfl rfl (by omega)) rfl ?_; refine tl_q (y_assign rfl) rfl ?_; refine tl_nil ?_
                    all_goals (
                     have hs : whN s (n : Nat) l (t.ac.getD n []) (h + 1) = some (ws ++ [!acY br ((t.ac.getD n []).getD h 0)], acY br ((t.ac.getD n []).getD h 0)) := by rw [whN, hwh]; simp only; rw [if_pos ⟨by assumption, by assumption⟩]
                     exact tk_round (h + 1, (ws ++ [!acY br ((t.ac.getD n []).getD h 0)], acY br ((t.ac.getD n []).getD h 0)), o3') ⟨by dsimp only; omega, hs, hok3'⟩ (by dsimp only; omega) (.cons rfl (.cons rfl (.cons rfl (.cons rfl (.cons rfl (.cons rfl (.cons rfl (.cons rfl (.cons rfl .nil))))))))) (fun _ h => h.subl (SB.s (by repeat constructor)) (SB.s (by repeat constructor)))))
               · try simp only [decide_eq_true_eq, decide_eq_false_iff_not, Int.not_lt, Int.not_le, Bool.not_eq_true', Bool.not_eq_false', Decidable.not_not, not_true_eq_false] at hc
                 all_goals refine tc_exit ?_; ((refine hK15 ?_; try (clear hK15; clear K15)))
                 all_goals refine tc_region ?_; refine tl_q (y_move rfl) rfl ?_; refine tl_q (y_move rfl) rfl ?_; (refine tl_e (e_bslice rfl (by (repeat (first | exact .nil | apply PV.one rfl rfl)); done) rfl rfl) rfl (fun _ _ => ?_))
                 all_goals ((refine tl_e (e_appendE (enc := svE) (xs := us) (ys := [svS l.length y.1]) svE_len svE_one rfl rfl rfl hok1 (fun _ => by repeat constructor) (fun w' hw' => RdS.own0 svE_len hw' (by repeat constructor)) (by simp only [List.length_cons, List.length_nil]; omega) rfl) rfl (fun o1' hok1' => ?_)))
                 all_goals refine tl_q (y_move rfl) rfl ?_; refine tl_q (y_move rfl) rfl ?_; (refine tl_e (e_bslice rfl (by (repeat (first | exact .nil | apply PV.one rfl rfl)); done) rfl rfl) rfl (fun _ _ => ?_))
                 all_goals ((refine tl_e (e_appendE (enc := svE) (xs := vs) (ys := [svO ws.length o3]) svE_len svE_one rfl rfl rfl hok2 (fun _ => by repeat constructor) (fun w' hw' => RdS.own0 svE_len hw' (by repeat constructor)) (by simp only [List.length_cons, List.length_nil]; omega) rfl) rfl (fun o2' hok2' => ?_)))
                 all_goals refine tl_q (y_assign rfl) rfl ?_; refine tl_q (y_assign rfl) rfl ?_; refine tl_nil ?_; ((refine hK8 ?_; try (clear hK8; clear K8)))
                 all_goals refine tc_lay (slE 29 svE (us ++ [svS l.length y.1]) o1' ++ slE 22 svE (vs ++ [svO ws.length o3]) o2') (((List.sublist_append_right _ _).cons _).cons _) (fun wl5 hl5 => ?_); refine tc_region ?_; refine tl_q (y_move rfl) rfl ?_; refine tl_q (y_add rfl rfl (by omega)) rfl ?_; refine tl_q (y_assign rfl) rfl ?_; refine tl_nil ?_
                 all_goals (
                  obtain rfl : h = (s.L + 1).toNat := by omega
                  have hpb : playB s t n = some (l, ws) := by unfold playB; rw [hhf]; simp only; rw [hwh]
                  have hpn1 : playN s t (n + 1) = some (q.1 ++ [l], q.2 ++ [ws]) := by rw [playN, hpn]; simp only; rw [hpb]
                  have hfz : Fr S wz wl5 := hl5.fr (w0 := wz) (S := S) (MI.m (by repeat constructor))
                  have hoz := hl5.ownsK (((List.sublist_append_right (slE 4 boE ws o3) (slE 29 svE (us ++ [svS l.length y.1]) o1' ++ slE 22 svE (vs ++ [svO ws.length o3]) o2')).cons _).cons _) (w0 := wz) (S := S) (MI.m (by repeat constructor))
                  have hol : OKS 1 inE wl5 ((slE 29 svE (us ++ [svS l.length y.1]) o1' ++ slE 22 svE (vs ++ [svO ws.length o3]) o2').map Prod.fst) (svS l.length y.1).1 l := OKS.mk' inE_len (by decide) hl5 (((List.sublist_append_right _ _).cons _).cons _) (x2 := y.2) (S0 := S) (MI.m (by repeat constructor)) hyr.2.1 (RdS.int.2 hyr.1)
                  have hnw : NewS w (svO ws.length o3).1 := NewS.ofO (hl5.sub (bs' := [(w, [])]) (by intro x hx; obtain rfl := List.mem_singleton.1 hx; exact (MI.m (by repeat constructor))) (((List.Sublist.refl _).cons _).cons _)) .here (MI.m (by repeat constructor))
                  have how := OKS.ofO boE_len hok3 (hl5.sub (fun _ h => h) (((List.Sublist.refl _).cons _).cons _))
                  exact tk_round (n + 1, (q.1 ++ [l], q.2 ++ [ws]), (us ++ [svS l.length y.1], vs ++ [svO ws.length o3]), (o1', o2'), wl5) ⟨by dsimp only; omega, hpn1, ⟨hok1', hok2'⟩, (hu.step hfz hoz).snoc hol, (hvv.step hfz hoz).snoc how, hnu.snoc hyr.2.2, hnv.snoc hnw⟩ (by dsimp only; omega) (.cons rfl (.cons rfl (.cons rfl (.cons rfl (.cons rfl .nil))))) (fun _ h => h.subl (SB.s (by repeat constructor)) (SB.s (by repeat constructor)))))))
      · try simp only [decide_eq_true_eq, decide_eq_false_iff_not, Int.not_lt, Int.not_le, Bool.not_eq_true', Bool.not_eq_false', Decidable.not_not, not_true_eq_false] at hc
        all_goals refine tc_exit ?_; ((refine hK4 ?_; try (clear hK4; clear K4)))
        all_goals refine tc_seq fun K24 hK24 => ?_; refine tc_region ?_; refine tl_q (y_move rfl) rfl ?_; refine tl_q (y_move rfl) rfl ?_; refine tl_q (y_assign rfl) rfl ?_; refine tl_q (y_assign rfl) rfl ?_; refine tl_q (y_assign rfl) rfl ?_; refine tl_nil ?_; ((refine hK24 ?_; try (clear hK24; clear K24)))
        all_goals refine tc_ret ?_; (repeat (first | refine tk_then_ret ?_))
        all_goals (refine tk_ret rfl rfl (.cons (.tmp rfl) (.cons (.tmp rfl) (.cons (.tmp rfl) .nil))) ?_)
        all_goals (
         first
         | (have hE : playF s t = none := by
              have h1 : playB s t n = none := by unfold playB; rw [hhf]
              have h2 : playN s t (n + 1) = none := by rw [playN, hpn]; simp only; rw [h1]
              exact playN_none h2 _ (by omega)
            rw [hE]
            exact fun w' hw' => ⟨((none, 0), (none, 0)), rfl, hw'.fr (w0 := w) (S := []) (MI.m (by repeat constructor)), RdLN.nil _ _ _ _ _, RdLN.nil _ _ _ _ _⟩)
         | (have hE : playF s t = none := by
              have h0 : whN s (n : Nat) l (t.ac.getD n []) (h + 1) = none := by rw [whN, hwh]; simp only; rw [if_neg (fun g => by simp_all)]
              have h1 : playB s t n = none := by unfold playB; rw [hhf]; simp only; rw [whN_none h0 _ (by omega)]
              have h2 : playN s t (n + 1) = none := by rw [playN, hpn]; simp only; rw [h1]
              exact playN_none h2 _ (by omega)
            rw [hE]
            exact fun w' hw' => ⟨((none, 0), (none, 0)), rfl, hw'.fr (w0 := w) (S := []) (MI.m (by repeat constructor)), RdLN.nil _ _ _ _ _, RdLN.nil _ _ _ _ _⟩)
         | (obtain rfl : n = s.B.toNat := by omega
            have hE : playF s t = some q := hpn
            rw [hE]
            refine fun w' hw' => ⟨(ouA o1, ouA o2), ?_, hw'.fr (w0 := w) (S := []) (MI.m (by repeat constructor)), ?_, ?_⟩
            · show Ending.returned (outV [ouV us.length o1, ouV vs.length o2, .bool true]) = _
              rw [hul, hvl]; rfl
            · have := RdLN.ofO hok1 hu hnu hw' (hw'.fr (w0 := wz) (S := S) (MI.m (by repeat constructor))) (w0 := w) (MI.m (by repeat constructor)) (by repeat constructor)
              rw [hul] at this; exact this
            · have := RdLN.ofO hok2 hvv hnv hw' (hw'.fr (w0 := wz) (S := S) (MI.m (by repeat constructor))) (w0 := w) (MI.m (by repeat constructor)) (by repeat constructor)
              rw [hvl] at this; exact this))))
end Go.Sp
/-
  Happened, plainly: what is so of the passes so far.
-/
namespace Go.Sp
open Go Go.Proofs
theorem getD_app1 {α : Type} {l : List α} {x d : α} {i : Nat} (h : i < l.length) : (l ++ [x]).getD i d = l.getD i d := by
  rw [List.getD_eq_getElem?_getD, List.getElem?_append_left h, ← List.getD_eq_getElem?_getD]
theorem getD_app2 {α : Type} {l : List α} {x d : α} {n : Nat} (h : n = l.length) : (l ++ [x]).getD n d = x := by
  subst h
  rw [List.getD_eq_getElem?_getD, List.getElem?_append_right (Nat.le_refl _), Nat.sub_self]; rfl
theorem InR.snoc : ∀ {ps : List Pas} {hs : List Int} {p : Pas} {k : Int}, InR ps hs → p.lo ≤ k ∧ k ≤ p.hi → InR (ps ++ [p]) (hs ++ [k])
  | [], hs, p, k, h, hk => by
    obtain rfl : hs = [] := h
    exact ⟨k, [], rfl, hk, rfl⟩
  | q :: ps, _, p, k, ⟨a, t, h, ha, ht⟩, hk => by
    subst h
    exact ⟨a, t ++ [k], rfl, ha, InR.snoc ht hk⟩
end Go.Sp
/-
  Happened.
-/
namespace Go.Sp
open Go Go.Proofs
section
variable {r : Option Nat} {P : Program} {ops : Array Oper} {Q : Exit → Act → World → Prop} {N : NN} {F : List (Nat × Value)} {bs : List (World × List Nat)} {H : List (Nat × Obj)}
end
theorem two_ones {a b : Value} (h1 : a.oneCell' = true) (h2 : b.oneCell' = true) : ∀ v ∈ (#[a, b] : Array Value).toList, v.oneCell' = true := by
  intro v hv
  simp only [List.mem_cons, List.not_mem_nil, or_false] at hv
  rcases hv with rfl | rfl
  · exact h1
  · exact h2
end Go.Sp
/-
  The sample before, and with, an entry: plainly.
-/
namespace Go.Sp
open Go Go.Proofs
/-- The first entries. -/
def fstK (s : Smp) (k : Nat) : Smp := { s with ps := s.ps.take k, sg := s.sg.take (k - s.ps.length) }
theorem VSm.fst {s : Smp} (hv : VSm s) (k : Nat) : VSm (fstK s k) := hv.sub (List.take_sublist _ _) (List.take_sublist _ _)
theorem Few.fst {s : Smp} (h : Few s) (k : Nat) : Few (fstK s k) := ⟨h.st, by have := h.ps; simp [fstK]; omega, by have := h.sg; simp [fstK]; omega⟩
end Go.Sp
/-
  The smallest set of entries, plainly.
-/
namespace Go.Sp
open Go Go.Proofs
end Go.Sp
/-
  Samples that allow more: what is returned of them, plainly.
-/
namespace Go.Sp
open Go Go.Proofs
/-- Whatever can be done with a bottle in the one sample can be done in the other one. -/
structure SubB (s s' : Smp) (b : Int) : Prop where
  L : s.L = s'.L
  st : ∀ c h, stB s c h = true → stB s' c h = true
  seen : ∀ h x, seenB s b h x = true → seenB s' b h x = true
  ch : ∀ c, c ∈ chainsL s b → c ∈ chainsL s' b
theorem actIs_mono {x st st' : Bool} (h : st = true → st' = true) {n : Nat} (hi : actIs x st n = true) : actIs x st' n = true := by
  match n with
  | 0 => rfl
  | 1 => exact hi
  | 2 =>
    have h1 : (x && st) = true := hi
    rw [Bool.and_eq_true] at h1
    show (x && st') = true
    rw [h1.1, h h1.2]; rfl
  | n + 3 =>
    have h1 : (!x && st) = true := hi
    rw [Bool.and_eq_true] at h1
    show (!x && st') = true
    rw [h1.1, h h1.2]; rfl
theorem SubB.step {s s' : Smp} {b : Int} (h : SubB s s' b) {c : List Int} {hr : Int} {x : Bool} {z : Bool × Int} (hz : z ∈ stepL s b hr (stB s c hr) x) : z ∈ stepL s' b hr (stB s' c hr) x := by
  obtain ⟨n, h1, ⟨h2, h3⟩, rfl⟩ := mem_stepL.1 hz
  exact mem_stepL.2 ⟨n, h1, ⟨actIs_mono (h.st c hr) h2, h.seen _ _ h3⟩, rfl⟩
theorem SubB.run {s s' : Smp} {b : Int} (h : SubB s s' b) {c : List Int} : ∀ {k : Nat} {x : Bool} {l : List (Bool × Int)}, RunF s b c k x l → RunF s' b c k x l
  | 0, _, _, hl => hl
  | k + 1, _, _, ⟨z, t, hl, hz, ht⟩ => ⟨z, t, hl, by rw [← h.L]; exact h.step hz, SubB.run h ht⟩
theorem SubB.can {s s' : Smp} {b : Int} (h : SubB s s' b) {c : List Int} (hc : canF s b c = true) : canF s' b c = true := by
  unfold canF at hc ⊢
  rw [← h.L]
  obtain ⟨l, hl⟩ := rst_run.1 hc
  exact rst_run.2 ⟨l, h.run hl⟩
theorem SubB.opn {s s' : Smp} {b : Int} (h : SubB s s' b) {c : List Int} (hc : canF s b c = true) {n : Nat} (hn : (n : Int) ≤ s.L) (ho : opnH s b c n = true) : opnH s' b c n = true := by
  obtain ⟨l, h1, h2⟩ := (opn_run hc hn).1 ho
  have := h.run h1
  rw [h.L] at this
  exact (opn_run (h.can hc) (by rw [← h.L]; exact hn)).2 ⟨l, this, h2⟩
theorem chains_iff {s : Smp} (hp : ∀ p ∈ s.ps, p.lo ≤ p.hi) {b : Int} (c : List Int) : c ∈ chainsL s b ↔ ∃ hs q, InR s.ps hs ∧ chN s b hs (s.L + 1).toNat = some q ∧ padC q.1 = c := by
  have hz : c ∈ chainsL s b ↔ ∃ z ∈ zAll b s.ps, zchF s.L s.F b z = some c := by
    show c ∈ ddC s b (timesL s b) ↔ _
    rw [ddC_mem]
    unfold zAll timesL
    constructor
    · rintro ⟨ts, h1, h2⟩
      refine ⟨_, List.mem_map.2 ⟨ts, h1, rfl⟩, ?_⟩
      rw [← chF_z (genT_len b s.ps [] ts h1 |>.trans (by simp))]; exact h2
    · rintro ⟨z, h1, h2⟩
      obtain ⟨ts, h3, rfl⟩ := List.mem_map.1 h1
      exact ⟨ts, h3, by rw [chF_z (genT_len b s.ps [] ts h3 |>.trans (by simp))]; exact h2⟩
  rw [hz]
  constructor
  · rintro ⟨z, h3, h4⟩
    obtain ⟨hs, h5, rfl⟩ := zAll_ex hp h3
    unfold zchF at h4
    rw [← chN_z s b hs h5.len] at h4
    obtain ⟨q, h6, h7⟩ := Option.map_eq_some_iff.1 h4
    exact ⟨hs, q, h5, h6, h7⟩
  · rintro ⟨hs, q, h1, h2, rfl⟩
    refine ⟨zOwn b s.ps hs, zOwn_in h1, ?_⟩
    unfold zchF
    rw [← chN_z s b hs h1.len, h2]; rfl
end Go.Sp
/-
  A truth is a way; bottles without stamps: plainly.
-/
namespace Go.Sp
open Go Go.Proofs
def opA (a : Int) : Bool := decide (a = 1) || decide (a = 3)
theorem stepL_act {s : Smp} {b : Int} {h : Int} {st x : Bool} {a : Int} (hi : acIs x st a = true) (hs : seenB s b h (acY x a) = true) : (acY x a, if (x || opA a) = true then 1 else 0) ∈ stepL s b h st x := by
  have key : ∃ n : Nat, n < 4 ∧ actIs x st n = true ∧ acY x a = actY x n ∧ opA a = opF n := by
    unfold acIs acY opA at *
    by_cases h1 : a = 1
    · subst h1; exact ⟨1, by decide, hi, rfl, rfl⟩
    · by_cases h2 : a = 2
      · subst h2; exact ⟨2, by decide, hi, rfl, rfl⟩
      · by_cases h3 : a = 3
        · subst h3; exact ⟨3, by decide, hi, rfl, rfl⟩
        · exact ⟨0, by decide, rfl, by rw [if_neg h1, if_neg h2, if_neg h3]; rfl, by rw [decide_eq_false h1, decide_eq_false h3]; rfl⟩
  obtain ⟨n, hn, h1, h2, h3⟩ := key
  refine mem_stepL.2 ⟨n, hn, ⟨h1, by rw [← h2]; exact hs⟩, ?_⟩
  rw [h2, h3]
  cases x <;> cases opF n <;> rfl
/-- Whether the seal is broken at the beginning of an hour. -/
def brA (ws : List Bool) : Nat → Bool
  | 0 => false
  | h + 1 => !ws.getD h false
theorem brA_app {ws : List Bool} {w : Bool} {h : Nat} (hh : h ≤ ws.length) : brA (ws ++ [w]) h = brA ws h := by
  cases h with
  | zero => rfl
  | succ h =>
    show (!(ws ++ [w]).getD h false) = (!ws.getD h false)
    rw [getD_app1 (by omega)]
theorem whN_br {s : Smp} {b : Int} {c acts : List Int} : ∀ {h : Nat} {ws : List Bool} {br : Bool}, whN s b c acts h = some (ws, br) → br = brA ws h
  | 0, ws, br, e => by cases e; rfl
  | h + 1, ws, br, e => by
    have hl := whN_len e
    rw [whN] at e
    split at e
    · cases e
    · rename_i ws' br' h1
      split at e
      · cases e
        have := whN_len h1
        simp only at this
        show _ = (!(ws' ++ [_]).getD h false)
        rw [getD_app2 this.symm, Bool.not_not]
      · cases e
theorem wh_pre {s : Smp} {b : Int} {c acts : List Int} (hcl : (c.length : Int) = s.L + 1) : ∀ {h : Nat} {ws : List Bool} {br : Bool}, (h : Int) ≤ s.L + 1 → whN s b c acts h = some (ws, br) → ∃ rl, PreF s b (padC c) h rl br ∧ ∀ i, i < h → rl.getD i (false, 0) = (!ws.getD i false, if (brA ws i || opA (acts.getD i 0)) = true then 1 else 0)
  | 0, ws, br, _, e => by cases e; exact ⟨[], ⟨rfl, rfl⟩, fun i hi => absurd hi (Nat.not_lt_zero i)⟩
  | h + 1, ws, br, hh, e => by
    rw [whN] at e
    split at e
    · cases e
    · rename_i ws' br' h1
      split at e
      · rename_i hc
        cases e
        have hl := whN_len h1
        simp only at hl
        have hb := whN_br h1
        obtain ⟨rl, h2, h3⟩ := wh_pre hcl (by omega) h1
        have hstep := stepL_act (s := s) (b := b) (h := (h : Int)) hc.1 hc.2
        rw [stB_pad (by omega)] at hstep
        refine ⟨rl ++ [_], ⟨rl, _, br', rfl, h2, hstep, rfl⟩, fun i hi => ?_⟩
        have hrl := h2.len
        by_cases hih : i < h
        · rw [getD_app1 (by omega), getD_app1 (by omega), brA_app (by omega)]; exact h3 i hih
        · obtain rfl : i = h := by omega
          rw [getD_app2 hrl.symm, getD_app2 hl.symm, brA_app (by omega), ← hb, Bool.not_not]
      · cases e
theorem play_at {s : Smp} {t : Tth} : ∀ {n : Nat} {q : List (List Int) × List (List Bool)}, playN s t n = some q → ∀ j, j < n → playB s t j = some (q.1.getD j [], q.2.getD j [])
  | 0, _, _, j, hj => absurd hj (Nat.not_lt_zero j)
  | n + 1, q, e, j, hj => by
    have hl := playN_len e
    rw [playN] at e
    split at e
    · cases e
    · rename_i q' h1
      split at e
      · cases e
      · rename_i l ws h2
        cases e
        have hl' := playN_len h1
        by_cases hjn : j < n
        · simp only
          rw [getD_app1 (by omega), getD_app1 (by omega)]; exact play_at h1 j hjn
        · obtain rfl : j = n := by omega
          simp only
          rw [getD_app2 hl'.1.symm, getD_app2 hl'.2.symm]; exact h2
/-- A truth of a bottle: who has it, and a way. -/
theorem truth_run {s : Smp} (hv : VSm s) {t : Tth} (hr : InR s.ps t.hs) {j : Nat} {l : List Int} {ws : List Bool} (hp : playB s t j = some (l, ws)) :
    padC l ∈ chainsL s j ∧ canF s j (padC l) = true ∧ (l.length : Int) = s.L + 1 ∧ (ws.length : Int) = s.L + 1 ∧ ∃ rl, RunF s j (padC l) (s.L + 1).toNat false rl ∧ ∀ i : Nat, (i : Int) ≤ s.L → rl.getD i (false, 0) = (!ws.getD i false, if (brA ws i || opA ((t.ac.getD j []).getD i 0)) = true then 1 else 0) := by
  have hl0 := hv.l0
  unfold playB at hp
  split at hp
  · cases hp
  · rename_i l' h1
    split at hp
    · cases hp
    · rename_i q h2
      cases hp
      have hlo := heldF_ok hv h1
      obtain ⟨ws, br⟩ := q
      obtain ⟨rl, h3, h4⟩ := wh_pre hlo.1 (by omega) h2
      have hrun : RunF s j (padC l) (s.L + 1).toNat false (rl ++ []) := h3.join (by omega) (by
        rw [show (s.L + 1 - (((s.L + 1).toNat : Nat) : Int)).toNat = 0 from by omega]; rfl)
      rw [List.append_nil] at hrun
      have hwl := whN_len h2
      simp only at hwl
      refine ⟨?_, ?_, hlo.1, by simp only; omega, rl, hrun, fun i hi => h4 i (by omega)⟩
      · unfold heldF at h1
        obtain ⟨q', h5, h6⟩ := Option.map_eq_some_iff.1 h1
        exact (chains_iff hv.ple _).2 ⟨t.hs, q', hr, h5, by rw [h6]⟩
      · unfold canF
        exact rst_run.2 ⟨rl, hrun⟩
end Go.Sp
/-
  SampleSealed, walked.
-/
namespace Go.Sp
open Go Go.Proofs
end Go.Sp
/-
  Sights of a truth; who can have opened a bottle; plainly.
-/
namespace Go.Sp
open Go Go.Proofs
structure SgOk (x : Smp) (q : List (List Int) × List (List Bool)) (sg : List Sgt) : Prop where
  n6 : sg.length ≤ 6
  v : ∀ g ∈ sg, ((0 ≤ g.b ∧ g.b < x.B) ∧ 0 ≤ g.h ∧ g.h ≤ x.L) ∧ (q.2.getD g.b.toNat []).getD g.h.toNat false = g.wh
theorem SgOk.nil (x : Smp) (q : List (List Int) × List (List Bool)) : SgOk x q [] := ⟨by simp, fun g hg => by cases hg⟩
theorem SgOk.snoc {x : Smp} {q : List (List Int) × List (List Bool)} {sg : List Sgt} (h : SgOk x q sg) (hl : sg.length < 6) {b k : Nat} (hb : (b : Int) < x.B) (hk : (k : Int) ≤ x.L) : SgOk x q (sg ++ [⟨b, k, (q.2.getD b []).getD k false⟩]) := by
  refine ⟨by simp; omega, fun g hg => ?_⟩
  rcases List.mem_append.1 hg with hg | hg
  · exact h.v g hg
  · obtain rfl := List.mem_singleton.1 hg
    exact ⟨⟨⟨by dsimp only; omega, hb⟩, by dsimp only; omega, hk⟩, rfl⟩
end Go.Sp
/-
  SampleLeft, walked.
-/
namespace Go.Sp
open Go Go.Proofs
end Go.Sp
/-
  SampleSealed.
-/
namespace Go.Sp
open Go Go.Proofs
/-- A slice of slices that lies apart from some blocks. -/
def RdLP {α : Type} (k : Nat) (enc : α → List Value) (S : List Nat) (w : World) (v : Value) (xss : List (List α)) : Prop := ∃ us : List Sv, (RdS 1 svE w v us ∧ sepS v S) ∧ (us.length = xss.length ∧ ∀ u ∈ us, sepS u.1 S) ∧ ∀ j, j < xss.length → RdS k enc w (us.getD j sv0).1 (xss.getD j [])
theorem RdLP.fr {α : Type} {k : Nat} {enc : α → List Value} {S : List Nat} {w w' : World} {v : Value} {xss : List (List α)} (h : RdLP k enc S w v xss) (f : Fr S w w') : RdLP k enc S w' v xss := by
  obtain ⟨us, ⟨h1, h2⟩, ⟨h3, h4⟩, h5⟩ := h
  exact ⟨us, ⟨h1.frS f h2, h2⟩, ⟨h3, h4⟩, fun j hj => (h5 j hj).frS f (h4 _ (getD_memG (by omega)))⟩
theorem RdLP.sub {α : Type} {k : Nat} {enc : α → List Value} {S S' : List Nat} {w : World} {v : Value} {xss : List (List α)} (h : RdLP k enc S w v xss) (hs : ∀ b ∈ S', b ∈ S) : RdLP k enc S' w v xss := by
  obtain ⟨us, ⟨h1, h2⟩, ⟨h3, h4⟩, h5⟩ := h
  exact ⟨us, ⟨h1, fun p m c e hm => h2 p m c e (hs _ hm)⟩, ⟨h3, fun u hu p m c e hm => h4 u hu p m c e (hs _ hm)⟩, h5⟩
theorem RdLP.ll {α : Type} {k : Nat} {enc : α → List Value} {S : List Nat} {w : World} {v : Value} {xss : List (List α)} (h : RdLP k enc S w v xss) : RdLL k enc w v xss := by
  obtain ⟨us, ⟨h1, h2⟩, ⟨h3, h4⟩, h5⟩ := h
  exact ⟨us, h1, h3, h5⟩
theorem RdLP.opens {α : Type} {k : Nat} {enc : α → List Value} {S : List Nat} {w : World} {n : Nat} {y : Option Addr × Nat} {xss : List (List α)} (h : RdLP k enc S w (slV n y) xss) :
    ∃ b o, ∃ us : List Sv, (0 < xss.length → y.1 = some ⟨b, o, none⟩) ∧ (∀ w', Fr S w w' → ∀ i, i < xss.length → w'.cell? ⟨b, o + i, none⟩ = some (us.getD i sv0).1) ∧ ∀ i, i < xss.length → sepS (us.getD i sv0).1 S ∧ RdS k enc w (us.getD i sv0).1 (xss.getD i []) := by
  obtain ⟨us, ⟨h1, h2⟩, ⟨h3, h4⟩, h5⟩ := h
  obtain ⟨ad, cap, b, o, e, had, hcell⟩ := h1.opens svE_len sv0 h2
  injection e with e1 e2 e3
  subst e1
  rw [h3] at had
  refine ⟨b, o, us, had, fun w' f i hi => ?_, fun i hi => ⟨h4 _ (getD_memG (by omega)), h5 i hi⟩⟩
  have := (hcell w' f i (by omega)).get 0 _ rfl
  rw [Nat.mul_one, Nat.add_zero] at this
  exact this
theorem sepS.sub {v : Value} {S S' : List Nat} (h : sepS v S) (hs : ∀ b ∈ S', b ∈ S) : sepS v S' := fun p m c e hm => h p m c e (hs _ hm)
theorem sepS.own {b n c : Nat} {S : List Nat} (h : b ∉ S) : sepS (.slice (some ⟨b, 0, none⟩) n c) S := fun p m c' e hm => by cases e; exact h hm
theorem rPlay_v {s : Smp} {t : Tth} {q : List (List Int) × List (List Bool)} (hq : playF s t = some q) (hf : Few s) (hv : VSm s) (hl : Lst s t) (tv pv gv hvv avv : Value) (w : World) (hr : RdSm w s tv pv gv) (hrt : RdTh w t hvv avv) :
    CnX Tryz.prog 38 #[smV s tv pv gv, tV hvv avv] w [] (fun y : (Option Addr × Nat) × (Option Addr × Nat) => .tuple #[slV q.1.length y.1, slV q.2.length y.2, .bool true])
      (fun y w' => RdLN 1 inE w w' (slV q.1.length y.1) q.1 ∧ RdLN 1 boE w w' (slV q.2.length y.2) q.2) := by
  have h := rPlay_c s hf hv t hl tv pv gv hvv avv w hr hrt
  rw [hq] at h
  exact h
end Go.Sp
/-
  Appending to an own slice what another one holds, of any length.
-/
namespace Go.Sp
open Go Go.Proofs
end Go.Sp
/-
  SampleMore, walked.
-/
namespace Go.Sp
open Go Go.Proofs
/-- So many sights, and one more, are not too many bytes. -/
def BigOk (n : Nat) : Prop := (n + 1) * 24 ≤ 140737488355328
theorem BigOk.b {n : Nat} {x : Sgt} (h : BigOk n) : (0 + n + [x].length) * 24 ≤ 140737488355328 := Nat.le_trans (Nat.mul_le_mul_right 24 (by rw [List.length_singleton, Nat.zero_add]; exact Nat.le_refl _)) h
end Go.Sp
/-
  Sighted.
-/
namespace Go.Sp
open Go Go.Proofs
end Go.Sp
/-
  SampleOpened.
-/
namespace Go.Sp
open Go Go.Proofs
theorem RdS.openV {α : Type} {k : Nat} {enc : α → List Value} {w : World} {n : Nat} {y : Option Addr × Nat} {xs : List α} (h : RdS k enc w (slV n y) xs) (hk : ∀ x, (enc x).length = k) (d : α) :
    ∃ b o, (0 < xs.length → y.1 = some ⟨b, o, none⟩) ∧ ∀ w', Fr [] w w' → ∀ i, i < xs.length → CA (fun n => w'.cell? ⟨b, n, none⟩) (o + i * k) k (enc (xs.getD i d)) := by
  obtain ⟨ad, cap, b, o, e, had, hcell⟩ := h.open hk d
  injection e with e1 e2 e3
  subst e1
  exact ⟨b, o, had, fun w' f i hi => hcell w' [] f (by simp) i hi⟩
end Go.Sp
/-
  Package sample: lists of truths; what is played with a bottle.
-/
namespace Go.Sp
open Go Go.Proofs
theorem indexIn_c (g : FuncId) [GoFn Tryz.prog g] (first cap : Array Value) (p : Int → Bool) (xs : List Int) (hx : (xs.length : Int) ≤ 9000000000000000000) (sl : Value) (w : World) (hr : RdI w sl xs) (ht : TestsG Tryz.prog vi g first cap p w) :
    CnV Tryz.prog 145 #[sl, .func (.func g) first cap] w (vi (idxG xs p)) := by
  obtain ⟨ad, cp, b0, o, rfl, had, hcell⟩ := hr.open
  refine cnv (vs := [_, _]) Tryz.func145 rfl rfl ?_
  all_goals refine tc_seq fun K1 hK1 => ?_; refine tc_region ?_; refine tl_q (y_assign rfl) rfl ?_; refine tl_nil ?_; ((refine hK1 ?_; try (clear hK1; clear K1)))
  all_goals refine tc_seq fun K2 hK2 => ?_; refine tc_seq fun K3 hK3 => ?_; refine tc_region ?_; refine tl_q (y_move rfl) rfl ?_; refine tl_q (y_len rfl) rfl ?_; refine tl_q (y_move rfl) rfl ?_; refine tl_nil ?_; ((refine hK3 ?_; try (clear hK3; clear K3)))
  all_goals refine tc_block ?_
  all_goals (
   refine tc_loop (fun k : Nat => k ≤ xs.length ∧ ∀ j, j < k → p (xs.getD j 0) = false) (fun k => [(0, .slice ad xs.length cp), (1, .func (.func g) first cap), (7, vi xs.length), (8, vi k)]) (fun _ => [(w, [])]) (fun _ => []) (fun k => xs.length - k) ?_ ?_
   · exact tk_start 0 ⟨Nat.zero_le _, fun j hj => absurd hj (Nat.not_lt_zero j)⟩ (.cons rfl (.cons rfl (.cons rfl (.cons rfl .nil)))) (fun _ h => h)
   · rintro k ⟨hk, hj⟩
     all_goals refine tc_seq fun K4 hK4 => ?_; refine tc_region ?_; refine tl_q (y_lss rfl rfl) rfl ?_; refine tl_nil ?_; ((refine hK4 ?_; try (clear hK4; clear K4)))
     all_goals refine tc_seq fun K5 hK5 => ?_
     all_goals (
      refine tc_cond rfl (fun hc => ?_) (fun hc => ?_)
      · try simp only [decide_eq_true_eq, decide_eq_false_iff_not, Int.not_lt, Int.not_le, Bool.not_eq_true', Bool.not_eq_false', Decidable.not_not, not_true_eq_false] at hc
        all_goals refine tc_skip ?_; ((refine hK5 ?_; try (clear hK5; clear K5)))
        all_goals refine tc_seq fun K6 hK6 => ?_; refine tc_block ?_; refine tc_seq fun K7 hK7 => ?_; refine tc_region ?_; refine tl_q (y_move rfl) rfl ?_; refine tl_q (y_assign rfl) rfl ?_; refine tl_nil ?_; ((refine hK7 ?_; try (clear hK7; clear K7)))
        all_goals refine tc_seq fun K8 hK8 => ?_
        have had' := had (by omega)
        all_goals refine tc_region ?_; refine tl_q (y_move rfl) rfl ?_; refine tl_q (y_move rfl) rfl ?_; refine tl_q (y_move rfl) rfl ?_; refine tl_q (y_index rfl rfl (by omega) had') rfl ?_; ((refine tl_q (y_load1o (v := vi (xs.getD k 0)) rfl (fun w' hw' => by rw [show Int.toNat (k : Int) * 1 = k from by omega]; exact hcell w' (hw'.fr (by simp)) k (by omega))) rfl ?_))
        all_goals refine tl_e (e_callVf rfl rfl (.cons rfl .nil) (fun w' hw' => ht (xs.getD k 0) w' (hw'.fr (by simp)))) rfl (fun _ _ => ?_); refine tl_nil ?_; ((refine hK8 ?_; try (clear hK8; clear K8)))
        all_goals (
         refine tc_cond rfl (fun hc => ?_) (fun hc => ?_)
         · all_goals (skip)
           all_goals refine tc_seq fun K9 hK9 => ?_; refine tc_region ?_; refine tl_q (y_move rfl) rfl ?_; refine tl_q (y_assign rfl) rfl ?_; refine tl_nil ?_; ((refine hK9 ?_; try (clear hK9; clear K9)))
           all_goals refine tc_ret ?_; (repeat (first | refine tk_then_ret ?_ | refine tk_block_ret ?_))
           all_goals (refine tk_ret rfl rfl (.cons (.tmp rfl) .nil) ?_)
           all_goals (
            first | exact fun w' hw' => ⟨by rw [idxG_hit (k := k) (by omega) (by simpa using hc) hj]; rfl, hw'.fr (by simp)⟩ | exact fun w' hw' => ⟨by rw [idxG_miss (d := 0) (fun j hjj => hj j (by omega))]; rfl, hw'.fr (by simp)⟩)
         · all_goals (skip)
           all_goals refine tc_skip ?_; ((refine hK6 ?_; try (clear hK6; clear K6)))
           all_goals refine tc_region ?_; refine tl_q (y_add rfl rfl (by omega)) rfl ?_; refine tl_q (y_move rfl) rfl ?_; refine tl_nil ?_
           all_goals (
            exact tk_round (k + 1) ⟨by omega, fun j hj' => by rcases Nat.lt_succ_iff_lt_or_eq.1 hj' with h | rfl; exact hj j h; simpa using hc⟩ (by omega) (.cons rfl (.cons rfl (.cons rfl (.cons rfl .nil)))) (fun _ h => h)))
      · try simp only [decide_eq_true_eq, decide_eq_false_iff_not, Int.not_lt, Int.not_le, Bool.not_eq_true', Bool.not_eq_false', Decidable.not_not, not_true_eq_false] at hc
        all_goals refine tc_exit ?_; ((refine hK2 ?_; try (clear hK2; clear K2)))
        all_goals refine tc_seq fun K10 hK10 => ?_; refine tc_region ?_; refine tl_q (y_assign rfl) rfl ?_; refine tl_nil ?_; ((refine hK10 ?_; try (clear hK10; clear K10)))
        all_goals refine tc_ret ?_; (repeat (first | refine tk_then_ret ?_))
        all_goals (refine tk_ret rfl rfl (.cons (.tmp rfl) .nil) ?_)
        all_goals (
         first | exact fun w' hw' => ⟨by rw [idxG_hit (k := k) (by omega) (by simpa using hc) hj]; rfl, hw'.fr (by simp)⟩ | exact fun w' hw' => ⟨by rw [idxG_miss (d := 0) (fun j hjj => hj j (by omega))]; rfl, hw'.fr (by simp)⟩)))
theorem containsFuncIn_c (g : FuncId) [GoFn Tryz.prog g] (first cap : Array Value) (p : Int → Bool) (xs : List Int) (hx : (xs.length : Int) ≤ 9000000000000000000) (sl : Value) (w : World) (hr : RdI w sl xs) (ht : TestsG Tryz.prog vi g first cap p w) :
    CnV Tryz.prog 124 #[sl, .func (.func g) first cap] w (.bool (xs.any p)) := by
  refine cnv (vs := [_, _]) Tryz.func124 rfl rfl ?_
  all_goals refine tc_seq fun K1 hK1 => ?_; refine tc_region ?_; refine tl_q (y_assign rfl) rfl ?_; refine tl_nil ?_; ((refine hK1 ?_; try (clear hK1; clear K1)))
  all_goals refine tc_seq fun K2 hK2 => ?_; refine tc_region ?_; refine tl_q (y_move rfl) rfl ?_; refine tl_q (y_move rfl) rfl ?_; refine tl_e (e_callV rfl (.cons rfl (.cons rfl .nil)) (fun w' hw' => indexIn_c g first cap p xs hx _ w' (hr.fr (hw'.fr (by simp))) (ht.fr (hw'.fr (by simp))))) rfl (fun _ _ => ?_); refine tl_q (y_geq rfl rfl) rfl ?_; refine tl_q (y_assign rfl) rfl ?_; refine tl_nil ?_; ((refine hK2 ?_; try (clear hK2; clear K2)))
  all_goals refine tc_ret ?_; (repeat (first | refine tk_then_ret ?_))
  all_goals (refine tk_ret rfl rfl (.cons (.tmp rfl) .nil) ?_)
  all_goals (
   exact fun w' hw' => ⟨by rw [← idxG_any]; rfl, hw'.fr (by simp)⟩)
theorem allIn1_c (g : FuncId) [GoFn Tryz.prog g] (first cap : Array Value) (p : Int → Bool) (x : Int) (b : Nat) (w : World) (hb : w.cell? ⟨b, 0, none⟩ = some (.func (.func g) first cap)) (ht : TestsG Tryz.prog vi g first cap p w) :
    CnV Tryz.prog 125 #[vi x, .pointer (some ⟨b, 0, none⟩)] w (.bool (!(p x))) := by
  refine cnv (vs := [_, _]) Tryz.func125 rfl rfl ?_
  all_goals refine tc_seq fun K1 hK1 => ?_; refine tc_region ?_; refine tl_q (y_assign rfl) rfl ?_; refine tl_nil ?_; ((refine hK1 ?_; try (clear hK1; clear K1)))
  all_goals refine tc_seq fun K2 hK2 => ?_; refine tc_region ?_; refine tl_q (y_load1o rfl (fun w' hw' => (hw'.fr (S := []) (w0 := w) (by simp)).cell (by simp) hb)) rfl ?_; refine tl_q (y_move rfl) rfl ?_; refine tl_e (e_callVf rfl rfl (.cons rfl .nil) (fun w' hw' => ht x w' (hw'.fr (by simp)))) rfl (fun _ _ => ?_); refine tl_q (y_not rfl) rfl ?_; refine tl_q (y_assign rfl) rfl ?_; refine tl_nil ?_; ((refine hK2 ?_; try (clear hK2; clear K2)))
  all_goals refine tc_ret ?_; (repeat (first | refine tk_then_ret ?_))
  all_goals (refine tk_ret rfl rfl (.cons (.tmp rfl) .nil) ?_)
  all_goals (
   exact fun w' hw' => ⟨rfl, hw'.fr (by simp)⟩)
theorem allIn_c (g : FuncId) [GoFn Tryz.prog g] (first cap : Array Value) (p : Int → Bool) (xs : List Int) (hx : (xs.length : Int) ≤ 9000000000000000000) (sl : Value) (w : World) (hr : RdI w sl xs) (ht : TestsG Tryz.prog vi g first cap p w) :
    CnV Tryz.prog 99 #[sl, .func (.func g) first cap] w (.bool (xs.all p)) := by
  refine cnv (vs := [_, _]) Tryz.func99 rfl rfl ?_
  all_goals refine tc_seq fun K1 hK1 => ?_; refine tc_region ?_; refine tl_e (e_box rfl rfl rfl) rfl (fun b _ => ?_); refine tl_q (y_assign rfl) rfl ?_; refine tl_nil ?_; ((refine hK1 ?_; try (clear hK1; clear K1)))
  all_goals refine tc_seq fun K2 hK2 => ?_; refine tc_region ?_; refine tl_q (y_move rfl) rfl ?_; refine tl_q (y_fn .nil (.cons rfl .nil)) rfl ?_; refine tl_e (e_callV rfl (.cons rfl (.cons rfl .nil)) (fun w' hw' => containsFuncIn_c 125 #[] #[.pointer (some ⟨b, 0, none⟩)] (fun x => !(p x)) xs hx _ w' (hr.fr (hw'.fr (by simp))) (fun x w2 f => by simpa using allIn1_c g first cap p x b w2 (f.cell (by simp) (cellAt_cell? (hw'.heap _ (HM.mem (by repeat constructor))) rfl)) ((ht.fr (hw'.fr (by simp))).fr f)))) rfl (fun _ _ => ?_); refine tl_q (y_not rfl) rfl ?_; refine tl_q (y_assign rfl) rfl ?_; refine tl_nil ?_; ((refine hK2 ?_; try (clear hK2; clear K2)))
  all_goals refine tc_ret ?_; (repeat (first | refine tk_then_ret ?_))
  all_goals (refine tk_ret rfl rfl (.cons (.tmp rfl) .nil) ?_)
  all_goals (
   exact fun w' hw' => ⟨by simp [outV, List.all_eq_not_any_not], hw'.fr (by simp)⟩)
def TestsN (P : Program) (us : List Sv) (g : FuncId) (first cap : Array Value) (p : Nat → Bool) (w : World) : Prop := ∀ (i : Nat) (w' : World), i < us.length → Fr [] w w' → CnV P g (first ++ #[(us.getD i sv0).1] ++ cap) w' (.bool (p i))
theorem TestsN.fr {P : Program} {us : List Sv} {g : FuncId} {first cap : Array Value} {p : Nat → Bool} {w w1 : World} (h : TestsN P us g first cap p w) (f : Fr [] w w1) : TestsN P us g first cap p w1 := fun i w' hi f' => h i w' hi (f.trans f' (by simp))
theorem rangeD {n k : Nat} (h : k < n) : (List.range n).getD k 0 = k := by
  rw [List.getD_eq_getElem?_getD, List.getElem?_range h]; rfl
theorem indexSl_c (g : FuncId) [GoFn Tryz.prog g] (first cap : Array Value) (p : Nat → Bool) (us : List Sv) (hx : (us.length : Int) ≤ 9000000000000000000) (sl : Value) (w : World) (hr : RdS 1 svE w sl us) (ht : TestsN Tryz.prog us g first cap p w) :
    CnV Tryz.prog 144 #[sl, .func (.func g) first cap] w (vi (idxG (List.range us.length) p)) := by
  obtain ⟨ad, cp, b0, o, rfl, had, hcell⟩ := hr.open svE_len sv0
  refine cnv (vs := [_, _]) Tryz.func144 rfl rfl ?_
  all_goals refine tc_seq fun K1 hK1 => ?_; refine tc_region ?_; refine tl_q (y_assign rfl) rfl ?_; refine tl_nil ?_; ((refine hK1 ?_; try (clear hK1; clear K1)))
  all_goals refine tc_seq fun K2 hK2 => ?_; refine tc_seq fun K3 hK3 => ?_; refine tc_region ?_; refine tl_q (y_move rfl) rfl ?_; refine tl_q (y_len rfl) rfl ?_; refine tl_q (y_move rfl) rfl ?_; refine tl_nil ?_; ((refine hK3 ?_; try (clear hK3; clear K3)))
  all_goals refine tc_block ?_
  all_goals (
   refine tc_loop (fun k : Nat => k ≤ us.length ∧ ∀ j, j < k → p j = false) (fun k => [(0, .slice ad us.length cp), (1, .func (.func g) first cap), (7, vi us.length), (8, vi k)]) (fun _ => [(w, [])]) (fun _ => []) (fun k => us.length - k) ?_ ?_
   · exact tk_start 0 ⟨Nat.zero_le _, fun j hj => absurd hj (Nat.not_lt_zero j)⟩ (.cons rfl (.cons rfl (.cons rfl (.cons rfl .nil)))) (fun _ h => h)
   · rintro k ⟨hk, hj⟩
     all_goals refine tc_seq fun K4 hK4 => ?_; refine tc_region ?_; refine tl_q (y_lss rfl rfl) rfl ?_; refine tl_nil ?_; ((refine hK4 ?_; try (clear hK4; clear K4)))
     all_goals refine tc_seq fun K5 hK5 => ?_
     all_goals (
      refine tc_cond rfl (fun hc => ?_) (fun hc => ?_)
      · try simp only [decide_eq_true_eq, decide_eq_false_iff_not, Int.not_lt, Int.not_le, Bool.not_eq_true', Bool.not_eq_false', Decidable.not_not, not_true_eq_false] at hc
        all_goals refine tc_skip ?_; ((refine hK5 ?_; try (clear hK5; clear K5)))
        all_goals refine tc_seq fun K6 hK6 => ?_; refine tc_block ?_; refine tc_seq fun K7 hK7 => ?_; refine tc_region ?_; refine tl_q (y_move rfl) rfl ?_; refine tl_q (y_assign rfl) rfl ?_; refine tl_nil ?_; ((refine hK7 ?_; try (clear hK7; clear K7)))
        all_goals refine tc_seq fun K8 hK8 => ?_
        have had' := had (by omega)
        all_goals refine tc_region ?_; refine tl_q (y_move rfl) rfl ?_; refine tl_q (y_move rfl) rfl ?_; refine tl_q (y_move rfl) rfl ?_; refine tl_q (y_index rfl rfl (by omega) had') rfl ?_; ((refine tl_q (y_load1o (v := (us.getD k sv0).1) rfl (fun w' hw' => by have hx := (hcell w' [] (hw'.fr (by simp)) (by simp) k (by omega)).get 0 _ rfl; rw [show Int.toNat (k : Int) = k from by omega]; exact hx)) rfl ?_))
        all_goals refine tl_e (e_callVf rfl rfl (.cons rfl .nil) (fun w' hw' => ht k w' (by omega) (hw'.fr (by simp)))) rfl (fun _ _ => ?_); refine tl_nil ?_; ((refine hK8 ?_; try (clear hK8; clear K8)))
        all_goals (
         refine tc_cond rfl (fun hc => ?_) (fun hc => ?_)
         · all_goals (skip)
           all_goals refine tc_seq fun K9 hK9 => ?_; refine tc_region ?_; refine tl_q (y_move rfl) rfl ?_; refine tl_q (y_assign rfl) rfl ?_; refine tl_nil ?_; ((refine hK9 ?_; try (clear hK9; clear K9)))
           all_goals refine tc_ret ?_; (repeat (first | refine tk_then_ret ?_ | refine tk_block_ret ?_))
           all_goals (refine tk_ret rfl rfl (.cons (.tmp rfl) .nil) ?_)
           all_goals (
            first | exact fun w' hw' => ⟨by rw [idxG_hit (d := 0) (k := k) (by rw [List.length_range]; omega) (by rw [rangeD (by omega)]; simpa using hc) (fun j hjk => by rw [rangeD (by omega)]; exact hj j hjk)]; rfl, hw'.fr (by simp)⟩ | exact fun w' hw' => ⟨by rw [idxG_miss (d := 0) (fun j hjj => by rw [List.length_range] at hjj; rw [rangeD (by omega)]; exact hj j (by omega))]; rfl, hw'.fr (by simp)⟩)
         · all_goals (skip)
           all_goals refine tc_skip ?_; ((refine hK6 ?_; try (clear hK6; clear K6)))
           all_goals refine tc_region ?_; refine tl_q (y_add rfl rfl (by omega)) rfl ?_; refine tl_q (y_move rfl) rfl ?_; refine tl_nil ?_
           all_goals (
            exact tk_round (k + 1) ⟨by omega, fun j hj' => by rcases Nat.lt_succ_iff_lt_or_eq.1 hj' with h | rfl; exact hj j h; simpa using hc⟩ (by omega) (.cons rfl (.cons rfl (.cons rfl (.cons rfl .nil)))) (fun _ h => h)))
      · try simp only [decide_eq_true_eq, decide_eq_false_iff_not, Int.not_lt, Int.not_le, Bool.not_eq_true', Bool.not_eq_false', Decidable.not_not, not_true_eq_false] at hc
        all_goals refine tc_exit ?_; ((refine hK2 ?_; try (clear hK2; clear K2)))
        all_goals refine tc_seq fun K10 hK10 => ?_; refine tc_region ?_; refine tl_q (y_assign rfl) rfl ?_; refine tl_nil ?_; ((refine hK10 ?_; try (clear hK10; clear K10)))
        all_goals refine tc_ret ?_; (repeat (first | refine tk_then_ret ?_))
        all_goals (refine tk_ret rfl rfl (.cons (.tmp rfl) .nil) ?_)
        all_goals (
         first | exact fun w' hw' => ⟨by rw [idxG_hit (d := 0) (k := k) (by rw [List.length_range]; omega) (by rw [rangeD (by omega)]; simpa using hc) (fun j hjk => by rw [rangeD (by omega)]; exact hj j hjk)]; rfl, hw'.fr (by simp)⟩ | exact fun w' hw' => ⟨by rw [idxG_miss (d := 0) (fun j hjj => by rw [List.length_range] at hjj; rw [rangeD (by omega)]; exact hj j (by omega))]; rfl, hw'.fr (by simp)⟩)))
theorem containsFuncSl_c (g : FuncId) [GoFn Tryz.prog g] (first cap : Array Value) (p : Nat → Bool) (us : List Sv) (hx : (us.length : Int) ≤ 9000000000000000000) (sl : Value) (w : World) (hr : RdS 1 svE w sl us) (ht : TestsN Tryz.prog us g first cap p w) :
    CnV Tryz.prog 122 #[sl, .func (.func g) first cap] w (.bool ((List.range us.length).any p)) := by
  refine cnv (vs := [_, _]) Tryz.func122 rfl rfl ?_
  all_goals refine tc_seq fun K1 hK1 => ?_; refine tc_region ?_; refine tl_q (y_assign rfl) rfl ?_; refine tl_nil ?_; ((refine hK1 ?_; try (clear hK1; clear K1)))
  all_goals refine tc_seq fun K2 hK2 => ?_; refine tc_region ?_; refine tl_q (y_move rfl) rfl ?_; refine tl_q (y_move rfl) rfl ?_; refine tl_e (e_callV rfl (.cons rfl (.cons rfl .nil)) (fun w' hw' => indexSl_c g first cap p us hx _ w' (hr.fr (hw'.fr (by simp))) (ht.fr (hw'.fr (by simp))))) rfl (fun _ _ => ?_); refine tl_q (y_geq rfl rfl) rfl ?_; refine tl_q (y_assign rfl) rfl ?_; refine tl_nil ?_; ((refine hK2 ?_; try (clear hK2; clear K2)))
  all_goals refine tc_ret ?_; (repeat (first | refine tk_then_ret ?_))
  all_goals (refine tk_ret rfl rfl (.cons (.tmp rfl) .nil) ?_)
  all_goals (
   exact fun w' hw' => ⟨by rw [← idxG_any]; rfl, hw'.fr (by simp)⟩)
theorem allSl1_c (g : FuncId) [GoFn Tryz.prog g] (first cap : Array Value) (p : Nat → Bool) (us : List Sv) (i : Nat) (hi : i < us.length) (b : Nat) (w : World) (hb : w.cell? ⟨b, 0, none⟩ = some (.func (.func g) first cap)) (ht : TestsN Tryz.prog us g first cap p w) :
    CnV Tryz.prog 123 #[(us.getD i sv0).1, .pointer (some ⟨b, 0, none⟩)] w (.bool (!(p i))) := by
  refine cnv (vs := [_, _]) Tryz.func123 rfl rfl ?_
  all_goals refine tc_seq fun K1 hK1 => ?_; refine tc_region ?_; refine tl_q (y_assign rfl) rfl ?_; refine tl_nil ?_; ((refine hK1 ?_; try (clear hK1; clear K1)))
  all_goals refine tc_seq fun K2 hK2 => ?_; refine tc_region ?_; refine tl_q (y_load1o rfl (fun w' hw' => (hw'.fr (S := []) (w0 := w) (by simp)).cell (by simp) hb)) rfl ?_; refine tl_q (y_move rfl) rfl ?_; refine tl_e (e_callVf rfl rfl (.cons rfl .nil) (fun w' hw' => ht i w' hi (hw'.fr (by simp)))) rfl (fun _ _ => ?_); refine tl_q (y_not rfl) rfl ?_; refine tl_q (y_assign rfl) rfl ?_; refine tl_nil ?_; ((refine hK2 ?_; try (clear hK2; clear K2)))
  all_goals refine tc_ret ?_; (repeat (first | refine tk_then_ret ?_))
  all_goals (refine tk_ret rfl rfl (.cons (.tmp rfl) .nil) ?_)
  all_goals (
   exact fun w' hw' => ⟨rfl, hw'.fr (by simp)⟩)
theorem allSl_c (g : FuncId) [GoFn Tryz.prog g] (first cap : Array Value) (p : Nat → Bool) (us : List Sv) (hx : (us.length : Int) ≤ 9000000000000000000) (sl : Value) (w : World) (hr : RdS 1 svE w sl us) (ht : TestsN Tryz.prog us g first cap p w) :
    CnV Tryz.prog 97 #[sl, .func (.func g) first cap] w (.bool ((List.range us.length).all p)) := by
  refine cnv (vs := [_, _]) Tryz.func97 rfl rfl ?_
  all_goals refine tc_seq fun K1 hK1 => ?_; refine tc_region ?_; refine tl_e (e_box rfl rfl rfl) rfl (fun b _ => ?_); refine tl_q (y_assign rfl) rfl ?_; refine tl_nil ?_; ((refine hK1 ?_; try (clear hK1; clear K1)))
  all_goals refine tc_seq fun K2 hK2 => ?_; refine tc_region ?_; refine tl_q (y_move rfl) rfl ?_; refine tl_q (y_fn .nil (.cons rfl .nil)) rfl ?_; refine tl_e (e_callV rfl (.cons rfl (.cons rfl .nil)) (fun w' hw' => containsFuncSl_c 123 #[] #[.pointer (some ⟨b, 0, none⟩)] (fun x => !(p x)) us hx _ w' (hr.fr (hw'.fr (by simp))) (fun i w2 hi f => by simpa using allSl1_c g first cap p us i hi b w2 (f.cell (by simp) (cellAt_cell? (hw'.heap _ (HM.mem (by repeat constructor))) rfl)) ((ht.fr (hw'.fr (by simp))).fr f)))) rfl (fun _ _ => ?_); refine tl_q (y_not rfl) rfl ?_; refine tl_q (y_assign rfl) rfl ?_; refine tl_nil ?_; ((refine hK2 ?_; try (clear hK2; clear K2)))
  all_goals refine tc_ret ?_; (repeat (first | refine tk_then_ret ?_))
  all_goals (refine tk_ret rfl rfl (.cons (.tmp rfl) .nil) ?_)
  all_goals (
   exact fun w' hw' => ⟨by simp [outV, List.all_eq_not_any_not], hw'.fr (by simp)⟩)
theorem mrhas_c (lo hi n : Int) (w : World) : CnV Tryz.prog 95 #[.agg #[vi lo, vi hi], vi n] w (.bool (decide (lo ≤ n ∧ n ≤ hi))) := by
  refine cnv (vs := [_, _]) Tryz.func95 rfl rfl ?_
  all_goals refine tc_seq fun K1 hK1 => ?_; refine tc_region ?_; refine tl_e (e_box rfl rfl rfl) rfl (fun b2 _ => ?_); refine tl_q (y_assign rfl) rfl ?_; refine tl_nil ?_; ((refine hK1 ?_; try (clear hK1; clear K1)))
  all_goals refine tc_seq fun K2 hK2 => ?_; refine tc_region ?_; refine tl_q (y_move rfl) rfl ?_; refine tl_q (y_field rfl) rfl ?_; refine tl_q (y_load1 rfl (by repeat constructor) (by rfl)) rfl ?_; refine tl_q (y_field rfl) rfl ?_; refine tl_q (y_load1 rfl (by repeat constructor) (by rfl)) rfl ?_; refine tl_e (e_callV rfl (.cons rfl (.cons rfl (.cons rfl .nil))) (fun w' _ => mwithin_c _ _ _ w')) rfl (fun _ _ => ?_); refine tl_q (y_assign rfl) rfl ?_; refine tl_nil ?_; ((refine hK2 ?_; try (clear hK2; clear K2)))
  all_goals refine tc_ret ?_; (repeat (first | refine tk_then_ret ?_))
  all_goals (refine tk_ret rfl rfl (.cons (.tmp rfl) .nil) ?_)
  all_goals (
   exact fun w' hw' => ⟨rfl, hw'.fr (w0 := w) (S := []) (MI.m (by repeat constructor))⟩)
abbrev kindF (a : Int) : Bool := decide (0 ≤ a ∧ a ≤ 3)
theorem listed1_c (n : Int) (w : World) : CnV Tryz.prog 96 #[vi n] w (.bool (kindF n)) := by
  refine cnv (vs := [_]) Tryz.func96 rfl rfl ?_
  all_goals refine tc_seq fun K1 hK1 => ?_; refine tc_region ?_; refine tl_q (y_assign rfl) rfl ?_; refine tl_nil ?_; ((refine hK1 ?_; try (clear hK1; clear K1)))
  all_goals refine tc_seq fun K2 hK2 => ?_; refine tc_region ?_; refine tl_q (y_move rfl) rfl ?_; refine tl_e (e_callV rfl (.cons rfl (.cons rfl (.cons rfl .nil))) (fun w' _ => mwithin_c _ _ _ w')) rfl (fun _ _ => ?_); refine tl_q (y_assign rfl) rfl ?_; refine tl_nil ?_; ((refine hK2 ?_; try (clear hK2; clear K2)))
  all_goals refine tc_ret ?_; (repeat (first | refine tk_then_ret ?_))
  all_goals (refine tk_ret rfl rfl (.cons (.tmp rfl) .nil) ?_)
  all_goals (
   exact fun w' hw' => ⟨rfl, hw'.fr (w0 := w) (S := []) (MI.m (by repeat constructor))⟩)
def actsF (s : Smp) (l : List Int) : Bool := decide ((l.length : Int) = s.L + 1) && l.all kindF
theorem listed2_c (s : Smp) (hl : 0 ≤ s.L ∧ s.L ≤ 9) (tv pv gv : Value) (b2 b7 : Nat) (l : List Int) (hll : l.length ≤ 100) (lv : Value) (w : World) (h2 : w.heap[b2]? = some (smO s tv pv gv)) (h7 : w.heap[b7]? = some (.cells #[.func (.func 96) #[] #[]] 98 (0, 0))) (hr : RdI w lv l) :
    CnV Tryz.prog 98 #[lv, ptr b2, ptr b7] w (.bool (actsF s l)) := by
  have hr0 := hr
  obtain ⟨ad, cp, b0, o, rfl, had, hcell⟩ := hr.open
  refine cnv (vs := [_, _, _]) Tryz.func98 rfl rfl ?_
  all_goals refine tc_seq fun K1 hK1 => ?_; refine tc_region ?_; refine tl_q (y_assign rfl) rfl ?_; refine tl_nil ?_; ((refine hK1 ?_; try (clear hK1; clear K1)))
  all_goals refine tc_seq fun K2 hK2 => ?_; refine tc_region ?_; refine tl_q (y_move rfl) rfl ?_; refine tl_q (y_len rfl) rfl ?_; refine tl_q (y_field rfl) rfl ?_; refine tl_q (y_load1o (v := vi s.L) rfl (fun w' hw' => cell0 ((hw'.fr (w0 := w) (S := []) (MI.m (by repeat constructor))).keep h2) rfl)) rfl ?_; refine tl_q (y_add rfl rfl (by omega)) rfl ?_; refine tl_q (y_eql rfl rfl) rfl ?_; refine tl_q (y_move rfl) rfl ?_; ((refine tl_gs rfl rfl (fun hc => ?_) (fun hc => ?_) <;> (try simp only [decide_eq_true_eq, decide_eq_false_iff_not, Int.not_lt, Int.not_le, Bool.not_eq_true', Bool.not_eq_false', Decidable.not_not, not_true_eq_false] at hc) <;> (first | refine tl_sk rfl rfl rfl rfl ?_ | refine tl_qg rfl rfl (y_move rfl) rfl ?_)))
  all_goals (first | refine tl_sk rfl rfl rfl rfl ?_ | refine tl_qg rfl rfl (y_load1o (v := .func (.func 96) #[] #[]) rfl (fun w' hw' => cell0 ((hw'.fr (w0 := w) (S := []) (MI.m (by repeat constructor))).keep h7) rfl)) rfl ?_); (first | refine tl_sk rfl rfl rfl rfl ?_ | refine tl_eg rfl rfl rfl (e_callV rfl (.cons rfl (.cons rfl .nil)) (fun w' hw' => allIn_c 96 #[] #[] kindF l (by omega) _ w' (hr0.fr (hw'.fr (w0 := w) (S := []) (MI.m (by repeat constructor)))) (fun x w2 _ => by simpa using listed1_c x w2))) (fun _ _ => ?_)); (first | refine tl_q (y_pick_t rfl rfl) rfl ?_ | refine tl_q (y_pick_f rfl rfl) rfl ?_); refine tl_q (y_assign rfl) rfl ?_; refine tl_nil ?_; ((refine hK2 ?_; try (clear hK2; clear K2)))
  all_goals refine tc_ret ?_; (repeat (first | refine tk_then_ret ?_))
  all_goals (refine tk_ret rfl rfl (.cons (.tmp rfl) .nil) ?_)
  all_goals (
   refine fun w' hw' => ⟨congrArg (fun b => Ending.returned (Value.bool b)) ?_, hw'.fr (w0 := w) (S := []) (MI.m (by repeat constructor))⟩
   unfold actsF
   first
   | (rw [decide_eq_true (by assumption)]; rfl)
   | (rw [decide_eq_false (by assumption)]; rfl))
end Go.Sp
/-
  Package sample: listed; played.
-/
namespace Go.Sp
open Go Go.Proofs
/-- Not too large for a machine. -/
structure ThT (t : Tth) : Prop where
  hs : t.hs.length ≤ 9
  an : t.ac.length ≤ 5
  al : ∀ j, j < t.ac.length → (t.ac.getD j []).length ≤ 15
def hrB (s : Smp) (t : Tth) (i : Nat) : Bool := decide ((s.ps.getD i pas0).lo ≤ t.hs.getD i 0 ∧ t.hs.getD i 0 ≤ (s.ps.getD i pas0).hi)
def lstF (s : Smp) (t : Tth) : Bool := (decide (t.hs.length = s.ps.length ∧ (t.ac.length : Int) = s.B) && (List.range s.ps.length).all (hrB s t)) && (List.range t.ac.length).all fun j => actsF s (t.ac.getD j [])
theorem lstF_1 {s : Smp} {t : Tth} (h : ¬ (t.hs.length = s.ps.length ∧ (t.ac.length : Int) = s.B)) : lstF s t = false := by
  unfold lstF; rw [decide_eq_false h]; rfl
theorem lstF_2 {s : Smp} {t : Tth} {i : Nat} (hi : i < s.ps.length) (h : ¬ ((s.ps.getD i pas0).lo ≤ t.hs.getD i 0 ∧ t.hs.getD i 0 ≤ (s.ps.getD i pas0).hi)) : lstF s t = false := by
  have : (List.range s.ps.length).all (hrB s t) = false := by
    cases hq : (List.range s.ps.length).all (hrB s t) with
    | false => rfl
    | true => exact absurd (of_decide_eq_true (List.all_eq_true.1 hq i (List.mem_range.2 hi))) h
  unfold lstF; rw [this, Bool.and_false, Bool.false_and]
theorem lstF_3 {s : Smp} {t : Tth} (h1 : t.hs.length = s.ps.length ∧ (t.ac.length : Int) = s.B) (h2 : ∀ i, i < s.ps.length → hrB s t i = true) : lstF s t = (List.range t.ac.length).all fun j => actsF s (t.ac.getD j []) := by
  unfold lstF
  rw [decide_eq_true h1, List.all_eq_true.2 fun i hi => h2 i (List.mem_range.1 hi)]; rfl
theorem inR_of : ∀ {ps : List Pas} {hs : List Int}, hs.length = ps.length → (∀ i, i < ps.length → (ps.getD i pas0).lo ≤ hs.getD i 0 ∧ hs.getD i 0 ≤ (ps.getD i pas0).hi) → InR ps hs
  | [], hs, h, _ => List.length_eq_zero_iff.1 h
  | p :: ps, [], h, _ => by cases h
  | p :: ps, a :: hs, h, hh => ⟨a, hs, rfl, hh 0 (by simp), inR_of (by simpa using h) fun i hi => hh (i + 1) (by simpa using hi)⟩
structure LstOk (s : Smp) (t : Tth) : Prop where
  l : Lst s t
  r : InR s.ps t.hs
  a3 : ∀ j, j < t.ac.length → ∀ a ∈ t.ac.getD j [], 0 ≤ a ∧ a ≤ 3
theorem actsF_ok {s : Smp} {l : List Int} (h : actsF s l = true) : (l.length : Int) = s.L + 1 ∧ ∀ a ∈ l, 0 ≤ a ∧ a ≤ 3 := by
  unfold actsF at h
  rw [Bool.and_eq_true] at h
  exact ⟨of_decide_eq_true h.1, fun a ha => of_decide_eq_true (List.all_eq_true.1 h.2 a ha)⟩
theorem lstF_ok {s : Smp} {t : Tth} (h : lstF s t = true) : LstOk s t := by
  unfold lstF at h
  rw [Bool.and_eq_true, Bool.and_eq_true] at h
  obtain ⟨⟨h1, h2⟩, h3⟩ := h
  have h1' := of_decide_eq_true h1
  have h4 := fun j hj => actsF_ok (List.all_eq_true.1 h3 j (List.mem_range.2 hj))
  exact ⟨⟨h1'.1, h1'.2, fun j hj => (h4 j hj).1⟩, inR_of h1'.1 fun i hi => of_decide_eq_true (List.all_eq_true.1 h2 i (List.mem_range.2 hi)), fun j hj => (h4 j hj).2⟩
theorem listed_c (s : Smp) (hf : Few s) (hv : VSm s) (t : Tth) (ht : ThT t) (tv pv gv hvv avv : Value) (w : World) (hr : RdSm w s tv pv gv) (hrt : RdTh w t hvv avv) :
    CnV Tryz.prog 77 #[smV s tv pv gv, tV hvv avv] w (.bool (lstF s t)) := by
  have hr0 := hr
  have hl0 := hv.l0
  have hl9 := hv.l9
  have hn6 := hv.n6
  have hot := hr.st.one
  have hog := hr.sg.one
  have hth := ht.hs
  have hta := ht.an
  obtain ⟨adp, cpp, bp, op, rfl, hadp, hcp⟩ := hr.ps.open psE_len pas0
  obtain ⟨adh, cph, bh, oh, rfl, hadh, hch⟩ := hrt.hs.open
  obtain ⟨us, hus, hul, hue⟩ := hrt.ac
  have hus0 := hus
  obtain ⟨ada, cpa, _, _, rfl, _, _⟩ := hus.open svE_len sv0
  refine cnv (vs := [_, _]) Tryz.func77 rfl rfl ?_
  all_goals refine tc_seq fun K1 hK1 => ?_; refine tc_region ?_; refine tl_e (e_box rfl rfl rfl) rfl (fun b2 _ => ?_); refine tl_e (e_box rfl rfl rfl) rfl (fun b3 _ => ?_); refine tl_q (y_assign rfl) rfl ?_; refine tl_nil ?_; ((refine hK1 ?_; try (clear hK1; clear K1)))
  all_goals refine tc_seq fun K2 hK2 => ?_; refine tc_seq fun K3 hK3 => ?_; refine tc_region ?_; refine tl_q (y_field rfl) rfl ?_; refine tl_q (y_load1 rfl (by repeat constructor) (by rfl)) rfl ?_; refine tl_q (y_len rfl) rfl ?_; refine tl_q (y_field rfl) rfl ?_; refine tl_q (y_load1 rfl (by repeat constructor) (by rfl)) rfl ?_; refine tl_q (y_len rfl) rfl ?_; refine tl_q (y_neq rfl rfl) rfl ?_; refine tl_q (y_move rfl) rfl ?_; ((refine tl_gs rfl rfl (fun hc => ?_) (fun hc => ?_) <;> (try simp only [decide_eq_true_eq, decide_eq_false_iff_not, Int.not_lt, Int.not_le, Bool.not_eq_true', Bool.not_eq_false', Decidable.not_not, not_true_eq_false] at hc) <;> (first | refine tl_sk rfl rfl rfl rfl ?_ | refine tl_qg rfl rfl (y_field rfl) rfl ?_)))
  all_goals (first | refine tl_sk rfl rfl rfl rfl ?_ | refine tl_qg rfl rfl (y_load1 rfl (by repeat constructor) (by rfl)) rfl ?_); (first | refine tl_sk rfl rfl rfl rfl ?_ | refine tl_qg rfl rfl (y_len rfl) rfl ?_); (first | refine tl_sk rfl rfl rfl rfl ?_ | refine tl_qg rfl rfl (y_field rfl) rfl ?_); (first | refine tl_sk rfl rfl rfl rfl ?_ | refine tl_qg rfl rfl (y_load1 rfl (by repeat constructor) (by rfl)) rfl ?_); (first | refine tl_sk rfl rfl rfl rfl ?_ | refine tl_qg rfl rfl (y_neq rfl rfl) rfl ?_); (first | refine tl_q (y_pick_t rfl rfl) rfl ?_ | refine tl_q (y_pick_f rfl rfl) rfl ?_); refine tl_nil ?_; ((refine hK3 ?_; try (clear hK3; clear K3)))
  all_goals (
   refine tc_cond rfl (fun hc => ?_) (fun hc => ?_)
   · try simp only [decide_eq_true_eq, decide_eq_false_iff_not, Int.not_lt, Int.not_le, Bool.not_eq_true', Bool.not_eq_false', Decidable.not_not, not_true_eq_false] at hc
     all_goals refine tc_seq fun K4 hK4 => ?_; refine tc_region ?_; refine tl_q (y_assign rfl) rfl ?_; refine tl_nil ?_; ((refine hK4 ?_; try (clear hK4; clear K4)))
     all_goals refine tc_ret ?_; (repeat (refine tk_then_ret ?_))
     all_goals (refine tk_ret rfl rfl (.cons (.tmp rfl) .nil) ?_)
     all_goals (
      first
      | (have hE : lstF s t = false := lstF_1 (by omega)
         rw [hE]
         exact fun w' hw' => ⟨rfl, hw'.fr (w0 := w) (S := []) (MI.m (by repeat constructor))⟩)
      | (have hE : lstF s t = false := lstF_2 (i := k) (by omega) (by omega)
         rw [hE]
         exact fun w' hw' => ⟨rfl, hw'.fr (w0 := w) (S := []) (MI.m (by repeat constructor))⟩)
      | (have hE := lstF_3 (s := s) (t := t) ⟨by omega, by omega⟩ (fun i hi => hkj i (by omega))
         rw [hE, ← hul]
         exact fun w' hw' => ⟨rfl, hw'.fr (w0 := w) (S := []) (MI.m (by repeat constructor))⟩))
   · try simp only [decide_eq_true_eq, decide_eq_false_iff_not, Int.not_lt, Int.not_le, Bool.not_eq_true', Bool.not_eq_false', Decidable.not_not, not_true_eq_false] at hc
     all_goals ((first | (exfalso; with_reducible exact btf hc) | skip))
     all_goals refine tc_skip ?_; ((refine hK2 ?_; try (clear hK2; clear K2)))
     all_goals refine tc_seq fun K5 hK5 => ?_; refine tc_seq fun K6 hK6 => ?_; refine tc_region ?_; refine tl_q (y_field rfl) rfl ?_; refine tl_q (y_load1 rfl (by repeat constructor) (by rfl)) rfl ?_; refine tl_q (y_len rfl) rfl ?_; refine tl_q (y_move rfl) rfl ?_; refine tl_nil ?_; ((refine hK6 ?_; try (clear hK6; clear K6)))
     all_goals refine tc_block ?_
     all_goals (
      refine tc_loop (fun k : Nat => k ≤ s.ps.length ∧ ∀ j, j < k → hrB s t j = true) (fun k => [(2, ptr b2), (3, ptr b3), (24, .slice adp s.ps.length cpp), (25, vi s.ps.length), (26, vi k)]) (fun _ => [(w, [])]) (fun _ => [(b3, .cells #[.slice adh t.hs.length cph, .slice ada us.length cpa] 83 (0, 0)), (b2, .cells #[vi s.B, vi s.P, vi s.L, vi s.F, tv, .slice adp s.ps.length cpp, gv] 36 (0, 0))]) (fun k => s.ps.length - k) ?_ ?_
      · exact tk_start 0 ⟨Nat.zero_le _, fun j hj => absurd hj (Nat.not_lt_zero j)⟩ (.cons rfl (.cons rfl (.cons rfl (.cons rfl (.cons rfl .nil))))) (fun _ h => h.subl (SB.s (by repeat constructor)) (SB.s (by repeat constructor)))
      · rintro k ⟨hk, hkj⟩
        all_goals refine tc_seq fun K7 hK7 => ?_; refine tc_region ?_; refine tl_q (y_lss rfl rfl) rfl ?_; refine tl_nil ?_; ((refine hK7 ?_; try (clear hK7; clear K7)))
        all_goals refine tc_seq fun K8 hK8 => ?_
        all_goals (
         refine tc_cond rfl (fun hc => ?_) (fun hc => ?_)
         · try simp only [decide_eq_true_eq, decide_eq_false_iff_not, Int.not_lt, Int.not_le, Bool.not_eq_true', Bool.not_eq_false', Decidable.not_not, not_true_eq_false] at hc
           all_goals refine tc_skip ?_; ((refine hK8 ?_; try (clear hK8; clear K8)))
           all_goals refine tc_seq fun K9 hK9 => ?_; refine tc_block ?_; refine tc_seq fun K10 hK10 => ?_; refine tc_region ?_; refine tl_q (y_move rfl) rfl ?_; refine tl_q (y_index rfl rfl (by omega) (hadp (by omega))) rfl ?_; ((refine tl_q (y_loadNo (n := 5) (vs := [vi (s.ps.getD k pas0).b, vi (s.ps.getD k pas0).fr, vi (s.ps.getD k pas0).to, vi (s.ps.getD k pas0).lo, vi (s.ps.getD k pas0).hi]) rfl (fun w' hw' => by rw [show Int.toNat (k : Int) * 5 = k * 5 from by omega]; exact hcp w' [] (hw'.fr (w0 := w) (S := []) (MI.m (by repeat constructor))) (by simp) k (by omega))) rfl ?_))
           all_goals refine tl_e (e_allocN rfl) rfl (fun b6 _ => ?_); refine tl_q (y_assign rfl) rfl ?_; refine tl_e (e_storeW rfl rfl (by repeat constructor) (by rfl) (by rfl) (by simp [Value.oneCell'])) rfl (fun _ _ => ?_); refine tl_nil ?_; ((refine hK10 ?_; try (clear hK10; clear K10)))
           all_goals refine tc_seq fun K11 hK11 => ?_; refine tc_draw (by kernel_rfl) ?_; refine tx_p 0 rfl (by kernel_rfl) (y_field rfl) rfl (fun _ _ _ h => h) (fun _ h => h) ?_; ((refine tx_q 1 rfl (by kernel_rfl) (y_loadN rfl (by repeat constructor) (by (repeat (first | exact .nil | apply CA.cons rfl)); done)) rfl (fun _ _ _ h => h) (fun _ h => h) ?_))
           all_goals refine tx_p 2 rfl (by kernel_rfl) (y_field rfl) rfl (fun _ _ _ h => h) (fun _ h => h) ?_; refine tx_q 3 rfl (by kernel_rfl) (y_load1 rfl (by repeat constructor) (by rfl)) rfl (fun _ _ _ h => h) (fun _ h => h) ?_; refine tx_p 4 rfl (by kernel_rfl) (y_move rfl) rfl (fun _ _ _ h => h) (fun _ h => h) ?_; refine tx_p 5 rfl (by kernel_rfl) (y_index rfl rfl (by omega) (hadh (by omega))) rfl (fun _ _ _ h => h) (fun _ h => h) ?_; ((refine tx_q 6 rfl (by kernel_rfl) (y_load1o (v := vi (t.hs.getD k 0)) rfl (fun w' hw' => by rw [show Int.toNat (k : Int) * 1 = k from by omega]; exact hch w' (hw'.fr (w0 := w) (S := []) (MI.m (by repeat constructor))) k (by omega))) rfl (fun _ _ _ h => h) (fun _ h => h) ?_))
           all_goals refine tx_e 7 rfl (by kernel_rfl) rfl (e_callV rfl (.cons rfl (.cons rfl .nil)) (fun w' _ => mrhas_c _ _ _ w')) (.inr fun _ _ h => h) (fun _ _ => ?_); refine tx_p 8 rfl (by kernel_rfl) (y_not_dec rfl) rfl (fun _ _ _ h => h) (fun _ h => h) ?_; refine tx_done (by kernel_rfl) ?_; ((refine hK11 ?_; try (clear hK11; clear K11)))
           all_goals (
            refine tc_cond rfl (fun hc => ?_) (fun hc => ?_)
            · try simp only [decide_eq_true_eq, decide_eq_false_iff_not, Int.not_lt, Int.not_le, Bool.not_eq_true', Bool.not_eq_false', Decidable.not_not, not_true_eq_false] at hc
              all_goals refine tc_seq fun K12 hK12 => ?_; refine tc_region ?_; refine tl_q (y_assign rfl) rfl ?_; refine tl_nil ?_; ((refine hK12 ?_; try (clear hK12; clear K12)))
              all_goals refine tc_ret ?_; (repeat (first | refine tk_then_ret ?_ | refine tk_block_ret ?_))
              all_goals (refine tk_ret rfl rfl (.cons (.tmp rfl) .nil) ?_)
              all_goals (
               first
               | (have hE : lstF s t = false := lstF_1 (by omega)
                  rw [hE]
                  exact fun w' hw' => ⟨rfl, hw'.fr (w0 := w) (S := []) (MI.m (by repeat constructor))⟩)
               | (have hE : lstF s t = false := lstF_2 (i := k) (by omega) (by omega)
                  rw [hE]
                  exact fun w' hw' => ⟨rfl, hw'.fr (w0 := w) (S := []) (MI.m (by repeat constructor))⟩)
               | (have hE := lstF_3 (s := s) (t := t) ⟨by omega, by omega⟩ (fun i hi => hkj i (by omega))
                  rw [hE, ← hul]
                  exact fun w' hw' => ⟨rfl, hw'.fr (w0 := w) (S := []) (MI.m (by repeat constructor))⟩))
            · try simp only [decide_eq_true_eq, decide_eq_false_iff_not, Int.not_lt, Int.not_le, Bool.not_eq_true', Bool.not_eq_false', Decidable.not_not, not_true_eq_false] at hc
              all_goals refine tc_skip ?_; ((refine hK9 ?_; try (clear hK9; clear K9)))
              all_goals refine tc_region ?_; refine tl_q (y_add rfl rfl (by omega)) rfl ?_; refine tl_q (y_move rfl) rfl ?_; refine tl_nil ?_
              all_goals (
               exact tk_round (k + 1) ⟨by omega, fun j hj => by rcases Nat.lt_succ_iff_lt_or_eq.1 hj with h | rfl; exact hkj j h; exact decide_eq_true (by omega)⟩ (by omega) (.cons rfl (.cons rfl (.cons rfl (.cons rfl (.cons rfl .nil))))) (fun _ h => h.subl (SB.s (by repeat constructor)) (SB.s (by repeat constructor)))))
         · try simp only [decide_eq_true_eq, decide_eq_false_iff_not, Int.not_lt, Int.not_le, Bool.not_eq_true', Bool.not_eq_false', Decidable.not_not, not_true_eq_false] at hc
           all_goals refine tc_exit ?_; ((refine hK5 ?_; try (clear hK5; clear K5)))
           all_goals refine tc_seq fun K13 hK13 => ?_; refine tc_region ?_; refine tl_e (e_alloc1 rfl) rfl (fun b7 _ => ?_); refine tl_e (e_store1 rfl rfl (by repeat constructor) (by repeat constructor) (by rfl) (by rfl)) rfl (fun _ _ => ?_); refine tl_nil ?_; ((refine hK13 ?_; try (clear hK13; clear K13)))
           all_goals refine tc_seq fun K14 hK14 => ?_; refine tc_region ?_; refine tl_q (y_field rfl) rfl ?_; refine tl_q (y_load1 rfl (by repeat constructor) (by rfl)) rfl ?_; refine tl_q (y_fn .nil (.cons rfl (.cons rfl .nil))) rfl ?_; (refine tl_e (e_callV rfl (.cons rfl (.cons rfl .nil)) (fun w' hw' => allSl_c 98 #[] #[ptr b2, ptr b7] (fun j => actsF s (t.ac.getD j [])) us (by omega) _ w' (hus0.fr (hw'.fr (w0 := w) (S := []) (MI.m (by repeat constructor)))) (fun i w2 hi f => by have := ht.al i (by omega); have h := listed2_c s ⟨hl0, hl9⟩ tv (.slice adp s.ps.length cpp) gv b2 b7 (t.ac.getD i []) (by omega) (us.getD i sv0).1 w2 (f.keep (hw'.heap _ (HM.mem (b := b2) (by repeat constructor)))) (f.keep (hw'.heap _ (HM.mem (b := b7) (by repeat constructor)))) (((hue i (by omega)).fr (hw'.fr (w0 := w) (S := []) (MI.m (by repeat constructor)))).fr f).toI; simpa using h))) rfl (fun _ _ => ?_))
           all_goals refine tl_q (y_assign rfl) rfl ?_; refine tl_nil ?_; ((refine hK14 ?_; try (clear hK14; clear K14)))
           all_goals refine tc_ret ?_; (repeat (first | refine tk_then_ret ?_))
           all_goals (refine tk_ret rfl rfl (.cons (.tmp rfl) .nil) ?_)
           all_goals (
            first
            | (have hE : lstF s t = false := lstF_1 (by omega)
               rw [hE]
               exact fun w' hw' => ⟨rfl, hw'.fr (w0 := w) (S := []) (MI.m (by repeat constructor))⟩)
            | (have hE : lstF s t = false := lstF_2 (i := k) (by omega) (by omega)
               rw [hE]
               exact fun w' hw' => ⟨rfl, hw'.fr (w0 := w) (S := []) (MI.m (by repeat constructor))⟩)
            | (have hE := lstF_3 (s := s) (t := t) ⟨by omega, by omega⟩ (fun i hi => hkj i (by omega))
               rw [hE, ← hul]
               exact fun w' hw' => ⟨rfl, hw'.fr (w0 := w) (S := []) (MI.m (by repeat constructor))⟩)))))
theorem whN_pad {s : Smp} {b : Int} {l acts : List Int} : ∀ h, h ≤ l.length → whN s b (padC l) acts h = whN s b l acts h
  | 0, _ => rfl
  | h + 1, hh => by rw [whN, whN, whN_pad h (by omega), stB_pad (c := l) (by omega)]
theorem y_fieldAct {F : List (Nat × Value)} {bs : List (World × List Nat)} {H : List (Nat × Obj)} {d : Option Tmp} {ty : TypeId} {pos : String} {after : Array Edge} {g : Option (Nat × Bool)} {x : Operand} {v c : Value} (hx : evalO F x = some (.agg #[v, c])) :
    OpY Tryz.prog ⟨d, .field 145 x 0, ty, pos, after, g⟩ F bs H v := by
  unfold OpY
  intro N a w ht hw
  have hp : (part 143 #[v, c] 0).run Tryz.prog w = .ok v w := by simp [part, isAgg_run Tryz.underlying143, aggD, Result.andThen]
  simp [execOp, ht.eval hx, Instr.field, underlying_run Tryz.underlying145, Result.andThen, asAgg, hp]
theorem played_c (s : Smp) (hf : Few s) (hv : VSm s) (b : Int) (c : List Int) (hco : ChOk s c) (acts : List Int) (hal : (acts.length : Int) = s.L + 1) (ha3 : ∀ a ∈ acts, 0 ≤ a ∧ a ≤ 3) (tv pv gv av : Value) (w : World) (hr : RdSm w s tv pv gv) (hra : RdI w av acts) :
    CnX Tryz.prog 79 #[smV s tv pv gv, vi b, .agg (isV c), av] w [] (fun y : Option Addr × Nat => .tuple #[slV (((whN s b c acts acts.length).map Prod.fst).getD []).length y, .bool (whN s b c acts acts.length).isSome])
      (fun y w' => RdS 1 boE w' (slV (((whN s b c acts acts.length).map Prod.fst).getD []).length y) (((whN s b c acts acts.length).map Prod.fst).getD []) ∧ NewS w (slV (((whN s b c acts acts.length).map Prod.fst).getD []).length y)) := by
  have hr0 := hr
  have hl0 := hv.l0
  have hl9 := hv.l9
  have hstl := hv.st
  have hcl := hco.len
  obtain ⟨adt, cpt, bt, ot, rfl, hadt, hct⟩ := hr.st.open boE_len false
  obtain ⟨ada, cpa, ba, oa, rfl, hada, hca⟩ := hra.open
  have hone : (Value.oneCell' (.slice adt s.st.length cpt) = true ∧ pv.oneCell' = true) ∧ gv.oneCell' = true := ⟨⟨rfl, hr.ps.one⟩, hr.sg.one⟩
  refine cnx0 (vs := [_, _, _, _]) Tryz.func79 rfl rfl ?_
  all_goals refine tc_seq fun K1 hK1 => ?_; refine tc_region ?_; refine tl_e (e_box rfl rfl rfl) rfl (fun b4 _ => ?_); refine tl_e (e_box rfl rfl rfl) rfl (fun b6 _ => ?_); refine tl_q (y_assign rfl) rfl ?_; refine tl_q (y_assign rfl) rfl ?_; refine tl_nil ?_; ((refine hK1 ?_; try (clear hK1; clear K1)))
  all_goals refine tc_seq fun K2 hK2 => ?_; refine tc_region ?_; refine tl_q (y_assign rfl) rfl ?_; refine tl_nil ?_; ((refine hK2 ?_; try (clear hK2; clear K2)))
  all_goals refine tc_seq fun K3 hK3 => ?_; refine tc_seq fun K4 hK4 => ?_; refine tc_region ?_; refine tl_q (y_move rfl) rfl ?_; refine tl_q (y_len rfl) rfl ?_; refine tl_q (y_move rfl) rfl ?_; refine tl_nil ?_; ((refine hK4 ?_; try (clear hK4; clear K4)))
  all_goals refine tc_block ?_
  all_goals (
   refine tc_loop (fun p : Nat × (List Bool × Bool) × OwnB => (p.1 ≤ acts.length ∧ whN s b c acts p.1 = some p.2.1) ∧ okE 1 p.2.1.1 p.2.2) (fun p => [(1, vi b), (4, ptr b4), (6, ptr b6), (8, ouV p.2.1.1.length p.2.2), (10, .bool p.2.1.2), (13, .slice ada acts.length cpa), (14, vi acts.length), (15, vi p.1)]) (fun _ => [(w, [])]) (fun p => (b6, .cells (isV c) 124 (0, 0)) :: (b4, .cells #[vi s.B, vi s.P, vi s.L, vi s.F, .slice adt s.st.length cpt, pv, gv] 36 (0, 0)) :: slE 4 boE p.2.1.1 p.2.2) (fun p => acts.length - p.1) ?_ ?_
   · exact tk_start (0, ([], false), none) ⟨⟨Nat.zero_le _, rfl⟩, rfl⟩ (.cons rfl (.cons rfl (.cons rfl (.cons rfl (.cons rfl (.cons rfl (.cons rfl (.cons rfl .nil)))))))) (fun _ h => by rw [slE_none]; exact h.subl (SB.s (by repeat constructor)) (SB.s (by repeat constructor)))
   · rintro ⟨h, ⟨ws, br⟩, oo⟩ ⟨⟨hh, hwn⟩, hok⟩
     dsimp only at hh hwn hok ⊢
     have hwl := whN_len hwn
     dsimp only at hwl
     all_goals refine tc_seq fun K5 hK5 => ?_; refine tc_region ?_; refine tl_q (y_lss rfl rfl) rfl ?_; refine tl_nil ?_; ((refine hK5 ?_; try (clear hK5; clear K5)))
     all_goals refine tc_seq fun K6 hK6 => ?_
     all_goals (
      refine tc_cond rfl (fun hc => ?_) (fun hc => ?_)
      · try simp only [decide_eq_true_eq, decide_eq_false_iff_not, Int.not_lt, Int.not_le, Bool.not_eq_true', Bool.not_eq_false', Decidable.not_not, not_true_eq_false] at hc
        all_goals refine tc_skip ?_; ((refine hK6 ?_; try (clear hK6; clear K6)))
        all_goals refine tc_seq fun K7 hK7 => ?_; refine tc_block ?_; refine tc_seq fun K8 hK8 => ?_; ((have hlt : h < acts.length := (by omega); have hpp := hco.pp h (by omega); have h3 := ha3 _ (getD_memG (d := 0) hlt)))
        all_goals (obtain ⟨n, hn⟩ : ∃ n : Nat, (n : Int) = acts.getD h 0 := ⟨(acts.getD h 0).toNat, by omega⟩)
        all_goals ((have hn4 : n < 4 := (by omega); haveI := actId_fn n; obtain ⟨st, hst⟩ : ∃ st, stB s c h = st := ⟨_, rfl⟩))
        all_goals ((have hcell : ∀ w', Fr [] w w' → w'.cell? ⟨bt, ot + (c.getD h 0).toNat * 1, none⟩ = some (.bool st) := fun w' f => by have hx := (hct w' [] f (by simp) (c.getD h 0).toNat (by omega)).get 0 _ rfl; rw [← hst]; exact hx))
        all_goals (have hcs := cellAt_is (l := c) (e := 124) (f := (0, 0)) (o := h) (by omega))
        all_goals refine tc_region ?_; refine tl_q (y_move rfl) rfl ?_; refine tl_q (y_index rfl rfl (by omega) (hada (by omega))) rfl ?_; ((refine tl_q (y_load1o (v := vi (acts.getD h 0)) rfl (fun w' hw' => by rw [show Int.toNat (h : Int) * 1 = h from by omega]; exact hca w' (hw'.fr (w0 := w) (S := []) (MI.m (by repeat constructor))) h hlt)) rfl ?_))
        all_goals refine tl_q (y_assign rfl) rfl ?_; refine tl_q (y_assign rfl) rfl ?_; refine tl_nil ?_; ((refine hK8 ?_; try (clear hK8; clear K8)))
        all_goals refine tc_seq fun K9 hK9 => ?_; refine tc_seq fun K10 hK10 => ?_; refine tc_draw (by kernel_rfl) ?_; refine tx_p 1 rfl (by kernel_rfl) (y_move rfl) rfl (fun _ _ _ h => h) (fun _ h => h) ?_; refine tx_p 4 rfl (by kernel_rfl) (y_move rfl) rfl (fun _ _ _ h => h) (fun _ h => h) ?_; refine tx_p 5 rfl (by kernel_rfl) (y_field rfl) rfl (fun _ _ _ h => h) (fun _ h => h) ?_; refine tx_q 6 rfl (by kernel_rfl) (y_load1 rfl (by repeat constructor) (by rfl)) rfl (fun _ _ _ h => h) (fun _ h => h) ?_; refine tx_p 7 rfl (by kernel_rfl) (y_move rfl) rfl (fun _ _ _ h => h) (fun _ h => h) ?_; refine tx_p 8 rfl (by kernel_rfl) (y_indexA rfl rfl (by omega)) rfl (fun _ _ _ h => h) (fun _ h => h) ?_; ((refine tx_q 9 rfl (by kernel_rfl) (y_load1 (v := vi (c.getD h 0)) rfl (by repeat constructor) (by rw [show 0 + Int.toNat (h : Int) * 1 = h from by omega]; exact hcs)) rfl (fun _ _ _ h => h) (fun _ h => h) ?_))
        all_goals (refine tx_p 10 rfl (by kernel_rfl) (y_index rfl rfl (by omega) (hadt (by omega))) rfl (fun _ _ _ h => h) (fun _ h => h) ?_); refine tx_q 11 rfl (by kernel_rfl) (y_load1o (v := .bool st) rfl (fun w' hw' => hcell w' (hw'.fr (w0 := w) (S := []) (MI.m (by repeat constructor))))) rfl (fun _ _ _ h => h) (fun _ h => h) ?_; refine tx_p 12 rfl (by kernel_rfl) (y_build_g (by repeat constructor)) rfl (fun _ _ _ h => h) (fun _ h => h) ?_; refine tx_e 0 rfl (by kernel_rfl) rfl (e_callV rfl .nil (fun w' _ => acts_c w')) (.inr fun _ _ h => h) (fun _ _ => ?_); refine tx_q 2 rfl (by kernel_rfl) (y_indexG rfl rfl (by omega) (acts_at (n := n) hn4 hn.symm)) rfl (fun _ _ _ h => h) (fun _ h => h) ?_; refine tx_q 3 rfl (by kernel_rfl) (y_fieldAct rfl) rfl (fun _ _ _ h => h) (fun _ h => h) ?_; refine tx_e 13 rfl (by kernel_rfl) rfl (e_callVf rfl rfl (.cons rfl .nil) (fun w' _ => act_c n br st w')) (.inr fun _ _ h => h) (fun _ _ => ?_); refine tx_p 14 rfl (by kernel_rfl) (y_move rfl) rfl (fun _ _ _ h => h) (fun _ h => h) ?_; refine tx_p 15 rfl (by kernel_rfl) (y_extract rfl rfl) rfl (fun _ _ _ h => h) (fun _ h => h) ?_; refine tx_p 16 rfl (by kernel_rfl) (y_extract rfl rfl) rfl (fun _ _ _ h => h) (fun _ h => h) ?_; refine tx_p 17 rfl (by kernel_rfl) (y_assign rfl) rfl (fun _ _ _ h => h) (fun _ h => h) ?_; refine tx_p 18 rfl (by kernel_rfl) (y_assign rfl) rfl (fun _ _ _ h => h) (fun _ h => h) ?_; refine tx_done (by kernel_rfl) ?_; ((refine hK10 ?_; try (clear hK10; clear K10)))
        all_goals refine tc_seq fun K11 hK11 => ?_; refine tc_region ?_; refine tl_q (y_move rfl) rfl ?_; refine tl_q (y_not rfl) rfl ?_; refine tl_q (y_move rfl) rfl ?_; ((refine tl_gs rfl rfl (fun hc => ?_) (fun hc => ?_) <;> (try simp only [decide_eq_true_eq, decide_eq_false_iff_not, Int.not_lt, Int.not_le, Bool.not_eq_true', Bool.not_eq_false', Decidable.not_not, not_true_eq_false] at hc) <;> (first | refine tl_sk rfl rfl rfl rfl ?_ | refine tl_qg rfl rfl (y_loadW rfl (by repeat constructor) (by rfl)) rfl ?_)))
        all_goals (first | refine tl_sk rfl rfl rfl rfl ?_ | refine tl_qg rfl rfl (y_move rfl) rfl ?_); (first | refine tl_sk rfl rfl rfl rfl ?_ | refine tl_qg rfl rfl (y_move rfl) rfl ?_); (first | refine tl_sk rfl rfl rfl rfl ?_ | refine tl_qg rfl rfl (y_move rfl) rfl ?_); (first | refine tl_sk rfl rfl rfl rfl ?_ | refine tl_eg rfl rfl rfl (e_callV rfl (.cons rfl (.cons rfl (.cons rfl (.cons rfl .nil)))) (fun w' hw' => seen_c s hf.sg b h (actY br n) _ pv gv hone w' (hr0.sg.fr (hw'.fr (w0 := w) (S := []) (MI.m (by repeat constructor)))))) (fun _ _ => ?_)); (first | refine tl_sk rfl rfl rfl rfl ?_ | refine tl_qg rfl rfl (y_not rfl) rfl ?_); (first | refine tl_q (y_pick_t rfl rfl) rfl ?_ | refine tl_q (y_pick_f rfl rfl) rfl ?_); refine tl_nil ?_; ((refine hK11 ?_; try (clear hK11; clear K11)))
        all_goals (
         refine tc_cond rfl (fun hc => ?_) (fun hc => ?_)
         · try simp only [decide_eq_true_eq, decide_eq_false_iff_not, Int.not_lt, Int.not_le, Bool.not_eq_true', Bool.not_eq_false', Decidable.not_not, not_true_eq_false] at hc
           all_goals refine tc_seq fun K12 hK12 => ?_; refine tc_region ?_; refine tl_q (y_assign rfl) rfl ?_; refine tl_q (y_assign rfl) rfl ?_; refine tl_nil ?_; ((refine hK12 ?_; try (clear hK12; clear K12)))
           all_goals refine tc_ret ?_; (repeat (first | refine tk_then_ret ?_ | refine tk_block_ret ?_))
           all_goals (refine tk_ret rfl rfl (.cons (.tmp rfl) (.cons (.tmp rfl) .nil)) ?_)
           all_goals (
            first
            | (obtain rfl : h = acts.length := by omega
               rw [hwn]
               exact fun w' hw' => ⟨ouA oo, rfl, hw'.fr (w0 := w) (S := []) (MI.m (by repeat constructor)), RdS.ofO boE_len hok hw' (by repeat constructor), NewS.ofO hw' (by repeat constructor) (MI.m (by repeat constructor))⟩)
            | (have hs : whN s b c acts (h + 1) = none := by
                 rw [whN, hwn]
                 simp only
                 rw [← hn, acIs_nat br _ hn4, acY_nat br hn4, hst]
                 exact if_neg (fun g => by simp_all)
               rw [whN_none hs _ (by omega)]
               exact fun w' hw' => ⟨(none, 0), rfl, hw'.fr (w0 := w) (S := []) (MI.m (by repeat constructor)), RdS.nil _ _ _ _, NewS.nil _ _ _⟩))
         · try simp only [decide_eq_true_eq, decide_eq_false_iff_not, Int.not_lt, Int.not_le, Bool.not_eq_true', Bool.not_eq_false', Decidable.not_not, not_true_eq_false] at hc
           all_goals ((first | (exfalso; with_reducible exact btf hc) | skip))
           all_goals refine tc_skip ?_; ((refine hK9 ?_; try (clear hK9; clear K9)))
           all_goals refine tc_region ?_; refine tl_q (y_move rfl) rfl ?_; refine tl_q (y_move rfl) rfl ?_; refine tl_q (y_not rfl) rfl ?_; ((refine tl_e (e_bslice rfl (by (repeat (first | exact .nil | apply PV.one rfl rfl)); done) rfl rfl) rfl (fun _ _ => ?_)))
           all_goals (refine tl_e (e_appendE (enc := boE) (xs := ws) (ys := [!actY br n]) boE_len boE_one rfl rfl rfl hok (fun _ => by repeat constructor) (fun w' hw' => RdS.own0 boE_len hw' (by repeat constructor)) (by simp only [List.length_cons, List.length_nil]; omega) rfl) rfl (fun oo' hok' => ?_))
           all_goals refine tl_q (y_assign rfl) rfl ?_; refine tl_nil ?_; ((refine hK7 ?_; try (clear hK7; clear K7)))
           all_goals refine tc_region ?_; refine tl_q (y_add rfl rfl (by omega)) rfl ?_; refine tl_q (y_move rfl) rfl ?_; refine tl_nil ?_
           all_goals (
            have hs : whN s b c acts (h + 1) = some (ws ++ [!actY br n], actY br n) := by
              rw [whN, hwn]
              simp only
              rw [← hn, acIs_nat br _ hn4, acY_nat br hn4, hst]
              exact if_pos ⟨by assumption, by assumption⟩
            exact tk_round (h + 1, (ws ++ [!actY br n], actY br n), oo') ⟨⟨by dsimp only; omega, hs⟩, hok'⟩ (by dsimp only; omega) (.cons rfl (.cons rfl (.cons rfl (.cons rfl (.cons rfl (.cons rfl (.cons rfl (.cons rfl .nil)))))))) (fun _ h => h.subl (SB.s (by repeat constructor)) (SB.s (by repeat constructor)))))
      · try simp only [decide_eq_true_eq, decide_eq_false_iff_not, Int.not_lt, Int.not_le, Bool.not_eq_true', Bool.not_eq_false', Decidable.not_not, not_true_eq_false] at hc
        all_goals refine tc_exit ?_; ((refine hK3 ?_; try (clear hK3; clear K3)))
        all_goals refine tc_seq fun K13 hK13 => ?_; refine tc_region ?_; refine tl_q (y_move rfl) rfl ?_; refine tl_q (y_assign rfl) rfl ?_; refine tl_q (y_assign rfl) rfl ?_; refine tl_nil ?_; ((refine hK13 ?_; try (clear hK13; clear K13)))
        all_goals refine tc_ret ?_; (repeat (first | refine tk_then_ret ?_))
        all_goals (refine tk_ret rfl rfl (.cons (.tmp rfl) (.cons (.tmp rfl) .nil)) ?_)
        all_goals (
         first
         | (obtain rfl : h = acts.length := by omega
            rw [hwn]
            exact fun w' hw' => ⟨ouA oo, rfl, hw'.fr (w0 := w) (S := []) (MI.m (by repeat constructor)), RdS.ofO boE_len hok hw' (by repeat constructor), NewS.ofO hw' (by repeat constructor) (MI.m (by repeat constructor))⟩)
         | (have hs : whN s b c acts (h + 1) = none := by
              rw [whN, hwn]
              simp only
              rw [← hn, acIs_nat br _ hn4, acY_nat br hn4, hst]
              exact if_neg (fun g => by simp_all)
            rw [whN_none hs _ (by omega)]
            exact fun w' hw' => ⟨(none, 0), rfl, hw'.fr (w0 := w) (S := []) (MI.m (by repeat constructor)), RdS.nil _ _ _ _, NewS.nil _ _ _⟩))))
theorem cloneX_c (b cap : Nat) (xs : List Int) (hx : xs.length ≤ 1000) (w : World) (hr : RdI w (.slice (some ⟨b, 0, none⟩) xs.length cap) xs) :
    CnX Tryz.prog 80 #[.slice (some ⟨b, 0, none⟩) xs.length cap] w [] (fun y : Option Addr × Nat => slV xs.length y) (fun y w' => RdI w' (slV xs.length y) xs ∧ NewS w (slV xs.length y)) :=
  (clone_own b cap xs hx w hr).imp (fun r => (some ⟨r.1, 0, none⟩, r.2.1)) (fun _ => rfl) (fun _ h => h) (fun r w' _ h => ⟨by
    refine ⟨by simp, some ⟨r.1, 0, none⟩, r.2.1, rfl, fun _ => ⟨r.1, 0, rfl, ?_⟩⟩
    have := CA_pre (xs.map vi) r.2.2 3 (0, 0)
    rw [List.length_map] at this
    rw [Nat.mul_one]
    exact this.cells h.2.2, fun p m c e => by cases e; exact h.2.1⟩)
end Go.Sp
/-
  Package sample: Play, ProveTruth.
-/
namespace Go.Sp
open Go Go.Proofs
theorem chF_held (s : Smp) (b : Int) (ts : List Int) : chF s b ts = (heldF s b ts).map padC := by
  unfold chF heldF
  rw [Option.map_map]; rfl
theorem played_none {s : Smp} (hf : Few s) (hv : VSm s) {b : Int} {c : List Int} (hco : ChOk s c) {acts : List Int} (hal : (acts.length : Int) = s.L + 1) (ha3 : ∀ a ∈ acts, 0 ≤ a ∧ a ≤ 3) (hW : whN s b c acts acts.length = none) (tv pv gv av : Value) (w : World) (hr : RdSm w s tv pv gv) (hra : RdI w av acts) :
    CnX Tryz.prog 79 #[smV s tv pv gv, vi b, .agg (isV c), av] w [] (fun y : Option Addr × Nat => .tuple #[slV ([] : List Bool).length y, .bool false]) (fun _ _ => True) := by
  have h := played_c s hf hv b c hco acts hal ha3 tv pv gv av w hr hra
  rw [hW] at h
  exact h.imp id (fun _ => rfl) (fun _ h => h) (fun _ _ _ _ => trivial)
theorem played_some {s : Smp} (hf : Few s) (hv : VSm s) {b : Int} {c : List Int} (hco : ChOk s c) {acts : List Int} (hal : (acts.length : Int) = s.L + 1) (ha3 : ∀ a ∈ acts, 0 ≤ a ∧ a ≤ 3) {qq : List Bool × Bool} (hW : whN s b c acts acts.length = some qq) (tv pv gv av : Value) (w : World) (hr : RdSm w s tv pv gv) (hra : RdI w av acts) :
    CnX Tryz.prog 79 #[smV s tv pv gv, vi b, .agg (isV c), av] w [] (fun y : Option Addr × Nat => .tuple #[slV qq.1.length y, .bool true]) (fun y w' => RdS 1 boE w' (slV qq.1.length y) qq.1 ∧ NewS w (slV qq.1.length y)) := by
  have h := played_c s hf hv b c hco acts hal ha3 tv pv gv av w hr hra
  rw [hW] at h
  exact h
theorem chain_rd {bs : List (World × List Nat)} {H : List (Nat × Obj)} {w : World} {b : Nat} {l : List Int} {e : TypeId} (hw : HG bs H w) (hm : HM b (.cells (isV (padC l)) e (0, 0)) H) : RdI w (.slice (some ⟨b, 0, none⟩) l.length 10) l := by
  refine ⟨by simp, some ⟨b, 0, none⟩, 10, rfl, fun _ => ⟨b, 0, rfl, ?_⟩⟩
  have h1 := CA_pre (l.map vi) ((List.replicate (10 - l.length) (0 : Int)).map vi) e (0, 0)
  rw [List.length_map] at h1
  rw [Nat.mul_one]
  have h2 := hw.heap _ hm.mem
  have h3 : isV (padC l) = (l.map vi ++ (List.replicate (10 - l.length) (0 : Int)).map vi).toArray := by unfold isV padC; rw [List.map_append]
  rw [h3] at h2
  exact h1.cells h2
def plE (s : Smp) (t : Tth) : Int := if ¬ chkS s = 0 then chkS s else if lstF s t = false then 2 else if (playF s t).isSome = true then 0 else 11
def plQ (s : Smp) (t : Tth) : List (List Int) × List (List Bool) := if plE s t = 0 then (playF s t).getD ([], []) else ([], [])
theorem plE_1 {s : Smp} {t : Tth} (h : ¬ chkS s = 0) : plE s t = chkS s ∧ plQ s t = ([], []) := by
  have : plE s t = chkS s := if_pos h
  exact ⟨this, if_neg (by rw [this]; exact h)⟩
theorem plE_2 {s : Smp} {t : Tth} (h : chkS s = 0) (h2 : lstF s t = false) : plE s t = 2 ∧ plQ s t = ([], []) := by
  have : plE s t = 2 := by unfold plE; rw [if_neg (fun g => g h), if_pos h2]
  exact ⟨this, if_neg (by rw [this]; decide)⟩
theorem plE_3 {s : Smp} {t : Tth} (h : chkS s = 0) (h2 : lstF s t = true) (h3 : playF s t = none) : plE s t = 11 ∧ plQ s t = ([], []) := by
  have : plE s t = 11 := by unfold plE; rw [if_neg (fun g => g h), h2, if_neg (by decide), h3, if_neg (by decide)]
  exact ⟨this, if_neg (by rw [this]; decide)⟩
theorem plE_4 {s : Smp} {t : Tth} (h : chkS s = 0) (h2 : lstF s t = true) {q : List (List Int) × List (List Bool)} (h3 : playF s t = some q) : plE s t = 0 ∧ plQ s t = q := by
  have : plE s t = 0 := by unfold plE; rw [if_neg (fun g => g h), h2, if_neg (by decide), h3]; rfl
  refine ⟨this, ?_⟩
  unfold plQ
  rw [if_pos this, h3]; rfl
set_option maxHeartbeats 8000000 in
theorem sPlay_c (s : Smp) (hf : Few s) (t : Tth) (hth : ThT t) (tv pv gv hvv avv : Value) (w : World) (hr : RdSm w s tv pv gv) (hrt : RdTh w t hvv avv) :
    CnX Tryz.prog 43 #[smV s tv pv gv, tV hvv avv] w [] (fun y : (Option Addr × Nat) × (Option Addr × Nat) => .tuple #[slV (plQ s t).1.length y.1, slV (plQ s t).2.length y.2, vi (plE s t)])
      (fun y w' => RdLN 1 inE w w' (slV (plQ s t).1.length y.1) (plQ s t).1 ∧ RdLN 1 boE w w' (slV (plQ s t).2.length y.2) (plQ s t).2) := by
  have hr0 := hr
  have ht0 := hrt
  have hot := hr.st.one
  have hop := hr.ps.one
  have hog := hr.sg.one
  obtain ⟨_, _, _, _, rfl, _, _⟩ := hrt.hs.open
  obtain ⟨ada, cpa, ba, oa, aus, rfl, hada, hca, hra⟩ := hrt.ac.open
  refine cnx0 (vs := [_, _]) Tryz.func43 rfl rfl ?_
  all_goals refine tc_seq fun K1 hK1 => ?_; refine tc_region ?_; refine tl_e (e_box rfl rfl rfl) rfl (fun b2 _ => ?_); refine tl_e (e_box rfl rfl rfl) rfl (fun b3 _ => ?_); refine tl_q (y_assign rfl) rfl ?_; refine tl_q (y_assign rfl) rfl ?_; refine tl_q (y_assign rfl) rfl ?_; refine tl_nil ?_; ((refine hK1 ?_; try (clear hK1; clear K1)))
  all_goals refine tc_seq fun K2 hK2 => ?_; refine tc_seq fun K3 hK3 => ?_; refine tc_lay ([]) (SB.s .nil) (fun wl1 hl1 => ?_); refine tc_region ?_; refine tl_q (y_loadWf rfl (hl1.at (by repeat constructor)) (MI.m (by repeat constructor)) (by simp) (by rfl)) rfl ?_; refine tl_e (e_callV rfl (.cons rfl .nil) (fun w' hw' => checkSample_c s hf _ _ _ w' (hr0.fr (hw'.fr (w0 := w) (S := []) (MI.m (by repeat constructor)))))) rfl (fun _ _ => ?_); refine tl_q (y_assign rfl) rfl ?_; refine tl_nil ?_; ((refine hK3 ?_; try (clear hK3; clear K3)))
  all_goals refine tc_block ?_; refine tc_seq fun K4 hK4 => ?_; refine tc_region ?_; refine tl_q (y_move rfl) rfl ?_; refine tl_q (y_neq rfl rfl) rfl ?_; refine tl_q (y_assign rfl) rfl ?_; refine tl_nil ?_; ((refine hK4 ?_; try (clear hK4; clear K4)))
  all_goals (
   refine tc_cond rfl (fun hc => ?_) (fun hc => ?_)
   · try simp only [decide_eq_true_eq, decide_eq_false_iff_not, Int.not_lt, Int.not_le, Bool.not_eq_true', Bool.not_eq_false', Decidable.not_not, not_true_eq_false] at hc
     all_goals refine tc_seq fun K5 hK5 => ?_; refine tc_region ?_; refine tl_q (y_move rfl) rfl ?_; refine tl_q (y_assign rfl) rfl ?_; refine tl_q (y_assign rfl) rfl ?_; refine tl_q (y_assign rfl) rfl ?_; refine tl_nil ?_; ((refine hK5 ?_; try (clear hK5; clear K5)))
     all_goals refine tc_ret ?_; (repeat (first | refine tk_then_ret ?_ | refine tk_block_ret ?_))
     all_goals (refine tk_ret rfl rfl (.cons (.tmp rfl) (.cons (.tmp rfl) (.cons (.tmp rfl) .nil))) ?_)
     all_goals (
      first
      | (have hE1 := plE_1 (s := s) (t := t) (by assumption)
         rw [hE1.1, hE1.2]
         exact fun w' hw' => ⟨((none, 0), (none, 0)), rfl, hw'.fr (w0 := w) (S := []) (MI.m (by repeat constructor)), RdLN.nil _ _ _ _ _, RdLN.nil _ _ _ _ _⟩)
      | (have hE1 := plE_2 (s := s) (t := t) (by assumption) (by assumption)
         rw [hE1.1, hE1.2]
         exact fun w' hw' => ⟨((none, 0), (none, 0)), rfl, hw'.fr (w0 := w) (S := []) (MI.m (by repeat constructor)), RdLN.nil _ _ _ _ _, RdLN.nil _ _ _ _ _⟩)
      | (have h1 : playB s t n = none := by unfold playB; rw [hhf]
         have h2 : playN s t (n + 1) = none := by rw [playN, hpn]; simp only; rw [h1]
         have hE1 := plE_3 (s := s) (t := t) hk0 hls (playN_none h2 _ (by omega))
         rw [hE1.1, hE1.2]
         exact fun w' hw' => ⟨((none, 0), (none, 0)), rfl, hw'.fr (w0 := w) (S := []) (MI.m (by repeat constructor)), RdLN.nil _ _ _ _ _, RdLN.nil _ _ _ _ _⟩)
      | (have h1 : playB s t n = none := by unfold playB; rw [hhf]; simp only; rw [hwh]
         have h2 : playN s t (n + 1) = none := by rw [playN, hpn]; simp only; rw [h1]
         have hE1 := plE_3 (s := s) (t := t) hk0 hls (playN_none h2 _ (by omega))
         rw [hE1.1, hE1.2]
         exact fun w' hw' => ⟨((none, 0), (none, 0)), rfl, hw'.fr (w0 := w) (S := []) (MI.m (by repeat constructor)), RdLN.nil _ _ _ _ _, RdLN.nil _ _ _ _ _⟩)
      | (obtain rfl : n = s.B.toNat := by omega
         have hE1 := plE_4 (s := s) (t := t) hk0 hls (q := q) hpn
         rw [hE1.1, hE1.2]
         refine fun w' hw' => ⟨(ouA o1, ouA o2), ?_, hw'.fr (w0 := w) (S := []) (MI.m (by repeat constructor)), ?_, ?_⟩
         · show Ending.returned (outV [ouV us.length o1, ouV vs.length o2, vi 0]) = _
           rw [hul, hvl]; rfl
         · have := RdLN.ofO hok1 hu hnu hw' (hw'.fr (w0 := wz) (S := S) (MI.m (by repeat constructor))) (w0 := w) (MI.m (by repeat constructor)) (by repeat constructor)
           rw [hul] at this; exact this
         · have := RdLN.ofO hok2 hvv hnv hw' (hw'.fr (w0 := wz) (S := S) (MI.m (by repeat constructor))) (w0 := w) (MI.m (by repeat constructor)) (by repeat constructor)
           rw [hvl] at this; exact this))
   · try simp only [decide_eq_true_eq, decide_eq_false_iff_not, Int.not_lt, Int.not_le, Bool.not_eq_true', Bool.not_eq_false', Decidable.not_not, not_true_eq_false] at hc
     all_goals refine tc_seq fun K6 hK6 => ?_; refine tc_region ?_; refine tl_q (y_loadWf rfl (hl1.at (by repeat constructor)) (MI.m (by repeat constructor)) (by simp) (by rfl)) rfl ?_; refine tl_q (y_loadWf rfl (hl1.at (by repeat constructor)) (MI.m (by repeat constructor)) (by simp) (by rfl)) rfl ?_; refine tl_e (e_callV rfl (.cons rfl (.cons rfl .nil)) (fun w' hw' => listed_c s hf (chkS_0.1 (by assumption)) t hth _ _ _ _ _ w' (hr0.fr (hw'.fr (w0 := w) (S := []) (MI.m (by repeat constructor)))) (ht0.fr (hw'.fr (w0 := w) (S := []) (MI.m (by repeat constructor)))))) rfl (fun _ _ => ?_); refine tl_q (y_not rfl) rfl ?_; refine tl_q (y_assign rfl) rfl ?_; refine tl_nil ?_; ((refine hK6 ?_; try (clear hK6; clear K6)))
     all_goals (
      refine tc_cond rfl (fun hc => ?_) (fun hc => ?_)
      · try simp only [decide_eq_true_eq, decide_eq_false_iff_not, Int.not_lt, Int.not_le, Bool.not_eq_true', Bool.not_eq_false', Decidable.not_not, not_true_eq_false] at hc
        all_goals refine tc_seq fun K7 hK7 => ?_; refine tc_region ?_; refine tl_q (y_assign rfl) rfl ?_; refine tl_q (y_assign rfl) rfl ?_; refine tl_q (y_assign rfl) rfl ?_; refine tl_nil ?_; ((refine hK7 ?_; try (clear hK7; clear K7)))
        all_goals refine tc_ret ?_; (repeat (first | refine tk_then_ret ?_ | refine tk_block_ret ?_))
        all_goals (refine tk_ret rfl rfl (.cons (.tmp rfl) (.cons (.tmp rfl) (.cons (.tmp rfl) .nil))) ?_)
        all_goals (
         first
         | (have hE1 := plE_1 (s := s) (t := t) (by assumption)
            rw [hE1.1, hE1.2]
            exact fun w' hw' => ⟨((none, 0), (none, 0)), rfl, hw'.fr (w0 := w) (S := []) (MI.m (by repeat constructor)), RdLN.nil _ _ _ _ _, RdLN.nil _ _ _ _ _⟩)
         | (have hE1 := plE_2 (s := s) (t := t) (by assumption) (by assumption)
            rw [hE1.1, hE1.2]
            exact fun w' hw' => ⟨((none, 0), (none, 0)), rfl, hw'.fr (w0 := w) (S := []) (MI.m (by repeat constructor)), RdLN.nil _ _ _ _ _, RdLN.nil _ _ _ _ _⟩)
         | (have h1 : playB s t n = none := by unfold playB; rw [hhf]
            have h2 : playN s t (n + 1) = none := by rw [playN, hpn]; simp only; rw [h1]
            have hE1 := plE_3 (s := s) (t := t) hk0 hls (playN_none h2 _ (by omega))
            rw [hE1.1, hE1.2]
            exact fun w' hw' => ⟨((none, 0), (none, 0)), rfl, hw'.fr (w0 := w) (S := []) (MI.m (by repeat constructor)), RdLN.nil _ _ _ _ _, RdLN.nil _ _ _ _ _⟩)
         | (have h1 : playB s t n = none := by unfold playB; rw [hhf]; simp only; rw [hwh]
            have h2 : playN s t (n + 1) = none := by rw [playN, hpn]; simp only; rw [h1]
            have hE1 := plE_3 (s := s) (t := t) hk0 hls (playN_none h2 _ (by omega))
            rw [hE1.1, hE1.2]
            exact fun w' hw' => ⟨((none, 0), (none, 0)), rfl, hw'.fr (w0 := w) (S := []) (MI.m (by repeat constructor)), RdLN.nil _ _ _ _ _, RdLN.nil _ _ _ _ _⟩)
         | (obtain rfl : n = s.B.toNat := by omega
            have hE1 := plE_4 (s := s) (t := t) hk0 hls (q := q) hpn
            rw [hE1.1, hE1.2]
            refine fun w' hw' => ⟨(ouA o1, ouA o2), ?_, hw'.fr (w0 := w) (S := []) (MI.m (by repeat constructor)), ?_, ?_⟩
            · show Ending.returned (outV [ouV us.length o1, ouV vs.length o2, vi 0]) = _
              rw [hul, hvl]; rfl
            · have := RdLN.ofO hok1 hu hnu hw' (hw'.fr (w0 := wz) (S := S) (MI.m (by repeat constructor))) (w0 := w) (MI.m (by repeat constructor)) (by repeat constructor)
              rw [hul] at this; exact this
            · have := RdLN.ofO hok2 hvv hnv hw' (hw'.fr (w0 := wz) (S := S) (MI.m (by repeat constructor))) (w0 := w) (MI.m (by repeat constructor)) (by repeat constructor)
              rw [hvl] at this; exact this))
      · try simp only [decide_eq_true_eq, decide_eq_false_iff_not, Int.not_lt, Int.not_le, Bool.not_eq_true', Bool.not_eq_false', Decidable.not_not, not_true_eq_false] at hc
        all_goals refine tc_skip ?_; ((refine hK2 ?_; try (clear hK2; clear K2)))
        all_goals refine tc_seq fun K8 hK8 => ?_; refine tc_seq fun K9 hK9 => ?_; (have hk0 : chkS s = 0 := by assumption)
        all_goals (have hls : lstF s t = true := by assumption)
        all_goals ((have hv := chkS_0.1 hk0; have hlo := lstF_ok hls; have hb1 := hv.b1; have hb3 := hv.b3; have hl0 := hv.l0; have hl9 := hv.l9; have hla := hlo.l.an))
        all_goals refine tc_region ?_; refine tl_q (y_field rfl) rfl ?_; refine tl_q (y_load1f rfl (hl1.at (by repeat constructor)) (MI.m (by repeat constructor)) (by simp) (by rfl)) rfl ?_; refine tl_q (y_move rfl) rfl ?_; refine tl_nil ?_; ((refine hK9 ?_; try (clear hK9; clear K9)))
        all_goals refine tc_block ?_
        all_goals (
         refine tc_loop (fun p : Nat × (List (List Int) × List (List Bool)) × (List Sv × List Sv) × (OwnB × OwnB) × World => (p.1 : Int) ≤ s.B ∧ playN s t p.1 = some p.2.1 ∧ (okE 1 p.2.2.1.1 p.2.2.2.1.1 ∧ okE 1 p.2.2.1.2 p.2.2.2.1.2) ∧ OKV 1 inE p.2.2.2.2 ((slE 29 svE p.2.2.1.1 p.2.2.2.1.1 ++ slE 22 svE p.2.2.1.2 p.2.2.2.1.2).map Prod.fst) p.2.2.1.1 p.2.1.1 ∧ OKV 1 boE p.2.2.2.2 ((slE 29 svE p.2.2.1.1 p.2.2.2.1.1 ++ slE 22 svE p.2.2.1.2 p.2.2.2.1.2).map Prod.fst) p.2.2.1.2 p.2.1.2 ∧ NewV w p.2.2.1.1 ∧ NewV w p.2.2.1.2) (fun p => [(2, ptr b2), (3, ptr b3), (4, ouV p.2.2.1.1.length p.2.2.2.1.1), (5, ouV p.2.2.1.2.length p.2.2.2.1.2), (25, vi s.B), (26, vi p.1)]) (fun p => [(p.2.2.2.2, (slE 29 svE p.2.2.1.1 p.2.2.2.1.1 ++ slE 22 svE p.2.2.1.2 p.2.2.2.1.2).map Prod.fst), (wl1, []), (w, [])]) (fun p => slE 29 svE p.2.2.1.1 p.2.2.2.1.1 ++ slE 22 svE p.2.2.1.2 p.2.2.2.1.2) (fun p => s.B.toNat - p.1) ?_ ?_
         · exact tk_lay [] (SB.s .nil) fun wl2 hl2 => tk_start (0, ([], []), ([], []), (none, none), wl2) ⟨by dsimp only; omega, rfl, ⟨rfl, rfl⟩, OKV.nil, OKV.nil, NewV.nil _, NewV.nil _⟩ (.cons rfl (.cons rfl (.cons rfl (.cons rfl (.cons rfl (.cons rfl .nil)))))) (fun _ h => by rw [slE_none, slE_none]; exact h.subl (SB.s (by repeat constructor)) (SB.s (by repeat constructor)))
         · rintro ⟨n, q, ⟨us, vs⟩, ⟨o1, o2⟩, wz⟩ ⟨hn, hpn, ⟨hok1, hok2⟩, hu, hvv, hnu, hnv⟩
           dsimp only at hn hpn hok1 hok2 hu hvv hnu hnv ⊢
           obtain ⟨S, hS⟩ : ∃ S, S = (slE 29 svE us o1 ++ slE 22 svE vs o2).map Prod.fst := ⟨_, rfl⟩
           rw [← hS] at hu hvv ⊢
           have hpl := playN_len hpn
           have hul := hu.1
           have hvl := hvv.1
           all_goals refine tc_seq fun K10 hK10 => ?_; refine tc_region ?_; refine tl_q (y_lss rfl rfl) rfl ?_; refine tl_nil ?_; ((refine hK10 ?_; try (clear hK10; clear K10)))
           all_goals refine tc_seq fun K11 hK11 => ?_
           all_goals (
            refine tc_cond rfl (fun hc => ?_) (fun hc => ?_)
            · try simp only [decide_eq_true_eq, decide_eq_false_iff_not, Int.not_lt, Int.not_le, Bool.not_eq_true', Bool.not_eq_false', Decidable.not_not, not_true_eq_false] at hc
              all_goals refine tc_skip ?_; ((refine hK11 ?_; try (clear hK11; clear K11)))
              all_goals refine tc_seq fun K12 hK12 => ?_; refine tc_block ?_; refine tc_seq fun K13 hK13 => ?_; refine tc_region ?_; refine tl_q (y_move rfl) rfl ?_; refine tl_q (y_assign rfl) rfl ?_; refine tl_nil ?_; ((refine hK13 ?_; try (clear hK13; clear K13)))
              all_goals refine tc_seq fun K14 hK14 => ?_; (rcases hhf : heldF s (n : Nat) t.hs with _ | l)
              all_goals ((have hE := congrArg Option.isSome ((chF_held s (n : Nat) t.hs).trans (congrArg (Option.map padC) hhf)); simp only [Option.map_none, Option.map_some, Option.isSome_none, Option.isSome_some] at hE))
              all_goals refine tc_region ?_; refine tl_q (y_loadWf rfl (hl1.at (by repeat constructor)) (MI.m (by repeat constructor)) (by simp) (by rfl)) rfl ?_; refine tl_q (y_move rfl) rfl ?_; refine tl_q (y_field rfl) rfl ?_; refine tl_q (y_load1f rfl (hl1.at (by repeat constructor)) (MI.m (by repeat constructor)) (by simp) (by rfl)) rfl ?_; refine tl_e (e_callX rfl (.cons rfl (.cons rfl (.cons rfl .nil))) (fun w' hw' => chained_c s hf hv (n : Nat) t.hs hlo.l.hs _ _ _ _ w' (hr0.fr (hw'.fr (w0 := w) (S := []) (MI.m (by repeat constructor)))) (ht0.hs.fr (hw'.fr (w0 := w) (S := []) (MI.m (by repeat constructor)))))) rfl (fun y hy => ?_); ((obtain ⟨⟨hy1, hy2⟩, hyw⟩ := hy; rw [hE]))
              all_goals refine tl_q (y_move rfl) rfl ?_; refine tl_q (y_extract rfl rfl) rfl ?_; refine tl_q (y_extract rfl rfl) rfl ?_; refine tl_e (e_allocN rfl) rfl (fun b9 _ => ?_); refine tl_e (e_storeW rfl rfl (by repeat constructor) (by first | rfl | rw [isV_size, hy1]) (by first | rfl | rw [isV_size, hy1]) (isV_one _)) rfl (fun _ _ => ?_); refine tl_q (y_assign rfl) rfl ?_; refine tl_nil ?_; ((refine hK14 ?_; try (clear hK14; clear K14)))
              all_goals refine tc_seq fun K15 hK15 => ?_; refine tc_seq fun K16 hK16 => ?_; refine tc_region ?_; refine tl_q (y_move rfl) rfl ?_; refine tl_q (y_not rfl) rfl ?_; refine tl_nil ?_; ((refine hK16 ?_; try (clear hK16; clear K16)))
              all_goals (
               refine tc_cond rfl (fun hc => ?_) (fun hc => ?_)
               · try simp only [decide_eq_true_eq, decide_eq_false_iff_not, Int.not_lt, Int.not_le, Bool.not_eq_true', Bool.not_eq_false', Decidable.not_not, not_true_eq_false] at hc
                 all_goals ((first | (exfalso; with_reducible exact btf hc) | skip))
                 all_goals refine tc_seq fun K17 hK17 => ?_; refine tc_region ?_; refine tl_q (y_assign rfl) rfl ?_; refine tl_q (y_assign rfl) rfl ?_; refine tl_q (y_assign rfl) rfl ?_; refine tl_nil ?_; ((refine hK17 ?_; try (clear hK17; clear K17)))
                 all_goals refine tc_ret ?_; (repeat (first | refine tk_then_ret ?_ | refine tk_block_ret ?_))
                 all_goals (refine tk_ret rfl rfl (.cons (.tmp rfl) (.cons (.tmp rfl) (.cons (.tmp rfl) .nil))) ?_)
                 all_goals (
                  first
                  | (have hE1 := plE_1 (s := s) (t := t) (by assumption)
                     rw [hE1.1, hE1.2]
                     exact fun w' hw' => ⟨((none, 0), (none, 0)), rfl, hw'.fr (w0 := w) (S := []) (MI.m (by repeat constructor)), RdLN.nil _ _ _ _ _, RdLN.nil _ _ _ _ _⟩)
                  | (have hE1 := plE_2 (s := s) (t := t) (by assumption) (by assumption)
                     rw [hE1.1, hE1.2]
                     exact fun w' hw' => ⟨((none, 0), (none, 0)), rfl, hw'.fr (w0 := w) (S := []) (MI.m (by repeat constructor)), RdLN.nil _ _ _ _ _, RdLN.nil _ _ _ _ _⟩)
                  | (have h1 : playB s t n = none := by unfold playB; rw [hhf]
                     have h2 : playN s t (n + 1) = none := by rw [playN, hpn]; simp only; rw [h1]
                     have hE1 := plE_3 (s := s) (t := t) hk0 hls (playN_none h2 _ (by omega))
                     rw [hE1.1, hE1.2]
                     exact fun w' hw' => ⟨((none, 0), (none, 0)), rfl, hw'.fr (w0 := w) (S := []) (MI.m (by repeat constructor)), RdLN.nil _ _ _ _ _, RdLN.nil _ _ _ _ _⟩)
                  | (have h1 : playB s t n = none := by unfold playB; rw [hhf]; simp only; rw [hwh]
                     have h2 : playN s t (n + 1) = none := by rw [playN, hpn]; simp only; rw [h1]
                     have hE1 := plE_3 (s := s) (t := t) hk0 hls (playN_none h2 _ (by omega))
                     rw [hE1.1, hE1.2]
                     exact fun w' hw' => ⟨((none, 0), (none, 0)), rfl, hw'.fr (w0 := w) (S := []) (MI.m (by repeat constructor)), RdLN.nil _ _ _ _ _, RdLN.nil _ _ _ _ _⟩)
                  | (obtain rfl : n = s.B.toNat := by omega
                     have hE1 := plE_4 (s := s) (t := t) hk0 hls (q := q) hpn
                     rw [hE1.1, hE1.2]
                     refine fun w' hw' => ⟨(ouA o1, ouA o2), ?_, hw'.fr (w0 := w) (S := []) (MI.m (by repeat constructor)), ?_, ?_⟩
                     · show Ending.returned (outV [ouV us.length o1, ouV vs.length o2, vi 0]) = _
                       rw [hul, hvl]; rfl
                     · have := RdLN.ofO hok1 hu hnu hw' (hw'.fr (w0 := wz) (S := S) (MI.m (by repeat constructor))) (w0 := w) (MI.m (by repeat constructor)) (by repeat constructor)
                       rw [hul] at this; exact this
                     · have := RdLN.ofO hok2 hvv hnv hw' (hw'.fr (w0 := wz) (S := S) (MI.m (by repeat constructor))) (w0 := w) (MI.m (by repeat constructor)) (by repeat constructor)
                       rw [hvl] at this; exact this))
               · try simp only [decide_eq_true_eq, decide_eq_false_iff_not, Int.not_lt, Int.not_le, Bool.not_eq_true', Bool.not_eq_false', Decidable.not_not, not_true_eq_false] at hc
                 all_goals ((first | (exfalso; with_reducible exact bft hc) | skip))
                 all_goals refine tc_skip ?_; ((refine hK15 ?_; try (clear hK15; clear K15)))
                 all_goals refine tc_seq fun K18 hK18 => ?_; (have hyl : y.1 = padC l := hy2 _ ((chF_held s (n : Nat) t.hs).trans (congrArg (Option.map padC) hhf)))
                 all_goals ((have hco : ChOk s y.1 := chF_ok hv (by rw [hyl]; exact (chF_held s (n : Nat) t.hs).trans (congrArg (Option.map padC) hhf)); have hlo2 := heldF_ok hv hhf))
                 all_goals (have hnB : n < t.ac.length := by omega)
                 all_goals ((have hal := hlo.l.al n hnB; have ha3 := hlo.a3 n hnB; obtain ⟨adn, cpn, bn, on, hen, hadn, hcn⟩ := (hra w (Fr.refl _ _) n hnB).open inE_len 0))
                 all_goals (have hWl : (t.ac.getD n []).length = (s.L + 1).toNat := by omega)
                 all_goals ((have hWp : whN s (n : Nat) y.1 (t.ac.getD n []) (t.ac.getD n []).length = whN s (n : Nat) l (t.ac.getD n []) (s.L + 1).toNat := by rw [hyl, hWl]; exact whN_pad _ (by omega)))
                 all_goals ((have hrn : ∀ w', Fr [] w w' → RdI w' (.slice adn (t.ac.getD n []).length cpn) (t.ac.getD n []) := fun w' f => by rw [← hen]; exact (hra w' f n hnB).toI))
                 all_goals (rcases hwh : whN s (n : Nat) l (t.ac.getD n []) (s.L + 1).toNat with _ | qq)
                 all_goals refine tc_draw (by kernel_rfl) ?_; refine tx_q 0 rfl (by kernel_rfl) (y_loadWf rfl (hl1.at (by repeat constructor)) (MI.m (by repeat constructor)) (by simp) (by rfl)) rfl (fun _ _ _ h => h) (fun _ h => h) ?_; refine tx_p 1 rfl (by kernel_rfl) (y_move rfl) rfl (fun _ _ _ h => h) (fun _ h => h) ?_; refine tx_q 2 rfl (by kernel_rfl) (y_loadW rfl (by repeat constructor) (by rw [isV_size, hy1])) rfl (fun _ _ _ h => h) (fun _ h => h) ?_; refine tx_p 3 rfl (by kernel_rfl) (y_field rfl) rfl (fun _ _ _ h => h) (fun _ h => h) ?_; refine tx_q 4 rfl (by kernel_rfl) (y_load1f rfl (hl1.at (by repeat constructor)) (MI.m (by repeat constructor)) (by simp) (by rfl)) rfl (fun _ _ _ h => h) (fun _ h => h) ?_; refine tx_p 5 rfl (by kernel_rfl) (y_move rfl) rfl (fun _ _ _ h => h) (fun _ h => h) ?_; refine tx_p 6 rfl (by kernel_rfl) (y_index rfl rfl (by omega) (hada (by omega))) rfl (fun _ _ _ h => h) (fun _ h => h) ?_; ((refine tx_q 7 rfl (by kernel_rfl) (y_load1o (v := .slice adn (t.ac.getD n []).length cpn) rfl (fun w' hw' => by rw [show Int.toNat (n : Int) * 1 = n from by omega, ← hen]; exact hca w' (hw'.fr (w0 := w) (S := []) (MI.m (by repeat constructor))) n hnB)) rfl (fun _ _ _ h => h) (fun _ h => h) ?_))
                 all_goals (first | refine tx_e 8 rfl (by kernel_rfl) rfl (e_callX rfl (.cons rfl (.cons rfl (.cons rfl (.cons rfl .nil)))) (fun w' hw' => played_none hf hv hco hal ha3 (hWp.trans hwh) _ _ _ _ w' (hr0.fr (hw'.fr (w0 := w) (S := []) (MI.m (by repeat constructor)))) (hrn w' (hw'.fr (w0 := w) (S := []) (MI.m (by repeat constructor)))))) (.inr fun _ _ h => h.sub (fun _ h => List.mem_cons_of_mem _ h) (List.Sublist.refl _)) (fun y12 hy12 => ?_) | refine tx_e 8 rfl (by kernel_rfl) rfl (e_callX rfl (.cons rfl (.cons rfl (.cons rfl (.cons rfl .nil)))) (fun w' hw' => (played_some hf hv hco hal ha3 (hWp.trans hwh) _ _ _ _ w' (hr0.fr (hw'.fr (w0 := w) (S := []) (MI.m (by repeat constructor)))) (hrn w' (hw'.fr (w0 := w) (S := []) (MI.m (by repeat constructor))))).imp (val' := fun y : Option Addr × Nat => .tuple #[slV qq.1.length y, .bool true]) (p' := fun y w2 => RdS 1 boE w2 (slV qq.1.length y) qq.1 ∧ sepS (slV qq.1.length y) (b9 :: (slE 29 svE us o1 ++ slE 22 svE vs o2).map Prod.fst) ∧ NewS w (slV qq.1.length y)) id (fun _ => rfl) (fun _ h => h) (fun _ _ _ hp => ⟨hp.1, hp.2.sep hw', hp.2.le (hw'.fr (w0 := w) (S := []) (MI.m (by repeat constructor))).size⟩))) (.inr fun _ _ h => h.sub (fun _ h => List.mem_cons_of_mem _ h) (List.Sublist.refl _)) (fun y12 hy12 => ?_)); refine tx_p 9 rfl (by kernel_rfl) (y_move rfl) rfl (fun _ _ _ h => h) (fun _ h => h) ?_; refine tx_p 10 rfl (by kernel_rfl) (y_extract rfl rfl) rfl (fun _ _ _ h => h) (fun _ h => h) ?_; refine tx_p 11 rfl (by kernel_rfl) (y_extract rfl rfl) rfl (fun _ _ _ h => h) (fun _ h => h) ?_; refine tx_p 12 rfl (by kernel_rfl) (y_assign rfl) rfl (fun _ _ _ h => h) (fun _ h => h) ?_; refine tx_p 13 rfl (by kernel_rfl) (y_assign rfl) rfl (fun _ _ _ h => h) (fun _ h => h) ?_; refine tx_done (by kernel_rfl) ?_; ((refine hK18 ?_; try (clear hK18; clear K18)))
                 all_goals refine tc_seq fun K19 hK19 => ?_; refine tc_seq fun K20 hK20 => ?_; refine tc_region ?_; refine tl_q (y_move rfl) rfl ?_; refine tl_q (y_not rfl) rfl ?_; refine tl_nil ?_; ((refine hK20 ?_; try (clear hK20; clear K20)))
                 all_goals (
                  refine tc_cond rfl (fun hc => ?_) (fun hc => ?_)
                  · try simp only [decide_eq_true_eq, decide_eq_false_iff_not, Int.not_lt, Int.not_le, Bool.not_eq_true', Bool.not_eq_false', Decidable.not_not, not_true_eq_false] at hc
                    all_goals ((first | (exfalso; with_reducible exact btf hc) | skip))
                    all_goals refine tc_seq fun K21 hK21 => ?_; refine tc_region ?_; refine tl_q (y_assign rfl) rfl ?_; refine tl_q (y_assign rfl) rfl ?_; refine tl_q (y_assign rfl) rfl ?_; refine tl_nil ?_; ((refine hK21 ?_; try (clear hK21; clear K21)))
                    all_goals refine tc_ret ?_; (repeat (first | refine tk_then_ret ?_ | refine tk_block_ret ?_))
                    all_goals (refine tk_ret rfl rfl (.cons (.tmp rfl) (.cons (.tmp rfl) (.cons (.tmp rfl) .nil))) ?_)
                    all_goals (
                     first
                     | (have hE1 := plE_1 (s := s) (t := t) (by assumption)
                        rw [hE1.1, hE1.2]
                        exact fun w' hw' => ⟨((none, 0), (none, 0)), rfl, hw'.fr (w0 := w) (S := []) (MI.m (by repeat constructor)), RdLN.nil _ _ _ _ _, RdLN.nil _ _ _ _ _⟩)
                     | (have hE1 := plE_2 (s := s) (t := t) (by assumption) (by assumption)
                        rw [hE1.1, hE1.2]
                        exact fun w' hw' => ⟨((none, 0), (none, 0)), rfl, hw'.fr (w0 := w) (S := []) (MI.m (by repeat constructor)), RdLN.nil _ _ _ _ _, RdLN.nil _ _ _ _ _⟩)
                     | (have h1 : playB s t n = none := by unfold playB; rw [hhf]
                        have h2 : playN s t (n + 1) = none := by rw [playN, hpn]; simp only; rw [h1]
                        have hE1 := plE_3 (s := s) (t := t) hk0 hls (playN_none h2 _ (by omega))
                        rw [hE1.1, hE1.2]
                        exact fun w' hw' => ⟨((none, 0), (none, 0)), rfl, hw'.fr (w0 := w) (S := []) (MI.m (by repeat constructor)), RdLN.nil _ _ _ _ _, RdLN.nil _ _ _ _ _⟩)
                     | (have h1 : playB s t n = none := by unfold playB; rw [hhf]; simp only; rw [hwh]
                        have h2 : playN s t (n + 1) = none := by rw [playN, hpn]; simp only; rw [h1]
                        have hE1 := plE_3 (s := s) (t := t) hk0 hls (playN_none h2 _ (by omega))
                        rw [hE1.1, hE1.2]
                        exact fun w' hw' => ⟨((none, 0), (none, 0)), rfl, hw'.fr (w0 := w) (S := []) (MI.m (by repeat constructor)), RdLN.nil _ _ _ _ _, RdLN.nil _ _ _ _ _⟩)
                     | (obtain rfl : n = s.B.toNat := by omega
                        have hE1 := plE_4 (s := s) (t := t) hk0 hls (q := q) hpn
                        rw [hE1.1, hE1.2]
                        refine fun w' hw' => ⟨(ouA o1, ouA o2), ?_, hw'.fr (w0 := w) (S := []) (MI.m (by repeat constructor)), ?_, ?_⟩
                        · show Ending.returned (outV [ouV us.length o1, ouV vs.length o2, vi 0]) = _
                          rw [hul, hvl]; rfl
                        · have := RdLN.ofO hok1 hu hnu hw' (hw'.fr (w0 := wz) (S := S) (MI.m (by repeat constructor))) (w0 := w) (MI.m (by repeat constructor)) (by repeat constructor)
                          rw [hul] at this; exact this
                        · have := RdLN.ofO hok2 hvv hnv hw' (hw'.fr (w0 := wz) (S := S) (MI.m (by repeat constructor))) (w0 := w) (MI.m (by repeat constructor)) (by repeat constructor)
                          rw [hvl] at this; exact this))
                  · try simp only [decide_eq_true_eq, decide_eq_false_iff_not, Int.not_lt, Int.not_le, Bool.not_eq_true', Bool.not_eq_false', Decidable.not_not, not_true_eq_false] at hc
                    all_goals ((first | (exfalso; with_reducible exact bft hc) | skip))
                    all_goals refine tc_skip ?_; ((refine hK19 ?_; try (clear hK19; clear K19)))
                    all_goals refine tc_region ?_; refine tl_q (y_move rfl) rfl ?_; refine tl_q (y_field rfl) rfl ?_; refine tl_q (y_load1f rfl (hl1.at (by repeat constructor)) (MI.m (by repeat constructor)) (by simp) (by rfl)) rfl ?_; refine tl_q (y_add rfl rfl (by omega)) rfl ?_; ((refine tl_q (y_sliceAT (m := l.length) rfl (by rw [hlo2.1]; rfl) (by omega)) rfl ?_))
                    all_goals (refine tl_e (e_callX rfl (.cons rfl .nil) (fun w' hw' => (cloneX_c b9 10 l (by omega) w' (chain_rd hw' (by rw [← hyl]; exact (by repeat constructor)))).imp (val' := fun y : Option Addr × Nat => slV l.length y) (p' := fun y w2 => RdI w2 (slV l.length y) l ∧ sepS (slV l.length y) (b9 :: (slE 29 svE us o1 ++ slE 22 svE vs o2).map Prod.fst) ∧ NewS w (slV l.length y)) id (fun _ => rfl) (fun _ h => h) (fun _ _ _ hp => ⟨hp.1, hp.2.sep hw', hp.2.le (hw'.fr (w0 := w) (S := []) (MI.m (by repeat constructor))).size⟩))) rfl (fun y15 hy15 => ?_))
                    all_goals (refine tl_e (e_bslice rfl (by (repeat (first | exact .nil | apply PV.one rfl rfl)); done) rfl rfl) rfl (fun b15 _ => ?_))
                    all_goals ((refine tl_e (e_appendE (enc := svE) (xs := us) (ys := [svS l.length y15.1]) svE_len svE_one rfl rfl rfl hok1 (fun _ => by repeat constructor) (fun w' hw' => RdS.own0 svE_len hw' (by repeat constructor)) (by simp only [List.length_cons, List.length_nil]; omega) rfl) rfl (fun o1' hok1' => ?_)))
                    all_goals refine tl_q (y_move rfl) rfl ?_; refine tl_q (y_move rfl) rfl ?_; (refine tl_e (e_bslice rfl (by (repeat (first | exact .nil | apply PV.one rfl rfl)); done) rfl rfl) rfl (fun b16 _ => ?_))
                    all_goals ((refine tl_e (e_appendE (enc := svE) (xs := vs) (ys := [svS qq.1.length y12.1]) svE_len svE_one rfl rfl rfl hok2 (fun _ => by repeat constructor) (fun w' hw' => RdS.own0 svE_len hw' (by repeat constructor)) (by simp only [List.length_cons, List.length_nil]; omega) rfl) rfl (fun o2' hok2' => ?_)))
                    all_goals refine tl_q (y_assign rfl) rfl ?_; refine tl_q (y_assign rfl) rfl ?_; refine tl_nil ?_; ((refine hK12 ?_; try (clear hK12; clear K12)))
                    all_goals refine tc_lay (slE 29 svE (us ++ [svS l.length y15.1]) o1' ++ slE 22 svE (vs ++ [svS qq.1.length y12.1]) o2') ((((List.Sublist.refl _).cons _).cons _).cons _) (fun wl16 hl16 => ?_); refine tc_region ?_; refine tl_q (y_add rfl rfl (by omega)) rfl ?_; refine tl_q (y_move rfl) rfl ?_; refine tl_nil ?_
                    all_goals (
                     have hpb : playB s t n = some (l, qq.1) := by unfold playB; rw [hhf]; simp only; rw [hwh]
                     have hpn1 : playN s t (n + 1) = some (q.1 ++ [l], q.2 ++ [qq.1]) := by rw [playN, hpn]; simp only; rw [hpb]
                     have hfz : Fr S wz wl16 := hl16.fr (w0 := wz) (S := S) (MI.m (by repeat constructor))
                     have hoz := hl16.ownsK ((((List.Sublist.refl (slE 29 svE (us ++ [svS l.length y15.1]) o1' ++ slE 22 svE (vs ++ [svS qq.1.length y12.1]) o2')).cons _).cons _).cons _) (w0 := wz) (S := S) (MI.m (by repeat constructor))
                     have hol : OKS 1 inE wl16 ((slE 29 svE (us ++ [svS l.length y15.1]) o1' ++ slE 22 svE (vs ++ [svS qq.1.length y12.1]) o2').map Prod.fst) (svS l.length y15.1).1 l := OKS.mk' inE_len (by decide) hl16 ((((List.Sublist.refl _).cons _).cons _).cons _) (x2 := y15.2) (S0 := b9 :: (slE 29 svE us o1 ++ slE 22 svE vs o2).map Prod.fst) (MI.m (by repeat constructor)) hy15.1.2.1 (RdS.int.2 hy15.1.1)
                     have how : OKS 1 boE wl16 ((slE 29 svE (us ++ [svS l.length y15.1]) o1' ++ slE 22 svE (vs ++ [svS qq.1.length y12.1]) o2').map Prod.fst) (svS qq.1.length y12.1).1 qq.1 := OKS.mk' boE_len (by decide) hl16 ((((List.Sublist.refl _).cons _).cons _).cons _) (x2 := y12.2) (S0 := b9 :: (slE 29 svE us o1 ++ slE 22 svE vs o2).map Prod.fst) (MI.m (by repeat constructor)) hy12.1.2.1 hy12.1.1
                     exact tk_round (n + 1, (q.1 ++ [l], q.2 ++ [qq.1]), (us ++ [svS l.length y15.1], vs ++ [svS qq.1.length y12.1]), (o1', o2'), wl16) ⟨by dsimp only; omega, hpn1, ⟨hok1', hok2'⟩, (hu.step hfz hoz).snoc hol, (hvv.step hfz hoz).snoc how, hnu.snoc hy15.1.2.2, hnv.snoc hy12.1.2.2⟩ (by dsimp only; omega) (.cons rfl (.cons rfl (.cons rfl (.cons rfl (.cons rfl (.cons rfl .nil)))))) (fun _ h => h.subl (SB.s (by repeat constructor)) (SB.s (by repeat constructor))))))
            · try simp only [decide_eq_true_eq, decide_eq_false_iff_not, Int.not_lt, Int.not_le, Bool.not_eq_true', Bool.not_eq_false', Decidable.not_not, not_true_eq_false] at hc
              all_goals refine tc_exit ?_; ((refine hK8 ?_; try (clear hK8; clear K8)))
              all_goals refine tc_seq fun K22 hK22 => ?_; refine tc_region ?_; refine tl_q (y_move rfl) rfl ?_; refine tl_q (y_move rfl) rfl ?_; refine tl_q (y_assign rfl) rfl ?_; refine tl_q (y_assign rfl) rfl ?_; refine tl_q (y_assign rfl) rfl ?_; refine tl_nil ?_; ((refine hK22 ?_; try (clear hK22; clear K22)))
              all_goals refine tc_ret ?_; (repeat (first | refine tk_then_ret ?_))
              all_goals (refine tk_ret rfl rfl (.cons (.tmp rfl) (.cons (.tmp rfl) (.cons (.tmp rfl) .nil))) ?_)
              all_goals (
               first
               | (have hE1 := plE_1 (s := s) (t := t) (by assumption)
                  rw [hE1.1, hE1.2]
                  exact fun w' hw' => ⟨((none, 0), (none, 0)), rfl, hw'.fr (w0 := w) (S := []) (MI.m (by repeat constructor)), RdLN.nil _ _ _ _ _, RdLN.nil _ _ _ _ _⟩)
               | (have hE1 := plE_2 (s := s) (t := t) (by assumption) (by assumption)
                  rw [hE1.1, hE1.2]
                  exact fun w' hw' => ⟨((none, 0), (none, 0)), rfl, hw'.fr (w0 := w) (S := []) (MI.m (by repeat constructor)), RdLN.nil _ _ _ _ _, RdLN.nil _ _ _ _ _⟩)
               | (have h1 : playB s t n = none := by unfold playB; rw [hhf]
                  have h2 : playN s t (n + 1) = none := by rw [playN, hpn]; simp only; rw [h1]
                  have hE1 := plE_3 (s := s) (t := t) hk0 hls (playN_none h2 _ (by omega))
                  rw [hE1.1, hE1.2]
                  exact fun w' hw' => ⟨((none, 0), (none, 0)), rfl, hw'.fr (w0 := w) (S := []) (MI.m (by repeat constructor)), RdLN.nil _ _ _ _ _, RdLN.nil _ _ _ _ _⟩)
               | (have h1 : playB s t n = none := by unfold playB; rw [hhf]; simp only; rw [hwh]
                  have h2 : playN s t (n + 1) = none := by rw [playN, hpn]; simp only; rw [h1]
                  have hE1 := plE_3 (s := s) (t := t) hk0 hls (playN_none h2 _ (by omega))
                  rw [hE1.1, hE1.2]
                  exact fun w' hw' => ⟨((none, 0), (none, 0)), rfl, hw'.fr (w0 := w) (S := []) (MI.m (by repeat constructor)), RdLN.nil _ _ _ _ _, RdLN.nil _ _ _ _ _⟩)
               | (obtain rfl : n = s.B.toNat := by omega
                  have hE1 := plE_4 (s := s) (t := t) hk0 hls (q := q) hpn
                  rw [hE1.1, hE1.2]
                  refine fun w' hw' => ⟨(ouA o1, ouA o2), ?_, hw'.fr (w0 := w) (S := []) (MI.m (by repeat constructor)), ?_, ?_⟩
                  · show Ending.returned (outV [ouV us.length o1, ouV vs.length o2, vi 0]) = _
                    rw [hul, hvl]; rfl
                  · have := RdLN.ofO hok1 hu hnu hw' (hw'.fr (w0 := wz) (S := S) (MI.m (by repeat constructor))) (w0 := w) (MI.m (by repeat constructor)) (by repeat constructor)
                    rw [hul] at this; exact this
                  · have := RdLN.ofO hok2 hvv hnv hw' (hw'.fr (w0 := wz) (S := S) (MI.m (by repeat constructor))) (w0 := w) (MI.m (by repeat constructor)) (by repeat constructor)
                    rw [hvl] at this; exact this))))))
theorem sPlayL_c (s : Smp) (hf : Few s) (t : Tth) (hth : ThT t) (tv pv gv hvv avv : Value) (w : World) (hr : RdSm w s tv pv gv) (hrt : RdTh w t hvv avv) :
    CnX Tryz.prog 43 #[smV s tv pv gv, tV hvv avv] w [] (fun y : (Option Addr × Nat) × (Option Addr × Nat) => .tuple #[slV (plQ s t).1.length y.1, slV (plQ s t).2.length y.2, vi (plE s t)])
      (fun y w' => RdLL 1 inE w' (slV (plQ s t).1.length y.1) (plQ s t).1 ∧ RdLL 1 boE w' (slV (plQ s t).2.length y.2) (plQ s t).2) :=
  (sPlay_c s hf t hth tv pv gv hvv avv w hr hrt).imp id (fun _ => rfl) (fun _ h => h) (fun _ _ _ h => ⟨h.1.ll, h.2.ll⟩)
theorem proveTruth_c (s : Smp) (hf : Few s) (t : Tth) (hth : ThT t) (tv pv gv hvv avv : Value) (w : World) (hr : RdSm w s tv pv gv) (hrt : RdTh w t hvv avv) :
    CnV Tryz.prog 45 #[smV s tv pv gv, tV hvv avv] w (.bool (decide (plE s t = 0))) := by
  have hr0 := hr
  have ht0 := hrt
  obtain ⟨_, _, _, _, rfl, _, _⟩ := hr.st.open boE_len false
  obtain ⟨_, _, _, _, rfl, _, _⟩ := hr.ps.open psE_len pas0
  obtain ⟨_, _, _, _, rfl, _, _⟩ := hr.sg.open sgE_len sgt0
  obtain ⟨_, _, _, _, rfl, _, _⟩ := hrt.hs.open
  obtain ⟨_, _, _, _, _, rfl, _, _, _⟩ := hrt.ac.open
  refine cnv (vs := [_, _]) Tryz.func45 rfl rfl ?_
  all_goals refine tc_seq fun K1 hK1 => ?_; refine tc_region ?_; refine tl_e (e_box rfl rfl rfl) rfl (fun b2 _ => ?_); refine tl_e (e_box rfl rfl rfl) rfl (fun b3 _ => ?_); refine tl_q (y_assign rfl) rfl ?_; refine tl_nil ?_; ((refine hK1 ?_; try (clear hK1; clear K1)))
  all_goals refine tc_seq fun K2 hK2 => ?_; refine tc_region ?_; refine tl_q (y_loadW rfl (by repeat constructor) (by rfl)) rfl ?_; refine tl_q (y_loadW rfl (by repeat constructor) (by rfl)) rfl ?_; refine tl_e (e_callX rfl (.cons rfl (.cons rfl .nil)) (fun w' hw' => sPlayL_c s hf t hth _ _ _ _ _ w' (hr0.fr (hw'.fr (w0 := w) (S := []) (MI.m (by repeat constructor)))) (ht0.fr (hw'.fr (w0 := w) (S := []) (MI.m (by repeat constructor)))))) rfl (fun _ _ => ?_); refine tl_q (y_move rfl) rfl ?_; refine tl_q (y_extract rfl rfl) rfl ?_; refine tl_q (y_extract rfl rfl) rfl ?_; refine tl_q (y_extract rfl rfl) rfl ?_; refine tl_q (y_assign rfl) rfl ?_; refine tl_q (y_assign rfl) rfl ?_; refine tl_q (y_assign rfl) rfl ?_; refine tl_nil ?_; ((refine hK2 ?_; try (clear hK2; clear K2)))
  all_goals refine tc_seq fun K3 hK3 => ?_; refine tc_region ?_; refine tl_q (y_move rfl) rfl ?_; refine tl_q (y_eql rfl rfl) rfl ?_; refine tl_q (y_assign rfl) rfl ?_; refine tl_nil ?_; ((refine hK3 ?_; try (clear hK3; clear K3)))
  all_goals refine tc_ret ?_; (repeat (first | refine tk_then_ret ?_))
  all_goals (refine tk_ret rfl rfl (.cons (.tmp rfl) .nil) ?_)
  all_goals (
   exact fun w' hw' => ⟨rfl, hw'.fr (w0 := w) (S := []) (MI.m (by repeat constructor))⟩)
end Go.Sp
/-
  Law's helpers: truths for the program; what is thin; the reference's IsListed.
-/
namespace Go.Sp
open Go Go.Proofs
theorem llist_c (l : List Int) (hl : l.length ≤ 100) (lv : Value) (w : World) (hr : RdI w lv l) :
    CnX Tryz.prog 81 #[lv] w [] (fun y : Option Addr × Nat => slV l.length y) (fun y w' => RdI w' (slV l.length y) l ∧ NewS w (slV l.length y)) := by
  have hr0 := hr
  obtain ⟨ad, cp, b0, o, rfl, had, hcell⟩ := hr.open
  refine cnx0 (vs := [_]) Tryz.func81 rfl rfl ?_
  all_goals refine tc_seq fun K1 hK1 => ?_; refine tc_region ?_; refine tl_q (y_assign rfl) rfl ?_; refine tl_nil ?_; ((refine hK1 ?_; try (clear hK1; clear K1)))
  all_goals refine tc_seq fun K2 hK2 => ?_; refine tc_region ?_; (refine tl_e (e_bslice rfl (by (repeat (exact .nil)); done) rfl rfl) rfl (fun _ _ => ?_))
  all_goals refine tl_q (y_move rfl) rfl ?_; (refine tl_e (e_append_own (old := []) (junk := []) rfl rfl rfl (by repeat constructor) rfl rfl (Nat.le_refl 0) (fun w' hw' => hr0.fr (hw'.fr (by simp))) (fun u hu => by obtain ⟨_, _, rfl⟩ := List.mem_map.1 hu; rfl) (by omega) rfl) rfl (fun r hq => ?_))
  all_goals refine tl_q (y_assign rfl) rfl ?_; refine tl_nil ?_; ((refine hK2 ?_; try (clear hK2; clear K2)))
  all_goals refine tc_ret ?_; (repeat (first | refine tk_then_ret ?_))
  all_goals (refine tk_ret rfl rfl (.cons (.tmp rfl) .nil) ?_)
  all_goals (
   refine fun w' hw' => ⟨(some ⟨r.1, 0, none⟩, r.2.1), by simp [outV, slV], hw'.fr (by simp), ?_, ?_⟩
   · have h2 := hw'.heap _ (HM.mem (b := r.1) (by repeat constructor))
     refine ⟨by simp, some ⟨r.1, 0, none⟩, r.2.1, rfl, fun _ => ⟨r.1, 0, rfl, ?_⟩⟩
     have h1 := CA_pre (l.map vi) r.2.2 3 (0, 0)
     rw [List.length_map] at h1
     rw [Nat.mul_one]
     exact h1.cells (by simpa using h2)
   · intro p m c e
     cases e
     exact (hw'.own _ (HM.mem (b := r.1) (by repeat constructor)) (w, []) (by simp)).resolve_left (by simp))
set_option maxHeartbeats 4000000 in
theorem lawTruth_c (t : Tth) (ht : ThT t) (hvv avv : Value) (w : World) (hrt : RdTh w t hvv avv) :
    CnX Tryz.prog 44 #[tV hvv avv] w [] (fun y : (Option Addr × Nat) × (Option Addr × Nat) => tV (slV t.hs.length y.1) (slV t.ac.length y.2)) (fun y w' => RdTh w' t (slV t.hs.length y.1) (slV t.ac.length y.2)) := by
  have ht0 := hrt
  have hth := ht.hs
  have hta := ht.an
  obtain ⟨_, _, _, _, rfl, _, _⟩ := hrt.hs.open
  obtain ⟨ada, cpa, ba, oa, aus, rfl, hada, hca, hra⟩ := hrt.ac.open
  refine cnx0 (vs := [_]) Tryz.func44 rfl rfl ?_
  all_goals refine tc_seq fun K1 hK1 => ?_; refine tc_region ?_; refine tl_e (e_box rfl rfl rfl) rfl (fun b1 _ => ?_); refine tl_e (e_allocN rfl) rfl (fun b2 _ => ?_); refine tl_nil ?_; ((refine hK1 ?_; try (clear hK1; clear K1)))
  all_goals refine tc_seq fun K2 hK2 => ?_; refine tc_lay ([(b2, .cells #[.slice none 0 0, .slice none 0 0] 83 (0, 0))]) (SB.s (by repeat constructor)) (fun wl1 hl1 => ?_); ((have hn1 : ¬ b1 = b2 := by have hh := hl1.nodup; simp only [List.map_cons, List.map_nil, List.nodup_cons, List.mem_cons, not_or, List.not_mem_nil, not_false_eq_true, and_true] at hh; omega))
  all_goals refine tc_region ?_; refine tl_q (y_field rfl) rfl ?_; ((refine tl_q (y_load1f rfl (hl1.at (by repeat constructor)) (MI.m (by repeat constructor)) (by first | (simp; done) | (simp; omega)) (by rfl)) rfl ?_))
  all_goals (refine tl_e (e_callX rfl (.cons rfl .nil) (fun w' hw' => (llist_c t.hs (by omega) _ w' (ht0.hs.fr (hw'.fr (w0 := w) (S := []) (MI.m (by repeat constructor))))).imp (val' := fun y : Option Addr × Nat => slV t.hs.length y) (p' := fun y w2 => RdI w2 (slV t.hs.length y) t.hs ∧ sepS (slV t.hs.length y) [b2]) id (fun _ => rfl) (fun _ h => h) (fun _ _ _ hp => ⟨hp.1, hp.2.sep hw'⟩))) rfl (fun y1 hy1 => ?_)); refine tl_q (y_build_g (by repeat constructor)) rfl ?_; refine tl_e (e_allocN rfl) rfl (fun b3 _ => ?_); refine tl_e (e_storeW rfl rfl (by repeat constructor) (by rfl) (by rfl) (two_ones rfl rfl)) rfl (fun _ _ => ?_); refine tl_nil ?_; ((refine hK2 ?_; try (clear hK2; clear K2)))
  all_goals refine tc_seq fun K3 hK3 => ?_; refine tc_seq fun K4 hK4 => ?_; refine tc_region ?_; refine tl_q (y_assign rfl) rfl ?_; refine tl_nil ?_; ((refine hK4 ?_; try (clear hK4; clear K4)))
  all_goals refine tc_block ?_
  all_goals (
   refine tc_loop (fun p : Nat × List Sv × OwnB × World => (p.1 ≤ t.ac.length ∧ okE 1 p.2.1 p.2.2.1) ∧ OKV 1 inE p.2.2.2 (b3 :: b2 :: (slE 29 svE p.2.1 p.2.2.1).map Prod.fst) p.2.1 (t.ac.take p.1)) (fun p => [(1, ptr b1), (2, ptr b2), (3, ptr b3), (4, vi p.1)]) (fun p => [(p.2.2.2, b3 :: b2 :: (slE 29 svE p.2.1 p.2.2.1).map Prod.fst), (y1.2, [b2]), (wl1, [b2]), (w, [])]) (fun p => (b3, .cells #[slV t.hs.length y1.1, ouV p.2.1.length p.2.2.1] 83 (0, 0)) :: (b2, .cells #[.slice none 0 0, .slice none 0 0] 83 (0, 0)) :: slE 29 svE p.2.1 p.2.2.1) (fun p => t.ac.length - p.1) ?_ ?_
   · exact tk_lay [(b3, .cells #[slV t.hs.length y1.1, .slice none 0 0] 83 (0, 0)), (b2, .cells #[.slice none 0 0, .slice none 0 0] 83 (0, 0))] (SB.s (by repeat constructor)) fun wl2 hl2 => tk_start (0, [], none, wl2) ⟨⟨Nat.zero_le _, rfl⟩, OKV.nil⟩ (.cons rfl (.cons rfl (.cons rfl (.cons rfl .nil)))) (fun _ h => by dsimp only; rw [slE_none]; exact h.subl (SB.s (by repeat constructor)) (SB.s (by repeat constructor)))
   · rintro ⟨n, us, oo, wz⟩ ⟨⟨hn, hok⟩, hu⟩
     dsimp only at hn hok hu ⊢
     have hul := hu.1
     rw [List.length_take_of_le hn] at hul
     all_goals refine tc_seq fun K5 hK5 => ?_; refine tc_seq fun K6 hK6 => ?_; refine tc_region ?_; refine tl_q (y_move rfl) rfl ?_; refine tl_q (y_field rfl) rfl ?_; ((refine tl_q (y_load1f rfl (hl1.at (by repeat constructor)) (MI.m (by repeat constructor)) (by first | (simp; done) | (simp; omega)) (by rfl)) rfl ?_))
     all_goals refine tl_q (y_len rfl) rfl ?_; refine tl_q (y_lss rfl rfl) rfl ?_; refine tl_nil ?_; ((refine hK6 ?_; try (clear hK6; clear K6)))
     all_goals (
      refine tc_cond rfl (fun hc => ?_) (fun hc => ?_)
      · try simp only [decide_eq_true_eq, decide_eq_false_iff_not, Int.not_lt, Int.not_le, Bool.not_eq_true', Bool.not_eq_false', Decidable.not_not, not_true_eq_false] at hc
        all_goals refine tc_skip ?_; ((refine hK5 ?_; try (clear hK5; clear K5)))
        all_goals refine tc_seq fun K7 hK7 => ?_; refine tc_block ?_; ((have hnB : n < t.ac.length := (by omega); have hal := ht.al n hnB; obtain ⟨adn, cpn, bn, on, hen, hadn, hcn⟩ := (hra w (Fr.refl _ _) n hnB).open inE_len 0))
        all_goals ((have hrn : ∀ w', Fr [] w w' → RdI w' (.slice adn (t.ac.getD n []).length cpn) (t.ac.getD n []) := fun w' f => by rw [← hen]; exact (hra w' f n hnB).toI))
        all_goals refine tc_drawS ((b3, .cells #[slV t.hs.length y1.1, ouV us.length oo] 83 (0, 0)) :: (b2, .cells #[.slice none 0 0, .slice none 0 0] 83 (0, 0)) :: []) (by kernel_rfl) ?_; refine tx_p 0 rfl (by kernel_rfl) (y_field rfl) rfl (fun _ _ _ h => h) (fun _ h => h.subl (SB.s (by repeat constructor)) (SB.s (by repeat constructor))) ?_; refine tx_qS 1 rfl (by kernel_rfl) (y_load1 rfl (by repeat constructor) (by rfl)) rfl (fun _ _ _ h => h) (fun _ h => h.subl (SB.s (by repeat constructor)) (SB.s (by repeat constructor))) ?_; refine tx_p 2 rfl (by kernel_rfl) (y_field rfl) rfl (fun _ _ _ h => h) (fun _ h => h.subl (SB.s (by repeat constructor)) (SB.s (by repeat constructor))) ?_; ((refine tx_qS 3 rfl (by kernel_rfl) (y_load1f rfl (hl1.at (by repeat constructor)) (MI.m (by repeat constructor)) (by first | (simp; done) | (simp; omega)) (by rfl)) rfl (fun _ _ _ h => h) (fun _ h => h.subl (SB.s (by repeat constructor)) (SB.s (by repeat constructor))) ?_))
        all_goals refine tx_p 4 rfl (by kernel_rfl) (y_move rfl) rfl (fun _ _ _ h => h) (fun _ h => h.subl (SB.s (by repeat constructor)) (SB.s (by repeat constructor))) ?_; refine tx_p 5 rfl (by kernel_rfl) (y_index rfl rfl (by omega) (hada (by omega))) rfl (fun _ _ _ h => h) (fun _ h => h.subl (SB.s (by repeat constructor)) (SB.s (by repeat constructor))) ?_; ((refine tx_qS 6 rfl (by kernel_rfl) (y_load1o (v := .slice adn (t.ac.getD n []).length cpn) rfl (fun w' hw' => by rw [show Int.toNat (n : Int) * 1 = n from by omega, ← hen]; exact hca w' (hw'.fr (w0 := w) (S := []) (MI.m (by repeat constructor))) n hnB)) rfl (fun _ _ _ h => h) (fun _ h => h.subl (SB.s (by repeat constructor)) (SB.s (by repeat constructor))) ?_))
        all_goals (refine tx_single 7 (by kernel_rfl) (to_e rfl rfl (e_callX rfl (.cons rfl .nil) (fun w' hw' => (llist_c (t.ac.getD n []) (by omega) _ w' (hrn w' (hw'.fr (w0 := w) (S := []) (MI.m (by repeat constructor))))).imp (val' := fun y : Option Addr × Nat => slV (t.ac.getD n []).length y) (p' := fun y w2 => RdI w2 (slV (t.ac.getD n []).length y) (t.ac.getD n []) ∧ sepS (slV (t.ac.getD n []).length y) (b3 :: b2 :: (slE 29 svE us oo).map Prod.fst)) id (fun _ => rfl) (fun _ h => h) (fun _ _ _ hp => ⟨hp.1, hp.2.sep hw'⟩))) (.inr ⟨fun _ _ h => h.subl (SB.s (by repeat constructor)) (SB.s (by repeat constructor)), fun _ h => h⟩) (fun y5 hy5 => ?_))); (refine tx_single 8 (by kernel_rfl) (to_e rfl rfl (e_bslice rfl (by (repeat (first | exact .nil | apply PV.one rfl rfl)); done) rfl rfl) (.inr ⟨fun _ _ h => h.subl (SB.s (by repeat constructor)) (SB.s (by repeat constructor)), fun _ h => h⟩) (fun b8 _ => ?_)))
        all_goals (refine tx_single 9 (by kernel_rfl) (to_e rfl rfl (e_appendE (enc := svE) (xs := us) (ys := [svS (t.ac.getD n []).length y5.1]) svE_len svE_one rfl rfl rfl hok (fun _ => by repeat constructor) (fun w' hw' => RdS.own0 svE_len hw' (by repeat constructor)) (by simp only [List.length_cons, List.length_nil]; omega) rfl) (.inr ⟨fun _ _ h => h.subl (SB.s (by repeat constructor)) (SB.s (by repeat constructor)), fun _ h => h⟩) (fun oo' hok' => ?_)))
        all_goals refine tx_p 10 rfl (by kernel_rfl) (y_field rfl) rfl (fun _ _ _ h => h) (fun _ h => h.subl (SB.s (by repeat constructor)) (SB.s (by repeat constructor))) ?_; refine tx_single 11 (by kernel_rfl) (to_e (S' := HG [] []) rfl rfl (e_store1 rfl rfl (by repeat constructor) (by repeat constructor) (by rfl) (by rfl)) (.inl (by kernel_rfl)) (fun _ _ => ?_)); refine tx_done (by kernel_rfl) ?_; ((refine hK7 ?_; try (clear hK7; clear K7)))
        all_goals refine tc_lay ((b3, .cells #[slV t.hs.length y1.1, ouV (us ++ [svS (t.ac.getD n []).length y5.1]).length oo'] 83 (0, 0)) :: (b2, .cells #[.slice none 0 0, .slice none 0 0] 83 (0, 0)) :: slE 29 svE (us ++ [svS (t.ac.getD n []).length y5.1]) oo') ((List.Sublist.refl _).cons _) (fun wl4 hl4 => ?_); refine tc_region ?_; refine tl_q (y_move rfl) rfl ?_; refine tl_q (y_add rfl rfl (by omega)) rfl ?_; refine tl_q (y_assign rfl) rfl ?_; refine tl_nil ?_
        all_goals (
         have hfz : Fr (b3 :: b2 :: (slE 29 svE us oo).map Prod.fst) wz wl4 := hl4.fr (w0 := wz) (MI.m (by repeat constructor))
         have hoz := hl4.ownsK ((List.Sublist.refl ((b3, .cells #[slV t.hs.length y1.1, ouV (us ++ [svS (t.ac.getD n []).length y5.1]).length oo'] 83 (0, 0)) :: (b2, .cells #[.slice none 0 0, .slice none 0 0] 83 (0, 0)) :: slE 29 svE (us ++ [svS (t.ac.getD n []).length y5.1]) oo')).cons _) (w0 := wz) (S := b3 :: b2 :: (slE 29 svE us oo).map Prod.fst) (MI.m (by repeat constructor))
         have hol : OKS 1 inE wl4 (((b3, .cells #[slV t.hs.length y1.1, ouV (us ++ [svS (t.ac.getD n []).length y5.1]).length oo'] 83 (0, 0)) :: (b2, .cells #[.slice none 0 0, .slice none 0 0] 83 (0, 0)) :: slE 29 svE (us ++ [svS (t.ac.getD n []).length y5.1]) oo').map Prod.fst) (svS (t.ac.getD n []).length y5.1).1 (t.ac.getD n []) := OKS.mk' inE_len (by decide) hl4 ((List.Sublist.refl _).cons _) (x2 := y5.2) (S0 := b3 :: b2 :: (slE 29 svE us oo).map Prod.fst) (MI.m (by repeat constructor)) hy5.1.2 (RdS.int.2 hy5.1.1)
         have htk := takeG_succ (d := ([] : List Int)) (l := t.ac) (n := n) hnB
         exact tk_round (n + 1, us ++ [svS (t.ac.getD n []).length y5.1], oo', wl4) ⟨⟨by dsimp only; omega, hok'⟩, by dsimp only; rw [htk]; exact (hu.step hfz hoz).snoc hol⟩ (by dsimp only; omega) (.cons rfl (.cons rfl (.cons rfl (.cons rfl .nil)))) (fun _ h => h.subl (SB.s (by repeat constructor)) (SB.s (by repeat constructor))))
      · try simp only [decide_eq_true_eq, decide_eq_false_iff_not, Int.not_lt, Int.not_le, Bool.not_eq_true', Bool.not_eq_false', Decidable.not_not, not_true_eq_false] at hc
        all_goals refine tc_exit ?_; ((refine hK3 ?_; try (clear hK3; clear K3)))
        all_goals refine tc_seq fun K8 hK8 => ?_; refine tc_region ?_; refine tl_q (y_loadW rfl (by repeat constructor) (by rfl)) rfl ?_; refine tl_e (e_storeW rfl rfl (by repeat constructor) (by rfl) (by rfl) (two_ones rfl rfl)) rfl (fun _ _ => ?_); refine tl_nil ?_; ((refine hK8 ?_; try (clear hK8; clear K8)))
        all_goals refine tc_ret ?_; (repeat (first | refine tk_then_ret ?_))
        all_goals (refine tk_ret rfl rfl (.cons (.agg inferInstance rfl (by repeat constructor) (by rfl)) .nil) ?_)
        all_goals (
         obtain rfl : n = t.ac.length := by omega
         rw [List.take_of_length_le (Nat.le_refl _)] at hu
         refine fun w' hw' => ⟨(y1.1, ouA oo), ?_, hw'.fr (w0 := w) (S := []) (MI.m (by repeat constructor)), hy1.1.1.toS.frS (hw'.fr (w0 := y1.2) (S := [b2]) (MI.m (by repeat constructor))) hy1.1.2 |>.toI, ?_⟩
         · show _ = Ending.returned (tV _ (slV t.ac.length (ouA oo)))
           rw [← hul]; rfl
         · have := RdLL.ofO hok hu hw' (hw'.fr (w0 := wz) (S := b3 :: b2 :: (slE 29 svE us oo).map Prod.fst) (MI.m (by repeat constructor))) (by repeat constructor)
           rw [hul] at this; exact this)))
def thinB (t : Tth) : Bool := (decide (t.hs.length ≤ 9) && decide (t.ac.length ≤ 5)) && (List.range t.ac.length).all fun j => decide ((t.ac.getD j []).length ≤ 15)
theorem thinB_ok {t : Tth} (h : thinB t = true) : ThT t := by
  unfold thinB at h
  rw [Bool.and_eq_true, Bool.and_eq_true] at h
  exact ⟨of_decide_eq_true h.1.1, of_decide_eq_true h.1.2, fun j hj => of_decide_eq_true (List.all_eq_true.1 h.2 j (List.mem_range.2 hj))⟩
theorem thinB_yes {t : Tth} (h1 : t.hs.length ≤ 9) (h2 : t.ac.length ≤ 5) (h3 : ∀ j, j < t.ac.length → (t.ac.getD j []).length ≤ 15) : thinB t = true := by
  unfold thinB
  rw [decide_eq_true h1, decide_eq_true h2]
  exact List.all_eq_true.2 fun j hj => decide_eq_true (h3 j (List.mem_range.1 hj))
theorem thinB_no {t : Tth} (h : ¬ (t.hs.length ≤ 9 ∧ t.ac.length ≤ 5)) : thinB t = false := by
  cases hq : thinB t with
  | false => rfl
  | true => exact absurd ⟨(thinB_ok hq).hs, (thinB_ok hq).an⟩ h
theorem thinB_no2 {t : Tth} {j : Nat} (hj : j < t.ac.length) (h : ¬ (t.ac.getD j []).length ≤ 15) : thinB t = false := by
  cases hq : thinB t with
  | false => rfl
  | true => exact absurd ((thinB_ok hq).al j hj) h
theorem thinTruth_c (t : Tth) (hvv avv : Value) (w : World) (hrt : RdTh w t hvv avv) :
    CnV Tryz.prog 42 #[tV hvv avv] w (.bool (thinB t)) := by
  obtain ⟨_, _, _, _, rfl, _, _⟩ := hrt.hs.open
  obtain ⟨ada, cpa, ba, oa, aus, rfl, hada, hca, hra⟩ := hrt.ac.open
  refine cnv (vs := [_]) Tryz.func42 rfl rfl ?_
  all_goals refine tc_seq fun K1 hK1 => ?_; refine tc_region ?_; refine tl_e (e_box rfl rfl rfl) rfl (fun b1 _ => ?_); refine tl_q (y_assign rfl) rfl ?_; refine tl_nil ?_; ((refine hK1 ?_; try (clear hK1; clear K1)))
  all_goals refine tc_seq fun K2 hK2 => ?_; refine tc_seq fun K3 hK3 => ?_; refine tc_lay ([]) (SB.s .nil) (fun wl1 hl1 => ?_); refine tc_region ?_; refine tl_q (y_field rfl) rfl ?_; refine tl_q (y_load1f rfl (hl1.at (by repeat constructor)) (MI.m (by repeat constructor)) (by simp) (by rfl)) rfl ?_; refine tl_q (y_len rfl) rfl ?_; refine tl_q (y_gtr rfl rfl) rfl ?_; refine tl_q (y_move rfl) rfl ?_; ((refine tl_gs rfl rfl (fun hc => ?_) (fun hc => ?_) <;> (try simp only [decide_eq_true_eq, decide_eq_false_iff_not, Int.not_lt, Int.not_le, Bool.not_eq_true', Bool.not_eq_false', Decidable.not_not, not_true_eq_false] at hc) <;> (first | refine tl_sk rfl rfl rfl rfl ?_ | refine tl_qg rfl rfl (y_field rfl) rfl ?_)))
  all_goals (first | refine tl_sk rfl rfl rfl rfl ?_ | refine tl_qg rfl rfl (y_load1f rfl (hl1.at (by repeat constructor)) (MI.m (by repeat constructor)) (by simp) (by rfl)) rfl ?_); (first | refine tl_sk rfl rfl rfl rfl ?_ | refine tl_qg rfl rfl (y_len rfl) rfl ?_); (first | refine tl_sk rfl rfl rfl rfl ?_ | refine tl_qg rfl rfl (y_gtr rfl rfl) rfl ?_); (first | refine tl_q (y_pick_t rfl rfl) rfl ?_ | refine tl_q (y_pick_f rfl rfl) rfl ?_); refine tl_nil ?_; ((refine hK3 ?_; try (clear hK3; clear K3)))
  all_goals (
   refine tc_cond rfl (fun hc => ?_) (fun hc => ?_)
   · try simp only [decide_eq_true_eq, decide_eq_false_iff_not, Int.not_lt, Int.not_le, Bool.not_eq_true', Bool.not_eq_false', Decidable.not_not, not_true_eq_false] at hc
     all_goals refine tc_seq fun K4 hK4 => ?_; refine tc_region ?_; refine tl_q (y_assign rfl) rfl ?_; refine tl_nil ?_; ((refine hK4 ?_; try (clear hK4; clear K4)))
     all_goals refine tc_ret ?_; (repeat (refine tk_then_ret ?_))
     all_goals (refine tk_ret rfl rfl (.cons (.tmp rfl) .nil) ?_)
     all_goals (
      first
      | (have hE := thinB_no (t := t) (by omega)
         rw [hE]
         exact fun w' hw' => ⟨rfl, hw'.fr (w0 := w) (S := []) (MI.m (by repeat constructor))⟩)
      | (have hE := thinB_no2 (t := t) hnB (by omega)
         rw [hE]
         exact fun w' hw' => ⟨rfl, hw'.fr (w0 := w) (S := []) (MI.m (by repeat constructor))⟩)
      | (have hE := thinB_yes (t := t) (by omega) (by omega) (fun j hj => hnj j (by omega))
         rw [hE]
         exact fun w' hw' => ⟨rfl, hw'.fr (w0 := w) (S := []) (MI.m (by repeat constructor))⟩))
   · try simp only [decide_eq_true_eq, decide_eq_false_iff_not, Int.not_lt, Int.not_le, Bool.not_eq_true', Bool.not_eq_false', Decidable.not_not, not_true_eq_false] at hc
     all_goals ((first | (exfalso; with_reducible exact btf hc) | skip))
     all_goals refine tc_skip ?_; ((refine hK2 ?_; try (clear hK2; clear K2)))
     all_goals refine tc_seq fun K5 hK5 => ?_; refine tc_seq fun K6 hK6 => ?_; refine tc_region ?_; refine tl_q (y_assign rfl) rfl ?_; refine tl_nil ?_; ((refine hK6 ?_; try (clear hK6; clear K6)))
     all_goals refine tc_block ?_
     all_goals (
      refine tc_loop (fun n : Nat => n ≤ t.ac.length ∧ ∀ j, j < n → (t.ac.getD j []).length ≤ 15) (fun n => [(1, ptr b1), (3, vi n)]) (fun _ => [(wl1, []), (w, [])]) (fun _ => []) (fun n => t.ac.length - n) ?_ ?_
      · exact tk_start 0 ⟨Nat.zero_le _, fun j hj => absurd hj (Nat.not_lt_zero j)⟩ (.cons rfl (.cons rfl .nil)) (fun _ h => h.subl (SB.s (by repeat constructor)) (SB.s (by repeat constructor)))
      · rintro n ⟨hn, hnj⟩
        all_goals refine tc_seq fun K7 hK7 => ?_; refine tc_seq fun K8 hK8 => ?_; refine tc_region ?_; refine tl_q (y_move rfl) rfl ?_; refine tl_q (y_field rfl) rfl ?_; refine tl_q (y_load1f rfl (hl1.at (by repeat constructor)) (MI.m (by repeat constructor)) (by simp) (by rfl)) rfl ?_; refine tl_q (y_len rfl) rfl ?_; refine tl_q (y_lss rfl rfl) rfl ?_; refine tl_nil ?_; ((refine hK8 ?_; try (clear hK8; clear K8)))
        all_goals (
         refine tc_cond rfl (fun hc => ?_) (fun hc => ?_)
         · try simp only [decide_eq_true_eq, decide_eq_false_iff_not, Int.not_lt, Int.not_le, Bool.not_eq_true', Bool.not_eq_false', Decidable.not_not, not_true_eq_false] at hc
           all_goals refine tc_skip ?_; ((refine hK7 ?_; try (clear hK7; clear K7)))
           all_goals refine tc_seq fun K9 hK9 => ?_; refine tc_block ?_; refine tc_seq fun K10 hK10 => ?_; ((have hnB : n < t.ac.length := (by omega); obtain ⟨adn, cpn, bn, on, hen, hadn, hcn⟩ := (hra w (Fr.refl _ _) n hnB).open inE_len 0))
           all_goals refine tc_region ?_; refine tl_q (y_field rfl) rfl ?_; refine tl_q (y_load1f rfl (hl1.at (by repeat constructor)) (MI.m (by repeat constructor)) (by simp) (by rfl)) rfl ?_; refine tl_q (y_move rfl) rfl ?_; refine tl_q (y_index rfl rfl (by omega) (hada (by omega))) rfl ?_; ((refine tl_q (y_load1o (v := .slice adn (t.ac.getD n []).length cpn) rfl (fun w' hw' => by rw [show Int.toNat (n : Int) * 1 = n from by omega, ← hen]; exact hca w' (hw'.fr (w0 := w) (S := []) (MI.m (by repeat constructor))) n hnB)) rfl ?_))
           all_goals refine tl_q (y_len rfl) rfl ?_; refine tl_q (y_gtr rfl rfl) rfl ?_; refine tl_nil ?_; ((refine hK10 ?_; try (clear hK10; clear K10)))
           all_goals (
            refine tc_cond rfl (fun hc => ?_) (fun hc => ?_)
            · try simp only [decide_eq_true_eq, decide_eq_false_iff_not, Int.not_lt, Int.not_le, Bool.not_eq_true', Bool.not_eq_false', Decidable.not_not, not_true_eq_false] at hc
              all_goals refine tc_seq fun K11 hK11 => ?_; refine tc_region ?_; refine tl_q (y_assign rfl) rfl ?_; refine tl_nil ?_; ((refine hK11 ?_; try (clear hK11; clear K11)))
              all_goals refine tc_ret ?_; (repeat (first | refine tk_then_ret ?_ | refine tk_block_ret ?_))
              all_goals (refine tk_ret rfl rfl (.cons (.tmp rfl) .nil) ?_)
              all_goals (
               first
               | (have hE := thinB_no (t := t) (by omega)
                  rw [hE]
                  exact fun w' hw' => ⟨rfl, hw'.fr (w0 := w) (S := []) (MI.m (by repeat constructor))⟩)
               | (have hE := thinB_no2 (t := t) hnB (by omega)
                  rw [hE]
                  exact fun w' hw' => ⟨rfl, hw'.fr (w0 := w) (S := []) (MI.m (by repeat constructor))⟩)
               | (have hE := thinB_yes (t := t) (by omega) (by omega) (fun j hj => hnj j (by omega))
                  rw [hE]
                  exact fun w' hw' => ⟨rfl, hw'.fr (w0 := w) (S := []) (MI.m (by repeat constructor))⟩))
            · try simp only [decide_eq_true_eq, decide_eq_false_iff_not, Int.not_lt, Int.not_le, Bool.not_eq_true', Bool.not_eq_false', Decidable.not_not, not_true_eq_false] at hc
              all_goals refine tc_skip ?_; ((refine hK9 ?_; try (clear hK9; clear K9)))
              all_goals refine tc_region ?_; refine tl_q (y_move rfl) rfl ?_; refine tl_q (y_add rfl rfl (by omega)) rfl ?_; refine tl_q (y_assign rfl) rfl ?_; refine tl_nil ?_
              all_goals (
               exact tk_round (n + 1) ⟨by omega, fun j hj => by rcases Nat.lt_succ_iff_lt_or_eq.1 hj with h | rfl; exact hnj j h; omega⟩ (by omega) (.cons rfl (.cons rfl .nil)) (fun _ h => h.subl (SB.s (by repeat constructor)) (SB.s (by repeat constructor)))))
         · try simp only [decide_eq_true_eq, decide_eq_false_iff_not, Int.not_lt, Int.not_le, Bool.not_eq_true', Bool.not_eq_false', Decidable.not_not, not_true_eq_false] at hc
           all_goals refine tc_exit ?_; ((refine hK5 ?_; try (clear hK5; clear K5)))
           all_goals refine tc_seq fun K12 hK12 => ?_; refine tc_region ?_; refine tl_q (y_assign rfl) rfl ?_; refine tl_nil ?_; ((refine hK12 ?_; try (clear hK12; clear K12)))
           all_goals refine tc_ret ?_; (repeat (first | refine tk_then_ret ?_))
           all_goals (refine tk_ret rfl rfl (.cons (.tmp rfl) .nil) ?_)
           all_goals (
            first
            | (have hE := thinB_no (t := t) (by omega)
               rw [hE]
               exact fun w' hw' => ⟨rfl, hw'.fr (w0 := w) (S := []) (MI.m (by repeat constructor))⟩)
            | (have hE := thinB_no2 (t := t) hnB (by omega)
               rw [hE]
               exact fun w' hw' => ⟨rfl, hw'.fr (w0 := w) (S := []) (MI.m (by repeat constructor))⟩)
            | (have hE := thinB_yes (t := t) (by omega) (by omega) (fun j hj => hnj j (by omega))
               rw [hE]
               exact fun w' hw' => ⟨rfl, hw'.fr (w0 := w) (S := []) (MI.m (by repeat constructor))⟩)))))
end Go.Sp
/-
  SampleTruth.
-/
namespace Go.Sp
open Go Go.Proofs
theorem RdLL.openV {α : Type} {k : Nat} {enc : α → List Value} {w : World} {n : Nat} {y : Option Addr × Nat} {xss : List (List α)} (h : RdLL k enc w (slV n y) xss) :
    ∃ b o, ∃ us : List Sv, (0 < xss.length → y.1 = some ⟨b, o, none⟩) ∧ (∀ w', Fr [] w w' → ∀ i, i < xss.length → w'.cell? ⟨b, o + i, none⟩ = some (us.getD i sv0).1) ∧ ∀ w', Fr [] w w' → ∀ i, i < xss.length → RdS k enc w' (us.getD i sv0).1 (xss.getD i []) := by
  obtain ⟨ad, cap, b, o, us, e, had, hc, hr⟩ := h.open
  injection e with e1 e2 e3
  subst e1
  exact ⟨b, o, us, had, hc, hr⟩
end Go.Sp
