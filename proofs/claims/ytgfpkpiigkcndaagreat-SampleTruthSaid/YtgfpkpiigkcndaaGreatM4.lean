
/-
  The law's helpers: samples for the program; the reference's Kept.
-/
import Derived.Test.YtgfpkpiigkcndaaGreatM3
set_option linter.unusedVariables false
set_option linter.unusedSimpArgs false
set_option linter.deprecated false
namespace Go.Sp
open Go Go.Proofs
theorem take_all2 {α : Type} {l : List α} {n : Nat} (h : l.length ≤ n) : l.take n = l := List.take_of_length_le h
set_option maxHeartbeats 4000000 in
theorem lawSample_c (s : Smp) (hf : Few s) (tv pv gv : Value) (w : World) (hr : RdSm w s tv pv gv) :
    CnX Tryz.prog 18 #[smV s tv pv gv] w [] (fun y : (Option Addr × Nat) × (Option Addr × Nat) × (Option Addr × Nat) => smV s (slV s.st.length y.1) (slV s.ps.length y.2.1) (slV s.sg.length y.2.2)) (fun y w' => RdSm w' s (slV s.st.length y.1) (slV s.ps.length y.2.1) (slV s.sg.length y.2.2)) := by
  have hr0 := hr
  have hft := hf.st
  have hfp := hf.ps
  have hfg := hf.sg
  obtain ⟨adt, cpt, bt, ot, rfl, hadt, hct⟩ := hr.st.open boE_len false
  obtain ⟨adp, cpp, bp, op, rfl, hadp, hcp⟩ := hr.ps.open psE_len pas0
  obtain ⟨adg, cpg, bg, og, rfl, hadg, hcg⟩ := hr.sg.open sgE_len sgt0
  refine cnx0 (vs := [_]) Tryz.func18 rfl rfl ?_
  all_goals refine tc_seq fun K1 hK1 => ?_; refine tc_region ?_; refine tl_e (e_box rfl rfl rfl) rfl (fun b1 _ => ?_); refine tl_e (e_allocN rfl) rfl (fun b2 _ => ?_); refine tl_nil ?_; ((refine hK1 ?_; try (clear hK1; clear K1)))
  all_goals (
   refine tc_join (fun q : Nat × Nat × Nat × List Value => s.st.length ≤ q.2.2.1) (fun q => [(1, ptr b1), (2, ptr b2), (3, ptr q.1)]) (fun _ => [(w, [])]) (fun q => [(q.1, .cells #[vi s.B, vi s.P, vi s.L, vi s.F, .slice (some ⟨q.2.1, 0, none⟩) s.st.length q.2.2.1, .slice none 0 0, .slice none 0 0] 36 (0, 0)), (q.2.1, .cells (s.st.flatMap boE ++ q.2.2.2).toArray 4 (0, 0)), (b2, .cells #[vi 0, vi 0, vi 0, vi 0, .slice none 0 0, .slice none 0 0, .slice none 0 0] 36 (0, 0)), (b1, .cells #[vi s.B, vi s.P, vi s.L, vi s.F, .slice adt s.st.length cpt, .slice adp s.ps.length cpp, .slice adg s.sg.length cpg] 26 (0, 0))]) ?_ ?_
   · skip
     all_goals refine tc_drawS ([(b2, .cells #[vi 0, vi 0, vi 0, vi 0, .slice none 0 0, .slice none 0 0, .slice none 0 0] 36 (0, 0)), (b1, .cells #[vi s.B, vi s.P, vi s.L, vi s.F, .slice adt s.st.length cpt, .slice adp s.ps.length cpp, .slice adg s.sg.length cpg] 26 (0, 0))]) (by kernel_rfl) ?_; refine tx_p 0 rfl (by kernel_rfl) (y_field rfl) rfl (fun _ _ _ h => h) (fun _ h => h.subl SB.s SB.s) ?_; refine tx_qS 1 rfl (by kernel_rfl) (y_load1 rfl (by repeat constructor) (by rfl)) rfl (fun _ _ _ h => h) (fun _ h => h.subl SB.s SB.s) ?_; refine tx_p 2 rfl (by kernel_rfl) (y_field rfl) rfl (fun _ _ _ h => h) (fun _ h => h.subl SB.s SB.s) ?_; refine tx_qS 3 rfl (by kernel_rfl) (y_load1 rfl (by repeat constructor) (by rfl)) rfl (fun _ _ _ h => h) (fun _ h => h.subl SB.s SB.s) ?_; refine tx_p 4 rfl (by kernel_rfl) (y_field rfl) rfl (fun _ _ _ h => h) (fun _ h => h.subl SB.s SB.s) ?_; refine tx_qS 5 rfl (by kernel_rfl) (y_load1 rfl (by repeat constructor) (by rfl)) rfl (fun _ _ _ h => h) (fun _ h => h.subl SB.s SB.s) ?_; refine tx_p 6 rfl (by kernel_rfl) (y_field rfl) rfl (fun _ _ _ h => h) (fun _ h => h.subl SB.s SB.s) ?_; refine tx_qS 7 rfl (by kernel_rfl) (y_load1 rfl (by repeat constructor) (by rfl)) rfl (fun _ _ _ h => h) (fun _ h => h.subl SB.s SB.s) ?_; refine tx_p 9 rfl (by kernel_rfl) (y_field rfl) rfl (fun _ _ _ h => h) (fun _ h => h.subl SB.s SB.s) ?_; refine tx_qS 10 rfl (by kernel_rfl) (y_load1 rfl (by repeat constructor) (by rfl)) rfl (fun _ _ _ h => h) (fun _ h => h.subl SB.s SB.s) ?_
     all_goals (
      refine tx_pair 8 13 (by kernel_rfl) ?_ ?_
      rotate_left
      focus (
       (refine to_e rfl rfl (e_allocN rfl) (.inr ⟨fun _ _ h => h.subl SB.s SB.s, fun _ h => h⟩) (fun b3 _ => ?_))
       all_goals ((refine tx_single 8 (by kernel_rfl) (to_e rfl rfl (e_bslice rfl (by (repeat (exact .nil)); done) rfl rfl) (.inr ⟨fun _ _ h => h.subl SB.s SB.s, fun _ h => h⟩) (fun b16 _ => ?_))))
       all_goals (refine tx_single 11 (by kernel_rfl) (to_e rfl rfl (e_append_own (old := []) (junk := []) rfl rfl rfl (by repeat constructor) rfl rfl (Nat.le_refl 0) (fun w' hw' => hr0.st.fr (hw'.fr (w0 := w) (S := []) MI.m)) (one_flat boE_one _) (by omega) rfl) (.inr ⟨fun _ _ h => h.subl SB.s SB.s, fun _ h => h⟩) (fun rt hrt => ?_))); refine tx_p 12 rfl (by kernel_rfl) (y_build_g (by repeat constructor)) rfl (fun _ _ _ h => h) (fun _ h => h.subl SB.s SB.s) ?_; refine tx_single 14 (by kernel_rfl) (to_e (S' := HG [] []) rfl rfl (e_storeW rfl rfl (by repeat constructor) (by rfl) (by rfl) (by simp [Value.oneCell'])) (.inl (by kernel_rfl)) (fun _ _ => ?_))
       all_goals refine tx_done (by kernel_rfl) ?_)
      rotate_right
      focus (
       (refine to_e rfl rfl (e_bslice rfl (by (repeat (exact .nil)); done) rfl rfl) (.inr ⟨fun _ _ h => h.subl SB.s SB.s, fun _ h => h⟩) (fun b16 _ => ?_))
       all_goals (
        refine tx_pair 11 13 (by kernel_rfl) ?_ ?_
        rotate_left
        focus (
         (refine to_e rfl rfl (e_allocN rfl) (.inr ⟨fun _ _ h => h.subl SB.s SB.s, fun _ h => h⟩) (fun b3 _ => ?_))
         all_goals (refine tx_single 11 (by kernel_rfl) (to_e rfl rfl (e_append_own (old := []) (junk := []) rfl rfl rfl (by repeat constructor) rfl rfl (Nat.le_refl 0) (fun w' hw' => hr0.st.fr (hw'.fr (w0 := w) (S := []) MI.m)) (one_flat boE_one _) (by omega) rfl) (.inr ⟨fun _ _ h => h.subl SB.s SB.s, fun _ h => h⟩) (fun rt hrt => ?_))); refine tx_p 12 rfl (by kernel_rfl) (y_build_g (by repeat constructor)) rfl (fun _ _ _ h => h) (fun _ h => h.subl SB.s SB.s) ?_; refine tx_single 14 (by kernel_rfl) (to_e (S' := HG [] []) rfl rfl (e_storeW rfl rfl (by repeat constructor) (by rfl) (by rfl) (by simp [Value.oneCell'])) (.inl (by kernel_rfl)) (fun _ _ => ?_))
         all_goals refine tx_done (by kernel_rfl) ?_)
        rotate_right
        focus (
         (refine to_e rfl rfl (e_append_own (old := []) (junk := []) rfl rfl rfl (by repeat constructor) rfl rfl (Nat.le_refl 0) (fun w' hw' => hr0.st.fr (hw'.fr (w0 := w) (S := []) MI.m)) (one_flat boE_one _) (by omega) rfl) (.inr ⟨fun _ _ h => h.subl SB.s SB.s, fun _ h => h⟩) (fun rt hrt => ?_))
         all_goals refine tx_p 12 rfl (by kernel_rfl) (y_build_g (by repeat constructor)) rfl (fun _ _ _ h => h) (fun _ h => h.subl SB.s SB.s) ?_; refine tx_single 13 (by kernel_rfl) (to_e rfl rfl (e_allocN rfl) (.inr ⟨fun _ _ h => h.subl SB.s SB.s, fun _ h => h⟩) (fun b3 _ => ?_)); refine tx_single 14 (by kernel_rfl) (to_e (S' := HG [] []) rfl rfl (e_storeW rfl rfl (by repeat constructor) (by rfl) (by rfl) (by simp [Value.oneCell'])) (.inl (by kernel_rfl)) (fun _ _ => ?_))
         all_goals refine tx_done (by kernel_rfl) ?_))))
     all_goals (
      refine tk_start (b3, rt.1, rt.2.1, rt.2.2) (by simpa using hrt.1) (.cons rfl (.cons rfl (.cons rfl .nil))) (fun _ h => ?_)
      rw [Nat.zero_add] at h
      first
      | (refine h.subl (SB.s ?_) (SB.s ?_)
         all_goals ((repeat constructor); done))
      | (refine HG.sw (h.subl (SB.s ?_) (SB.s ?_))
         all_goals ((repeat constructor); done)))
   · rintro ⟨b3, rb, rc, rj⟩ hrc
     dsimp only at hrc ⊢
     all_goals refine tc_seq fun K2 hK2 => ?_; refine tc_seq fun K3 hK3 => ?_; refine tc_region ?_; refine tl_q (y_assign rfl) rfl ?_; refine tl_nil ?_; ((refine hK3 ?_; try (clear hK3; clear K3)))
     all_goals refine tc_block ?_
     all_goals (
      refine tc_loop (fun p : Nat × OwnB => p.1 ≤ s.ps.length ∧ okE 5 (s.ps.take p.1) p.2) (fun p => [(1, ptr b1), (2, ptr b2), (3, ptr b3), (4, vi p.1)]) (fun _ => [(w, [])]) (fun p => (b3, .cells #[vi s.B, vi s.P, vi s.L, vi s.F, .slice (some ⟨rb, 0, none⟩) s.st.length rc, ouV (s.ps.take p.1).length p.2, .slice none 0 0] 36 (0, 0)) :: (rb, .cells (s.st.flatMap boE ++ rj).toArray 4 (0, 0)) :: (b2, .cells #[vi 0, vi 0, vi 0, vi 0, .slice none 0 0, .slice none 0 0, .slice none 0 0] 36 (0, 0)) :: (b1, .cells #[vi s.B, vi s.P, vi s.L, vi s.F, .slice adt s.st.length cpt, .slice adp s.ps.length cpp, .slice adg s.sg.length cpg] 26 (0, 0)) :: slE 92 psE (s.ps.take p.1) p.2) (fun p => s.ps.length - p.1) ?_ ?_
      · exact tk_start (0, none) ⟨Nat.zero_le _, rfl⟩ (.cons rfl (.cons rfl (.cons rfl (.cons rfl .nil)))) (fun _ h => by rw [slE_none]; exact h.subl SB.s SB.s)
      · rintro ⟨k, oo⟩ ⟨hk, hok⟩
        dsimp only at hk hok ⊢
        have hkl : (s.ps.take k).length ≤ k := by rw [List.length_take]; omega
        all_goals refine tc_seq fun K4 hK4 => ?_; refine tc_seq fun K5 hK5 => ?_; refine tc_region ?_; refine tl_q (y_move rfl) rfl ?_; refine tl_q (y_field rfl) rfl ?_; refine tl_q (y_load1 rfl (by repeat constructor) (by rfl)) rfl ?_; refine tl_q (y_len rfl) rfl ?_; refine tl_q (y_lss rfl rfl) rfl ?_; refine tl_nil ?_; ((refine hK5 ?_; try (clear hK5; clear K5)))
        all_goals (
         refine tc_cond rfl (fun hc => ?_) (fun hc => ?_)
         · try simp only [qn1, qn2, qn3, qn4, qn5, qn6, qn7, qn8] at hc
           all_goals refine tc_skip ?_; ((refine hK4 ?_; try (clear hK4; clear K4)))
           all_goals refine tc_seq fun K6 hK6 => ?_; refine tc_block ?_; refine tc_seq fun K7 hK7 => ?_; refine tc_region ?_; refine tl_q (y_field rfl) rfl ?_; refine tl_q (y_load1 rfl (by repeat constructor) (by rfl)) rfl ?_; refine tl_q (y_move rfl) rfl ?_; refine tl_q (y_index rfl rfl (by omega) (hadp (by omega))) rfl ?_; ((refine tl_q (y_loadNo (n := 5) (vs := [vi (s.ps.getD k pas0).b, vi (s.ps.getD k pas0).fr, vi (s.ps.getD k pas0).to, vi (s.ps.getD k pas0).lo, vi (s.ps.getD k pas0).hi]) rfl (fun w' hw' => by rw [show Int.toNat (k : Int) * 5 = k * 5 from by omega]; exact hcp w' [] (hw'.fr (w0 := w) (S := []) MI.m) (by simp) k (by omega))) rfl ?_))
           all_goals refine tl_e (e_allocN rfl) rfl (fun b5 _ => ?_); refine tl_e (e_storeW rfl rfl (by repeat constructor) (by rfl) (by rfl) (by simp [Value.oneCell'])) rfl (fun _ _ => ?_); refine tl_nil ?_; ((refine hK7 ?_; try (clear hK7; clear K7)))
           all_goals refine tc_region ?_; refine tl_q (y_field rfl) rfl ?_; refine tl_q (y_load1 rfl (by repeat constructor) (by rfl)) rfl ?_; refine tl_q (y_field rfl) rfl ?_; refine tl_q (y_load1 rfl (by repeat constructor) (by rfl)) rfl ?_; refine tl_q (y_field rfl) rfl ?_; refine tl_q (y_load1 rfl (by repeat constructor) (by rfl)) rfl ?_; refine tl_q (y_field rfl) rfl ?_; refine tl_q (y_load1 rfl (by repeat constructor) (by rfl)) rfl ?_; refine tl_q (y_field rfl) rfl ?_; refine tl_q (y_field rfl) rfl ?_; refine tl_q (y_load1 rfl (by repeat constructor) (by rfl)) rfl ?_; refine tl_q (y_field rfl) rfl ?_; refine tl_q (y_field rfl) rfl ?_; refine tl_q (y_load1 rfl (by repeat constructor) (by rfl)) rfl ?_; refine tl_q (y_build_g (by repeat constructor)) rfl ?_; refine tl_q (y_build_g (by repeat constructor)) rfl ?_; refine tl_e (e_bsliceG rfl (.agg rfl rfl .nil) rfl rfl) rfl (fun _ _ => ?_); ((refine tl_e (e_appendE (enc := psE) (xs := s.ps.take k) (ys := [s.ps.getD k pas0]) psE_len psE_one rfl rfl rfl hok (fun _ => by repeat constructor) (fun w' hw' => RdS.own0 psE_len hw' (by repeat constructor)) (by simp only [List.length_cons, List.length_nil]; omega) rfl) rfl (fun oo' hok' => ?_)))
           all_goals refine tl_q (y_field rfl) rfl ?_; refine tl_e (e_store1 rfl rfl (by repeat constructor) (by repeat constructor) (by rfl) (by rfl)) rfl (fun _ _ => ?_); refine tl_nil ?_; ((refine hK6 ?_; try (clear hK6; clear K6)))
           all_goals refine tc_region ?_; refine tl_q (y_move rfl) rfl ?_; refine tl_q (y_add rfl rfl (by omega)) rfl ?_; refine tl_q (y_assign rfl) rfl ?_; refine tl_nil ?_
           all_goals (
            have hs := takeG_succ (d := pas0) (l := s.ps) (n := k) (by omega)
            exact tk_round (k + 1, oo') ⟨by dsimp only; omega, by dsimp only; rw [hs]; exact hok'⟩ (by dsimp only; omega) (.cons rfl (.cons rfl (.cons rfl (.cons rfl .nil)))) (fun _ h => by dsimp only; rw [hs]; exact h.subl SB.s SB.s))
         · try simp only [qn1, qn2, qn3, qn4, qn5, qn6, qn7, qn8] at hc
           all_goals refine tc_exit ?_; ((refine hK2 ?_; try (clear hK2; clear K2)))
           all_goals refine tc_seq fun K8 hK8 => ?_; refine tc_seq fun K9 hK9 => ?_; refine tc_region ?_; refine tl_q (y_assign rfl) rfl ?_; refine tl_nil ?_; ((refine hK9 ?_; try (clear hK9; clear K9)))
           all_goals refine tc_block ?_
           all_goals (
            refine tc_loop (fun p : Nat × OwnB => p.1 ≤ s.sg.length ∧ okE 3 (s.sg.take p.1) p.2) (fun p => [(1, ptr b1), (2, ptr b2), (3, ptr b3), (6, vi p.1)]) (fun _ => [(w, [])]) (fun p => (b3, .cells #[vi s.B, vi s.P, vi s.L, vi s.F, .slice (some ⟨rb, 0, none⟩) s.st.length rc, ouV (s.ps.take k).length oo, ouV (s.sg.take p.1).length p.2] 36 (0, 0)) :: (rb, .cells (s.st.flatMap boE ++ rj).toArray 4 (0, 0)) :: (b2, .cells #[vi 0, vi 0, vi 0, vi 0, .slice none 0 0, .slice none 0 0, .slice none 0 0] 36 (0, 0)) :: (b1, .cells #[vi s.B, vi s.P, vi s.L, vi s.F, .slice adt s.st.length cpt, .slice adp s.ps.length cpp, .slice adg s.sg.length cpg] 26 (0, 0)) :: (slE 89 sgE (s.sg.take p.1) p.2 ++ slE 92 psE (s.ps.take k) oo)) (fun p => s.sg.length - p.1) ?_ ?_
            · exact tk_start (0, none) ⟨Nat.zero_le _, rfl⟩ (.cons rfl (.cons rfl (.cons rfl (.cons rfl .nil)))) (fun _ h => by rw [slE_none]; exact h.subl SB.s SB.s)
            · rintro ⟨j, oo2⟩ ⟨hj, hok2⟩
              dsimp only at hj hok2 ⊢
              have hjl : (s.sg.take j).length ≤ j := by rw [List.length_take]; omega
              all_goals refine tc_seq fun K10 hK10 => ?_; refine tc_seq fun K11 hK11 => ?_; refine tc_region ?_; refine tl_q (y_move rfl) rfl ?_; refine tl_q (y_field rfl) rfl ?_; refine tl_q (y_load1 rfl (by repeat constructor) (by rfl)) rfl ?_; refine tl_q (y_len rfl) rfl ?_; refine tl_q (y_lss rfl rfl) rfl ?_; refine tl_nil ?_; ((refine hK11 ?_; try (clear hK11; clear K11)))
              all_goals (
               refine tc_cond rfl (fun hc => ?_) (fun hc => ?_)
               · try simp only [qn1, qn2, qn3, qn4, qn5, qn6, qn7, qn8] at hc
                 all_goals refine tc_skip ?_; ((refine hK10 ?_; try (clear hK10; clear K10)))
                 all_goals refine tc_seq fun K12 hK12 => ?_; refine tc_block ?_; refine tc_seq fun K13 hK13 => ?_; refine tc_region ?_; refine tl_q (y_field rfl) rfl ?_; refine tl_q (y_load1 rfl (by repeat constructor) (by rfl)) rfl ?_; refine tl_q (y_move rfl) rfl ?_; refine tl_q (y_index rfl rfl (by omega) (hadg (by omega))) rfl ?_; ((refine tl_q (y_loadNo (n := 3) (vs := [vi (s.sg.getD j sgt0).b, vi (s.sg.getD j sgt0).h, .bool (s.sg.getD j sgt0).wh]) rfl (fun w' hw' => by rw [show Int.toNat (j : Int) * 3 = j * 3 from by omega]; exact hcg w' [] (hw'.fr (w0 := w) (S := []) MI.m) (by simp) j (by omega))) rfl ?_))
                 all_goals refine tl_e (e_allocN rfl) rfl (fun b7 _ => ?_); refine tl_e (e_storeW rfl rfl (by repeat constructor) (by rfl) (by rfl) (by simp [Value.oneCell'])) rfl (fun _ _ => ?_); refine tl_nil ?_; ((refine hK13 ?_; try (clear hK13; clear K13)))
                 all_goals refine tc_region ?_; refine tl_q (y_field rfl) rfl ?_; refine tl_q (y_load1 rfl (by repeat constructor) (by rfl)) rfl ?_; refine tl_q (y_field rfl) rfl ?_; refine tl_q (y_load1 rfl (by repeat constructor) (by rfl)) rfl ?_; refine tl_q (y_field rfl) rfl ?_; refine tl_q (y_load1 rfl (by repeat constructor) (by rfl)) rfl ?_; refine tl_q (y_field rfl) rfl ?_; refine tl_q (y_load1 rfl (by repeat constructor) (by rfl)) rfl ?_; refine tl_q (y_build_g (by repeat constructor)) rfl ?_; refine tl_e (e_bsliceG rfl (.agg rfl rfl .nil) rfl rfl) rfl (fun _ _ => ?_); ((refine tl_e (e_appendE (enc := sgE) (xs := s.sg.take j) (ys := [s.sg.getD j sgt0]) sgE_len sgE_one rfl rfl rfl hok2 (fun _ => by repeat constructor) (fun w' hw' => RdS.own0 sgE_len hw' (by repeat constructor)) (by simp only [List.length_cons, List.length_nil]; omega) rfl) rfl (fun oo' hok' => ?_)))
                 all_goals refine tl_q (y_field rfl) rfl ?_; refine tl_e (e_store1 rfl rfl (by repeat constructor) (by repeat constructor) (by rfl) (by rfl)) rfl (fun _ _ => ?_); refine tl_nil ?_; ((refine hK12 ?_; try (clear hK12; clear K12)))
                 all_goals refine tc_region ?_; refine tl_q (y_move rfl) rfl ?_; refine tl_q (y_add rfl rfl (by omega)) rfl ?_; refine tl_q (y_assign rfl) rfl ?_; refine tl_nil ?_
                 all_goals (
                  have hs := takeG_succ (d := sgt0) (l := s.sg) (n := j) (by omega)
                  exact tk_round (j + 1, oo') ⟨by dsimp only; omega, by dsimp only; rw [hs]; exact hok'⟩ (by dsimp only; omega) (.cons rfl (.cons rfl (.cons rfl (.cons rfl .nil)))) (fun _ h => by dsimp only; rw [hs]; exact h.subl SB.s SB.s))
               · try simp only [qn1, qn2, qn3, qn4, qn5, qn6, qn7, qn8] at hc
                 all_goals refine tc_exit ?_; ((refine hK8 ?_; try (clear hK8; clear K8)))
                 all_goals refine tc_seq fun K14 hK14 => ?_; refine tc_region ?_; refine tl_q (y_loadW rfl (by repeat constructor) (by rfl)) rfl ?_; refine tl_e (e_storeW rfl rfl (by repeat constructor) (by rfl) (by rfl) (smV_ones (s := s) rfl rfl rfl)) rfl (fun _ _ => ?_); refine tl_nil ?_; ((refine hK14 ?_; try (clear hK14; clear K14)))
                 all_goals refine tc_ret ?_; (repeat (first | refine tk_then_ret ?_))
                 all_goals (refine tk_ret rfl rfl (.cons (.agg inferInstance rfl (by repeat constructor) (by rfl)) .nil) ?_)
                 all_goals (
                  have e1 := take_all2 (l := s.ps) (n := k) (by omega)
                  have e2 := take_all2 (l := s.sg) (n := j) (by omega)
                  refine fun w' hw' => ?_
                  have h1 := RdS.ofO psE_len hok hw' (by repeat constructor)
                  have h2 := RdS.ofO sgE_len hok2 hw' (by repeat constructor)
                  have h3 := RdS.own (xs := s.st) (cap := rc) (junk := rj) boE_len hw' (b := rb) (by repeat constructor)
                  rw [e1] at h1 ⊢
                  rw [e2] at h2 ⊢
                  exact ⟨((some ⟨rb, 0, none⟩, rc), ouA oo, ouA oo2), rfl, hw'.fr (w0 := w) (S := []) MI.m, h3, h1, h2⟩))))))
end Go.Sp
/-
  What is so of a bottle depends on its own entries alone.
-/
namespace Go.Sp
open Go Go.Proofs
abbrev psO (s : Smp) (b : Int) : List Pas := s.ps.filter fun p => decide (p.b = b)
abbrev sgO (s : Smp) (b : Int) : List Sgt := s.sg.filter fun g => decide (g.b = b)
/-- Two samples are the same as to a bottle. -/
structure SamB (s s' : Smp) (b : Int) : Prop where
  L : s.L = s'.L
  F : s.F = s'.F
  st : s.st = s'.st
  ps : psO s b = psO s' b
  sg : sgO s b = sgO s' b
def zStp (b h : Int) (acc : Option Int) (q : Pas × Int) : Option Int := match acc with
  | none => none
  | some a => if q.1.b = b ∧ q.2 = h then (if q.1.fr = a then some q.1.to else none) else some a
theorem zStp_no {b h : Int} {acc : Option Int} {q : Pas × Int} (hq : ¬ q.1.b = b) : zStp b h acc q = acc := by
  cases acc with
  | none => rfl
  | some a =>
    show (if q.1.b = b ∧ q.2 = h then (if q.1.fr = a then some q.1.to else none) else some a) = some a
    exact if_neg (fun g => hq g.1)
theorem zStp_filt (b h : Int) : ∀ (l : List (Pas × Int)) (acc : Option Int), l.foldl (zStp b h) acc = (l.filter fun q => decide (q.1.b = b)).foldl (zStp b h) acc
  | [], _ => rfl
  | q :: l, acc => by
    rw [List.foldl_cons, List.filter_cons]
    by_cases hq : q.1.b = b
    · rw [if_pos (by simpa using hq), List.foldl_cons]; exact zStp_filt b h l _
    · rw [if_neg (by simpa using hq), zStp_no hq]; exact zStp_filt b h l _
theorem pasN_fold (s : Smp) (b : Int) (ts : List Int) (hts : ts.length = s.ps.length) (h a0 : Int) : ∀ n, n ≤ s.ps.length → pasN s b ts h a0 n = ((s.ps.zip ts).take n).foldl (zStp b h) (some a0)
  | 0, _ => rfl
  | n + 1, hn => by
    have hz : n < (s.ps.zip ts).length := by rw [List.length_zip]; omega
    have e : (s.ps.zip ts).take (n + 1) = (s.ps.zip ts).take n ++ [(s.ps.getD n pas0, ts.getD n 0)] := by
      rw [List.take_succ, List.getElem?_eq_getElem hz]
      simp [List.getElem?_eq_getElem (show n < s.ps.length by omega), List.getElem?_eq_getElem (show n < ts.length by omega)]
    rw [pasN, e, List.foldl_append, ← pasN_fold s b ts hts h a0 n (by omega)]
    cases pasN s b ts h a0 n <;> rfl
def zch (F b : Int) (z : List (Pas × Int)) : Nat → Option (List Int × Int)
  | 0 => some ([], F)
  | h + 1 => match zch F b z h with
    | none => none
    | some (c, a) => match z.foldl (zStp b h) (some a) with
      | none => none
      | some a' => some (c ++ [a'], a')
abbrev zOwn (b : Int) (ps : List Pas) (ts : List Int) : List (Pas × Int) := (ps.zip ts).filter fun q => decide (q.1.b = b)
theorem chN_z (s : Smp) (b : Int) (ts : List Int) (hts : ts.length = s.ps.length) : ∀ n, chN s b ts n = zch s.F b (zOwn b s.ps ts) n
  | 0 => rfl
  | n + 1 => by
    rw [chN, zch, chN_z s b ts hts n]
    cases zch s.F b (zOwn b s.ps ts) n with
    | none => rfl
    | some q =>
      obtain ⟨c, a⟩ := q
      simp only
      rw [pasN_fold s b ts hts n a _ (Nat.le_refl _), List.take_of_length_le (by rw [List.length_zip]; omega), zStp_filt]
      rfl
def zchF (L F b : Int) (z : List (Pas × Int)) : Option (List Int) := (zch F b z (L + 1).toNat).map fun q => padC q.1
theorem genT_pre (b : Int) : ∀ (ps : List Pas) (pre : List Int), genT b ps pre = (genT b ps []).map fun x => pre ++ x
  | [], pre => by simp [genT]
  | p :: ps, pre => by
    rw [genT, genT]
    split
    · rw [List.map_flatMap]
      refine congrArg (fun f => List.flatMap f _) (funext fun j => ?_)
      rw [genT_pre b ps (pre ++ [_]), genT_pre b ps ([] ++ [_]), List.map_map]
      refine List.map_congr_left fun x _ => ?_
      simp
    · rw [genT_pre b ps (pre ++ [_]), genT_pre b ps ([] ++ [_]), List.map_map]
      refine List.map_congr_left fun x _ => ?_
      simp
def zAll (b : Int) (ps : List Pas) : List (List (Pas × Int)) := (genT b ps []).map (zOwn b ps)
theorem zAll_own {b : Int} {p : Pas} {ps : List Pas} (h : p.b = b) : zAll b (p :: ps) = (List.range (p.hi - p.lo + 1).toNat).flatMap fun (j : Nat) => (zAll b ps).map fun z => (p, p.lo + (j : Int)) :: z := by
  unfold zAll
  rw [genT, if_pos h, List.map_flatMap]
  refine congrArg (fun f => List.flatMap f _) (funext fun j => ?_)
  rw [genT_pre, List.map_map, List.map_map]
  refine List.map_congr_left fun x _ => ?_
  simp [zOwn, h]
theorem zAll_oth {b : Int} {p : Pas} {ps : List Pas} (h : ¬ p.b = b) : zAll b (p :: ps) = zAll b ps := by
  unfold zAll
  rw [genT, if_neg h, genT_pre, List.map_map]
  refine List.map_congr_left fun x _ => ?_
  simp [zOwn, h]
theorem chF_z {s : Smp} {b : Int} {ts : List Int} (hts : ts.length = s.ps.length) : chF s b ts = zchF s.L s.F b (zOwn b s.ps ts) := by
  unfold chF zchF
  rw [chN_z s b ts hts]
theorem seen_own (s : Smp) (b h : Int) (x : Bool) : seenB s b h x = (sgO s b).all (sgB b h x) := by
  unfold seenB sgO
  rw [List.all_filter]
  refine congrArg (fun f => s.sg.all f) (funext fun g => ?_)
  unfold sgB
  by_cases hb : g.b = b
  · rw [decide_eq_true hb]; rfl
  · rw [decide_eq_true hb, decide_eq_false hb]; rfl
theorem SamB.seen {s s' : Smp} {b : Int} (h : SamB s s' b) : seenB s b = seenB s' b := funext fun hr => funext fun x => by rw [seen_own, seen_own, h.sg]
theorem SamB.step {s s' : Smp} {b : Int} (h : SamB s s' b) : stepN s b = stepN s' b := funext fun hr => funext fun st => funext fun x => funext fun n => by
  unfold stepN stp1
  rw [h.seen]
theorem SamB.stB {s s' : Smp} {b : Int} (h : SamB s s' b) : stB s = stB s' := funext fun c => funext fun hr => by unfold Go.Sp.stB; rw [h.st]
theorem SamB.rst {s s' : Smp} {b : Int} (h : SamB s s' b) (c : List Int) : ∀ k, rstF s b c k = rstF s' b c k
  | 0 => funext fun x => by rw [rstF, rstF]
  | k + 1 => funext fun x => by
    rw [rstF, rstF, SamB.rst h c k]
    show minP (stepN s b _ _ x 4) _ (stepN s b _ _ x 4).length = minP (stepN s' b _ _ x 4) _ (stepN s' b _ _ x 4).length
    rw [h.step, h.stB, h.L]
theorem SamB.can {s s' : Smp} {b : Int} (h : SamB s s' b) : canF s b = canF s' b := funext fun c => by unfold canF; rw [h.rst, h.L]
theorem SamB.on {s s' : Smp} {b : Int} (h : SamB s s' b) (c : List Int) : onL s b c = onL s' b c := funext fun hr => funext fun x => funext fun n => by
  unfold onL
  show ((stepN s b _ _ x 4).take n).filter _ = ((stepN s' b _ _ x 4).take n).filter _
  rw [h.rst, h.step, h.stB, h.L]
theorem SamB.cnd {s s' : Smp} {b : Int} (h : SamB s s' b) (c : List Int) : cnd s b c = cnd s' b c := funext fun hr => funext fun now => by
  show (now.flatMap fun x => onL s b c hr x (stepN s b hr (Go.Sp.stB s c hr) x 4).length) = (now.flatMap fun x => onL s' b c hr x (stepN s' b hr (Go.Sp.stB s' c hr) x 4).length)
  rw [h.on, h.step, h.stB]
theorem SamB.now {s s' : Smp} {b : Int} (h : SamB s s' b) (c : List Int) : ∀ n, nowN s b c n = nowN s' b c n
  | 0 => rfl
  | n + 1 => by
    rw [nowN, nowN, SamB.now h c n]
    exact congrArg (fun f => ddB ((f n (nowN s' b c n)).map Prod.fst)) (h.cnd c)
theorem SamB.opn {s s' : Smp} {b : Int} (h : SamB s s' b) (c : List Int) : opnL s b c = opnL s' b c := by
  have e : opnH s b c = opnH s' b c := funext fun n => by
    unfold opnH
    rw [h.now c n]
    exact congrArg (fun f => (f n (nowN s' b c n)).any fun y => decide (y.2 = 1)) (h.cnd c)
  show outN s b c _ _ = outN s' b c _ _
  unfold outN
  rw [e, h.L]
end Go.Sp
/-
  The reference of samples: acts, sights, lists of hours, holders.
-/
namespace Go.Sp
open Go Go.Proofs
def acY (x : Bool) (a : Int) : Bool := if a = 1 then true else if a = 2 then false else if a = 3 then false else x
def acIs (x st : Bool) (a : Int) : Bool := if a = 1 then !x else if a = 2 then x && st else if a = 3 then !x && st else true
theorem acY_nat (x : Bool) {n : Nat} (h : n < 4) : acY x n = actY x n := by
  match n, h with
  | 0, _ => rfl
  | 1, _ => rfl
  | 2, _ => rfl
  | 3, _ => rfl
theorem acIs_nat (x st : Bool) {n : Nat} (h : n < 4) : acIs x st n = actIs x st n := by
  match n, h with
  | 0, _ => rfl
  | 1, _ => rfl
  | 2, _ => rfl
  | 3, _ => rfl
theorem acted_c (x st : Bool) (a : Int) (w : World) : CnV Tryz.prog 74 #[.bool x, .bool st, vi a] w (.tuple #[.bool (acY x a), .bool (acIs x st a)]) := by
  refine cnv (vs := [_, _, _]) Tryz.func74 rfl rfl ?_
  all_goals refine tc_seq fun K1 hK1 => ?_; refine tc_region ?_; refine tl_q (y_assign rfl) rfl ?_; refine tl_q (y_assign rfl) rfl ?_; refine tl_nil ?_; ((refine hK1 ?_; try (clear hK1; clear K1)))
  all_goals refine tc_seq fun K2 hK2 => ?_; refine tc_seq fun K3 hK3 => ?_; refine tc_region ?_; refine tl_q (y_move rfl) rfl ?_; refine tl_nil ?_; ((refine hK3 ?_; try (clear hK3; clear K3)))
  all_goals refine tc_block ?_; refine tc_seq fun K4 hK4 => ?_; refine tc_region ?_; refine tl_q (y_eql rfl rfl) rfl ?_; refine tl_q (y_assign rfl) rfl ?_; refine tl_nil ?_; ((refine hK4 ?_; try (clear hK4; clear K4)))
  all_goals (
   refine tc_cond rfl (fun hc => ?_) (fun hc => ?_)
   · try simp only [qn1, qn2, qn3, qn4, qn5, qn6, qn7, qn8] at hc
     all_goals refine tc_seq fun K5 hK5 => ?_; refine tc_region ?_; refine tl_q (y_move rfl) rfl ?_; refine tl_q (y_not rfl) rfl ?_; refine tl_q (y_assign rfl) rfl ?_; refine tl_q (y_assign rfl) rfl ?_; refine tl_nil ?_; ((refine hK5 ?_; try (clear hK5; clear K5)))
     all_goals refine tc_ret ?_; (repeat (first | refine tk_then_ret ?_ | refine tk_block_ret ?_))
     all_goals (refine tk_ret rfl rfl (.cons (.tmp rfl) (.cons (.tmp rfl) .nil)) ?_)
     all_goals (
      refine fun w' hw' => ⟨?_, hw'.fr (by simp)⟩
      unfold acY acIs
      first
      | (rw [if_pos (by omega), if_pos (by omega)]; cases x <;> cases st <;> rfl)
      | (rw [if_neg (by omega), if_pos (by omega), if_neg (by omega), if_pos (by omega)]; cases x <;> cases st <;> simp_all <;> rfl)
      | (rw [if_neg (by omega), if_neg (by omega), if_pos (by omega), if_neg (by omega), if_neg (by omega), if_pos (by omega)]; cases x <;> cases st <;> simp_all <;> rfl)
      | (rw [if_neg (by omega), if_neg (by omega), if_neg (by omega), if_neg (by omega), if_neg (by omega), if_neg (by omega)]; rfl))
   · try simp only [qn1, qn2, qn3, qn4, qn5, qn6, qn7, qn8] at hc
     all_goals refine tc_seq fun K6 hK6 => ?_; refine tc_region ?_; refine tl_q (y_eql rfl rfl) rfl ?_; refine tl_q (y_assign rfl) rfl ?_; refine tl_nil ?_; ((refine hK6 ?_; try (clear hK6; clear K6)))
     all_goals (
      refine tc_cond rfl (fun hc => ?_) (fun hc => ?_)
      · try simp only [qn1, qn2, qn3, qn4, qn5, qn6, qn7, qn8] at hc
        all_goals refine tc_seq fun K7 hK7 => ?_; refine tc_region ?_; refine tl_q (y_move rfl) rfl ?_; refine tl_q (y_move rfl) rfl ?_; ((refine tl_gs rfl rfl (fun hc => ?_) (fun hc => ?_) <;> (try simp only [qn1, qn2, qn3, qn4, qn5, qn6, qn7, qn8] at hc) <;> (first | refine tl_sk rfl rfl rfl rfl ?_ | refine tl_qg rfl rfl (y_move rfl) rfl ?_)))
        all_goals (first | refine tl_q (y_pick_t rfl rfl) rfl ?_ | refine tl_q (y_pick_f rfl rfl) rfl ?_); refine tl_q (y_assign rfl) rfl ?_; refine tl_q (y_assign rfl) rfl ?_; refine tl_nil ?_; ((refine hK7 ?_; try (clear hK7; clear K7)))
        all_goals refine tc_ret ?_; (repeat (first | refine tk_then_ret ?_ | refine tk_block_ret ?_))
        all_goals (refine tk_ret rfl rfl (.cons (.tmp rfl) (.cons (.tmp rfl) .nil)) ?_)
        all_goals (
         refine fun w' hw' => ⟨?_, hw'.fr (by simp)⟩
         unfold acY acIs
         first
         | (rw [if_pos (by omega), if_pos (by omega)]; cases x <;> cases st <;> rfl)
         | (rw [if_neg (by omega), if_pos (by omega), if_neg (by omega), if_pos (by omega)]; cases x <;> cases st <;> simp_all <;> rfl)
         | (rw [if_neg (by omega), if_neg (by omega), if_pos (by omega), if_neg (by omega), if_neg (by omega), if_pos (by omega)]; cases x <;> cases st <;> simp_all <;> rfl)
         | (rw [if_neg (by omega), if_neg (by omega), if_neg (by omega), if_neg (by omega), if_neg (by omega), if_neg (by omega)]; rfl))
      · try simp only [qn1, qn2, qn3, qn4, qn5, qn6, qn7, qn8] at hc
        all_goals refine tc_seq fun K8 hK8 => ?_; refine tc_region ?_; refine tl_q (y_eql rfl rfl) rfl ?_; refine tl_q (y_assign rfl) rfl ?_; refine tl_nil ?_; ((refine hK8 ?_; try (clear hK8; clear K8)))
        all_goals (
         refine tc_cond rfl (fun hc => ?_) (fun hc => ?_)
         · try simp only [qn1, qn2, qn3, qn4, qn5, qn6, qn7, qn8] at hc
           all_goals refine tc_seq fun K9 hK9 => ?_; refine tc_region ?_; refine tl_q (y_move rfl) rfl ?_; refine tl_q (y_not rfl) rfl ?_; refine tl_q (y_move rfl) rfl ?_; ((refine tl_gs rfl rfl (fun hc => ?_) (fun hc => ?_) <;> (try simp only [qn1, qn2, qn3, qn4, qn5, qn6, qn7, qn8] at hc) <;> (first | refine tl_sk rfl rfl rfl rfl ?_ | refine tl_qg rfl rfl (y_move rfl) rfl ?_)))
           all_goals (first | refine tl_q (y_pick_t rfl rfl) rfl ?_ | refine tl_q (y_pick_f rfl rfl) rfl ?_); refine tl_q (y_assign rfl) rfl ?_; refine tl_q (y_assign rfl) rfl ?_; refine tl_nil ?_; ((refine hK9 ?_; try (clear hK9; clear K9)))
           all_goals refine tc_ret ?_; (repeat (first | refine tk_then_ret ?_ | refine tk_block_ret ?_))
           all_goals (refine tk_ret rfl rfl (.cons (.tmp rfl) (.cons (.tmp rfl) .nil)) ?_)
           all_goals (
            refine fun w' hw' => ⟨?_, hw'.fr (by simp)⟩
            unfold acY acIs
            first
            | (rw [if_pos (by omega), if_pos (by omega)]; cases x <;> cases st <;> rfl)
            | (rw [if_neg (by omega), if_pos (by omega), if_neg (by omega), if_pos (by omega)]; cases x <;> cases st <;> simp_all <;> rfl)
            | (rw [if_neg (by omega), if_neg (by omega), if_pos (by omega), if_neg (by omega), if_neg (by omega), if_pos (by omega)]; cases x <;> cases st <;> simp_all <;> rfl)
            | (rw [if_neg (by omega), if_neg (by omega), if_neg (by omega), if_neg (by omega), if_neg (by omega), if_neg (by omega)]; rfl))
         · try simp only [qn1, qn2, qn3, qn4, qn5, qn6, qn7, qn8] at hc
           all_goals refine tc_skip ?_; ((refine hK2 ?_; try (clear hK2; clear K2)))
           all_goals refine tc_seq fun K10 hK10 => ?_; refine tc_region ?_; refine tl_q (y_move rfl) rfl ?_; refine tl_q (y_assign rfl) rfl ?_; refine tl_q (y_assign rfl) rfl ?_; refine tl_nil ?_; ((refine hK10 ?_; try (clear hK10; clear K10)))
           all_goals refine tc_ret ?_; (repeat (first | refine tk_then_ret ?_))
           all_goals (refine tk_ret rfl rfl (.cons (.tmp rfl) (.cons (.tmp rfl) .nil)) ?_)
           all_goals (
            refine fun w' hw' => ⟨?_, hw'.fr (by simp)⟩
            unfold acY acIs
            first
            | (rw [if_pos (by omega), if_pos (by omega)]; cases x <;> cases st <;> rfl)
            | (rw [if_neg (by omega), if_pos (by omega), if_neg (by omega), if_pos (by omega)]; cases x <;> cases st <;> simp_all <;> rfl)
            | (rw [if_neg (by omega), if_neg (by omega), if_pos (by omega), if_neg (by omega), if_neg (by omega), if_pos (by omega)]; cases x <;> cases st <;> simp_all <;> rfl)
            | (rw [if_neg (by omega), if_neg (by omega), if_neg (by omega), if_neg (by omega), if_neg (by omega), if_neg (by omega)]; rfl)))))
theorem sgB_no {b h : Int} {x : Bool} {g : Sgt} (hg : sgB b h x g = false) : g.b = b ∧ g.h = h ∧ g.wh = x := by
  unfold sgB at hg
  simp only [Bool.or_eq_false_iff, decide_eq_false_iff_not, Decidable.not_not, bne_eq_false_iff_eq] at hg
  exact hg
theorem agrees_c (s : Smp) (hf : s.sg.length ≤ 9) (b h : Int) (x : Bool) (tv pv gv : Value) (w : World) (hr : RdS 3 sgE w gv s.sg) : CnV Tryz.prog 75 #[smV s tv pv gv, vi b, vi h, .bool x] w (.bool (seenB s b h x)) := by
  obtain ⟨adg, cpg, bg, og, rfl, hadg, hcg⟩ := hr.open sgE_len sgt0
  refine cnv (vs := [_, _, _, _]) Tryz.func75 rfl rfl ?_
  all_goals refine tc_seq fun K1 hK1 => ?_; refine tc_region ?_; refine tl_e (e_box rfl rfl rfl) rfl (fun b4 _ => ?_); refine tl_q (y_assign rfl) rfl ?_; refine tl_nil ?_; ((refine hK1 ?_; try (clear hK1; clear K1)))
  all_goals refine tc_seq fun K2 hK2 => ?_; refine tc_seq fun K3 hK3 => ?_; refine tc_region ?_; refine tl_q (y_assign rfl) rfl ?_; refine tl_nil ?_; ((refine hK3 ?_; try (clear hK3; clear K3)))
  all_goals refine tc_block ?_
  all_goals (
   refine tc_loop (fun j : Nat => j ≤ s.sg.length ∧ ∀ i, i < j → sgB b h x (s.sg.getD i sgt0) = true) (fun j => [(1, vi b), (2, vi h), (3, .bool x), (4, ptr b4), (9, vi j)]) (fun _ => [(w, [])]) (fun _ => [(b4, .cells #[vi s.B, vi s.P, vi s.L, vi s.F, tv, pv, .slice adg s.sg.length cpg] 26 (0, 0))]) (fun j => s.sg.length - j) ?_ ?_
   · exact tk_start 0 ⟨Nat.zero_le _, fun i hi => absurd hi (Nat.not_lt_zero i)⟩ (.cons rfl (.cons rfl (.cons rfl (.cons rfl (.cons rfl .nil))))) (fun _ h => h.subl SB.s SB.s)
   · rintro j ⟨hj, hall⟩
     all_goals refine tc_seq fun K4 hK4 => ?_; refine tc_seq fun K5 hK5 => ?_; refine tc_region ?_; refine tl_q (y_move rfl) rfl ?_; refine tl_q (y_field rfl) rfl ?_; refine tl_q (y_load1 rfl (by repeat constructor) (by rfl)) rfl ?_; refine tl_q (y_len rfl) rfl ?_; refine tl_q (y_lss rfl rfl) rfl ?_; refine tl_nil ?_; ((refine hK5 ?_; try (clear hK5; clear K5)))
     all_goals (
      refine tc_cond rfl (fun hc => ?_) (fun hc => ?_)
      · try simp only [qn1, qn2, qn3, qn4, qn5, qn6, qn7, qn8] at hc
        all_goals refine tc_skip ?_; ((refine hK4 ?_; try (clear hK4; clear K4)))
        all_goals refine tc_seq fun K6 hK6 => ?_; refine tc_block ?_; refine tc_seq fun K7 hK7 => ?_; refine tc_region ?_; refine tl_q (y_field rfl) rfl ?_; refine tl_q (y_load1 rfl (by repeat constructor) (by rfl)) rfl ?_; refine tl_q (y_move rfl) rfl ?_; refine tl_q (y_index rfl rfl (by omega) (hadg (by omega))) rfl ?_; ((refine tl_q (y_loadNo (n := 3) (vs := [vi (s.sg.getD j sgt0).b, vi (s.sg.getD j sgt0).h, .bool (s.sg.getD j sgt0).wh]) rfl (fun w' hw' => by rw [show Int.toNat (j : Int) * 3 = j * 3 from by omega]; exact hcg w' [] (hw'.fr (w0 := w) (S := []) MI.m) (by simp) j (by omega))) rfl ?_))
        all_goals refine tl_e (e_allocN rfl) rfl (fun b10 _ => ?_); refine tl_e (e_storeW rfl rfl (by repeat constructor) (by rfl) (by rfl) (by simp [Value.oneCell'])) rfl (fun _ _ => ?_); refine tl_nil ?_; ((refine hK7 ?_; try (clear hK7; clear K7)))
        all_goals refine tc_seq fun K8 hK8 => ?_; refine tc_region ?_; refine tl_q (y_field rfl) rfl ?_; refine tl_q (y_load1 rfl (by repeat constructor) (by rfl)) rfl ?_; refine tl_q (y_move rfl) rfl ?_; refine tl_q (y_eql rfl rfl) rfl ?_; refine tl_q (y_move rfl) rfl ?_; ((refine tl_gs rfl rfl (fun hc => ?_) (fun hc => ?_) <;> (try simp only [qn1, qn2, qn3, qn4, qn5, qn6, qn7, qn8] at hc) <;> (first | refine tl_sk rfl rfl rfl rfl ?_ | refine tl_qg rfl rfl (y_field rfl) rfl ?_)))
        all_goals (first | refine tl_sk rfl rfl rfl rfl ?_ | refine tl_qg rfl rfl (y_load1 rfl (by repeat constructor) (by rfl)) rfl ?_); (first | refine tl_sk rfl rfl rfl rfl ?_ | refine tl_qg rfl rfl (y_move rfl) rfl ?_); (first | refine tl_sk rfl rfl rfl rfl ?_ | refine tl_qg rfl rfl (y_eql rfl rfl) rfl ?_); (first | refine tl_q (y_pick_t rfl rfl) rfl ?_ | refine tl_q (y_pick_f rfl rfl) rfl ?_); refine tl_q (y_move rfl) rfl ?_; ((first | refine tl_sk rfl rfl rfl rfl ?_ | (refine tl_gs rfl rfl (fun hc => ?_) (fun hc => ?_) <;> (try simp only [qn1, qn2, qn3, qn4, qn5, qn6, qn7, qn8] at hc) <;> (first | refine tl_sk rfl rfl rfl rfl ?_ | refine tl_qg rfl rfl (y_field rfl) rfl ?_))))
        all_goals (first | refine tl_sk rfl rfl rfl rfl ?_ | refine tl_qg rfl rfl (y_load1 rfl (by repeat constructor) (by rfl)) rfl ?_); (first | refine tl_sk rfl rfl rfl rfl ?_ | refine tl_qg rfl rfl (y_move rfl) rfl ?_); (first | refine tl_sk rfl rfl rfl rfl ?_ | refine tl_qg rfl rfl (y_eqlb rfl rfl) rfl ?_); (first | refine tl_q (y_pick_t rfl rfl) rfl ?_ | refine tl_q (y_pick_f rfl rfl) rfl ?_); refine tl_nil ?_; ((refine hK8 ?_; try (clear hK8; clear K8)))
        all_goals (
         refine tc_cond rfl (fun hc => ?_) (fun hc => ?_)
         · all_goals ((first | (exfalso; with_reducible exact bft hc) | skip))
           all_goals refine tc_seq fun K9 hK9 => ?_; refine tc_region ?_; refine tl_q (y_assign rfl) rfl ?_; refine tl_nil ?_; ((refine hK9 ?_; try (clear hK9; clear K9)))
           all_goals refine tc_ret ?_; (repeat (first | refine tk_then_ret ?_ | refine tk_block_ret ?_))
           all_goals (refine tk_ret rfl rfl (.cons (.tmp rfl) .nil) ?_)
           all_goals (
            first
            | (have hE : seenB s b h x = true := all_upto (by omega) hall
               rw [hE]
               exact fun w' hw' => ⟨rfl, hw'.fr (w0 := w) (S := []) MI.m⟩)
            | (have hE : seenB s b h x = false := all_not (p := sgB b h x) (d := sgt0) (n := j) (by omega) (fun g => by unfold sgB at g; simp_all)
               rw [hE]
               exact fun w' hw' => ⟨rfl, hw'.fr (w0 := w) (S := []) MI.m⟩))
         · try simp only [qn1, qn2, qn3, qn4, qn5, qn6, qn7, qn8] at hc
           all_goals refine tc_skip ?_; ((refine hK6 ?_; try (clear hK6; clear K6)))
           all_goals refine tc_region ?_; refine tl_q (y_move rfl) rfl ?_; refine tl_q (y_add rfl rfl (by omega)) rfl ?_; refine tl_q (y_assign rfl) rfl ?_; refine tl_nil ?_
           all_goals (
            exact tk_round (j + 1) ⟨by omega, fun i hi => by
              rcases Nat.lt_succ_iff_lt_or_eq.1 hi with g | rfl
              · exact hall i g
              · cases hq : sgB b h x (s.sg.getD i sgt0) with
                | true => rfl
                | false => exfalso; have hq2 := sgB_no hq; simp_all⟩ (by omega) (.cons rfl (.cons rfl (.cons rfl (.cons rfl (.cons rfl .nil))))) (fun _ h => h.subl SB.s SB.s)))
      · try simp only [qn1, qn2, qn3, qn4, qn5, qn6, qn7, qn8] at hc
        all_goals refine tc_exit ?_; ((refine hK2 ?_; try (clear hK2; clear K2)))
        all_goals refine tc_seq fun K10 hK10 => ?_; refine tc_region ?_; refine tl_q (y_assign rfl) rfl ?_; refine tl_nil ?_; ((refine hK10 ?_; try (clear hK10; clear K10)))
        all_goals refine tc_ret ?_; (repeat (first | refine tk_then_ret ?_))
        all_goals (refine tk_ret rfl rfl (.cons (.tmp rfl) .nil) ?_)
        all_goals (
         first
         | (have hE : seenB s b h x = true := all_upto (by omega) hall
            rw [hE]
            exact fun w' hw' => ⟨rfl, hw'.fr (w0 := w) (S := []) MI.m⟩)
         | (have hE : seenB s b h x = false := all_not (p := sgB b h x) (d := sgt0) (n := j) (by omega) (fun g => by unfold sgB at g; simp_all)
            rw [hE]
            exact fun w' hw' => ⟨rfl, hw'.fr (w0 := w) (S := []) MI.m⟩))))
def heldF (s : Smp) (b : Int) (ts : List Int) : Option (List Int) := (chN s b ts (s.L + 1).toNat).map Prod.fst
theorem heldN_c (s : Smp) (hv : VSm s) (b : Int) (ts : List Int) (hts : ts.length = s.ps.length) (tv pv gv hv' : Value) (w : World) (hr : RdSm w s tv pv gv) (hh : RdI w hv' ts) :
    CnX Tryz.prog 59 #[smV s tv pv gv, vi b, hv'] w [] (fun y : Option Addr × Nat => .tuple #[slV ((heldF s b ts).getD []).length y, .bool (heldF s b ts).isSome]) (fun y w' => RdI w' (slV ((heldF s b ts).getD []).length y) ((heldF s b ts).getD []) ∧ NewS w (slV ((heldF s b ts).getD []).length y)) := by
  have hl0 := hv.l0
  have hl9 := hv.l9
  have hn6 := hv.n6
  obtain ⟨adp, cpp, bp, op, rfl, hadp, hcp⟩ := hr.ps.open psE_len pas0
  obtain ⟨adh, cph, bh, oh, rfl, hadh, hch⟩ := hh.open
  refine cnx0 (vs := [_, _, _]) Tryz.func59 rfl rfl ?_
  all_goals refine tc_seq fun K1 hK1 => ?_; refine tc_region ?_; refine tl_e (e_box rfl rfl rfl) rfl (fun b3 _ => ?_); refine tl_q (y_assign rfl) rfl ?_; refine tl_q (y_assign rfl) rfl ?_; refine tl_nil ?_; ((refine hK1 ?_; try (clear hK1; clear K1)))
  all_goals refine tc_seq fun K2 hK2 => ?_; refine tc_region ?_; refine tl_q (y_assign rfl) rfl ?_; refine tl_nil ?_; ((refine hK2 ?_; try (clear hK2; clear K2)))
  all_goals refine tc_seq fun K3 hK3 => ?_; refine tc_region ?_; refine tl_q (y_field rfl) rfl ?_; refine tl_q (y_load1 rfl (by repeat constructor) (by rfl)) rfl ?_; refine tl_q (y_assign rfl) rfl ?_; refine tl_nil ?_; ((refine hK3 ?_; try (clear hK3; clear K3)))
  all_goals refine tc_seq fun K4 hK4 => ?_; refine tc_seq fun K5 hK5 => ?_; refine tc_region ?_; refine tl_q (y_assign rfl) rfl ?_; refine tl_nil ?_; ((refine hK5 ?_; try (clear hK5; clear K5)))
  all_goals refine tc_block ?_
  all_goals (
   refine tc_loop (fun p : Nat × (List Int × Int) × OwnB => (p.1 : Int) ≤ s.L + 1 ∧ chN s b ts p.1 = some p.2.1 ∧ okE 1 p.2.1.1 p.2.2) (fun p => [(1, vi b), (2, .slice adh ts.length cph), (3, ptr b3), (8, ouV p.2.1.1.length p.2.2), (9, vi p.2.1.2), (10, vi p.1)]) (fun _ => [(w, [])]) (fun p => (b3, .cells #[vi s.B, vi s.P, vi s.L, vi s.F, tv, .slice adp s.ps.length cpp, gv] 26 (0, 0)) :: slE 3 inE p.2.1.1 p.2.2) (fun p => (s.L + 1).toNat - p.1) ?_ ?_
   · exact tk_start (0, ([], s.F), none) ⟨by dsimp only; omega, rfl, rfl⟩ (.cons rfl (.cons rfl (.cons rfl (.cons rfl (.cons rfl (.cons rfl .nil)))))) (fun _ h => by rw [slE_none]; exact h.subl SB.s SB.s)
   · rintro ⟨h, ⟨c, a⟩, oo⟩ ⟨hh2, hcn, hok⟩
     dsimp only at hh2 hcn hok ⊢
     have hcl := chN_len hcn
     dsimp only at hcl
     all_goals refine tc_seq fun K6 hK6 => ?_; refine tc_seq fun K7 hK7 => ?_; refine tc_region ?_; refine tl_q (y_move rfl) rfl ?_; refine tl_q (y_field rfl) rfl ?_; refine tl_q (y_load1 rfl (by repeat constructor) (by rfl)) rfl ?_; refine tl_q (y_leq rfl rfl) rfl ?_; refine tl_nil ?_; ((refine hK7 ?_; try (clear hK7; clear K7)))
     all_goals (
      refine tc_cond rfl (fun hc => ?_) (fun hc => ?_)
      · try simp only [qn1, qn2, qn3, qn4, qn5, qn6, qn7, qn8] at hc
        all_goals refine tc_skip ?_; ((refine hK6 ?_; try (clear hK6; clear K6)))
        all_goals refine tc_seq fun K8 hK8 => ?_; refine tc_block ?_; refine tc_seq fun K9 hK9 => ?_; refine tc_seq fun K10 hK10 => ?_; refine tc_region ?_; refine tl_q (y_assign rfl) rfl ?_; refine tl_nil ?_; ((refine hK10 ?_; try (clear hK10; clear K10)))
        all_goals refine tc_block ?_
        all_goals (
         refine tc_loop (fun p : Nat × Int => p.1 ≤ s.ps.length ∧ pasN s b ts h a p.1 = some p.2) (fun p => [(1, vi b), (2, .slice adh ts.length cph), (3, ptr b3), (8, ouV c.length oo), (9, vi p.2), (10, vi h), (11, vi p.1)]) (fun _ => [(w, [])]) (fun p => (b3, .cells #[vi s.B, vi s.P, vi s.L, vi s.F, tv, .slice adp s.ps.length cpp, gv] 26 (0, 0)) :: slE 3 inE c oo) (fun p => s.ps.length - p.1) ?_ ?_
         · exact tk_start (0, a) ⟨Nat.zero_le _, rfl⟩ (.cons rfl (.cons rfl (.cons rfl (.cons rfl (.cons rfl (.cons rfl (.cons rfl .nil))))))) (fun _ h => h.subl SB.s SB.s)
         · rintro ⟨n, a1⟩ ⟨hn, hpn⟩
           dsimp only at hn hpn ⊢
           all_goals refine tc_seq fun K11 hK11 => ?_; refine tc_seq fun K12 hK12 => ?_; refine tc_region ?_; refine tl_q (y_move rfl) rfl ?_; refine tl_q (y_move rfl) rfl ?_; refine tl_q (y_len rfl) rfl ?_; refine tl_q (y_lss rfl rfl) rfl ?_; refine tl_nil ?_; ((refine hK12 ?_; try (clear hK12; clear K12)))
           all_goals (
            refine tc_cond rfl (fun hc => ?_) (fun hc => ?_)
            · try simp only [qn1, qn2, qn3, qn4, qn5, qn6, qn7, qn8] at hc
              all_goals refine tc_skip ?_; ((refine hK11 ?_; try (clear hK11; clear K11)))
              all_goals refine tc_seq fun K13 hK13 => ?_; refine tc_block ?_; refine tc_seq fun K14 hK14 => ?_; refine tc_region ?_; refine tl_q (y_field rfl) rfl ?_; refine tl_q (y_load1 rfl (by repeat constructor) (by rfl)) rfl ?_; refine tl_q (y_move rfl) rfl ?_; refine tl_q (y_index rfl rfl (by omega) (hadp (by omega))) rfl ?_; ((refine tl_q (y_loadNo (n := 5) (vs := [vi (s.ps.getD n pas0).b, vi (s.ps.getD n pas0).fr, vi (s.ps.getD n pas0).to, vi (s.ps.getD n pas0).lo, vi (s.ps.getD n pas0).hi]) rfl (fun w' hw' => by rw [show Int.toNat (n : Int) * 5 = n * 5 from by omega]; exact hcp w' [] (hw'.fr (w0 := w) (S := []) MI.m) (by simp) n (by omega))) rfl ?_))
              all_goals refine tl_e (e_allocN rfl) rfl (fun b12 _ => ?_); refine tl_e (e_storeW rfl rfl (by repeat constructor) (by rfl) (by rfl) (by simp [Value.oneCell'])) rfl (fun _ _ => ?_); refine tl_nil ?_; ((refine hK14 ?_; try (clear hK14; clear K14)))
              all_goals refine tc_seq fun K15 hK15 => ?_; refine tc_region ?_; refine tl_q (y_field rfl) rfl ?_; refine tl_q (y_load1 rfl (by repeat constructor) (by rfl)) rfl ?_; refine tl_q (y_move rfl) rfl ?_; refine tl_q (y_eql rfl rfl) rfl ?_; refine tl_q (y_move rfl) rfl ?_; ((refine tl_gs rfl rfl (fun hc => ?_) (fun hc => ?_) <;> (try simp only [qn1, qn2, qn3, qn4, qn5, qn6, qn7, qn8] at hc) <;> (first | refine tl_sk rfl rfl rfl rfl ?_ | refine tl_qg rfl rfl (y_move rfl) rfl ?_)))
              all_goals (first | refine tl_sk rfl rfl rfl rfl ?_ | refine tl_qg rfl rfl (y_move rfl) rfl ?_); (first | refine tl_sk rfl rfl rfl rfl ?_ | refine tl_qg rfl rfl (y_index rfl rfl (by omega) (hadh (by omega))) rfl ?_); ((first | refine tl_sk rfl rfl rfl rfl ?_ | refine tl_qg rfl rfl (y_load1o (v := vi (ts.getD n 0)) rfl (fun w' hw' => by rw [show Int.toNat (n : Int) * 1 = n from by omega]; exact hch w' (hw'.fr (w0 := w) (S := []) MI.m) n (by omega))) rfl ?_))
              all_goals (first | refine tl_sk rfl rfl rfl rfl ?_ | refine tl_qg rfl rfl (y_move rfl) rfl ?_); (first | refine tl_sk rfl rfl rfl rfl ?_ | refine tl_qg rfl rfl (y_eql rfl rfl) rfl ?_); (first | refine tl_q (y_pick_t rfl rfl) rfl ?_ | refine tl_q (y_pick_f rfl rfl) rfl ?_); refine tl_nil ?_; ((refine hK15 ?_; try (clear hK15; clear K15)))
              all_goals (
               refine tc_cond rfl (fun hc => ?_) (fun hc => ?_)
               · try simp only [qn1, qn2, qn3, qn4, qn5, qn6, qn7, qn8] at hc
                 all_goals ((first | (exfalso; with_reducible exact bft hc) | skip))
                 all_goals refine tc_seq fun K16 hK16 => ?_; refine tc_seq fun K17 hK17 => ?_; refine tc_region ?_; refine tl_q (y_field rfl) rfl ?_; refine tl_q (y_load1 rfl (by repeat constructor) (by rfl)) rfl ?_; refine tl_q (y_move rfl) rfl ?_; refine tl_q (y_neq rfl rfl) rfl ?_; refine tl_nil ?_; ((refine hK17 ?_; try (clear hK17; clear K17)))
                 all_goals (
                  refine tc_cond rfl (fun hc => ?_) (fun hc => ?_)
                  · try simp only [qn1, qn2, qn3, qn4, qn5, qn6, qn7, qn8] at hc
                    all_goals refine tc_seq fun K18 hK18 => ?_; refine tc_region ?_; refine tl_q (y_assign rfl) rfl ?_; refine tl_q (y_assign rfl) rfl ?_; refine tl_nil ?_; ((refine hK18 ?_; try (clear hK18; clear K18)))
                    all_goals refine tc_ret ?_; (repeat (first | refine tk_then_ret ?_ | refine tk_block_ret ?_))
                    all_goals (refine tk_ret rfl rfl (.cons (.tmp rfl) (.cons (.tmp rfl) .nil)) ?_)
                    all_goals (
                     first
                     | (have hs : pasN s b ts h a (n + 1) = none := by rw [pasN, hpn]; simp only; rw [if_pos (by omega), if_neg (by omega)]
                        have hs2 : chN s b ts (h + 1) = none := by rw [chN, hcn]; simp only; rw [pasN_none hs _ (by omega)]
                        have hs3 : heldF s b ts = none := by unfold heldF; rw [chN_none hs2 _ (by omega)]; rfl
                        rw [hs3]
                        exact fun w' hw' => ⟨(none, 0), rfl, hw'.fr (w0 := w) (S := []) MI.m, RdI.nil _, NewS.nil _ _ _⟩)
                     | (obtain rfl : h = (s.L + 1).toNat := by omega
                        have hs3 : heldF s b ts = some c := by unfold heldF; rw [hcn]; rfl
                        rw [hs3]
                        exact fun w' hw' => ⟨ouA oo, rfl, hw'.fr (w0 := w) (S := []) MI.m, (RdS.ofO inE_len hok hw' (by repeat constructor)).toI, NewS.ofO hw' (by repeat constructor) MI.m⟩))
                  · try simp only [qn1, qn2, qn3, qn4, qn5, qn6, qn7, qn8] at hc
                    all_goals refine tc_skip ?_; ((refine hK16 ?_; try (clear hK16; clear K16)))
                    all_goals refine tc_region ?_; refine tl_q (y_field rfl) rfl ?_; refine tl_q (y_load1 rfl (by repeat constructor) (by rfl)) rfl ?_; refine tl_q (y_assign rfl) rfl ?_; refine tl_nil ?_; ((refine hK13 ?_; try (clear hK13; clear K13)))
                    all_goals refine tc_region ?_; refine tl_q (y_move rfl) rfl ?_; refine tl_q (y_add rfl rfl (by omega)) rfl ?_; refine tl_q (y_assign rfl) rfl ?_; refine tl_nil ?_
                    all_goals (
                     first
                     | (have hs : pasN s b ts h a (n + 1) = some (s.ps.getD n pas0).to := by rw [pasN, hpn]; simp only; rw [if_pos (by omega), if_pos (by omega)]
                        exact tk_round (n + 1, (s.ps.getD n pas0).to) ⟨by dsimp only; omega, hs⟩ (by dsimp only; omega) (.cons rfl (.cons rfl (.cons rfl (.cons rfl (.cons rfl (.cons rfl (.cons rfl .nil))))))) (fun _ h => h.subl SB.s SB.s))
                     | (have hs : pasN s b ts h a (n + 1) = some a1 := by rw [pasN, hpn]; simp only; rw [if_neg (by omega)]
                        exact tk_round (n + 1, a1) ⟨by dsimp only; omega, hs⟩ (by dsimp only; omega) (.cons rfl (.cons rfl (.cons rfl (.cons rfl (.cons rfl (.cons rfl (.cons rfl .nil))))))) (fun _ h => h.subl SB.s SB.s))))
               · try simp only [qn1, qn2, qn3, qn4, qn5, qn6, qn7, qn8] at hc
                 all_goals refine tc_skip ?_; ((refine hK13 ?_; try (clear hK13; clear K13)))
                 all_goals refine tc_region ?_; refine tl_q (y_move rfl) rfl ?_; refine tl_q (y_add rfl rfl (by omega)) rfl ?_; refine tl_q (y_assign rfl) rfl ?_; refine tl_nil ?_
                 all_goals (
                  first
                  | (have hs : pasN s b ts h a (n + 1) = some (s.ps.getD n pas0).to := by rw [pasN, hpn]; simp only; rw [if_pos (by omega), if_pos (by omega)]
                     exact tk_round (n + 1, (s.ps.getD n pas0).to) ⟨by dsimp only; omega, hs⟩ (by dsimp only; omega) (.cons rfl (.cons rfl (.cons rfl (.cons rfl (.cons rfl (.cons rfl (.cons rfl .nil))))))) (fun _ h => h.subl SB.s SB.s))
                  | (have hs : pasN s b ts h a (n + 1) = some a1 := by rw [pasN, hpn]; simp only; rw [if_neg (by omega)]
                     exact tk_round (n + 1, a1) ⟨by dsimp only; omega, hs⟩ (by dsimp only; omega) (.cons rfl (.cons rfl (.cons rfl (.cons rfl (.cons rfl (.cons rfl (.cons rfl .nil))))))) (fun _ h => h.subl SB.s SB.s))))
            · try simp only [qn1, qn2, qn3, qn4, qn5, qn6, qn7, qn8] at hc
              all_goals refine tc_exit ?_; ((refine hK9 ?_; try (clear hK9; clear K9)))
              all_goals refine tc_region ?_; refine tl_q (y_move rfl) rfl ?_; refine tl_q (y_move rfl) rfl ?_; (refine tl_e (e_bslice rfl (by (repeat (first | exact .nil | apply PV.one rfl rfl)); done) rfl rfl) rfl (fun _ _ => ?_))
              all_goals (refine tl_e (e_appendE (enc := inE) (xs := c) (ys := [a1]) inE_len inE_one rfl rfl rfl hok (fun _ => by repeat constructor) (fun w' hw' => RdS.own0 inE_len hw' (by repeat constructor)) (by simp only [List.length_cons, List.length_nil]; omega) rfl) rfl (fun oo' hok' => ?_))
              all_goals refine tl_q (y_assign rfl) rfl ?_; refine tl_nil ?_; ((refine hK8 ?_; try (clear hK8; clear K8)))
              all_goals refine tc_region ?_; refine tl_q (y_move rfl) rfl ?_; refine tl_q (y_add rfl rfl (by omega)) rfl ?_; refine tl_q (y_assign rfl) rfl ?_; refine tl_nil ?_
              all_goals (
               obtain rfl : n = s.ps.length := by omega
               have hs : chN s b ts (h + 1) = some (c ++ [a1], a1) := by rw [chN, hcn]; simp only; rw [hpn]
               exact tk_round (h + 1, (c ++ [a1], a1), oo') ⟨by dsimp only; omega, hs, hok'⟩ (by dsimp only; omega) (.cons rfl (.cons rfl (.cons rfl (.cons rfl (.cons rfl (.cons rfl .nil)))))) (fun _ h => h.subl SB.s SB.s))))
      · try simp only [qn1, qn2, qn3, qn4, qn5, qn6, qn7, qn8] at hc
        all_goals refine tc_exit ?_; ((refine hK4 ?_; try (clear hK4; clear K4)))
        all_goals refine tc_seq fun K19 hK19 => ?_; refine tc_region ?_; refine tl_q (y_move rfl) rfl ?_; refine tl_q (y_assign rfl) rfl ?_; refine tl_q (y_assign rfl) rfl ?_; refine tl_nil ?_; ((refine hK19 ?_; try (clear hK19; clear K19)))
        all_goals refine tc_ret ?_; (repeat (first | refine tk_then_ret ?_))
        all_goals (refine tk_ret rfl rfl (.cons (.tmp rfl) (.cons (.tmp rfl) .nil)) ?_)
        all_goals (
         first
         | (have hs : pasN s b ts h a (n + 1) = none := by rw [pasN, hpn]; simp only; rw [if_pos (by omega), if_neg (by omega)]
            have hs2 : chN s b ts (h + 1) = none := by rw [chN, hcn]; simp only; rw [pasN_none hs _ (by omega)]
            have hs3 : heldF s b ts = none := by unfold heldF; rw [chN_none hs2 _ (by omega)]; rfl
            rw [hs3]
            exact fun w' hw' => ⟨(none, 0), rfl, hw'.fr (w0 := w) (S := []) MI.m, RdI.nil _, NewS.nil _ _ _⟩)
         | (obtain rfl : h = (s.L + 1).toNat := by omega
            have hs3 : heldF s b ts = some c := by unfold heldF; rw [hcn]; rfl
            rw [hs3]
            exact fun w' hw' => ⟨ouA oo, rfl, hw'.fr (w0 := w) (S := []) MI.m, (RdS.ofO inE_len hok hw' (by repeat constructor)).toI, NewS.ofO hw' (by repeat constructor) MI.m⟩))))
end Go.Sp
/-
  The reference of samples: whether a bottle in some hands has a way; whether a sample has a truth.
-/
namespace Go.Sp
open Go Go.Proofs
theorem heldF_ok {s : Smp} (hv : VSm s) {b : Int} {ts c : List Int} (h : heldF s b ts = some c) : (c.length : Int) = s.L + 1 ∧ ∀ i, i < c.length → 0 ≤ c.getD i 0 ∧ c.getD i 0 < s.P := by
  unfold heldF at h
  obtain ⟨q, h1, rfl⟩ := Option.map_eq_some_iff.1 h
  have hl := chN_len h1
  have hl0 := hv.l0
  exact ⟨by omega, fun i hi => (chN_ok hv h1).2 _ (getD_memG hi)⟩
end Go.Sp
/-
  A sample has a truth after the reference if it has one after the package.
-/
namespace Go.Sp
open Go Go.Proofs
theorem mem_stepL {s : Smp} {b h : Int} {st x : Bool} {y : Bool × Int} : y ∈ stepL s b h st x ↔ ∃ n : Nat, n < 4 ∧ (actIs x st n = true ∧ seenB s b h (actY x n) = true) ∧ y = (actY x n, if x = true ∨ opF n = true then 1 else 0) := by
  show y ∈ stepN s b h st x 4 ↔ _
  unfold stepN
  rw [List.mem_flatMap]
  constructor
  · rintro ⟨n, hn, hy⟩
    unfold stp1 at hy
    split at hy
    · rename_i hc
      exact ⟨n, List.mem_range.1 hn, hc, List.mem_singleton.1 hy⟩
    · cases hy
  · rintro ⟨n, hn, hc, rfl⟩
    exact ⟨n, List.mem_range.2 hn, by unfold stp1; rw [if_pos hc]; exact List.mem_singleton.2 rfl⟩
theorem minP_any {l : List (Bool × Int)} {r : Bool → Option Int} : ∀ {n : Nat}, n ≤ l.length → (minP l r n).isSome = true → ∃ i, i < n ∧ (r (l.getD i (false, 0)).1).isSome = true
  | 0, _, h => by cases h
  | n + 1, hn, h => by
    rw [minP] at h
    split at h
    · obtain ⟨i, h1, h2⟩ := minP_any (by omega) h
      exact ⟨i, by omega, h2⟩
    · rename_i m hm
      exact ⟨n, by omega, by rw [hm]; rfl⟩
theorem rst_some {s : Smp} {b : Int} {c : List Int} {k : Nat} {x : Bool} : (rstF s b c (k + 1) x).isSome = true ↔ ∃ y ∈ stepL s b (s.L - k) (stB s c (s.L - k)) x, (rstF s b c k y.1).isSome = true := by
  rw [rstF]
  constructor
  · intro h
    obtain ⟨i, hi, hs⟩ := minP_any (Nat.le_refl _) h
    exact ⟨_, getD_memG hi, hs⟩
  · rintro ⟨y, hy, hs⟩
    obtain ⟨i, hi, rfl⟩ := List.getElem_of_mem hy
    refine minP_some (Nat.le_refl _) (i := i) hi ?_
    rw [List.getD_eq_getElem?_getD, List.getElem?_eq_getElem hi]; exact hs
theorem stB_pad {s : Smp} {c : List Int} {h : Nat} (hh : h < c.length) : stB s c h = stB s (padC c) h := by
  unfold stB padC
  rw [Int.toNat_natCast, List.getD_eq_getElem?_getD (l := c ++ _), List.getElem?_append_left hh, ← List.getD_eq_getElem?_getD]
/-- Hours that are within the passes' ranges. -/
def InR : List Pas → List Int → Prop
  | [], hs => hs = []
  | p :: ps, hs => ∃ h t, hs = h :: t ∧ (p.lo ≤ h ∧ h ≤ p.hi) ∧ InR ps t
theorem InR.len : ∀ {ps : List Pas} {hs : List Int}, InR ps hs → hs.length = ps.length
  | [], hs, h => by obtain rfl : hs = [] := h; rfl
  | p :: ps, hs, h => by
    obtain ⟨a, t, rfl, _, ht⟩ := h
    simp [InR.len ht]
theorem zOwn_in {b : Int} : ∀ {ps : List Pas} {hs : List Int}, InR ps hs → zOwn b ps hs ∈ zAll b ps
  | [], hs, h => by
    obtain rfl : hs = [] := h
    simp [zAll, genT, zOwn]
  | p :: ps, hs, h => by
    obtain ⟨a, t, rfl, ha, ht⟩ := h
    have ih := zOwn_in (b := b) ht
    by_cases hb : p.b = b
    · rw [zAll_own hb, List.mem_flatMap]
      refine ⟨(a - p.lo).toNat, List.mem_range.2 (by omega), List.mem_map.2 ⟨zOwn b ps t, ih, ?_⟩⟩
      rw [show p.lo + (((a - p.lo).toNat : Nat) : Int) = a from by omega]
      simp [zOwn, hb]
    · rw [zAll_oth hb]
      simpa [zOwn, hb] using ih
theorem zAll_ex {b : Int} : ∀ {ps : List Pas} {z : List (Pas × Int)}, (∀ p ∈ ps, p.lo ≤ p.hi) → z ∈ zAll b ps → ∃ hs, InR ps hs ∧ zOwn b ps hs = z
  | [], z, _, h => by
    refine ⟨[], rfl, ?_⟩
    simp [zAll, genT, zOwn] at h
    subst h; rfl
  | p :: ps, z, hp, h => by
    have hp2 : ∀ q ∈ ps, q.lo ≤ q.hi := fun q hq => hp q (List.mem_cons_of_mem _ hq)
    by_cases hb : p.b = b
    · rw [zAll_own hb, List.mem_flatMap] at h
      obtain ⟨j, hj, h⟩ := h
      obtain ⟨z', hz', rfl⟩ := List.mem_map.1 h
      obtain ⟨hs, h1, rfl⟩ := zAll_ex hp2 hz'
      rw [List.mem_range] at hj
      refine ⟨(p.lo + (j : Int)) :: hs, ⟨_, _, rfl, by omega, h1⟩, ?_⟩
      simp [zOwn, hb]
    · rw [zAll_oth hb] at h
      obtain ⟨hs, h1, rfl⟩ := zAll_ex hp2 h
      refine ⟨p.lo :: hs, ⟨_, _, rfl, ⟨Int.le_refl _, hp p (List.mem_cons_self ..)⟩, h1⟩, ?_⟩
      simp [zOwn, hb]
theorem VSm.ple {s : Smp} (hv : VSm s) : ∀ p ∈ s.ps, p.lo ≤ p.hi := fun p hp => (hv.ps p hp).2.2.2.2.2.1
end Go.Sp
/-
  Runs: what can be done with a bottle, from hour to hour; what ask returns, in terms of them.
-/
namespace Go.Sp
open Go Go.Proofs
/-- What is done in the last k hours, from a seal on. -/
def RunF (s : Smp) (b : Int) (c : List Int) : Nat → Bool → List (Bool × Int) → Prop
  | 0, _, l => l = []
  | k + 1, x, l => ∃ z t, l = z :: t ∧ z ∈ stepL s b (s.L - k) (stB s c (s.L - k)) x ∧ RunF s b c k z.1 t
def sumR (l : List (Bool × Int)) : Int := (l.map Prod.snd).sum
theorem rst_run {s : Smp} {b : Int} {c : List Int} : ∀ {k : Nat} {x : Bool}, (rstF s b c k x).isSome = true ↔ ∃ l, RunF s b c k x l
  | 0, x => ⟨fun _ => ⟨[], rfl⟩, fun _ => rfl⟩
  | k + 1, x => by
    rw [rst_some]
    constructor
    · rintro ⟨y, hy, h⟩
      obtain ⟨t, ht⟩ := rst_run.1 h
      exact ⟨y :: t, y, t, rfl, hy, ht⟩
    · rintro ⟨l, z, t, rfl, hz, ht⟩
      exact ⟨z, hz, rst_run.2 ⟨t, ht⟩⟩
theorem minP_le {l : List (Bool × Int)} {r : Bool → Option Int} : ∀ {n : Nat} {m : Int}, n ≤ l.length → minP l r n = some m → (∃ i, i < n ∧ ∃ v, r (l.getD i (false, 0)).1 = some v ∧ m = v + (l.getD i (false, 0)).2) ∧ ∀ i, i < n → ∀ v, r (l.getD i (false, 0)).1 = some v → m ≤ v + (l.getD i (false, 0)).2
  | 0, m, _, h => by cases h
  | n + 1, m, hn, h => by
    rw [minP] at h
    split at h
    · rename_i h0
      obtain ⟨⟨i, hi, h1⟩, h2⟩ := minP_le (by omega) h
      refine ⟨⟨i, by omega, h1⟩, fun i hi v hv => ?_⟩
      by_cases hin : i = n
      · subst hin; rw [h0] at hv; cases hv
      · exact h2 i (by omega) v hv
    · rename_i m1 h0
      split at h
      · rename_i h3
        cases h
        refine ⟨⟨n, by omega, m1, h0, rfl⟩, fun i hi v hv => ?_⟩
        by_cases hin : i = n
        · subst hin; rw [h0] at hv; cases hv; exact Int.le_refl _
        · have := minP_some (l := l) (r := r) (n := n) (by omega) (i := i) (by omega) (by rw [hv]; rfl)
          rw [h3] at this; cases this
      · rename_i own h3
        cases h
        obtain ⟨⟨i, hi, v, h1, h4⟩, h2⟩ := minP_le (by omega) h3
        refine ⟨?_, fun i hi v hv => ?_⟩
        · by_cases hle : own ≤ m1 + (l.getD n (false, 0)).2
          · exact ⟨i, by omega, v, h1, by omega⟩
          · exact ⟨n, by omega, m1, h0, by omega⟩
        · by_cases hin : i = n
          · subst hin; rw [h0] at hv; cases hv; omega
          · have := h2 i (by omega) v hv; omega
theorem rst_min {s : Smp} {b : Int} {c : List Int} : ∀ {k : Nat} {x : Bool} {m : Int}, rstF s b c k x = some m → (∃ l, RunF s b c k x l ∧ sumR l = m) ∧ ∀ l, RunF s b c k x l → m ≤ sumR l
  | 0, x, m, h => by
    cases h
    exact ⟨⟨[], rfl, rfl⟩, fun l hl => by obtain rfl : l = [] := hl; exact Int.le_refl _⟩
  | k + 1, x, m, h => by
    rw [rstF] at h
    obtain ⟨⟨i, hi, v, h1, h2⟩, h3⟩ := minP_le (Nat.le_refl _) h
    constructor
    · obtain ⟨⟨t, ht, hs⟩, _⟩ := rst_min h1
      refine ⟨_ :: t, ⟨_, t, rfl, getD_memG hi, ht⟩, ?_⟩
      rw [h2, ← hs]
      simp [sumR, Int.add_comm]
    · rintro l ⟨z, t, rfl, hz, ht⟩
      obtain ⟨j, hj, rfl⟩ := List.getElem_of_mem hz
      have hso := rst_run.2 ⟨t, ht⟩
      obtain ⟨v', hv'⟩ := Option.isSome_iff_exists.1 hso
      have h4 := (rst_min hv').2 t ht
      have e : (stepL s b (s.L - k) (stB s c (s.L - k)) x).getD j (false, 0) = (stepL s b (s.L - k) (stB s c (s.L - k)) x)[j] := by
        rw [List.getD_eq_getElem?_getD, List.getElem?_eq_getElem hj]; rfl
      have h5 := h3 j hj v' (by rw [e]; exact hv')
      rw [e] at h5
      simp only [sumR, List.map_cons, List.sum_cons] at h4 ⊢
      omega
/-- What is done in the first hours. -/
def PreF (s : Smp) (b : Int) (c : List Int) : Nat → List (Bool × Int) → Bool → Prop
  | 0, l, x => l = [] ∧ x = false
  | h + 1, l, x => ∃ l' z y, l = l' ++ [z] ∧ PreF s b c h l' y ∧ z ∈ stepL s b h (stB s c h) y ∧ z.1 = x
theorem PreF.len {s : Smp} {b : Int} {c : List Int} : ∀ {h : Nat} {l : List (Bool × Int)} {x : Bool}, PreF s b c h l x → l.length = h
  | 0, _, _, ⟨rfl, _⟩ => rfl
  | h + 1, _, _, ⟨l', z, y, rfl, h1, _, _⟩ => by simp [PreF.len h1]
theorem PreF.join {s : Smp} {b : Int} {c : List Int} : ∀ {h : Nat} {l : List (Bool × Int)} {x : Bool} {t : List (Bool × Int)}, (h : Int) ≤ s.L + 1 → PreF s b c h l x → RunF s b c (s.L + 1 - h).toNat x t → RunF s b c (s.L + 1).toNat false (l ++ t)
  | 0, _, _, t, hh, ⟨rfl, rfl⟩, h => by
    rw [show (s.L + 1 - ((0 : Nat) : Int)).toNat = (s.L + 1).toNat from by omega] at h
    exact h
  | h + 1, _, _, t, hh, ⟨l', z, y, rfl, h1, h2, h3⟩, ht => by
    rw [List.append_assoc]
    subst h3
    refine PreF.join (h := h) (by omega) h1 ?_
    rw [show (s.L + 1 - (h : Int)).toNat = (s.L + 1 - ((h + 1 : Nat) : Int)).toNat + 1 from by omega]
    refine ⟨z, t, rfl, ?_, ht⟩
    rw [show s.L - (((s.L + 1 - ((h + 1 : Nat) : Int)).toNat : Nat) : Int) = (h : Int) from by omega]
    exact h2
theorem RunF.split {s : Smp} {b : Int} {c : List Int} {l : List (Bool × Int)} (hl : RunF s b c (s.L + 1).toNat false l) : ∀ h : Nat, (h : Int) ≤ s.L + 1 → ∃ l1 t x, l = l1 ++ t ∧ PreF s b c h l1 x ∧ RunF s b c (s.L + 1 - h).toNat x t
  | 0, _ => ⟨[], l, false, rfl, ⟨rfl, rfl⟩, by rw [show (s.L + 1 - ((0 : Nat) : Int)).toNat = (s.L + 1).toNat from by omega]; exact hl⟩
  | h + 1, hh => by
    obtain ⟨l1, t, x, rfl, h1, h2⟩ := RunF.split hl h (by omega)
    rw [show (s.L + 1 - (h : Int)).toNat = (s.L + 1 - ((h + 1 : Nat) : Int)).toNat + 1 from by omega] at h2
    obtain ⟨z, t', rfl, hz, ht⟩ := h2
    rw [show s.L - (((s.L + 1 - ((h + 1 : Nat) : Int)).toNat : Nat) : Int) = (h : Int) from by omega] at hz
    exact ⟨l1 ++ [z], t', z.1, by simp, ⟨l1, z, x, rfl, h1, hz, rfl⟩, ht⟩
theorem RunF.len {s : Smp} {b : Int} {c : List Int} : ∀ {k : Nat} {x : Bool} {l : List (Bool × Int)}, RunF s b c k x l → l.length = k
  | 0, _, _, h => by obtain rfl := h; rfl
  | k + 1, _, _, ⟨z, t, h, _, ht⟩ => by subst h; simp [RunF.len ht]
theorem ddB_mem (x : Bool) : ∀ l : List Bool, x ∈ ddB l ↔ x ∈ l := by
  intro l
  obtain ⟨r, rfl⟩ : ∃ r : List Bool, l = r.reverse := ⟨l.reverse, by simp⟩
  induction r with
  | nil => simp [ddB]
  | cons y r ih =>
    rw [List.reverse_cons, ddB_snoc]
    split
    · rename_i h
      rw [ih, List.mem_append]
      constructor
      · exact fun h => .inl h
      · rintro (h1 | h1)
        · exact h1
        · obtain rfl := List.mem_singleton.1 h1
          obtain ⟨z, hz, hxz⟩ := List.any_eq_true.1 h
          obtain rfl := of_decide_eq_true hxz
          exact ih.1 hz
    · rw [List.mem_append, List.mem_append, ih]
theorem cnd_mem {s : Smp} {b : Int} {c : List Int} {h : Nat} {now : List Bool} {z : Bool × Int} : z ∈ cnd s b c h now ↔ ∃ x ∈ now, z ∈ stepL s b h (stB s c h) x ∧ (rstF s b c (s.L - h).toNat z.1).isSome = true := by
  show z ∈ (now.flatMap fun x => onL s b c h x (stepL s b h (stB s c h) x).length) ↔ _
  rw [List.mem_flatMap]
  constructor
  · rintro ⟨x, hx, h1⟩
    unfold onL at h1
    rw [List.take_length] at h1
    obtain ⟨h2, h3⟩ := List.mem_filter.1 h1
    exact ⟨x, hx, h2, h3⟩
  · rintro ⟨x, hx, h2, h3⟩
    refine ⟨x, hx, ?_⟩
    unfold onL
    rw [List.take_length]
    exact List.mem_filter.2 ⟨h2, h3⟩
theorem nowN_mem {s : Smp} {b : Int} {c : List Int} (hc : canF s b c = true) : ∀ {h : Nat} {x : Bool}, (h : Int) ≤ s.L + 1 → (x ∈ nowN s b c h ↔ (∃ l, PreF s b c h l x) ∧ (rstF s b c (s.L + 1 - h).toNat x).isSome = true)
  | 0, x, _ => by
    unfold canF at hc
    rw [nowN, List.mem_singleton, show (s.L + 1 - ((0 : Nat) : Int)).toNat = (s.L + 1).toNat from by omega]
    constructor
    · rintro rfl; exact ⟨⟨[], rfl, rfl⟩, hc⟩
    · rintro ⟨⟨l, _, h⟩, _⟩; exact h
  | h + 1, x, hh => by
    rw [nowN, ddB_mem, List.mem_map]
    have e : (s.L + 1 - ((h + 1 : Nat) : Int)).toNat = (s.L - (h : Int)).toNat := by omega
    have e1 : (s.L + 1 - (h : Int)).toNat = (s.L - (h : Int)).toNat + 1 := by omega
    have e2 : s.L - (((s.L - (h : Int)).toNat : Nat) : Int) = (h : Int) := by omega
    rw [e]
    constructor
    · rintro ⟨z, hz, rfl⟩
      obtain ⟨y, hy, h1, h2⟩ := cnd_mem.1 hz
      obtain ⟨⟨l, hl⟩, _⟩ := (nowN_mem hc (by omega)).1 hy
      exact ⟨⟨l ++ [z], l, z, y, rfl, hl, h1, rfl⟩, h2⟩
    · rintro ⟨⟨l, l', z, y, rfl, h1, h2, h3⟩, h4⟩
      subst h3
      refine ⟨z, cnd_mem.2 ⟨y, (nowN_mem hc (by omega)).2 ⟨⟨l', h1⟩, ?_⟩, h2, h4⟩, rfl⟩
      rw [e1, rst_some]
      exact ⟨z, by rw [e2]; exact h2, h4⟩
theorem opn_run {s : Smp} {b : Int} {c : List Int} (hc : canF s b c = true) {h : Nat} (hh : (h : Int) ≤ s.L) : opnH s b c h = true ↔ ∃ l, RunF s b c (s.L + 1).toNat false l ∧ (l.getD h (false, 0)).2 = 1 := by
  have e1 : (s.L + 1 - (h : Int)).toNat = (s.L - (h : Int)).toNat + 1 := by omega
  have e2 : s.L - (((s.L - (h : Int)).toNat : Nat) : Int) = (h : Int) := by omega
  unfold opnH
  rw [List.any_eq_true]
  constructor
  · rintro ⟨z, hz, h1⟩
    obtain ⟨x, hx, h2, h3⟩ := cnd_mem.1 hz
    obtain ⟨⟨l, hl⟩, _⟩ := (nowN_mem hc (by omega)).1 hx
    obtain ⟨t, ht⟩ := rst_run.1 h3
    refine ⟨l ++ z :: t, hl.join (by omega) ?_, ?_⟩
    · rw [e1]; exact ⟨z, t, rfl, by rw [e2]; exact h2, ht⟩
    · rw [List.getD_eq_getElem?_getD, List.getElem?_append_right (by rw [hl.len]; exact Nat.le_refl _), hl.len, Nat.sub_self]
      exact of_decide_eq_true h1
  · rintro ⟨l, hl, h1⟩
    obtain ⟨l1, t, x, rfl, h2, h3⟩ := hl.split h (by omega)
    have h3' := h3
    rw [e1] at h3
    obtain ⟨z, t', rfl, hz, ht⟩ := h3
    rw [e2] at hz
    rw [List.getD_eq_getElem?_getD, List.getElem?_append_right (by rw [h2.len]; exact Nat.le_refl _), h2.len, Nat.sub_self] at h1
    exact ⟨z, cnd_mem.2 ⟨x, (nowN_mem hc (by omega)).2 ⟨⟨l1, h2⟩, rst_run.2 ⟨_, h3'⟩⟩, hz, rst_run.2 ⟨t', ht⟩⟩, decide_eq_true h1⟩
theorem opnL_get {s : Smp} {b : Int} {c : List Int} {h : Nat} (hh : (h : Int) ≤ s.L) (h9 : s.L ≤ 9) : (opnL s b c).getD h false = opnH s b c h := by
  show (outN s b c (s.L + 1).toNat false).getD h false = _
  rw [outN_get (by omega), if_pos (by omega)]
theorem getD_setB {l : List Bool} {i o : Nat} {v : Bool} (hi : i < l.length) : (l.set i v).getD o false = if i = o then v else l.getD o false := by
  rw [List.getD_eq_getElem?_getD, List.getD_eq_getElem?_getD, List.getElem?_set]
  split
  · rename_i h; subst h; simp [hi]
  · rfl
theorem hlN_get {s : Smp} {c : List Int} (hv : VSm s) (hco : ChOk s c) {q : Kwn} (hq : KnOk q) (o : Nat) : ∀ n : Nat, (n : Int) ≤ s.L + 1 → ((hlN c q n).getD o false = true ↔ q.hol.getD o false = true ∨ ∃ h : Nat, h < n ∧ o = h * 4 + (c.getD h 0).toNat)
  | 0, _ => by
    rw [hlN]
    exact ⟨fun h => .inl h, fun h => h.resolve_right (fun ⟨m, hm, _⟩ => absurd hm (Nat.not_lt_zero m))⟩
  | n + 1, hn => by
    have ih := hlN_get hv hco hq o n (by omega)
    have hl := (kqN_ok (s := s) (b := 0) (c := c) hq n).h
    have hl' : (hlN c q n).length = 40 := hl
    have h9 := hv.l9
    have hp4 := hv.p4
    have hcn := hco.pp n (by omega)
    rw [hlN, show 0 + Int.toNat (n : Int) * 4 + Int.toNat (c.getD (0 + Int.toNat (n : Int) * 1) 0) * 1 = n * 4 + (c.getD n 0).toNat from by rw [show 0 + Int.toNat (n : Int) * 1 = n from by omega]; omega, getD_setB (by omega)]
    split
    · rename_i h; exact ⟨fun _ => .inr ⟨n, by omega, h.symm⟩, fun _ => rfl⟩
    · rename_i hne
      rw [ih]
      constructor
      · rintro (h1 | ⟨m, h1, h2⟩)
        · exact .inl h1
        · exact .inr ⟨m, by omega, h2⟩
      · rintro (h1 | ⟨m, h1, h2⟩)
        · exact .inl h1
        · by_cases hm : m = n
          · subst hm; exact absurd h2.symm hne
          · exact .inr ⟨m, by omega, h2⟩
theorem opN_get {s : Smp} {c : List Int} (hv : VSm s) (hco : ChOk s c) {q : Kwn} (hq : KnOk q) (op : List Bool) (o : Nat) : ∀ n : Nat, (n : Int) ≤ s.L + 1 → ((opN c op q n).getD o false = true ↔ q.opn.getD o false = true ∨ ∃ h : Nat, h < n ∧ o = (c.getD h 0).toNat ∧ op.getD h false = true)
  | 0, _ => by
    rw [opN]
    exact ⟨fun h => .inl h, fun h => h.resolve_right (fun ⟨m, hm, _⟩ => absurd hm (Nat.not_lt_zero m))⟩
  | n + 1, hn => by
    have ih := opN_get hv hco hq op o n (by omega)
    have hl' : (opN c op q n).length = 4 := by
      clear ih hn
      induction n with
      | zero => exact hq.o
      | succ n ih => rw [opN, List.length_set]; exact ih
    have h9 := hv.l9
    have hp4 := hv.p4
    have hcn := hco.pp n (by omega)
    rw [opN, show 0 + Int.toNat (n : Int) * 1 = n from by omega, show Int.toNat (c.getD n 0) * 1 = (c.getD n 0).toNat from by omega, getD_setB (by omega)]
    split
    · rename_i h
      subst h
      rw [Bool.or_eq_true, ih]
      constructor
      · rintro ((h1 | ⟨m, h1, h2⟩) | h1)
        · exact .inl h1
        · exact .inr ⟨m, by omega, h2⟩
        · exact .inr ⟨n, by omega, rfl, h1⟩
      · rintro (h1 | ⟨m, h1, h2, h3⟩)
        · exact .inl (.inl h1)
        · by_cases hm : m = n
          · subst hm; exact .inr h3
          · exact .inl (.inr ⟨m, by omega, h2, h3⟩)
    · rename_i hne
      rw [ih]
      constructor
      · rintro (h1 | ⟨m, h1, h2⟩)
        · exact .inl h1
        · exact .inr ⟨m, by omega, h2⟩
      · rintro (h1 | ⟨m, h1, h2⟩)
        · exact .inl h1
        · by_cases hm : m = n
          · subst hm; exact absurd h2.1.symm hne
          · exact .inr ⟨m, by omega, h2⟩
theorem ask_hol {s : Smp} (hv : VSm s) {b : Int} (o : Nat) : (askF s b).hol.getD o false = true ↔ ∃ c ∈ chainsL s b, canF s b c = true ∧ ∃ h : Nat, (h : Int) ≤ s.L ∧ o = h * 4 + (c.getD h 0).toNat := by
  have h0 := hv.l0
  have gen : ∀ (l : List (List Int)) (q : Kwn), KnOk q → (∀ c ∈ l, ChOk s c) → ((l.foldl (askU s b) q).hol.getD o false = true ↔ q.hol.getD o false = true ∨ ∃ c ∈ l, canF s b c = true ∧ ∃ h : Nat, (h : Int) ≤ s.L ∧ o = h * 4 + (c.getD h 0).toNat) := fun l => by
    induction l with
    | nil => intro q _ _; simp
    | cons c l ih =>
      intro q hq hl
      rw [List.foldl_cons, ih _ (askU_ok hq) (fun c hc => hl c (List.mem_cons_of_mem _ hc))]
      have hco := hl c (List.mem_cons_self ..)
      unfold askU
      split
      · rename_i hc
        rw [show (Kwn.mk (hlN c q (s.L + 1).toNat) _ _ _).hol = hlN c q (s.L + 1).toNat from rfl, hlN_get hv hco hq o _ (by omega)]
        constructor
        · rintro ((h1 | ⟨h, h1, h2⟩) | ⟨c', h1, h2⟩)
          · exact .inl h1
          · exact .inr ⟨c, List.mem_cons_self .., hc, h, by omega, h2⟩
          · exact .inr ⟨c', List.mem_cons_of_mem _ h1, h2⟩
        · rintro (h1 | ⟨c', h1, h2, h, h3, h4⟩)
          · exact .inl (.inl h1)
          · rcases List.mem_cons.1 h1 with rfl | h1
            · exact .inl (.inr ⟨h, by omega, h4⟩)
            · exact .inr ⟨c', h1, h2, h, h3, h4⟩
      · rename_i hc
        constructor
        · rintro (h1 | ⟨c', h1, h2⟩)
          · exact .inl h1
          · exact .inr ⟨c', List.mem_cons_of_mem _ h1, h2⟩
        · rintro (h1 | ⟨c', h1, h2, h3⟩)
          · exact .inl h1
          · rcases List.mem_cons.1 h1 with rfl | h1
            · exact absurd h2 hc
            · exact .inr ⟨c', h1, h2, h3⟩
  have := gen (chainsL s b) kn0 ⟨rfl, rfl⟩ (fun c hc => chainsL_ok hv hc)
  unfold askF
  rw [this]
  have hz : kn0.hol.getD o false = false := by
    rw [kn0, List.getD_eq_getElem?_getD, List.getElem?_replicate]; split <;> rfl
  rw [hz]
  exact ⟨fun h => h.resolve_left (by decide), fun h => .inr h⟩
theorem ask_opn {s : Smp} (hv : VSm s) {b : Int} (o : Nat) : (askF s b).opn.getD o false = true ↔ ∃ c ∈ chainsL s b, canF s b c = true ∧ ∃ h : Nat, (h : Int) ≤ s.L ∧ o = (c.getD h 0).toNat ∧ opnH s b c h = true := by
  have h0 := hv.l0
  have h9 := hv.l9
  have gen : ∀ (l : List (List Int)) (q : Kwn), KnOk q → (∀ c ∈ l, ChOk s c) → ((l.foldl (askU s b) q).opn.getD o false = true ↔ q.opn.getD o false = true ∨ ∃ c ∈ l, canF s b c = true ∧ ∃ h : Nat, (h : Int) ≤ s.L ∧ o = (c.getD h 0).toNat ∧ opnH s b c h = true) := fun l => by
    induction l with
    | nil => intro q _ _; simp
    | cons c l ih =>
      intro q hq hl
      rw [List.foldl_cons, ih _ (askU_ok hq) (fun c hc => hl c (List.mem_cons_of_mem _ hc))]
      have hco := hl c (List.mem_cons_self ..)
      unfold askU
      split
      · rename_i hc
        rw [show (Kwn.mk _ (opN c (opnL s b c) q (s.L + 1).toNat) _ _).opn = opN c (opnL s b c) q (s.L + 1).toNat from rfl, opN_get hv hco hq _ o _ (by omega)]
        constructor
        · rintro ((h1 | ⟨h, h1, h2, h3⟩) | ⟨c', h1, h2⟩)
          · exact .inl h1
          · exact .inr ⟨c, List.mem_cons_self .., hc, h, by omega, h2, by rw [opnL_get (by omega) h9] at h3; exact h3⟩
          · exact .inr ⟨c', List.mem_cons_of_mem _ h1, h2⟩
        · rintro (h1 | ⟨c', h1, h2, h, h3, h4, h5⟩)
          · exact .inl (.inl h1)
          · rcases List.mem_cons.1 h1 with rfl | h1
            · exact .inl (.inr ⟨h, by omega, h4, by rw [opnL_get (by omega) h9]; exact h5⟩)
            · exact .inr ⟨c', h1, h2, h, h3, h4, h5⟩
      · rename_i hc
        constructor
        · rintro (h1 | ⟨c', h1, h2⟩)
          · exact .inl h1
          · exact .inr ⟨c', List.mem_cons_of_mem _ h1, h2⟩
        · rintro (h1 | ⟨c', h1, h2, h3⟩)
          · exact .inl h1
          · rcases List.mem_cons.1 h1 with rfl | h1
            · exact absurd h2 hc
            · exact .inr ⟨c', h1, h2, h3⟩
  have := gen (chainsL s b) kn0 ⟨rfl, rfl⟩ (fun c hc => chainsL_ok hv hc)
  unfold askF
  rw [this]
  have hz : kn0.opn.getD o false = false := by
    rw [kn0, List.getD_eq_getElem?_getD, List.getElem?_replicate]; split <;> rfl
  rw [hz]
  exact ⟨fun h => h.resolve_left (by decide), fun h => .inr h⟩
theorem ask_least {s : Smp} {b : Int} (hp : possF s b = true) : (∃ c ∈ chainsL s b, canF s b c = true ∧ lsN s b c = (askF s b).least) ∧ ∀ c ∈ chainsL s b, canF s b c = true → (askF s b).least ≤ lsN s b c := by
  have gen : ∀ (l : List (List Int)) (q : Kwn), ((l.foldl (askU s b) q).sm = true → (q.sm = true ∧ (l.foldl (askU s b) q).least = q.least) ∨ ∃ c ∈ l, canF s b c = true ∧ lsN s b c = (l.foldl (askU s b) q).least) ∧ ((q.sm = true → (l.foldl (askU s b) q).least ≤ q.least) ∧ ∀ c ∈ l, canF s b c = true → (l.foldl (askU s b) q).least ≤ lsN s b c) := fun l => by
    induction l with
    | nil => intro q; exact ⟨fun h => .inl ⟨h, rfl⟩, fun _ => Int.le_refl _, fun c hc => by cases hc⟩
    | cons c l ih =>
      intro q
      rw [List.foldl_cons]
      obtain ⟨i1, i2, i3⟩ := ih (askU s b q c)
      by_cases hc : canF s b c = true
      · have e : (askU s b q c).least = if q.sm = true ∧ ¬ lsN s b c < q.least then q.least else lsN s b c := by unfold askU; rw [if_pos hc]
        have e2 : (askU s b q c).sm = true := by unfold askU; rw [if_pos hc]
        refine ⟨fun h => ?_, fun hq => ?_, fun c' hc' hcc => ?_⟩
        · rcases i1 h with ⟨_, h2⟩ | ⟨c', h1, h2⟩
          · rw [h2, e]
            split
            · rename_i hh; exact .inl ⟨hh.1, rfl⟩
            · exact .inr ⟨c, List.mem_cons_self .., hc, rfl⟩
          · exact .inr ⟨c', List.mem_cons_of_mem _ h1, h2⟩
        · have := i2 e2
          rw [e] at this
          split at this
          · exact this
          · rename_i hh
            have : lsN s b c < q.least := Decidable.byContradiction fun g => hh ⟨hq, g⟩
            omega
        · rcases List.mem_cons.1 hc' with rfl | hc'
          · have := i2 e2
            rw [e] at this
            split at this
            · rename_i hh; omega
            · exact this
          · exact i3 c' hc' hcc
      · have e : askU s b q c = q := by unfold askU; rw [if_neg hc]
        rw [e] at i1 i2 i3 ⊢
        refine ⟨fun h => ?_, i2, fun c' hc' hcc => ?_⟩
        · rcases i1 h with h1 | ⟨c', h1, h2⟩
          · exact .inl h1
          · exact .inr ⟨c', List.mem_cons_of_mem _ h1, h2⟩
        · rcases List.mem_cons.1 hc' with rfl | hc'
          · exact absurd hcc hc
          · exact i3 c' hc' hcc
  obtain ⟨g1, _, g3⟩ := gen (chainsL s b) kn0
  have hsm := askF_sm s b
  rw [hp] at hsm
  exact ⟨(g1 hsm).resolve_left (fun h => by cases h.1), g3⟩
theorem pplN_mem {l : List Bool} {n : Nat} {e : Int} : e ∈ pplN l n ↔ ∃ i : Nat, i < n ∧ l.getD i false = true ∧ e = i := by
  unfold pplN
  constructor
  · intro h
    obtain ⟨i, hi, rfl⟩ := List.mem_map.1 h
    obtain ⟨h1, h2⟩ := List.mem_filter.1 hi
    exact ⟨i, List.mem_range.1 h1, h2, rfl⟩
  · rintro ⟨i, h1, h2, rfl⟩
    exact List.mem_map.2 ⟨i, List.mem_filter.2 ⟨List.mem_range.2 h1, h2⟩, rfl⟩
theorem sure_ok {s : Smp} (hv : VSm s) (hc : consF s = true) : sureE s true = 0 := by
  unfold sureE
  rw [if_neg (fun h => h (chkS_0.2 hv)), if_neg (by decide), if_neg (by rw [hc]; decide)]
theorem opE_ok {s : Smp} (hv : VSm s) (hc : consF s = true) {b : Int} (hb : 0 ≤ b ∧ b < s.B) : opE s b = 0 := by
  unfold opE
  rw [decide_eq_true (by omega)]; exact sure_ok hv hc
theorem hdE_ok {s : Smp} (hv : VSm s) (hc : consF s = true) {b h : Int} (hb : 0 ≤ b ∧ b < s.B) (hh : 0 ≤ h ∧ h ≤ s.L) : hdE s b h = 0 := by
  unfold hdE
  rw [decide_eq_true (by omega)]; exact sure_ok hv hc
theorem opL_mem {s : Smp} (hv : VSm s) {b : Int} (he : opE s b = 0) {e : Int} : e ∈ opL s b ↔ ∃ c ∈ chainsL s b, canF s b c = true ∧ ∃ h : Nat, (h : Int) ≤ s.L ∧ c.getD h 0 = e ∧ opnH s b c h = true := by
  unfold opL
  rw [if_pos he]
  show e ∈ pplN _ _ ↔ _
  rw [pplN_mem]
  constructor
  · rintro ⟨i, hi, h1, rfl⟩
    obtain ⟨c, h2, h3, h, h4, h5, h6⟩ := (ask_opn hv i).1 h1
    have := (chainsL_ok hv h2).pp h h4
    exact ⟨c, h2, h3, h, h4, by omega, h6⟩
  · rintro ⟨c, h2, h3, h, h4, h5, h6⟩
    have := (chainsL_ok hv h2).pp h h4
    exact ⟨e.toNat, by omega, (ask_opn hv _).2 ⟨c, h2, h3, h, h4, by omega, h6⟩, by omega⟩
theorem hdL_mem {s : Smp} (hv : VSm s) {b : Int} {h : Nat} (hh : (h : Int) ≤ s.L) (he : hdE s b h = 0) {e : Int} : e ∈ hdL s b h ↔ ∃ c ∈ chainsL s b, canF s b c = true ∧ c.getD h 0 = e := by
  have h9 := hv.l9
  have hp4 := hv.p4
  unfold hdL
  rw [if_pos he]
  show e ∈ pplN _ _ ↔ _
  rw [pplN_mem]
  have hd : ∀ i, i < 4 → (hdM s b h).getD i false = (askF s b).hol.getD (h * 4 + i) false := fun i hi => by
    unfold hdM
    rw [List.getD_eq_getElem?_getD, List.getElem?_take_of_lt hi, List.getElem?_drop, Int.toNat_natCast, List.getD_eq_getElem?_getD]
  constructor
  · rintro ⟨i, hi, h1, rfl⟩
    rw [hd i (by omega)] at h1
    obtain ⟨c, h2, h3, h', h4, h5⟩ := (ask_hol hv _).1 h1
    have := (chainsL_ok hv h2).pp h' h4
    obtain rfl : h = h' := by omega
    exact ⟨c, h2, h3, by omega⟩
  · rintro ⟨c, h2, h3, h4⟩
    have := (chainsL_ok hv h2).pp h hh
    exact ⟨e.toNat, by omega, by rw [hd _ (by omega)]; exact (ask_hol hv _).2 ⟨c, h2, h3, h, hh, by omega⟩, by omega⟩
end Go.Sp
/-
  The document's examples, computed.
-/
namespace Go.Sp
open Go Go.Proofs
def twoS (m : List Sgt) : Smp := ⟨2, 3, 4, 0, [false, false, true], [⟨0, 0, 1, 1, 2⟩, ⟨0, 1, 2, 3, 3⟩, ⟨1, 0, 1, 2, 2⟩], [⟨0, 2, true⟩, ⟨1, 4, true⟩] ++ m⟩
abbrev badG : Sgt := ⟨0, 2, false⟩
theorem two_few (m : List Sgt) (h : m.length ≤ 1) : Few (twoS m) := ⟨by simp [twoS], by simp [twoS], by simp [twoS]; omega⟩
theorem aw_h : hdE (twoS []) 0 1 = 0 ∧ hdL (twoS []) 0 1 = [0, 1] := by decide +kernel
theorem aw_o : opE (twoS []) 0 = 0 ∧ opL (twoS []) 0 = [2] := by decide +kernel
theorem aw_v : vdE (twoS []) = 0 ∧ vdL (twoS []) = [3, 2] := by decide +kernel
theorem aw_a : alF (twoS []) = 3 := by decide +kernel
theorem aw_l : lsL (twoS []) = [0, 0] := by decide +kernel
theorem aw_f : frsE (twoS [badG]) = (5, 0) := by decide +kernel
theorem aw_x : chkS (twoS [badG]) = 0 ∧ lvN (twoS [badG]) 2 = [3] := by decide +kernel
theorem aw_x2 : levL (twoS [badG]) = [3] := by
  unfold levL lvS
  rw [if_pos aw_x.1, show (twoS [badG]).B.toNat = 2 from rfl, aw_x.2]
  simp
end Go.Sp
/-
  The document's examples, walked: two, awake.
-/
namespace Go.Sp
open Go Go.Proofs
theorem between_c (a b : Int) (w : World) : CnV Tryz.prog 49 #[vi a, vi b] w (.agg #[vi a, vi b]) := by
  refine cnv (vs := [_, _]) Tryz.func49 rfl rfl ?_
  all_goals refine tc_seq fun K1 hK1 => ?_; refine tc_region ?_; refine tl_e (e_allocN rfl) rfl (fun b4 _ => ?_); refine tl_nil ?_; ((refine hK1 ?_; try (clear hK1; clear K1)))
  all_goals refine tc_seq fun K2 hK2 => ?_; refine tc_region ?_; refine tl_q (y_move rfl) rfl ?_; refine tl_q (y_move rfl) rfl ?_; refine tl_q (y_build_g (by repeat constructor)) rfl ?_; refine tl_e (e_storeW rfl rfl (by repeat constructor) (by rfl) (by rfl) (by simp [Value.oneCell'])) rfl (fun _ _ => ?_); refine tl_nil ?_; ((refine hK2 ?_; try (clear hK2; clear K2)))
  all_goals refine tc_ret ?_; (repeat (first | refine tk_then_ret ?_))
  all_goals (refine tk_ret rfl rfl (.cons (.agg inferInstance rfl (by repeat constructor) (by rfl)) .nil) ?_)
  all_goals (
   exact fun w' hw' => ⟨rfl, hw'.fr (by simp)⟩)
set_option maxHeartbeats 1000000 in
theorem two_c (m : List Sgt) (hm : m.length ≤ 1) (mv : Value) (w : World) (hr : RdS 3 sgE w mv m) :
    CnX Tryz.prog 48 #[mv] w [] (fun y : Nat × Nat × Nat × Nat × List Value => smV (twoS m) (.slice (some ⟨y.1, 0, none⟩) 3 3) (.slice (some ⟨y.2.1, 0, none⟩) 3 3) (.slice (some ⟨y.2.2.1, 0, none⟩) (2 + m.length) y.2.2.2.1))
      (fun y w' => RdSm w' (twoS m) (.slice (some ⟨y.1, 0, none⟩) 3 3) (.slice (some ⟨y.2.1, 0, none⟩) 3 3) (.slice (some ⟨y.2.2.1, 0, none⟩) (2 + m.length) y.2.2.2.1)) := by
  refine cnx0 (vs := [_]) Tryz.func48 rfl rfl ?_
  all_goals refine tc_seq fun K1 hK1 => ?_; refine tc_region ?_; refine tl_e (e_allocN rfl) rfl (fun b2 _ => ?_); refine tl_nil ?_; ((refine hK1 ?_; try (clear hK1; clear K1)))
  all_goals refine tc_seq fun K2 hK2 => ?_; refine tc_region ?_; ((refine tl_e (e_bslice rfl (by (repeat (first | exact .nil | apply PV.one rfl rfl)); done) rfl rfl) rfl (fun b3 _ => ?_)))
  all_goals refine tl_e (e_callV rfl (.cons rfl (.cons rfl .nil)) (fun w' _ => between_c _ _ w')) rfl (fun _ _ => ?_); refine tl_q (y_build_g (by repeat constructor)) rfl ?_; refine tl_e (e_callV rfl (.cons rfl (.cons rfl .nil)) (fun w' _ => between_c _ _ w')) rfl (fun _ _ => ?_); refine tl_q (y_build_g (by repeat constructor)) rfl ?_; refine tl_e (e_callV rfl (.cons rfl (.cons rfl .nil)) (fun w' _ => between_c _ _ w')) rfl (fun _ _ => ?_); refine tl_q (y_build_g (by repeat constructor)) rfl ?_; refine tl_e (e_bsliceG rfl (.agg rfl rfl (.agg rfl rfl (.agg rfl rfl .nil))) rfl rfl) rfl (fun b10 _ => ?_); refine tl_q (y_build_g (by repeat constructor)) rfl ?_; refine tl_q (y_build_g (by repeat constructor)) rfl ?_; refine tl_e (e_bsliceG rfl (.agg rfl rfl (.agg rfl rfl .nil)) rfl rfl) rfl (fun b13 _ => ?_); refine tl_q (y_move rfl) rfl ?_; refine tl_e (e_append_own (old := [vi 0, vi 2, .bool true, vi 1, vi 4, .bool true]) (junk := []) rfl rfl rfl (by repeat constructor) rfl rfl (Nat.le_refl 2) (fun w' hw' => hr.fr (hw'.fr (w0 := w) (S := []) MI.m)) (one_flat sgE_one _) (by omega) rfl) rfl (fun r hq => ?_); refine tl_q (y_build_g (by repeat constructor)) rfl ?_; refine tl_e (e_storeW rfl rfl (by repeat constructor) (by rfl) (by rfl) (by simp [Value.oneCell'])) rfl (fun _ _ => ?_); refine tl_nil ?_; ((refine hK2 ?_; try (clear hK2; clear K2)))
  all_goals refine tc_ret ?_; (repeat (first | refine tk_then_ret ?_))
  all_goals (refine tk_ret rfl rfl (.cons (.agg inferInstance rfl (by repeat constructor) (by rfl)) .nil) ?_)
  all_goals (
   refine fun w' hw' => ⟨(b3, b10, r.1, r.2.1, r.2.2), rfl, hw'.fr (w0 := w) (S := []) MI.m, ?_, ?_, ?_⟩
   · exact RdS.own (xs := (twoS m).st) (cap := 3) (junk := []) boE_len hw' (b := b3) (by repeat constructor)
   · exact RdS.own (xs := (twoS m).ps) (cap := 3) (junk := []) psE_len hw' (b := b10) (by repeat constructor)
   · have := RdS.own (xs := (twoS m).sg) (cap := r.2.1) (junk := r.2.2) sgE_len hw' (b := r.1) (by repeat constructor)
     rw [show (twoS m).sg.length = 2 + m.length from by simp [twoS]; omega] at this
     exact this)
theorem two0 : Few (twoS []) := two_few [] (by simp)
theorem two1 : Few (twoS [badG]) := two_few [badG] (by simp)
theorem hold_v (tv pv gv : Value) (w : World) (hr : RdSm w (twoS []) tv pv gv) : CnX Tryz.prog 17 #[smV (twoS []) tv pv gv, vi 0, vi 1] w [] (fun y : Option Addr × Nat => .tuple #[slV 2 y, vi 0]) (fun y w' => RdI w' (slV 2 y) [0, 1]) := by
  have h := holders_c (twoS []) two0 0 1 tv pv gv w hr
  rw [aw_h.1, aw_h.2] at h
  exact h.imp id (fun _ => rfl) (fun _ h => h) (fun _ _ _ h => h.toI)
theorem open_v (tv pv gv : Value) (w : World) (hr : RdSm w (twoS []) tv pv gv) : CnX Tryz.prog 19 #[smV (twoS []) tv pv gv, vi 0] w [] (fun y : Option Addr × Nat => .tuple #[slV 1 y, vi 0]) (fun y w' => RdI w' (slV 1 y) [2]) := by
  have h := openers_c (twoS []) two0 0 tv pv gv w hr
  rw [aw_o.1, aw_o.2] at h
  exact h.imp id (fun _ => rfl) (fun _ h => h) (fun _ _ _ h => h.toI)
theorem verd_v (tv pv gv : Value) (w : World) (hr : RdSm w (twoS []) tv pv gv) : CnX Tryz.prog 26 #[smV (twoS []) tv pv gv] w [] (fun y : Option Addr × Nat => .tuple #[slV 2 y, vi 0]) (fun y w' => RdI w' (slV 2 y) [3, 2]) := by
  have h := verdicts_c (twoS []) two0 tv pv gv w hr
  rw [aw_v.1, aw_v.2] at h
  exact h.imp id (fun _ => rfl) (fun _ h => h) (fun _ _ _ h => h.toI)
theorem alik_v (tv pv gv : Value) (w : World) (hr : RdSm w (twoS []) tv pv gv) : CnV Tryz.prog 27 #[smV (twoS []) tv pv gv] w (.tuple #[vi 3, vi 0]) := by
  have h := alike_c (twoS []) two0 tv pv gv w hr
  rw [aw_a, aw_v.1] at h
  exact h
theorem leas_v (tv pv gv : Value) (w : World) (hr : RdSm w (twoS []) tv pv gv) : CnX Tryz.prog 28 #[smV (twoS []) tv pv gv] w [] (fun y : Option Addr × Nat => .tuple #[slV 2 y, vi 0]) (fun y w' => RdI w' (slV 2 y) [0, 0]) := by
  have h := least_c (twoS []) two0 tv pv gv w hr
  rw [aw_v.1, aw_l] at h
  exact h.imp id (fun _ => rfl) (fun _ h => h) (fun _ _ _ h => h.toI)
theorem frst_v (tv pv gv : Value) (w : World) (hr : RdSm w (twoS [badG]) tv pv gv) : CnV Tryz.prog 30 #[smV (twoS [badG]) tv pv gv] w (.tuple #[vi 5, vi 0]) := by
  have h := first_c (twoS [badG]) two1 tv pv gv w hr
  rw [aw_f] at h
  exact h
theorem leav_v (tv pv gv : Value) (w : World) (hr : RdSm w (twoS [badG]) tv pv gv) : CnX Tryz.prog 31 #[smV (twoS [badG]) tv pv gv] w [] (fun y : Option Addr × Nat => .tuple #[slV 1 y, vi 0]) (fun y w' => RdI w' (slV 1 y) [3]) := by
  have h := leaveAll_c (twoS [badG]) two1 tv pv gv w hr
  rw [aw_x.1, aw_x2] at h
  exact h
set_option maxHeartbeats 4000000 in
theorem awake_c (w : World) : CnV Tryz.prog 16 #[] w (.bool true) := by
  refine cnv (vs := []) Tryz.func16 rfl rfl ?_
  all_goals refine tc_seq fun K1 hK1 => ?_; refine tc_region ?_; refine tl_q (y_assign rfl) rfl ?_; refine tl_nil ?_; ((refine hK1 ?_; try (clear hK1; clear K1)))
  all_goals refine tc_seq fun K2 hK2 => ?_; refine tc_lay ([]) (SB.s .nil) (fun wl1 hl1 => ?_); refine tc_region ?_; refine tl_e (e_callX rfl (.cons rfl .nil) (fun w' hw' => two_c [] (by simp) (.slice none 0 0) w' (RdS.nil _ _ _ _))) rfl (fun x1 hx1 => ?_); refine tl_e (e_callX rfl (.cons rfl (.cons rfl (.cons rfl .nil))) (fun w' hw' => hold_v _ _ _ w' (hx1.1.fr (hw'.calm hx1.2 MI.m SB.s)))) rfl (fun y1 hy1 => ?_); refine tl_q (y_move rfl) rfl ?_; refine tl_q (y_extract rfl rfl) rfl ?_; refine tl_q (y_extract rfl rfl) rfl ?_; refine tl_q (y_assign rfl) rfl ?_; refine tl_q (y_assign rfl) rfl ?_; refine tl_nil ?_; ((refine hK2 ?_; try (clear hK2; clear K2)))
  all_goals refine tc_seq fun K3 hK3 => ?_; refine tc_lay ([]) (SB.s .nil) (fun wl2 hl2 => ?_); refine tc_region ?_; refine tl_e (e_callX rfl (.cons rfl .nil) (fun w' hw' => two_c [] (by simp) (.slice none 0 0) w' (RdS.nil _ _ _ _))) rfl (fun x2 hx2 => ?_); refine tl_e (e_callX rfl (.cons rfl (.cons rfl .nil)) (fun w' hw' => open_v _ _ _ w' (hx2.1.fr (hw'.calm hx2.2 MI.m SB.s)))) rfl (fun y2 hy2 => ?_); refine tl_q (y_move rfl) rfl ?_; refine tl_q (y_extract rfl rfl) rfl ?_; refine tl_q (y_extract rfl rfl) rfl ?_; refine tl_q (y_assign rfl) rfl ?_; refine tl_q (y_assign rfl) rfl ?_; refine tl_nil ?_; ((refine hK3 ?_; try (clear hK3; clear K3)))
  all_goals refine tc_seq fun K4 hK4 => ?_; refine tc_lay ([]) (SB.s .nil) (fun wl3 hl3 => ?_); refine tc_region ?_; refine tl_e (e_callX rfl (.cons rfl .nil) (fun w' hw' => two_c [] (by simp) (.slice none 0 0) w' (RdS.nil _ _ _ _))) rfl (fun x3 hx3 => ?_); refine tl_e (e_callX rfl (.cons rfl .nil) (fun w' hw' => verd_v _ _ _ w' (hx3.1.fr (hw'.calm hx3.2 MI.m SB.s)))) rfl (fun y3 hy3 => ?_); refine tl_q (y_move rfl) rfl ?_; refine tl_q (y_extract rfl rfl) rfl ?_; refine tl_q (y_extract rfl rfl) rfl ?_; refine tl_q (y_assign rfl) rfl ?_; refine tl_q (y_assign rfl) rfl ?_; refine tl_nil ?_; ((refine hK4 ?_; try (clear hK4; clear K4)))
  all_goals refine tc_seq fun K5 hK5 => ?_; refine tc_lay ([]) (SB.s .nil) (fun wl4 hl4 => ?_); refine tc_region ?_; refine tl_e (e_callX rfl (.cons rfl .nil) (fun w' hw' => two_c [] (by simp) (.slice none 0 0) w' (RdS.nil _ _ _ _))) rfl (fun x4 hx4 => ?_); refine tl_e (e_callV rfl (.cons rfl .nil) (fun w' hw' => alik_v _ _ _ w' (hx4.1.fr (hw'.calm hx4.2 MI.m SB.s)))) rfl (fun _ _ => ?_); refine tl_q (y_move rfl) rfl ?_; refine tl_q (y_extract rfl rfl) rfl ?_; refine tl_q (y_extract rfl rfl) rfl ?_; refine tl_q (y_assign rfl) rfl ?_; refine tl_q (y_assign rfl) rfl ?_; refine tl_nil ?_; ((refine hK5 ?_; try (clear hK5; clear K5)))
  all_goals refine tc_seq fun K6 hK6 => ?_; refine tc_lay ([]) (SB.s .nil) (fun wl5 hl5 => ?_); refine tc_region ?_; refine tl_e (e_callX rfl (.cons rfl .nil) (fun w' hw' => two_c [] (by simp) (.slice none 0 0) w' (RdS.nil _ _ _ _))) rfl (fun x5 hx5 => ?_); refine tl_e (e_callX rfl (.cons rfl .nil) (fun w' hw' => leas_v _ _ _ w' (hx5.1.fr (hw'.calm hx5.2 MI.m SB.s)))) rfl (fun y5 hy5 => ?_); refine tl_q (y_move rfl) rfl ?_; refine tl_q (y_extract rfl rfl) rfl ?_; refine tl_q (y_extract rfl rfl) rfl ?_; refine tl_q (y_assign rfl) rfl ?_; refine tl_q (y_assign rfl) rfl ?_; refine tl_nil ?_; ((refine hK6 ?_; try (clear hK6; clear K6)))
  all_goals refine tc_seq fun K7 hK7 => ?_; refine tc_lay ([]) (SB.s .nil) (fun wl6 hl6 => ?_); refine tc_region ?_; refine tl_q (y_build_g (by repeat constructor)) rfl ?_; refine tl_e (e_bsliceG rfl (.agg rfl rfl .nil) rfl rfl) rfl (fun b42 _ => ?_); refine tl_e (e_callX rfl (.cons rfl .nil) (fun w' hw' => two_c [badG] (by simp) _ w' (RdS.own0 (xs := [badG]) sgE_len hw' (by repeat constructor)))) rfl (fun x6 hx6 => ?_); refine tl_e (e_callV rfl (.cons rfl .nil) (fun w' hw' => frst_v _ _ _ w' (hx6.1.fr (hw'.calm hx6.2 MI.m SB.s)))) rfl (fun _ _ => ?_); refine tl_q (y_move rfl) rfl ?_; refine tl_q (y_extract rfl rfl) rfl ?_; refine tl_q (y_extract rfl rfl) rfl ?_; refine tl_q (y_assign rfl) rfl ?_; refine tl_q (y_assign rfl) rfl ?_; refine tl_nil ?_; ((refine hK7 ?_; try (clear hK7; clear K7)))
  all_goals refine tc_seq fun K8 hK8 => ?_; refine tc_lay ([]) (SB.s .nil) (fun wl7 hl7 => ?_); refine tc_region ?_; refine tl_q (y_build_g (by repeat constructor)) rfl ?_; refine tl_e (e_bsliceG rfl (.agg rfl rfl .nil) rfl rfl) rfl (fun b49 _ => ?_); refine tl_e (e_callX rfl (.cons rfl .nil) (fun w' hw' => two_c [badG] (by simp) _ w' (RdS.own0 (xs := [badG]) sgE_len hw' (by repeat constructor)))) rfl (fun x7 hx7 => ?_); refine tl_e (e_callX rfl (.cons rfl .nil) (fun w' hw' => leav_v _ _ _ w' (hx7.1.fr (hw'.calm hx7.2 MI.m SB.s)))) rfl (fun y7 hy7 => ?_); refine tl_q (y_move rfl) rfl ?_; refine tl_q (y_extract rfl rfl) rfl ?_; refine tl_q (y_extract rfl rfl) rfl ?_; refine tl_q (y_assign rfl) rfl ?_; refine tl_q (y_assign rfl) rfl ?_; refine tl_nil ?_; ((refine hK8 ?_; try (clear hK8; clear K8)))
  all_goals refine tc_seq fun K9 hK9 => ?_; refine tc_lay ([]) (SB.s .nil) (fun wl8 hl8 => ?_); refine tc_region ?_; refine tl_q (y_move rfl) rfl ?_; refine tl_q (y_eql rfl rfl) rfl ?_; refine tl_q (y_move rfl) rfl ?_; refine tl_qg rfl rfl (y_move rfl) rfl ?_; ((refine tl_eg rfl rfl rfl (e_bslice rfl (by (repeat (first | exact .nil | apply PV.one rfl rfl)); done) rfl rfl) (fun _ _ => ?_)))
  all_goals (refine tl_eg rfl rfl rfl (e_callV rfl (.cons rfl (.cons rfl .nil)) (fun w' hw' => rSame_c [0, 1] [0, 1] (by decide) (by decide) _ _ w' (hy1.1.fr (hw'.fr MI.m)) (RdI.own0 hw' (by repeat constructor)))) (fun _ _ => ?_)); refine tl_q (y_pick_t rfl rfl) rfl ?_; refine tl_q (y_move rfl) rfl ?_; refine tl_qg rfl rfl (y_move rfl) rfl ?_; refine tl_qg rfl rfl (y_eql rfl rfl) rfl ?_; refine tl_q (y_pick_t rfl rfl) rfl ?_; refine tl_q (y_move rfl) rfl ?_; refine tl_qg rfl rfl (y_move rfl) rfl ?_; ((refine tl_eg rfl rfl rfl (e_bslice rfl (by (repeat (first | exact .nil | apply PV.one rfl rfl)); done) rfl rfl) (fun _ _ => ?_)))
  all_goals (refine tl_eg rfl rfl rfl (e_callV rfl (.cons rfl (.cons rfl .nil)) (fun w' hw' => rSame_c [2] [2] (by decide) (by decide) _ _ w' (hy2.1.fr (hw'.fr MI.m)) (RdI.own0 hw' (by repeat constructor)))) (fun _ _ => ?_)); refine tl_q (y_pick_t rfl rfl) rfl ?_; refine tl_q (y_move rfl) rfl ?_; refine tl_qg rfl rfl (y_move rfl) rfl ?_; refine tl_qg rfl rfl (y_eql rfl rfl) rfl ?_; refine tl_q (y_pick_t rfl rfl) rfl ?_; refine tl_q (y_move rfl) rfl ?_; refine tl_qg rfl rfl (y_move rfl) rfl ?_; ((refine tl_eg rfl rfl rfl (e_bslice rfl (by (repeat (first | exact .nil | apply PV.one rfl rfl)); done) rfl rfl) (fun _ _ => ?_)))
  all_goals (refine tl_eg rfl rfl rfl (e_callV rfl (.cons rfl (.cons rfl .nil)) (fun w' hw' => rSame_c [3, 2] [3, 2] (by decide) (by decide) _ _ w' (hy3.1.fr (hw'.fr MI.m)) (RdI.own0 hw' (by repeat constructor)))) (fun _ _ => ?_)); refine tl_q (y_pick_t rfl rfl) rfl ?_; refine tl_q (y_move rfl) rfl ?_; refine tl_qg rfl rfl (y_move rfl) rfl ?_; refine tl_qg rfl rfl (y_eql rfl rfl) rfl ?_; refine tl_q (y_pick_t rfl rfl) rfl ?_; refine tl_q (y_move rfl) rfl ?_; refine tl_qg rfl rfl (y_move rfl) rfl ?_; refine tl_qg rfl rfl (y_eql rfl rfl) rfl ?_; refine tl_q (y_pick_t rfl rfl) rfl ?_; refine tl_q (y_move rfl) rfl ?_; refine tl_qg rfl rfl (y_move rfl) rfl ?_; refine tl_qg rfl rfl (y_eql rfl rfl) rfl ?_; refine tl_q (y_pick_t rfl rfl) rfl ?_; refine tl_q (y_move rfl) rfl ?_; refine tl_qg rfl rfl (y_move rfl) rfl ?_; ((refine tl_eg rfl rfl rfl (e_bslice rfl (by (repeat (first | exact .nil | apply PV.one rfl rfl)); done) rfl rfl) (fun _ _ => ?_)))
  all_goals (refine tl_eg rfl rfl rfl (e_callV rfl (.cons rfl (.cons rfl .nil)) (fun w' hw' => rSame_c [0, 0] [0, 0] (by decide) (by decide) _ _ w' (hy5.1.fr (hw'.fr MI.m)) (RdI.own0 hw' (by repeat constructor)))) (fun _ _ => ?_)); refine tl_q (y_pick_t rfl rfl) rfl ?_; refine tl_q (y_move rfl) rfl ?_; refine tl_qg rfl rfl (y_move rfl) rfl ?_; refine tl_qg rfl rfl (y_eql rfl rfl) rfl ?_; refine tl_q (y_pick_t rfl rfl) rfl ?_; refine tl_q (y_move rfl) rfl ?_; refine tl_qg rfl rfl (y_move rfl) rfl ?_; refine tl_qg rfl rfl (y_eql rfl rfl) rfl ?_; refine tl_q (y_pick_t rfl rfl) rfl ?_; refine tl_q (y_move rfl) rfl ?_; refine tl_qg rfl rfl (y_move rfl) rfl ?_; refine tl_qg rfl rfl (y_eql rfl rfl) rfl ?_; refine tl_q (y_pick_t rfl rfl) rfl ?_; refine tl_q (y_move rfl) rfl ?_; refine tl_qg rfl rfl (y_move rfl) rfl ?_; ((refine tl_eg rfl rfl rfl (e_bslice rfl (by (repeat (first | exact .nil | apply PV.one rfl rfl)); done) rfl rfl) (fun _ _ => ?_)))
  all_goals (refine tl_eg rfl rfl rfl (e_callV rfl (.cons rfl (.cons rfl .nil)) (fun w' hw' => rSame_c [3] [3] (by decide) (by decide) _ _ w' ((hy7.1.fr (hl8.calm hy7.2 MI.m SB.s)).fr (hw'.fr (w0 := wl8) (S := []) MI.m)) (RdI.own0 hw' (by repeat constructor)))) (fun _ _ => ?_)); refine tl_q (y_pick_t rfl rfl) rfl ?_; refine tl_q (y_assign rfl) rfl ?_; refine tl_nil ?_; ((refine hK9 ?_; try (clear hK9; clear K9)))
  all_goals refine tc_ret ?_; (repeat (first | refine tk_then_ret ?_))
  all_goals (refine tk_ret rfl rfl (.cons (.tmp rfl) .nil) ?_)
  all_goals (
   exact fun w' hw' => ⟨rfl, hw'.fr (w0 := w) (S := []) MI.m⟩)
end Go.Sp
/-
  SampleVerdicts, walked.
-/
namespace Go.Sp
open Go Go.Proofs
theorem RunF.mem {s : Smp} {b : Int} {c : List Int} : ∀ {k : Nat} {x : Bool} {l : List (Bool × Int)}, RunF s b c k x l → ∀ z ∈ l, z.2 = 0 ∨ z.2 = 1
  | 0, _, _, h, z, hz => by obtain rfl := h; cases hz
  | k + 1, _, _, ⟨y, t, h, hy, ht⟩, z, hz => by
    subst h
    rcases List.mem_cons.1 hz with rfl | hz
    · obtain ⟨n, _, _, rfl⟩ := mem_stepL.1 hy
      dsimp only
      split
      · exact .inr rfl
      · exact .inl rfl
    · exact RunF.mem ht z hz
theorem opn_none {s : Smp} (hv : VSm s) {b : Int} (h : (askF s b).opn = List.replicate 4 false) : ∀ c ∈ chainsL s b, canF s b c = true → ∀ h : Nat, (h : Int) ≤ s.L → opnH s b c h = false := fun c hc hcc n hn => by
  cases ho : opnH s b c n with
  | false => rfl
  | true =>
    have h1 := (ask_opn hv (b := b) (c.getD n 0).toNat).2 ⟨c, hc, hcc, n, hn, rfl, ho⟩
    rw [h, List.getD_eq_getElem?_getD, List.getElem?_replicate] at h1
    split at h1 <;> cases h1
theorem opL_nil {s : Smp} (hv : VSm s) {b : Int} (he : opE s b = 0) : (opL s b).length = 0 ↔ (askF s b).opn = List.replicate 4 false := by
  have hko : (askF s b).opn.length = 4 := (foldl_ok (chainsL s b)).o
  constructor
  · intro h
    have hno := List.length_eq_zero_iff.1 h
    apply List.ext_getElem (by simp [hko])
    intro i h1 h2
    rw [List.getElem_replicate]
    cases ho : (askF s b).opn[i] with
    | false => rfl
    | true =>
      exfalso
      have h3 : (askF s b).opn.getD i false = true := by rw [List.getD_eq_getElem?_getD, List.getElem?_eq_getElem h1, ho]; rfl
      obtain ⟨c, h4, h5, h, h6, h7, h8⟩ := (ask_opn hv i).1 h3
      have := (opL_mem hv he).2 ⟨c, h4, h5, h, h6, rfl, h8⟩
      rw [hno] at this; cases this
  · intro h
    rw [List.length_eq_zero_iff, List.eq_nil_iff_forall_not_mem]
    intro e hm
    obtain ⟨c, h4, h5, h', h6, h7, h8⟩ := (opL_mem hv he).1 hm
    rw [opn_none hv h c h4 h5 h' h6] at h8
    cases h8
theorem cons_poss {s : Smp} (hc : consF s = true) {k : Nat} (hk : k < s.B.toNat) : possF s (k : Int) = true := List.all_eq_true.1 hc k (List.mem_range.2 hk)
theorem vdL_v {s : Smp} (h : vdE s = 0) : vdL s = vdN s s.B.toNat := if_pos h
theorem lsL_v {s : Smp} (h : vdE s = 0) : lsL s = lsN' s s.B.toNat := if_pos h
theorem vdN_get {s : Smp} {n k : Nat} (h : k < n) : (vdN s n).getD k 0 = verdF (askF s k) := by
  rw [List.getD_eq_getElem?_getD, vdN, List.getElem?_map, List.getElem?_range h]; rfl
theorem lsN'_get {s : Smp} {n k : Nat} (h : k < n) : (lsN' s n).getD k 0 = (askF s k).least := by
  rw [List.getD_eq_getElem?_getD, lsN', List.getElem?_map, List.getElem?_range h]; rfl
theorem openersK_v {s : Smp} {b : Int} (hE : opE s b = 0) (hf : Few s) (tv pv gv : Value) (w : World) (hr : RdSm w s tv pv gv) :
    CnX Tryz.prog 19 #[smV s tv pv gv, vi b] w [] (fun y : Option Addr × Nat => .tuple #[slV (opL s b).length y, vi 0]) (fun y w' => RdI w' (slV (opL s b).length y) (opL s b)) := by
  have h := openers_c s hf b tv pv gv w hr
  rw [hE] at h
  exact h.imp id (fun _ => rfl) (fun _ h => h) (fun _ _ _ h => h.toI)
theorem leastI_c (s : Smp) (hf : Few s) (tv pv gv : Value) (w : World) (hr : RdSm w s tv pv gv) :
    CnX Tryz.prog 28 #[smV s tv pv gv] w [] (fun y : Option Addr × Nat => .tuple #[slV (lsL s).length y, vi (vdE s)]) (fun y w' => RdI w' (slV (lsL s).length y) (lsL s)) :=
  (least_c s hf tv pv gv w hr).imp id (fun _ => rfl) (fun _ h => h) (fun _ _ _ h => h.toI)
theorem RdI.opensK2 {w : World} {xs : List Int} {x : Option Addr × Nat} (h : RdI w (slV xs.length x) xs) : ∃ b o, (0 < xs.length → x.1 = some ⟨b, o, none⟩) ∧ ∀ w', Fr [] w w' → ∀ i, i < xs.length → w'.cell? ⟨b, o + i, none⟩ = some (vi (xs.getD i 0)) := by
  obtain ⟨ad, cap, b, o, e, had, hcell⟩ := h.open
  injection e with e1 e2 e3
  subst e1
  exact ⟨b, o, had, hcell⟩
end Go.Sp
/-
  SampleApart, walked.
-/
namespace Go.Sp
open Go Go.Proofs
def psQ (s : Smp) (b : Int) (n : Nat) : List Pas := ((List.range n).filter fun i => decide ((s.ps.getD i pas0).b = b)).map fun i => s.ps.getD i pas0
def sgQ (s : Smp) (b : Int) (n : Nat) : List Sgt := ((List.range n).filter fun i => decide ((s.sg.getD i sgt0).b = b)).map fun i => s.sg.getD i sgt0
theorem psQ_len (s : Smp) (b : Int) (n : Nat) : (psQ s b n).length ≤ n := filt_len
theorem sgQ_len (s : Smp) (b : Int) (n : Nat) : (sgQ s b n).length ≤ n := filt_len
theorem filt_getD {α : Type} (l : List α) (d : α) (p : α → Bool) : (((List.range l.length).filter fun i => p (l.getD i d)).map fun i => l.getD i d) = l.filter p := by
  have e : l = (List.range l.length).map fun i => l.getD i d := by
    apply List.ext_getElem (by simp)
    intro i h1 h2
    simp [List.getElem?_eq_getElem h1]
  conv => rhs; rw [e]
  rw [List.filter_map]; rfl
/-- The sample with the entries of a bottle alone. -/
def ownB (s : Smp) (b : Int) : Smp := { s with ps := psQ s b s.ps.length, sg := sgQ s b s.sg.length }
theorem Few.own {s : Smp} (h : Few s) (b : Int) : Few (ownB s b) := ⟨h.st, Nat.le_trans (psQ_len s b _) h.ps, Nat.le_trans (sgQ_len s b _) h.sg⟩
theorem VSm.own {s : Smp} (hv : VSm s) (b : Int) : VSm (ownB s b) := hv.sub (filt_sub s.ps pas0 _) (filt_sub s.sg sgt0 _)
theorem holdersK_v {s : Smp} {b h : Int} (hE : hdE s b h = 0) (hf : Few s) (tv pv gv : Value) (w : World) (hr : RdSm w s tv pv gv) :
    CnX Tryz.prog 17 #[smV s tv pv gv, vi b, vi h] w [] (fun y : Option Addr × Nat => .tuple #[slV (hdL s b h).length y, vi 0]) (fun y w' => RdI w' (slV (hdL s b h).length y) (hdL s b h)) := by
  have hh := holders_c s hf b h tv pv gv w hr
  rw [hE] at hh
  exact hh.imp id (fun _ => rfl) (fun _ h => h) (fun _ _ _ h => h.toI)
theorem leastK_v {s : Smp} (hE : vdE s = 0) (hf : Few s) (tv pv gv : Value) (w : World) (hr : RdSm w s tv pv gv) :
    CnX Tryz.prog 28 #[smV s tv pv gv] w [] (fun y : Option Addr × Nat => .tuple #[slV (lsL s).length y, vi 0]) (fun y w' => RdI w' (slV (lsL s).length y) (lsL s)) := by
  have h := leastI_c s hf tv pv gv w hr
  rw [hE] at h
  exact h
theorem opL_len {s : Smp} (hv : VSm s) (b : Int) : (opL s b).length ≤ 4 := by
  have hp4 := hv.p4
  unfold opL
  split
  · have := pplN_len (askF s b).opn s.P.toNat; show (pplN _ _).length ≤ 4; omega
  · exact Nat.zero_le _
theorem hdL_len {s : Smp} (hv : VSm s) (b h : Int) : (hdL s b h).length ≤ 4 := by
  have hp4 := hv.p4
  unfold hdL
  split
  · have := pplN_len (hdM s b h) s.P.toNat; show (pplN _ _).length ≤ 4; omega
  · exact Nat.zero_le _
end Go.Sp
/-
  Law's helpers: has, within, fewer.
-/
namespace Go.Sp
open Go Go.Proofs
theorem lhas_c (l : List Int) (n : Int) (hl : l.length ≤ 100) (lv : Value) (w : World) (hr : RdI w lv l) : CnV Tryz.prog 50 #[lv, vi n] w (.bool (decide (n ∈ l))) := by
  obtain ⟨ad, cp, b1, o1, rfl, had, hcell⟩ := hr.open
  refine cnv (vs := [_, _]) Tryz.func50 rfl rfl ?_
  all_goals refine tc_seq fun K1 hK1 => ?_; refine tc_region ?_; refine tl_q (y_assign rfl) rfl ?_; refine tl_nil ?_; ((refine hK1 ?_; try (clear hK1; clear K1)))
  all_goals refine tc_seq fun K2 hK2 => ?_; refine tc_seq fun K3 hK3 => ?_; refine tc_region ?_; refine tl_q (y_assign rfl) rfl ?_; refine tl_nil ?_; ((refine hK3 ?_; try (clear hK3; clear K3)))
  all_goals refine tc_block ?_
  all_goals (
   refine tc_loop (fun i : Nat => i ≤ l.length ∧ ∀ j, j < i → ¬ l.getD j 0 = n) (fun i => [(0, .slice ad l.length cp), (1, vi n), (5, vi i)]) (fun _ => [(w, [])]) (fun _ => []) (fun i => l.length - i) ?_ ?_
   · exact tk_start 0 ⟨Nat.zero_le _, fun j hj => absurd hj (Nat.not_lt_zero j)⟩ (.cons rfl (.cons rfl (.cons rfl .nil))) (fun _ h => h.subl SB.s SB.s)
   · rintro i ⟨hi, hno⟩
     all_goals refine tc_seq fun K4 hK4 => ?_; refine tc_seq fun K5 hK5 => ?_; refine tc_region ?_; refine tl_q (y_move rfl) rfl ?_; refine tl_q (y_move rfl) rfl ?_; refine tl_q (y_len rfl) rfl ?_; refine tl_q (y_lss rfl rfl) rfl ?_; refine tl_nil ?_; ((refine hK5 ?_; try (clear hK5; clear K5)))
     all_goals (
      refine tc_cond rfl (fun hc => ?_) (fun hc => ?_)
      · try simp only [qn1, qn2, qn3, qn4, qn5, qn6, qn7, qn8] at hc
        all_goals refine tc_skip ?_; ((refine hK4 ?_; try (clear hK4; clear K4)))
        all_goals refine tc_seq fun K6 hK6 => ?_; refine tc_block ?_; refine tc_seq fun K7 hK7 => ?_; refine tc_region ?_; refine tl_q (y_move rfl) rfl ?_; refine tl_q (y_move rfl) rfl ?_; refine tl_q (y_index rfl rfl (by omega) (had (by omega))) rfl ?_; ((refine tl_q (y_load1o (v := vi (l.getD i 0)) rfl (fun w' hw' => by rw [show Int.toNat (i : Int) * 1 = i from by omega]; exact hcell w' (hw'.fr (w0 := w) (S := []) MI.m) i (by omega))) rfl ?_))
        all_goals refine tl_q (y_move rfl) rfl ?_; refine tl_q (y_eql rfl rfl) rfl ?_; refine tl_nil ?_; ((refine hK7 ?_; try (clear hK7; clear K7)))
        all_goals (
         refine tc_cond rfl (fun hc => ?_) (fun hc => ?_)
         · try simp only [qn1, qn2, qn3, qn4, qn5, qn6, qn7, qn8] at hc
           all_goals refine tc_seq fun K8 hK8 => ?_; refine tc_region ?_; refine tl_q (y_assign rfl) rfl ?_; refine tl_nil ?_; ((refine hK8 ?_; try (clear hK8; clear K8)))
           all_goals refine tc_ret ?_; (repeat (first | refine tk_then_ret ?_ | refine tk_block_ret ?_))
           all_goals (refine tk_ret rfl rfl (.cons (.tmp rfl) .nil) ?_)
           all_goals (
            first
            | (have hE : n ∈ l := by rw [← hc]; exact getD_memG (by omega)
               rw [decide_eq_true hE]
               exact fun w' hw' => ⟨rfl, hw'.fr (w0 := w) (S := []) MI.m⟩)
            | (have hE : ¬ n ∈ l := fun hm => by
                 obtain ⟨j, hj, hjn⟩ := List.getElem_of_mem hm
                 refine hno j (by omega) ?_
                 rw [List.getD_eq_getElem?_getD, List.getElem?_eq_getElem hj]; exact hjn
               rw [decide_eq_false hE]
               exact fun w' hw' => ⟨rfl, hw'.fr (w0 := w) (S := []) MI.m⟩))
         · try simp only [qn1, qn2, qn3, qn4, qn5, qn6, qn7, qn8] at hc
           all_goals refine tc_skip ?_; ((refine hK6 ?_; try (clear hK6; clear K6)))
           all_goals refine tc_region ?_; refine tl_q (y_move rfl) rfl ?_; refine tl_q (y_add rfl rfl (by omega)) rfl ?_; refine tl_q (y_assign rfl) rfl ?_; refine tl_nil ?_
           all_goals (
            exact tk_round (i + 1) ⟨by omega, fun j hj => by rcases Nat.lt_succ_iff_lt_or_eq.1 hj with h | rfl; exact hno j h; exact hc⟩ (by omega) (.cons rfl (.cons rfl (.cons rfl .nil))) (fun _ h => h.subl SB.s SB.s)))
      · try simp only [qn1, qn2, qn3, qn4, qn5, qn6, qn7, qn8] at hc
        all_goals refine tc_exit ?_; ((refine hK2 ?_; try (clear hK2; clear K2)))
        all_goals refine tc_seq fun K9 hK9 => ?_; refine tc_region ?_; refine tl_q (y_assign rfl) rfl ?_; refine tl_nil ?_; ((refine hK9 ?_; try (clear hK9; clear K9)))
        all_goals refine tc_ret ?_; (repeat (first | refine tk_then_ret ?_))
        all_goals (refine tk_ret rfl rfl (.cons (.tmp rfl) .nil) ?_)
        all_goals (
         first
         | (have hE : n ∈ l := by rw [← hc]; exact getD_memG (by omega)
            rw [decide_eq_true hE]
            exact fun w' hw' => ⟨rfl, hw'.fr (w0 := w) (S := []) MI.m⟩)
         | (have hE : ¬ n ∈ l := fun hm => by
              obtain ⟨j, hj, hjn⟩ := List.getElem_of_mem hm
              refine hno j (by omega) ?_
              rw [List.getD_eq_getElem?_getD, List.getElem?_eq_getElem hj]; exact hjn
            rw [decide_eq_false hE]
            exact fun w' hw' => ⟨rfl, hw'.fr (w0 := w) (S := []) MI.m⟩))))
end Go.Sp
/-
  Lists of slices, read and made.
-/
namespace Go.Sp
open Go Go.Proofs
/-- A value of one cell. -/
abbrev Sv := { v : Value // v.oneCell' = true }
def svE (v : Sv) : List Value := [v.1]
theorem svE_len (v : Sv) : (svE v).length = 1 := rfl
theorem svE_one (v : Sv) : one' (svE v) := fun u hu => by obtain rfl := List.mem_singleton.1 hu; exact v.2
def sv0 : Sv := ⟨.slice none 0 0, rfl⟩
abbrev svS (n : Nat) (y : Option Addr × Nat) : Sv := ⟨slV n y, rfl⟩
/-- A slice reads so, and stays so as long as nothing but S turns. -/
def OKS {α : Type} (k : Nat) (enc : α → List Value) (w : World) (S : List Nat) (v : Value) (xs : List α) : Prop := RdS k enc w v xs ∧ (0 < xs.length → ∀ p m c, v = .slice (some p) m c → p.block < w.heap.size ∧ p.block ∉ S)
theorem RdS.frO {α : Type} {k : Nat} {enc : α → List Value} {w w' : World} {v : Value} {xs : List α} {S : List Nat} (h : RdS k enc w v xs) (f : Fr S w w') (hS : 0 < xs.length → sepS v S) : RdS k enc w' v xs := by
  by_cases h0 : 0 < xs.length
  · exact h.frS f (hS h0)
  · obtain ⟨h1, ad, cap, h2, _⟩ := h
    exact ⟨h1, ad, cap, h2, fun hn => absurd (Nat.pos_of_ne_zero hn) h0⟩
theorem OKS.rd' {α : Type} {k : Nat} {enc : α → List Value} {w w' : World} {S : List Nat} {v : Value} {xs : List α} (h : OKS k enc w S v xs) (f : Fr S w w') : RdS k enc w' v xs := h.1.frO f fun h0 p m c e hm => (h.2 h0 p m c e).2 hm
theorem OKS.step {α : Type} {k : Nat} {enc : α → List Value} {w w1 : World} {S S' : List Nat} {v : Value} {xs : List α} (h : OKS k enc w S v xs) (f : Fr S w w1) (hS : ∀ b ∈ S', b ∈ S ∨ w.heap.size ≤ b) : OKS k enc w1 S' v xs :=
  ⟨h.rd' f, fun h0 p m c e => by
    obtain ⟨h1, h2⟩ := h.2 h0 p m c e
    refine ⟨Nat.lt_of_lt_of_le h1 f.size, fun hm => ?_⟩
    rcases hS _ hm with g | g
    · exact h2 g
    · omega⟩
theorem HG.ownsK {bs : List (World × List Nat)} {H Hk : List (Nat × Obj)} {w : World} (hw : HG bs H w) (hk : Hk.Sublist H) {w0 : World} {S : List Nat} (hb : (w0, S) ∈ bs) : ∀ x ∈ Hk.map Prod.fst, x ∈ S ∨ w0.heap.size ≤ x := fun x hx => by
  obtain ⟨p, hp, rfl⟩ := List.mem_map.1 hx
  exact hw.own p (hk.subset hp) (w0, S) hb
theorem RdS.lt {α : Type} {k : Nat} {enc : α → List Value} (hk : ∀ x, (enc x).length = k) (h0 : 0 < k) {w : World} {v : Value} {xs : List α} (hr : RdS k enc w v xs) (hx : 0 < xs.length) : ∀ p m c, v = .slice (some p) m c → p.block < w.heap.size := fun p m c e => by
  obtain ⟨hl, ad, cap, e0, hc⟩ := hr
  obtain ⟨q, o, e2, hca⟩ := hc (by omega)
  rw [e0] at e
  injection e with e1
  rw [e2] at e1
  cases e1
  have hlen : 0 < (xs.flatMap enc).length := by rw [hl]; exact Nat.mul_pos hx h0
  have := hca.get 0 ((xs.flatMap enc)[0]'hlen) (by rw [List.getElem?_eq_getElem hlen])
  rcases Nat.lt_or_ge q w.heap.size with g | g
  · exact g
  · unfold World.cell? at this
    rw [show w.heap[(⟨q, o + 0, none⟩ : Addr).block]? = none from Array.getElem?_eq_none g] at this
    cases this
/-- What a call returned. -/
theorem OKS.mk' {α : Type} {k : Nat} {enc : α → List Value} (hk : ∀ x, (enc x).length = k) (h0 : 0 < k) {bs : List (World × List Nat)} {H Hk : List (Nat × Obj)} {w1 x2 : World} {S0 : List Nat} {v : Value} {xs : List α} (hw : HG bs H w1) (hs' : Hk.Sublist H) (hb : (x2, S0) ∈ bs) (hs : sepS v S0) (hr : RdS k enc x2 v xs) : OKS k enc w1 (Hk.map Prod.fst) v xs := by
  refine ⟨hr.frO (hw.fr hb) fun _ => hs, fun hx p m c e => ?_⟩
  have hlt := hr.lt hk h0 hx p m c e
  refine ⟨Nat.lt_of_lt_of_le hlt (hw.fr hb).size, fun hm => ?_⟩
  rcases hw.ownsK hs' hb _ hm with g | g
  · exact hs p m c e g
  · omega
/-- An own slice, let go. -/
theorem OKS.ofO {α : Type} {k : Nat} {enc : α → List Value} (hk : ∀ x, (enc x).length = k) {bs : List (World × List Nat)} {H' : List (Nat × Obj)} {w1 : World} {e : TypeId} {xs : List α} {oo : OwnB} (hok : okE k xs oo) (hw : HG bs (slE e enc xs oo ++ H') w1) : OKS k enc w1 (H'.map Prod.fst) (ouV xs.length oo) xs := by
  rcases oo with _ | ⟨b, cap, junk⟩
  · obtain rfl : xs = [] := hok
    exact ⟨RdS.nil k enc w1 0, fun h => absurd h (Nat.lt_irrefl 0)⟩
  · rw [slE_some] at hw
    have hn := hw.nodup
    rw [List.singleton_append, List.map_cons, List.nodup_cons] at hn
    refine ⟨?_, fun hx p m c e => by cases e; exact ⟨hw.lt List.mem_cons_self, hn.1⟩⟩
    refine ⟨flatS_len hk xs, some ⟨b, 0, none⟩, cap, rfl, fun _ => ⟨b, 0, rfl, ?_⟩⟩
    have := CA_pre (xs.flatMap enc) junk e (0, 0)
    rw [flatS_len hk] at this
    exact this.cells (hw.heap _ List.mem_cons_self)
def OKV {α : Type} (k : Nat) (enc : α → List Value) (w : World) (S : List Nat) (us : List Sv) (xss : List (List α)) : Prop := us.length = xss.length ∧ ∀ j, j < xss.length → OKS k enc w S (us.getD j sv0).1 (xss.getD j [])
theorem OKV.nil {α : Type} {k : Nat} {enc : α → List Value} {w : World} {S : List Nat} : OKV k enc w S [] [] := ⟨rfl, fun j hj => absurd hj (Nat.not_lt_zero j)⟩
theorem OKV.step {α : Type} {k : Nat} {enc : α → List Value} {w w1 : World} {S S' : List Nat} {us : List Sv} {xss : List (List α)} (h : OKV k enc w S us xss) (f : Fr S w w1) (hS : ∀ b ∈ S', b ∈ S ∨ w.heap.size ≤ b) : OKV k enc w1 S' us xss := ⟨h.1, fun j hj => (h.2 j hj).step f hS⟩
theorem getD_snocK {α : Type} {l : List α} {x z : α} {j : Nat} : (l ++ [x]).getD j z = if j < l.length then l.getD j z else if j = l.length then x else z := by
  rw [List.getD_eq_getElem?_getD, List.getD_eq_getElem?_getD]
  split
  · rename_i h; rw [List.getElem?_append_left h]
  · rename_i h
    rw [List.getElem?_append_right (by omega)]
    split
    · rename_i h2; subst h2; rw [Nat.sub_self]; rfl
    · rename_i h2; rw [List.getElem?_eq_none (by simp; omega)]; rfl
theorem OKV.snoc {α : Type} {k : Nat} {enc : α → List Value} {w : World} {S : List Nat} {us : List Sv} {xss : List (List α)} {v : Sv} {xs : List α} (h : OKV k enc w S us xss) (hv : OKS k enc w S v.1 xs) : OKV k enc w S (us ++ [v]) (xss ++ [xs]) := by
  refine ⟨by simp [h.1], fun j hj => ?_⟩
  rw [List.length_append, List.length_singleton] at hj
  rw [getD_snocK, getD_snocK, h.1]
  by_cases hlt : j < xss.length
  · rw [if_pos hlt, if_pos hlt]; exact h.2 j hlt
  · rw [if_neg hlt, if_neg hlt, if_pos (by omega), if_pos (by omega)]; exact hv
/-- A slice of slices reads so. -/
def RdLL {α : Type} (k : Nat) (enc : α → List Value) (w : World) (v : Value) (xss : List (List α)) : Prop := ∃ us : List Sv, RdS 1 svE w v us ∧ us.length = xss.length ∧ ∀ j, j < xss.length → RdS k enc w (us.getD j sv0).1 (xss.getD j [])
theorem RdLL.fr {α : Type} {k : Nat} {enc : α → List Value} {w w' : World} {v : Value} {xss : List (List α)} (h : RdLL k enc w v xss) (f : Fr [] w w') : RdLL k enc w' v xss := by
  obtain ⟨us, h1, h2, h3⟩ := h
  exact ⟨us, h1.fr f, h2, fun j hj => (h3 j hj).fr f⟩
theorem RdLL.nil {α : Type} (k : Nat) (enc : α → List Value) (w : World) (c : Nat) : RdLL k enc w (.slice none 0 c) [] := ⟨[], RdS.nil 1 svE w c, rfl, fun j hj => absurd hj (Nat.not_lt_zero j)⟩
theorem RdLL.one {α : Type} {k : Nat} {enc : α → List Value} {w : World} {v : Value} {xss : List (List α)} (h : RdLL k enc w v xss) : v.oneCell' = true := by obtain ⟨us, h1, _⟩ := h; exact h1.one
theorem RdLL.open {α : Type} {k : Nat} {enc : α → List Value} {w : World} {v : Value} {xss : List (List α)} (h : RdLL k enc w v xss) :
    ∃ ad cap b o, ∃ us : List Sv, v = .slice ad xss.length cap ∧ (0 < xss.length → ad = some ⟨b, o, none⟩) ∧ (∀ w', Fr [] w w' → ∀ i, i < xss.length → w'.cell? ⟨b, o + i, none⟩ = some (us.getD i sv0).1) ∧ ∀ w', Fr [] w w' → ∀ i, i < xss.length → RdS k enc w' (us.getD i sv0).1 (xss.getD i []) := by
  obtain ⟨us, h1, h2, h3⟩ := h
  obtain ⟨ad, cap, b, o, rfl, had, hcell⟩ := h1.open svE_len sv0
  rw [h2] at had
  refine ⟨ad, cap, b, o, us, by rw [h2], had, fun w' f i hi => ?_, fun w' f i hi => (h3 i hi).fr f⟩
  have := (hcell w' [] f (by simp) i (by omega)).get 0 _ rfl
  rw [Nat.mul_one, Nat.add_zero] at this
  exact this
theorem RdLL.ofO {α : Type} {k : Nat} {enc : α → List Value} {bs : List (World × List Nat)} {H H' : List (Nat × Obj)} {w wz : World} {S : List Nat} {us : List Sv} {xss : List (List α)} {e : TypeId} {oo : OwnB} (hok : okE 1 us oo) (hu : OKV k enc wz S us xss) (hw : HG bs H w) (hf : Fr S wz w) (hm : HT (slE e svE us oo) [] H H') : RdLL k enc w (ouV us.length oo) xss :=
  ⟨us, RdS.ofO svE_len hok hw hm, hu.1, fun j hj => (hu.2 j hj).rd' hf⟩
def NewV (w0 : World) (us : List Sv) : Prop := ∀ v ∈ us, NewS w0 v.1
theorem NewV.nil (w0 : World) : NewV w0 [] := fun v hv => by cases hv
theorem NewV.snoc {w0 : World} {us : List Sv} {v : Sv} (h : NewV w0 us) (hv : NewS w0 v.1) : NewV w0 (us ++ [v]) := fun u hu => by
  rcases List.mem_append.1 hu with hu | hu
  · exact h u hu
  · obtain rfl := List.mem_singleton.1 hu; exact hv
theorem NewS.sepN {w0 : World} {v : Value} {S : List Nat} (h : NewS w0 v) (hS : ∀ b ∈ S, b < w0.heap.size) : sepS v S := fun p m c e hm => by
  have h1 := h p m c e
  have h2 := hS _ hm
  omega
theorem NewS.le {w0 w1 : World} {v : Value} (h : NewS w1 v) (hs : w0.heap.size ≤ w1.heap.size) : NewS w0 v := fun p m c e => Nat.le_trans hs (h p m c e)
def RdLN {α : Type} (k : Nat) (enc : α → List Value) (w0 w : World) (v : Value) (xss : List (List α)) : Prop := ∃ us : List Sv, (RdS 1 svE w v us ∧ NewS w0 v) ∧ (us.length = xss.length ∧ NewV w0 us) ∧ ∀ j, j < xss.length → RdS k enc w (us.getD j sv0).1 (xss.getD j [])
theorem RdLN.fr {α : Type} {k : Nat} {enc : α → List Value} {w0 w w' : World} {v : Value} {xss : List (List α)} (h : RdLN k enc w0 w v xss) {S : List Nat} (hS : ∀ b ∈ S, b < w0.heap.size) (f : Fr S w w') : RdLN k enc w0 w' v xss := by
  obtain ⟨us, ⟨h1, h2⟩, ⟨h3, h4⟩, h5⟩ := h
  refine ⟨us, ⟨h1.frS f (h2.sepN hS), h2⟩, ⟨h3, h4⟩, fun j hj => (h5 j hj).frS f ?_⟩
  refine NewS.sepN (h4 _ ?_) hS
  exact getD_memG (by omega)
theorem RdLN.ll {α : Type} {k : Nat} {enc : α → List Value} {w0 w : World} {v : Value} {xss : List (List α)} (h : RdLN k enc w0 w v xss) : RdLL k enc w v xss := by
  obtain ⟨us, ⟨h1, h2⟩, ⟨h3, h4⟩, h5⟩ := h
  exact ⟨us, h1, h3, h5⟩
theorem RdLN.nil {α : Type} (k : Nat) (enc : α → List Value) (w0 w : World) (c : Nat) : RdLN k enc w0 w (.slice none 0 c) [] := ⟨[], ⟨RdS.nil 1 svE w c, NewS.nil _ _ _⟩, ⟨rfl, NewV.nil _⟩, fun j hj => absurd hj (Nat.not_lt_zero j)⟩
theorem RdLN.ofO {α : Type} {k : Nat} {enc : α → List Value} {bs : List (World × List Nat)} {H H' : List (Nat × Obj)} {w wz w0 : World} {S : List Nat} {us : List Sv} {xss : List (List α)} {e : TypeId} {oo : OwnB} (hok : okE 1 us oo) (hu : OKV k enc wz S us xss) (hn : NewV w0 us) (hw : HG bs H w) (hf : Fr S wz w) (hb : (w0, []) ∈ bs) (hm : HT (slE e svE us oo) [] H H') : RdLN k enc w0 w (ouV us.length oo) xss :=
  ⟨us, ⟨RdS.ofO svE_len hok hw hm, NewS.ofO hw hm hb⟩, ⟨hu.1, hn⟩, fun j hj => (hu.2 j hj).rd' hf⟩
end Go.Sp
/-
  The reference's Play.
-/
namespace Go.Sp
open Go Go.Proofs
/-- A truth: the hours of passes, and what was done. -/
structure Tth where
  hs : List Int
  ac : List (List Int)
structure RdTh (w : World) (t : Tth) (hv av : Value) : Prop where
  hs : RdI w hv t.hs
  ac : RdLL 1 inE w av t.ac
theorem RdTh.fr {w w' : World} {t : Tth} {hv av : Value} (h : RdTh w t hv av) (f : Fr [] w w') : RdTh w' t hv av := ⟨h.hs.fr f, h.ac.fr f⟩
abbrev tV (hv av : Value) : Value := .agg #[hv, av]
/-- How the seal of a bottle is, hour by hour. -/
def whN (s : Smp) (b : Int) (c acts : List Int) : Nat → Option (List Bool × Bool)
  | 0 => some ([], false)
  | h + 1 => match whN s b c acts h with
    | none => none
    | some (ws, br) => if acIs br (stB s c h) (acts.getD h 0) = true ∧ seenB s b h (acY br (acts.getD h 0)) = true then some (ws ++ [!acY br (acts.getD h 0)], acY br (acts.getD h 0)) else none
def playB (s : Smp) (t : Tth) (b : Nat) : Option (List Int × List Bool) := match heldF s b t.hs with
  | none => none
  | some l => match whN s b l (t.ac.getD b []) (s.L + 1).toNat with
    | none => none
    | some q => some (l, q.1)
def playN (s : Smp) (t : Tth) : Nat → Option (List (List Int) × List (List Bool))
  | 0 => some ([], [])
  | n + 1 => match playN s t n with
    | none => none
    | some q => match playB s t n with
      | none => none
      | some (l, ws) => some (q.1 ++ [l], q.2 ++ [ws])
def playF (s : Smp) (t : Tth) : Option (List (List Int) × List (List Bool)) := playN s t s.B.toNat
theorem whN_len {s : Smp} {b : Int} {c acts : List Int} : ∀ {h : Nat} {q : List Bool × Bool}, whN s b c acts h = some q → q.1.length = h
  | 0, q, e => by cases e; rfl
  | h + 1, q, e => by
    rw [whN] at e
    split at e
    · cases e
    · rename_i ws br h1
      split at e
      · cases e
        have := whN_len h1
        simp only at this
        simp [this]
      · cases e
theorem whN_none {s : Smp} {b : Int} {c acts : List Int} {n : Nat} (hn : whN s b c acts n = none) : ∀ m, n ≤ m → whN s b c acts m = none := by
  intro m hm
  obtain ⟨d, rfl⟩ : ∃ d, m = n + d := ⟨m - n, by omega⟩
  clear hm
  induction d with
  | zero => exact hn
  | succ d ih => rw [← Nat.add_assoc, whN, ih]
theorem playN_none {s : Smp} {t : Tth} {n : Nat} (hn : playN s t n = none) : ∀ m, n ≤ m → playN s t m = none := by
  intro m hm
  obtain ⟨d, rfl⟩ : ∃ d, m = n + d := ⟨m - n, by omega⟩
  clear hm
  induction d with
  | zero => exact hn
  | succ d ih => rw [← Nat.add_assoc, playN, ih]
theorem playN_len {s : Smp} {t : Tth} : ∀ {n : Nat} {q : List (List Int) × List (List Bool)}, playN s t n = some q → q.1.length = n ∧ q.2.length = n
  | 0, q, e => by cases e; exact ⟨rfl, rfl⟩
  | n + 1, q, e => by
    rw [playN] at e
    split at e
    · cases e
    · rename_i q' h1
      split at e
      · cases e
      · cases e
        have := playN_len h1
        simp [this]
/-- A truth that has as many hours and acts as a sample asks for. -/
structure Lst (s : Smp) (t : Tth) : Prop where
  hs : t.hs.length = s.ps.length
  an : (t.ac.length : Int) = s.B
  al : ∀ j, j < t.ac.length → ((t.ac.getD j []).length : Int) = s.L + 1
theorem heldF_none {s : Smp} (hv : VSm s) {b : Int} {ts : List Int} (hE : heldF s b ts = none) (hts : ts.length = s.ps.length) (tv pv gv hv' : Value) (w : World) (hr : RdSm w s tv pv gv) (hh : RdI w hv' ts) :
    CnX Tryz.prog 59 #[smV s tv pv gv, vi b, hv'] w [] (fun y : Option Addr × Nat => .tuple #[slV ([] : List Int).length y, .bool false]) (fun _ _ => True) := by
  have h := heldN_c s hv b ts hts tv pv gv hv' w hr hh
  rw [hE] at h
  exact h.imp id (fun _ => rfl) (fun _ h => h) (fun _ _ _ _ => trivial)
theorem heldF_some {s : Smp} (hv : VSm s) {b : Int} {ts c : List Int} (hE : heldF s b ts = some c) (hts : ts.length = s.ps.length) (tv pv gv hv' : Value) (w : World) (hr : RdSm w s tv pv gv) (hh : RdI w hv' ts) :
    CnX Tryz.prog 59 #[smV s tv pv gv, vi b, hv'] w [] (fun y : Option Addr × Nat => .tuple #[slV c.length y, .bool true]) (fun y w' => RdI w' (slV c.length y) c ∧ NewS w (slV c.length y)) := by
  have h := heldN_c s hv b ts hts tv pv gv hv' w hr hh
  rw [hE] at h
  exact h
theorem RdI.opensS {w : World} {xs : List Int} {x : Option Addr × Nat} {S : List Nat} (h : RdI w (slV xs.length x) xs) (hS : sepS (slV xs.length x) S) : ∃ b o, (0 < xs.length → x.1 = some ⟨b, o, none⟩) ∧ ∀ w', Fr S w w' → ∀ i, i < xs.length → w'.cell? ⟨b, o + i, none⟩ = some (vi (xs.getD i 0)) := by
  obtain ⟨ad, cap, b, o, e, had, hcell⟩ := RdS.opens (RdS.int.2 h) (fun _ => rfl) 0 hS
  injection e with e1 e2 e3
  subst e1
  refine ⟨b, o, had, fun w' f i hi => ?_⟩
  have := (hcell w' f i hi).get 0 _ rfl
  rw [Nat.mul_one] at this
  exact this
theorem ouV_one (n : Nat) (oo : OwnB) : (ouV n oo).oneCell' = true := by rcases oo with _ | ⟨b, c, j⟩ <;> rfl
abbrev svO (n : Nat) (oo : OwnB) : Sv := ⟨ouV n oo, ouV_one n oo⟩
set_option maxHeartbeats 4000000 in
theorem rPlay_c (s : Smp) (hf : Few s) (hv : VSm s) (t : Tth) (hl : Lst s t) (tv pv gv hvv avv : Value) (w : World) (hr : RdSm w s tv pv gv) (hrt : RdTh w t hvv avv) :
    CnX Tryz.prog 38 #[smV s tv pv gv, tV hvv avv] w [] (fun y : (Option Addr × Nat) × (Option Addr × Nat) => .tuple #[slV ((playF s t).getD ([], [])).1.length y.1, slV ((playF s t).getD ([], [])).2.length y.2, .bool (playF s t).isSome])
      (fun y w' => RdLN 1 inE w w' (slV ((playF s t).getD ([], [])).1.length y.1) ((playF s t).getD ([], [])).1 ∧ RdLN 1 boE w w' (slV ((playF s t).getD ([], [])).2.length y.2) ((playF s t).getD ([], [])).2) := by
  have hr0 := hr
  have ht0 := hrt
  have hb1 := hv.b1
  have hb3 := hv.b3
  have hl0 := hv.l0
  have hl9 := hv.l9
  have hst := hv.st
  have hla := hl.an
  obtain ⟨adt, cpt, bt, ot, rfl, hadt, hct⟩ := hr.st.open boE_len false
  obtain ⟨_, _, _, _, rfl, _, _⟩ := hr.ps.open psE_len pas0
  obtain ⟨_, _, _, _, rfl, _, _⟩ := hr.sg.open sgE_len sgt0
  obtain ⟨_, _, _, _, rfl, _, _⟩ := hrt.hs.open
  obtain ⟨ada, cpa, ba, oa, aus, rfl, hada, hca, hra⟩ := hrt.ac.open
  refine cnx0 (vs := [_, _]) Tryz.func38 rfl rfl ?_
  all_goals refine tc_seq fun K1 hK1 => ?_; refine tc_region ?_; refine tl_e (e_box rfl rfl rfl) rfl (fun b2 _ => ?_); refine tl_e (e_box rfl rfl rfl) rfl (fun b3 _ => ?_); refine tl_q (y_assign rfl) rfl ?_; refine tl_q (y_assign rfl) rfl ?_; refine tl_q (y_assign rfl) rfl ?_; refine tl_nil ?_; ((refine hK1 ?_; try (clear hK1; clear K1)))
  all_goals refine tc_seq fun K2 hK2 => ?_; refine tc_lay ([]) (SB.s .nil) (fun wl1 hl1 => ?_); refine tc_region ?_; refine tl_q (y_assign rfl) rfl ?_; refine tl_nil ?_; ((refine hK2 ?_; try (clear hK2; clear K2)))
  all_goals refine tc_seq fun K3 hK3 => ?_; refine tc_region ?_; refine tl_q (y_assign rfl) rfl ?_; refine tl_nil ?_; ((refine hK3 ?_; try (clear hK3; clear K3)))
  all_goals refine tc_seq fun K4 hK4 => ?_; refine tc_seq fun K5 hK5 => ?_; refine tc_region ?_; refine tl_q (y_assign rfl) rfl ?_; refine tl_nil ?_; ((refine hK5 ?_; try (clear hK5; clear K5)))
  all_goals refine tc_block ?_
  all_goals (
   refine tc_loop (fun p : Nat × (List (List Int) × List (List Bool)) × (List Sv × List Sv) × (OwnB × OwnB) × World => (p.1 : Int) ≤ s.B ∧ playN s t p.1 = some p.2.1 ∧ (okE 1 p.2.2.1.1 p.2.2.2.1.1 ∧ okE 1 p.2.2.1.2 p.2.2.2.1.2) ∧ OKV 1 inE p.2.2.2.2 ((slE 29 svE p.2.2.1.1 p.2.2.2.1.1 ++ slE 22 svE p.2.2.1.2 p.2.2.2.1.2).map Prod.fst) p.2.2.1.1 p.2.1.1 ∧ OKV 1 boE p.2.2.2.2 ((slE 29 svE p.2.2.1.1 p.2.2.2.1.1 ++ slE 22 svE p.2.2.1.2 p.2.2.2.1.2).map Prod.fst) p.2.2.1.2 p.2.1.2 ∧ NewV w p.2.2.1.1 ∧ NewV w p.2.2.1.2) (fun p => [(2, ptr b2), (3, ptr b3), (7, ouV p.2.2.1.1.length p.2.2.2.1.1), (8, ouV p.2.2.1.2.length p.2.2.2.1.2), (9, vi p.1)]) (fun p => [(p.2.2.2.2, (slE 29 svE p.2.2.1.1 p.2.2.2.1.1 ++ slE 22 svE p.2.2.1.2 p.2.2.2.1.2).map Prod.fst), (wl1, []), (w, [])]) (fun p => slE 29 svE p.2.2.1.1 p.2.2.2.1.1 ++ slE 22 svE p.2.2.1.2 p.2.2.2.1.2) (fun p => s.B.toNat - p.1) ?_ ?_
   · exact tk_lay [] (.refl _) fun wl2 hl2 => tk_start (0, ([], []), ([], []), (none, none), wl2) ⟨by dsimp only; omega, rfl, ⟨rfl, rfl⟩, OKV.nil, OKV.nil, NewV.nil _, NewV.nil _⟩ (.cons rfl (.cons rfl (.cons rfl (.cons rfl (.cons rfl .nil))))) (fun _ h => by rw [slE_none, slE_none]; exact h.subl SB.s SB.s)
   · rintro ⟨n, q, ⟨us, vs⟩, ⟨o1, o2⟩, wz⟩ ⟨hn, hpn, ⟨hok1, hok2⟩, hu, hvv, hnu, hnv⟩
     dsimp only at hn hpn hok1 hok2 hu hvv hnu hnv ⊢
     obtain ⟨S, hS⟩ : ∃ S, S = (slE 29 svE us o1 ++ slE 22 svE vs o2).map Prod.fst := ⟨_, rfl⟩
     rw [← hS] at hu hvv ⊢
     have hpl := playN_len hpn
     have hul := hu.1
     have hvl := hvv.1
     all_goals refine tc_seq fun K6 hK6 => ?_; refine tc_seq fun K7 hK7 => ?_; refine tc_region ?_; refine tl_q (y_move rfl) rfl ?_; refine tl_q (y_field rfl) rfl ?_; refine tl_q (y_load1f rfl (hl1.at (by repeat constructor)) MI.m (by simp) (by rfl)) rfl ?_; refine tl_q (y_lss rfl rfl) rfl ?_; refine tl_nil ?_; ((refine hK7 ?_; try (clear hK7; clear K7)))
     all_goals (
      refine tc_cond rfl (fun hc => ?_) (fun hc => ?_)
      · try simp only [qn1, qn2, qn3, qn4, qn5, qn6, qn7, qn8] at hc
        all_goals refine tc_skip ?_; ((refine hK6 ?_; try (clear hK6; clear K6)))
        all_goals refine tc_seq fun K8 hK8 => ?_; refine tc_block ?_; refine tc_seq fun K9 hK9 => ?_; (rcases hhf : heldF s (n : Nat) t.hs with _ | l)
        all_goals refine tc_region ?_; refine tl_q (y_loadWf rfl (hl1.at (by repeat constructor)) MI.m (by simp) (by rfl)) rfl ?_; refine tl_q (y_move rfl) rfl ?_; refine tl_q (y_field rfl) rfl ?_; refine tl_q (y_load1f rfl (hl1.at (by repeat constructor)) MI.m (by simp) (by rfl)) rfl ?_; ((first | refine tl_e (e_callX rfl (.cons rfl (.cons rfl (.cons rfl .nil))) (fun w' hw' => heldF_none hv hhf hl.hs _ _ _ _ w' (hr0.fr (hw'.fr (w0 := w) (S := []) MI.m)) (ht0.hs.fr (hw'.fr (w0 := w) (S := []) MI.m)))) rfl (fun y hy => ?_) | refine tl_e (e_callX rfl (.cons rfl (.cons rfl (.cons rfl .nil))) (fun w' hw' => (heldF_some hv hhf hl.hs _ _ _ _ w' (hr0.fr (hw'.fr (w0 := w) (S := []) MI.m)) (ht0.hs.fr (hw'.fr (w0 := w) (S := []) MI.m))).imp (val' := fun y : Option Addr × Nat => .tuple #[slV l.length y, .bool true]) (p' := fun y w2 => RdI w2 (slV l.length y) l ∧ sepS (slV l.length y) S ∧ NewS w (slV l.length y)) id (fun _ => rfl) (fun _ h => h) (fun _ _ _ hp => ⟨hp.1, by rw [hS]; exact hp.2.sep hw', hp.2.le (hw'.fr (w0 := w) (S := []) MI.m).size⟩))) rfl (fun y hy => ?_)))
        all_goals refine tl_q (y_move rfl) rfl ?_; refine tl_q (y_extract rfl rfl) rfl ?_; refine tl_q (y_extract rfl rfl) rfl ?_; refine tl_q (y_assign rfl) rfl ?_; refine tl_q (y_assign rfl) rfl ?_; refine tl_nil ?_; ((refine hK9 ?_; try (clear hK9; clear K9)))
        all_goals refine tc_seq fun K10 hK10 => ?_; refine tc_seq fun K11 hK11 => ?_; refine tc_region ?_; refine tl_q (y_move rfl) rfl ?_; refine tl_q (y_not rfl) rfl ?_; refine tl_nil ?_; ((refine hK11 ?_; try (clear hK11; clear K11)))
        all_goals (
         refine tc_cond rfl (fun hc => ?_) (fun hc => ?_)
         · try simp only [qn1, qn2, qn3, qn4, qn5, qn6, qn7, qn8] at hc
           all_goals ((first | (exfalso; with_reducible exact btf hc) | skip))
           all_goals refine tc_seq fun K12 hK12 => ?_; refine tc_region ?_; refine tl_q (y_assign rfl) rfl ?_; refine tl_q (y_assign rfl) rfl ?_; refine tl_q (y_assign rfl) rfl ?_; refine tl_nil ?_; ((refine hK12 ?_; try (clear hK12; clear K12)))
           all_goals refine tc_ret ?_; (repeat (first | refine tk_then_ret ?_ | refine tk_block_ret ?_))
           all_goals (refine tk_ret rfl rfl (.cons (.tmp rfl) (.cons (.tmp rfl) (.cons (.tmp rfl) .nil))) ?_)
           all_goals (
            first
            | (have hE : playF s t = none := by
                 have h1 : playB s t n = none := by unfold playB; rw [hhf]
                 have h2 : playN s t (n + 1) = none := by rw [playN, hpn]; simp only; rw [h1]
                 exact playN_none h2 _ (by omega)
               rw [hE]
               exact fun w' hw' => ⟨((none, 0), (none, 0)), rfl, hw'.fr (w0 := w) (S := []) MI.m, RdLN.nil _ _ _ _ _, RdLN.nil _ _ _ _ _⟩)
            | (have hE : playF s t = none := by
                 have h0 : whN s (n : Nat) l (t.ac.getD n []) (h + 1) = none := by rw [whN, hwh]; simp only; rw [if_neg (fun g => by simp_all)]
                 have h1 : playB s t n = none := by unfold playB; rw [hhf]; simp only; rw [whN_none h0 _ (by omega)]
                 have h2 : playN s t (n + 1) = none := by rw [playN, hpn]; simp only; rw [h1]
                 exact playN_none h2 _ (by omega)
               rw [hE]
               exact fun w' hw' => ⟨((none, 0), (none, 0)), rfl, hw'.fr (w0 := w) (S := []) MI.m, RdLN.nil _ _ _ _ _, RdLN.nil _ _ _ _ _⟩)
            | (obtain rfl : n = s.B.toNat := by omega
               have hE : playF s t = some q := hpn
               rw [hE]
               refine fun w' hw' => ⟨(ouA o1, ouA o2), ?_, hw'.fr (w0 := w) (S := []) MI.m, ?_, ?_⟩
               · show Ending.returned (outV [ouV us.length o1, ouV vs.length o2, .bool true]) = _
                 rw [hul, hvl]; rfl
               · have := RdLN.ofO hok1 hu hnu hw' (hw'.fr (w0 := wz) (S := S) MI.m) (w0 := w) MI.m (by repeat constructor)
                 rw [hul] at this; exact this
               · have := RdLN.ofO hok2 hvv hnv hw' (hw'.fr (w0 := wz) (S := S) MI.m) (w0 := w) MI.m (by repeat constructor)
                 rw [hvl] at this; exact this))
         · try simp only [qn1, qn2, qn3, qn4, qn5, qn6, qn7, qn8] at hc
           all_goals ((first | (exfalso; with_reducible exact bft hc) | skip))
           all_goals refine tc_skip ?_; ((refine hK10 ?_; try (clear hK10; clear K10)))
           all_goals refine tc_seq fun K13 hK13 => ?_; ((obtain ⟨hyr, hyw⟩ := hy; have hlo := heldF_ok hv hhf; obtain ⟨yb, yo, hady, hcy⟩ := hyr.1.opensS hyr.2.1))
           all_goals (have hnB : n < t.ac.length := by omega)
           all_goals ((have hal := hl.al n hnB; obtain ⟨adn, cpn, bn, on, hen, hadn, hcn⟩ := (hra w (Fr.refl _ _) n hnB).open inE_len 0))
           all_goals refine tc_region ?_; refine tl_q (y_assign rfl) rfl ?_; refine tl_nil ?_; ((refine hK13 ?_; try (clear hK13; clear K13)))
           all_goals refine tc_seq fun K14 hK14 => ?_; refine tc_region ?_; refine tl_q (y_assign rfl) rfl ?_; refine tl_nil ?_; ((refine hK14 ?_; try (clear hK14; clear K14)))
           all_goals refine tc_seq fun K15 hK15 => ?_; refine tc_seq fun K16 hK16 => ?_; refine tc_region ?_; refine tl_q (y_assign rfl) rfl ?_; refine tl_nil ?_; ((refine hK16 ?_; try (clear hK16; clear K16)))
           all_goals refine tc_block ?_
           all_goals (
            refine tc_loop (fun p : Nat × (List Bool × Bool) × OwnB => (p.1 : Int) ≤ s.L + 1 ∧ whN s (n : Nat) l (t.ac.getD n []) p.1 = some p.2.1 ∧ okE 1 p.2.1.1 p.2.2) (fun p => [(2, ptr b2), (3, ptr b3), (7, ouV us.length o1), (8, ouV vs.length o2), (9, vi n), (10, slV l.length y.1), (12, ouV p.2.1.1.length p.2.2), (13, .bool p.2.1.2), (14, vi p.1)]) (fun _ => [(y.2, S), (wz, S), (wl1, []), (w, [])]) (fun p => slE 4 boE p.2.1.1 p.2.2 ++ (slE 29 svE us o1 ++ slE 22 svE vs o2)) (fun p => (s.L + 1).toNat - p.1) ?_ ?_
            · subst hS
              exact tk_start (0, ([], false), none) ⟨by dsimp only; omega, rfl, rfl⟩ (.cons rfl (.cons rfl (.cons rfl (.cons rfl (.cons rfl (.cons rfl (.cons rfl (.cons rfl (.cons rfl .nil))))))))) (fun _ h => by rw [slE_none, List.nil_append]; exact h.subl SB.s SB.s)
            · rintro ⟨h, ⟨ws, br⟩, o3⟩ ⟨hh, hwh, hok3⟩
              dsimp only at hh hwh hok3 ⊢
              have hwl := whN_len hwh
              dsimp only at hwl
              all_goals refine tc_seq fun K17 hK17 => ?_; refine tc_seq fun K18 hK18 => ?_; refine tc_region ?_; refine tl_q (y_move rfl) rfl ?_; refine tl_q (y_field rfl) rfl ?_; refine tl_q (y_load1f rfl (hl1.at (by repeat constructor)) MI.m (by simp) (by rfl)) rfl ?_; refine tl_q (y_leq rfl rfl) rfl ?_; refine tl_nil ?_; ((refine hK18 ?_; try (clear hK18; clear K18)))
              all_goals (
               refine tc_cond rfl (fun hc => ?_) (fun hc => ?_)
               · try simp only [qn1, qn2, qn3, qn4, qn5, qn6, qn7, qn8] at hc
                 all_goals refine tc_skip ?_; ((refine hK17 ?_; try (clear hK17; clear K17)))
                 all_goals refine tc_seq fun K19 hK19 => ?_; refine tc_block ?_; refine tc_seq fun K20 hK20 => ?_; ((have hhl : h < l.length := (by omega); have hlb := hlo.2 h hhl; have hha : h < (t.ac.getD n []).length := (by omega)))
                 all_goals refine tc_draw (by kernel_rfl) ?_; refine tx_p 0 rfl (by kernel_rfl) (y_move rfl) rfl (fun _ _ _ h => h) (fun _ h => h) ?_; refine tx_p 1 rfl (by kernel_rfl) (y_field rfl) rfl (fun _ _ _ h => h) (fun _ h => h) ?_; refine tx_q 2 rfl (by kernel_rfl) (y_load1f rfl (hl1.at (by repeat constructor)) MI.m (by simp) (by rfl)) rfl (fun _ _ _ h => h) (fun _ h => h) ?_; refine tx_p 3 rfl (by kernel_rfl) (y_move rfl) rfl (fun _ _ _ h => h) (fun _ h => h) ?_; refine tx_p 4 rfl (by kernel_rfl) (y_move rfl) rfl (fun _ _ _ h => h) (fun _ h => h) ?_; refine tx_p 5 rfl (by kernel_rfl) (y_index rfl rfl (by omega) (hady (by omega))) rfl (fun _ _ _ h => h) (fun _ h => h) ?_; ((refine tx_q 6 rfl (by kernel_rfl) (y_load1o (v := vi (l.getD h 0)) rfl (fun w' hw' => by rw [show Int.toNat (h : Int) * 1 = h from by omega]; exact hcy w' (hw'.fr (w0 := y.2) (S := S) MI.m) h hhl)) rfl (fun _ _ _ h => h) (fun _ h => h) ?_))
                 all_goals (refine tx_p 7 rfl (by kernel_rfl) (y_index rfl rfl (by omega) (hadt (by omega))) rfl (fun _ _ _ h => h) (fun _ h => h) ?_); ((refine tx_q 8 rfl (by kernel_rfl) (y_load1o (v := .bool (stB s l h)) rfl (fun w' hw' => by unfold stB; rw [Int.toNat_natCast]; have hx := (hct w' [] (hw'.fr (w0 := w) (S := []) MI.m) (by simp) (l.getD h 0).toNat (by omega)).get 0 _ rfl; exact hx)) rfl (fun _ _ _ h => h) (fun _ h => h) ?_))
                 all_goals refine tx_p 9 rfl (by kernel_rfl) (y_field rfl) rfl (fun _ _ _ h => h) (fun _ h => h) ?_; refine tx_q 10 rfl (by kernel_rfl) (y_load1f rfl (hl1.at (by repeat constructor)) MI.m (by simp) (by rfl)) rfl (fun _ _ _ h => h) (fun _ h => h) ?_; refine tx_p 11 rfl (by kernel_rfl) (y_move rfl) rfl (fun _ _ _ h => h) (fun _ h => h) ?_; refine tx_p 12 rfl (by kernel_rfl) (y_index rfl rfl (by omega) (hada (by omega))) rfl (fun _ _ _ h => h) (fun _ h => h) ?_; ((refine tx_q 13 rfl (by kernel_rfl) (y_load1o (v := .slice adn (t.ac.getD n []).length cpn) rfl (fun w' hw' => by rw [show Int.toNat (n : Int) * 1 = n from by omega, ← hen]; exact hca w' (hw'.fr (w0 := w) (S := []) MI.m) n hnB)) rfl (fun _ _ _ h => h) (fun _ h => h) ?_))
                 all_goals refine tx_p 14 rfl (by kernel_rfl) (y_move rfl) rfl (fun _ _ _ h => h) (fun _ h => h) ?_; refine tx_p 15 rfl (by kernel_rfl) (y_index rfl rfl (by omega) (hadn (by omega))) rfl (fun _ _ _ h => h) (fun _ h => h) ?_; ((refine tx_q 16 rfl (by kernel_rfl) (y_load1o (v := vi ((t.ac.getD n []).getD h 0)) rfl (fun w' hw' => by rw [show Int.toNat (h : Int) * 1 = h from by omega]; have hx := (hcn w' [] (hw'.fr (w0 := w) (S := []) MI.m) (by simp) h hha).get 0 _ rfl; rw [Nat.mul_one] at hx; exact hx)) rfl (fun _ _ _ h => h) (fun _ h => h) ?_))
                 all_goals refine tx_e 17 rfl (by kernel_rfl) rfl (e_callV rfl (.cons rfl (.cons rfl (.cons rfl .nil))) (fun w' _ => acted_c br (stB s l h) _ w')) (.inr fun _ _ h => h) (fun _ _ => ?_); refine tx_p 18 rfl (by kernel_rfl) (y_move rfl) rfl (fun _ _ _ h => h) (fun _ h => h) ?_; refine tx_p 19 rfl (by kernel_rfl) (y_extract rfl rfl) rfl (fun _ _ _ h => h) (fun _ h => h) ?_; refine tx_p 20 rfl (by kernel_rfl) (y_extract rfl rfl) rfl (fun _ _ _ h => h) (fun _ h => h) ?_; refine tx_p 21 rfl (by kernel_rfl) (y_assign rfl) rfl (fun _ _ _ h => h) (fun _ h => h) ?_; refine tx_p 22 rfl (by kernel_rfl) (y_assign rfl) rfl (fun _ _ _ h => h) (fun _ h => h) ?_; refine tx_done (by kernel_rfl) ?_; ((refine hK20 ?_; try (clear hK20; clear K20)))
                 all_goals refine tc_seq fun K21 hK21 => ?_; refine tc_seq fun K22 hK22 => ?_; refine tc_region ?_; refine tl_q (y_move rfl) rfl ?_; refine tl_q (y_not rfl) rfl ?_; refine tl_q (y_move rfl) rfl ?_; ((refine tl_gs rfl rfl (fun hc => ?_) (fun hc => ?_) <;> (try simp only [qn1, qn2, qn3, qn4, qn5, qn6, qn7, qn8] at hc) <;> (first | refine tl_sk rfl rfl rfl rfl ?_ | refine tl_qg rfl rfl (y_loadWf rfl (hl1.at (by repeat constructor)) MI.m (by simp) (by rfl)) rfl ?_)))
                 all_goals (first | refine tl_sk rfl rfl rfl rfl ?_ | refine tl_qg rfl rfl (y_move rfl) rfl ?_); (first | refine tl_sk rfl rfl rfl rfl ?_ | refine tl_qg rfl rfl (y_move rfl) rfl ?_); (first | refine tl_sk rfl rfl rfl rfl ?_ | refine tl_qg rfl rfl (y_move rfl) rfl ?_); (first | refine tl_sk rfl rfl rfl rfl ?_ | refine tl_eg rfl rfl rfl (e_callV rfl (.cons rfl (.cons rfl (.cons rfl (.cons rfl .nil)))) (fun w' hw' => agrees_c s hf.sg n h _ _ _ _ w' (hr0.sg.fr (hw'.fr (w0 := w) (S := []) MI.m)))) (fun _ _ => ?_)); (first | refine tl_sk rfl rfl rfl rfl ?_ | refine tl_qg rfl rfl (y_not rfl) rfl ?_); (first | refine tl_q (y_pick_t rfl rfl) rfl ?_ | refine tl_q (y_pick_f rfl rfl) rfl ?_); refine tl_nil ?_; ((refine hK22 ?_; try (clear hK22; clear K22)))
                 all_goals (
                  refine tc_cond rfl (fun hc => ?_) (fun hc => ?_)
                  · try simp only [qn1, qn2, qn3, qn4, qn5, qn6, qn7, qn8] at hc
                    all_goals refine tc_seq fun K23 hK23 => ?_; refine tc_region ?_; refine tl_q (y_assign rfl) rfl ?_; refine tl_q (y_assign rfl) rfl ?_; refine tl_q (y_assign rfl) rfl ?_; refine tl_nil ?_; ((refine hK23 ?_; try (clear hK23; clear K23)))
                    all_goals refine tc_ret ?_; (repeat (first | refine tk_then_ret ?_ | refine tk_block_ret ?_))
                    all_goals (refine tk_ret rfl rfl (.cons (.tmp rfl) (.cons (.tmp rfl) (.cons (.tmp rfl) .nil))) ?_)
                    all_goals (
                     first
                     | (have hE : playF s t = none := by
                          have h1 : playB s t n = none := by unfold playB; rw [hhf]
                          have h2 : playN s t (n + 1) = none := by rw [playN, hpn]; simp only; rw [h1]
                          exact playN_none h2 _ (by omega)
                        rw [hE]
                        exact fun w' hw' => ⟨((none, 0), (none, 0)), rfl, hw'.fr (w0 := w) (S := []) MI.m, RdLN.nil _ _ _ _ _, RdLN.nil _ _ _ _ _⟩)
                     | (have hE : playF s t = none := by
                          have h0 : whN s (n : Nat) l (t.ac.getD n []) (h + 1) = none := by rw [whN, hwh]; simp only; rw [if_neg (fun g => by simp_all)]
                          have h1 : playB s t n = none := by unfold playB; rw [hhf]; simp only; rw [whN_none h0 _ (by omega)]
                          have h2 : playN s t (n + 1) = none := by rw [playN, hpn]; simp only; rw [h1]
                          exact playN_none h2 _ (by omega)
                        rw [hE]
                        exact fun w' hw' => ⟨((none, 0), (none, 0)), rfl, hw'.fr (w0 := w) (S := []) MI.m, RdLN.nil _ _ _ _ _, RdLN.nil _ _ _ _ _⟩)
                     | (obtain rfl : n = s.B.toNat := by omega
                        have hE : playF s t = some q := hpn
                        rw [hE]
                        refine fun w' hw' => ⟨(ouA o1, ouA o2), ?_, hw'.fr (w0 := w) (S := []) MI.m, ?_, ?_⟩
                        · show Ending.returned (outV [ouV us.length o1, ouV vs.length o2, .bool true]) = _
                          rw [hul, hvl]; rfl
                        · have := RdLN.ofO hok1 hu hnu hw' (hw'.fr (w0 := wz) (S := S) MI.m) (w0 := w) MI.m (by repeat constructor)
                          rw [hul] at this; exact this
                        · have := RdLN.ofO hok2 hvv hnv hw' (hw'.fr (w0 := wz) (S := S) MI.m) (w0 := w) MI.m (by repeat constructor)
                          rw [hvl] at this; exact this))
                  · try simp only [qn1, qn2, qn3, qn4, qn5, qn6, qn7, qn8] at hc
                    all_goals ((first | (exfalso; with_reducible exact btf hc) | skip))
                    all_goals refine tc_skip ?_; ((refine hK21 ?_; try (clear hK21; clear K21)))
                    all_goals refine tc_region ?_; refine tl_q (y_move rfl) rfl ?_; refine tl_q (y_move rfl) rfl ?_; refine tl_q (y_not rfl) rfl ?_; (refine tl_e (e_bslice rfl (by (repeat (first | exact .nil | apply PV.one rfl rfl)); done) rfl rfl) rfl (fun _ _ => ?_))
                    all_goals ((refine tl_e (e_appendE (enc := boE) (xs := ws) (ys := [!acY br ((t.ac.getD n []).getD h 0)]) boE_len boE_one rfl rfl rfl hok3 (fun _ => by repeat constructor) (fun w' hw' => RdS.own0 boE_len hw' (by repeat constructor)) (by simp only [List.length_cons, List.length_nil]; omega) rfl) rfl (fun o3' hok3' => ?_)))
                    all_goals refine tl_q (y_assign rfl) rfl ?_; refine tl_nil ?_; ((refine hK19 ?_; try (clear hK19; clear K19)))
                    all_goals refine tc_region ?_; refine tl_q (y_move rfl) rfl ?_; refine tl_q (y_add rfl rfl (by omega)) rfl ?_; refine tl_q (y_assign rfl) rfl ?_; refine tl_nil ?_
                    all_goals (
                     have hs : whN s (n : Nat) l (t.ac.getD n []) (h + 1) = some (ws ++ [!acY br ((t.ac.getD n []).getD h 0)], acY br ((t.ac.getD n []).getD h 0)) := by rw [whN, hwh]; simp only; rw [if_pos ⟨by assumption, by assumption⟩]
                     exact tk_round (h + 1, (ws ++ [!acY br ((t.ac.getD n []).getD h 0)], acY br ((t.ac.getD n []).getD h 0)), o3') ⟨by dsimp only; omega, hs, hok3'⟩ (by dsimp only; omega) (.cons rfl (.cons rfl (.cons rfl (.cons rfl (.cons rfl (.cons rfl (.cons rfl (.cons rfl (.cons rfl .nil))))))))) (fun _ h => h.subl SB.s SB.s)))
               · try simp only [qn1, qn2, qn3, qn4, qn5, qn6, qn7, qn8] at hc
                 all_goals refine tc_exit ?_; ((refine hK15 ?_; try (clear hK15; clear K15)))
                 all_goals refine tc_region ?_; refine tl_q (y_move rfl) rfl ?_; refine tl_q (y_move rfl) rfl ?_; (refine tl_e (e_bslice rfl (by (repeat (first | exact .nil | apply PV.one rfl rfl)); done) rfl rfl) rfl (fun _ _ => ?_))
                 all_goals ((refine tl_e (e_appendE (enc := svE) (xs := us) (ys := [svS l.length y.1]) svE_len svE_one rfl rfl rfl hok1 (fun _ => by repeat constructor) (fun w' hw' => RdS.own0 svE_len hw' (by repeat constructor)) (by simp only [List.length_cons, List.length_nil]; omega) rfl) rfl (fun o1' hok1' => ?_)))
                 all_goals refine tl_q (y_move rfl) rfl ?_; refine tl_q (y_move rfl) rfl ?_; (refine tl_e (e_bslice rfl (by (repeat (first | exact .nil | apply PV.one rfl rfl)); done) rfl rfl) rfl (fun _ _ => ?_))
                 all_goals ((refine tl_e (e_appendE (enc := svE) (xs := vs) (ys := [svO ws.length o3]) svE_len svE_one rfl rfl rfl hok2 (fun _ => by repeat constructor) (fun w' hw' => RdS.own0 svE_len hw' (by repeat constructor)) (by simp only [List.length_cons, List.length_nil]; omega) rfl) rfl (fun o2' hok2' => ?_)))
                 all_goals refine tl_q (y_assign rfl) rfl ?_; refine tl_q (y_assign rfl) rfl ?_; refine tl_nil ?_; ((refine hK8 ?_; try (clear hK8; clear K8)))
                 all_goals refine tc_lay (slE 29 svE (us ++ [svS l.length y.1]) o1' ++ slE 22 svE (vs ++ [svO ws.length o3]) o2') (((List.sublist_append_right _ _).cons _).cons _) (fun wl5 hl5 => ?_); refine tc_region ?_; refine tl_q (y_move rfl) rfl ?_; refine tl_q (y_add rfl rfl (by omega)) rfl ?_; refine tl_q (y_assign rfl) rfl ?_; refine tl_nil ?_
                 all_goals (
                  obtain rfl : h = (s.L + 1).toNat := by omega
                  have hpb : playB s t n = some (l, ws) := by unfold playB; rw [hhf]; simp only; rw [hwh]
                  have hpn1 : playN s t (n + 1) = some (q.1 ++ [l], q.2 ++ [ws]) := by rw [playN, hpn]; simp only; rw [hpb]
                  have hfz : Fr S wz wl5 := hl5.fr (w0 := wz) (S := S) MI.m
                  have hoz := hl5.ownsK (((List.sublist_append_right (slE 4 boE ws o3) (slE 29 svE (us ++ [svS l.length y.1]) o1' ++ slE 22 svE (vs ++ [svO ws.length o3]) o2')).cons _).cons _) (w0 := wz) (S := S) MI.m
                  have hol : OKS 1 inE wl5 ((slE 29 svE (us ++ [svS l.length y.1]) o1' ++ slE 22 svE (vs ++ [svO ws.length o3]) o2').map Prod.fst) (svS l.length y.1).1 l := OKS.mk' inE_len (by decide) hl5 (((List.sublist_append_right _ _).cons _).cons _) (x2 := y.2) (S0 := S) MI.m hyr.2.1 (RdS.int.2 hyr.1)
                  have hnw : NewS w (svO ws.length o3).1 := NewS.ofO (hl5.sub (bs' := [(w, [])]) (by intro x hx; obtain rfl := List.mem_singleton.1 hx; exact MI.m) (((List.Sublist.refl _).cons _).cons _)) .here MI.m
                  have how := OKS.ofO boE_len hok3 (hl5.sub (fun _ h => h) (((List.Sublist.refl _).cons _).cons _))
                  exact tk_round (n + 1, (q.1 ++ [l], q.2 ++ [ws]), (us ++ [svS l.length y.1], vs ++ [svO ws.length o3]), (o1', o2'), wl5) ⟨by dsimp only; omega, hpn1, ⟨hok1', hok2'⟩, (hu.step hfz hoz).snoc hol, (hvv.step hfz hoz).snoc how, hnu.snoc hyr.2.2, hnv.snoc hnw⟩ (by dsimp only; omega) (.cons rfl (.cons rfl (.cons rfl (.cons rfl (.cons rfl .nil))))) (fun _ h => h.subl SB.s SB.s)))))
      · try simp only [qn1, qn2, qn3, qn4, qn5, qn6, qn7, qn8] at hc
        all_goals refine tc_exit ?_; ((refine hK4 ?_; try (clear hK4; clear K4)))
        all_goals refine tc_seq fun K24 hK24 => ?_; refine tc_region ?_; refine tl_q (y_move rfl) rfl ?_; refine tl_q (y_move rfl) rfl ?_; refine tl_q (y_assign rfl) rfl ?_; refine tl_q (y_assign rfl) rfl ?_; refine tl_q (y_assign rfl) rfl ?_; refine tl_nil ?_; ((refine hK24 ?_; try (clear hK24; clear K24)))
        all_goals refine tc_ret ?_; (repeat (first | refine tk_then_ret ?_))
        all_goals (refine tk_ret rfl rfl (.cons (.tmp rfl) (.cons (.tmp rfl) (.cons (.tmp rfl) .nil))) ?_)
        all_goals (
         first
         | (have hE : playF s t = none := by
              have h1 : playB s t n = none := by unfold playB; rw [hhf]
              have h2 : playN s t (n + 1) = none := by rw [playN, hpn]; simp only; rw [h1]
              exact playN_none h2 _ (by omega)
            rw [hE]
            exact fun w' hw' => ⟨((none, 0), (none, 0)), rfl, hw'.fr (w0 := w) (S := []) MI.m, RdLN.nil _ _ _ _ _, RdLN.nil _ _ _ _ _⟩)
         | (have hE : playF s t = none := by
              have h0 : whN s (n : Nat) l (t.ac.getD n []) (h + 1) = none := by rw [whN, hwh]; simp only; rw [if_neg (fun g => by simp_all)]
              have h1 : playB s t n = none := by unfold playB; rw [hhf]; simp only; rw [whN_none h0 _ (by omega)]
              have h2 : playN s t (n + 1) = none := by rw [playN, hpn]; simp only; rw [h1]
              exact playN_none h2 _ (by omega)
            rw [hE]
            exact fun w' hw' => ⟨((none, 0), (none, 0)), rfl, hw'.fr (w0 := w) (S := []) MI.m, RdLN.nil _ _ _ _ _, RdLN.nil _ _ _ _ _⟩)
         | (obtain rfl : n = s.B.toNat := by omega
            have hE : playF s t = some q := hpn
            rw [hE]
            refine fun w' hw' => ⟨(ouA o1, ouA o2), ?_, hw'.fr (w0 := w) (S := []) MI.m, ?_, ?_⟩
            · show Ending.returned (outV [ouV us.length o1, ouV vs.length o2, .bool true]) = _
              rw [hul, hvl]; rfl
            · have := RdLN.ofO hok1 hu hnu hw' (hw'.fr (w0 := wz) (S := S) MI.m) (w0 := w) MI.m (by repeat constructor)
              rw [hul] at this; exact this
            · have := RdLN.ofO hok2 hvv hnv hw' (hw'.fr (w0 := wz) (S := S) MI.m) (w0 := w) MI.m (by repeat constructor)
              rw [hvl] at this; exact this))))
end Go.Sp
/-
  Happened, plainly: what is so of the passes so far.
-/
namespace Go.Sp
open Go Go.Proofs
abbrev smP (s : Smp) (ps : List Pas) : Smp := { s with ps := ps, sg := [] }
theorem getD_app1 {α : Type} {l : List α} {x d : α} {i : Nat} (h : i < l.length) : (l ++ [x]).getD i d = l.getD i d := by
  rw [List.getD_eq_getElem?_getD, List.getElem?_append_left h, ← List.getD_eq_getElem?_getD]
theorem getD_app2 {α : Type} {l : List α} {x d : α} {n : Nat} (h : n = l.length) : (l ++ [x]).getD n d = x := by
  subst h
  rw [List.getD_eq_getElem?_getD, List.getElem?_append_right (Nat.le_refl _), Nat.sub_self]; rfl
theorem pasN_app {s : Smp} {ps : List Pas} {hs : List Int} {p : Pas} {k : Int} (hl : hs.length = ps.length) (b h a0 : Int) : ∀ n, n ≤ ps.length → pasN (smP s (ps ++ [p])) b (hs ++ [k]) h a0 n = pasN (smP s ps) b hs h a0 n
  | 0, _ => rfl
  | n + 1, hn => by
    rw [pasN, pasN, pasN_app hl b h a0 n (by omega)]
    show (match pasN (smP s ps) b hs h a0 n with
      | none => none
      | some a => if ((ps ++ [p]).getD n pas0).b = b ∧ (hs ++ [k]).getD n 0 = h then (if ((ps ++ [p]).getD n pas0).fr = a then some ((ps ++ [p]).getD n pas0).to else none) else some a) = _
    rw [getD_app1 (by omega), getD_app1 (by omega)]
    rfl
theorem pasN_last {s : Smp} {ps : List Pas} {hs : List Int} {p : Pas} {k : Int} (hl : hs.length = ps.length) (b h a0 : Int) : pasN (smP s (ps ++ [p])) b (hs ++ [k]) h a0 (ps.length + 1) = match pasN (smP s ps) b hs h a0 ps.length with
    | none => none
    | some a => if p.b = b ∧ k = h then (if p.fr = a then some p.to else none) else some a := by
  rw [pasN, pasN_app hl b h a0 _ (Nat.le_refl _)]
  show (match pasN (smP s ps) b hs h a0 ps.length with
      | none => none
      | some a => if ((ps ++ [p]).getD ps.length pas0).b = b ∧ (hs ++ [k]).getD ps.length 0 = h then (if ((ps ++ [p]).getD ps.length pas0).fr = a then some ((ps ++ [p]).getD ps.length pas0).to else none) else some a) = _
  rw [getD_app2 rfl, getD_app2 hl.symm]
theorem pasN_idle {s : Smp} {ps : List Pas} {hs : List Int} {b h a : Int} (hi : ∀ i, i < ps.length → ¬ ((ps.getD i pas0).b = b ∧ hs.getD i 0 = h)) : ∀ n, n ≤ ps.length → pasN (smP s ps) b hs h a n = some a
  | 0, _ => rfl
  | n + 1, hn => by
    rw [pasN, pasN_idle hi n (by omega)]
    exact if_neg (hi n (by omega))
theorem chN_app {s : Smp} {ps : List Pas} {hs : List Int} {p : Pas} {k : Int} (hl : hs.length = ps.length) (b : Int) : ∀ n : Nat, (p.b = b → ∀ j : Nat, j < n → ¬ k = (j : Int)) → chN (smP s (ps ++ [p])) b (hs ++ [k]) n = chN (smP s ps) b hs n
  | 0, _ => rfl
  | n + 1, h => by
    rw [chN, chN, chN_app hl b n (fun hb j hj => h hb j (by omega))]
    cases chN (smP s ps) b hs n with
    | none => rfl
    | some q =>
      obtain ⟨c, a⟩ := q
      simp only
      rw [List.length_append, List.length_singleton, pasN_last hl]
      cases pasN (smP s ps) b hs n a ps.length with
      | none => rfl
      | some a' =>
        simp only
        rw [if_neg (fun g => h g.1 n (by omega) g.2)]
theorem chN_1 {s : Smp} {ps : List Pas} {hs : List Int} {b : Int} {n : Nat} {c : List Int} {a a' : Int} (h1 : chN (smP s ps) b hs n = some (c, a)) (h2 : pasN (smP s ps) b hs n a ps.length = some a') : chN (smP s ps) b hs (n + 1) = some (c ++ [a'], a') := by
  rw [chN, h1]
  simp only
  rw [h2]
/-- What is so when hour h is gone through, as far as bottle b. -/
structure Hap (s : Smp) (h b : Nat) (ps : List Pas) (hs at_ hd : List Int) (size : Int) : Prop where
  len : hs.length = ps.length
  n6 : ps.length ≤ 6
  v : ∀ p ∈ ps, (0 ≤ p.b ∧ p.b < s.B) ∧ (0 ≤ p.fr ∧ p.fr < s.P) ∧ (0 ≤ p.to ∧ p.to < s.P) ∧ ¬ p.fr = p.to ∧ 0 ≤ p.lo ∧ p.lo ≤ p.hi ∧ p.hi ≤ s.L
  m : manyS ps = size
  m1 : 1 ≤ size
  m30 : size ≤ 30
  r : InR ps hs
  t : ∀ i, i < ps.length → 0 ≤ hs.getD i 0 ∧ hs.getD i 0 ≤ h ∧ ((b : Int) ≤ (ps.getD i pas0).b → hs.getD i 0 < h)
  at3 : at_.length = 3
  hd30 : hd.length = 30
  atb : ∀ j : Nat, (j : Int) < s.B → 0 ≤ at_.getD j 0 ∧ at_.getD j 0 < s.P
  c : ∀ j : Nat, (j : Int) < s.B → ∃ cl, chN (smP s ps) j hs (h + if j < b then 1 else 0) = some (cl, at_.getD j 0) ∧ ∀ i, i < h + (if j < b then 1 else 0) → hd.getD (j * 10 + i) 0 = cl.getD i 0
theorem getD_setI {l : List Int} {i o : Nat} {v : Int} (hi : i < l.length) : (l.set i v).getD o 0 = if i = o then v else l.getD o 0 := by
  rw [List.getD_eq_getElem?_getD, List.getD_eq_getElem?_getD, List.getElem?_set]
  split
  · rename_i h; subst h; simp [hi]
  · rfl
theorem InR.snoc : ∀ {ps : List Pas} {hs : List Int} {p : Pas} {k : Int}, InR ps hs → p.lo ≤ k ∧ k ≤ p.hi → InR (ps ++ [p]) (hs ++ [k])
  | [], hs, p, k, h, hk => by
    obtain rfl : hs = [] := h
    exact ⟨k, [], rfl, hk, rfl⟩
  | q :: ps, _, p, k, ⟨a, t, h, ha, ht⟩, hk => by
    subst h
    exact ⟨a, t ++ [k], rfl, ha, InR.snoc ht hk⟩
theorem hap_0 {s : Smp} (hv : VSm s) : Hap s 0 0 [] [] [s.F, s.F, s.F] (List.replicate 30 0) 1 := by
  have h0 := hv.f0
  have h1 := hv.f1
  have hb := hv.b3
  refine ⟨rfl, by simp, (fun p hp => by cases hp), rfl, by decide, by decide, rfl, (fun i hi => absurd hi (Nat.not_lt_zero i)), rfl, by simp, fun j hj => ?_, fun j hj => ?_⟩
  · have : j < 3 := by omega
    match j, this with
    | 0, _ => exact ⟨h0, h1⟩
    | 1, _ => exact ⟨h0, h1⟩
    | 2, _ => exact ⟨h0, h1⟩
  · refine ⟨[], ?_, fun i hi => ?_⟩
    · rw [if_neg (by omega)]
      have : j < 3 := by omega
      match j, this with
      | 0, _ => rfl
      | 1, _ => rfl
      | 2, _ => rfl
    · rw [if_neg (by omega)] at hi; omega
theorem Hap.next {s : Smp} {h b : Nat} {ps : List Pas} {hs at_ hd : List Int} {size : Int} (H : Hap s h b ps hs at_ hd size) (hb : s.B ≤ b) : Hap s (h + 1) 0 ps hs at_ hd size := by
  refine ⟨H.len, H.n6, H.v, H.m, H.m1, H.m30, H.r, fun i hi => ?_, H.at3, H.hd30, H.atb, fun j hj => ?_⟩
  · have := H.t i hi; omega
  · obtain ⟨cl, h1, h2⟩ := H.c j hj
    rw [if_pos (by omega)] at h1 h2
    exact ⟨cl, by rw [if_neg (by omega)]; exact h1, fun i hi => h2 i (by rw [if_neg (by omega)] at hi; omega)⟩
/-- Nothing is passed on in this hour. -/
theorem Hap.idle {s : Smp} {h b : Nat} {ps : List Pas} {hs at_ hd : List Int} {size : Int} (H : Hap s h b ps hs at_ hd size) (hv : VSm s) (hb : (b : Int) < s.B) (hh : (h : Int) ≤ s.L) : Hap s h (b + 1) ps hs at_ (hd.set (b * 10 + h) (at_.getD b 0)) size := by
  have hl9 := hv.l9
  have hb3 := hv.b3
  refine ⟨H.len, H.n6, H.v, H.m, H.m1, H.m30, H.r, fun i hi => ?_, H.at3, by rw [List.length_set]; exact H.hd30, H.atb, fun j hj => ?_⟩
  · have := H.t i hi; omega
  · obtain ⟨cl, h1, h2⟩ := H.c j hj
    have h30 := H.hd30
    by_cases hjb : j = b
    · subst hjb
      rw [if_neg (Nat.lt_irrefl j), Nat.add_zero] at h1 h2
      rw [if_pos (Nat.lt_succ_self j)]
      refine ⟨cl ++ [at_.getD j 0], chN_1 h1 (pasN_idle (fun i hi g => ?_) _ (Nat.le_refl _)), fun i hi => ?_⟩
      · have := (H.t i hi).2.2 (by omega); omega
      · have hcl := chN_len h1
        simp only at hcl
        rw [getD_setI (by omega)]
        by_cases hi2 : i = h
        · subst hi2; rw [if_pos rfl, getD_app2 hcl.symm]
        · rw [if_neg (by omega), getD_app1 (by omega)]; exact h2 i (by omega)
    · have e : (if j < b + 1 then 1 else 0) = if j < b then 1 else 0 := by
        by_cases g : j < b
        · rw [if_pos g, if_pos (by omega)]
        · rw [if_neg g, if_neg (by omega)]
      rw [e]
      refine ⟨cl, h1, fun i hi => ?_⟩
      have hi10 : i < 10 := by split at hi <;> omega
      rw [getD_setI (by omega), if_neg (by omega)]
      exact h2 i hi
/-- A pass in this hour. -/
theorem Hap.pass {s : Smp} {h b : Nat} {ps : List Pas} {hs at_ hd : List Int} {size : Int} (H : Hap s h b ps hs at_ hd size) (hv : VSm s) (hb : (b : Int) < s.B) (hh : (h : Int) ≤ s.L) {to lo hi : Int} (hto : 0 ≤ to ∧ to < s.P) (hne : ¬ to = at_.getD b 0) (hlo : 0 ≤ lo ∧ lo ≤ h) (hhi : (h : Int) ≤ hi ∧ hi ≤ s.L) (hn : ps.length < 6) (hm : size * (hi - lo + 1) ≤ 30) :
    Hap s h (b + 1) (ps ++ [⟨b, at_.getD b 0, to, lo, hi⟩]) (hs ++ [(h : Int)]) (at_.set b to) (hd.set (b * 10 + h) to) (size * (hi - lo + 1)) := by
  have hl9 := hv.l9
  have hb3 := hv.b3
  have hab := H.atb b hb
  have h3 := H.at3
  have h30 := H.hd30
  have hlen := H.len
  refine ⟨by simp [H.len], by simp; omega, fun p hp => ?_, ?_, ?_, hm, H.r.snoc ⟨hlo.2, hhi.1⟩, fun i hi' => ?_, by rw [List.length_set]; exact H.at3, by rw [List.length_set]; exact H.hd30, fun j hj => ?_, fun j hj => ?_⟩
  · rcases List.mem_append.1 hp with hp | hp
    · exact H.v p hp
    · obtain rfl := List.mem_singleton.1 hp
      exact ⟨⟨Int.natCast_nonneg b, hb⟩, hab, hto, fun g => hne g.symm, hlo.1, by show lo ≤ hi; omega, hhi.2⟩
  · rw [manyS_snoc, H.m]
  · have h1 := H.m1
    have := Int.mul_le_mul h1 (show 1 ≤ hi - lo + 1 by omega) (by omega) (by omega)
    omega
  · rw [List.length_append, List.length_singleton] at hi'
    by_cases g : i < ps.length
    · rw [getD_app1 g, getD_app1 (by omega)]
      have := H.t i g; omega
    · obtain rfl : i = ps.length := by omega
      rw [getD_app2 rfl, getD_app2 hlen.symm]
      refine ⟨by omega, by omega, fun g => ?_⟩
      have g' : ((b + 1 : Nat) : Int) ≤ (b : Int) := g
      omega
  · rw [getD_setI (by omega)]
    split
    · exact hto
    · exact H.atb j hj
  · obtain ⟨cl, h1, h2⟩ := H.c j hj
    by_cases hjb : j = b
    · subst hjb
      rw [if_neg (Nat.lt_irrefl j), Nat.add_zero] at h1 h2
      rw [if_pos (Nat.lt_succ_self j), getD_setI (by omega), if_pos rfl]
      have e1 := chN_app (s := s) (ps := ps) (hs := hs) (p := ⟨j, at_.getD j 0, to, lo, hi⟩) (k := (h : Int)) hlen j h (fun _ i hi' => by omega)
      refine ⟨cl ++ [to], ?_, fun i hi' => ?_⟩
      · refine chN_1 (e1.trans h1) ?_
        rw [List.length_append, List.length_singleton, pasN_last hlen, pasN_idle (fun i hi' g => by have := (H.t i hi').2.2 (by omega); omega) _ (Nat.le_refl _)]
        simp
      · have hcl := chN_len h1
        simp only at hcl
        rw [getD_setI (by omega)]
        by_cases hi2 : i = h
        · subst hi2; rw [if_pos rfl, getD_app2 hcl.symm]
        · rw [if_neg (by omega), getD_app1 (by omega)]; exact h2 i (by omega)
    · have e : (if j < b + 1 then 1 else 0) = if j < b then 1 else 0 := by
        by_cases g : j < b
        · rw [if_pos g, if_pos (by omega)]
        · rw [if_neg g, if_neg (by omega)]
      have e3 : (at_.set b to).getD j 0 = at_.getD j 0 := by rw [getD_setI (by omega), if_neg (fun g => hjb g.symm)]
      rw [e, e3]
      have e1 := chN_app (s := s) (ps := ps) (hs := hs) (p := ⟨b, at_.getD b 0, to, lo, hi⟩) (k := (h : Int)) hlen j (h + if j < b then 1 else 0) (fun g => by have g' : (b : Int) = (j : Int) := g; omega)
      refine ⟨cl, e1.trans h1, fun i hi' => ?_⟩
      have hi10 : i < 10 := by split at hi' <;> omega
      rw [getD_setI (by omega), if_neg (by omega)]
      exact h2 i hi'
/-- When all hours are gone through: a valid sample, and who has each bottle. -/
theorem Hap.vsm {s : Smp} {h b : Nat} {ps : List Pas} {hs at_ hd : List Int} {size : Int} (H : Hap s h b ps hs at_ hd size) (hv : VSm s) : VSm (smP s ps) :=
  ⟨hv.b1, hv.b3, hv.p1, hv.p4, hv.l0, hv.l9, hv.f0, hv.f1, hv.st, H.n6, by simp, H.v, (fun g hg => by cases hg), by show manyS ps ≤ 1000; have := H.m; have := H.m30; omega⟩
theorem Hap.held {s : Smp} {h : Nat} {ps : List Pas} {hs at_ hd : List Int} {size : Int} (H : Hap s h 0 ps hs at_ hd size) (hh : (h : Int) = s.L + 1) {j : Nat} (hj : (j : Int) < s.B) : ∃ cl, heldF (smP s ps) j hs = some cl ∧ ∀ i : Nat, (i : Int) ≤ s.L → hd.getD (j * 10 + i) 0 = cl.getD i 0 := by
  obtain ⟨cl, h1, h2⟩ := H.c j hj
  rw [if_neg (by omega), Nat.add_zero] at h1 h2
  refine ⟨cl, ?_, fun i hi => h2 i (by omega)⟩
  unfold heldF
  show (chN (smP s ps) j hs (s.L + 1).toNat).map Prod.fst = _
  rw [show (s.L + 1).toNat = h from by omega, h1]; rfl
theorem whN_app {s : Smp} {b : Int} {c acts : List Int} {a : Int} : ∀ h, h ≤ acts.length → whN s b c (acts ++ [a]) h = whN s b c acts h
  | 0, _ => rfl
  | h + 1, hh => by
    rw [whN, whN, whN_app h (by omega), getD_app1 (by omega)]
theorem seen_nil (s : Smp) (ps : List Pas) (b h : Int) (x : Bool) : seenB (smP s ps) b h x = true := rfl
/-- An act that can be, whatever the words say. -/
theorem whN_act {s : Smp} {ps : List Pas} {b : Int} {c acts : List Int} {h : Nat} {ws : List Bool} {br : Bool} {a : Int} (hw : whN (smP s ps) b c acts h = some (ws, br)) (hl : acts.length = h) (ha : acIs br (stB (smP s ps) c h) a = true) : whN (smP s ps) b c (acts ++ [a]) (h + 1) = some (ws ++ [!acY br a], acY br a) := by
  rw [whN, whN_app h (by omega), hw]
  simp only
  rw [getD_app2 hl.symm, if_pos ⟨ha, seen_nil s ps b h _⟩]
/-- What Happened returns. -/
structure HapOk (s : Smp) (x : Smp) (t : Tth) : Prop where
  B : x.B = s.B
  P : x.P = s.P
  L : x.L = s.L
  F : x.F = s.F
  st : x.st = s.st
  sg : x.sg = []
  v : VSm x
  l : Lst x t
  a3 : ∀ j, j < t.ac.length → ∀ a ∈ t.ac.getD j [], 0 ≤ a ∧ a ≤ 3
  r : InR x.ps t.hs
  p : (playF x t).isSome = true
theorem playN_some {s : Smp} {t : Tth} : ∀ {n : Nat}, (∀ j, j < n → (playB s t j).isSome = true) → (playN s t n).isSome = true
  | 0, _ => rfl
  | n + 1, h => by
    obtain ⟨q, hq⟩ := Option.isSome_iff_exists.1 (playN_some (n := n) fun j hj => h j (by omega))
    obtain ⟨l, hl⟩ := Option.isSome_iff_exists.1 (h n (by omega))
    rw [playN, hq]
    simp only
    rw [hl]; rfl
end Go.Sp
/-
  Happened.
-/
namespace Go.Sp
open Go Go.Proofs
section
variable {r : Option Nat} {P : Program} {ops : Array Oper} {Q : Exit → Act → World → Prop} {N : NN} {F : List (Nat × Value)} {bs : List (World × List Nat)} {H : List (Nat × Obj)}
theorem tx_three {fuel : Nat} {S : World → Prop} {listed : Array Bool} (i j k : Nat) (hr : Region.ready .any ops listed = [i, j, k]) (h1 : TOne r P ops Q fuel S listed i N F bs H) (h2 : TOne r P ops Q fuel S listed j N F bs H) (h3 : TOne r P ops Q fuel S listed k N F bs H) : TX r P ops Q (fuel + 1) S listed N F bs H := by
  unfold TOne at h1 h2 h3
  unfold TX
  exact fun a w ht hw =>
    ⟨fun h0 => (by rw [h0] at hr; cases hr), fun q hq => by
      rw [hr] at hq
      rcases (by simpa using hq : q = i ∨ q = j ∨ q = k) with rfl | rfl | rfl
      · exact h1 a w ht hw
      · exact h2 a w ht hw
      · exact h3 a w ht hw⟩
end
/-- An own slice, let go, wherever it lies. -/
theorem OKS.ofT {α : Type} {k : Nat} {enc : α → List Value} (hk : ∀ x, (enc x).length = k) {bs : List (World × List Nat)} {H H' : List (Nat × Obj)} {w1 : World} {e : TypeId} {xs : List α} {oo : OwnB} (hok : okE k xs oo) (hw : HG bs H w1) (hm : HT (slE e enc xs oo) [] H H') : OKS k enc w1 (H'.map Prod.fst) (ouV xs.length oo) xs := by
  obtain ⟨L, T, rfl, rfl⟩ := hm.split
  have hp : (L ++ (slE e enc xs oo ++ T)).Perm (slE e enc xs oo ++ (L ++ ([] ++ T))) := by
    rw [List.nil_append, ← List.append_assoc, ← List.append_assoc]
    exact List.perm_append_comm.append_right T
  exact OKS.ofO (H' := L ++ ([] ++ T)) hk hok (hw.perm hp)
theorem rdkH_open {k : IntKind} {w : World} {v : Value} {xs : List Int} (h : Reads w v 1 xs.length (xs.map (Value.int k))) : ∃ ad cap b o, v = .slice ad xs.length cap ∧ (0 < xs.length → ad = some ⟨b, o, none⟩) ∧ ∀ w', Fr [] w w' → ∀ i, i < xs.length → w'.cell? ⟨b, o + i, none⟩ = some (.int k (xs.getD i 0)) := by
  obtain ⟨hl, ad, cap, rfl, hr⟩ := h
  by_cases hn : xs.length = 0
  · exact ⟨ad, cap, 0, 0, rfl, fun h => by omega, fun w' f i hi => by omega⟩
  · obtain ⟨b, o, rfl, hca⟩ := hr hn
    refine ⟨some ⟨b, o, none⟩, cap, b, o, rfl, fun _ => rfl, fun w' f i hi => ?_⟩
    have h1 := hca.get i (.int k (xs.getD i 0)) (by rw [List.getElem?_map, List.getElem?_eq_getElem hi, List.getD_eq_getElem?_getD, List.getElem?_eq_getElem hi]; rfl)
    exact f.cell (by simp) h1
abbrev RdW (w : World) (wv : Value) (ws : List Int) : Prop := Reads w wv 1 ws.length (ws.map (Value.int .u8))
def wordI (ws : List Int) (k : Int) : Int := if ws.length = 0 then 0 else ws.getD (k % (ws.length : Int)).toNat 0
theorem wordI_bd {ws : List Int} (hws : ∀ x ∈ ws, 0 ≤ x ∧ x ≤ 255) (k : Int) : 0 ≤ wordI ws k ∧ wordI ws k ≤ 255 := by
  unfold wordI
  split
  · omega
  · rename_i h
    have h1 := Int.emod_nonneg k (show (ws.length : Int) ≠ 0 by omega)
    have h2 := Int.emod_lt_of_pos k (show 0 < (ws.length : Int) by omega)
    exact hws _ (getD_memG (by omega))
theorem wordH_c (ws : List Int) (hws : ∀ x ∈ ws, 0 ≤ x ∧ x ≤ 255) (hwl : (ws.length : Int) ≤ 9223372036854775807) (k : Int) (hk : 0 ≤ k ∧ k ≤ 1000000) (wv : Value) (w : World) (hW : RdW w wv ws) :
    CnV Tryz.prog 73 #[wv, vi k] w (vi (wordI ws k)) := by
  obtain ⟨ad, cap, b0, o, rfl, had, hcell⟩ := rdkH_open hW
  have hbd := wordI_bd hws k
  refine cnv (vs := [_, _]) Tryz.func73 rfl rfl ?_
  all_goals refine tc_seq fun K1 hK1 => ?_; refine tc_region ?_; refine tl_q (y_assign rfl) rfl ?_; refine tl_nil ?_; ((refine hK1 ?_; try (clear hK1; clear K1)))
  all_goals refine tc_seq fun K2 hK2 => ?_; refine tc_seq fun K3 hK3 => ?_; refine tc_region ?_; refine tl_q (y_move rfl) rfl ?_; refine tl_q (y_len rfl) rfl ?_; refine tl_q (y_eql rfl rfl) rfl ?_; refine tl_nil ?_; ((refine hK3 ?_; try (clear hK3; clear K3)))
  all_goals (
   refine tc_cond rfl (fun hc => ?_) (fun hc => ?_)
   · try simp only [qn1, qn2, qn3, qn4, qn5, qn6, qn7, qn8] at hc
     all_goals refine tc_seq fun K4 hK4 => ?_; refine tc_region ?_; refine tl_q (y_assign rfl) rfl ?_; refine tl_nil ?_; ((refine hK4 ?_; try (clear hK4; clear K4)))
     all_goals refine tc_ret ?_; (repeat (refine tk_then_ret ?_))
     all_goals (refine tk_ret rfl rfl (.cons (.tmp rfl) .nil) ?_)
     all_goals (
      refine fun w' hw' => ⟨?_, hw'.fr (by simp)⟩
      first
      | (rw [hwf]; rfl)
      | (rw [show wordI ws k = 0 from if_pos (by omega)]; rfl))
   · try simp only [qn1, qn2, qn3, qn4, qn5, qn6, qn7, qn8] at hc
     all_goals refine tc_skip ?_; ((refine hK2 ?_; try (clear hK2; clear K2)))
     all_goals refine tc_seq fun K5 hK5 => ?_; ((have had' := had (by omega); have hkl := Int.emod_lt_of_pos k (show 0 < (ws.length : Int) by omega); have hk0 := Int.emod_nonneg k (show (ws.length : Int) ≠ 0 by omega)))
     all_goals (have hwf : wordI ws k = ws.getD (k % (ws.length : Int)).toNat 0 := if_neg (by omega))
     all_goals rw [hwf] at hbd
     all_goals refine tc_region ?_; refine tl_q (y_move rfl) rfl ?_; refine tl_q (y_move rfl) rfl ?_; refine tl_q (y_move rfl) rfl ?_; refine tl_q (y_len rfl) rfl ?_; refine tl_q (y_rem rfl rfl (by omega) (by omega)) rfl ?_; refine tl_q (y_index rfl rfl (by omega) had') rfl ?_; ((refine tl_q (y_load1o (v := .int .u8 (ws.getD (k % (ws.length : Int)).toNat 0)) rfl (fun w' hw' => by rw [Nat.mul_one]; exact hcell w' (hw'.fr (by simp)) (k % (ws.length : Int)).toNat (by omega))) rfl ?_))
     all_goals (refine tl_q (y_conv64 rfl (by omega)) rfl ?_); refine tl_q (y_assign rfl) rfl ?_; refine tl_nil ?_; ((refine hK5 ?_; try (clear hK5; clear K5)))
     all_goals refine tc_ret ?_; (repeat (first | refine tk_then_ret ?_))
     all_goals (refine tk_ret rfl rfl (.cons (.tmp rfl) .nil) ?_)
     all_goals (
      refine fun w' hw' => ⟨?_, hw'.fr (by simp)⟩
      first
      | (rw [hwf]; rfl)
      | (rw [show wordI ws k = 0 from if_pos (by omega)]; rfl)))
theorem prodB {a x : Int} (ha : 1 ≤ a ∧ a ≤ 30) (hx : 1 ≤ x ∧ x ≤ 10) : 1 ≤ a * x ∧ a * x ≤ 300 := by
  have h1 := Int.mul_le_mul ha.1 hx.1 (by omega) (by omega)
  have h2 := Int.mul_le_mul ha.2 hx.2 (by omega) (by omega)
  omega
theorem two_ones {a b : Value} (h1 : a.oneCell' = true) (h2 : b.oneCell' = true) : ∀ v ∈ (#[a, b] : Array Value).toList, v.oneCell' = true := by
  intro v hv
  simp only [List.mem_cons, List.not_mem_nil, or_false] at hv
  rcases hv with rfl | rfl
  · exact h1
  · exact h2
structure HapS where
  ps : List Pas
  hs : List Int
  at_ : List Int
  hd : List Int
  size : Int
  o1 : OwnB
  o2 : OwnB
set_option maxHeartbeats 16000000 in
theorem happened_c (s : Smp) (hf : Few s) (hv : VSm s) (ws : List Int) (hws : ∀ x ∈ ws, 0 ≤ x ∧ x ≤ 255) (hwl : (ws.length : Int) ≤ 9223372036854775807) (tv pv gv wv : Value) (w : World) (hr : RdSm w s tv pv gv) (hW : RdW w wv ws) :
    CnX Tryz.prog 35 #[smV s tv pv gv, wv] w [] (fun y : (Smp × Tth) × (Option Addr × Nat) × (Option Addr × Nat) × (Option Addr × Nat) => .tuple #[smV y.1.1 tv (slV y.1.1.ps.length y.2.1) (.slice none 0 0), tV (slV y.1.2.hs.length y.2.2.1) (slV y.1.2.ac.length y.2.2.2)])
      (fun y w' => HapOk s y.1.1 y.1.2 ∧ (RdS 5 psE w' (slV y.1.1.ps.length y.2.1) y.1.1.ps ∧ NewS w (slV y.1.1.ps.length y.2.1)) ∧ (RdI w' (slV y.1.2.hs.length y.2.2.1) y.1.2.hs ∧ NewS w (slV y.1.2.hs.length y.2.2.1)) ∧ RdLN 1 inE w w' (slV y.1.2.ac.length y.2.2.2) y.1.2.ac) := by
  have hr0 := hr
  have hb1 := hv.b1
  have hb3 := hv.b3
  have hp1 := hv.p1
  have hp4 := hv.p4
  have hl0 := hv.l0
  have hl9 := hv.l9
  have hf0 := hv.f0
  have hf1 := hv.f1
  have hst := hv.st
  have hot := hr.st.one
  obtain ⟨adt, cpt, bt, ot, rfl, hadt, hct⟩ := hr.st.open boE_len false
  obtain ⟨adp, cpp, _, _, rfl, _, _⟩ := hr.ps.open psE_len pas0
  obtain ⟨adg, cpg, _, _, rfl, _, _⟩ := hr.sg.open sgE_len sgt0
  obtain ⟨adw, cpw, _, _, rfl, _, _⟩ := rdkH_open hW
  have hWr : ∀ w', Fr [] w w' → RdW w' (.slice adw ws.length cpw) ws := fun w' f => Reads.frS hW f (by simp)
  refine cnx0 (vs := [_, _]) Tryz.func35 rfl rfl ?_
  all_goals refine tc_seq fun K1 hK1 => ?_; refine tc_region ?_; refine tl_e (e_box rfl rfl rfl) rfl (fun b2 _ => ?_); refine tl_e (e_allocN rfl) rfl (fun b4 _ => ?_); refine tl_e (e_allocN rfl) rfl (fun b5 _ => ?_); refine tl_nil ?_; ((refine hK1 ?_; try (clear hK1; clear K1)))
  all_goals refine tc_seq fun K2 hK2 => ?_; refine tc_lay ([(b5, .cells #[.slice none 0 0, .slice none 0 0] 60 (0, 0)), (b4, .cells #[vi 0, vi 0, vi 0, vi 0, .slice none 0 0, .slice none 0 0, .slice none 0 0] 26 (0, 0))]) SB.s (fun wl1 hl1 => ?_); ((have hn2 : ¬ b2 = b5 ∧ ¬ b2 = b4 := by have hh := hl1.nodup; simp only [List.map_cons, List.map_nil, List.nodup_cons, List.mem_cons, not_or, List.not_mem_nil, not_false_eq_true, and_true] at hh; omega))
  all_goals refine tc_region ?_; ((refine tl_q (y_loadWf rfl (hl1.at (by repeat constructor)) MI.m (by first | (simp; done) | (simp; omega)) (by rfl)) rfl ?_))
  all_goals refine tl_e (e_allocN rfl) rfl (fun b6 _ => ?_); refine tl_e (e_storeW rfl rfl (by repeat constructor) (by rfl) (by rfl) (smV_ones hot rfl rfl)) rfl (fun _ _ => ?_); refine tl_nil ?_; ((refine hK2 ?_; try (clear hK2; clear K2)))
  all_goals refine tc_seq fun K3 hK3 => ?_; refine tc_region ?_; refine tl_q (y_field rfl) rfl ?_; refine tl_e (e_store1 rfl rfl (by repeat constructor) (by repeat constructor) (by rfl) (by rfl)) rfl (fun _ _ => ?_); refine tl_q (y_field rfl) rfl ?_; refine tl_e (e_store1 rfl rfl (by repeat constructor) (by repeat constructor) (by rfl) (by rfl)) rfl (fun _ _ => ?_); refine tl_nil ?_; ((refine hK3 ?_; try (clear hK3; clear K3)))
  all_goals refine tc_seq fun K4 hK4 => ?_; refine tc_region ?_; refine tl_e (e_allocN rfl) rfl (fun b7 _ => ?_); refine tl_nil ?_; ((refine hK4 ?_; try (clear hK4; clear K4)))
  all_goals refine tc_seq fun K5 hK5 => ?_; refine tc_region ?_; refine tl_q (y_field rfl) rfl ?_; ((refine tl_q (y_load1f rfl (hl1.at (by repeat constructor)) MI.m (by first | (simp; done) | (simp; omega)) (by rfl)) rfl ?_))
  all_goals refine tl_q (y_field rfl) rfl ?_; ((refine tl_q (y_load1f rfl (hl1.at (by repeat constructor)) MI.m (by first | (simp; done) | (simp; omega)) (by rfl)) rfl ?_))
  all_goals refine tl_q (y_field rfl) rfl ?_; ((refine tl_q (y_load1f rfl (hl1.at (by repeat constructor)) MI.m (by first | (simp; done) | (simp; omega)) (by rfl)) rfl ?_))
  all_goals refine tl_q (y_build_ga [(0, 1), (1, 1), (2, 1)] (by repeat constructor) (by decide)) rfl ?_; refine tl_e (e_allocN rfl) rfl (fun b8 _ => ?_); refine tl_e (e_storeW rfl rfl (by repeat constructor) (by rfl) (by rfl) (isV_one [s.F, s.F, s.F])) rfl (fun _ _ => ?_); refine tl_nil ?_; ((refine hK5 ?_; try (clear hK5; clear K5)))
  all_goals refine tc_seq fun K6 hK6 => ?_; refine tc_region ?_; refine tl_e (e_allocN rfl) rfl (fun b9 _ => ?_); refine tl_nil ?_; ((refine hK6 ?_; try (clear hK6; clear K6)))
  all_goals refine tc_seq fun K7 hK7 => ?_; refine tc_region ?_; refine tl_q (y_assign rfl) rfl ?_; refine tl_nil ?_; ((refine hK7 ?_; try (clear hK7; clear K7)))
  all_goals refine tc_seq fun K8 hK8 => ?_; refine tc_region ?_; refine tl_q (y_assign rfl) rfl ?_; refine tl_nil ?_; ((refine hK8 ?_; try (clear hK8; clear K8)))
  all_goals refine tc_seq fun K9 hK9 => ?_; refine tc_seq fun K10 hK10 => ?_; refine tc_region ?_; refine tl_q (y_assign rfl) rfl ?_; refine tl_nil ?_; ((refine hK10 ?_; try (clear hK10; clear K10)))
  all_goals refine tc_block ?_
  all_goals (
   refine tc_loop (fun p : Nat × HapS => ((p.1 : Int) ≤ s.L + 1 ∧ Hap s p.1 0 p.2.ps p.2.hs p.2.at_ p.2.hd p.2.size) ∧ okE 5 p.2.ps p.2.o1 ∧ okE 1 p.2.hs p.2.o2) (fun p => [(1, .slice adw ws.length cpw), (2, ptr b2), (4, ptr b4), (5, ptr b5), (6, ptr b6), (7, ptr b7), (8, ptr b8), (9, ptr b9), (10, vi p.2.size), (11, vi 0), (12, vi p.1)]) (fun _ => [(wl1, [b5, b4]), (w, [])]) (fun p => (b9, .cells (isV p.2.hd) 117 (0, 0)) :: (b8, .cells (isV p.2.at_) 115 (0, 0)) :: (b7, .cells #[ouV p.2.hs.length p.2.o2, .slice none 0 0] 60 (0, 0)) :: (b6, .cells #[vi s.B, vi s.P, vi s.L, vi s.F, .slice adt s.st.length cpt, ouV p.2.ps.length p.2.o1, .slice none 0 0] 26 (0, 0)) :: (b5, .cells #[.slice none 0 0, .slice none 0 0] 60 (0, 0)) :: (b4, .cells #[vi 0, vi 0, vi 0, vi 0, .slice none 0 0, .slice none 0 0, .slice none 0 0] 26 (0, 0)) :: (slE 77 psE p.2.ps p.2.o1 ++ slE 3 inE p.2.hs p.2.o2)) (fun p => (s.L + 1).toNat - p.1) ?_ ?_
   · exact tk_start (0, ⟨[], [], [s.F, s.F, s.F], List.replicate 30 0, 1, none, none⟩) ⟨⟨by dsimp only; omega, hap_0 hv⟩, rfl, rfl⟩ (.cons rfl (.cons rfl (.cons rfl (.cons rfl (.cons rfl (.cons rfl (.cons rfl (.cons rfl (.cons rfl (.cons rfl (.cons rfl .nil))))))))))) (fun _ h => by dsimp only; rw [slE_none, slE_none]; exact h.subl SB.s SB.s)
   · rintro ⟨h, q⟩ ⟨⟨hh, hap⟩, hok1, hok2⟩
     dsimp only at hh hap hok1 hok2 ⊢
     all_goals refine tc_seq fun K11 hK11 => ?_; refine tc_seq fun K12 hK12 => ?_; refine tc_region ?_; refine tl_q (y_move rfl) rfl ?_; refine tl_q (y_field rfl) rfl ?_; ((refine tl_q (y_load1f rfl (hl1.at (by repeat constructor)) MI.m (by first | (simp; done) | (simp; omega)) (by rfl)) rfl ?_))
     all_goals refine tl_q (y_leq rfl rfl) rfl ?_; refine tl_nil ?_; ((refine hK12 ?_; try (clear hK12; clear K12)))
     all_goals (
      refine tc_cond rfl (fun hc => ?_) (fun hc => ?_)
      · try simp only [qn1, qn2, qn3, qn4, qn5, qn6, qn7, qn8] at hc
        all_goals refine tc_skip ?_; ((refine hK11 ?_; try (clear hK11; clear K11)))
        all_goals refine tc_seq fun K13 hK13 => ?_; refine tc_block ?_; refine tc_seq fun K14 hK14 => ?_; refine tc_region ?_; refine tl_q (y_assign rfl) rfl ?_; refine tl_nil ?_; ((refine hK14 ?_; try (clear hK14; clear K14)))
        all_goals refine tc_block ?_
        all_goals (
         refine tc_loop (fun p : Nat × HapS => ((p.1 : Int) ≤ s.B ∧ Hap s h p.1 p.2.ps p.2.hs p.2.at_ p.2.hd p.2.size) ∧ okE 5 p.2.ps p.2.o1 ∧ okE 1 p.2.hs p.2.o2) (fun p => [(1, .slice adw ws.length cpw), (2, ptr b2), (4, ptr b4), (5, ptr b5), (6, ptr b6), (7, ptr b7), (8, ptr b8), (9, ptr b9), (10, vi p.2.size), (11, vi 0), (12, vi h), (13, vi p.1)]) (fun _ => [(wl1, [b5, b4]), (w, [])]) (fun p => (b9, .cells (isV p.2.hd) 117 (0, 0)) :: (b8, .cells (isV p.2.at_) 115 (0, 0)) :: (b7, .cells #[ouV p.2.hs.length p.2.o2, .slice none 0 0] 60 (0, 0)) :: (b6, .cells #[vi s.B, vi s.P, vi s.L, vi s.F, .slice adt s.st.length cpt, ouV p.2.ps.length p.2.o1, .slice none 0 0] 26 (0, 0)) :: (b5, .cells #[.slice none 0 0, .slice none 0 0] 60 (0, 0)) :: (b4, .cells #[vi 0, vi 0, vi 0, vi 0, .slice none 0 0, .slice none 0 0, .slice none 0 0] 26 (0, 0)) :: (slE 77 psE p.2.ps p.2.o1 ++ slE 3 inE p.2.hs p.2.o2)) (fun p => s.B.toNat - p.1) ?_ ?_
         · exact tk_start (0, q) ⟨⟨by dsimp only; omega, hap⟩, hok1, hok2⟩ (.cons rfl (.cons rfl (.cons rfl (.cons rfl (.cons rfl (.cons rfl (.cons rfl (.cons rfl (.cons rfl (.cons rfl (.cons rfl (.cons rfl .nil)))))))))))) (fun _ h => h.subl SB.s SB.s)
         · rintro ⟨b, q⟩ ⟨⟨hb, hap⟩, hok1, hok2⟩
           dsimp only at hb hap hok1 hok2 ⊢
           have hat3 := hap.at3
           have hhd30 := hap.hd30
           have hpn6 := hap.n6
           have hhl := hap.len
           have hsz1 := hap.m1
           have hsz30 := hap.m30
           all_goals refine tc_seq fun K15 hK15 => ?_; refine tc_seq fun K16 hK16 => ?_; refine tc_region ?_; refine tl_q (y_move rfl) rfl ?_; refine tl_q (y_field rfl) rfl ?_; ((refine tl_q (y_load1f rfl (hl1.at (by repeat constructor)) MI.m (by first | (simp; done) | (simp; omega)) (by rfl)) rfl ?_))
           all_goals refine tl_q (y_lss rfl rfl) rfl ?_; refine tl_nil ?_; ((refine hK16 ?_; try (clear hK16; clear K16)))
           all_goals (
            refine tc_cond rfl (fun hc => ?_) (fun hc => ?_)
            · try simp only [qn1, qn2, qn3, qn4, qn5, qn6, qn7, qn8] at hc
              all_goals refine tc_skip ?_; ((refine hK15 ?_; try (clear hK15; clear K15)))
              all_goals refine tc_seq fun K17 hK17 => ?_; refine tc_block ?_; refine tc_seq fun K18 hK18 => ?_; ((have hatb := hap.atb b (by omega); have hwb := wordI_bd hws (3 * (h : Int) + (b : Int))))
              all_goals refine tc_region ?_; refine tl_q (y_move rfl) rfl ?_; refine tl_q (y_move rfl) rfl ?_; refine tl_q (y_mul rfl rfl (by omega)) rfl ?_; refine tl_q (y_move rfl) rfl ?_; refine tl_q (y_add rfl rfl (by omega)) rfl ?_; refine tl_e (e_callV rfl (.cons rfl (.cons rfl .nil)) (fun w' hw' => wordH_c ws hws hwl (3 * (h : Int) + (b : Int)) (by omega) _ w' (hWr w' (hw'.fr (w0 := w) (S := []) MI.m)))) rfl (fun _ _ => ?_); refine tl_q (y_assign rfl) rfl ?_; refine tl_nil ?_; ((obtain ⟨wd, hwd⟩ : ∃ wd, wd = wordI ws (3 * (h : Int) + (b : Int)) := ⟨_, rfl⟩; rw [← hwd]; rw [← hwd] at hwb))
              all_goals ((refine hK18 ?_; try (clear hK18; clear K18)))
              all_goals refine tc_seq fun K19 hK19 => ?_; refine tc_draw (by kernel_rfl) ?_; refine tx_p 0 rfl (by kernel_rfl) (y_move rfl) rfl (fun _ _ _ h => h) (fun _ h => h) ?_; refine tx_p 1 rfl (by kernel_rfl) (y_indexA rfl rfl (by omega)) rfl (fun _ _ _ h => h) (fun _ h => h) ?_; ((refine tx_q 2 rfl (by kernel_rfl) (y_load1 (v := vi (q.at_.getD b 0)) rfl (by repeat constructor) (by rw [show 0 + Int.toNat (b : Int) * 1 = b from by omega]; exact cellAt_is (by omega))) rfl (fun _ _ _ h => h) (fun _ h => h) ?_))
              all_goals refine tx_p 3 rfl (by kernel_rfl) (y_add rfl rfl (by omega)) rfl (fun _ _ _ h => h) (fun _ h => h) ?_; refine tx_p 4 rfl (by kernel_rfl) (y_move rfl) rfl (fun _ _ _ h => h) (fun _ h => h) ?_; refine tx_p 5 rfl (by kernel_rfl) (y_quo rfl rfl (by omega) (by omega)) rfl (fun _ _ _ h => h) (fun _ h => h) ?_; refine tx_p 6 rfl (by kernel_rfl) (y_rem rfl rfl (by omega) (by omega)) rfl (fun _ _ _ h => h) (fun _ h => h) ?_; refine tx_p 7 rfl (by kernel_rfl) (y_add rfl rfl (by omega)) rfl (fun _ _ _ h => h) (fun _ h => h) ?_; refine tx_p 8 rfl (by kernel_rfl) (y_field rfl) rfl (fun _ _ _ h => h) (fun _ h => h) ?_; ((refine tx_q 9 rfl (by kernel_rfl) (y_load1f rfl (hl1.at (by repeat constructor)) MI.m (by first | (simp; done) | (simp; omega)) (by rfl)) rfl (fun _ _ _ h => h) (fun _ h => h) ?_))
              all_goals refine tx_p 10 rfl (by kernel_rfl) (y_rem rfl rfl (by omega) (by omega)) rfl (fun _ _ _ h => h) (fun _ h => h) ?_; refine tx_p 11 rfl (by kernel_rfl) (y_assign rfl) rfl (fun _ _ _ h => h) (fun _ h => h) ?_; refine tx_done (by kernel_rfl) ?_; ((obtain ⟨to, hto⟩ : ∃ to, to = (q.at_.getD b 0 + 1 + wd / 4 % 4) % s.P := ⟨_, rfl⟩; rw [← hto]; have hto0 := Int.emod_nonneg (q.at_.getD b 0 + 1 + wd / 4 % 4) (show s.P ≠ 0 by omega); have hto1 := Int.emod_lt_of_pos (q.at_.getD b 0 + 1 + wd / 4 % 4) (show 0 < s.P by omega); rw [← hto] at hto0 hto1))
              all_goals ((refine hK19 ?_; try (clear hK19; clear K19)))
              all_goals (
               refine tc_join (fun z : HapS => (Hap s h (b + 1) z.ps z.hs z.at_ (q.hd.set (b * 10 + h) (z.at_.getD b 0)) z.size ∧ z.at_.length = 3) ∧ okE 5 z.ps z.o1 ∧ okE 1 z.hs z.o2) (fun z => [(1, .slice adw ws.length cpw), (2, ptr b2), (4, ptr b4), (5, ptr b5), (6, ptr b6), (7, ptr b7), (8, ptr b8), (9, ptr b9), (10, vi z.size), (11, vi 0), (12, vi h), (13, vi b)]) (fun _ => [(wl1, [b5, b4]), (w, [])]) (fun z => (b9, .cells (isV q.hd) 117 (0, 0)) :: (b8, .cells (isV z.at_) 115 (0, 0)) :: (b7, .cells #[ouV z.hs.length z.o2, .slice none 0 0] 60 (0, 0)) :: (b6, .cells #[vi s.B, vi s.P, vi s.L, vi s.F, .slice adt s.st.length cpt, ouV z.ps.length z.o1, .slice none 0 0] 26 (0, 0)) :: (b5, .cells #[.slice none 0 0, .slice none 0 0] 60 (0, 0)) :: (b4, .cells #[vi 0, vi 0, vi 0, vi 0, .slice none 0 0, .slice none 0 0, .slice none 0 0] 26 (0, 0)) :: (slE 77 psE z.ps z.o1 ++ slE 3 inE z.hs z.o2)) ?_ ?_
               · skip
                 all_goals refine tc_seq fun K20 hK20 => ?_; refine tc_region ?_; refine tl_q (y_move rfl) rfl ?_; refine tl_q (y_rem rfl rfl (by omega) (by omega)) rfl ?_; refine tl_q (y_eql rfl rfl) rfl ?_; refine tl_q (y_move rfl) rfl ?_; ((refine tl_gs rfl rfl (fun hc => ?_) (fun hc => ?_) <;> (try simp only [qn1, qn2, qn3, qn4, qn5, qn6, qn7, qn8] at hc) <;> (first | refine tl_sk rfl rfl rfl rfl ?_ | refine tl_qg rfl rfl (y_move rfl) rfl ?_)))
                 all_goals (first | refine tl_sk rfl rfl rfl rfl ?_ | refine tl_qg rfl rfl (y_move rfl) rfl ?_); (first | refine tl_sk rfl rfl rfl rfl ?_ | refine tl_qg rfl rfl (y_indexA rfl rfl (by omega)) rfl ?_); ((first | refine tl_sk rfl rfl rfl rfl ?_ | refine tl_qg rfl rfl (y_load1 (v := vi (q.at_.getD b 0)) rfl (by repeat constructor) (by rw [show 0 + Int.toNat (b : Int) * 1 = b from by omega]; exact cellAt_is (by omega))) rfl ?_))
                 all_goals (first | refine tl_sk rfl rfl rfl rfl ?_ | refine tl_qg rfl rfl (y_neq rfl rfl) rfl ?_); (first | refine tl_q (y_pick_t rfl rfl) rfl ?_ | refine tl_q (y_pick_f rfl rfl) rfl ?_); refine tl_q (y_move rfl) rfl ?_; ((first | refine tl_sk rfl rfl rfl rfl ?_ | (refine tl_gs rfl rfl (fun hc => ?_) (fun hc => ?_) <;> (try simp only [qn1, qn2, qn3, qn4, qn5, qn6, qn7, qn8] at hc) <;> (first | refine tl_sk rfl rfl rfl rfl ?_ | refine tl_qg rfl rfl (y_field rfl) rfl ?_))))
                 all_goals (first | refine tl_sk rfl rfl rfl rfl ?_ | refine tl_qg rfl rfl (y_load1 rfl (by repeat constructor) (by rfl)) rfl ?_); (first | refine tl_sk rfl rfl rfl rfl ?_ | refine tl_qg rfl rfl (y_len rfl) rfl ?_); (first | refine tl_sk rfl rfl rfl rfl ?_ | refine tl_qg rfl rfl (y_lss rfl rfl) rfl ?_); (first | refine tl_q (y_pick_t rfl rfl) rfl ?_ | refine tl_q (y_pick_f rfl rfl) rfl ?_); refine tl_nil ?_; ((refine hK20 ?_; try (clear hK20; clear K20)))
                 all_goals (
                  refine tc_cond rfl (fun hc => ?_) (fun hc => ?_)
                  · try simp only [qn1, qn2, qn3, qn4, qn5, qn6, qn7, qn8] at hc
                    all_goals ((first | (exfalso; with_reducible exact bft hc) | skip))
                    all_goals refine tc_seq fun K21 hK21 => ?_; refine tc_region ?_; refine tl_q (y_move rfl) rfl ?_; refine tl_q (y_move rfl) rfl ?_; refine tl_q (y_quo rfl rfl (by omega) (by omega)) rfl ?_; refine tl_q (y_rem rfl rfl (by omega) (by omega)) rfl ?_; refine tl_q (y_sub rfl rfl (by omega)) rfl ?_; refine tl_q (y_max rfl rfl) rfl ?_; refine tl_q (y_field rfl) rfl ?_; ((refine tl_q (y_load1f rfl (hl1.at (by repeat constructor)) MI.m (by first | (simp; done) | (simp; omega)) (by rfl)) rfl ?_))
                    all_goals refine tl_q (y_move rfl) rfl ?_; refine tl_q (y_move rfl) rfl ?_; refine tl_q (y_quo rfl rfl (by omega) (by omega)) rfl ?_; refine tl_q (y_add rfl rfl (by omega)) rfl ?_; refine tl_q (y_min rfl rfl) rfl ?_; refine tl_q (y_build_g (by repeat constructor)) rfl ?_; refine tl_e (e_allocN rfl) rfl (fun b16 _ => ?_); refine tl_e (e_storeW rfl rfl (by repeat constructor) (by rfl) (by rfl) (two_ones rfl rfl)) rfl (fun _ _ => ?_); refine tl_nil ?_; ((obtain ⟨lo0, hlo0⟩ : ∃ lo0, lo0 = max 0 ((h : Int) - wd / 16 % 3) := ⟨_, rfl⟩; obtain ⟨hi0, hhi0⟩ : ∃ hi0, hi0 = min s.L ((h : Int) + wd / 64) := ⟨_, rfl⟩; rw [← hlo0, ← hhi0]))
                    all_goals (have hlb : 0 ≤ lo0 ∧ lo0 ≤ h := by omega)
                    all_goals (have hhb : (h : Int) ≤ hi0 ∧ hi0 ≤ s.L := by omega)
                    all_goals (have hpr := prodB (a := q.size) (x := hi0 - lo0 + 1) ⟨by omega, by omega⟩ ⟨by omega, by omega⟩)
                    all_goals ((refine hK21 ?_; try (clear hK21; clear K21)))
                    all_goals (
                     refine tc_join (fun r : Int × Int => ((0 ≤ r.1 ∧ r.1 ≤ (h : Int)) ∧ (h : Int) ≤ r.2 ∧ r.2 ≤ s.L) ∧ 1 ≤ q.size * (r.2 - r.1 + 1) ∧ q.size * (r.2 - r.1 + 1) ≤ 30) (fun _ => [(1, .slice adw ws.length cpw), (2, ptr b2), (4, ptr b4), (5, ptr b5), (6, ptr b6), (7, ptr b7), (8, ptr b8), (9, ptr b9), (10, vi q.size), (11, vi 0), (12, vi h), (13, vi b), (15, vi to), (16, ptr b16)]) (fun _ => [(wl1, [b5, b4]), (w, [])]) (fun r => (b16, .cells #[vi r.1, vi r.2] 75 (0, 0)) :: (b9, .cells (isV q.hd) 117 (0, 0)) :: (b8, .cells (isV q.at_) 115 (0, 0)) :: (b7, .cells #[ouV q.hs.length q.o2, .slice none 0 0] 60 (0, 0)) :: (b6, .cells #[vi s.B, vi s.P, vi s.L, vi s.F, .slice adt s.st.length cpt, ouV q.ps.length q.o1, .slice none 0 0] 26 (0, 0)) :: (b5, .cells #[.slice none 0 0, .slice none 0 0] 60 (0, 0)) :: (b4, .cells #[vi 0, vi 0, vi 0, vi 0, .slice none 0 0, .slice none 0 0, .slice none 0 0] 26 (0, 0)) :: (slE 77 psE q.ps q.o1 ++ slE 3 inE q.hs q.o2)) ?_ ?_
                     · skip
                       all_goals refine tc_seq fun K22 hK22 => ?_; refine tc_region ?_; refine tl_q (y_move rfl) rfl ?_; refine tl_q (y_field rfl) rfl ?_; refine tl_q (y_load1 rfl (by repeat constructor) (by rfl)) rfl ?_; refine tl_q (y_field rfl) rfl ?_; refine tl_q (y_load1 rfl (by repeat constructor) (by rfl)) rfl ?_; refine tl_q (y_sub rfl rfl (by omega)) rfl ?_; refine tl_q (y_add rfl rfl (by omega)) rfl ?_; refine tl_q (y_mul rfl rfl (by omega)) rfl ?_; refine tl_q (y_gtr rfl rfl) rfl ?_; refine tl_nil ?_; ((refine hK22 ?_; try (clear hK22; clear K22)))
                       all_goals (
                        refine tc_cond rfl (fun hc => ?_) (fun hc => ?_)
                        · try simp only [qn1, qn2, qn3, qn4, qn5, qn6, qn7, qn8] at hc
                          all_goals refine tc_region ?_; refine tl_q (y_move rfl) rfl ?_; refine tl_q (y_move rfl) rfl ?_; refine tl_q (y_build_g (by repeat constructor)) rfl ?_; refine tl_e (e_storeW rfl rfl (by repeat constructor) (by rfl) (by rfl) (two_ones rfl rfl)) rfl (fun _ _ => ?_); refine tl_nil ?_
                          all_goals (
                           first
                           | (have h30 : q.size * (hi0 - lo0 + 1) ≤ 30 := by omega
                              exact tk_start (lo0, hi0) ⟨⟨hlb, hhb⟩, hpr.1, h30⟩ (.cons rfl (.cons rfl (.cons rfl (.cons rfl (.cons rfl (.cons rfl (.cons rfl (.cons rfl (.cons rfl (.cons rfl (.cons rfl (.cons rfl (.cons rfl (.cons rfl .nil)))))))))))))) (fun _ h => h.subl SB.s SB.s))
                           | (have h30 : 30 < q.size * (hi0 - lo0 + 1) := by omega
                              have h1 : q.size * ((h : Int) - (h : Int) + 1) = q.size := by rw [show (h : Int) - (h : Int) + 1 = 1 from by omega, Int.mul_one]
                              exact tk_start ((h : Int), (h : Int)) ⟨⟨⟨by dsimp only; omega, by dsimp only; omega⟩, by dsimp only; omega, by dsimp only; omega⟩, by dsimp only; rw [h1]; omega, by dsimp only; rw [h1]; omega⟩ (.cons rfl (.cons rfl (.cons rfl (.cons rfl (.cons rfl (.cons rfl (.cons rfl (.cons rfl (.cons rfl (.cons rfl (.cons rfl (.cons rfl (.cons rfl (.cons rfl .nil)))))))))))))) (fun _ h => h.subl SB.s SB.s)))
                        · try simp only [qn1, qn2, qn3, qn4, qn5, qn6, qn7, qn8] at hc
                          all_goals refine tc_skip ?_
                          all_goals (
                           first
                           | (have h30 : q.size * (hi0 - lo0 + 1) ≤ 30 := by omega
                              exact tk_start (lo0, hi0) ⟨⟨hlb, hhb⟩, hpr.1, h30⟩ (.cons rfl (.cons rfl (.cons rfl (.cons rfl (.cons rfl (.cons rfl (.cons rfl (.cons rfl (.cons rfl (.cons rfl (.cons rfl (.cons rfl (.cons rfl (.cons rfl .nil)))))))))))))) (fun _ h => h.subl SB.s SB.s))
                           | (have h30 : 30 < q.size * (hi0 - lo0 + 1) := by omega
                              have h1 : q.size * ((h : Int) - (h : Int) + 1) = q.size := by rw [show (h : Int) - (h : Int) + 1 = 1 from by omega, Int.mul_one]
                              exact tk_start ((h : Int), (h : Int)) ⟨⟨⟨by dsimp only; omega, by dsimp only; omega⟩, by dsimp only; omega, by dsimp only; omega⟩, by dsimp only; rw [h1]; omega, by dsimp only; rw [h1]; omega⟩ (.cons rfl (.cons rfl (.cons rfl (.cons rfl (.cons rfl (.cons rfl (.cons rfl (.cons rfl (.cons rfl (.cons rfl (.cons rfl (.cons rfl (.cons rfl (.cons rfl .nil)))))))))))))) (fun _ h => h.subl SB.s SB.s))))
                     · rintro r ⟨⟨hr1, hr2⟩, hp1, hp2⟩
                       have hpd := prodB (a := q.size) (x := r.2 - r.1 + 1) ⟨by omega, by omega⟩ ⟨by omega, by omega⟩
                       all_goals refine tc_seq fun K23 hK23 => ?_; refine tc_region ?_; refine tl_q (y_move rfl) rfl ?_; refine tl_q (y_field rfl) rfl ?_; refine tl_q (y_load1 rfl (by repeat constructor) (by rfl)) rfl ?_; refine tl_q (y_field rfl) rfl ?_; refine tl_q (y_load1 rfl (by repeat constructor) (by rfl)) rfl ?_; refine tl_q (y_sub rfl rfl (by omega)) rfl ?_; refine tl_q (y_add rfl rfl (by omega)) rfl ?_; refine tl_q (y_mul rfl rfl (by omega)) rfl ?_; refine tl_q (y_assign rfl) rfl ?_; refine tl_nil ?_; ((refine hK23 ?_; try (clear hK23; clear K23)))
                       all_goals (
                        refine tc_join (fun oo : OwnB × OwnB => okE 5 (q.ps ++ [(⟨b, q.at_.getD b 0, to, r.1, r.2⟩ : Pas)]) oo.1 ∧ okE 1 (q.hs ++ [(h : Int)]) oo.2) (fun _ => [(1, .slice adw ws.length cpw), (2, ptr b2), (4, ptr b4), (5, ptr b5), (6, ptr b6), (7, ptr b7), (8, ptr b8), (9, ptr b9), (10, vi (q.size * (r.2 - r.1 + 1))), (11, vi 0), (12, vi h), (13, vi b), (15, vi to)]) (fun _ => [(wl1, [b5, b4]), (w, [])]) (fun oo => (b9, .cells (isV q.hd) 117 (0, 0)) :: (b8, .cells (isV q.at_) 115 (0, 0)) :: (b7, .cells #[ouV (q.hs ++ [(h : Int)]).length oo.2, .slice none 0 0] 60 (0, 0)) :: (b6, .cells #[vi s.B, vi s.P, vi s.L, vi s.F, .slice adt s.st.length cpt, ouV (q.ps ++ [(⟨b, q.at_.getD b 0, to, r.1, r.2⟩ : Pas)]).length oo.1, .slice none 0 0] 26 (0, 0)) :: (b5, .cells #[.slice none 0 0, .slice none 0 0] 60 (0, 0)) :: (b4, .cells #[vi 0, vi 0, vi 0, vi 0, .slice none 0 0, .slice none 0 0, .slice none 0 0] 26 (0, 0)) :: (slE 77 psE (q.ps ++ [(⟨b, q.at_.getD b 0, to, r.1, r.2⟩ : Pas)]) oo.1 ++ slE 3 inE (q.hs ++ [(h : Int)]) oo.2)) ?_ ?_
                        · skip
                          all_goals refine tc_drawS ([(b16, .cells #[vi r.1, vi r.2] 75 (0, 0)), (b8, .cells (isV q.at_) 115 (0, 0)), (b7, .cells #[ouV q.hs.length q.o2, .slice none 0 0] 60 (0, 0))]) (by kernel_rfl) ?_; refine tx_p 0 rfl (by kernel_rfl) (y_field rfl) rfl (fun _ _ _ h => h) (fun _ h => h.subl SB.s SB.s) ?_; refine tx_p 2 rfl (by kernel_rfl) (y_move rfl) rfl (fun _ _ _ h => h) (fun _ h => h.subl SB.s SB.s) ?_; refine tx_p 3 rfl (by kernel_rfl) (y_move rfl) rfl (fun _ _ _ h => h) (fun _ h => h.subl SB.s SB.s) ?_; refine tx_p 4 rfl (by kernel_rfl) (y_indexA rfl rfl (by omega)) rfl (fun _ _ _ h => h) (fun _ h => h.subl SB.s SB.s) ?_; ((refine tx_qS 5 rfl (by kernel_rfl) (y_load1 (v := vi (q.at_.getD b 0)) rfl (by repeat constructor) (by rw [show 0 + Int.toNat (b : Int) * 1 = b from by omega]; exact cellAt_is (by omega))) rfl (fun _ _ _ h => h) (fun _ h => h.subl SB.s SB.s) ?_))
                          all_goals refine tx_p 6 rfl (by kernel_rfl) (y_move rfl) rfl (fun _ _ _ h => h) (fun _ h => h.subl SB.s SB.s) ?_; refine tx_qS 7 rfl (by kernel_rfl) (y_loadW rfl (by repeat constructor) (by rfl)) rfl (fun _ _ _ h => h) (fun _ h => h.subl SB.s SB.s) ?_; refine tx_p 8 rfl (by kernel_rfl) (y_build_g (by repeat constructor)) rfl (fun _ _ _ h => h) (fun _ h => h.subl SB.s SB.s) ?_; refine tx_p 11 rfl (by kernel_rfl) (y_field rfl) rfl (fun _ _ _ h => h) (fun _ h => h.subl SB.s SB.s) ?_; refine tx_qS 12 rfl (by kernel_rfl) (y_load1 rfl (by repeat constructor) (by rfl)) rfl (fun _ _ _ h => h) (fun _ h => h.subl SB.s SB.s) ?_; refine tx_p 13 rfl (by kernel_rfl) (y_move rfl) rfl (fun _ _ _ h => h) (fun _ h => h.subl SB.s SB.s) ?_
                          all_goals (
                           refine tx_three 1 9 14 (by kernel_rfl) ?_ ?_ ?_
                           rotate_left 2
                           focus (
                            (refine to_e rfl rfl (e_bslice rfl (by (repeat (first | exact .nil | apply PV.one rfl rfl)); done) rfl rfl) (.inr ⟨fun _ _ h => h.subl SB.s SB.s, fun _ h => h⟩) (fun b127 _ => ?_))
                            all_goals (
                             refine tx_pair 1 9 (by kernel_rfl) ?_ ?_
                             rotate_left
                             focus (
                              (refine to_e rfl rfl (e_bsliceG rfl (.agg rfl rfl .nil) rfl rfl) (.inr ⟨fun _ _ h => h.subl SB.s SB.s, fun _ h => h⟩) (fun b122 _ => ?_))
                              all_goals (refine tx_single 1 (by kernel_rfl) (to_e rfl rfl (e_y rfl (y_load1 rfl (by repeat constructor) (by rfl))) (.inr ⟨fun _ _ h => h.subl SB.s SB.s, fun _ h => h⟩) (fun _ _ => ?_))); ((refine tx_single 10 (by kernel_rfl) (to_e rfl rfl (e_appendE (enc := psE) (xs := q.ps) (ys := [(⟨b, q.at_.getD b 0, to, r.1, r.2⟩ : Pas)]) psE_len psE_one rfl rfl rfl hok1 (fun _ => by repeat constructor) (fun w' hw' => RdS.own0 psE_len hw' (by repeat constructor)) (by simp only [List.length_cons, List.length_nil]; omega) rfl) (.inr ⟨fun _ _ h => h.subl SB.s SB.s, fun _ h => h⟩) (fun o1' hok1' => ?_))))
                              all_goals refine tx_p 16 rfl (by kernel_rfl) (y_field rfl) rfl (fun _ _ _ h => h) (fun _ h => h.subl SB.s SB.s) ?_; ((refine tx_single 15 (by kernel_rfl) (to_e rfl rfl (e_appendE (enc := inE) (xs := q.hs) (ys := [(h : Int)]) inE_len inE_one rfl rfl rfl hok2 (fun _ => by repeat constructor) (fun w' hw' => RdS.own0 inE_len hw' (by repeat constructor)) (by simp only [List.length_cons, List.length_nil]; omega) rfl) (.inr ⟨fun _ _ h => h.subl SB.s SB.s, fun _ h => h⟩) (fun o2' hok2' => ?_))))
                              all_goals (refine tx_single 17 (by kernel_rfl) (to_e rfl rfl (e_store1 rfl rfl (by repeat constructor) (by repeat constructor) (by rfl) (by rfl)) (.inr ⟨fun _ _ h => h.subl SB.s SB.s, fun _ h => h⟩) (fun _ _ => ?_))); refine tx_p 18 rfl (by kernel_rfl) (y_field rfl) rfl (fun _ _ _ h => h) (fun _ h => h.subl SB.s SB.s) ?_; refine tx_single 19 (by kernel_rfl) (to_e (S' := HG [] []) rfl rfl (e_store1 rfl rfl (by repeat constructor) (by repeat constructor) (by rfl) (by rfl)) (.inl (by kernel_rfl)) (fun _ _ => ?_))
                              all_goals refine tx_done (by kernel_rfl) ?_)
                             rotate_right
                             focus (
                              (refine to_e rfl rfl (e_y rfl (y_load1 rfl (by repeat constructor) (by rfl))) (.inr ⟨fun _ _ h => h.subl SB.s SB.s, fun _ h => h⟩) (fun _ _ => ?_))
                              all_goals (refine tx_single 9 (by kernel_rfl) (to_e rfl rfl (e_bsliceG rfl (.agg rfl rfl .nil) rfl rfl) (.inr ⟨fun _ _ h => h.subl SB.s SB.s, fun _ h => h⟩) (fun b122 _ => ?_))); ((refine tx_single 10 (by kernel_rfl) (to_e rfl rfl (e_appendE (enc := psE) (xs := q.ps) (ys := [(⟨b, q.at_.getD b 0, to, r.1, r.2⟩ : Pas)]) psE_len psE_one rfl rfl rfl hok1 (fun _ => by repeat constructor) (fun w' hw' => RdS.own0 psE_len hw' (by repeat constructor)) (by simp only [List.length_cons, List.length_nil]; omega) rfl) (.inr ⟨fun _ _ h => h.subl SB.s SB.s, fun _ h => h⟩) (fun o1' hok1' => ?_))))
                              all_goals refine tx_p 16 rfl (by kernel_rfl) (y_field rfl) rfl (fun _ _ _ h => h) (fun _ h => h.subl SB.s SB.s) ?_; ((refine tx_single 15 (by kernel_rfl) (to_e rfl rfl (e_appendE (enc := inE) (xs := q.hs) (ys := [(h : Int)]) inE_len inE_one rfl rfl rfl hok2 (fun _ => by repeat constructor) (fun w' hw' => RdS.own0 inE_len hw' (by repeat constructor)) (by simp only [List.length_cons, List.length_nil]; omega) rfl) (.inr ⟨fun _ _ h => h.subl SB.s SB.s, fun _ h => h⟩) (fun o2' hok2' => ?_))))
                              all_goals (refine tx_single 17 (by kernel_rfl) (to_e rfl rfl (e_store1 rfl rfl (by repeat constructor) (by repeat constructor) (by rfl) (by rfl)) (.inr ⟨fun _ _ h => h.subl SB.s SB.s, fun _ h => h⟩) (fun _ _ => ?_))); refine tx_p 18 rfl (by kernel_rfl) (y_field rfl) rfl (fun _ _ _ h => h) (fun _ h => h.subl SB.s SB.s) ?_; refine tx_single 19 (by kernel_rfl) (to_e (S' := HG [] []) rfl rfl (e_store1 rfl rfl (by repeat constructor) (by repeat constructor) (by rfl) (by rfl)) (.inl (by kernel_rfl)) (fun _ _ => ?_))
                              all_goals refine tx_done (by kernel_rfl) ?_)))
                           rotate_right
                           focus (
                            (refine to_e rfl rfl (e_bsliceG rfl (.agg rfl rfl .nil) rfl rfl) (.inr ⟨fun _ _ h => h.subl SB.s SB.s, fun _ h => h⟩) (fun b122 _ => ?_))
                            all_goals (
                             refine tx_pair 1 14 (by kernel_rfl) ?_ ?_
                             rotate_left
                             focus (
                              (refine to_e rfl rfl (e_bslice rfl (by (repeat (first | exact .nil | apply PV.one rfl rfl)); done) rfl rfl) (.inr ⟨fun _ _ h => h.subl SB.s SB.s, fun _ h => h⟩) (fun b127 _ => ?_))
                              all_goals (refine tx_single 1 (by kernel_rfl) (to_e rfl rfl (e_y rfl (y_load1 rfl (by repeat constructor) (by rfl))) (.inr ⟨fun _ _ h => h.subl SB.s SB.s, fun _ h => h⟩) (fun _ _ => ?_))); ((refine tx_single 10 (by kernel_rfl) (to_e rfl rfl (e_appendE (enc := psE) (xs := q.ps) (ys := [(⟨b, q.at_.getD b 0, to, r.1, r.2⟩ : Pas)]) psE_len psE_one rfl rfl rfl hok1 (fun _ => by repeat constructor) (fun w' hw' => RdS.own0 psE_len hw' (by repeat constructor)) (by simp only [List.length_cons, List.length_nil]; omega) rfl) (.inr ⟨fun _ _ h => h.subl SB.s SB.s, fun _ h => h⟩) (fun o1' hok1' => ?_))))
                              all_goals refine tx_p 16 rfl (by kernel_rfl) (y_field rfl) rfl (fun _ _ _ h => h) (fun _ h => h.subl SB.s SB.s) ?_; ((refine tx_single 15 (by kernel_rfl) (to_e rfl rfl (e_appendE (enc := inE) (xs := q.hs) (ys := [(h : Int)]) inE_len inE_one rfl rfl rfl hok2 (fun _ => by repeat constructor) (fun w' hw' => RdS.own0 inE_len hw' (by repeat constructor)) (by simp only [List.length_cons, List.length_nil]; omega) rfl) (.inr ⟨fun _ _ h => h.subl SB.s SB.s, fun _ h => h⟩) (fun o2' hok2' => ?_))))
                              all_goals (refine tx_single 17 (by kernel_rfl) (to_e rfl rfl (e_store1 rfl rfl (by repeat constructor) (by repeat constructor) (by rfl) (by rfl)) (.inr ⟨fun _ _ h => h.subl SB.s SB.s, fun _ h => h⟩) (fun _ _ => ?_))); refine tx_p 18 rfl (by kernel_rfl) (y_field rfl) rfl (fun _ _ _ h => h) (fun _ h => h.subl SB.s SB.s) ?_; refine tx_single 19 (by kernel_rfl) (to_e (S' := HG [] []) rfl rfl (e_store1 rfl rfl (by repeat constructor) (by repeat constructor) (by rfl) (by rfl)) (.inl (by kernel_rfl)) (fun _ _ => ?_))
                              all_goals refine tx_done (by kernel_rfl) ?_)
                             rotate_right
                             focus (
                              (refine to_e rfl rfl (e_y rfl (y_load1 rfl (by repeat constructor) (by rfl))) (.inr ⟨fun _ _ h => h.subl SB.s SB.s, fun _ h => h⟩) (fun _ _ => ?_))
                              all_goals (
                               refine tx_pair 10 14 (by kernel_rfl) ?_ ?_
                               rotate_left
                               focus (
                                (refine to_e rfl rfl (e_bslice rfl (by (repeat (first | exact .nil | apply PV.one rfl rfl)); done) rfl rfl) (.inr ⟨fun _ _ h => h.subl SB.s SB.s, fun _ h => h⟩) (fun b127 _ => ?_))
                                all_goals ((refine tx_single 10 (by kernel_rfl) (to_e rfl rfl (e_appendE (enc := psE) (xs := q.ps) (ys := [(⟨b, q.at_.getD b 0, to, r.1, r.2⟩ : Pas)]) psE_len psE_one rfl rfl rfl hok1 (fun _ => by repeat constructor) (fun w' hw' => RdS.own0 psE_len hw' (by repeat constructor)) (by simp only [List.length_cons, List.length_nil]; omega) rfl) (.inr ⟨fun _ _ h => h.subl SB.s SB.s, fun _ h => h⟩) (fun o1' hok1' => ?_))))
                                all_goals refine tx_p 16 rfl (by kernel_rfl) (y_field rfl) rfl (fun _ _ _ h => h) (fun _ h => h.subl SB.s SB.s) ?_; ((refine tx_single 15 (by kernel_rfl) (to_e rfl rfl (e_appendE (enc := inE) (xs := q.hs) (ys := [(h : Int)]) inE_len inE_one rfl rfl rfl hok2 (fun _ => by repeat constructor) (fun w' hw' => RdS.own0 inE_len hw' (by repeat constructor)) (by simp only [List.length_cons, List.length_nil]; omega) rfl) (.inr ⟨fun _ _ h => h.subl SB.s SB.s, fun _ h => h⟩) (fun o2' hok2' => ?_))))
                                all_goals (refine tx_single 17 (by kernel_rfl) (to_e rfl rfl (e_store1 rfl rfl (by repeat constructor) (by repeat constructor) (by rfl) (by rfl)) (.inr ⟨fun _ _ h => h.subl SB.s SB.s, fun _ h => h⟩) (fun _ _ => ?_))); refine tx_p 18 rfl (by kernel_rfl) (y_field rfl) rfl (fun _ _ _ h => h) (fun _ h => h.subl SB.s SB.s) ?_; refine tx_single 19 (by kernel_rfl) (to_e (S' := HG [] []) rfl rfl (e_store1 rfl rfl (by repeat constructor) (by repeat constructor) (by rfl) (by rfl)) (.inl (by kernel_rfl)) (fun _ _ => ?_))
                                all_goals refine tx_done (by kernel_rfl) ?_)
                               rotate_right
                               focus (
                                (refine to_e rfl rfl (e_appendE (enc := psE) (xs := q.ps) (ys := [(⟨b, q.at_.getD b 0, to, r.1, r.2⟩ : Pas)]) psE_len psE_one rfl rfl rfl hok1 (fun _ => by repeat constructor) (fun w' hw' => RdS.own0 psE_len hw' (by repeat constructor)) (by simp only [List.length_cons, List.length_nil]; omega) rfl) (.inr ⟨fun _ _ h => h.subl SB.s SB.s, fun _ h => h⟩) (fun o1' hok1' => ?_))
                                all_goals refine tx_p 16 rfl (by kernel_rfl) (y_field rfl) rfl (fun _ _ _ h => h) (fun _ h => h.subl SB.s SB.s) ?_; ((refine tx_single 14 (by kernel_rfl) (to_e rfl rfl (e_bslice rfl (by (repeat (first | exact .nil | apply PV.one rfl rfl)); done) rfl rfl) (.inr ⟨fun _ _ h => h.subl SB.s SB.s, fun _ h => h⟩) (fun b127 _ => ?_))))
                                all_goals ((refine tx_single 15 (by kernel_rfl) (to_e rfl rfl (e_appendE (enc := inE) (xs := q.hs) (ys := [(h : Int)]) inE_len inE_one rfl rfl rfl hok2 (fun _ => by repeat constructor) (fun w' hw' => RdS.own0 inE_len hw' (by repeat constructor)) (by simp only [List.length_cons, List.length_nil]; omega) rfl) (.inr ⟨fun _ _ h => h.subl SB.s SB.s, fun _ h => h⟩) (fun o2' hok2' => ?_))))
                                all_goals (refine tx_single 17 (by kernel_rfl) (to_e rfl rfl (e_store1 rfl rfl (by repeat constructor) (by repeat constructor) (by rfl) (by rfl)) (.inr ⟨fun _ _ h => h.subl SB.s SB.s, fun _ h => h⟩) (fun _ _ => ?_))); refine tx_p 18 rfl (by kernel_rfl) (y_field rfl) rfl (fun _ _ _ h => h) (fun _ h => h.subl SB.s SB.s) ?_; refine tx_single 19 (by kernel_rfl) (to_e (S' := HG [] []) rfl rfl (e_store1 rfl rfl (by repeat constructor) (by repeat constructor) (by rfl) (by rfl)) (.inl (by kernel_rfl)) (fun _ _ => ?_))
                                all_goals refine tx_done (by kernel_rfl) ?_)))))
                           rotate_right
                           focus (
                            (refine to_e rfl rfl (e_y rfl (y_load1 rfl (by repeat constructor) (by rfl))) (.inr ⟨fun _ _ h => h.subl SB.s SB.s, fun _ h => h⟩) (fun _ _ => ?_))
                            all_goals (
                             refine tx_pair 9 14 (by kernel_rfl) ?_ ?_
                             rotate_left
                             focus (
                              (refine to_e rfl rfl (e_bslice rfl (by (repeat (first | exact .nil | apply PV.one rfl rfl)); done) rfl rfl) (.inr ⟨fun _ _ h => h.subl SB.s SB.s, fun _ h => h⟩) (fun b127 _ => ?_))
                              all_goals (refine tx_single 9 (by kernel_rfl) (to_e rfl rfl (e_bsliceG rfl (.agg rfl rfl .nil) rfl rfl) (.inr ⟨fun _ _ h => h.subl SB.s SB.s, fun _ h => h⟩) (fun b122 _ => ?_))); ((refine tx_single 10 (by kernel_rfl) (to_e rfl rfl (e_appendE (enc := psE) (xs := q.ps) (ys := [(⟨b, q.at_.getD b 0, to, r.1, r.2⟩ : Pas)]) psE_len psE_one rfl rfl rfl hok1 (fun _ => by repeat constructor) (fun w' hw' => RdS.own0 psE_len hw' (by repeat constructor)) (by simp only [List.length_cons, List.length_nil]; omega) rfl) (.inr ⟨fun _ _ h => h.subl SB.s SB.s, fun _ h => h⟩) (fun o1' hok1' => ?_))))
                              all_goals refine tx_p 16 rfl (by kernel_rfl) (y_field rfl) rfl (fun _ _ _ h => h) (fun _ h => h.subl SB.s SB.s) ?_; ((refine tx_single 15 (by kernel_rfl) (to_e rfl rfl (e_appendE (enc := inE) (xs := q.hs) (ys := [(h : Int)]) inE_len inE_one rfl rfl rfl hok2 (fun _ => by repeat constructor) (fun w' hw' => RdS.own0 inE_len hw' (by repeat constructor)) (by simp only [List.length_cons, List.length_nil]; omega) rfl) (.inr ⟨fun _ _ h => h.subl SB.s SB.s, fun _ h => h⟩) (fun o2' hok2' => ?_))))
                              all_goals (refine tx_single 17 (by kernel_rfl) (to_e rfl rfl (e_store1 rfl rfl (by repeat constructor) (by repeat constructor) (by rfl) (by rfl)) (.inr ⟨fun _ _ h => h.subl SB.s SB.s, fun _ h => h⟩) (fun _ _ => ?_))); refine tx_p 18 rfl (by kernel_rfl) (y_field rfl) rfl (fun _ _ _ h => h) (fun _ h => h.subl SB.s SB.s) ?_; refine tx_single 19 (by kernel_rfl) (to_e (S' := HG [] []) rfl rfl (e_store1 rfl rfl (by repeat constructor) (by repeat constructor) (by rfl) (by rfl)) (.inl (by kernel_rfl)) (fun _ _ => ?_))
                              all_goals refine tx_done (by kernel_rfl) ?_)
                             rotate_right
                             focus (
                              (refine to_e rfl rfl (e_bsliceG rfl (.agg rfl rfl .nil) rfl rfl) (.inr ⟨fun _ _ h => h.subl SB.s SB.s, fun _ h => h⟩) (fun b122 _ => ?_))
                              all_goals (
                               refine tx_pair 10 14 (by kernel_rfl) ?_ ?_
                               rotate_left
                               focus (
                                (refine to_e rfl rfl (e_bslice rfl (by (repeat (first | exact .nil | apply PV.one rfl rfl)); done) rfl rfl) (.inr ⟨fun _ _ h => h.subl SB.s SB.s, fun _ h => h⟩) (fun b127 _ => ?_))
                                all_goals ((refine tx_single 10 (by kernel_rfl) (to_e rfl rfl (e_appendE (enc := psE) (xs := q.ps) (ys := [(⟨b, q.at_.getD b 0, to, r.1, r.2⟩ : Pas)]) psE_len psE_one rfl rfl rfl hok1 (fun _ => by repeat constructor) (fun w' hw' => RdS.own0 psE_len hw' (by repeat constructor)) (by simp only [List.length_cons, List.length_nil]; omega) rfl) (.inr ⟨fun _ _ h => h.subl SB.s SB.s, fun _ h => h⟩) (fun o1' hok1' => ?_))))
                                all_goals refine tx_p 16 rfl (by kernel_rfl) (y_field rfl) rfl (fun _ _ _ h => h) (fun _ h => h.subl SB.s SB.s) ?_; ((refine tx_single 15 (by kernel_rfl) (to_e rfl rfl (e_appendE (enc := inE) (xs := q.hs) (ys := [(h : Int)]) inE_len inE_one rfl rfl rfl hok2 (fun _ => by repeat constructor) (fun w' hw' => RdS.own0 inE_len hw' (by repeat constructor)) (by simp only [List.length_cons, List.length_nil]; omega) rfl) (.inr ⟨fun _ _ h => h.subl SB.s SB.s, fun _ h => h⟩) (fun o2' hok2' => ?_))))
                                all_goals (refine tx_single 17 (by kernel_rfl) (to_e rfl rfl (e_store1 rfl rfl (by repeat constructor) (by repeat constructor) (by rfl) (by rfl)) (.inr ⟨fun _ _ h => h.subl SB.s SB.s, fun _ h => h⟩) (fun _ _ => ?_))); refine tx_p 18 rfl (by kernel_rfl) (y_field rfl) rfl (fun _ _ _ h => h) (fun _ h => h.subl SB.s SB.s) ?_; refine tx_single 19 (by kernel_rfl) (to_e (S' := HG [] []) rfl rfl (e_store1 rfl rfl (by repeat constructor) (by repeat constructor) (by rfl) (by rfl)) (.inl (by kernel_rfl)) (fun _ _ => ?_))
                                all_goals refine tx_done (by kernel_rfl) ?_)
                               rotate_right
                               focus (
                                (refine to_e rfl rfl (e_appendE (enc := psE) (xs := q.ps) (ys := [(⟨b, q.at_.getD b 0, to, r.1, r.2⟩ : Pas)]) psE_len psE_one rfl rfl rfl hok1 (fun _ => by repeat constructor) (fun w' hw' => RdS.own0 psE_len hw' (by repeat constructor)) (by simp only [List.length_cons, List.length_nil]; omega) rfl) (.inr ⟨fun _ _ h => h.subl SB.s SB.s, fun _ h => h⟩) (fun o1' hok1' => ?_))
                                all_goals refine tx_p 16 rfl (by kernel_rfl) (y_field rfl) rfl (fun _ _ _ h => h) (fun _ h => h.subl SB.s SB.s) ?_; ((refine tx_single 14 (by kernel_rfl) (to_e rfl rfl (e_bslice rfl (by (repeat (first | exact .nil | apply PV.one rfl rfl)); done) rfl rfl) (.inr ⟨fun _ _ h => h.subl SB.s SB.s, fun _ h => h⟩) (fun b127 _ => ?_))))
                                all_goals ((refine tx_single 15 (by kernel_rfl) (to_e rfl rfl (e_appendE (enc := inE) (xs := q.hs) (ys := [(h : Int)]) inE_len inE_one rfl rfl rfl hok2 (fun _ => by repeat constructor) (fun w' hw' => RdS.own0 inE_len hw' (by repeat constructor)) (by simp only [List.length_cons, List.length_nil]; omega) rfl) (.inr ⟨fun _ _ h => h.subl SB.s SB.s, fun _ h => h⟩) (fun o2' hok2' => ?_))))
                                all_goals (refine tx_single 17 (by kernel_rfl) (to_e rfl rfl (e_store1 rfl rfl (by repeat constructor) (by repeat constructor) (by rfl) (by rfl)) (.inr ⟨fun _ _ h => h.subl SB.s SB.s, fun _ h => h⟩) (fun _ _ => ?_))); refine tx_p 18 rfl (by kernel_rfl) (y_field rfl) rfl (fun _ _ _ h => h) (fun _ h => h.subl SB.s SB.s) ?_; refine tx_single 19 (by kernel_rfl) (to_e (S' := HG [] []) rfl rfl (e_store1 rfl rfl (by repeat constructor) (by repeat constructor) (by rfl) (by rfl)) (.inl (by kernel_rfl)) (fun _ _ => ?_))
                                all_goals refine tx_done (by kernel_rfl) ?_))))))
                          all_goals (
                           exact tk_start (o1', o2') ⟨hok1', hok2'⟩ (.cons rfl (.cons rfl (.cons rfl (.cons rfl (.cons rfl (.cons rfl (.cons rfl (.cons rfl (.cons rfl (.cons rfl (.cons rfl (.cons rfl (.cons rfl .nil))))))))))))) (fun _ h => h.subl SB.s SB.s))
                        · rintro ⟨o1', o2'⟩ ⟨hok1', hok2'⟩
                          dsimp only at hok1' hok2' ⊢
                          all_goals refine tc_region ?_; refine tl_q (y_move rfl) rfl ?_; refine tl_q (y_move rfl) rfl ?_; refine tl_q (y_indexA rfl rfl (by omega)) rfl ?_; refine tl_e (e_storeI (l := q.at_) rfl rfl (by omega) (by repeat constructor)) rfl (fun _ _ => ?_); refine tl_nil ?_
                          all_goals (
                           first
                           | (have hpp := hap.pass hv (by omega) (by omega) (to := to) (lo := r.1) (hi := r.2) ⟨hto0, hto1⟩ (by assumption) hr1 hr2 (by omega) hp2
                              have hge : (q.at_.set b to).getD b 0 = to := by rw [getD_setI (by omega), if_pos rfl]
                              refine tk_start ⟨q.ps ++ [(⟨b, q.at_.getD b 0, to, r.1, r.2⟩ : Pas)], q.hs ++ [(h : Int)], q.at_.set b to, q.hd, q.size * (r.2 - r.1 + 1), o1', o2'⟩ ⟨⟨by dsimp only; rw [hge]; exact hpp, by dsimp only; rw [List.length_set]; exact hat3⟩, hok1', hok2'⟩ (.cons rfl (.cons rfl (.cons rfl (.cons rfl (.cons rfl (.cons rfl (.cons rfl (.cons rfl (.cons rfl (.cons rfl (.cons rfl (.cons rfl .nil)))))))))))) (fun _ hg => by dsimp only; rw [show 0 + Int.toNat (b : Int) * 1 = b from by omega] at hg; exact hg.subl SB.s SB.s))
                           | exact tk_start q ⟨⟨hap.idle hv (by omega) (by omega), hat3⟩, hok1, hok2⟩ (.cons rfl (.cons rfl (.cons rfl (.cons rfl (.cons rfl (.cons rfl (.cons rfl (.cons rfl (.cons rfl (.cons rfl (.cons rfl (.cons rfl .nil)))))))))))) (fun _ h => h.subl SB.s SB.s))))
                  · try simp only [qn1, qn2, qn3, qn4, qn5, qn6, qn7, qn8] at hc
                    all_goals refine tc_skip ?_
                    all_goals (
                     first
                     | (have hpp := hap.pass hv (by omega) (by omega) (to := to) (lo := r.1) (hi := r.2) ⟨hto0, hto1⟩ (by assumption) hr1 hr2 (by omega) hp2
                        have hge : (q.at_.set b to).getD b 0 = to := by rw [getD_setI (by omega), if_pos rfl]
                        refine tk_start ⟨q.ps ++ [(⟨b, q.at_.getD b 0, to, r.1, r.2⟩ : Pas)], q.hs ++ [(h : Int)], q.at_.set b to, q.hd, q.size * (r.2 - r.1 + 1), o1', o2'⟩ ⟨⟨by dsimp only; rw [hge]; exact hpp, by dsimp only; rw [List.length_set]; exact hat3⟩, hok1', hok2'⟩ (.cons rfl (.cons rfl (.cons rfl (.cons rfl (.cons rfl (.cons rfl (.cons rfl (.cons rfl (.cons rfl (.cons rfl (.cons rfl (.cons rfl .nil)))))))))))) (fun _ hg => by dsimp only; rw [show 0 + Int.toNat (b : Int) * 1 = b from by omega] at hg; exact hg.subl SB.s SB.s))
                     | exact tk_start q ⟨⟨hap.idle hv (by omega) (by omega), hat3⟩, hok1, hok2⟩ (.cons rfl (.cons rfl (.cons rfl (.cons rfl (.cons rfl (.cons rfl (.cons rfl (.cons rfl (.cons rfl (.cons rfl (.cons rfl (.cons rfl .nil)))))))))))) (fun _ h => h.subl SB.s SB.s)))
               · rintro z ⟨⟨hz, hz3⟩, hokz1, hokz2⟩
                 all_goals refine tc_draw (by kernel_rfl) ?_; refine tx_p 0 rfl (by kernel_rfl) (y_move rfl) rfl (fun _ _ _ h => h) (fun _ h => h) ?_; refine tx_p 1 rfl (by kernel_rfl) (y_move rfl) rfl (fun _ _ _ h => h) (fun _ h => h) ?_; refine tx_p 2 rfl (by kernel_rfl) (y_move rfl) rfl (fun _ _ _ h => h) (fun _ h => h) ?_; refine tx_p 3 rfl (by kernel_rfl) (y_indexA rfl rfl (by omega)) rfl (fun _ _ _ h => h) (fun _ h => h) ?_; ((refine tx_q 4 rfl (by kernel_rfl) (y_load1 (v := vi (z.at_.getD b 0)) rfl (by repeat constructor) (by rw [show 0 + Int.toNat (b : Int) * 1 = b from by omega]; exact cellAt_is (by omega))) rfl (fun _ _ _ h => h) (fun _ h => h) ?_))
                 all_goals (refine tx_p 5 rfl (by kernel_rfl) (y_indexA rfl rfl (by omega)) rfl (fun _ _ _ h => h) (fun _ h => h) ?_); refine tx_p 6 rfl (by kernel_rfl) (y_indexA rfl rfl (by omega)) rfl (fun _ _ _ h => h) (fun _ h => h) ?_; refine tx_e 7 rfl (by kernel_rfl) rfl (e_storeI (l := q.hd) rfl rfl (by omega) (by repeat constructor)) (.inl (by kernel_rfl)) (fun _ _ => ?_); refine tx_done (by kernel_rfl) ?_; ((refine hK17 ?_; try (clear hK17; clear K17)))
                 all_goals refine tc_region ?_; refine tl_q (y_move rfl) rfl ?_; refine tl_q (y_add rfl rfl (by omega)) rfl ?_; refine tl_q (y_assign rfl) rfl ?_; refine tl_nil ?_
                 all_goals (
                  exact tk_round (b + 1, ⟨z.ps, z.hs, z.at_, q.hd.set (b * 10 + h) (z.at_.getD b 0), z.size, z.o1, z.o2⟩) ⟨⟨by dsimp only; omega, hz⟩, hokz1, hokz2⟩ (by dsimp only; omega) (.cons rfl (.cons rfl (.cons rfl (.cons rfl (.cons rfl (.cons rfl (.cons rfl (.cons rfl (.cons rfl (.cons rfl (.cons rfl (.cons rfl .nil)))))))))))) (fun _ hg => by dsimp only; rw [show 0 + Int.toNat (b : Int) * 10 + Int.toNat (h : Int) * 1 = b * 10 + h from by omega] at hg; exact hg.subl SB.s SB.s)))
            · try simp only [qn1, qn2, qn3, qn4, qn5, qn6, qn7, qn8] at hc
              all_goals refine tc_exit ?_; ((refine hK13 ?_; try (clear hK13; clear K13)))
              all_goals refine tc_region ?_; refine tl_q (y_move rfl) rfl ?_; refine tl_q (y_add rfl rfl (by omega)) rfl ?_; refine tl_q (y_assign rfl) rfl ?_; refine tl_nil ?_
              all_goals (
               exact tk_round (h + 1, q) ⟨⟨by dsimp only; omega, hap.next (by omega)⟩, hok1, hok2⟩ (by dsimp only; omega) (.cons rfl (.cons rfl (.cons rfl (.cons rfl (.cons rfl (.cons rfl (.cons rfl (.cons rfl (.cons rfl (.cons rfl (.cons rfl .nil))))))))))) (fun _ h => h.subl SB.s SB.s))))
      · try simp only [qn1, qn2, qn3, qn4, qn5, qn6, qn7, qn8] at hc
        all_goals refine tc_exit ?_; ((refine hK9 ?_; try (clear hK9; clear K9)))
        all_goals refine tc_seq fun K24 hK24 => ?_; refine tc_seq fun K25 hK25 => ?_; refine tc_region ?_; refine tl_q (y_assign rfl) rfl ?_; refine tl_nil ?_; ((refine hK25 ?_; try (clear hK25; clear K25)))
        all_goals refine tc_block ?_
        all_goals (
         obtain rfl : h = (s.L + 1).toNat := by omega
         refine tc_loop (fun p : Nat × List (List Int) × List Sv × OwnB × World => ((p.1 : Int) ≤ s.B ∧ p.2.1.length = p.1) ∧ (∀ j, j < p.1 → (((p.2.1.getD j []).length : Int) = s.L + 1 ∧ ∀ a ∈ p.2.1.getD j [], 0 ≤ a ∧ a ≤ 3) ∧ ∀ cl, heldF (smP s q.ps) (j : Nat) q.hs = some cl → (whN (smP s q.ps) (j : Nat) cl (p.2.1.getD j []) (s.L + 1).toNat).isSome = true) ∧ okE 1 p.2.2.1 p.2.2.2.1 ∧ OKV 1 inE p.2.2.2.2 (((b9, .cells (isV q.hd) 117 (0, 0)) :: (b7, .cells #[ouV q.hs.length q.o2, ouV p.2.2.1.length p.2.2.2.1] 60 (0, 0)) :: (b6, .cells #[vi s.B, vi s.P, vi s.L, vi s.F, .slice adt s.st.length cpt, ouV q.ps.length q.o1, .slice none 0 0] 26 (0, 0)) :: (b5, .cells #[.slice none 0 0, .slice none 0 0] 60 (0, 0)) :: (b4, .cells #[vi 0, vi 0, vi 0, vi 0, .slice none 0 0, .slice none 0 0, .slice none 0 0] 26 (0, 0)) :: (slE 77 psE q.ps q.o1 ++ (slE 3 inE q.hs q.o2 ++ slE 29 svE p.2.2.1 p.2.2.2.1))).map Prod.fst) p.2.2.1 p.2.1 ∧ NewV w p.2.2.1) (fun p => [(1, .slice adw ws.length cpw), (2, ptr b2), (4, ptr b4), (5, ptr b5), (6, ptr b6), (7, ptr b7), (9, ptr b9), (11, vi ((p.1 : Int) * (s.L + 1))), (17, vi p.1)]) (fun p => [(p.2.2.2.2, ((b9, .cells (isV q.hd) 117 (0, 0)) :: (b7, .cells #[ouV q.hs.length q.o2, ouV p.2.2.1.length p.2.2.2.1] 60 (0, 0)) :: (b6, .cells #[vi s.B, vi s.P, vi s.L, vi s.F, .slice adt s.st.length cpt, ouV q.ps.length q.o1, .slice none 0 0] 26 (0, 0)) :: (b5, .cells #[.slice none 0 0, .slice none 0 0] 60 (0, 0)) :: (b4, .cells #[vi 0, vi 0, vi 0, vi 0, .slice none 0 0, .slice none 0 0, .slice none 0 0] 26 (0, 0)) :: (slE 77 psE q.ps q.o1 ++ (slE 3 inE q.hs q.o2 ++ slE 29 svE p.2.2.1 p.2.2.2.1))).map Prod.fst), (wl1, [b5, b4]), (w, [])]) (fun p => (b9, .cells (isV q.hd) 117 (0, 0)) :: (b7, .cells #[ouV q.hs.length q.o2, ouV p.2.2.1.length p.2.2.2.1] 60 (0, 0)) :: (b6, .cells #[vi s.B, vi s.P, vi s.L, vi s.F, .slice adt s.st.length cpt, ouV q.ps.length q.o1, .slice none 0 0] 26 (0, 0)) :: (b5, .cells #[.slice none 0 0, .slice none 0 0] 60 (0, 0)) :: (b4, .cells #[vi 0, vi 0, vi 0, vi 0, .slice none 0 0, .slice none 0 0, .slice none 0 0] 26 (0, 0)) :: (slE 77 psE q.ps q.o1 ++ (slE 3 inE q.hs q.o2 ++ slE 29 svE p.2.2.1 p.2.2.2.1))) (fun p => s.B.toNat - p.1) ?_ ?_
         · refine tk_lay ((b9, .cells (isV q.hd) 117 (0, 0)) :: (b7, .cells #[ouV q.hs.length q.o2, ouV ([] : List Sv).length none] 60 (0, 0)) :: (b6, .cells #[vi s.B, vi s.P, vi s.L, vi s.F, .slice adt s.st.length cpt, ouV q.ps.length q.o1, .slice none 0 0] 26 (0, 0)) :: (b5, .cells #[.slice none 0 0, .slice none 0 0] 60 (0, 0)) :: (b4, .cells #[vi 0, vi 0, vi 0, vi 0, .slice none 0 0, .slice none 0 0, .slice none 0 0] 26 (0, 0)) :: (slE 77 psE q.ps q.o1 ++ (slE 3 inE q.hs q.o2 ++ slE 29 svE ([] : List Sv) none))) ?_ fun wl2 hl2 => tk_start (0, [], [], none, wl2) ⟨⟨by dsimp only; omega, rfl⟩, fun j hj => absurd hj (Nat.not_lt_zero j), rfl, OKV.nil, NewV.nil _⟩ (.cons rfl (.cons rfl (.cons rfl (.cons rfl (.cons rfl (.cons rfl (.cons rfl (.cons (by dsimp only; rw [show ((0 : Nat) : Int) * (s.L + 1) = 0 from by simp]; rfl) (.cons rfl .nil))))))))) (fun _ h => h.subl SB.s SB.s)
           rw [slE_none, List.append_nil]
           exact (((((List.Sublist.refl _).cons_cons _).cons_cons _).cons_cons _).cons_cons _ |>.cons _).cons_cons _
         · rintro ⟨b, acts, us, o3, wz⟩ ⟨⟨hb, hal⟩, hac, hok3, hu, hnu⟩
           dsimp only at hb hal hac hok3 hu hnu ⊢
           have hul := hu.1
           obtain ⟨S, hS⟩ : ∃ S, S = ((b9, .cells (isV q.hd) 117 (0, 0)) :: (b7, .cells #[ouV q.hs.length q.o2, ouV us.length o3] 60 (0, 0)) :: (b6, .cells #[vi s.B, vi s.P, vi s.L, vi s.F, .slice adt s.st.length cpt, ouV q.ps.length q.o1, .slice none 0 0] 26 (0, 0)) :: (b5, .cells #[.slice none 0 0, .slice none 0 0] 60 (0, 0)) :: (b4, .cells #[vi 0, vi 0, vi 0, vi 0, .slice none 0 0, .slice none 0 0, .slice none 0 0] 26 (0, 0)) :: (slE 77 psE q.ps q.o1 ++ (slE 3 inE q.hs q.o2 ++ slE 29 svE us o3))).map Prod.fst := ⟨_, rfl⟩
           rw [← hS] at hu ⊢
           obtain ⟨n0, hn0⟩ : ∃ n0 : Int, n0 = (b : Int) * (s.L + 1) := ⟨_, rfl⟩
           have hn0b : 0 ≤ n0 ∧ n0 ≤ 30 := by
             have h1 := Int.mul_nonneg (show 0 ≤ (b : Int) by omega) (show 0 ≤ s.L + 1 by omega)
             have h2 := Int.mul_le_mul (show (b : Int) ≤ 3 by omega) (show s.L + 1 ≤ 10 by omega) (by omega) (by omega)
             omega
           rw [← hn0]
           all_goals refine tc_seq fun K26 hK26 => ?_; refine tc_seq fun K27 hK27 => ?_; refine tc_region ?_; refine tl_q (y_move rfl) rfl ?_; refine tl_q (y_field rfl) rfl ?_; ((refine tl_q (y_load1f rfl (hl1.at (by repeat constructor)) MI.m (by first | (simp; done) | (simp; omega)) (by rfl)) rfl ?_))
           all_goals refine tl_q (y_lss rfl rfl) rfl ?_; refine tl_nil ?_; ((refine hK27 ?_; try (clear hK27; clear K27)))
           all_goals (
            refine tc_cond rfl (fun hc => ?_) (fun hc => ?_)
            · try simp only [qn1, qn2, qn3, qn4, qn5, qn6, qn7, qn8] at hc
              all_goals refine tc_skip ?_; ((refine hK26 ?_; try (clear hK26; clear K26)))
              all_goals refine tc_seq fun K28 hK28 => ?_; refine tc_block ?_; refine tc_seq fun K29 hK29 => ?_; refine tc_region ?_; refine tl_q (y_assign rfl) rfl ?_; refine tl_nil ?_; ((refine hK29 ?_; try (clear hK29; clear K29)))
              all_goals refine tc_seq fun K30 hK30 => ?_; refine tc_region ?_; refine tl_q (y_assign rfl) rfl ?_; refine tl_nil ?_; ((refine hK30 ?_; try (clear hK30; clear K30)))
              all_goals refine tc_seq fun K31 hK31 => ?_; refine tc_seq fun K32 hK32 => ?_; refine tc_region ?_; refine tl_q (y_assign rfl) rfl ?_; refine tl_nil ?_; ((refine hK32 ?_; try (clear hK32; clear K32)))
              all_goals refine tc_block ?_
              all_goals (
               obtain ⟨cl, hcl, hcd⟩ := hap.held (by omega) (j := b) (by omega)
               have hclo := heldF_ok (hap.vsm hv) hcl
               have hhd30 := hap.hd30
               refine tc_loop (fun p : Nat × List Int × (List Bool × Bool) × OwnB => ((p.1 : Int) ≤ s.L + 1 ∧ p.2.1.length = p.1 ∧ ∀ a ∈ p.2.1, 0 ≤ a ∧ a ≤ 3) ∧ whN (smP s q.ps) (b : Nat) cl p.2.1 p.1 = some p.2.2.1 ∧ okE 1 p.2.1 p.2.2.2) (fun p => [(1, .slice adw ws.length cpw), (2, ptr b2), (4, ptr b4), (5, ptr b5), (6, ptr b6), (7, ptr b7), (9, ptr b9), (11, vi (n0 + (p.1 : Int))), (17, vi b), (18, ouV p.2.1.length p.2.2.2), (19, .bool p.2.2.1.2), (20, vi p.1)]) (fun _ => [(wz, S), (wl1, [b5, b4]), (w, [])]) (fun p => (b9, .cells (isV q.hd) 117 (0, 0)) :: (b7, .cells #[ouV q.hs.length q.o2, ouV us.length o3] 60 (0, 0)) :: (b6, .cells #[vi s.B, vi s.P, vi s.L, vi s.F, .slice adt s.st.length cpt, ouV q.ps.length q.o1, .slice none 0 0] 26 (0, 0)) :: (b5, .cells #[.slice none 0 0, .slice none 0 0] 60 (0, 0)) :: (b4, .cells #[vi 0, vi 0, vi 0, vi 0, .slice none 0 0, .slice none 0 0, .slice none 0 0] 26 (0, 0)) :: (slE 77 psE q.ps q.o1 ++ (slE 3 inE q.hs q.o2 ++ (slE 29 svE us o3 ++ slE 3 inE p.2.1 p.2.2.2)))) (fun p => (s.L + 1).toNat - p.1) ?_ ?_
               · exact tk_start (0, [], ([], false), none) ⟨⟨by dsimp only; omega, rfl, fun a ha => by cases ha⟩, rfl, rfl⟩ (.cons rfl (.cons rfl (.cons rfl (.cons rfl (.cons rfl (.cons rfl (.cons rfl (.cons (by dsimp only; rw [show n0 + ((0 : Nat) : Int) = n0 from by omega]; rfl) (.cons rfl (.cons rfl (.cons rfl (.cons rfl .nil)))))))))))) (fun _ h => by dsimp only; rw [slE_none, List.append_nil]; exact h.subl SB.s SB.s)
               · rintro ⟨h, row, ⟨wb, br⟩, o4⟩ ⟨⟨hh2, hrl, hr3⟩, hwh, hok4⟩
                 dsimp only at hh2 hrl hr3 hwh hok4 ⊢
                 all_goals refine tc_seq fun K33 hK33 => ?_; refine tc_seq fun K34 hK34 => ?_; refine tc_region ?_; refine tl_q (y_move rfl) rfl ?_; refine tl_q (y_field rfl) rfl ?_; ((refine tl_q (y_load1f rfl (hl1.at (by repeat constructor)) MI.m (by first | (simp; done) | (simp; omega)) (by rfl)) rfl ?_))
                 all_goals refine tl_q (y_leq rfl rfl) rfl ?_; refine tl_nil ?_; ((refine hK34 ?_; try (clear hK34; clear K34)))
                 all_goals (
                  refine tc_cond rfl (fun hc => ?_) (fun hc => ?_)
                  · try simp only [qn1, qn2, qn3, qn4, qn5, qn6, qn7, qn8] at hc
                    all_goals refine tc_skip ?_; ((refine hK33 ?_; try (clear hK33; clear K33)))
                    all_goals refine tc_seq fun K35 hK35 => ?_; refine tc_block ?_; refine tc_seq fun K36 hK36 => ?_; (have hwb7 := wordI_bd hws (7 * (n0 + (h : Int)) + (b : Int)))
                    all_goals refine tc_region ?_; refine tl_q (y_move rfl) rfl ?_; refine tl_q (y_move rfl) rfl ?_; refine tl_q (y_mul rfl rfl (by omega)) rfl ?_; refine tl_q (y_move rfl) rfl ?_; refine tl_q (y_add rfl rfl (by omega)) rfl ?_; refine tl_e (e_callV rfl (.cons rfl (.cons rfl .nil)) (fun w' hw' => wordH_c ws hws hwl (7 * (n0 + (h : Int)) + (b : Int)) (by omega) _ w' (hWr w' (hw'.fr (w0 := w) (S := []) MI.m)))) rfl (fun _ _ => ?_); refine tl_q (y_quo rfl rfl (by omega) (by omega)) rfl ?_; refine tl_q (y_rem rfl rfl (by omega) (by omega)) rfl ?_; refine tl_q (y_assign rfl) rfl ?_; refine tl_nil ?_; ((refine hK36 ?_; try (clear hK36; clear K36)))
                    all_goals refine tc_seq fun K37 hK37 => ?_; ((obtain ⟨av, hav⟩ : ∃ av, av = wordI ws (7 * (n0 + (h : Int)) + (b : Int)) / 8 % 8 := ⟨_, rfl⟩; rw [← hav]))
                    all_goals (have hav7 : 0 ≤ av ∧ av ≤ 7 := by omega)
                    all_goals ((have hcll : (cl.length : Int) = s.L + 1 := hclo.1; have hclb := hclo.2 h (by omega)))
                    all_goals (have hcd' := hcd h (by omega))
                    all_goals (have hclb' : 0 ≤ cl.getD h 0 ∧ cl.getD h 0 < s.P := hclb)
                    all_goals refine tc_draw (by kernel_rfl) ?_; refine tx_p 0 rfl (by kernel_rfl) (y_move rfl) rfl (fun _ _ _ h => h) (fun _ h => h) ?_; refine tx_p 1 rfl (by kernel_rfl) (y_field rfl) rfl (fun _ _ _ h => h) (fun _ h => h) ?_; ((refine tx_q 2 rfl (by kernel_rfl) (y_load1f rfl (hl1.at (by repeat constructor)) MI.m (by first | (simp; done) | (simp; omega)) (by rfl)) rfl (fun _ _ _ h => h) (fun _ h => h) ?_))
                    all_goals refine tx_p 3 rfl (by kernel_rfl) (y_move rfl) rfl (fun _ _ _ h => h) (fun _ h => h) ?_; refine tx_p 4 rfl (by kernel_rfl) (y_move rfl) rfl (fun _ _ _ h => h) (fun _ h => h) ?_; refine tx_p 5 rfl (by kernel_rfl) (y_indexA rfl rfl (by omega)) rfl (fun _ _ _ h => h) (fun _ h => h) ?_; refine tx_p 6 rfl (by kernel_rfl) (y_indexA rfl rfl (by omega)) rfl (fun _ _ _ h => h) (fun _ h => h) ?_; ((refine tx_q 7 rfl (by kernel_rfl) (y_load1 (v := vi (cl.getD h 0)) rfl (by repeat constructor) (by rw [show 0 + Int.toNat (b : Int) * 10 + Int.toNat (h : Int) * 1 = b * 10 + h from by omega, ← hcd']; exact cellAt_is (by omega))) rfl (fun _ _ _ h => h) (fun _ h => h) ?_))
                    all_goals (refine tx_p 8 rfl (by kernel_rfl) (y_index rfl rfl (by omega) (hadt (by omega))) rfl (fun _ _ _ h => h) (fun _ h => h) ?_); ((refine tx_q 9 rfl (by kernel_rfl) (y_load1o (v := .bool (stB s cl h)) rfl (fun w' hw' => by unfold stB; rw [Int.toNat_natCast]; have hx := (hct w' [] (hw'.fr (w0 := w) (S := []) MI.m) (by simp) (cl.getD h 0).toNat (by omega)).get 0 _ rfl; exact hx)) rfl (fun _ _ _ h => h) (fun _ h => h) ?_))
                    all_goals refine tx_p 10 rfl (by kernel_rfl) (y_move rfl) rfl (fun _ _ _ h => h) (fun _ h => h) ?_; refine tx_e 11 rfl (by kernel_rfl) rfl (e_callV rfl (.cons rfl (.cons rfl (.cons rfl .nil))) (fun w' _ => acted_c br (stB s cl h) av w')) (.inr fun _ _ h => h) (fun _ _ => ?_); refine tx_p 12 rfl (by kernel_rfl) (y_move rfl) rfl (fun _ _ _ h => h) (fun _ h => h) ?_; refine tx_p 13 rfl (by kernel_rfl) (y_extract rfl rfl) rfl (fun _ _ _ h => h) (fun _ h => h) ?_; refine tx_p 14 rfl (by kernel_rfl) (y_extract rfl rfl) rfl (fun _ _ _ h => h) (fun _ h => h) ?_; refine tx_p 15 rfl (by kernel_rfl) (y_assign rfl) rfl (fun _ _ _ h => h) (fun _ h => h) ?_; refine tx_p 16 rfl (by kernel_rfl) (y_assign rfl) rfl (fun _ _ _ h => h) (fun _ h => h) ?_; refine tx_done (by kernel_rfl) ?_; ((refine hK37 ?_; try (clear hK37; clear K37)))
                    all_goals (
                     refine tc_join (fun a : Int => acIs br (stB s cl h) a = true ∧ 0 ≤ a ∧ a ≤ 3) (fun a => [(1, .slice adw ws.length cpw), (2, ptr b2), (4, ptr b4), (5, ptr b5), (6, ptr b6), (7, ptr b7), (9, ptr b9), (11, vi (n0 + (h : Int))), (17, vi b), (18, ouV row.length o4), (20, vi h), (21, vi a), (22, .bool (acY br a))]) (fun _ => [(wz, S), (wl1, [b5, b4]), (w, [])]) (fun _ => (b9, .cells (isV q.hd) 117 (0, 0)) :: (b7, .cells #[ouV q.hs.length q.o2, ouV us.length o3] 60 (0, 0)) :: (b6, .cells #[vi s.B, vi s.P, vi s.L, vi s.F, .slice adt s.st.length cpt, ouV q.ps.length q.o1, .slice none 0 0] 26 (0, 0)) :: (b5, .cells #[.slice none 0 0, .slice none 0 0] 60 (0, 0)) :: (b4, .cells #[vi 0, vi 0, vi 0, vi 0, .slice none 0 0, .slice none 0 0, .slice none 0 0] 26 (0, 0)) :: (slE 77 psE q.ps q.o1 ++ (slE 3 inE q.hs q.o2 ++ (slE 29 svE us o3 ++ slE 3 inE row o4)))) ?_ ?_
                     · skip
                       all_goals refine tc_seq fun K38 hK38 => ?_; refine tc_region ?_; refine tl_q (y_move rfl) rfl ?_; refine tl_q (y_gtr rfl rfl) rfl ?_; refine tl_q (y_move rfl) rfl ?_; ((refine tl_gs rfl rfl (fun hc => ?_) (fun hc => ?_) <;> (try simp only [qn1, qn2, qn3, qn4, qn5, qn6, qn7, qn8] at hc) <;> (first | refine tl_sk rfl rfl rfl rfl ?_ | refine tl_qg rfl rfl (y_move rfl) rfl ?_)))
                       all_goals (first | refine tl_sk rfl rfl rfl rfl ?_ | refine tl_qg rfl rfl (y_not rfl) rfl ?_); (first | refine tl_q (y_pick_t rfl rfl) rfl ?_ | refine tl_q (y_pick_f rfl rfl) rfl ?_); refine tl_nil ?_; ((refine hK38 ?_; try (clear hK38; clear K38)))
                       all_goals (
                        refine tc_cond rfl (fun hc => ?_) (fun hc => ?_)
                        · try simp only [qn1, qn2, qn3, qn4, qn5, qn6, qn7, qn8] at hc
                          all_goals refine tc_region ?_; refine tl_q (y_move rfl) rfl ?_; refine tl_q (y_assign rfl) rfl ?_; refine tl_q (y_assign rfl) rfl ?_; refine tl_nil ?_
                          all_goals (
                           first
                           | (have h1 : acIs br (stB s cl h) av = true := by assumption
                              exact tk_start av ⟨h1, by omega, by omega⟩ (.cons rfl (.cons rfl (.cons rfl (.cons rfl (.cons rfl (.cons rfl (.cons rfl (.cons rfl (.cons rfl (.cons rfl (.cons rfl (.cons rfl (.cons rfl .nil))))))))))))) (fun _ h => h.subl SB.s SB.s))
                           | exact tk_start 0 ⟨rfl, by omega, by omega⟩ (.cons rfl (.cons rfl (.cons rfl (.cons rfl (.cons rfl (.cons rfl (.cons rfl (.cons rfl (.cons rfl (.cons rfl (.cons rfl (.cons rfl (.cons rfl .nil))))))))))))) (fun _ h => h.subl SB.s SB.s))
                        · try simp only [qn1, qn2, qn3, qn4, qn5, qn6, qn7, qn8] at hc
                          all_goals ((first | (exfalso; with_reducible exact btf hc) | skip))
                          all_goals refine tc_skip ?_
                          all_goals (
                           first
                           | (have h1 : acIs br (stB s cl h) av = true := by assumption
                              exact tk_start av ⟨h1, by omega, by omega⟩ (.cons rfl (.cons rfl (.cons rfl (.cons rfl (.cons rfl (.cons rfl (.cons rfl (.cons rfl (.cons rfl (.cons rfl (.cons rfl (.cons rfl (.cons rfl .nil))))))))))))) (fun _ h => h.subl SB.s SB.s))
                           | exact tk_start 0 ⟨rfl, by omega, by omega⟩ (.cons rfl (.cons rfl (.cons rfl (.cons rfl (.cons rfl (.cons rfl (.cons rfl (.cons rfl (.cons rfl (.cons rfl (.cons rfl (.cons rfl (.cons rfl .nil))))))))))))) (fun _ h => h.subl SB.s SB.s)))
                     · rintro a ⟨ha, ha3⟩
                       all_goals refine tc_seq fun K39 hK39 => ?_; refine tc_region ?_; refine tl_q (y_move rfl) rfl ?_; refine tl_q (y_move rfl) rfl ?_; ((refine tl_e (e_bslice rfl (by (repeat (first | exact .nil | apply PV.one rfl rfl)); done) rfl rfl) rfl (fun _ _ => ?_)))
                       all_goals (refine tl_e (e_appendE (enc := inE) (xs := row) (ys := [a]) inE_len inE_one rfl rfl rfl hok4 (fun _ => by repeat constructor) (fun w' hw' => RdS.own0 inE_len hw' (by repeat constructor)) (by simp only [List.length_cons, List.length_nil]; omega) rfl) rfl (fun o4' hok4' => ?_))
                       all_goals refine tl_q (y_move rfl) rfl ?_; refine tl_q (y_assign rfl) rfl ?_; refine tl_q (y_assign rfl) rfl ?_; refine tl_nil ?_; ((refine hK39 ?_; try (clear hK39; clear K39)))
                       all_goals refine tc_region ?_; refine tl_q (y_move rfl) rfl ?_; refine tl_q (y_add rfl rfl (by omega)) rfl ?_; refine tl_q (y_assign rfl) rfl ?_; refine tl_nil ?_; ((refine hK35 ?_; try (clear hK35; clear K35)))
                       all_goals refine tc_region ?_; refine tl_q (y_move rfl) rfl ?_; refine tl_q (y_add rfl rfl (by omega)) rfl ?_; refine tl_q (y_assign rfl) rfl ?_; refine tl_nil ?_
                       all_goals (
                        have hwn : whN (smP s q.ps) (b : Nat) cl (row ++ [a]) (h + 1) = some (wb ++ [!acY br a], acY br a) := whN_act hwh hrl ha
                        exact tk_round (h + 1, row ++ [a], (wb ++ [!acY br a], acY br a), o4') ⟨⟨by dsimp only; omega, by simp [hrl], fun x hx => by
                          rcases List.mem_append.1 hx with hx | hx
                          · exact hr3 x hx
                          · obtain rfl := List.mem_singleton.1 hx; exact ha3⟩, hwn, hok4'⟩ (by dsimp only; omega) (.cons rfl (.cons rfl (.cons rfl (.cons rfl (.cons rfl (.cons rfl (.cons rfl (.cons (by dsimp only; rw [show n0 + ((h + 1 : Nat) : Int) = n0 + (h : Int) + 1 from by omega]; rfl) (.cons rfl (.cons rfl (.cons rfl (.cons rfl .nil)))))))))))) (fun _ h => h.subl SB.s SB.s)))
                  · try simp only [qn1, qn2, qn3, qn4, qn5, qn6, qn7, qn8] at hc
                    all_goals refine tc_exit ?_; ((refine hK31 ?_; try (clear hK31; clear K31)))
                    all_goals refine tc_region ?_; refine tl_q (y_field rfl) rfl ?_; refine tl_q (y_load1 rfl (by repeat constructor) (by rfl)) rfl ?_; refine tl_q (y_move rfl) rfl ?_; ((refine tl_e (e_bslice rfl (by (repeat (first | exact .nil | apply PV.one rfl rfl)); done) rfl rfl) rfl (fun b193 _ => ?_)))
                    all_goals (refine tl_e (e_appendE (enc := svE) (xs := us) (ys := [svO row.length o4]) svE_len svE_one rfl rfl rfl hok3 (fun _ => by repeat constructor) (fun w' hw' => RdS.own0 svE_len hw' (by repeat constructor)) (by simp only [List.length_cons, List.length_nil]; omega) rfl) rfl (fun o3' hok3' => ?_))
                    all_goals refine tl_q (y_field rfl) rfl ?_; refine tl_e (e_store1 rfl rfl (by repeat constructor) (by repeat constructor) (by rfl) (by rfl)) rfl (fun _ _ => ?_); refine tl_nil ?_; ((refine hK28 ?_; try (clear hK28; clear K28)))
                    all_goals refine tc_lay ((b9, .cells (isV q.hd) 117 (0, 0)) :: (b7, .cells #[ouV q.hs.length q.o2, ouV (us ++ [svO row.length o4]).length o3'] 60 (0, 0)) :: (b6, .cells #[vi s.B, vi s.P, vi s.L, vi s.F, .slice adt s.st.length cpt, ouV q.ps.length q.o1, .slice none 0 0] 26 (0, 0)) :: (b5, .cells #[.slice none 0 0, .slice none 0 0] 60 (0, 0)) :: (b4, .cells #[vi 0, vi 0, vi 0, vi 0, .slice none 0 0, .slice none 0 0, .slice none 0 0] 26 (0, 0)) :: (slE 77 psE q.ps q.o1 ++ (slE 3 inE q.hs q.o2 ++ slE 29 svE (us ++ [svO row.length o4]) o3'))) (((((((List.Sublist.refl _).append ((List.Sublist.refl _).append (List.sublist_append_left _ _))).cons_cons _).cons_cons _).cons_cons _).cons_cons _).cons_cons _ |>.cons _) (fun wl26 hl26 => ?_); refine tc_region ?_; refine tl_q (y_move rfl) rfl ?_; refine tl_q (y_add rfl rfl (by omega)) rfl ?_; refine tl_q (y_assign rfl) rfl ?_; refine tl_nil ?_
                    all_goals (
                     obtain rfl : h = (s.L + 1).toNat := by omega
                     have hfz : Fr S wz wl26 := hl26.fr (w0 := wz) (S := S) MI.m
                     have hl27 := hl26.sub (fun _ h => h) (List.sublist_cons_self _ _)
                     have hoz := hl27.ownsK (Hk := ((b9, .cells (isV q.hd) 117 (0, 0)) :: (b7, .cells #[ouV q.hs.length q.o2, ouV (us ++ [svO row.length o4]).length o3'] 60 (0, 0)) :: (b6, .cells #[vi s.B, vi s.P, vi s.L, vi s.F, .slice adt s.st.length cpt, ouV q.ps.length q.o1, .slice none 0 0] 26 (0, 0)) :: (b5, .cells #[.slice none 0 0, .slice none 0 0] 60 (0, 0)) :: (b4, .cells #[vi 0, vi 0, vi 0, vi 0, .slice none 0 0, .slice none 0 0, .slice none 0 0] 26 (0, 0)) :: (slE 77 psE q.ps q.o1 ++ (slE 3 inE q.hs q.o2 ++ slE 29 svE (us ++ [svO row.length o4]) o3')))) (((((((List.Sublist.refl _).append ((List.Sublist.refl _).append (List.sublist_append_left _ _))).cons_cons _).cons_cons _).cons_cons _).cons_cons _).cons_cons _) (w0 := wz) (S := S) MI.m
                     have hnw : NewS w (svO row.length o4).1 := NewS.ofO hl26 (e := 3) (enc := inE) (xs := row) (by repeat constructor) (w0 := w) MI.m
                     have how := OKS.ofT inE_len hok4 (H' := ((b9, .cells (isV q.hd) 117 (0, 0)) :: (b7, .cells #[ouV q.hs.length q.o2, ouV (us ++ [svO row.length o4]).length o3'] 60 (0, 0)) :: (b6, .cells #[vi s.B, vi s.P, vi s.L, vi s.F, .slice adt s.st.length cpt, ouV q.ps.length q.o1, .slice none 0 0] 26 (0, 0)) :: (b5, .cells #[.slice none 0 0, .slice none 0 0] 60 (0, 0)) :: (b4, .cells #[vi 0, vi 0, vi 0, vi 0, .slice none 0 0, .slice none 0 0, .slice none 0 0] 26 (0, 0)) :: (slE 77 psE q.ps q.o1 ++ (slE 3 inE q.hs q.o2 ++ (slE 29 svE (us ++ [svO row.length o4]) o3' ++ []))))) hl27 (by repeat constructor)
                     rw [List.append_nil] at how
                     exact tk_round (b + 1, acts ++ [row], us ++ [svO row.length o4], o3', wl26) ⟨⟨by dsimp only; omega, by simp [hal]⟩, fun j hj => by
                       by_cases hjb : j = b
                       · subst hjb
                         rw [getD_app2 hal.symm]
                         exact ⟨⟨by omega, hr3⟩, fun cl' hcl' => by rw [hcl] at hcl'; cases hcl'; rw [hwh]; rfl⟩
                       · rw [getD_app1 (by omega)]; exact hac j (by omega), hok3', (hu.step hfz hoz).snoc how, hnu.snoc hnw⟩ (by dsimp only; omega) (.cons rfl (.cons rfl (.cons rfl (.cons rfl (.cons rfl (.cons rfl (.cons rfl (.cons (by dsimp only; rw [show ((b + 1 : Nat) : Int) * (s.L + 1) = n0 + (((s.L + 1).toNat : Nat) : Int) from by rw [hn0, show ((b + 1 : Nat) : Int) = (b : Int) + 1 from by omega, Int.add_mul, Int.one_mul]; omega]; rfl) (.cons rfl .nil))))))))) (fun _ h => h.subl SB.s SB.s))))
            · try simp only [qn1, qn2, qn3, qn4, qn5, qn6, qn7, qn8] at hc
              all_goals refine tc_exit ?_; ((refine hK24 ?_; try (clear hK24; clear K24)))
              all_goals refine tc_seq fun K40 hK40 => ?_; refine tc_drawS ([(b7, .cells #[ouV q.hs.length q.o2, ouV us.length o3] 60 (0, 0)), (b6, .cells #[vi s.B, vi s.P, vi s.L, vi s.F, .slice adt s.st.length cpt, ouV q.ps.length q.o1, .slice none 0 0] 26 (0, 0))]) (by kernel_rfl) ?_; refine tx_qS 0 rfl (by kernel_rfl) (y_loadW rfl (by repeat constructor) (by rfl)) rfl (fun _ _ _ h => h) (fun _ h => h.subl SB.s SB.s) ?_; refine tx_qS 1 rfl (by kernel_rfl) (y_loadW rfl (by repeat constructor) (by rfl)) rfl (fun _ _ _ h => h) (fun _ h => h.subl SB.s SB.s) ?_; refine tx_single 2 (by kernel_rfl) (to_e rfl rfl (e_storeW rfl rfl (by repeat constructor) (by rfl) (by rfl) (smV_ones (s := s) rfl rfl rfl)) (.inr ⟨fun _ _ h => h.subl SB.s SB.s, fun _ h => h⟩) (fun _ _ => ?_)); refine tx_single 3 (by kernel_rfl) (to_e (S' := HG [] []) rfl rfl (e_storeW rfl rfl (by repeat constructor) (by rfl) (by rfl) (two_ones rfl rfl)) (.inl (by kernel_rfl)) (fun _ _ => ?_)); refine tx_done (by kernel_rfl) ?_; ((refine hK40 ?_; try (clear hK40; clear K40)))
              all_goals refine tc_ret ?_; (repeat (first | refine tk_then_ret ?_))
              all_goals (refine tk_ret rfl rfl (.cons (.agg inferInstance rfl (by repeat constructor) (by rfl)) (.cons (.agg inferInstance rfl (by repeat constructor) (by rfl)) .nil)) ?_)
              all_goals (
               have hbB : (b : Int) = s.B := by omega
               have hok : HapOk s (smP s q.ps) ⟨q.hs, acts⟩ := ⟨rfl, rfl, rfl, rfl, rfl, rfl, hap.vsm hv, ⟨hap.len, by show (acts.length : Int) = s.B; omega, fun j hj => (hac j (by have hj' : j < acts.length := hj; omega)).1.1⟩, (fun j hj => (hac j (by have hj' : j < acts.length := hj; omega)).1.2), hap.r, by
                 refine playN_some fun j hj => ?_
                 have hj' : j < s.B.toNat := hj
                 obtain ⟨cl, hcl, _⟩ := hap.held (by omega) (j := j) (by omega)
                 obtain ⟨qq, hqq⟩ := Option.isSome_iff_exists.1 ((hac j (by omega)).2 cl hcl)
                 unfold playB
                 rw [hcl]
                 simp only
                 have hqq' : whN (smP s q.ps) (j : Nat) cl (acts.getD j []) ((smP s q.ps).L + 1).toNat = some qq := hqq
                 rw [hqq']; rfl⟩
               refine fun w' hw' => ⟨(((smP s q.ps), ⟨q.hs, acts⟩), ouA q.o1, ouA q.o2, ouA o3), ?_, hw'.fr (w0 := w) (S := []) MI.m, hok, ⟨RdS.ofO psE_len hok1 hw' (by repeat constructor), NewS.ofO hw' (e := 77) (enc := psE) (xs := q.ps) (by repeat constructor) MI.m⟩, ⟨(RdS.ofO inE_len hok2 hw' (by repeat constructor)).toI, NewS.ofO hw' (e := 3) (enc := inE) (xs := q.hs) (by repeat constructor) MI.m⟩, ?_⟩
               · show _ = Ending.returned (Value.tuple #[_, tV _ (slV acts.length (ouA o3))])
                 rw [← hul]; rfl
               · have := RdLN.ofO hok3 hu hnu hw' (hw'.fr (w0 := wz) (S := S) MI.m) (w0 := w) MI.m (by repeat constructor)
                 rw [hul] at this; exact this)))))
end Go.Sp
/-
  The sample before, and with, an entry: plainly.
-/
namespace Go.Sp
open Go Go.Proofs
/-- The first entries. -/
def fstK (s : Smp) (k : Nat) : Smp := { s with ps := s.ps.take k, sg := s.sg.take (k - s.ps.length) }
theorem VSm.fst {s : Smp} (hv : VSm s) (k : Nat) : VSm (fstK s k) := hv.sub (List.take_sublist _ _) (List.take_sublist _ _)
theorem Few.fst {s : Smp} (h : Few s) (k : Nat) : Few (fstK s k) := ⟨h.st, by have := h.ps; simp [fstK]; omega, by have := h.sg; simp [fstK]; omega⟩
end Go.Sp
/-
  The smallest set of entries, plainly.
-/
namespace Go.Sp
open Go Go.Proofs
abbrev Inc (l : List Int) : Prop := l.Pairwise (· < ·)
/-- One list is before another one at the smallest number that is in one of them alone. -/
def Dif (T L : List Int) : Prop := ∃ e, e ∈ T ∧ e ∉ L ∧ ∀ x, x < e → (x ∈ T ↔ x ∈ L)
theorem drop_cons {l : List Int} {i : Nat} (h : i < l.length) : l.drop i = l.getD i 0 :: l.drop (i + 1) := by
  rw [List.drop_eq_getElem_cons h, List.getD_eq_getElem?_getD, List.getElem?_eq_getElem h]; rfl
theorem inc_drop {l : List Int} (hl : Inc l) {i : Nat} (h : i < l.length) {z : Int} (hz : z ∈ l.drop (i + 1)) : l.getD i 0 < z := by
  have h1 : Inc (l.drop i) := hl.sublist (List.drop_sublist _ _)
  rw [drop_cons h] at h1
  exact (List.pairwise_cons.1 h1).1 z hz
theorem srchL_get {p : List Int → Bool} {own : List Int} : ∀ (m : Nat) (l : List Int) (fr : Nat) (r : List Int), srchL p own m l fr = some r → p r = true ∧ ∃ r', r = l ++ r' ∧ r'.Sublist (own.drop fr)
  | 0, l, fr, r, h => by
    unfold srchL at h
    split at h
    · rename_i hp; cases h; exact ⟨hp, [], by simp, List.nil_sublist _⟩
    · cases h
  | m + 1, l, fr, r, h => by
    rw [srchL] at h
    obtain ⟨j, hj, hr⟩ := List.exists_of_findSome?_eq_some h
    rw [List.mem_range] at hj
    obtain ⟨h1, r', rfl, h3⟩ := srchL_get m _ _ r hr
    refine ⟨h1, own.getD (fr + j) 0 :: r', by simp, ?_⟩
    have h4 : (own.drop (fr + j)).Sublist (own.drop fr) := by
      rw [← List.drop_drop]; exact List.drop_sublist _ _
    rw [drop_cons (by omega)] at h4
    exact (h3.cons_cons _).trans h4
theorem least_some {α : Type} {f : Nat → Option α} : ∀ {k : Nat}, (f k).isSome = true → ∃ j, j ≤ k ∧ (f j).isSome = true ∧ ∀ i, i < j → f i = none := by
  intro k
  induction k using Nat.strongRecOn with
  | _ k ih =>
    intro h
    by_cases hx : ∃ i, i < k ∧ (f i).isSome = true
    · obtain ⟨i, hi, hs⟩ := hx
      obtain ⟨j, h1, h2, h3⟩ := ih i hi hs
      exact ⟨j, by omega, h2, h3⟩
    · refine ⟨k, Nat.le_refl _, h, fun i hi => ?_⟩
      cases hf : f i with
      | none => rfl
      | some v => exact absurd ⟨i, hi, by rw [hf]; rfl⟩ hx
theorem sub_cons {x : Int} {t : List Int} : ∀ {l : List Int}, (x :: t).Sublist l → ∃ k, k < l.length ∧ l.getD k 0 = x ∧ t.Sublist (l.drop (k + 1))
  | [], h => by cases h
  | y :: l, h => by
    cases h with
    | cons _ h =>
      obtain ⟨k, h1, h2, h3⟩ := sub_cons h
      exact ⟨k + 1, by simpa using h1, h2, h3⟩
    | cons_cons _ h => exact ⟨0, by simp, rfl, h⟩
theorem srchL_min {p : List Int → Bool} {own : List Int} (hown : Inc own) : ∀ (m : Nat) (l : List Int) (fr : Nat) (t : List Int), t.Sublist (own.drop fr) → t.length = m → p (l ++ t) = true → ∃ r', srchL p own m l fr = some (l ++ r') ∧ ¬ Dif t r'
  | 0, l, fr, t, h1, h2, h3 => by
    obtain rfl := List.length_eq_zero_iff.1 h2
    rw [List.append_nil] at h3
    refine ⟨[], ?_, fun ⟨e, he, _⟩ => by cases he⟩
    unfold srchL
    rw [if_pos h3, List.append_nil]
  | m + 1, l, fr, [], h1, h2, h3 => by cases h2
  | m + 1, l, fr, x :: t, h1, h2, h3 => by
    obtain ⟨k, hk, hx, ht⟩ := sub_cons h1
    rw [List.length_drop] at hk
    rw [List.drop_drop, show fr + (k + 1) = fr + k + 1 from by omega] at ht
    have hx' : own.getD (fr + k) 0 = x := by rw [← hx, List.getD_eq_getElem?_getD, List.getD_eq_getElem?_getD, List.getElem?_drop]
    have htm : t.length = m := by simpa using h2
    have htl := ht.length_le
    rw [List.length_drop] at htl
    obtain ⟨r1, hr1, hd1⟩ := srchL_min hown m (l ++ [x]) (fr + k + 1) t ht htm (by rw [List.append_assoc]; exact h3)
    have hxi : Inc (x :: t) := (hown.sublist (List.drop_sublist fr own)).sublist h1
    have hxt := (List.pairwise_cons.1 hxi).1
    obtain ⟨j, hj, hs, hno⟩ := least_some (f := fun (j : Nat) => srchL p own m (l ++ [own.getD (fr + j) 0]) (fr + j + 1)) (k := k) (by rw [hx', hr1]; rfl)
    obtain ⟨r, hr⟩ := Option.isSome_iff_exists.1 hs
    have e : srchL p own (m + 1) l fr = some r := by
      rw [srchL]
      exact fs_hit (j := j) (by omega) hr hno
    rw [e]
    rcases Nat.lt_or_eq_of_le hj with hlt | rfl
    · obtain ⟨_, r', rfl, hsub⟩ := srchL_get _ _ _ _ hr
      refine ⟨own.getD (fr + j) 0 :: r', by simp, fun ⟨z, hz, hzn, hall⟩ => ?_⟩
      have hyx : own.getD (fr + j) 0 < x := by
        rw [← hx']
        refine inc_drop hown (by omega) ?_
        have : own.drop (fr + k) = (own.drop (fr + j + 1)).drop (k - j - 1) := by rw [List.drop_drop]; congr 1; omega
        refine (List.drop_sublist (k - j - 1) _).subset ?_
        rw [← this, drop_cons (by omega)]
        exact List.mem_cons_self ..
      have hzx : x ≤ z := by
        rcases List.mem_cons.1 hz with rfl | hz
        · exact Int.le_refl _
        · exact Int.le_of_lt (hxt z hz)
      have := (hall (own.getD (fr + j) 0) (by omega)).2 (List.mem_cons_self ..)
      rcases List.mem_cons.1 this with h | h
      · omega
      · have := hxt _ h; omega
    · rw [hx', hr1] at hr
      cases hr
      refine ⟨x :: r1, by simp, fun ⟨z, hz, hzn, hall⟩ => ?_⟩
      obtain ⟨_, r', he, hsub⟩ := srchL_get _ _ _ _ hr1
      obtain rfl : r1 = r' := List.append_cancel_left he
      have hxr : ∀ y ∈ r1, x < y := fun y hy => by rw [← hx']; exact inc_drop hown (by omega) (hsub.subset hy)
      have hzx : z ≠ x := fun h => hzn (by rw [h]; exact List.mem_cons_self ..)
      refine hd1 ⟨z, (List.mem_cons.1 hz).resolve_left hzx, fun h => hzn (List.mem_cons_of_mem _ h), fun y hy => ?_⟩
      have := hall y hy
      constructor
      · intro h
        refine (List.mem_cons.1 (this.1 (List.mem_cons_of_mem _ h))).resolve_left (fun g => ?_)
        have := hxt y h; omega
      · intro h
        refine (List.mem_cons.1 (this.2 (List.mem_cons_of_mem _ h))).resolve_left (fun g => ?_)
        have := hxr y h; omega
def ownE (s : Smp) (i : Nat) : Int := if i < s.ps.length then (s.ps.getD i pas0).b else (s.sg.getD (i - s.ps.length) sgt0).b
theorem entL_filt (s : Smp) (b : Int) : entL s b = ((List.range (mnyE s)).filter fun i => decide (ownE s i = b)).map fun (i : Nat) => (i : Int) := by
  show epN s b s.ps.length ++ egN s b s.sg.length = _
  unfold mnyE
  rw [List.range_add, List.filter_append, List.map_append, List.filter_map, List.map_map]
  unfold epN egN
  congr 1
  · refine congrArg _ (List.filter_congr fun i hi => ?_)
    rw [List.mem_range] at hi
    unfold ownE
    rw [if_pos hi]
  · have e : ((fun i => decide (ownE s i = b)) ∘ fun x => s.ps.length + x) = fun i => decide ((s.sg.getD i sgt0).b = b) := funext fun i => by
      show decide (ownE s (s.ps.length + i) = b) = _
      unfold ownE
      rw [if_neg (by omega), Nat.add_sub_cancel_left]
    rw [e]
    refine List.map_congr_left fun i _ => ?_
    simp
theorem range_inc : ∀ {l : List Nat}, l.Pairwise (· < ·) → Inc (l.map fun (i : Nat) => (i : Int)) := fun h => List.Pairwise.map _ (fun _ _ h => by omega) h
theorem filt_inc (n : Nat) (p : Nat → Bool) : Inc (((List.range n).filter p).map fun (i : Nat) => (i : Int)) := range_inc (List.pairwise_lt_range.sublist List.filter_sublist)
theorem entL_inc (s : Smp) (b : Int) : Inc (entL s b) := by rw [entL_filt]; exact filt_inc _ _
theorem lvF_min (s : Smp) (b : Int) : possF (wthF s (lvF s b)) b = true ∧ (lvF s b).Sublist (entL s b) ∧ ∀ t : List Int, t.Sublist (entL s b) → possF (wthF s t) b = true → (lvF s b).length ≤ t.length ∧ (t.length = (lvF s b).length → ¬ Dif t (lvF s b)) := by
  obtain ⟨j, hj, hs, hno⟩ := least_some (f := fun (n : Nat) => srchL (wpB s b) (entL s b) n [] 0) (k := (entL s b).length) (by rw [srchL_own]; rfl)
  obtain ⟨r, hr⟩ := Option.isSome_iff_exists.1 hs
  have e : lvF s b = r := by
    unfold lvF
    rw [fs_hit (j := j) (by omega) hr hno]; rfl
  rw [e]
  obtain ⟨h1, r', h2, h3⟩ := srchL_get _ _ _ _ hr
  rw [List.nil_append] at h2
  subst h2
  have hl : r.length = j := by have := srchL_len _ _ _ _ hr; simpa using this
  refine ⟨h1, h3, fun t ht hp => ?_⟩
  obtain ⟨r', h4, h5⟩ := srchL_min (p := wpB s b) (entL_inc s b) t.length [] 0 t ht rfl hp
  refine ⟨?_, fun heq => ?_⟩
  · rw [hl]
    refine Nat.le_of_not_lt fun hlt => ?_
    rw [hno _ hlt] at h4; cases h4
  · rw [heq, hl, hr] at h4
    cases h4; exact h5
theorem lvN_mem {s : Smp} {n : Nat} {e : Int} : e ∈ lvN s n ↔ ∃ b : Nat, b < n ∧ e ∈ lvF s (b : Int) := by
  unfold lvN
  rw [List.mem_flatMap]
  exact ⟨fun ⟨b, h1, h2⟩ => ⟨b, List.mem_range.1 h1, h2⟩, fun ⟨b, h1, h2⟩ => ⟨b, List.mem_range.2 h1, h2⟩⟩
theorem levL_v {s : Smp} (hv : VSm s) : levL s = (lvN s s.B.toNat).mergeSort fun x y => decide (x ≤ y) := by
  unfold levL lvS
  rw [if_pos (chkS_0.2 hv)]
theorem levL_mem {s : Smp} (hv : VSm s) {e : Int} : e ∈ levL s ↔ ∃ b : Nat, b < s.B.toNat ∧ e ∈ lvF s (b : Int) := by
  rw [levL_v hv, List.mem_mergeSort]; exact lvN_mem
end Go.Sp
/-
  Samples that allow more: what is returned of them, plainly.
-/
namespace Go.Sp
open Go Go.Proofs
/-- Whatever can be done with a bottle in the one sample can be done in the other one. -/
structure SubB (s s' : Smp) (b : Int) : Prop where
  L : s.L = s'.L
  st : ∀ c h, stB s c h = true → stB s' c h = true
  seen : ∀ h x, seenB s b h x = true → seenB s' b h x = true
  ch : ∀ c, c ∈ chainsL s b → c ∈ chainsL s' b
theorem actIs_mono {x st st' : Bool} (h : st = true → st' = true) {n : Nat} (hi : actIs x st n = true) : actIs x st' n = true := by
  match n with
  | 0 => rfl
  | 1 => exact hi
  | 2 =>
    have h1 : (x && st) = true := hi
    rw [Bool.and_eq_true] at h1
    show (x && st') = true
    rw [h1.1, h h1.2]; rfl
  | n + 3 =>
    have h1 : (!x && st) = true := hi
    rw [Bool.and_eq_true] at h1
    show (!x && st') = true
    rw [h1.1, h h1.2]; rfl
theorem SubB.step {s s' : Smp} {b : Int} (h : SubB s s' b) {c : List Int} {hr : Int} {x : Bool} {z : Bool × Int} (hz : z ∈ stepL s b hr (stB s c hr) x) : z ∈ stepL s' b hr (stB s' c hr) x := by
  obtain ⟨n, h1, ⟨h2, h3⟩, rfl⟩ := mem_stepL.1 hz
  exact mem_stepL.2 ⟨n, h1, ⟨actIs_mono (h.st c hr) h2, h.seen _ _ h3⟩, rfl⟩
theorem SubB.run {s s' : Smp} {b : Int} (h : SubB s s' b) {c : List Int} : ∀ {k : Nat} {x : Bool} {l : List (Bool × Int)}, RunF s b c k x l → RunF s' b c k x l
  | 0, _, _, hl => hl
  | k + 1, _, _, ⟨z, t, hl, hz, ht⟩ => ⟨z, t, hl, by rw [← h.L]; exact h.step hz, SubB.run h ht⟩
theorem SubB.can {s s' : Smp} {b : Int} (h : SubB s s' b) {c : List Int} (hc : canF s b c = true) : canF s' b c = true := by
  unfold canF at hc ⊢
  rw [← h.L]
  obtain ⟨l, hl⟩ := rst_run.1 hc
  exact rst_run.2 ⟨l, h.run hl⟩
theorem SubB.opn {s s' : Smp} {b : Int} (h : SubB s s' b) {c : List Int} (hc : canF s b c = true) {n : Nat} (hn : (n : Int) ≤ s.L) (ho : opnH s b c n = true) : opnH s' b c n = true := by
  obtain ⟨l, h1, h2⟩ := (opn_run hc hn).1 ho
  have := h.run h1
  rw [h.L] at this
  exact (opn_run (h.can hc) (by rw [← h.L]; exact hn)).2 ⟨l, this, h2⟩
theorem chains_iff {s : Smp} (hp : ∀ p ∈ s.ps, p.lo ≤ p.hi) {b : Int} (c : List Int) : c ∈ chainsL s b ↔ ∃ hs q, InR s.ps hs ∧ chN s b hs (s.L + 1).toNat = some q ∧ padC q.1 = c := by
  have hz : c ∈ chainsL s b ↔ ∃ z ∈ zAll b s.ps, zchF s.L s.F b z = some c := by
    show c ∈ ddC s b (timesL s b) ↔ _
    rw [ddC_mem]
    unfold zAll timesL
    constructor
    · rintro ⟨ts, h1, h2⟩
      refine ⟨_, List.mem_map.2 ⟨ts, h1, rfl⟩, ?_⟩
      rw [← chF_z (genT_len b s.ps [] ts h1 |>.trans (by simp))]; exact h2
    · rintro ⟨z, h1, h2⟩
      obtain ⟨ts, h3, rfl⟩ := List.mem_map.1 h1
      exact ⟨ts, h3, by rw [chF_z (genT_len b s.ps [] ts h3 |>.trans (by simp))]; exact h2⟩
  rw [hz]
  constructor
  · rintro ⟨z, h3, h4⟩
    obtain ⟨hs, h5, rfl⟩ := zAll_ex hp h3
    unfold zchF at h4
    rw [← chN_z s b hs h5.len] at h4
    obtain ⟨q, h6, h7⟩ := Option.map_eq_some_iff.1 h4
    exact ⟨hs, q, h5, h6, h7⟩
  · rintro ⟨hs, q, h1, h2, rfl⟩
    refine ⟨zOwn b s.ps hs, zOwn_in h1, ?_⟩
    unfold zchF
    rw [← chN_z s b hs h1.len, h2]; rfl
end Go.Sp
