
/-
  The law's helpers: samples for the program; the reference's Kept.
-/
import Derived.Test.YtgfpkpiigkcndaaGreatM3
import Derived.Laws.AppendOwn
set_option linter.unusedVariables false
set_option linter.unusedSimpArgs false
set_option linter.deprecated false
namespace Go.Sp
open Go Go.Proofs
theorem take_all2 {α : Type} {l : List α} {n : Nat} (h : l.length ≤ n) : l.take n = l := List.take_of_length_le h
set_option maxHeartbeats 4000000 in
theorem lawSample_c (s : Smp) (hf : Few s) (tv pv gv : Value) (w : World) (hr : RdSm w s tv pv gv) :
    CnX Tryz.prog 18 #[smV s tv pv gv] w [] (fun y : (Option Addr × Nat) × (Option Addr × Nat) × (Option Addr × Nat) => smV s (slV s.st.length y.1) (slV s.ps.length y.2.1) (slV s.sg.length y.2.2)) (fun y w' => RdSm w' s (slV s.st.length y.1) (slV s.ps.length y.2.1) (slV s.sg.length y.2.2)) := by
  have hr0 := hr
  have hft := hf.st
  have hfp := hf.ps
  have hfg := hf.sg
  obtain ⟨adt, cpt, bt, ot, rfl, hadt, hct⟩ := hr.st.open boE_len false
  obtain ⟨adp, cpp, bp, op, rfl, hadp, hcp⟩ := hr.ps.open psE_len pas0
  obtain ⟨adg, cpg, bg, og, rfl, hadg, hcg⟩ := hr.sg.open sgE_len sgt0
  refine cnx0 (vs := [_]) Tryz.func18 rfl rfl ?_
  all_goals refine tc_seq fun K1 hK1 => ?_; refine tc_region ?_; refine tl_e (e_box rfl rfl rfl) rfl (fun b1 _ => ?_); refine tl_e (e_allocN rfl) rfl (fun b2 _ => ?_); refine tl_nil ?_; ((refine hK1 ?_; try (clear hK1; clear K1)))
  all_goals (
   refine tc_join (fun q : Nat × Nat × Nat × List Value => s.st.length ≤ q.2.2.1) (fun q => [(1, ptr b1), (2, ptr b2), (3, ptr q.1)]) (fun _ => [(w, [])]) (fun q => [(q.1, .cells #[vi s.B, vi s.P, vi s.L, vi s.F, .slice (some ⟨q.2.1, 0, none⟩) s.st.length q.2.2.1, .slice none 0 0, .slice none 0 0] 36 (0, 0)), (q.2.1, .cells (s.st.flatMap boE ++ q.2.2.2).toArray 4 (0, 0)), (b2, .cells #[vi 0, vi 0, vi 0, vi 0, .slice none 0 0, .slice none 0 0, .slice none 0 0] 36 (0, 0)), (b1, .cells #[vi s.B, vi s.P, vi s.L, vi s.F, .slice adt s.st.length cpt, .slice adp s.ps.length cpp, .slice adg s.sg.length cpg] 26 (0, 0))]) ?_ ?_
   · skip
     all_goals refine tc_drawS ([(b2, .cells #[vi 0, vi 0, vi 0, vi 0, .slice none 0 0, .slice none 0 0, .slice none 0 0] 36 (0, 0)), (b1, .cells #[vi s.B, vi s.P, vi s.L, vi s.F, .slice adt s.st.length cpt, .slice adp s.ps.length cpp, .slice adg s.sg.length cpg] 26 (0, 0))]) (by kernel_rfl) ?_; refine tx_p 0 rfl (by kernel_rfl) (y_field rfl) rfl (fun _ _ _ h => h) (fun _ h => h.subl SB.s SB.s) ?_; refine tx_qS 1 rfl (by kernel_rfl) (y_load1 rfl (by repeat constructor) (by rfl)) rfl (fun _ _ _ h => h) (fun _ h => h.subl SB.s SB.s) ?_; refine tx_p 2 rfl (by kernel_rfl) (y_field rfl) rfl (fun _ _ _ h => h) (fun _ h => h.subl SB.s SB.s) ?_; refine tx_qS 3 rfl (by kernel_rfl) (y_load1 rfl (by repeat constructor) (by rfl)) rfl (fun _ _ _ h => h) (fun _ h => h.subl SB.s SB.s) ?_; refine tx_p 4 rfl (by kernel_rfl) (y_field rfl) rfl (fun _ _ _ h => h) (fun _ h => h.subl SB.s SB.s) ?_; refine tx_qS 5 rfl (by kernel_rfl) (y_load1 rfl (by repeat constructor) (by rfl)) rfl (fun _ _ _ h => h) (fun _ h => h.subl SB.s SB.s) ?_; refine tx_p 6 rfl (by kernel_rfl) (y_field rfl) rfl (fun _ _ _ h => h) (fun _ h => h.subl SB.s SB.s) ?_; refine tx_qS 7 rfl (by kernel_rfl) (y_load1 rfl (by repeat constructor) (by rfl)) rfl (fun _ _ _ h => h) (fun _ h => h.subl SB.s SB.s) ?_; refine tx_p 9 rfl (by kernel_rfl) (y_field rfl) rfl (fun _ _ _ h => h) (fun _ h => h.subl SB.s SB.s) ?_; refine tx_qS 10 rfl (by kernel_rfl) (y_load1 rfl (by repeat constructor) (by rfl)) rfl (fun _ _ _ h => h) (fun _ h => h.subl SB.s SB.s) ?_
     all_goals (
      refine tx_pair 8 13 (by kernel_rfl) ?_ ?_
      rotate_left
      focus (
       (refine to_e rfl rfl (e_allocN rfl) (.inr ⟨fun _ _ h => h.subl SB.s SB.s, fun _ h => h⟩) (fun b3 _ => ?_))
       all_goals ((refine tx_single 8 (by kernel_rfl) (to_e rfl rfl (e_bslice rfl (by (repeat (exact .nil)); done) rfl rfl) (.inr ⟨fun _ _ h => h.subl SB.s SB.s, fun _ h => h⟩) (fun b16 _ => ?_))))
       all_goals (refine tx_single 11 (by kernel_rfl) (to_e rfl rfl (e_append_own (old := []) (junk := []) rfl rfl rfl (by repeat constructor) rfl rfl (Nat.le_refl 0) (fun w' hw' => hr0.st.fr (hw'.fr (w0 := w) (S := []) MI.m)) (one_flat boE_one _) (by omega) rfl) (.inr ⟨fun _ _ h => h.subl SB.s SB.s, fun _ h => h⟩) (fun rt hrt => ?_))); refine tx_p 12 rfl (by kernel_rfl) (y_build_g (by repeat constructor)) rfl (fun _ _ _ h => h) (fun _ h => h.subl SB.s SB.s) ?_; refine tx_single 14 (by kernel_rfl) (to_e (S' := HG [] []) rfl rfl (e_storeW rfl rfl (by repeat constructor) (by rfl) (by rfl) (by simp [Value.oneCell'])) (.inl (by kernel_rfl)) (fun _ _ => ?_))
       all_goals refine tx_done (by kernel_rfl) ?_)
      rotate_right
      focus (
       (refine to_e rfl rfl (e_bslice rfl (by (repeat (exact .nil)); done) rfl rfl) (.inr ⟨fun _ _ h => h.subl SB.s SB.s, fun _ h => h⟩) (fun b16 _ => ?_))
       all_goals (
        refine tx_pair 11 13 (by kernel_rfl) ?_ ?_
        rotate_left
        focus (
         (refine to_e rfl rfl (e_allocN rfl) (.inr ⟨fun _ _ h => h.subl SB.s SB.s, fun _ h => h⟩) (fun b3 _ => ?_))
         all_goals (refine tx_single 11 (by kernel_rfl) (to_e rfl rfl (e_append_own (old := []) (junk := []) rfl rfl rfl (by repeat constructor) rfl rfl (Nat.le_refl 0) (fun w' hw' => hr0.st.fr (hw'.fr (w0 := w) (S := []) MI.m)) (one_flat boE_one _) (by omega) rfl) (.inr ⟨fun _ _ h => h.subl SB.s SB.s, fun _ h => h⟩) (fun rt hrt => ?_))); refine tx_p 12 rfl (by kernel_rfl) (y_build_g (by repeat constructor)) rfl (fun _ _ _ h => h) (fun _ h => h.subl SB.s SB.s) ?_; refine tx_single 14 (by kernel_rfl) (to_e (S' := HG [] []) rfl rfl (e_storeW rfl rfl (by repeat constructor) (by rfl) (by rfl) (by simp [Value.oneCell'])) (.inl (by kernel_rfl)) (fun _ _ => ?_))
         all_goals refine tx_done (by kernel_rfl) ?_)
        rotate_right
        focus (
         (refine to_e rfl rfl (e_append_own (old := []) (junk := []) rfl rfl rfl (by repeat constructor) rfl rfl (Nat.le_refl 0) (fun w' hw' => hr0.st.fr (hw'.fr (w0 := w) (S := []) MI.m)) (one_flat boE_one _) (by omega) rfl) (.inr ⟨fun _ _ h => h.subl SB.s SB.s, fun _ h => h⟩) (fun rt hrt => ?_))
         all_goals refine tx_p 12 rfl (by kernel_rfl) (y_build_g (by repeat constructor)) rfl (fun _ _ _ h => h) (fun _ h => h.subl SB.s SB.s) ?_; refine tx_single 13 (by kernel_rfl) (to_e rfl rfl (e_allocN rfl) (.inr ⟨fun _ _ h => h.subl SB.s SB.s, fun _ h => h⟩) (fun b3 _ => ?_)); refine tx_single 14 (by kernel_rfl) (to_e (S' := HG [] []) rfl rfl (e_storeW rfl rfl (by repeat constructor) (by rfl) (by rfl) (by simp [Value.oneCell'])) (.inl (by kernel_rfl)) (fun _ _ => ?_))
         all_goals refine tx_done (by kernel_rfl) ?_))))
     all_goals (
      refine tk_start (b3, rt.1, rt.2.1, rt.2.2) (by simpa using hrt.1) (.cons rfl (.cons rfl (.cons rfl .nil))) (fun _ h => ?_)
      rw [Nat.zero_add] at h
      first
      | (refine h.subl (SB.s ?_) (SB.s ?_)
         all_goals ((repeat constructor); done))
      | (refine HG.sw (h.subl (SB.s ?_) (SB.s ?_))
         all_goals ((repeat constructor); done)))
   · rintro ⟨b3, rb, rc, rj⟩ hrc
     dsimp only at hrc ⊢
     all_goals refine tc_seq fun K2 hK2 => ?_; refine tc_seq fun K3 hK3 => ?_; refine tc_region ?_; refine tl_q (y_assign rfl) rfl ?_; refine tl_nil ?_; ((refine hK3 ?_; try (clear hK3; clear K3)))
     all_goals refine tc_block ?_
     all_goals (
      refine tc_loop (fun p : Nat × OwnB => p.1 ≤ s.ps.length ∧ okE 5 (s.ps.take p.1) p.2) (fun p => [(1, ptr b1), (2, ptr b2), (3, ptr b3), (4, vi p.1)]) (fun _ => [(w, [])]) (fun p => (b3, .cells #[vi s.B, vi s.P, vi s.L, vi s.F, .slice (some ⟨rb, 0, none⟩) s.st.length rc, ouV (s.ps.take p.1).length p.2, .slice none 0 0] 36 (0, 0)) :: (rb, .cells (s.st.flatMap boE ++ rj).toArray 4 (0, 0)) :: (b2, .cells #[vi 0, vi 0, vi 0, vi 0, .slice none 0 0, .slice none 0 0, .slice none 0 0] 36 (0, 0)) :: (b1, .cells #[vi s.B, vi s.P, vi s.L, vi s.F, .slice adt s.st.length cpt, .slice adp s.ps.length cpp, .slice adg s.sg.length cpg] 26 (0, 0)) :: slE 92 psE (s.ps.take p.1) p.2) (fun p => s.ps.length - p.1) ?_ ?_
      · exact tk_start (0, none) ⟨Nat.zero_le _, rfl⟩ (.cons rfl (.cons rfl (.cons rfl (.cons rfl .nil)))) (fun _ h => by rw [slE_none]; exact h.subl SB.s SB.s)
      · rintro ⟨k, oo⟩ ⟨hk, hok⟩
        dsimp only at hk hok ⊢
        have hkl : (s.ps.take k).length ≤ k := by rw [List.length_take]; omega
        all_goals refine tc_seq fun K4 hK4 => ?_; refine tc_seq fun K5 hK5 => ?_; refine tc_region ?_; refine tl_q (y_move rfl) rfl ?_; refine tl_q (y_field rfl) rfl ?_; refine tl_q (y_load1 rfl (by repeat constructor) (by rfl)) rfl ?_; refine tl_q (y_len rfl) rfl ?_; refine tl_q (y_lss rfl rfl) rfl ?_; refine tl_nil ?_; ((refine hK5 ?_; try (clear hK5; clear K5)))
        all_goals (
         refine tc_cond rfl (fun hc => ?_) (fun hc => ?_)
         · try simp only [qn1, qn2, qn3, qn4, qn5, qn6, qn7, qn8] at hc
           all_goals refine tc_skip ?_; ((refine hK4 ?_; try (clear hK4; clear K4)))
           all_goals refine tc_seq fun K6 hK6 => ?_; refine tc_block ?_; refine tc_seq fun K7 hK7 => ?_; refine tc_region ?_; refine tl_q (y_field rfl) rfl ?_; refine tl_q (y_load1 rfl (by repeat constructor) (by rfl)) rfl ?_; refine tl_q (y_move rfl) rfl ?_; refine tl_q (y_index rfl rfl (by omega) (hadp (by omega))) rfl ?_; ((refine tl_q (y_loadNo (n := 5) (vs := [vi (s.ps.getD k pas0).b, vi (s.ps.getD k pas0).fr, vi (s.ps.getD k pas0).to, vi (s.ps.getD k pas0).lo, vi (s.ps.getD k pas0).hi]) rfl (fun w' hw' => by rw [show Int.toNat (k : Int) * 5 = k * 5 from by omega]; exact hcp w' [] (hw'.fr (w0 := w) (S := []) MI.m) (by simp) k (by omega))) rfl ?_))
           all_goals refine tl_e (e_allocN rfl) rfl (fun b5 _ => ?_); refine tl_e (e_storeW rfl rfl (by repeat constructor) (by rfl) (by rfl) (by simp [Value.oneCell'])) rfl (fun _ _ => ?_); refine tl_nil ?_; ((refine hK7 ?_; try (clear hK7; clear K7)))
           all_goals refine tc_region ?_; refine tl_q (y_field rfl) rfl ?_; refine tl_q (y_load1 rfl (by repeat constructor) (by rfl)) rfl ?_; refine tl_q (y_field rfl) rfl ?_; refine tl_q (y_load1 rfl (by repeat constructor) (by rfl)) rfl ?_; refine tl_q (y_field rfl) rfl ?_; refine tl_q (y_load1 rfl (by repeat constructor) (by rfl)) rfl ?_; refine tl_q (y_field rfl) rfl ?_; refine tl_q (y_load1 rfl (by repeat constructor) (by rfl)) rfl ?_; refine tl_q (y_field rfl) rfl ?_; refine tl_q (y_field rfl) rfl ?_; refine tl_q (y_load1 rfl (by repeat constructor) (by rfl)) rfl ?_; refine tl_q (y_field rfl) rfl ?_; refine tl_q (y_field rfl) rfl ?_; refine tl_q (y_load1 rfl (by repeat constructor) (by rfl)) rfl ?_; refine tl_q (y_build_g (by repeat constructor)) rfl ?_; refine tl_q (y_build_g (by repeat constructor)) rfl ?_; refine tl_e (e_bsliceG rfl (.agg rfl rfl .nil) rfl rfl) rfl (fun _ _ => ?_); ((refine tl_e (e_appendE (enc := psE) (xs := s.ps.take k) (ys := [s.ps.getD k pas0]) psE_len psE_one rfl rfl rfl hok (fun _ => by repeat constructor) (fun w' hw' => RdS.own0 psE_len hw' (by repeat constructor)) (by simp only [List.length_cons, List.length_nil]; omega) rfl) rfl (fun oo' hok' => ?_)))
           all_goals refine tl_q (y_field rfl) rfl ?_; refine tl_e (e_store1 rfl rfl (by repeat constructor) (by repeat constructor) (by rfl) (by rfl)) rfl (fun _ _ => ?_); refine tl_nil ?_; ((refine hK6 ?_; try (clear hK6; clear K6)))
           all_goals refine tc_region ?_; refine tl_q (y_move rfl) rfl ?_; refine tl_q (y_add rfl rfl (by omega)) rfl ?_; refine tl_q (y_assign rfl) rfl ?_; refine tl_nil ?_
           all_goals (
            have hs := takeG_succ (d := pas0) (l := s.ps) (n := k) (by omega)
            exact tk_round (k + 1, oo') ⟨by dsimp only; omega, by dsimp only; rw [hs]; exact hok'⟩ (by dsimp only; omega) (.cons rfl (.cons rfl (.cons rfl (.cons rfl .nil)))) (fun _ h => by dsimp only; rw [hs]; exact h.subl SB.s SB.s))
         · try simp only [qn1, qn2, qn3, qn4, qn5, qn6, qn7, qn8] at hc
           all_goals refine tc_exit ?_; ((refine hK2 ?_; try (clear hK2; clear K2)))
           all_goals refine tc_seq fun K8 hK8 => ?_; refine tc_seq fun K9 hK9 => ?_; refine tc_region ?_; refine tl_q (y_assign rfl) rfl ?_; refine tl_nil ?_; ((refine hK9 ?_; try (clear hK9; clear K9)))
           all_goals refine tc_block ?_
           all_goals (
            refine tc_loop (fun p : Nat × OwnB => p.1 ≤ s.sg.length ∧ okE 3 (s.sg.take p.1) p.2) (fun p => [(1, ptr b1), (2, ptr b2), (3, ptr b3), (6, vi p.1)]) (fun _ => [(w, [])]) (fun p => (b3, .cells #[vi s.B, vi s.P, vi s.L, vi s.F, .slice (some ⟨rb, 0, none⟩) s.st.length rc, ouV (s.ps.take k).length oo, ouV (s.sg.take p.1).length p.2] 36 (0, 0)) :: (rb, .cells (s.st.flatMap boE ++ rj).toArray 4 (0, 0)) :: (b2, .cells #[vi 0, vi 0, vi 0, vi 0, .slice none 0 0, .slice none 0 0, .slice none 0 0] 36 (0, 0)) :: (b1, .cells #[vi s.B, vi s.P, vi s.L, vi s.F, .slice adt s.st.length cpt, .slice adp s.ps.length cpp, .slice adg s.sg.length cpg] 26 (0, 0)) :: (slE 89 sgE (s.sg.take p.1) p.2 ++ slE 92 psE (s.ps.take k) oo)) (fun p => s.sg.length - p.1) ?_ ?_
            · exact tk_start (0, none) ⟨Nat.zero_le _, rfl⟩ (.cons rfl (.cons rfl (.cons rfl (.cons rfl .nil)))) (fun _ h => by rw [slE_none]; exact h.subl SB.s SB.s)
            · rintro ⟨j, oo2⟩ ⟨hj, hok2⟩
              dsimp only at hj hok2 ⊢
              have hjl : (s.sg.take j).length ≤ j := by rw [List.length_take]; omega
              all_goals refine tc_seq fun K10 hK10 => ?_; refine tc_seq fun K11 hK11 => ?_; refine tc_region ?_; refine tl_q (y_move rfl) rfl ?_; refine tl_q (y_field rfl) rfl ?_; refine tl_q (y_load1 rfl (by repeat constructor) (by rfl)) rfl ?_; refine tl_q (y_len rfl) rfl ?_; refine tl_q (y_lss rfl rfl) rfl ?_; refine tl_nil ?_; ((refine hK11 ?_; try (clear hK11; clear K11)))
              all_goals (
               refine tc_cond rfl (fun hc => ?_) (fun hc => ?_)
               · try simp only [qn1, qn2, qn3, qn4, qn5, qn6, qn7, qn8] at hc
                 all_goals refine tc_skip ?_; ((refine hK10 ?_; try (clear hK10; clear K10)))
                 all_goals refine tc_seq fun K12 hK12 => ?_; refine tc_block ?_; refine tc_seq fun K13 hK13 => ?_; refine tc_region ?_; refine tl_q (y_field rfl) rfl ?_; refine tl_q (y_load1 rfl (by repeat constructor) (by rfl)) rfl ?_; refine tl_q (y_move rfl) rfl ?_; refine tl_q (y_index rfl rfl (by omega) (hadg (by omega))) rfl ?_; ((refine tl_q (y_loadNo (n := 3) (vs := [vi (s.sg.getD j sgt0).b, vi (s.sg.getD j sgt0).h, .bool (s.sg.getD j sgt0).wh]) rfl (fun w' hw' => by rw [show Int.toNat (j : Int) * 3 = j * 3 from by omega]; exact hcg w' [] (hw'.fr (w0 := w) (S := []) MI.m) (by simp) j (by omega))) rfl ?_))
                 all_goals refine tl_e (e_allocN rfl) rfl (fun b7 _ => ?_); refine tl_e (e_storeW rfl rfl (by repeat constructor) (by rfl) (by rfl) (by simp [Value.oneCell'])) rfl (fun _ _ => ?_); refine tl_nil ?_; ((refine hK13 ?_; try (clear hK13; clear K13)))
                 all_goals refine tc_region ?_; refine tl_q (y_field rfl) rfl ?_; refine tl_q (y_load1 rfl (by repeat constructor) (by rfl)) rfl ?_; refine tl_q (y_field rfl) rfl ?_; refine tl_q (y_load1 rfl (by repeat constructor) (by rfl)) rfl ?_; refine tl_q (y_field rfl) rfl ?_; refine tl_q (y_load1 rfl (by repeat constructor) (by rfl)) rfl ?_; refine tl_q (y_field rfl) rfl ?_; refine tl_q (y_load1 rfl (by repeat constructor) (by rfl)) rfl ?_; refine tl_q (y_build_g (by repeat constructor)) rfl ?_; refine tl_e (e_bsliceG rfl (.agg rfl rfl .nil) rfl rfl) rfl (fun _ _ => ?_); ((refine tl_e (e_appendE (enc := sgE) (xs := s.sg.take j) (ys := [s.sg.getD j sgt0]) sgE_len sgE_one rfl rfl rfl hok2 (fun _ => by repeat constructor) (fun w' hw' => RdS.own0 sgE_len hw' (by repeat constructor)) (by simp only [List.length_cons, List.length_nil]; omega) rfl) rfl (fun oo' hok' => ?_)))
                 all_goals refine tl_q (y_field rfl) rfl ?_; refine tl_e (e_store1 rfl rfl (by repeat constructor) (by repeat constructor) (by rfl) (by rfl)) rfl (fun _ _ => ?_); refine tl_nil ?_; ((refine hK12 ?_; try (clear hK12; clear K12)))
                 all_goals refine tc_region ?_; refine tl_q (y_move rfl) rfl ?_; refine tl_q (y_add rfl rfl (by omega)) rfl ?_; refine tl_q (y_assign rfl) rfl ?_; refine tl_nil ?_
                 all_goals (
                  have hs := takeG_succ (d := sgt0) (l := s.sg) (n := j) (by omega)
                  exact tk_round (j + 1, oo') ⟨by dsimp only; omega, by dsimp only; rw [hs]; exact hok'⟩ (by dsimp only; omega) (.cons rfl (.cons rfl (.cons rfl (.cons rfl .nil)))) (fun _ h => by dsimp only; rw [hs]; exact h.subl SB.s SB.s))
               · try simp only [qn1, qn2, qn3, qn4, qn5, qn6, qn7, qn8] at hc
                 all_goals refine tc_exit ?_; ((refine hK8 ?_; try (clear hK8; clear K8)))
                 all_goals refine tc_seq fun K14 hK14 => ?_; refine tc_region ?_; refine tl_q (y_loadW rfl (by repeat constructor) (by rfl)) rfl ?_; refine tl_e (e_storeW rfl rfl (by repeat constructor) (by rfl) (by rfl) (smV_ones (s := s) rfl rfl rfl)) rfl (fun _ _ => ?_); refine tl_nil ?_; ((refine hK14 ?_; try (clear hK14; clear K14)))
                 all_goals refine tc_ret ?_; (repeat (first | refine tk_then_ret ?_))
                 all_goals (refine tk_ret rfl rfl (.cons (.agg inferInstance rfl (by repeat constructor) (by rfl)) .nil) ?_)
                 all_goals (
                  have e1 := take_all2 (l := s.ps) (n := k) (by omega)
                  have e2 := take_all2 (l := s.sg) (n := j) (by omega)
                  refine fun w' hw' => ?_
                  have h1 := RdS.ofO psE_len hok hw' (by repeat constructor)
                  have h2 := RdS.ofO sgE_len hok2 hw' (by repeat constructor)
                  have h3 := RdS.own (xs := s.st) (cap := rc) (junk := rj) boE_len hw' (b := rb) (by repeat constructor)
                  rw [e1] at h1 ⊢
                  rw [e2] at h2 ⊢
                  exact ⟨((some ⟨rb, 0, none⟩, rc), ouA oo, ouA oo2), rfl, hw'.fr (w0 := w) (S := []) MI.m, h3, h1, h2⟩))))))
end Go.Sp
/-
  What is so of a bottle depends on its own entries alone.
-/
namespace Go.Sp
open Go Go.Proofs
abbrev psO (s : Smp) (b : Int) : List Pas := s.ps.filter fun p => decide (p.b = b)
abbrev sgO (s : Smp) (b : Int) : List Sgt := s.sg.filter fun g => decide (g.b = b)
/-- Two samples are the same as to a bottle. -/
structure SamB (s s' : Smp) (b : Int) : Prop where
  L : s.L = s'.L
  F : s.F = s'.F
  st : s.st = s'.st
  ps : psO s b = psO s' b
  sg : sgO s b = sgO s' b
def zStp (b h : Int) (acc : Option Int) (q : Pas × Int) : Option Int := match acc with
  | none => none
  | some a => if q.1.b = b ∧ q.2 = h then (if q.1.fr = a then some q.1.to else none) else some a
theorem zStp_no {b h : Int} {acc : Option Int} {q : Pas × Int} (hq : ¬ q.1.b = b) : zStp b h acc q = acc := by
  cases acc with
  | none => rfl
  | some a =>
    show (if q.1.b = b ∧ q.2 = h then (if q.1.fr = a then some q.1.to else none) else some a) = some a
    exact if_neg (fun g => hq g.1)
theorem zStp_filt (b h : Int) : ∀ (l : List (Pas × Int)) (acc : Option Int), l.foldl (zStp b h) acc = (l.filter fun q => decide (q.1.b = b)).foldl (zStp b h) acc
  | [], _ => rfl
  | q :: l, acc => by
    rw [List.foldl_cons, List.filter_cons]
    by_cases hq : q.1.b = b
    · rw [if_pos (by simpa using hq), List.foldl_cons]; exact zStp_filt b h l _
    · rw [if_neg (by simpa using hq), zStp_no hq]; exact zStp_filt b h l _
theorem pasN_fold (s : Smp) (b : Int) (ts : List Int) (hts : ts.length = s.ps.length) (h a0 : Int) : ∀ n, n ≤ s.ps.length → pasN s b ts h a0 n = ((s.ps.zip ts).take n).foldl (zStp b h) (some a0)
  | 0, _ => rfl
  | n + 1, hn => by
    have hz : n < (s.ps.zip ts).length := by rw [List.length_zip]; omega
    have e : (s.ps.zip ts).take (n + 1) = (s.ps.zip ts).take n ++ [(s.ps.getD n pas0, ts.getD n 0)] := by
      rw [List.take_succ, List.getElem?_eq_getElem hz]
      simp [List.getElem?_eq_getElem (show n < s.ps.length by omega), List.getElem?_eq_getElem (show n < ts.length by omega)]
    rw [pasN, e, List.foldl_append, ← pasN_fold s b ts hts h a0 n (by omega)]
    cases pasN s b ts h a0 n <;> rfl
def zch (F b : Int) (z : List (Pas × Int)) : Nat → Option (List Int × Int)
  | 0 => some ([], F)
  | h + 1 => match zch F b z h with
    | none => none
    | some (c, a) => match z.foldl (zStp b h) (some a) with
      | none => none
      | some a' => some (c ++ [a'], a')
abbrev zOwn (b : Int) (ps : List Pas) (ts : List Int) : List (Pas × Int) := (ps.zip ts).filter fun q => decide (q.1.b = b)
theorem chN_z (s : Smp) (b : Int) (ts : List Int) (hts : ts.length = s.ps.length) : ∀ n, chN s b ts n = zch s.F b (zOwn b s.ps ts) n
  | 0 => rfl
  | n + 1 => by
    rw [chN, zch, chN_z s b ts hts n]
    cases zch s.F b (zOwn b s.ps ts) n with
    | none => rfl
    | some q =>
      obtain ⟨c, a⟩ := q
      simp only
      rw [pasN_fold s b ts hts n a _ (Nat.le_refl _), List.take_of_length_le (by rw [List.length_zip]; omega), zStp_filt]
      rfl
def zchF (L F b : Int) (z : List (Pas × Int)) : Option (List Int) := (zch F b z (L + 1).toNat).map fun q => padC q.1
theorem genT_pre (b : Int) : ∀ (ps : List Pas) (pre : List Int), genT b ps pre = (genT b ps []).map fun x => pre ++ x
  | [], pre => by simp [genT]
  | p :: ps, pre => by
    rw [genT, genT]
    split
    · rw [List.map_flatMap]
      refine congrArg (fun f => List.flatMap f _) (funext fun j => ?_)
      rw [genT_pre b ps (pre ++ [_]), genT_pre b ps ([] ++ [_]), List.map_map]
      refine List.map_congr_left fun x _ => ?_
      simp
    · rw [genT_pre b ps (pre ++ [_]), genT_pre b ps ([] ++ [_]), List.map_map]
      refine List.map_congr_left fun x _ => ?_
      simp
def zAll (b : Int) (ps : List Pas) : List (List (Pas × Int)) := (genT b ps []).map (zOwn b ps)
theorem zAll_own {b : Int} {p : Pas} {ps : List Pas} (h : p.b = b) : zAll b (p :: ps) = (List.range (p.hi - p.lo + 1).toNat).flatMap fun (j : Nat) => (zAll b ps).map fun z => (p, p.lo + (j : Int)) :: z := by
  unfold zAll
  rw [genT, if_pos h, List.map_flatMap]
  refine congrArg (fun f => List.flatMap f _) (funext fun j => ?_)
  rw [genT_pre, List.map_map, List.map_map]
  refine List.map_congr_left fun x _ => ?_
  simp [zOwn, h]
theorem zAll_oth {b : Int} {p : Pas} {ps : List Pas} (h : ¬ p.b = b) : zAll b (p :: ps) = zAll b ps := by
  unfold zAll
  rw [genT, if_neg h, genT_pre, List.map_map]
  refine List.map_congr_left fun x _ => ?_
  simp [zOwn, h]
theorem chF_z {s : Smp} {b : Int} {ts : List Int} (hts : ts.length = s.ps.length) : chF s b ts = zchF s.L s.F b (zOwn b s.ps ts) := by
  unfold chF zchF
  rw [chN_z s b ts hts]
theorem seen_own (s : Smp) (b h : Int) (x : Bool) : seenB s b h x = (sgO s b).all (sgB b h x) := by
  unfold seenB sgO
  rw [List.all_filter]
  refine congrArg (fun f => s.sg.all f) (funext fun g => ?_)
  unfold sgB
  by_cases hb : g.b = b
  · rw [decide_eq_true hb]; rfl
  · rw [decide_eq_true hb, decide_eq_false hb]; rfl
theorem SamB.seen {s s' : Smp} {b : Int} (h : SamB s s' b) : seenB s b = seenB s' b := funext fun hr => funext fun x => by rw [seen_own, seen_own, h.sg]
theorem SamB.step {s s' : Smp} {b : Int} (h : SamB s s' b) : stepN s b = stepN s' b := funext fun hr => funext fun st => funext fun x => funext fun n => by
  unfold stepN stp1
  rw [h.seen]
theorem SamB.stB {s s' : Smp} {b : Int} (h : SamB s s' b) : stB s = stB s' := funext fun c => funext fun hr => by unfold Go.Sp.stB; rw [h.st]
theorem SamB.rst {s s' : Smp} {b : Int} (h : SamB s s' b) (c : List Int) : ∀ k, rstF s b c k = rstF s' b c k
  | 0 => funext fun x => by rw [rstF, rstF]
  | k + 1 => funext fun x => by
    rw [rstF, rstF, SamB.rst h c k]
    show minP (stepN s b _ _ x 4) _ (stepN s b _ _ x 4).length = minP (stepN s' b _ _ x 4) _ (stepN s' b _ _ x 4).length
    rw [h.step, h.stB, h.L]
theorem SamB.can {s s' : Smp} {b : Int} (h : SamB s s' b) : canF s b = canF s' b := funext fun c => by unfold canF; rw [h.rst, h.L]
theorem SamB.on {s s' : Smp} {b : Int} (h : SamB s s' b) (c : List Int) : onL s b c = onL s' b c := funext fun hr => funext fun x => funext fun n => by
  unfold onL
  show ((stepN s b _ _ x 4).take n).filter _ = ((stepN s' b _ _ x 4).take n).filter _
  rw [h.rst, h.step, h.stB, h.L]
theorem SamB.cnd {s s' : Smp} {b : Int} (h : SamB s s' b) (c : List Int) : cnd s b c = cnd s' b c := funext fun hr => funext fun now => by
  show (now.flatMap fun x => onL s b c hr x (stepN s b hr (Go.Sp.stB s c hr) x 4).length) = (now.flatMap fun x => onL s' b c hr x (stepN s' b hr (Go.Sp.stB s' c hr) x 4).length)
  rw [h.on, h.step, h.stB]
theorem SamB.now {s s' : Smp} {b : Int} (h : SamB s s' b) (c : List Int) : ∀ n, nowN s b c n = nowN s' b c n
  | 0 => rfl
  | n + 1 => by
    rw [nowN, nowN, SamB.now h c n]
    exact congrArg (fun f => ddB ((f n (nowN s' b c n)).map Prod.fst)) (h.cnd c)
theorem SamB.opn {s s' : Smp} {b : Int} (h : SamB s s' b) (c : List Int) : opnL s b c = opnL s' b c := by
  have e : opnH s b c = opnH s' b c := funext fun n => by
    unfold opnH
    rw [h.now c n]
    exact congrArg (fun f => (f n (nowN s' b c n)).any fun y => decide (y.2 = 1)) (h.cnd c)
  show outN s b c _ _ = outN s' b c _ _
  unfold outN
  rw [e, h.L]
end Go.Sp
/-
  The reference of samples: acts, sights, lists of hours, holders.
-/
namespace Go.Sp
open Go Go.Proofs
def acY (x : Bool) (a : Int) : Bool := if a = 1 then true else if a = 2 then false else if a = 3 then false else x
def acIs (x st : Bool) (a : Int) : Bool := if a = 1 then !x else if a = 2 then x && st else if a = 3 then !x && st else true
theorem acY_nat (x : Bool) {n : Nat} (h : n < 4) : acY x n = actY x n := by
  match n, h with
  | 0, _ => rfl
  | 1, _ => rfl
  | 2, _ => rfl
  | 3, _ => rfl
theorem acIs_nat (x st : Bool) {n : Nat} (h : n < 4) : acIs x st n = actIs x st n := by
  match n, h with
  | 0, _ => rfl
  | 1, _ => rfl
  | 2, _ => rfl
  | 3, _ => rfl
theorem acted_c (x st : Bool) (a : Int) (w : World) : CnV Tryz.prog 74 #[.bool x, .bool st, vi a] w (.tuple #[.bool (acY x a), .bool (acIs x st a)]) := by
  refine cnv (vs := [_, _, _]) Tryz.func74 rfl rfl ?_
  all_goals refine tc_seq fun K1 hK1 => ?_; refine tc_region ?_; refine tl_q (y_assign rfl) rfl ?_; refine tl_q (y_assign rfl) rfl ?_; refine tl_nil ?_; ((refine hK1 ?_; try (clear hK1; clear K1)))
  all_goals refine tc_seq fun K2 hK2 => ?_; refine tc_seq fun K3 hK3 => ?_; refine tc_region ?_; refine tl_q (y_move rfl) rfl ?_; refine tl_nil ?_; ((refine hK3 ?_; try (clear hK3; clear K3)))
  all_goals refine tc_block ?_; refine tc_seq fun K4 hK4 => ?_; refine tc_region ?_; refine tl_q (y_eql rfl rfl) rfl ?_; refine tl_q (y_assign rfl) rfl ?_; refine tl_nil ?_; ((refine hK4 ?_; try (clear hK4; clear K4)))
  all_goals (
   refine tc_cond rfl (fun hc => ?_) (fun hc => ?_)
   · try simp only [qn1, qn2, qn3, qn4, qn5, qn6, qn7, qn8] at hc
     all_goals refine tc_seq fun K5 hK5 => ?_; refine tc_region ?_; refine tl_q (y_move rfl) rfl ?_; refine tl_q (y_not rfl) rfl ?_; refine tl_q (y_assign rfl) rfl ?_; refine tl_q (y_assign rfl) rfl ?_; refine tl_nil ?_; ((refine hK5 ?_; try (clear hK5; clear K5)))
     all_goals refine tc_ret ?_; (repeat (first | refine tk_then_ret ?_ | refine tk_block_ret ?_))
     all_goals (refine tk_ret rfl rfl (.cons (.tmp rfl) (.cons (.tmp rfl) .nil)) ?_)
     all_goals (
      refine fun w' hw' => ⟨?_, hw'.fr (by simp)⟩
      unfold acY acIs
      first
      | (rw [if_pos (by omega), if_pos (by omega)]; cases x <;> cases st <;> rfl)
      | (rw [if_neg (by omega), if_pos (by omega), if_neg (by omega), if_pos (by omega)]; cases x <;> cases st <;> simp_all <;> rfl)
      | (rw [if_neg (by omega), if_neg (by omega), if_pos (by omega), if_neg (by omega), if_neg (by omega), if_pos (by omega)]; cases x <;> cases st <;> simp_all <;> rfl)
      | (rw [if_neg (by omega), if_neg (by omega), if_neg (by omega), if_neg (by omega), if_neg (by omega), if_neg (by omega)]; rfl))
   · try simp only [qn1, qn2, qn3, qn4, qn5, qn6, qn7, qn8] at hc
     all_goals refine tc_seq fun K6 hK6 => ?_; refine tc_region ?_; refine tl_q (y_eql rfl rfl) rfl ?_; refine tl_q (y_assign rfl) rfl ?_; refine tl_nil ?_; ((refine hK6 ?_; try (clear hK6; clear K6)))
     all_goals (
      refine tc_cond rfl (fun hc => ?_) (fun hc => ?_)
      · try simp only [qn1, qn2, qn3, qn4, qn5, qn6, qn7, qn8] at hc
        all_goals refine tc_seq fun K7 hK7 => ?_; refine tc_region ?_; refine tl_q (y_move rfl) rfl ?_; refine tl_q (y_move rfl) rfl ?_; ((refine tl_gs rfl rfl (fun hc => ?_) (fun hc => ?_) <;> (try simp only [qn1, qn2, qn3, qn4, qn5, qn6, qn7, qn8] at hc) <;> (first | refine tl_sk rfl rfl rfl rfl ?_ | refine tl_qg rfl rfl (y_move rfl) rfl ?_)))
        all_goals (first | refine tl_q (y_pick_t rfl rfl) rfl ?_ | refine tl_q (y_pick_f rfl rfl) rfl ?_); refine tl_q (y_assign rfl) rfl ?_; refine tl_q (y_assign rfl) rfl ?_; refine tl_nil ?_; ((refine hK7 ?_; try (clear hK7; clear K7)))
        all_goals refine tc_ret ?_; (repeat (first | refine tk_then_ret ?_ | refine tk_block_ret ?_))
        all_goals (refine tk_ret rfl rfl (.cons (.tmp rfl) (.cons (.tmp rfl) .nil)) ?_)
        all_goals (
         refine fun w' hw' => ⟨?_, hw'.fr (by simp)⟩
         unfold acY acIs
         first
         | (rw [if_pos (by omega), if_pos (by omega)]; cases x <;> cases st <;> rfl)
         | (rw [if_neg (by omega), if_pos (by omega), if_neg (by omega), if_pos (by omega)]; cases x <;> cases st <;> simp_all <;> rfl)
         | (rw [if_neg (by omega), if_neg (by omega), if_pos (by omega), if_neg (by omega), if_neg (by omega), if_pos (by omega)]; cases x <;> cases st <;> simp_all <;> rfl)
         | (rw [if_neg (by omega), if_neg (by omega), if_neg (by omega), if_neg (by omega), if_neg (by omega), if_neg (by omega)]; rfl))
      · try simp only [qn1, qn2, qn3, qn4, qn5, qn6, qn7, qn8] at hc
        all_goals refine tc_seq fun K8 hK8 => ?_; refine tc_region ?_; refine tl_q (y_eql rfl rfl) rfl ?_; refine tl_q (y_assign rfl) rfl ?_; refine tl_nil ?_; ((refine hK8 ?_; try (clear hK8; clear K8)))
        all_goals (
         refine tc_cond rfl (fun hc => ?_) (fun hc => ?_)
         · try simp only [qn1, qn2, qn3, qn4, qn5, qn6, qn7, qn8] at hc
           all_goals refine tc_seq fun K9 hK9 => ?_; refine tc_region ?_; refine tl_q (y_move rfl) rfl ?_; refine tl_q (y_not rfl) rfl ?_; refine tl_q (y_move rfl) rfl ?_; ((refine tl_gs rfl rfl (fun hc => ?_) (fun hc => ?_) <;> (try simp only [qn1, qn2, qn3, qn4, qn5, qn6, qn7, qn8] at hc) <;> (first | refine tl_sk rfl rfl rfl rfl ?_ | refine tl_qg rfl rfl (y_move rfl) rfl ?_)))
           all_goals (first | refine tl_q (y_pick_t rfl rfl) rfl ?_ | refine tl_q (y_pick_f rfl rfl) rfl ?_); refine tl_q (y_assign rfl) rfl ?_; refine tl_q (y_assign rfl) rfl ?_; refine tl_nil ?_; ((refine hK9 ?_; try (clear hK9; clear K9)))
           all_goals refine tc_ret ?_; (repeat (first | refine tk_then_ret ?_ | refine tk_block_ret ?_))
           all_goals (refine tk_ret rfl rfl (.cons (.tmp rfl) (.cons (.tmp rfl) .nil)) ?_)
           all_goals (
            refine fun w' hw' => ⟨?_, hw'.fr (by simp)⟩
            unfold acY acIs
            first
            | (rw [if_pos (by omega), if_pos (by omega)]; cases x <;> cases st <;> rfl)
            | (rw [if_neg (by omega), if_pos (by omega), if_neg (by omega), if_pos (by omega)]; cases x <;> cases st <;> simp_all <;> rfl)
            | (rw [if_neg (by omega), if_neg (by omega), if_pos (by omega), if_neg (by omega), if_neg (by omega), if_pos (by omega)]; cases x <;> cases st <;> simp_all <;> rfl)
            | (rw [if_neg (by omega), if_neg (by omega), if_neg (by omega), if_neg (by omega), if_neg (by omega), if_neg (by omega)]; rfl))
         · try simp only [qn1, qn2, qn3, qn4, qn5, qn6, qn7, qn8] at hc
           all_goals refine tc_skip ?_; ((refine hK2 ?_; try (clear hK2; clear K2)))
           all_goals refine tc_seq fun K10 hK10 => ?_; refine tc_region ?_; refine tl_q (y_move rfl) rfl ?_; refine tl_q (y_assign rfl) rfl ?_; refine tl_q (y_assign rfl) rfl ?_; refine tl_nil ?_; ((refine hK10 ?_; try (clear hK10; clear K10)))
           all_goals refine tc_ret ?_; (repeat (first | refine tk_then_ret ?_))
           all_goals (refine tk_ret rfl rfl (.cons (.tmp rfl) (.cons (.tmp rfl) .nil)) ?_)
           all_goals (
            refine fun w' hw' => ⟨?_, hw'.fr (by simp)⟩
            unfold acY acIs
            first
            | (rw [if_pos (by omega), if_pos (by omega)]; cases x <;> cases st <;> rfl)
            | (rw [if_neg (by omega), if_pos (by omega), if_neg (by omega), if_pos (by omega)]; cases x <;> cases st <;> simp_all <;> rfl)
            | (rw [if_neg (by omega), if_neg (by omega), if_pos (by omega), if_neg (by omega), if_neg (by omega), if_pos (by omega)]; cases x <;> cases st <;> simp_all <;> rfl)
            | (rw [if_neg (by omega), if_neg (by omega), if_neg (by omega), if_neg (by omega), if_neg (by omega), if_neg (by omega)]; rfl)))))
theorem sgB_no {b h : Int} {x : Bool} {g : Sgt} (hg : sgB b h x g = false) : g.b = b ∧ g.h = h ∧ g.wh = x := by
  unfold sgB at hg
  simp only [Bool.or_eq_false_iff, decide_eq_false_iff_not, Decidable.not_not, bne_eq_false_iff_eq] at hg
  exact hg
theorem agrees_c (s : Smp) (hf : s.sg.length ≤ 9) (b h : Int) (x : Bool) (tv pv gv : Value) (w : World) (hr : RdS 3 sgE w gv s.sg) : CnV Tryz.prog 75 #[smV s tv pv gv, vi b, vi h, .bool x] w (.bool (seenB s b h x)) := by
  obtain ⟨adg, cpg, bg, og, rfl, hadg, hcg⟩ := hr.open sgE_len sgt0
  refine cnv (vs := [_, _, _, _]) Tryz.func75 rfl rfl ?_
  all_goals refine tc_seq fun K1 hK1 => ?_; refine tc_region ?_; refine tl_e (e_box rfl rfl rfl) rfl (fun b4 _ => ?_); refine tl_q (y_assign rfl) rfl ?_; refine tl_nil ?_; ((refine hK1 ?_; try (clear hK1; clear K1)))
  all_goals refine tc_seq fun K2 hK2 => ?_; refine tc_seq fun K3 hK3 => ?_; refine tc_region ?_; refine tl_q (y_assign rfl) rfl ?_; refine tl_nil ?_; ((refine hK3 ?_; try (clear hK3; clear K3)))
  all_goals refine tc_block ?_
  all_goals (
   refine tc_loop (fun j : Nat => j ≤ s.sg.length ∧ ∀ i, i < j → sgB b h x (s.sg.getD i sgt0) = true) (fun j => [(1, vi b), (2, vi h), (3, .bool x), (4, ptr b4), (9, vi j)]) (fun _ => [(w, [])]) (fun _ => [(b4, .cells #[vi s.B, vi s.P, vi s.L, vi s.F, tv, pv, .slice adg s.sg.length cpg] 26 (0, 0))]) (fun j => s.sg.length - j) ?_ ?_
   · exact tk_start 0 ⟨Nat.zero_le _, fun i hi => absurd hi (Nat.not_lt_zero i)⟩ (.cons rfl (.cons rfl (.cons rfl (.cons rfl (.cons rfl .nil))))) (fun _ h => h.subl SB.s SB.s)
   · rintro j ⟨hj, hall⟩
     all_goals refine tc_seq fun K4 hK4 => ?_; refine tc_seq fun K5 hK5 => ?_; refine tc_region ?_; refine tl_q (y_move rfl) rfl ?_; refine tl_q (y_field rfl) rfl ?_; refine tl_q (y_load1 rfl (by repeat constructor) (by rfl)) rfl ?_; refine tl_q (y_len rfl) rfl ?_; refine tl_q (y_lss rfl rfl) rfl ?_; refine tl_nil ?_; ((refine hK5 ?_; try (clear hK5; clear K5)))
     all_goals (
      refine tc_cond rfl (fun hc => ?_) (fun hc => ?_)
      · try simp only [qn1, qn2, qn3, qn4, qn5, qn6, qn7, qn8] at hc
        all_goals refine tc_skip ?_; ((refine hK4 ?_; try (clear hK4; clear K4)))
        all_goals refine tc_seq fun K6 hK6 => ?_; refine tc_block ?_; refine tc_seq fun K7 hK7 => ?_; refine tc_region ?_; refine tl_q (y_field rfl) rfl ?_; refine tl_q (y_load1 rfl (by repeat constructor) (by rfl)) rfl ?_; refine tl_q (y_move rfl) rfl ?_; refine tl_q (y_index rfl rfl (by omega) (hadg (by omega))) rfl ?_; ((refine tl_q (y_loadNo (n := 3) (vs := [vi (s.sg.getD j sgt0).b, vi (s.sg.getD j sgt0).h, .bool (s.sg.getD j sgt0).wh]) rfl (fun w' hw' => by rw [show Int.toNat (j : Int) * 3 = j * 3 from by omega]; exact hcg w' [] (hw'.fr (w0 := w) (S := []) MI.m) (by simp) j (by omega))) rfl ?_))
        all_goals refine tl_e (e_allocN rfl) rfl (fun b10 _ => ?_); refine tl_e (e_storeW rfl rfl (by repeat constructor) (by rfl) (by rfl) (by simp [Value.oneCell'])) rfl (fun _ _ => ?_); refine tl_nil ?_; ((refine hK7 ?_; try (clear hK7; clear K7)))
        all_goals refine tc_seq fun K8 hK8 => ?_; refine tc_region ?_; refine tl_q (y_field rfl) rfl ?_; refine tl_q (y_load1 rfl (by repeat constructor) (by rfl)) rfl ?_; refine tl_q (y_move rfl) rfl ?_; refine tl_q (y_eql rfl rfl) rfl ?_; refine tl_q (y_move rfl) rfl ?_; ((refine tl_gs rfl rfl (fun hc => ?_) (fun hc => ?_) <;> (try simp only [qn1, qn2, qn3, qn4, qn5, qn6, qn7, qn8] at hc) <;> (first | refine tl_sk rfl rfl rfl rfl ?_ | refine tl_qg rfl rfl (y_field rfl) rfl ?_)))
        all_goals (first | refine tl_sk rfl rfl rfl rfl ?_ | refine tl_qg rfl rfl (y_load1 rfl (by repeat constructor) (by rfl)) rfl ?_); (first | refine tl_sk rfl rfl rfl rfl ?_ | refine tl_qg rfl rfl (y_move rfl) rfl ?_); (first | refine tl_sk rfl rfl rfl rfl ?_ | refine tl_qg rfl rfl (y_eql rfl rfl) rfl ?_); (first | refine tl_q (y_pick_t rfl rfl) rfl ?_ | refine tl_q (y_pick_f rfl rfl) rfl ?_); refine tl_q (y_move rfl) rfl ?_; ((first | refine tl_sk rfl rfl rfl rfl ?_ | (refine tl_gs rfl rfl (fun hc => ?_) (fun hc => ?_) <;> (try simp only [qn1, qn2, qn3, qn4, qn5, qn6, qn7, qn8] at hc) <;> (first | refine tl_sk rfl rfl rfl rfl ?_ | refine tl_qg rfl rfl (y_field rfl) rfl ?_))))
        all_goals (first | refine tl_sk rfl rfl rfl rfl ?_ | refine tl_qg rfl rfl (y_load1 rfl (by repeat constructor) (by rfl)) rfl ?_); (first | refine tl_sk rfl rfl rfl rfl ?_ | refine tl_qg rfl rfl (y_move rfl) rfl ?_); (first | refine tl_sk rfl rfl rfl rfl ?_ | refine tl_qg rfl rfl (y_eqlb rfl rfl) rfl ?_); (first | refine tl_q (y_pick_t rfl rfl) rfl ?_ | refine tl_q (y_pick_f rfl rfl) rfl ?_); refine tl_nil ?_; ((refine hK8 ?_; try (clear hK8; clear K8)))
        all_goals (
         refine tc_cond rfl (fun hc => ?_) (fun hc => ?_)
         · all_goals ((first | (exfalso; with_reducible exact bft hc) | skip))
           all_goals refine tc_seq fun K9 hK9 => ?_; refine tc_region ?_; refine tl_q (y_assign rfl) rfl ?_; refine tl_nil ?_; ((refine hK9 ?_; try (clear hK9; clear K9)))
           all_goals refine tc_ret ?_; (repeat (first | refine tk_then_ret ?_ | refine tk_block_ret ?_))
           all_goals (refine tk_ret rfl rfl (.cons (.tmp rfl) .nil) ?_)
           all_goals (
            first
            | (have hE : seenB s b h x = true := all_upto (by omega) hall
               rw [hE]
               exact fun w' hw' => ⟨rfl, hw'.fr (w0 := w) (S := []) MI.m⟩)
            | (have hE : seenB s b h x = false := all_not (p := sgB b h x) (d := sgt0) (n := j) (by omega) (fun g => by unfold sgB at g; simp_all)
               rw [hE]
               exact fun w' hw' => ⟨rfl, hw'.fr (w0 := w) (S := []) MI.m⟩))
         · try simp only [qn1, qn2, qn3, qn4, qn5, qn6, qn7, qn8] at hc
           all_goals refine tc_skip ?_; ((refine hK6 ?_; try (clear hK6; clear K6)))
           all_goals refine tc_region ?_; refine tl_q (y_move rfl) rfl ?_; refine tl_q (y_add rfl rfl (by omega)) rfl ?_; refine tl_q (y_assign rfl) rfl ?_; refine tl_nil ?_
           all_goals (
            exact tk_round (j + 1) ⟨by omega, fun i hi => by
              rcases Nat.lt_succ_iff_lt_or_eq.1 hi with g | rfl
              · exact hall i g
              · cases hq : sgB b h x (s.sg.getD i sgt0) with
                | true => rfl
                | false => exfalso; have hq2 := sgB_no hq; simp_all⟩ (by omega) (.cons rfl (.cons rfl (.cons rfl (.cons rfl (.cons rfl .nil))))) (fun _ h => h.subl SB.s SB.s)))
      · try simp only [qn1, qn2, qn3, qn4, qn5, qn6, qn7, qn8] at hc
        all_goals refine tc_exit ?_; ((refine hK2 ?_; try (clear hK2; clear K2)))
        all_goals refine tc_seq fun K10 hK10 => ?_; refine tc_region ?_; refine tl_q (y_assign rfl) rfl ?_; refine tl_nil ?_; ((refine hK10 ?_; try (clear hK10; clear K10)))
        all_goals refine tc_ret ?_; (repeat (first | refine tk_then_ret ?_))
        all_goals (refine tk_ret rfl rfl (.cons (.tmp rfl) .nil) ?_)
        all_goals (
         first
         | (have hE : seenB s b h x = true := all_upto (by omega) hall
            rw [hE]
            exact fun w' hw' => ⟨rfl, hw'.fr (w0 := w) (S := []) MI.m⟩)
         | (have hE : seenB s b h x = false := all_not (p := sgB b h x) (d := sgt0) (n := j) (by omega) (fun g => by unfold sgB at g; simp_all)
            rw [hE]
            exact fun w' hw' => ⟨rfl, hw'.fr (w0 := w) (S := []) MI.m⟩))))
def nthS (ps : List Pas) (n : Int) : Nat → List Int × Int
  | 0 => ([], n)
  | i + 1 => ((nthS ps n i).1 ++ [(ps.getD i pas0).lo + (nthS ps n i).2 % ((ps.getD i pas0).hi - (ps.getD i pas0).lo + 1)], (nthS ps n i).2 / ((ps.getD i pas0).hi - (ps.getD i pas0).lo + 1))
def nthL (s : Smp) (n : Int) : List Int := (nthS s.ps n s.ps.length).1
theorem nthS_len (ps : List Pas) (n : Int) : ∀ i, (nthS ps n i).1.length = i
  | 0 => rfl
  | i + 1 => by rw [nthS, List.length_append, nthS_len ps n i]; rfl
theorem nthS_bd {ps : List Pas} {n : Int} (h0 : 0 ≤ n) (hp : ∀ i, i < ps.length → (ps.getD i pas0).lo ≤ (ps.getD i pas0).hi) : ∀ i, i ≤ ps.length → 0 ≤ (nthS ps n i).2 ∧ (nthS ps n i).2 ≤ n
  | 0, _ => ⟨h0, Int.le_refl _⟩
  | i + 1, hi => by
    have ih := nthS_bd h0 hp i (by omega)
    have := hp i (by omega)
    rw [nthS]
    refine ⟨Int.ediv_nonneg ih.1 (by omega), ?_⟩
    exact Int.le_trans (Int.ediv_le_self _ ih.1) ih.2
theorem nth_c (s : Smp) (hv : VSm s) (n : Int) (hn : 0 ≤ n ∧ n ≤ 1000) (tv pv gv : Value) (w : World) (hr : RdSm w s tv pv gv) :
    CnX Tryz.prog 60 #[smV s tv pv gv, vi n] w [] (fun y : Option Addr × Nat => slV (nthL s n).length y) (fun y w' => RdI w' (slV (nthL s n).length y) (nthL s n)) := by
  have hn6 := hv.n6
  have hl9 := hv.l9
  obtain ⟨adp, cpp, bp, op, rfl, hadp, hcp⟩ := hr.ps.open psE_len pas0
  have hpv : ∀ i, i < s.ps.length → 0 ≤ (s.ps.getD i pas0).lo ∧ (s.ps.getD i pas0).lo ≤ (s.ps.getD i pas0).hi ∧ (s.ps.getD i pas0).hi ≤ s.L := fun i hi => (hv.ps _ (getD_memG hi)).2.2.2.2
  refine cnx0 (vs := [_, _]) Tryz.func60 rfl rfl ?_
  all_goals refine tc_seq fun K1 hK1 => ?_; refine tc_region ?_; refine tl_e (e_box rfl rfl rfl) rfl (fun b2 _ => ?_); refine tl_q (y_assign rfl) rfl ?_; refine tl_nil ?_; ((refine hK1 ?_; try (clear hK1; clear K1)))
  all_goals refine tc_seq fun K2 hK2 => ?_; refine tc_region ?_; refine tl_q (y_assign rfl) rfl ?_; refine tl_nil ?_; ((refine hK2 ?_; try (clear hK2; clear K2)))
  all_goals refine tc_seq fun K3 hK3 => ?_; refine tc_seq fun K4 hK4 => ?_; refine tc_region ?_; refine tl_q (y_assign rfl) rfl ?_; refine tl_nil ?_; ((refine hK4 ?_; try (clear hK4; clear K4)))
  all_goals refine tc_block ?_
  all_goals (
   refine tc_loop (fun p : Nat × OwnB => p.1 ≤ s.ps.length ∧ okE 1 (nthS s.ps n p.1).1 p.2) (fun p => [(1, vi (nthS s.ps n p.1).2), (2, ptr b2), (5, ouV (nthS s.ps n p.1).1.length p.2), (6, vi p.1)]) (fun _ => [(w, [])]) (fun p => (b2, .cells #[vi s.B, vi s.P, vi s.L, vi s.F, tv, .slice adp s.ps.length cpp, gv] 26 (0, 0)) :: slE 3 inE (nthS s.ps n p.1).1 p.2) (fun p => s.ps.length - p.1) ?_ ?_
   · exact tk_start (0, none) ⟨Nat.zero_le _, rfl⟩ (.cons rfl (.cons rfl (.cons rfl (.cons rfl .nil)))) (fun _ h => by rw [slE_none]; exact h.subl SB.s SB.s)
   · rintro ⟨i, oo⟩ ⟨hi, hok⟩
     dsimp only at hi hok ⊢
     have hil := nthS_len s.ps n i
     have hib := nthS_bd hn.1 (fun i hi => (hpv i hi).2.1) i hi
     all_goals refine tc_seq fun K5 hK5 => ?_; refine tc_seq fun K6 hK6 => ?_; refine tc_region ?_; refine tl_q (y_move rfl) rfl ?_; refine tl_q (y_field rfl) rfl ?_; refine tl_q (y_load1 rfl (by repeat constructor) (by rfl)) rfl ?_; refine tl_q (y_len rfl) rfl ?_; refine tl_q (y_lss rfl rfl) rfl ?_; refine tl_nil ?_; ((refine hK6 ?_; try (clear hK6; clear K6)))
     all_goals (
      refine tc_cond rfl (fun hc => ?_) (fun hc => ?_)
      · try simp only [qn1, qn2, qn3, qn4, qn5, qn6, qn7, qn8] at hc
        all_goals refine tc_skip ?_; ((refine hK5 ?_; try (clear hK5; clear K5)))
        all_goals refine tc_seq fun K7 hK7 => ?_; refine tc_block ?_; refine tc_seq fun K8 hK8 => ?_; refine tc_region ?_; refine tl_q (y_field rfl) rfl ?_; refine tl_q (y_load1 rfl (by repeat constructor) (by rfl)) rfl ?_; refine tl_q (y_move rfl) rfl ?_; refine tl_q (y_index rfl rfl (by omega) (hadp (by omega))) rfl ?_; refine tl_q (y_field rfl) rfl ?_; ((refine tl_q (y_loadNo (n := 2) (vs := [vi (s.ps.getD i pas0).lo, vi (s.ps.getD i pas0).hi]) rfl (fun w' hw' => by rw [show Int.toNat (i : Int) * 5 = i * 5 from by omega]; exact (hcp w' [] (hw'.fr (w0 := w) (S := []) MI.m) (by simp) i (by omega)).sub (n := 5) rfl 3 2 (by omega))) rfl ?_))
        all_goals refine tl_e (e_allocN rfl) rfl (fun b7 _ => ?_); refine tl_e (e_storeW rfl rfl (by repeat constructor) (by rfl) (by rfl) (by simp [Value.oneCell'])) rfl (fun _ _ => ?_); refine tl_nil ?_; ((refine hK8 ?_; try (clear hK8; clear K8)))
        all_goals refine tc_seq fun K9 hK9 => ?_; ((have hpi := hpv i (by omega); have hmod := Int.emod_nonneg (nthS s.ps n i).2 (show (s.ps.getD i pas0).hi - (s.ps.getD i pas0).lo + 1 ≠ 0 by omega); have hmod2 := Int.emod_lt_of_pos (nthS s.ps n i).2 (show 0 < (s.ps.getD i pas0).hi - (s.ps.getD i pas0).lo + 1 by omega)))
        all_goals refine tc_region ?_; refine tl_q (y_field rfl) rfl ?_; refine tl_q (y_load1 rfl (by repeat constructor) (by rfl)) rfl ?_; refine tl_q (y_field rfl) rfl ?_; refine tl_q (y_load1 rfl (by repeat constructor) (by rfl)) rfl ?_; refine tl_q (y_sub rfl rfl (by omega)) rfl ?_; refine tl_q (y_add rfl rfl (by omega)) rfl ?_; refine tl_q (y_assign rfl) rfl ?_; refine tl_nil ?_; ((refine hK9 ?_; try (clear hK9; clear K9)))
        all_goals refine tc_drawS ([(b7, .cells #[vi (s.ps.getD i pas0).lo, vi (s.ps.getD i pas0).hi] 75 (0, 0)), (b2, .cells #[vi s.B, vi s.P, vi s.L, vi s.F, tv, .slice adp s.ps.length cpp, gv] 26 (0, 0))]) (by kernel_rfl) ?_; refine tx_p 0 rfl (by kernel_rfl) (y_move rfl) rfl (fun _ _ _ h => h) (fun _ h => h.subl SB.s SB.s) ?_; refine tx_p 1 rfl (by kernel_rfl) (y_field rfl) rfl (fun _ _ _ h => h) (fun _ h => h.subl SB.s SB.s) ?_; refine tx_qS 2 rfl (by kernel_rfl) (y_load1 rfl (by repeat constructor) (by rfl)) rfl (fun _ _ _ h => h) (fun _ h => h.subl SB.s SB.s) ?_; refine tx_p 3 rfl (by kernel_rfl) (y_move rfl) rfl (fun _ _ _ h => h) (fun _ h => h.subl SB.s SB.s) ?_; refine tx_p 4 rfl (by kernel_rfl) (y_move rfl) rfl (fun _ _ _ h => h) (fun _ h => h.subl SB.s SB.s) ?_; refine tx_p 5 rfl (by kernel_rfl) (y_rem rfl rfl (by omega) (by omega)) rfl (fun _ _ _ h => h) (fun _ h => h.subl SB.s SB.s) ?_; refine tx_p 6 rfl (by kernel_rfl) (y_add rfl rfl (by omega)) rfl (fun _ _ _ h => h) (fun _ h => h.subl SB.s SB.s) ?_; refine tx_p 9 rfl (by kernel_rfl) (y_move rfl) rfl (fun _ _ _ h => h) (fun _ h => h.subl SB.s SB.s) ?_; refine tx_p 10 rfl (by kernel_rfl) (y_move rfl) rfl (fun _ _ _ h => h) (fun _ h => h.subl SB.s SB.s) ?_; refine tx_p 11 rfl (by kernel_rfl) (y_quo rfl rfl (by omega) (by omega)) rfl (fun _ _ _ h => h) (fun _ h => h.subl SB.s SB.s) ?_; (refine tx_single 7 (by kernel_rfl) (to_e rfl rfl (e_bslice rfl (by (repeat (first | exact .nil | apply PV.one rfl rfl)); done) rfl rfl) (.inr ⟨fun _ _ h => h.subl SB.s SB.s, fun _ h => h⟩) (fun _ _ => ?_)))
        all_goals (refine tx_single 8 (by kernel_rfl) (to_e rfl rfl (e_appendE (enc := inE) (xs := (nthS s.ps n i).1) (ys := [(s.ps.getD i pas0).lo + (nthS s.ps n i).2 % ((s.ps.getD i pas0).hi - (s.ps.getD i pas0).lo + 1)]) inE_len inE_one rfl rfl rfl hok (fun _ => by repeat constructor) (fun w' hw' => RdS.own0 inE_len hw' (by repeat constructor)) (by simp only [List.length_cons, List.length_nil]; omega) rfl) (.inr ⟨fun _ _ h => h.subl SB.s SB.s, fun _ h => h⟩) (fun oo' hok' => ?_)))
        all_goals refine tx_p 12 rfl (by kernel_rfl) (y_assign rfl) rfl (fun _ _ _ h => h) (fun _ h => h.subl SB.s SB.s) ?_; refine tx_p 13 rfl (by kernel_rfl) (y_assign rfl) rfl (fun _ _ _ h => h) (fun _ h => h.subl SB.s SB.s) ?_; refine tx_done (by kernel_rfl) ?_; ((refine hK7 ?_; try (clear hK7; clear K7)))
        all_goals refine tc_region ?_; refine tl_q (y_move rfl) rfl ?_; refine tl_q (y_add rfl rfl (by omega)) rfl ?_; refine tl_q (y_assign rfl) rfl ?_; refine tl_nil ?_
        all_goals (
         exact tk_round (i + 1, oo') ⟨by dsimp only; omega, hok'⟩ (by dsimp only; omega) (.cons rfl (.cons rfl (.cons rfl (.cons rfl .nil)))) (fun _ h => h.subl SB.s SB.s))
      · try simp only [qn1, qn2, qn3, qn4, qn5, qn6, qn7, qn8] at hc
        all_goals refine tc_exit ?_; ((refine hK3 ?_; try (clear hK3; clear K3)))
        all_goals refine tc_seq fun K10 hK10 => ?_; refine tc_region ?_; refine tl_q (y_move rfl) rfl ?_; refine tl_q (y_assign rfl) rfl ?_; refine tl_nil ?_; ((refine hK10 ?_; try (clear hK10; clear K10)))
        all_goals refine tc_ret ?_; (repeat (first | refine tk_then_ret ?_))
        all_goals (refine tk_ret rfl rfl (.cons (.tmp rfl) .nil) ?_)
        all_goals (
         obtain rfl : i = s.ps.length := by omega
         refine fun w' hw' => ?_
         exact ⟨ouA oo, rfl, hw'.fr (w0 := w) (S := []) MI.m, (RdS.ofO inE_len hok hw' (by repeat constructor)).toI⟩)))
def heldF (s : Smp) (b : Int) (ts : List Int) : Option (List Int) := (chN s b ts (s.L + 1).toNat).map Prod.fst
theorem heldN_c (s : Smp) (hv : VSm s) (b : Int) (ts : List Int) (hts : ts.length = s.ps.length) (tv pv gv hv' : Value) (w : World) (hr : RdSm w s tv pv gv) (hh : RdI w hv' ts) :
    CnX Tryz.prog 59 #[smV s tv pv gv, vi b, hv'] w [] (fun y : Option Addr × Nat => .tuple #[slV ((heldF s b ts).getD []).length y, .bool (heldF s b ts).isSome]) (fun y w' => RdI w' (slV ((heldF s b ts).getD []).length y) ((heldF s b ts).getD []) ∧ NewS w (slV ((heldF s b ts).getD []).length y)) := by
  have hl0 := hv.l0
  have hl9 := hv.l9
  have hn6 := hv.n6
  obtain ⟨adp, cpp, bp, op, rfl, hadp, hcp⟩ := hr.ps.open psE_len pas0
  obtain ⟨adh, cph, bh, oh, rfl, hadh, hch⟩ := hh.open
  refine cnx0 (vs := [_, _, _]) Tryz.func59 rfl rfl ?_
  all_goals refine tc_seq fun K1 hK1 => ?_; refine tc_region ?_; refine tl_e (e_box rfl rfl rfl) rfl (fun b3 _ => ?_); refine tl_q (y_assign rfl) rfl ?_; refine tl_q (y_assign rfl) rfl ?_; refine tl_nil ?_; ((refine hK1 ?_; try (clear hK1; clear K1)))
  all_goals refine tc_seq fun K2 hK2 => ?_; refine tc_region ?_; refine tl_q (y_assign rfl) rfl ?_; refine tl_nil ?_; ((refine hK2 ?_; try (clear hK2; clear K2)))
  all_goals refine tc_seq fun K3 hK3 => ?_; refine tc_region ?_; refine tl_q (y_field rfl) rfl ?_; refine tl_q (y_load1 rfl (by repeat constructor) (by rfl)) rfl ?_; refine tl_q (y_assign rfl) rfl ?_; refine tl_nil ?_; ((refine hK3 ?_; try (clear hK3; clear K3)))
  all_goals refine tc_seq fun K4 hK4 => ?_; refine tc_seq fun K5 hK5 => ?_; refine tc_region ?_; refine tl_q (y_assign rfl) rfl ?_; refine tl_nil ?_; ((refine hK5 ?_; try (clear hK5; clear K5)))
  all_goals refine tc_block ?_
  all_goals (
   refine tc_loop (fun p : Nat × (List Int × Int) × OwnB => (p.1 : Int) ≤ s.L + 1 ∧ chN s b ts p.1 = some p.2.1 ∧ okE 1 p.2.1.1 p.2.2) (fun p => [(1, vi b), (2, .slice adh ts.length cph), (3, ptr b3), (8, ouV p.2.1.1.length p.2.2), (9, vi p.2.1.2), (10, vi p.1)]) (fun _ => [(w, [])]) (fun p => (b3, .cells #[vi s.B, vi s.P, vi s.L, vi s.F, tv, .slice adp s.ps.length cpp, gv] 26 (0, 0)) :: slE 3 inE p.2.1.1 p.2.2) (fun p => (s.L + 1).toNat - p.1) ?_ ?_
   · exact tk_start (0, ([], s.F), none) ⟨by dsimp only; omega, rfl, rfl⟩ (.cons rfl (.cons rfl (.cons rfl (.cons rfl (.cons rfl (.cons rfl .nil)))))) (fun _ h => by rw [slE_none]; exact h.subl SB.s SB.s)
   · rintro ⟨h, ⟨c, a⟩, oo⟩ ⟨hh2, hcn, hok⟩
     dsimp only at hh2 hcn hok ⊢
     have hcl := chN_len hcn
     dsimp only at hcl
     all_goals refine tc_seq fun K6 hK6 => ?_; refine tc_seq fun K7 hK7 => ?_; refine tc_region ?_; refine tl_q (y_move rfl) rfl ?_; refine tl_q (y_field rfl) rfl ?_; refine tl_q (y_load1 rfl (by repeat constructor) (by rfl)) rfl ?_; refine tl_q (y_leq rfl rfl) rfl ?_; refine tl_nil ?_; ((refine hK7 ?_; try (clear hK7; clear K7)))
     all_goals (
      refine tc_cond rfl (fun hc => ?_) (fun hc => ?_)
      · try simp only [qn1, qn2, qn3, qn4, qn5, qn6, qn7, qn8] at hc
        all_goals refine tc_skip ?_; ((refine hK6 ?_; try (clear hK6; clear K6)))
        all_goals refine tc_seq fun K8 hK8 => ?_; refine tc_block ?_; refine tc_seq fun K9 hK9 => ?_; refine tc_seq fun K10 hK10 => ?_; refine tc_region ?_; refine tl_q (y_assign rfl) rfl ?_; refine tl_nil ?_; ((refine hK10 ?_; try (clear hK10; clear K10)))
        all_goals refine tc_block ?_
        all_goals (
         refine tc_loop (fun p : Nat × Int => p.1 ≤ s.ps.length ∧ pasN s b ts h a p.1 = some p.2) (fun p => [(1, vi b), (2, .slice adh ts.length cph), (3, ptr b3), (8, ouV c.length oo), (9, vi p.2), (10, vi h), (11, vi p.1)]) (fun _ => [(w, [])]) (fun p => (b3, .cells #[vi s.B, vi s.P, vi s.L, vi s.F, tv, .slice adp s.ps.length cpp, gv] 26 (0, 0)) :: slE 3 inE c oo) (fun p => s.ps.length - p.1) ?_ ?_
         · exact tk_start (0, a) ⟨Nat.zero_le _, rfl⟩ (.cons rfl (.cons rfl (.cons rfl (.cons rfl (.cons rfl (.cons rfl (.cons rfl .nil))))))) (fun _ h => h.subl SB.s SB.s)
         · rintro ⟨n, a1⟩ ⟨hn, hpn⟩
           dsimp only at hn hpn ⊢
           all_goals refine tc_seq fun K11 hK11 => ?_; refine tc_seq fun K12 hK12 => ?_; refine tc_region ?_; refine tl_q (y_move rfl) rfl ?_; refine tl_q (y_move rfl) rfl ?_; refine tl_q (y_len rfl) rfl ?_; refine tl_q (y_lss rfl rfl) rfl ?_; refine tl_nil ?_; ((refine hK12 ?_; try (clear hK12; clear K12)))
           all_goals (
            refine tc_cond rfl (fun hc => ?_) (fun hc => ?_)
            · try simp only [qn1, qn2, qn3, qn4, qn5, qn6, qn7, qn8] at hc
              all_goals refine tc_skip ?_; ((refine hK11 ?_; try (clear hK11; clear K11)))
              all_goals refine tc_seq fun K13 hK13 => ?_; refine tc_block ?_; refine tc_seq fun K14 hK14 => ?_; refine tc_region ?_; refine tl_q (y_field rfl) rfl ?_; refine tl_q (y_load1 rfl (by repeat constructor) (by rfl)) rfl ?_; refine tl_q (y_move rfl) rfl ?_; refine tl_q (y_index rfl rfl (by omega) (hadp (by omega))) rfl ?_; ((refine tl_q (y_loadNo (n := 5) (vs := [vi (s.ps.getD n pas0).b, vi (s.ps.getD n pas0).fr, vi (s.ps.getD n pas0).to, vi (s.ps.getD n pas0).lo, vi (s.ps.getD n pas0).hi]) rfl (fun w' hw' => by rw [show Int.toNat (n : Int) * 5 = n * 5 from by omega]; exact hcp w' [] (hw'.fr (w0 := w) (S := []) MI.m) (by simp) n (by omega))) rfl ?_))
              all_goals refine tl_e (e_allocN rfl) rfl (fun b12 _ => ?_); refine tl_e (e_storeW rfl rfl (by repeat constructor) (by rfl) (by rfl) (by simp [Value.oneCell'])) rfl (fun _ _ => ?_); refine tl_nil ?_; ((refine hK14 ?_; try (clear hK14; clear K14)))
              all_goals refine tc_seq fun K15 hK15 => ?_; refine tc_region ?_; refine tl_q (y_field rfl) rfl ?_; refine tl_q (y_load1 rfl (by repeat constructor) (by rfl)) rfl ?_; refine tl_q (y_move rfl) rfl ?_; refine tl_q (y_eql rfl rfl) rfl ?_; refine tl_q (y_move rfl) rfl ?_; ((refine tl_gs rfl rfl (fun hc => ?_) (fun hc => ?_) <;> (try simp only [qn1, qn2, qn3, qn4, qn5, qn6, qn7, qn8] at hc) <;> (first | refine tl_sk rfl rfl rfl rfl ?_ | refine tl_qg rfl rfl (y_move rfl) rfl ?_)))
              all_goals (first | refine tl_sk rfl rfl rfl rfl ?_ | refine tl_qg rfl rfl (y_move rfl) rfl ?_); (first | refine tl_sk rfl rfl rfl rfl ?_ | refine tl_qg rfl rfl (y_index rfl rfl (by omega) (hadh (by omega))) rfl ?_); ((first | refine tl_sk rfl rfl rfl rfl ?_ | refine tl_qg rfl rfl (y_load1o (v := vi (ts.getD n 0)) rfl (fun w' hw' => by rw [show Int.toNat (n : Int) * 1 = n from by omega]; exact hch w' (hw'.fr (w0 := w) (S := []) MI.m) n (by omega))) rfl ?_))
              all_goals (first | refine tl_sk rfl rfl rfl rfl ?_ | refine tl_qg rfl rfl (y_move rfl) rfl ?_); (first | refine tl_sk rfl rfl rfl rfl ?_ | refine tl_qg rfl rfl (y_eql rfl rfl) rfl ?_); (first | refine tl_q (y_pick_t rfl rfl) rfl ?_ | refine tl_q (y_pick_f rfl rfl) rfl ?_); refine tl_nil ?_; ((refine hK15 ?_; try (clear hK15; clear K15)))
              all_goals (
               refine tc_cond rfl (fun hc => ?_) (fun hc => ?_)
               · try simp only [qn1, qn2, qn3, qn4, qn5, qn6, qn7, qn8] at hc
                 all_goals ((first | (exfalso; with_reducible exact bft hc) | skip))
                 all_goals refine tc_seq fun K16 hK16 => ?_; refine tc_seq fun K17 hK17 => ?_; refine tc_region ?_; refine tl_q (y_field rfl) rfl ?_; refine tl_q (y_load1 rfl (by repeat constructor) (by rfl)) rfl ?_; refine tl_q (y_move rfl) rfl ?_; refine tl_q (y_neq rfl rfl) rfl ?_; refine tl_nil ?_; ((refine hK17 ?_; try (clear hK17; clear K17)))
                 all_goals (
                  refine tc_cond rfl (fun hc => ?_) (fun hc => ?_)
                  · try simp only [qn1, qn2, qn3, qn4, qn5, qn6, qn7, qn8] at hc
                    all_goals refine tc_seq fun K18 hK18 => ?_; refine tc_region ?_; refine tl_q (y_assign rfl) rfl ?_; refine tl_q (y_assign rfl) rfl ?_; refine tl_nil ?_; ((refine hK18 ?_; try (clear hK18; clear K18)))
                    all_goals refine tc_ret ?_; (repeat (first | refine tk_then_ret ?_ | refine tk_block_ret ?_))
                    all_goals (refine tk_ret rfl rfl (.cons (.tmp rfl) (.cons (.tmp rfl) .nil)) ?_)
                    all_goals (
                     first
                     | (have hs : pasN s b ts h a (n + 1) = none := by rw [pasN, hpn]; simp only; rw [if_pos (by omega), if_neg (by omega)]
                        have hs2 : chN s b ts (h + 1) = none := by rw [chN, hcn]; simp only; rw [pasN_none hs _ (by omega)]
                        have hs3 : heldF s b ts = none := by unfold heldF; rw [chN_none hs2 _ (by omega)]; rfl
                        rw [hs3]
                        exact fun w' hw' => ⟨(none, 0), rfl, hw'.fr (w0 := w) (S := []) MI.m, RdI.nil _, NewS.nil _ _ _⟩)
                     | (obtain rfl : h = (s.L + 1).toNat := by omega
                        have hs3 : heldF s b ts = some c := by unfold heldF; rw [hcn]; rfl
                        rw [hs3]
                        exact fun w' hw' => ⟨ouA oo, rfl, hw'.fr (w0 := w) (S := []) MI.m, (RdS.ofO inE_len hok hw' (by repeat constructor)).toI, NewS.ofO hw' (by repeat constructor) MI.m⟩))
                  · try simp only [qn1, qn2, qn3, qn4, qn5, qn6, qn7, qn8] at hc
                    all_goals refine tc_skip ?_; ((refine hK16 ?_; try (clear hK16; clear K16)))
                    all_goals refine tc_region ?_; refine tl_q (y_field rfl) rfl ?_; refine tl_q (y_load1 rfl (by repeat constructor) (by rfl)) rfl ?_; refine tl_q (y_assign rfl) rfl ?_; refine tl_nil ?_; ((refine hK13 ?_; try (clear hK13; clear K13)))
                    all_goals refine tc_region ?_; refine tl_q (y_move rfl) rfl ?_; refine tl_q (y_add rfl rfl (by omega)) rfl ?_; refine tl_q (y_assign rfl) rfl ?_; refine tl_nil ?_
                    all_goals (
                     first
                     | (have hs : pasN s b ts h a (n + 1) = some (s.ps.getD n pas0).to := by rw [pasN, hpn]; simp only; rw [if_pos (by omega), if_pos (by omega)]
                        exact tk_round (n + 1, (s.ps.getD n pas0).to) ⟨by dsimp only; omega, hs⟩ (by dsimp only; omega) (.cons rfl (.cons rfl (.cons rfl (.cons rfl (.cons rfl (.cons rfl (.cons rfl .nil))))))) (fun _ h => h.subl SB.s SB.s))
                     | (have hs : pasN s b ts h a (n + 1) = some a1 := by rw [pasN, hpn]; simp only; rw [if_neg (by omega)]
                        exact tk_round (n + 1, a1) ⟨by dsimp only; omega, hs⟩ (by dsimp only; omega) (.cons rfl (.cons rfl (.cons rfl (.cons rfl (.cons rfl (.cons rfl (.cons rfl .nil))))))) (fun _ h => h.subl SB.s SB.s))))
               · try simp only [qn1, qn2, qn3, qn4, qn5, qn6, qn7, qn8] at hc
                 all_goals refine tc_skip ?_; ((refine hK13 ?_; try (clear hK13; clear K13)))
                 all_goals refine tc_region ?_; refine tl_q (y_move rfl) rfl ?_; refine tl_q (y_add rfl rfl (by omega)) rfl ?_; refine tl_q (y_assign rfl) rfl ?_; refine tl_nil ?_
                 all_goals (
                  first
                  | (have hs : pasN s b ts h a (n + 1) = some (s.ps.getD n pas0).to := by rw [pasN, hpn]; simp only; rw [if_pos (by omega), if_pos (by omega)]
                     exact tk_round (n + 1, (s.ps.getD n pas0).to) ⟨by dsimp only; omega, hs⟩ (by dsimp only; omega) (.cons rfl (.cons rfl (.cons rfl (.cons rfl (.cons rfl (.cons rfl (.cons rfl .nil))))))) (fun _ h => h.subl SB.s SB.s))
                  | (have hs : pasN s b ts h a (n + 1) = some a1 := by rw [pasN, hpn]; simp only; rw [if_neg (by omega)]
                     exact tk_round (n + 1, a1) ⟨by dsimp only; omega, hs⟩ (by dsimp only; omega) (.cons rfl (.cons rfl (.cons rfl (.cons rfl (.cons rfl (.cons rfl (.cons rfl .nil))))))) (fun _ h => h.subl SB.s SB.s))))
            · try simp only [qn1, qn2, qn3, qn4, qn5, qn6, qn7, qn8] at hc
              all_goals refine tc_exit ?_; ((refine hK9 ?_; try (clear hK9; clear K9)))
              all_goals refine tc_region ?_; refine tl_q (y_move rfl) rfl ?_; refine tl_q (y_move rfl) rfl ?_; (refine tl_e (e_bslice rfl (by (repeat (first | exact .nil | apply PV.one rfl rfl)); done) rfl rfl) rfl (fun _ _ => ?_))
              all_goals (refine tl_e (e_appendE (enc := inE) (xs := c) (ys := [a1]) inE_len inE_one rfl rfl rfl hok (fun _ => by repeat constructor) (fun w' hw' => RdS.own0 inE_len hw' (by repeat constructor)) (by simp only [List.length_cons, List.length_nil]; omega) rfl) rfl (fun oo' hok' => ?_))
              all_goals refine tl_q (y_assign rfl) rfl ?_; refine tl_nil ?_; ((refine hK8 ?_; try (clear hK8; clear K8)))
              all_goals refine tc_region ?_; refine tl_q (y_move rfl) rfl ?_; refine tl_q (y_add rfl rfl (by omega)) rfl ?_; refine tl_q (y_assign rfl) rfl ?_; refine tl_nil ?_
              all_goals (
               obtain rfl : n = s.ps.length := by omega
               have hs : chN s b ts (h + 1) = some (c ++ [a1], a1) := by rw [chN, hcn]; simp only; rw [hpn]
               exact tk_round (h + 1, (c ++ [a1], a1), oo') ⟨by dsimp only; omega, hs, hok'⟩ (by dsimp only; omega) (.cons rfl (.cons rfl (.cons rfl (.cons rfl (.cons rfl (.cons rfl .nil)))))) (fun _ h => h.subl SB.s SB.s))))
      · try simp only [qn1, qn2, qn3, qn4, qn5, qn6, qn7, qn8] at hc
        all_goals refine tc_exit ?_; ((refine hK4 ?_; try (clear hK4; clear K4)))
        all_goals refine tc_seq fun K19 hK19 => ?_; refine tc_region ?_; refine tl_q (y_move rfl) rfl ?_; refine tl_q (y_assign rfl) rfl ?_; refine tl_q (y_assign rfl) rfl ?_; refine tl_nil ?_; ((refine hK19 ?_; try (clear hK19; clear K19)))
        all_goals refine tc_ret ?_; (repeat (first | refine tk_then_ret ?_))
        all_goals (refine tk_ret rfl rfl (.cons (.tmp rfl) (.cons (.tmp rfl) .nil)) ?_)
        all_goals (
         first
         | (have hs : pasN s b ts h a (n + 1) = none := by rw [pasN, hpn]; simp only; rw [if_pos (by omega), if_neg (by omega)]
            have hs2 : chN s b ts (h + 1) = none := by rw [chN, hcn]; simp only; rw [pasN_none hs _ (by omega)]
            have hs3 : heldF s b ts = none := by unfold heldF; rw [chN_none hs2 _ (by omega)]; rfl
            rw [hs3]
            exact fun w' hw' => ⟨(none, 0), rfl, hw'.fr (w0 := w) (S := []) MI.m, RdI.nil _, NewS.nil _ _ _⟩)
         | (obtain rfl : h = (s.L + 1).toNat := by omega
            have hs3 : heldF s b ts = some c := by unfold heldF; rw [hcn]; rfl
            rw [hs3]
            exact fun w' hw' => ⟨ouA oo, rfl, hw'.fr (w0 := w) (S := []) MI.m, (RdS.ofO inE_len hok hw' (by repeat constructor)).toI, NewS.ofO hw' (by repeat constructor) MI.m⟩))))
theorem held_c (s : Smp) (hv : VSm s) (b : Int) (ts : List Int) (hts : ts.length = s.ps.length) (tv pv gv hv' : Value) (w : World) (hr : RdSm w s tv pv gv) (hh : RdI w hv' ts) :
    CnX Tryz.prog 59 #[smV s tv pv gv, vi b, hv'] w [] (fun y : Option Addr × Nat => .tuple #[slV ((heldF s b ts).getD []).length y, .bool (heldF s b ts).isSome]) (fun y w' => RdI w' (slV ((heldF s b ts).getD []).length y) ((heldF s b ts).getD [])) :=
  (heldN_c s hv b ts hts tv pv gv hv' w hr hh).imp id (fun _ => rfl) (fun _ h => h) (fun _ _ _ h => h.1)
end Go.Sp
/-
  The reference of samples: whether a bottle in some hands has a way; whether a sample has a truth.
-/
namespace Go.Sp
open Go Go.Proofs
def pUp (s : Smp) (b : Int) (h : Nat) (c : List Int) (k : Bool) (acc : List Bool) (n : Nat) : List Bool := if actIs k (stB s c h) n = true ∧ seenB s b h (actY k n) = true then acc.set (actY k n).toNat true else acc
def pAct (s : Smp) (b : Int) (h : Nat) (c : List Int) (k : Bool) (acc : List Bool) : Nat → List Bool
  | 0 => acc
  | n + 1 => pUp s b h c k (pAct s b h c k acc n) n
def pBoth (s : Smp) (b : Int) (h : Nat) (c : List Int) (now : List Bool) : Nat → List Bool
  | 0 => [false, false]
  | k + 1 => if now.getD k false = true then pAct s b h c (blF k) (pBoth s b h c now k) 4 else pBoth s b h c now k
def pNow (s : Smp) (b : Int) (c : List Int) : Nat → List Bool
  | 0 => [true, false]
  | h + 1 => pBoth s b h c (pNow s b c h) 2
def passF (s : Smp) (b : Int) (c : List Int) : Bool := (pNow s b c (s.L + 1).toNat).getD 0 false || (pNow s b c (s.L + 1).toNat).getD 1 false
theorem pAct_len (s : Smp) (b : Int) (h : Nat) (c : List Int) (k : Bool) (acc : List Bool) : ∀ n, (pAct s b h c k acc n).length = acc.length
  | 0 => rfl
  | n + 1 => by
    rw [pAct, pUp]
    split
    · rw [List.length_set, pAct_len s b h c k acc n]
    · exact pAct_len s b h c k acc n
theorem pBoth_len (s : Smp) (b : Int) (h : Nat) (c : List Int) (now : List Bool) : ∀ n, (pBoth s b h c now n).length = 2
  | 0 => rfl
  | n + 1 => by
    rw [pBoth]
    split
    · rw [pAct_len, pBoth_len s b h c now n]
    · exact pBoth_len s b h c now n
theorem pNow_len (s : Smp) (b : Int) (c : List Int) : ∀ n, (pNow s b c n).length = 2
  | 0 => rfl
  | n + 1 => pBoth_len ..
theorem actedN_c {k n : Nat} (hn : n < 4) (st : Bool) (w : World) : CnV Tryz.prog 74 #[.bool (decide ((k : Int) = 1)), .bool st, vi n] w (.tuple #[.bool (actY (blF k) n), .bool (actIs (blF k) st n)]) := by
  have h := acted_c (decide ((k : Int) = 1)) st n w
  have e : decide ((k : Int) = 1) = blF k := by
    unfold blF
    rw [Bool.eq_iff_iff]; simp; omega
  rw [acY_nat _ hn, acIs_nat _ _ hn, e] at h
  rw [e]; exact h
set_option maxHeartbeats 2000000 in
theorem passes_c (s : Smp) (hf : Few s) (hv : VSm s) (b : Int) (c : List Int) (hcl : (c.length : Int) = s.L + 1) (hcb : ∀ i, i < c.length → 0 ≤ c.getD i 0 ∧ c.getD i 0 < s.P) (tv pv gv cv : Value) (w : World) (hr : RdSm w s tv pv gv) (hcr : RdI w cv c) :
    CnV Tryz.prog 76 #[smV s tv pv gv, vi b, cv] w (.bool (passF s b c)) := by
  have hr0 := hr
  have hl0 := hv.l0
  have hl9 := hv.l9
  have hst := hv.st
  have hp4 := hv.p4
  obtain ⟨adt, cpt, bt, ot, rfl, hadt, hct⟩ := hr.st.open boE_len false
  obtain ⟨adc, cpc, bc, oc, rfl, hadc, hcc⟩ := hcr.open
  refine cnv (vs := [_, _, _]) Tryz.func76 rfl rfl ?_
  all_goals refine tc_seq fun K1 hK1 => ?_; refine tc_region ?_; refine tl_e (e_box rfl rfl rfl) rfl (fun b3 _ => ?_); refine tl_q (y_assign rfl) rfl ?_; refine tl_nil ?_; ((refine hK1 ?_; try (clear hK1; clear K1)))
  all_goals refine tc_seq fun K2 hK2 => ?_; refine tc_region ?_; refine tl_q (y_build_ga [(0, 1), (1, 1)] (by repeat constructor) (by decide)) rfl ?_; refine tl_e (e_allocN rfl) rfl (fun b7 _ => ?_); refine tl_e (e_storeW rfl rfl (by repeat constructor) (by rfl) (by rfl) (bsV_one [true, false])) rfl (fun _ _ => ?_); refine tl_nil ?_; ((refine hK2 ?_; try (clear hK2; clear K2)))
  all_goals refine tc_seq fun K3 hK3 => ?_; refine tc_seq fun K4 hK4 => ?_; refine tc_region ?_; refine tl_q (y_assign rfl) rfl ?_; refine tl_nil ?_; ((refine hK4 ?_; try (clear hK4; clear K4)))
  all_goals refine tc_block ?_
  all_goals (
   refine tc_loop (fun h : Nat => (h : Int) ≤ s.L + 1) (fun h => [(1, vi b), (2, .slice adc c.length cpc), (3, ptr b3), (7, ptr b7), (8, vi h)]) (fun _ => [(w, [])]) (fun h => [(b7, .cells (bsV (pNow s b c h)) 139 (0, 0)), (b3, .cells #[vi s.B, vi s.P, vi s.L, vi s.F, .slice adt s.st.length cpt, pv, gv] 26 (0, 0))]) (fun h => (s.L + 1).toNat - h) ?_ ?_
   · exact tk_start 0 (by omega) (.cons rfl (.cons rfl (.cons rfl (.cons rfl (.cons rfl .nil))))) (fun _ h => h.subl SB.s SB.s)
   · rintro h hh
     have hpl := pNow_len s b c h
     all_goals refine tc_seq fun K5 hK5 => ?_; refine tc_seq fun K6 hK6 => ?_; refine tc_region ?_; refine tl_q (y_move rfl) rfl ?_; refine tl_q (y_field rfl) rfl ?_; refine tl_q (y_load1 rfl (by repeat constructor) (by rfl)) rfl ?_; refine tl_q (y_leq rfl rfl) rfl ?_; refine tl_nil ?_; ((refine hK6 ?_; try (clear hK6; clear K6)))
     all_goals (
      refine tc_cond rfl (fun hc => ?_) (fun hc => ?_)
      · try simp only [qn1, qn2, qn3, qn4, qn5, qn6, qn7, qn8] at hc
        all_goals refine tc_skip ?_; ((refine hK5 ?_; try (clear hK5; clear K5)))
        all_goals refine tc_seq fun K7 hK7 => ?_; refine tc_block ?_; refine tc_seq fun K8 hK8 => ?_; refine tc_region ?_; refine tl_e (e_allocN rfl) rfl (fun b9 _ => ?_); refine tl_nil ?_; ((refine hK8 ?_; try (clear hK8; clear K8)))
        all_goals refine tc_seq fun K9 hK9 => ?_; refine tc_seq fun K10 hK10 => ?_; refine tc_region ?_; refine tl_q (y_assign rfl) rfl ?_; refine tl_nil ?_; ((refine hK10 ?_; try (clear hK10; clear K10)))
        all_goals refine tc_block ?_
        all_goals (
         refine tc_loop (fun k : Nat => k ≤ 2) (fun k => [(1, vi b), (2, .slice adc c.length cpc), (3, ptr b3), (7, ptr b7), (8, vi h), (9, ptr b9), (10, vi k)]) (fun _ => [(w, [])]) (fun k => [(b9, .cells (bsV (pBoth s b h c (pNow s b c h) k)) 139 (0, 0)), (b7, .cells (bsV (pNow s b c h)) 139 (0, 0)), (b3, .cells #[vi s.B, vi s.P, vi s.L, vi s.F, .slice adt s.st.length cpt, pv, gv] 26 (0, 0))]) (fun k => 2 - k) ?_ ?_
         · exact tk_start 0 (by omega) (.cons rfl (.cons rfl (.cons rfl (.cons rfl (.cons rfl (.cons rfl (.cons rfl .nil))))))) (fun _ h => h.subl SB.s SB.s)
         · rintro k hk
           have hbl := pBoth_len s b h c (pNow s b c h) k
           all_goals refine tc_seq fun K11 hK11 => ?_; refine tc_seq fun K12 hK12 => ?_; refine tc_region ?_; refine tl_q (y_move rfl) rfl ?_; refine tl_q (y_lss rfl rfl) rfl ?_; refine tl_nil ?_; ((refine hK12 ?_; try (clear hK12; clear K12)))
           all_goals (
            refine tc_cond rfl (fun hc => ?_) (fun hc => ?_)
            · try simp only [qn1, qn2, qn3, qn4, qn5, qn6, qn7, qn8] at hc
              all_goals refine tc_skip ?_; ((refine hK11 ?_; try (clear hK11; clear K11)))
              all_goals refine tc_seq fun K13 hK13 => ?_; refine tc_block ?_; refine tc_seq fun K14 hK14 => ?_; refine tc_region ?_; refine tl_q (y_assign rfl) rfl ?_; refine tl_nil ?_; ((refine hK14 ?_; try (clear hK14; clear K14)))
              all_goals refine tc_block ?_
              all_goals (
               refine tc_loop (fun n : Nat => n ≤ 4 ∧ (0 < n → (pNow s b c h).getD k false = true)) (fun n => [(1, vi b), (2, .slice adc c.length cpc), (3, ptr b3), (7, ptr b7), (8, vi h), (9, ptr b9), (10, vi k), (11, vi n)]) (fun _ => [(w, [])]) (fun n => [(b9, .cells (bsV (pAct s b h c (blF k) (pBoth s b h c (pNow s b c h) k) n)) 139 (0, 0)), (b7, .cells (bsV (pNow s b c h)) 139 (0, 0)), (b3, .cells #[vi s.B, vi s.P, vi s.L, vi s.F, .slice adt s.st.length cpt, pv, gv] 26 (0, 0))]) (fun n => 4 - n) ?_ ?_
               · exact tk_start 0 ⟨by omega, fun h => absurd h (Nat.lt_irrefl 0)⟩ (.cons rfl (.cons rfl (.cons rfl (.cons rfl (.cons rfl (.cons rfl (.cons rfl (.cons rfl .nil)))))))) (fun _ h => h.subl SB.s SB.s)
               · rintro n ⟨hn, hnow⟩
                 have hal : (pAct s b h c (blF k) (pBoth s b h c (pNow s b c h) k) n).length = 2 := by rw [pAct_len, hbl]
                 have hb01 : (pNow s b c h).getD (0 + Int.toNat (k : Int) * 1) false = (pNow s b c h).getD k false := by rw [show 0 + Int.toNat (k : Int) * 1 = k from by omega]
                 all_goals refine tc_seq fun K15 hK15 => ?_; refine tc_seq fun K16 hK16 => ?_; refine tc_region ?_; refine tl_q (y_move rfl) rfl ?_; refine tl_q (y_lss rfl rfl) rfl ?_; refine tl_q (y_move rfl) rfl ?_; ((refine tl_gs rfl rfl (fun hc => ?_) (fun hc => ?_) <;> (try simp only [qn1, qn2, qn3, qn4, qn5, qn6, qn7, qn8] at hc) <;> (first | refine tl_sk rfl rfl rfl rfl ?_ | refine tl_qg rfl rfl (y_move rfl) rfl ?_)))
                 all_goals (first | refine tl_sk rfl rfl rfl rfl ?_ | refine tl_qg rfl rfl (y_indexA rfl rfl (by omega)) rfl ?_); (first | refine tl_sk rfl rfl rfl rfl ?_ | refine tl_qg rfl rfl (y_load1 (v := .bool ((pNow s b c h).getD (0 + Int.toNat (k : Int) * 1) false)) rfl (by repeat constructor) (cellAt_bs (by omega))) rfl ?_); (first | refine tl_q (y_pick_t rfl rfl) rfl ?_ | refine tl_q (y_pick_f rfl rfl) rfl ?_); refine tl_nil ?_; ((refine hK16 ?_; try (clear hK16; clear K16)))
                 all_goals (
                  refine tc_cond rfl (fun hc => ?_) (fun hc => ?_)
                  · all_goals ((first | (exfalso; with_reducible exact bft hc) | skip))
                    all_goals refine tc_skip ?_; ((refine hK15 ?_; try (clear hK15; clear K15)))
                    all_goals refine tc_seq fun K17 hK17 => ?_; refine tc_block ?_; refine tc_seq fun K18 hK18 => ?_; ((have hcbh := hcb h (by omega); have hcn := hc))
                    all_goals refine tc_draw (by kernel_rfl) ?_; refine tx_p 0 rfl (by kernel_rfl) (y_move rfl) rfl (fun _ _ _ h => h) (fun _ h => h) ?_; refine tx_p 1 rfl (by kernel_rfl) (y_eql rfl rfl) rfl (fun _ _ _ h => h) (fun _ h => h) ?_; refine tx_p 2 rfl (by kernel_rfl) (y_field rfl) rfl (fun _ _ _ h => h) (fun _ h => h) ?_; refine tx_q 3 rfl (by kernel_rfl) (y_load1 rfl (by repeat constructor) (by rfl)) rfl (fun _ _ _ h => h) (fun _ h => h) ?_; refine tx_p 4 rfl (by kernel_rfl) (y_move rfl) rfl (fun _ _ _ h => h) (fun _ h => h) ?_; refine tx_p 5 rfl (by kernel_rfl) (y_move rfl) rfl (fun _ _ _ h => h) (fun _ h => h) ?_; refine tx_p 6 rfl (by kernel_rfl) (y_index rfl rfl (by omega) (hadc (by omega))) rfl (fun _ _ _ h => h) (fun _ h => h) ?_; ((refine tx_q 7 rfl (by kernel_rfl) (y_load1o (v := vi (c.getD h 0)) rfl (fun w' hw' => by rw [show Int.toNat (h : Int) * 1 = h from by omega]; exact hcc w' (hw'.fr (w0 := w) (S := []) MI.m) h (by omega))) rfl (fun _ _ _ h => h) (fun _ h => h) ?_))
                    all_goals (refine tx_p 8 rfl (by kernel_rfl) (y_index rfl rfl (by omega) (hadt (by omega))) rfl (fun _ _ _ h => h) (fun _ h => h) ?_); ((refine tx_q 9 rfl (by kernel_rfl) (y_load1o (v := .bool (stB s c h)) rfl (fun w' hw' => by unfold stB; rw [Int.toNat_natCast]; have hx := (hct w' [] (hw'.fr (w0 := w) (S := []) MI.m) (by simp) (c.getD h 0).toNat (by omega)).get 0 _ rfl; exact hx)) rfl (fun _ _ _ h => h) (fun _ h => h) ?_))
                    all_goals refine tx_p 10 rfl (by kernel_rfl) (y_move rfl) rfl (fun _ _ _ h => h) (fun _ h => h) ?_; refine tx_e 11 rfl (by kernel_rfl) rfl (e_callV rfl (.cons rfl (.cons rfl (.cons rfl .nil))) (fun w' _ => actedN_c (k := k) (n := n) (by omega) _ w')) (.inr fun _ _ h => h) (fun _ _ => ?_); refine tx_p 12 rfl (by kernel_rfl) (y_move rfl) rfl (fun _ _ _ h => h) (fun _ h => h) ?_; refine tx_p 13 rfl (by kernel_rfl) (y_extract rfl rfl) rfl (fun _ _ _ h => h) (fun _ h => h) ?_; refine tx_p 14 rfl (by kernel_rfl) (y_extract rfl rfl) rfl (fun _ _ _ h => h) (fun _ h => h) ?_; refine tx_p 15 rfl (by kernel_rfl) (y_assign rfl) rfl (fun _ _ _ h => h) (fun _ h => h) ?_; refine tx_p 16 rfl (by kernel_rfl) (y_assign rfl) rfl (fun _ _ _ h => h) (fun _ h => h) ?_; refine tx_done (by kernel_rfl) ?_; ((refine hK18 ?_; try (clear hK18; clear K18)))
                    all_goals refine tc_seq fun K19 hK19 => ?_; refine tc_region ?_; refine tl_q (y_move rfl) rfl ?_; refine tl_q (y_move rfl) rfl ?_; ((refine tl_gs rfl rfl (fun hc => ?_) (fun hc => ?_) <;> (try simp only [qn1, qn2, qn3, qn4, qn5, qn6, qn7, qn8] at hc) <;> (first | refine tl_sk rfl rfl rfl rfl ?_ | refine tl_qg rfl rfl (y_loadW rfl (by repeat constructor) (by rfl)) rfl ?_)))
                    all_goals (first | refine tl_sk rfl rfl rfl rfl ?_ | refine tl_qg rfl rfl (y_move rfl) rfl ?_); (first | refine tl_sk rfl rfl rfl rfl ?_ | refine tl_qg rfl rfl (y_move rfl) rfl ?_); (first | refine tl_sk rfl rfl rfl rfl ?_ | refine tl_qg rfl rfl (y_move rfl) rfl ?_); (first | refine tl_sk rfl rfl rfl rfl ?_ | refine tl_eg rfl rfl rfl (e_callV rfl (.cons rfl (.cons rfl (.cons rfl (.cons rfl .nil)))) (fun w' hw' => agrees_c s hf.sg b h _ _ _ _ w' (hr0.sg.fr (hw'.fr (w0 := w) (S := []) MI.m)))) (fun _ _ => ?_)); (first | refine tl_q (y_pick_t rfl rfl) rfl ?_ | refine tl_q (y_pick_f rfl rfl) rfl ?_); refine tl_nil ?_; ((refine hK19 ?_; try (clear hK19; clear K19)))
                    all_goals (
                     refine tc_cond rfl (fun hc => ?_) (fun hc => ?_)
                     · all_goals ((first | (exfalso; with_reducible exact bft hc) | skip))
                       all_goals refine tc_seq fun K20 hK20 => ?_; refine tc_region ?_; refine tl_q (y_move rfl) rfl ?_; refine tl_nil ?_; ((refine hK20 ?_; try (clear hK20; clear K20)))
                       all_goals (
                        refine tc_cond rfl (fun hc => ?_) (fun hc => ?_)
                        · all_goals (skip)
                          all_goals refine tc_region ?_; refine tl_q (y_indexA rfl rfl (by omega)) rfl ?_; refine tl_e (e_storeB (l := pAct s b h c (blF k) (pBoth s b h c (pNow s b c h) k) n) rfl rfl (by omega) (by repeat constructor)) rfl (fun _ _ => ?_); refine tl_nil ?_; ((refine hK17 ?_; try (clear hK17; clear K17)))
                          all_goals refine tc_region ?_; refine tl_q (y_move rfl) rfl ?_; refine tl_q (y_add rfl rfl (by omega)) rfl ?_; refine tl_q (y_assign rfl) rfl ?_; refine tl_nil ?_
                          all_goals (
                           first
                           | (have hs : pAct s b h c (blF k) (pBoth s b h c (pNow s b c h) k) (n + 1) = (pAct s b h c (blF k) (pBoth s b h c (pNow s b c h) k) n).set 1 true := by
                                rw [pAct, pUp, if_pos ⟨by assumption, by assumption⟩, show actY (blF k) n = true from hc]; rfl
                              exact tk_round (n + 1) ⟨by omega, fun _ => by rw [← hb01]; exact hcn⟩ (by omega) (.cons rfl (.cons rfl (.cons rfl (.cons rfl (.cons rfl (.cons rfl (.cons rfl (.cons rfl .nil)))))))) (fun _ h => by rw [hs]; exact h.subl SB.s SB.s))
                           | (have hs : pAct s b h c (blF k) (pBoth s b h c (pNow s b c h) k) (n + 1) = (pAct s b h c (blF k) (pBoth s b h c (pNow s b c h) k) n).set 0 true := by
                                rw [pAct, pUp, if_pos ⟨by assumption, by assumption⟩, show actY (blF k) n = false from hc]; rfl
                              exact tk_round (n + 1) ⟨by omega, fun _ => by rw [← hb01]; exact hcn⟩ (by omega) (.cons rfl (.cons rfl (.cons rfl (.cons rfl (.cons rfl (.cons rfl (.cons rfl (.cons rfl .nil)))))))) (fun _ h => by rw [hs]; exact h.subl SB.s SB.s))
                           | (have hs : pAct s b h c (blF k) (pBoth s b h c (pNow s b c h) k) (n + 1) = pAct s b h c (blF k) (pBoth s b h c (pNow s b c h) k) n := by
                                rw [pAct, pUp, if_neg (fun g => by simp_all)]
                              exact tk_round (n + 1) ⟨by omega, fun _ => by rw [← hb01]; exact hcn⟩ (by omega) (.cons rfl (.cons rfl (.cons rfl (.cons rfl (.cons rfl (.cons rfl (.cons rfl (.cons rfl .nil)))))))) (fun _ h => by rw [hs]; exact h.subl SB.s SB.s)))
                        · all_goals (skip)
                          all_goals refine tc_region ?_; refine tl_q (y_indexA rfl rfl (by omega)) rfl ?_; refine tl_e (e_storeB (l := pAct s b h c (blF k) (pBoth s b h c (pNow s b c h) k) n) rfl rfl (by omega) (by repeat constructor)) rfl (fun _ _ => ?_); refine tl_nil ?_; ((refine hK17 ?_; try (clear hK17; clear K17)))
                          all_goals refine tc_region ?_; refine tl_q (y_move rfl) rfl ?_; refine tl_q (y_add rfl rfl (by omega)) rfl ?_; refine tl_q (y_assign rfl) rfl ?_; refine tl_nil ?_
                          all_goals (
                           first
                           | (have hs : pAct s b h c (blF k) (pBoth s b h c (pNow s b c h) k) (n + 1) = (pAct s b h c (blF k) (pBoth s b h c (pNow s b c h) k) n).set 1 true := by
                                rw [pAct, pUp, if_pos ⟨by assumption, by assumption⟩, show actY (blF k) n = true from hc]; rfl
                              exact tk_round (n + 1) ⟨by omega, fun _ => by rw [← hb01]; exact hcn⟩ (by omega) (.cons rfl (.cons rfl (.cons rfl (.cons rfl (.cons rfl (.cons rfl (.cons rfl (.cons rfl .nil)))))))) (fun _ h => by rw [hs]; exact h.subl SB.s SB.s))
                           | (have hs : pAct s b h c (blF k) (pBoth s b h c (pNow s b c h) k) (n + 1) = (pAct s b h c (blF k) (pBoth s b h c (pNow s b c h) k) n).set 0 true := by
                                rw [pAct, pUp, if_pos ⟨by assumption, by assumption⟩, show actY (blF k) n = false from hc]; rfl
                              exact tk_round (n + 1) ⟨by omega, fun _ => by rw [← hb01]; exact hcn⟩ (by omega) (.cons rfl (.cons rfl (.cons rfl (.cons rfl (.cons rfl (.cons rfl (.cons rfl (.cons rfl .nil)))))))) (fun _ h => by rw [hs]; exact h.subl SB.s SB.s))
                           | (have hs : pAct s b h c (blF k) (pBoth s b h c (pNow s b c h) k) (n + 1) = pAct s b h c (blF k) (pBoth s b h c (pNow s b c h) k) n := by
                                rw [pAct, pUp, if_neg (fun g => by simp_all)]
                              exact tk_round (n + 1) ⟨by omega, fun _ => by rw [← hb01]; exact hcn⟩ (by omega) (.cons rfl (.cons rfl (.cons rfl (.cons rfl (.cons rfl (.cons rfl (.cons rfl (.cons rfl .nil)))))))) (fun _ h => by rw [hs]; exact h.subl SB.s SB.s))))
                     · try simp only [qn1, qn2, qn3, qn4, qn5, qn6, qn7, qn8] at hc
                       all_goals refine tc_skip ?_; ((refine hK17 ?_; try (clear hK17; clear K17)))
                       all_goals refine tc_region ?_; refine tl_q (y_move rfl) rfl ?_; refine tl_q (y_add rfl rfl (by omega)) rfl ?_; refine tl_q (y_assign rfl) rfl ?_; refine tl_nil ?_
                       all_goals (
                        first
                        | (have hs : pAct s b h c (blF k) (pBoth s b h c (pNow s b c h) k) (n + 1) = (pAct s b h c (blF k) (pBoth s b h c (pNow s b c h) k) n).set 1 true := by
                             rw [pAct, pUp, if_pos ⟨by assumption, by assumption⟩, show actY (blF k) n = true from hc]; rfl
                           exact tk_round (n + 1) ⟨by omega, fun _ => by rw [← hb01]; exact hcn⟩ (by omega) (.cons rfl (.cons rfl (.cons rfl (.cons rfl (.cons rfl (.cons rfl (.cons rfl (.cons rfl .nil)))))))) (fun _ h => by rw [hs]; exact h.subl SB.s SB.s))
                        | (have hs : pAct s b h c (blF k) (pBoth s b h c (pNow s b c h) k) (n + 1) = (pAct s b h c (blF k) (pBoth s b h c (pNow s b c h) k) n).set 0 true := by
                             rw [pAct, pUp, if_pos ⟨by assumption, by assumption⟩, show actY (blF k) n = false from hc]; rfl
                           exact tk_round (n + 1) ⟨by omega, fun _ => by rw [← hb01]; exact hcn⟩ (by omega) (.cons rfl (.cons rfl (.cons rfl (.cons rfl (.cons rfl (.cons rfl (.cons rfl (.cons rfl .nil)))))))) (fun _ h => by rw [hs]; exact h.subl SB.s SB.s))
                        | (have hs : pAct s b h c (blF k) (pBoth s b h c (pNow s b c h) k) (n + 1) = pAct s b h c (blF k) (pBoth s b h c (pNow s b c h) k) n := by
                             rw [pAct, pUp, if_neg (fun g => by simp_all)]
                           exact tk_round (n + 1) ⟨by omega, fun _ => by rw [← hb01]; exact hcn⟩ (by omega) (.cons rfl (.cons rfl (.cons rfl (.cons rfl (.cons rfl (.cons rfl (.cons rfl (.cons rfl .nil)))))))) (fun _ h => by rw [hs]; exact h.subl SB.s SB.s))))
                  · try simp only [qn1, qn2, qn3, qn4, qn5, qn6, qn7, qn8] at hc
                    all_goals refine tc_exit ?_; ((refine hK13 ?_; try (clear hK13; clear K13)))
                    all_goals refine tc_region ?_; refine tl_q (y_move rfl) rfl ?_; refine tl_q (y_add rfl rfl (by omega)) rfl ?_; refine tl_q (y_assign rfl) rfl ?_; refine tl_nil ?_
                    all_goals (
                     first
                     | (have hn0 : n = 0 := by refine Decidable.byContradiction fun g => ?_; rw [hb01, hnow (by omega)] at hc; cases hc
                        have hs : pBoth s b h c (pNow s b c h) (k + 1) = pAct s b h c (blF k) (pBoth s b h c (pNow s b c h) k) n := by
                          rw [pBoth, if_neg (by rw [← hb01, hc]; exact Bool.false_ne_true), hn0]; rfl
                        exact tk_round (k + 1) (by omega) (by omega) (.cons rfl (.cons rfl (.cons rfl (.cons rfl (.cons rfl (.cons rfl (.cons rfl .nil))))))) (fun _ h => by rw [hs]; exact h.subl SB.s SB.s))
                     | (obtain rfl : n = 4 := by omega
                        have hs : pBoth s b h c (pNow s b c h) (k + 1) = pAct s b h c (blF k) (pBoth s b h c (pNow s b c h) k) 4 := by
                          rw [pBoth, if_pos (hnow (by omega))]
                        exact tk_round (k + 1) (by omega) (by omega) (.cons rfl (.cons rfl (.cons rfl (.cons rfl (.cons rfl (.cons rfl (.cons rfl .nil))))))) (fun _ h => by rw [hs]; exact h.subl SB.s SB.s)))))
            · try simp only [qn1, qn2, qn3, qn4, qn5, qn6, qn7, qn8] at hc
              all_goals refine tc_exit ?_; ((refine hK9 ?_; try (clear hK9; clear K9)))
              all_goals refine tc_region ?_; refine tl_q (y_loadW rfl (by repeat constructor) (by rw [bsV_size, pBoth_len])) rfl ?_; refine tl_e (e_storeW rfl rfl (by repeat constructor) (by rw [bsV_size, pBoth_len]) (by rw [bsV_size, pNow_len]) (bsV_one _)) rfl (fun _ _ => ?_); refine tl_nil ?_; ((refine hK7 ?_; try (clear hK7; clear K7)))
              all_goals refine tc_region ?_; refine tl_q (y_move rfl) rfl ?_; refine tl_q (y_add rfl rfl (by omega)) rfl ?_; refine tl_q (y_assign rfl) rfl ?_; refine tl_nil ?_
              all_goals (
               obtain rfl : k = 2 := by omega
               have hs : pNow s b c (h + 1) = pBoth s b h c (pNow s b c h) 2 := rfl
               exact tk_round (h + 1) (by omega) (by omega) (.cons rfl (.cons rfl (.cons rfl (.cons rfl (.cons rfl .nil))))) (fun _ h => by rw [hs]; exact h.subl SB.s SB.s))))
      · try simp only [qn1, qn2, qn3, qn4, qn5, qn6, qn7, qn8] at hc
        all_goals refine tc_exit ?_; ((refine hK3 ?_; try (clear hK3; clear K3)))
        all_goals refine tc_seq fun K21 hK21 => ?_; refine tc_region ?_; refine tl_q (y_indexA rfl rfl (by omega)) rfl ?_; refine tl_q (y_load1 (v := .bool ((pNow s b c h).getD 0 false)) rfl (by repeat constructor) (cellAt_bs (by omega))) rfl ?_; refine tl_q (y_move rfl) rfl ?_; ((refine tl_gs rfl rfl (fun hc => ?_) (fun hc => ?_) <;> (try simp only [qn1, qn2, qn3, qn4, qn5, qn6, qn7, qn8] at hc) <;> (first | refine tl_sk rfl rfl rfl rfl ?_ | refine tl_qg rfl rfl (y_indexA rfl rfl (by omega)) rfl ?_)))
        all_goals (first | refine tl_sk rfl rfl rfl rfl ?_ | refine tl_qg rfl rfl (y_load1 (v := .bool ((pNow s b c h).getD 1 false)) rfl (by repeat constructor) (cellAt_bs (by omega))) rfl ?_); (first | refine tl_q (y_pick_t rfl rfl) rfl ?_ | refine tl_q (y_pick_f rfl rfl) rfl ?_); refine tl_q (y_assign rfl) rfl ?_; refine tl_nil ?_; ((refine hK21 ?_; try (clear hK21; clear K21)))
        all_goals refine tc_ret ?_; (repeat (first | refine tk_then_ret ?_))
        all_goals (refine tk_ret rfl rfl (.cons (.tmp rfl) .nil) ?_)
        all_goals (
         obtain rfl : h = (s.L + 1).toNat := by omega
         refine fun w' hw' => ⟨congrArg (fun x => Ending.returned (Value.bool x)) ?_, hw'.fr (w0 := w) (S := []) MI.m⟩
         unfold passF
         first
         | (rw [show (pNow s b c (s.L + 1).toNat).getD 0 false = true from hc]; rfl)
         | (rw [show (pNow s b c (s.L + 1).toNat).getD 0 false = false from hc]; rfl))))
def hasN (s : Smp) (b : Int) (n : Nat) : Bool := match heldF s b (nthL s n) with
  | none => false
  | some c => passF s b c
def hasB (s : Smp) (b : Int) : Bool := (List.range (manyS s.ps).toNat).any fun n => hasN s b n
def hasF (s : Smp) : Bool := (List.range s.B.toNat).all fun (b : Nat) => hasB s b
theorem held_no {s : Smp} {b : Int} {ts : List Int} (hE : heldF s b ts = none) (hv : VSm s) (hts : ts.length = s.ps.length) (tv pv gv hv' : Value) (w : World) (hr : RdSm w s tv pv gv) (hh : RdI w hv' ts) :
    CnX Tryz.prog 59 #[smV s tv pv gv, vi b, hv'] w [] (fun y : Option Addr × Nat => .tuple #[slV ([] : List Int).length y, .bool false]) (fun y w' => RdI w' (slV ([] : List Int).length y) []) := by
  have h := held_c s hv b ts hts tv pv gv hv' w hr hh
  rw [hE] at h
  exact h
theorem held_yes {s : Smp} {b : Int} {ts c : List Int} (hE : heldF s b ts = some c) (hv : VSm s) (hts : ts.length = s.ps.length) (tv pv gv hv' : Value) (w : World) (hr : RdSm w s tv pv gv) (hh : RdI w hv' ts) :
    CnX Tryz.prog 59 #[smV s tv pv gv, vi b, hv'] w [] (fun y : Option Addr × Nat => .tuple #[slV c.length y, .bool true]) (fun y w' => RdI w' (slV c.length y) c) := by
  have h := held_c s hv b ts hts tv pv gv hv' w hr hh
  rw [hE] at h
  exact h
theorem heldF_ok {s : Smp} (hv : VSm s) {b : Int} {ts c : List Int} (h : heldF s b ts = some c) : (c.length : Int) = s.L + 1 ∧ ∀ i, i < c.length → 0 ≤ c.getD i 0 ∧ c.getD i 0 < s.P := by
  unfold heldF at h
  obtain ⟨q, h1, rfl⟩ := Option.map_eq_some_iff.1 h
  have hl := chN_len h1
  have hl0 := hv.l0
  exact ⟨by omega, fun i hi => (chN_ok hv h1).2 _ (getD_memG hi)⟩
theorem manyS_v {s : Smp} (hv : VSm s) : 1 ≤ manyS s.ps ∧ manyS s.ps ≤ 1000 :=
  ⟨(manyS_sub (List.Sublist.refl _) (fun p hp => by have := hv.ps p hp; omega)).1, hv.many⟩
theorem rMany_v (s : Smp) (hv : VSm s) (tv pv gv : Value) (w : World) (hr : RdSm w s tv pv gv) : CnV Tryz.prog 52 #[smV s tv pv gv] w (vi (manyS s.ps)) :=
  rMany_c s hv.l9 (List.all_eq_true.2 fun p hp => pasOk_iff.2 (by have := hv.ps p hp; omega)) hv.n6 tv pv gv w hr.ps
theorem any_upto {α : Type} {p : Nat → Bool} {n : Nat} (h : ∀ j, j < n → p j = false) : (List.range n).any p = false := by
  cases hg : (List.range n).any p
  · rfl
  · obtain ⟨j, h1, h2⟩ := List.any_eq_true.1 hg
    rw [h j (List.mem_range.1 h1)] at h2; cases h2
theorem any_at {p : Nat → Bool} {n j : Nat} (hj : j < n) (h : p j = true) : (List.range n).any p = true := List.any_eq_true.2 ⟨j, List.mem_range.2 hj, h⟩
set_option maxHeartbeats 2000000 in
theorem has_c (s : Smp) (hf : Few s) (hv : VSm s) (tv pv gv : Value) (w : World) (hr : RdSm w s tv pv gv) : CnV Tryz.prog 39 #[smV s tv pv gv] w (.bool (hasF s)) := by
  have hr0 := hr
  have hb1 := hv.b1
  have hb3 := hv.b3
  have hmb := manyS_v hv
  refine cnv (vs := [_]) Tryz.func39 rfl rfl ?_
  all_goals refine tc_seq fun K1 hK1 => ?_; refine tc_region ?_; refine tl_e (e_box rfl rfl rfl) rfl (fun b1 _ => ?_); refine tl_q (y_assign rfl) rfl ?_; refine tl_nil ?_; ((refine hK1 ?_; try (clear hK1; clear K1)))
  all_goals refine tc_seq fun K2 hK2 => ?_; refine tc_seq fun K3 hK3 => ?_; refine tc_region ?_; refine tl_q (y_assign rfl) rfl ?_; refine tl_nil ?_; ((refine hK3 ?_; try (clear hK3; clear K3)))
  all_goals refine tc_block ?_
  all_goals (
   refine tc_loop (fun k : Nat => (k : Int) ≤ s.B ∧ ∀ j, j < k → hasB s (j : Nat) = true) (fun k => [(1, ptr b1), (3, vi k)]) (fun _ => [(w, [])]) (fun _ => [(b1, .cells #[vi s.B, vi s.P, vi s.L, vi s.F, tv, pv, gv] 26 (0, 0))]) (fun k => s.B.toNat - k) ?_ ?_
   · exact tk_start 0 ⟨by omega, fun j hj => absurd hj (Nat.not_lt_zero j)⟩ (.cons rfl (.cons rfl .nil)) (fun _ h => h.subl SB.s SB.s)
   · rintro k ⟨hk, hj⟩
     all_goals refine tc_seq fun K4 hK4 => ?_; refine tc_seq fun K5 hK5 => ?_; refine tc_region ?_; refine tl_q (y_move rfl) rfl ?_; refine tl_q (y_field rfl) rfl ?_; refine tl_q (y_load1 rfl (by repeat constructor) (by rfl)) rfl ?_; refine tl_q (y_lss rfl rfl) rfl ?_; refine tl_nil ?_; ((refine hK5 ?_; try (clear hK5; clear K5)))
     all_goals (
      refine tc_cond rfl (fun hc => ?_) (fun hc => ?_)
      · try simp only [qn1, qn2, qn3, qn4, qn5, qn6, qn7, qn8] at hc
        all_goals refine tc_skip ?_; ((refine hK4 ?_; try (clear hK4; clear K4)))
        all_goals refine tc_seq fun K6 hK6 => ?_; refine tc_block ?_; refine tc_seq fun K7 hK7 => ?_; refine tc_region ?_; refine tl_q (y_assign rfl) rfl ?_; refine tl_nil ?_; ((refine hK7 ?_; try (clear hK7; clear K7)))
        all_goals refine tc_seq fun K8 hK8 => ?_; refine tc_seq fun K9 hK9 => ?_; refine tc_region ?_; refine tl_q (y_assign rfl) rfl ?_; refine tl_nil ?_; ((refine hK9 ?_; try (clear hK9; clear K9)))
        all_goals refine tc_block ?_
        all_goals (
         refine tc_loop (fun p : Nat × Bool => (p.1 : Int) ≤ manyS s.ps ∧ (p.2 = true → hasB s (k : Nat) = true) ∧ (p.2 = false → ∀ j, j < p.1 → hasN s (k : Nat) j = false)) (fun p => [(1, ptr b1), (3, vi k), (4, .bool p.2), (5, vi p.1)]) (fun _ => [(w, [])]) (fun _ => [(b1, .cells #[vi s.B, vi s.P, vi s.L, vi s.F, tv, pv, gv] 26 (0, 0))]) (fun p => (manyS s.ps).toNat - p.1) ?_ ?_
         · exact tk_start (0, false) ⟨by dsimp only; omega, (fun g => by cases g), fun _ j hj => absurd hj (Nat.not_lt_zero j)⟩ (.cons rfl (.cons rfl (.cons rfl (.cons rfl .nil)))) (fun _ h => h.subl SB.s SB.s)
         · rintro ⟨n, fo⟩ ⟨hn, hyes, hno⟩
           dsimp only at hn hyes hno ⊢
           all_goals refine tc_seq fun K10 hK10 => ?_; refine tc_seq fun K11 hK11 => ?_; refine tc_region ?_; refine tl_q (y_move rfl) rfl ?_; refine tl_q (y_loadW rfl (by repeat constructor) (by rfl)) rfl ?_; refine tl_e (e_callV rfl (.cons rfl .nil) (fun w' hw' => rMany_v s hv _ _ _ w' (hr0.fr (hw'.fr (w0 := w) (S := []) MI.m)))) rfl (fun _ _ => ?_); refine tl_q (y_lss rfl rfl) rfl ?_; refine tl_q (y_move rfl) rfl ?_; ((refine tl_gs rfl rfl (fun hc => ?_) (fun hc => ?_) <;> (try simp only [qn1, qn2, qn3, qn4, qn5, qn6, qn7, qn8] at hc) <;> (first | refine tl_sk rfl rfl rfl rfl ?_ | refine tl_qg rfl rfl (y_move rfl) rfl ?_)))
           all_goals (first | refine tl_sk rfl rfl rfl rfl ?_ | refine tl_qg rfl rfl (y_not rfl) rfl ?_); (first | refine tl_q (y_pick_t rfl rfl) rfl ?_ | refine tl_q (y_pick_f rfl rfl) rfl ?_); refine tl_nil ?_; ((refine hK11 ?_; try (clear hK11; clear K11)))
           all_goals (
            refine tc_cond rfl (fun hc => ?_) (fun hc => ?_)
            · try simp only [qn1, qn2, qn3, qn4, qn5, qn6, qn7, qn8] at hc
              all_goals ((first | (exfalso; with_reducible exact bft hc) | skip))
              all_goals refine tc_skip ?_; ((refine hK10 ?_; try (clear hK10; clear K10)))
              all_goals refine tc_seq fun K12 hK12 => ?_; refine tc_block ?_; refine tc_seq fun K13 hK13 => ?_; ((have hfo := hc; rcases hhf : heldF s (k : Nat) (nthL s n) with _ | c))
              all_goals refine tc_draw (by kernel_rfl) ?_; refine tx_q 0 rfl (by kernel_rfl) (y_loadW rfl (by repeat constructor) (by rfl)) rfl (fun _ _ _ h => h) (fun _ h => h) ?_; refine tx_p 1 rfl (by kernel_rfl) (y_move rfl) rfl (fun _ _ _ h => h) (fun _ h => h) ?_; refine tx_q 2 rfl (by kernel_rfl) (y_loadW rfl (by repeat constructor) (by rfl)) rfl (fun _ _ _ h => h) (fun _ h => h) ?_; refine tx_p 3 rfl (by kernel_rfl) (y_move rfl) rfl (fun _ _ _ h => h) (fun _ h => h) ?_; refine tx_e 4 rfl (by kernel_rfl) rfl (e_callX rfl (.cons rfl (.cons rfl .nil)) (fun w' hw' => nth_c s hv n (by omega) _ _ _ w' (hr0.fr (hw'.fr (w0 := w) (S := []) MI.m)))) (.inr fun _ _ h => h.sub (fun _ h => List.mem_cons_of_mem _ h) (List.Sublist.refl _)) (fun y hy => ?_); (first | refine tx_e 5 rfl (by kernel_rfl) rfl (e_callX rfl (.cons rfl (.cons rfl (.cons rfl .nil))) (fun w' hw' => held_no hhf hv (nthS_len _ _ _) _ _ _ _ w' (hr0.fr (hw'.fr (w0 := w) (S := []) MI.m)) (hy.1.fr (hw'.calm hy.2 MI.m SB.s)))) (.inr fun _ _ h => h.sub (fun _ h => List.mem_cons_of_mem _ h) (List.Sublist.refl _)) (fun z hz => ?_) | refine tx_e 5 rfl (by kernel_rfl) rfl (e_callX rfl (.cons rfl (.cons rfl (.cons rfl .nil))) (fun w' hw' => held_yes hhf hv (nthS_len _ _ _) _ _ _ _ w' (hr0.fr (hw'.fr (w0 := w) (S := []) MI.m)) (hy.1.fr (hw'.calm hy.2 MI.m SB.s)))) (.inr fun _ _ h => h.sub (fun _ h => List.mem_cons_of_mem _ h) (List.Sublist.refl _)) (fun z hz => ?_)); refine tx_p 6 rfl (by kernel_rfl) (y_move rfl) rfl (fun _ _ _ h => h) (fun _ h => h) ?_; refine tx_p 7 rfl (by kernel_rfl) (y_extract rfl rfl) rfl (fun _ _ _ h => h) (fun _ h => h) ?_; refine tx_p 8 rfl (by kernel_rfl) (y_extract rfl rfl) rfl (fun _ _ _ h => h) (fun _ h => h) ?_; refine tx_p 9 rfl (by kernel_rfl) (y_assign rfl) rfl (fun _ _ _ h => h) (fun _ h => h) ?_; refine tx_p 10 rfl (by kernel_rfl) (y_assign rfl) rfl (fun _ _ _ h => h) (fun _ h => h) ?_; refine tx_done (by kernel_rfl) ?_; ((refine hK13 ?_; try (clear hK13; clear K13)))
              all_goals refine tc_region ?_; refine tl_q (y_move rfl) rfl ?_; refine tl_q (y_move rfl) rfl ?_; (first | refine tl_sk rfl rfl rfl rfl ?_ | refine tl_qg rfl rfl (y_loadW rfl (by repeat constructor) (by rfl)) rfl ?_); (first | refine tl_sk rfl rfl rfl rfl ?_ | refine tl_qg rfl rfl (y_move rfl) rfl ?_); (first | refine tl_sk rfl rfl rfl rfl ?_ | refine tl_qg rfl rfl (y_move rfl) rfl ?_); (first | refine tl_sk rfl rfl rfl rfl ?_ | refine tl_eg rfl rfl rfl (e_callV rfl (.cons rfl (.cons rfl (.cons rfl .nil))) (fun w' hw' => passes_c s hf hv k c (heldF_ok hv hhf).1 (heldF_ok hv hhf).2 _ _ _ _ w' (hr0.fr (hw'.fr (w0 := w) (S := []) MI.m)) (hz.1.fr (hw'.calm hz.2 MI.m SB.s)))) (fun _ _ => ?_)); (first | refine tl_q (y_pick_t rfl rfl) rfl ?_ | refine tl_q (y_pick_f rfl rfl) rfl ?_); refine tl_q (y_assign rfl) rfl ?_; refine tl_nil ?_; ((refine hK12 ?_; try (clear hK12; clear K12)))
              all_goals refine tc_region ?_; refine tl_q (y_move rfl) rfl ?_; refine tl_q (y_add rfl rfl (by omega)) rfl ?_; refine tl_q (y_assign rfl) rfl ?_; refine tl_nil ?_
              all_goals (
               first
               | (have hN : hasN s (k : Nat) n = false := by unfold hasN; rw [hhf]
                  exact tk_round (n + 1, false) ⟨by dsimp only; omega, (fun g => by cases g), fun _ j hj => by rcases Nat.lt_succ_iff_lt_or_eq.1 hj with h | rfl; exact hno hfo j h; exact hN⟩ (by dsimp only; omega) (.cons rfl (.cons rfl (.cons rfl (.cons rfl .nil)))) (fun _ h => h.subl SB.s SB.s))
               | (have hN : hasN s (k : Nat) n = passF s k c := by unfold hasN; rw [hhf]
                  exact tk_round (n + 1, passF s k c) ⟨by dsimp only; omega, fun g => any_at (j := n) (by omega) (hN.trans g), fun g j hj => by rcases Nat.lt_succ_iff_lt_or_eq.1 hj with h | rfl; exact hno hfo j h; exact hN.trans g⟩ (by dsimp only; omega) (.cons rfl (.cons rfl (.cons rfl (.cons rfl .nil)))) (fun _ h => h.subl SB.s SB.s)))
            · try simp only [qn1, qn2, qn3, qn4, qn5, qn6, qn7, qn8] at hc
              all_goals refine tc_exit ?_; ((refine hK8 ?_; try (clear hK8; clear K8)))
              all_goals refine tc_seq fun K14 hK14 => ?_; refine tc_region ?_; refine tl_q (y_move rfl) rfl ?_; refine tl_q (y_not rfl) rfl ?_; refine tl_nil ?_; ((refine hK14 ?_; try (clear hK14; clear K14)))
              all_goals (
               refine tc_cond rfl (fun hc => ?_) (fun hc => ?_)
               · try simp only [qn1, qn2, qn3, qn4, qn5, qn6, qn7, qn8] at hc
                 all_goals refine tc_seq fun K15 hK15 => ?_; refine tc_region ?_; refine tl_q (y_assign rfl) rfl ?_; refine tl_nil ?_; ((refine hK15 ?_; try (clear hK15; clear K15)))
                 all_goals refine tc_ret ?_; (repeat (first | refine tk_then_ret ?_ | refine tk_block_ret ?_))
                 all_goals (refine tk_ret rfl rfl (.cons (.tmp rfl) .nil) ?_)
                 all_goals (
                  first
                  | (have h1 : fo = true := by assumption
                     have h2 : fo = false := by assumption
                     rw [h1] at h2; cases h2)
                  | (have hE : hasF s = false := by
                       have hB : hasB s (k : Nat) = false := any_upto (α := Nat) fun j hj => hno (by assumption) j (by omega)
                       cases hg : hasF s
                       · rfl
                       · have := List.all_eq_true.1 hg k (List.mem_range.2 (by omega))
                         rw [hB] at this; cases this
                     rw [hE]
                     exact fun w' hw' => ⟨rfl, hw'.fr (w0 := w) (S := []) MI.m⟩)
                  | (have hE : hasF s = true := List.all_eq_true.2 fun j hjm => hj j (by rw [List.mem_range] at hjm; omega)
                     rw [hE]
                     exact fun w' hw' => ⟨rfl, hw'.fr (w0 := w) (S := []) MI.m⟩))
               · try simp only [qn1, qn2, qn3, qn4, qn5, qn6, qn7, qn8] at hc
                 all_goals refine tc_skip ?_; ((refine hK6 ?_; try (clear hK6; clear K6)))
                 all_goals refine tc_region ?_; refine tl_q (y_move rfl) rfl ?_; refine tl_q (y_add rfl rfl (by omega)) rfl ?_; refine tl_q (y_assign rfl) rfl ?_; refine tl_nil ?_
                 all_goals (
                  exact tk_round (k + 1) ⟨by omega, fun j hj' => by rcases Nat.lt_succ_iff_lt_or_eq.1 hj' with h | rfl; exact hj j h; exact hyes (by assumption)⟩ (by omega) (.cons rfl (.cons rfl .nil)) (fun _ h => h.subl SB.s SB.s)))))
      · try simp only [qn1, qn2, qn3, qn4, qn5, qn6, qn7, qn8] at hc
        all_goals refine tc_exit ?_; ((refine hK2 ?_; try (clear hK2; clear K2)))
        all_goals refine tc_seq fun K16 hK16 => ?_; refine tc_region ?_; refine tl_q (y_assign rfl) rfl ?_; refine tl_nil ?_; ((refine hK16 ?_; try (clear hK16; clear K16)))
        all_goals refine tc_ret ?_; (repeat (first | refine tk_then_ret ?_))
        all_goals (refine tk_ret rfl rfl (.cons (.tmp rfl) .nil) ?_)
        all_goals (
         first
         | (have h1 : fo = true := by assumption
            have h2 : fo = false := by assumption
            rw [h1] at h2; cases h2)
         | (have hE : hasF s = false := by
              have hB : hasB s (k : Nat) = false := any_upto (α := Nat) fun j hj => hno (by assumption) j (by omega)
              cases hg : hasF s
              · rfl
              · have := List.all_eq_true.1 hg k (List.mem_range.2 (by omega))
                rw [hB] at this; cases this
            rw [hE]
            exact fun w' hw' => ⟨rfl, hw'.fr (w0 := w) (S := []) MI.m⟩)
         | (have hE : hasF s = true := List.all_eq_true.2 fun j hjm => hj j (by rw [List.mem_range] at hjm; omega)
            rw [hE]
            exact fun w' hw' => ⟨rfl, hw'.fr (w0 := w) (S := []) MI.m⟩))))
end Go.Sp
/-
  A sample has a truth after the reference if it has one after the package.
-/
namespace Go.Sp
open Go Go.Proofs
theorem mem_stepL {s : Smp} {b h : Int} {st x : Bool} {y : Bool × Int} : y ∈ stepL s b h st x ↔ ∃ n : Nat, n < 4 ∧ (actIs x st n = true ∧ seenB s b h (actY x n) = true) ∧ y = (actY x n, if x = true ∨ opF n = true then 1 else 0) := by
  show y ∈ stepN s b h st x 4 ↔ _
  unfold stepN
  rw [List.mem_flatMap]
  constructor
  · rintro ⟨n, hn, hy⟩
    unfold stp1 at hy
    split at hy
    · rename_i hc
      exact ⟨n, List.mem_range.1 hn, hc, List.mem_singleton.1 hy⟩
    · cases hy
  · rintro ⟨n, hn, hc, rfl⟩
    exact ⟨n, List.mem_range.2 hn, by unfold stp1; rw [if_pos hc]; exact List.mem_singleton.2 rfl⟩
theorem minP_any {l : List (Bool × Int)} {r : Bool → Option Int} : ∀ {n : Nat}, n ≤ l.length → (minP l r n).isSome = true → ∃ i, i < n ∧ (r (l.getD i (false, 0)).1).isSome = true
  | 0, _, h => by cases h
  | n + 1, hn, h => by
    rw [minP] at h
    split at h
    · obtain ⟨i, h1, h2⟩ := minP_any (by omega) h
      exact ⟨i, by omega, h2⟩
    · rename_i m hm
      exact ⟨n, by omega, by rw [hm]; rfl⟩
theorem rst_some {s : Smp} {b : Int} {c : List Int} {k : Nat} {x : Bool} : (rstF s b c (k + 1) x).isSome = true ↔ ∃ y ∈ stepL s b (s.L - k) (stB s c (s.L - k)) x, (rstF s b c k y.1).isSome = true := by
  rw [rstF]
  constructor
  · intro h
    obtain ⟨i, hi, hs⟩ := minP_any (Nat.le_refl _) h
    exact ⟨_, getD_memG hi, hs⟩
  · rintro ⟨y, hy, hs⟩
    obtain ⟨i, hi, rfl⟩ := List.getElem_of_mem hy
    refine minP_some (Nat.le_refl _) (i := i) hi ?_
    rw [List.getD_eq_getElem?_getD, List.getElem?_eq_getElem hi]; exact hs
theorem getD_set2 {l : List Bool} (hl : l.length = 2) (x y : Bool) : (l.set x.toNat true).getD y.toNat false = (l.getD y.toNat false || decide (x = y)) := by
  match l, hl with
  | [a, b], _ => cases x <;> cases y <;> simp
theorem pAct_get {s : Smp} {b : Int} {h : Nat} {c : List Int} {k : Bool} {acc : List Bool} (ha : acc.length = 2) (y : Bool) : ∀ n, (pAct s b h c k acc n).getD y.toNat false = true ↔ acc.getD y.toNat false = true ∨ ∃ m, m < n ∧ (actIs k (stB s c h) m = true ∧ seenB s b h (actY k m) = true) ∧ actY k m = y
  | 0 => by
    rw [pAct]
    exact ⟨fun h => .inl h, fun h => h.resolve_right (fun ⟨m, hm, _⟩ => absurd hm (Nat.not_lt_zero m))⟩
  | n + 1 => by
    have ih := pAct_get (s := s) (b := b) (h := h) (c := c) (k := k) ha y n
    rw [pAct, pUp]
    split
    · rename_i hc
      rw [getD_set2 (by rw [pAct_len, ha]), Bool.or_eq_true, ih, decide_eq_true_eq]
      constructor
      · rintro ((h1 | ⟨m, h1, h2⟩) | h1)
        · exact .inl h1
        · exact .inr ⟨m, by omega, h2⟩
        · exact .inr ⟨n, by omega, hc, h1⟩
      · rintro (h1 | ⟨m, h1, h2, h3⟩)
        · exact .inl (.inl h1)
        · by_cases hm : m = n
          · subst hm; exact .inr h3
          · exact .inl (.inr ⟨m, by omega, h2, h3⟩)
    · rename_i hc
      rw [ih]
      constructor
      · rintro (h1 | ⟨m, h1, h2⟩)
        · exact .inl h1
        · exact .inr ⟨m, by omega, h2⟩
      · rintro (h1 | ⟨m, h1, h2, h3⟩)
        · exact .inl h1
        · by_cases hm : m = n
          · subst hm; exact absurd h2 hc
          · exact .inr ⟨m, by omega, h2, h3⟩
theorem pBoth_get {s : Smp} {b : Int} {h : Nat} {c : List Int} {now : List Bool} (y : Bool) : ∀ k, (pBoth s b h c now k).getD y.toNat false = true ↔ ∃ i, i < k ∧ now.getD i false = true ∧ ∃ m, m < 4 ∧ (actIs (blF i) (stB s c h) m = true ∧ seenB s b h (actY (blF i) m) = true) ∧ actY (blF i) m = y
  | 0 => by
    rw [pBoth]
    constructor
    · intro h; cases y <;> cases h
    · rintro ⟨i, hi, _⟩; exact absurd hi (Nat.not_lt_zero i)
  | k + 1 => by
    have ih := pBoth_get (s := s) (b := b) (h := h) (c := c) (now := now) y k
    rw [pBoth]
    split
    · rename_i hc
      rw [pAct_get (pBoth_len s b h c now k), ih]
      constructor
      · rintro (⟨i, h1, h2⟩ | h1)
        · exact ⟨i, by omega, h2⟩
        · exact ⟨k, by omega, hc, h1⟩
      · rintro ⟨i, h1, h2, h3⟩
        by_cases hi : i = k
        · subst hi; exact .inr h3
        · exact .inl ⟨i, by omega, h2, h3⟩
    · rename_i hc
      rw [ih]
      constructor
      · rintro ⟨i, h1, h2⟩; exact ⟨i, by omega, h2⟩
      · rintro ⟨i, h1, h2, h3⟩
        by_cases hi : i = k
        · subst hi; exact absurd h2 hc
        · exact ⟨i, by omega, h2, h3⟩
abbrev fwP (s : Smp) (b : Int) (c : List Int) (h : Nat) (x : Bool) : Prop := (pNow s b c h).getD x.toNat false = true
theorem fwP_succ {s : Smp} {b : Int} {c : List Int} {h : Nat} {y : Bool} : fwP s b c (h + 1) y ↔ ∃ x, fwP s b c h x ∧ ∃ z ∈ stepL s b h (stB s c h) x, z.1 = y := by
  unfold fwP
  rw [pNow, pBoth_get]
  constructor
  · rintro ⟨i, hi, h1, m, hm, h2, h3⟩
    have e : (blF i).toNat = i := by
      match i, hi with
      | 0, _ => rfl
      | 1, _ => rfl
    exact ⟨blF i, by rw [e]; exact h1, _, mem_stepL.2 ⟨m, hm, h2, rfl⟩, h3⟩
  · rintro ⟨x, h1, z, hz, rfl⟩
    obtain ⟨m, hm, h2, rfl⟩ := mem_stepL.1 hz
    have e : blF x.toNat = x := by cases x <;> rfl
    refine ⟨x.toNat, by cases x <;> decide, h1, m, hm, ?_⟩
    rw [e]
    exact ⟨h2, rfl⟩
theorem fw_can {s : Smp} (hl : 0 ≤ s.L) {b : Int} {c c' : List Int} (hst : ∀ h : Nat, (h : Int) ≤ s.L → stB s c h = stB s c' h) : ∀ h : Nat, (h : Int) ≤ s.L + 1 → ((∃ x, fwP s b c h x ∧ (rstF s b c' (s.L + 1 - h).toNat x).isSome = true) ↔ canF s b c' = true)
  | 0, _ => by
    unfold canF
    rw [show (s.L + 1 - ((0 : Nat) : Int)).toNat = (s.L + 1).toNat from by omega]
    constructor
    · rintro ⟨x, h1, h2⟩
      cases x with
      | false => exact h2
      | true => cases h1
    · intro h; exact ⟨false, rfl, h⟩
  | h + 1, hh => by
    rw [← fw_can hl hst h (by omega)]
    have e : (s.L + 1 - (h : Int)).toNat = (s.L + 1 - ((h + 1 : Nat) : Int)).toNat + 1 := by omega
    have e2 : s.L - (((s.L + 1 - ((h + 1 : Nat) : Int)).toNat : Nat) : Int) = (h : Int) := by omega
    rw [e]
    constructor
    · rintro ⟨y, h1, h2⟩
      obtain ⟨x, h3, z, hz, rfl⟩ := fwP_succ.1 h1
      exact ⟨x, h3, rst_some.2 ⟨z, by rw [e2, ← hst h (by omega)]; exact hz, h2⟩⟩
    · rintro ⟨x, h1, h2⟩
      obtain ⟨z, hz, h3⟩ := rst_some.1 h2
      rw [e2, ← hst h (by omega)] at hz
      exact ⟨z.1, fwP_succ.2 ⟨x, h1, z, hz, rfl⟩, h3⟩
theorem pass_can {s : Smp} (hl : 0 ≤ s.L) {b : Int} {c c' : List Int} (hst : ∀ h : Nat, (h : Int) ≤ s.L → stB s c h = stB s c' h) : passF s b c = canF s b c' := by
  rw [Bool.eq_iff_iff, ← fw_can hl hst (s.L + 1).toNat (by omega)]
  unfold passF fwP
  rw [show (s.L + 1 - (((s.L + 1).toNat : Nat) : Int)).toNat = 0 from by omega, Bool.or_eq_true]
  constructor
  · rintro (h | h)
    · exact ⟨false, h, rfl⟩
    · exact ⟨true, h, rfl⟩
  · rintro ⟨x, h, _⟩
    cases x
    · exact .inl h
    · exact .inr h
theorem stB_pad {s : Smp} {c : List Int} {h : Nat} (hh : h < c.length) : stB s c h = stB s (padC c) h := by
  unfold stB padC
  rw [Int.toNat_natCast, List.getD_eq_getElem?_getD (l := c ++ _), List.getElem?_append_left hh, ← List.getD_eq_getElem?_getD]
def nthC : List Pas → Int → List Int
  | [], _ => []
  | p :: ps, n => (p.lo + n % (p.hi - p.lo + 1)) :: nthC ps (n / (p.hi - p.lo + 1))
theorem nthS_C (ps : List Pas) (n : Int) : ∀ i, i ≤ ps.length → (nthS ps n i).1 ++ nthC (ps.drop i) (nthS ps n i).2 = nthC ps n
  | 0, _ => rfl
  | i + 1, hi => by
    rw [← nthS_C ps n i (by omega), nthS]
    have e : ps.drop i = ps.getD i pas0 :: ps.drop (i + 1) := by
      rw [List.drop_eq_getElem_cons (by omega), List.getD_eq_getElem?_getD, List.getElem?_eq_getElem (by omega)]; rfl
    rw [e, nthC, List.append_assoc]; rfl
theorem nthL_C (s : Smp) (n : Int) : nthL s n = nthC s.ps n := by
  have := nthS_C s.ps n s.ps.length (Nat.le_refl _)
  rw [List.drop_length] at this
  unfold nthL
  rw [← this]; simp [nthC]
/-- Hours that are within the passes' ranges. -/
def InR : List Pas → List Int → Prop
  | [], hs => hs = []
  | p :: ps, hs => ∃ h t, hs = h :: t ∧ (p.lo ≤ h ∧ h ≤ p.hi) ∧ InR ps t
theorem nthC_in : ∀ {ps : List Pas} (n : Int), (∀ p ∈ ps, p.lo ≤ p.hi) → InR ps (nthC ps n)
  | [], _, _ => rfl
  | p :: ps, n, hp => by
    have h1 := hp p (List.mem_cons_self ..)
    have h2 := Int.emod_nonneg n (show p.hi - p.lo + 1 ≠ 0 by omega)
    have h3 := Int.emod_lt_of_pos n (show 0 < p.hi - p.lo + 1 by omega)
    exact ⟨_, _, rfl, by omega, nthC_in _ fun q hq => hp q (List.mem_cons_of_mem _ hq)⟩
theorem nthC_all : ∀ {ps : List Pas} {hs : List Int}, (∀ p ∈ ps, p.lo ≤ p.hi) → InR ps hs → ∃ n : Int, (0 ≤ n ∧ n < manyS ps) ∧ nthC ps n = hs
  | [], hs, _, h => by
    obtain rfl : hs = [] := h
    exact ⟨0, by unfold manyS; omega, rfl⟩
  | p :: ps, hs, hp, h => by
    obtain ⟨a, t, rfl, ha, ht⟩ := h
    obtain ⟨n, hn, he⟩ := nthC_all (fun q hq => hp q (List.mem_cons_of_mem _ hq)) ht
    obtain ⟨z, hz⟩ : ∃ z, z = p.hi - p.lo + 1 := ⟨_, rfl⟩
    obtain ⟨d, hd⟩ : ∃ d, d = a - p.lo := ⟨_, rfl⟩
    have hz0 : 0 < z := by omega
    have hdz : 0 ≤ d ∧ d < z := by omega
    refine ⟨d + z * n, ⟨?_, ?_⟩, ?_⟩
    · have := Int.mul_nonneg (show 0 ≤ z by omega) hn.1; omega
    · rw [manyS, ← hz]
      have h1 : z * (n + 1) ≤ z * manyS ps := Int.mul_le_mul_of_nonneg_left (by omega) (by omega)
      rw [Int.mul_add, Int.mul_one] at h1
      omega
    · rw [nthC, ← hz, Int.add_mul_emod_self_left, Int.add_mul_ediv_left _ _ (by omega), Int.emod_eq_of_lt hdz.1 hdz.2, Int.ediv_eq_zero_of_lt hdz.1 hdz.2, Int.zero_add, he]
      rw [show p.lo + d = a from by omega]
theorem InR.len : ∀ {ps : List Pas} {hs : List Int}, InR ps hs → hs.length = ps.length
  | [], hs, h => by obtain rfl : hs = [] := h; rfl
  | p :: ps, hs, h => by
    obtain ⟨a, t, rfl, _, ht⟩ := h
    simp [InR.len ht]
theorem zOwn_in {b : Int} : ∀ {ps : List Pas} {hs : List Int}, InR ps hs → zOwn b ps hs ∈ zAll b ps
  | [], hs, h => by
    obtain rfl : hs = [] := h
    simp [zAll, genT, zOwn]
  | p :: ps, hs, h => by
    obtain ⟨a, t, rfl, ha, ht⟩ := h
    have ih := zOwn_in (b := b) ht
    by_cases hb : p.b = b
    · rw [zAll_own hb, List.mem_flatMap]
      refine ⟨(a - p.lo).toNat, List.mem_range.2 (by omega), List.mem_map.2 ⟨zOwn b ps t, ih, ?_⟩⟩
      rw [show p.lo + (((a - p.lo).toNat : Nat) : Int) = a from by omega]
      simp [zOwn, hb]
    · rw [zAll_oth hb]
      simpa [zOwn, hb] using ih
theorem zAll_ex {b : Int} : ∀ {ps : List Pas} {z : List (Pas × Int)}, (∀ p ∈ ps, p.lo ≤ p.hi) → z ∈ zAll b ps → ∃ hs, InR ps hs ∧ zOwn b ps hs = z
  | [], z, _, h => by
    refine ⟨[], rfl, ?_⟩
    simp [zAll, genT, zOwn] at h
    subst h; rfl
  | p :: ps, z, hp, h => by
    have hp2 : ∀ q ∈ ps, q.lo ≤ q.hi := fun q hq => hp q (List.mem_cons_of_mem _ hq)
    by_cases hb : p.b = b
    · rw [zAll_own hb, List.mem_flatMap] at h
      obtain ⟨j, hj, h⟩ := h
      obtain ⟨z', hz', rfl⟩ := List.mem_map.1 h
      obtain ⟨hs, h1, rfl⟩ := zAll_ex hp2 hz'
      rw [List.mem_range] at hj
      refine ⟨(p.lo + (j : Int)) :: hs, ⟨_, _, rfl, by omega, h1⟩, ?_⟩
      simp [zOwn, hb]
    · rw [zAll_oth hb] at h
      obtain ⟨hs, h1, rfl⟩ := zAll_ex hp2 h
      refine ⟨p.lo :: hs, ⟨_, _, rfl, ⟨Int.le_refl _, hp p (List.mem_cons_self ..)⟩, h1⟩, ?_⟩
      simp [zOwn, hb]
/-- The hours of all passes that are possible, and who has the bottle. -/
theorem poss_iff {s : Smp} (hp : ∀ p ∈ s.ps, p.lo ≤ p.hi) {b : Int} : possF s b = true ↔ ∃ hs q, InR s.ps hs ∧ chN s b hs (s.L + 1).toNat = some q ∧ canF s b (padC q.1) = true := by
  have hz : ∀ c, c ∈ chainsL s b ↔ ∃ z ∈ zAll b s.ps, zchF s.L s.F b z = some c := fun c => by
    show c ∈ ddC s b (timesL s b) ↔ _
    rw [ddC_mem]
    unfold zAll timesL
    constructor
    · rintro ⟨ts, h1, h2⟩
      refine ⟨_, List.mem_map.2 ⟨ts, h1, rfl⟩, ?_⟩
      rw [← chF_z (genT_len b s.ps [] ts h1 |>.trans (by simp))]; exact h2
    · rintro ⟨z, h1, h2⟩
      obtain ⟨ts, h3, rfl⟩ := List.mem_map.1 h1
      exact ⟨ts, h3, by rw [chF_z (genT_len b s.ps [] ts h3 |>.trans (by simp))]; exact h2⟩
  unfold possF
  rw [List.any_eq_true]
  constructor
  · rintro ⟨c, h1, h2⟩
    obtain ⟨z, h3, h4⟩ := (hz c).1 h1
    obtain ⟨hs, h5, rfl⟩ := zAll_ex hp h3
    unfold zchF at h4
    rw [← chN_z s b hs h5.len] at h4
    obtain ⟨q, h6, rfl⟩ := Option.map_eq_some_iff.1 h4
    exact ⟨hs, q, h5, h6, h2⟩
  · rintro ⟨hs, q, h1, h2, h3⟩
    refine ⟨padC q.1, (hz _).2 ⟨zOwn b s.ps hs, zOwn_in h1, ?_⟩, h3⟩
    unfold zchF
    rw [← chN_z s b hs h1.len, h2]; rfl
theorem VSm.ple {s : Smp} (hv : VSm s) : ∀ p ∈ s.ps, p.lo ≤ p.hi := fun p hp => (hv.ps p hp).2.2.2.2.2.1
theorem hasB_poss {s : Smp} (hv : VSm s) (b : Int) : hasB s b = possF s b := by
  rw [Bool.eq_iff_iff, poss_iff hv.ple]
  have hl0 := hv.l0
  have hcan : ∀ (hs : List Int) q, chN s b hs (s.L + 1).toNat = some q → passF s b q.1 = canF s b (padC q.1) := fun hs q hq =>
    pass_can hl0 fun h hh => stB_pad (by have := chN_len hq; omega)
  unfold hasB
  rw [List.any_eq_true]
  constructor
  · rintro ⟨n, hn, h1⟩
    unfold hasN heldF at h1
    cases hc : chN s b (nthL s n) (s.L + 1).toNat with
    | none => rw [hc] at h1; cases h1
    | some q =>
      rw [hc] at h1
      refine ⟨nthL s n, q, by rw [nthL_C]; exact nthC_in _ hv.ple, hc, ?_⟩
      rw [← hcan _ q hc]; exact h1
  · rintro ⟨hs, q, h1, h2, h3⟩
    obtain ⟨n, hn, rfl⟩ := nthC_all hv.ple h1
    refine ⟨n.toNat, List.mem_range.2 (by omega), ?_⟩
    unfold hasN heldF
    rw [nthL_C, show ((n.toNat : Nat) : Int) = n from by omega, h2]
    show passF s b q.1 = true
    rw [hcan _ q h2]; exact h3
theorem hasF_cons {s : Smp} (hv : VSm s) : hasF s = consF s := by
  unfold hasF consF
  exact congrArg (fun f => (List.range s.B.toNat).all f) (funext fun b => hasB_poss hv b)
theorem hasC_c (s : Smp) (hf : Few s) (hv : VSm s) (tv pv gv : Value) (w : World) (hr : RdSm w s tv pv gv) : CnV Tryz.prog 39 #[smV s tv pv gv] w (.bool (consF s)) := by
  rw [← hasF_cons hv]; exact has_c s hf hv tv pv gv w hr
end Go.Sp
/-
  Runs: what can be done with a bottle, from hour to hour; what ask returns, in terms of them.
-/
namespace Go.Sp
open Go Go.Proofs
/-- What is done in the last k hours, from a seal on. -/
def RunF (s : Smp) (b : Int) (c : List Int) : Nat → Bool → List (Bool × Int) → Prop
  | 0, _, l => l = []
  | k + 1, x, l => ∃ z t, l = z :: t ∧ z ∈ stepL s b (s.L - k) (stB s c (s.L - k)) x ∧ RunF s b c k z.1 t
def sumR (l : List (Bool × Int)) : Int := (l.map Prod.snd).sum
theorem rst_run {s : Smp} {b : Int} {c : List Int} : ∀ {k : Nat} {x : Bool}, (rstF s b c k x).isSome = true ↔ ∃ l, RunF s b c k x l
  | 0, x => ⟨fun _ => ⟨[], rfl⟩, fun _ => rfl⟩
  | k + 1, x => by
    rw [rst_some]
    constructor
    · rintro ⟨y, hy, h⟩
      obtain ⟨t, ht⟩ := rst_run.1 h
      exact ⟨y :: t, y, t, rfl, hy, ht⟩
    · rintro ⟨l, z, t, rfl, hz, ht⟩
      exact ⟨z, hz, rst_run.2 ⟨t, ht⟩⟩
theorem minP_le {l : List (Bool × Int)} {r : Bool → Option Int} : ∀ {n : Nat} {m : Int}, n ≤ l.length → minP l r n = some m → (∃ i, i < n ∧ ∃ v, r (l.getD i (false, 0)).1 = some v ∧ m = v + (l.getD i (false, 0)).2) ∧ ∀ i, i < n → ∀ v, r (l.getD i (false, 0)).1 = some v → m ≤ v + (l.getD i (false, 0)).2
  | 0, m, _, h => by cases h
  | n + 1, m, hn, h => by
    rw [minP] at h
    split at h
    · rename_i h0
      obtain ⟨⟨i, hi, h1⟩, h2⟩ := minP_le (by omega) h
      refine ⟨⟨i, by omega, h1⟩, fun i hi v hv => ?_⟩
      by_cases hin : i = n
      · subst hin; rw [h0] at hv; cases hv
      · exact h2 i (by omega) v hv
    · rename_i m1 h0
      split at h
      · rename_i h3
        cases h
        refine ⟨⟨n, by omega, m1, h0, rfl⟩, fun i hi v hv => ?_⟩
        by_cases hin : i = n
        · subst hin; rw [h0] at hv; cases hv; exact Int.le_refl _
        · have := minP_some (l := l) (r := r) (n := n) (by omega) (i := i) (by omega) (by rw [hv]; rfl)
          rw [h3] at this; cases this
      · rename_i own h3
        cases h
        obtain ⟨⟨i, hi, v, h1, h4⟩, h2⟩ := minP_le (by omega) h3
        refine ⟨?_, fun i hi v hv => ?_⟩
        · by_cases hle : own ≤ m1 + (l.getD n (false, 0)).2
          · exact ⟨i, by omega, v, h1, by omega⟩
          · exact ⟨n, by omega, m1, h0, by omega⟩
        · by_cases hin : i = n
          · subst hin; rw [h0] at hv; cases hv; omega
          · have := h2 i (by omega) v hv; omega
theorem rst_min {s : Smp} {b : Int} {c : List Int} : ∀ {k : Nat} {x : Bool} {m : Int}, rstF s b c k x = some m → (∃ l, RunF s b c k x l ∧ sumR l = m) ∧ ∀ l, RunF s b c k x l → m ≤ sumR l
  | 0, x, m, h => by
    cases h
    exact ⟨⟨[], rfl, rfl⟩, fun l hl => by obtain rfl : l = [] := hl; exact Int.le_refl _⟩
  | k + 1, x, m, h => by
    rw [rstF] at h
    obtain ⟨⟨i, hi, v, h1, h2⟩, h3⟩ := minP_le (Nat.le_refl _) h
    constructor
    · obtain ⟨⟨t, ht, hs⟩, _⟩ := rst_min h1
      refine ⟨_ :: t, ⟨_, t, rfl, getD_memG hi, ht⟩, ?_⟩
      rw [h2, ← hs]
      simp [sumR, Int.add_comm]
    · rintro l ⟨z, t, rfl, hz, ht⟩
      obtain ⟨j, hj, rfl⟩ := List.getElem_of_mem hz
      have hso := rst_run.2 ⟨t, ht⟩
      obtain ⟨v', hv'⟩ := Option.isSome_iff_exists.1 hso
      have h4 := (rst_min hv').2 t ht
      have e : (stepL s b (s.L - k) (stB s c (s.L - k)) x).getD j (false, 0) = (stepL s b (s.L - k) (stB s c (s.L - k)) x)[j] := by
        rw [List.getD_eq_getElem?_getD, List.getElem?_eq_getElem hj]; rfl
      have h5 := h3 j hj v' (by rw [e]; exact hv')
      rw [e] at h5
      simp only [sumR, List.map_cons, List.sum_cons] at h4 ⊢
      omega
/-- What is done in the first hours. -/
def PreF (s : Smp) (b : Int) (c : List Int) : Nat → List (Bool × Int) → Bool → Prop
  | 0, l, x => l = [] ∧ x = false
  | h + 1, l, x => ∃ l' z y, l = l' ++ [z] ∧ PreF s b c h l' y ∧ z ∈ stepL s b h (stB s c h) y ∧ z.1 = x
theorem PreF.len {s : Smp} {b : Int} {c : List Int} : ∀ {h : Nat} {l : List (Bool × Int)} {x : Bool}, PreF s b c h l x → l.length = h
  | 0, _, _, ⟨rfl, _⟩ => rfl
  | h + 1, _, _, ⟨l', z, y, rfl, h1, _, _⟩ => by simp [PreF.len h1]
theorem PreF.join {s : Smp} {b : Int} {c : List Int} : ∀ {h : Nat} {l : List (Bool × Int)} {x : Bool} {t : List (Bool × Int)}, (h : Int) ≤ s.L + 1 → PreF s b c h l x → RunF s b c (s.L + 1 - h).toNat x t → RunF s b c (s.L + 1).toNat false (l ++ t)
  | 0, _, _, t, hh, ⟨rfl, rfl⟩, h => by
    rw [show (s.L + 1 - ((0 : Nat) : Int)).toNat = (s.L + 1).toNat from by omega] at h
    exact h
  | h + 1, _, _, t, hh, ⟨l', z, y, rfl, h1, h2, h3⟩, ht => by
    rw [List.append_assoc]
    subst h3
    refine PreF.join (h := h) (by omega) h1 ?_
    rw [show (s.L + 1 - (h : Int)).toNat = (s.L + 1 - ((h + 1 : Nat) : Int)).toNat + 1 from by omega]
    refine ⟨z, t, rfl, ?_, ht⟩
    rw [show s.L - (((s.L + 1 - ((h + 1 : Nat) : Int)).toNat : Nat) : Int) = (h : Int) from by omega]
    exact h2
theorem RunF.split {s : Smp} {b : Int} {c : List Int} {l : List (Bool × Int)} (hl : RunF s b c (s.L + 1).toNat false l) : ∀ h : Nat, (h : Int) ≤ s.L + 1 → ∃ l1 t x, l = l1 ++ t ∧ PreF s b c h l1 x ∧ RunF s b c (s.L + 1 - h).toNat x t
  | 0, _ => ⟨[], l, false, rfl, ⟨rfl, rfl⟩, by rw [show (s.L + 1 - ((0 : Nat) : Int)).toNat = (s.L + 1).toNat from by omega]; exact hl⟩
  | h + 1, hh => by
    obtain ⟨l1, t, x, rfl, h1, h2⟩ := RunF.split hl h (by omega)
    rw [show (s.L + 1 - (h : Int)).toNat = (s.L + 1 - ((h + 1 : Nat) : Int)).toNat + 1 from by omega] at h2
    obtain ⟨z, t', rfl, hz, ht⟩ := h2
    rw [show s.L - (((s.L + 1 - ((h + 1 : Nat) : Int)).toNat : Nat) : Int) = (h : Int) from by omega] at hz
    exact ⟨l1 ++ [z], t', z.1, by simp, ⟨l1, z, x, rfl, h1, hz, rfl⟩, ht⟩
theorem RunF.len {s : Smp} {b : Int} {c : List Int} : ∀ {k : Nat} {x : Bool} {l : List (Bool × Int)}, RunF s b c k x l → l.length = k
  | 0, _, _, h => by obtain rfl := h; rfl
  | k + 1, _, _, ⟨z, t, h, _, ht⟩ => by subst h; simp [RunF.len ht]
theorem ddB_mem (x : Bool) : ∀ l : List Bool, x ∈ ddB l ↔ x ∈ l := by
  intro l
  obtain ⟨r, rfl⟩ : ∃ r : List Bool, l = r.reverse := ⟨l.reverse, by simp⟩
  induction r with
  | nil => simp [ddB]
  | cons y r ih =>
    rw [List.reverse_cons, ddB_snoc]
    split
    · rename_i h
      rw [ih, List.mem_append]
      constructor
      · exact fun h => .inl h
      · rintro (h1 | h1)
        · exact h1
        · obtain rfl := List.mem_singleton.1 h1
          obtain ⟨z, hz, hxz⟩ := List.any_eq_true.1 h
          obtain rfl := of_decide_eq_true hxz
          exact ih.1 hz
    · rw [List.mem_append, List.mem_append, ih]
theorem cnd_mem {s : Smp} {b : Int} {c : List Int} {h : Nat} {now : List Bool} {z : Bool × Int} : z ∈ cnd s b c h now ↔ ∃ x ∈ now, z ∈ stepL s b h (stB s c h) x ∧ (rstF s b c (s.L - h).toNat z.1).isSome = true := by
  show z ∈ (now.flatMap fun x => onL s b c h x (stepL s b h (stB s c h) x).length) ↔ _
  rw [List.mem_flatMap]
  constructor
  · rintro ⟨x, hx, h1⟩
    unfold onL at h1
    rw [List.take_length] at h1
    obtain ⟨h2, h3⟩ := List.mem_filter.1 h1
    exact ⟨x, hx, h2, h3⟩
  · rintro ⟨x, hx, h2, h3⟩
    refine ⟨x, hx, ?_⟩
    unfold onL
    rw [List.take_length]
    exact List.mem_filter.2 ⟨h2, h3⟩
theorem nowN_mem {s : Smp} {b : Int} {c : List Int} (hc : canF s b c = true) : ∀ {h : Nat} {x : Bool}, (h : Int) ≤ s.L + 1 → (x ∈ nowN s b c h ↔ (∃ l, PreF s b c h l x) ∧ (rstF s b c (s.L + 1 - h).toNat x).isSome = true)
  | 0, x, _ => by
    unfold canF at hc
    rw [nowN, List.mem_singleton, show (s.L + 1 - ((0 : Nat) : Int)).toNat = (s.L + 1).toNat from by omega]
    constructor
    · rintro rfl; exact ⟨⟨[], rfl, rfl⟩, hc⟩
    · rintro ⟨⟨l, _, h⟩, _⟩; exact h
  | h + 1, x, hh => by
    rw [nowN, ddB_mem, List.mem_map]
    have e : (s.L + 1 - ((h + 1 : Nat) : Int)).toNat = (s.L - (h : Int)).toNat := by omega
    have e1 : (s.L + 1 - (h : Int)).toNat = (s.L - (h : Int)).toNat + 1 := by omega
    have e2 : s.L - (((s.L - (h : Int)).toNat : Nat) : Int) = (h : Int) := by omega
    rw [e]
    constructor
    · rintro ⟨z, hz, rfl⟩
      obtain ⟨y, hy, h1, h2⟩ := cnd_mem.1 hz
      obtain ⟨⟨l, hl⟩, _⟩ := (nowN_mem hc (by omega)).1 hy
      exact ⟨⟨l ++ [z], l, z, y, rfl, hl, h1, rfl⟩, h2⟩
    · rintro ⟨⟨l, l', z, y, rfl, h1, h2, h3⟩, h4⟩
      subst h3
      refine ⟨z, cnd_mem.2 ⟨y, (nowN_mem hc (by omega)).2 ⟨⟨l', h1⟩, ?_⟩, h2, h4⟩, rfl⟩
      rw [e1, rst_some]
      exact ⟨z, by rw [e2]; exact h2, h4⟩
theorem opn_run {s : Smp} {b : Int} {c : List Int} (hc : canF s b c = true) {h : Nat} (hh : (h : Int) ≤ s.L) : opnH s b c h = true ↔ ∃ l, RunF s b c (s.L + 1).toNat false l ∧ (l.getD h (false, 0)).2 = 1 := by
  have e1 : (s.L + 1 - (h : Int)).toNat = (s.L - (h : Int)).toNat + 1 := by omega
  have e2 : s.L - (((s.L - (h : Int)).toNat : Nat) : Int) = (h : Int) := by omega
  unfold opnH
  rw [List.any_eq_true]
  constructor
  · rintro ⟨z, hz, h1⟩
    obtain ⟨x, hx, h2, h3⟩ := cnd_mem.1 hz
    obtain ⟨⟨l, hl⟩, _⟩ := (nowN_mem hc (by omega)).1 hx
    obtain ⟨t, ht⟩ := rst_run.1 h3
    refine ⟨l ++ z :: t, hl.join (by omega) ?_, ?_⟩
    · rw [e1]; exact ⟨z, t, rfl, by rw [e2]; exact h2, ht⟩
    · rw [List.getD_eq_getElem?_getD, List.getElem?_append_right (by rw [hl.len]; exact Nat.le_refl _), hl.len, Nat.sub_self]
      exact of_decide_eq_true h1
  · rintro ⟨l, hl, h1⟩
    obtain ⟨l1, t, x, rfl, h2, h3⟩ := hl.split h (by omega)
    have h3' := h3
    rw [e1] at h3
    obtain ⟨z, t', rfl, hz, ht⟩ := h3
    rw [e2] at hz
    rw [List.getD_eq_getElem?_getD, List.getElem?_append_right (by rw [h2.len]; exact Nat.le_refl _), h2.len, Nat.sub_self] at h1
    exact ⟨z, cnd_mem.2 ⟨x, (nowN_mem hc (by omega)).2 ⟨⟨l1, h2⟩, rst_run.2 ⟨_, h3'⟩⟩, hz, rst_run.2 ⟨t', ht⟩⟩, decide_eq_true h1⟩
theorem opnL_get {s : Smp} {b : Int} {c : List Int} {h : Nat} (hh : (h : Int) ≤ s.L) (h9 : s.L ≤ 9) : (opnL s b c).getD h false = opnH s b c h := by
  show (outN s b c (s.L + 1).toNat false).getD h false = _
  rw [outN_get (by omega), if_pos (by omega)]
theorem getD_setB {l : List Bool} {i o : Nat} {v : Bool} (hi : i < l.length) : (l.set i v).getD o false = if i = o then v else l.getD o false := by
  rw [List.getD_eq_getElem?_getD, List.getD_eq_getElem?_getD, List.getElem?_set]
  split
  · rename_i h; subst h; simp [hi]
  · rfl
theorem hlN_get {s : Smp} {c : List Int} (hv : VSm s) (hco : ChOk s c) {q : Kwn} (hq : KnOk q) (o : Nat) : ∀ n : Nat, (n : Int) ≤ s.L + 1 → ((hlN c q n).getD o false = true ↔ q.hol.getD o false = true ∨ ∃ h : Nat, h < n ∧ o = h * 4 + (c.getD h 0).toNat)
  | 0, _ => by
    rw [hlN]
    exact ⟨fun h => .inl h, fun h => h.resolve_right (fun ⟨m, hm, _⟩ => absurd hm (Nat.not_lt_zero m))⟩
  | n + 1, hn => by
    have ih := hlN_get hv hco hq o n (by omega)
    have hl := (kqN_ok (s := s) (b := 0) (c := c) hq n).h
    have hl' : (hlN c q n).length = 40 := hl
    have h9 := hv.l9
    have hp4 := hv.p4
    have hcn := hco.pp n (by omega)
    rw [hlN, show 0 + Int.toNat (n : Int) * 4 + Int.toNat (c.getD (0 + Int.toNat (n : Int) * 1) 0) * 1 = n * 4 + (c.getD n 0).toNat from by rw [show 0 + Int.toNat (n : Int) * 1 = n from by omega]; omega, getD_setB (by omega)]
    split
    · rename_i h; exact ⟨fun _ => .inr ⟨n, by omega, h.symm⟩, fun _ => rfl⟩
    · rename_i hne
      rw [ih]
      constructor
      · rintro (h1 | ⟨m, h1, h2⟩)
        · exact .inl h1
        · exact .inr ⟨m, by omega, h2⟩
      · rintro (h1 | ⟨m, h1, h2⟩)
        · exact .inl h1
        · by_cases hm : m = n
          · subst hm; exact absurd h2.symm hne
          · exact .inr ⟨m, by omega, h2⟩
theorem opN_get {s : Smp} {c : List Int} (hv : VSm s) (hco : ChOk s c) {q : Kwn} (hq : KnOk q) (op : List Bool) (o : Nat) : ∀ n : Nat, (n : Int) ≤ s.L + 1 → ((opN c op q n).getD o false = true ↔ q.opn.getD o false = true ∨ ∃ h : Nat, h < n ∧ o = (c.getD h 0).toNat ∧ op.getD h false = true)
  | 0, _ => by
    rw [opN]
    exact ⟨fun h => .inl h, fun h => h.resolve_right (fun ⟨m, hm, _⟩ => absurd hm (Nat.not_lt_zero m))⟩
  | n + 1, hn => by
    have ih := opN_get hv hco hq op o n (by omega)
    have hl' : (opN c op q n).length = 4 := by
      clear ih hn
      induction n with
      | zero => exact hq.o
      | succ n ih => rw [opN, List.length_set]; exact ih
    have h9 := hv.l9
    have hp4 := hv.p4
    have hcn := hco.pp n (by omega)
    rw [opN, show 0 + Int.toNat (n : Int) * 1 = n from by omega, show Int.toNat (c.getD n 0) * 1 = (c.getD n 0).toNat from by omega, getD_setB (by omega)]
    split
    · rename_i h
      subst h
      rw [Bool.or_eq_true, ih]
      constructor
      · rintro ((h1 | ⟨m, h1, h2⟩) | h1)
        · exact .inl h1
        · exact .inr ⟨m, by omega, h2⟩
        · exact .inr ⟨n, by omega, rfl, h1⟩
      · rintro (h1 | ⟨m, h1, h2, h3⟩)
        · exact .inl (.inl h1)
        · by_cases hm : m = n
          · subst hm; exact .inr h3
          · exact .inl (.inr ⟨m, by omega, h2, h3⟩)
    · rename_i hne
      rw [ih]
      constructor
      · rintro (h1 | ⟨m, h1, h2⟩)
        · exact .inl h1
        · exact .inr ⟨m, by omega, h2⟩
      · rintro (h1 | ⟨m, h1, h2⟩)
        · exact .inl h1
        · by_cases hm : m = n
          · subst hm; exact absurd h2.1.symm hne
          · exact .inr ⟨m, by omega, h2⟩
theorem ask_hol {s : Smp} (hv : VSm s) {b : Int} (o : Nat) : (askF s b).hol.getD o false = true ↔ ∃ c ∈ chainsL s b, canF s b c = true ∧ ∃ h : Nat, (h : Int) ≤ s.L ∧ o = h * 4 + (c.getD h 0).toNat := by
  have h0 := hv.l0
  have gen : ∀ (l : List (List Int)) (q : Kwn), KnOk q → (∀ c ∈ l, ChOk s c) → ((l.foldl (askU s b) q).hol.getD o false = true ↔ q.hol.getD o false = true ∨ ∃ c ∈ l, canF s b c = true ∧ ∃ h : Nat, (h : Int) ≤ s.L ∧ o = h * 4 + (c.getD h 0).toNat) := fun l => by
    induction l with
    | nil => intro q _ _; simp
    | cons c l ih =>
      intro q hq hl
      rw [List.foldl_cons, ih _ (askU_ok hq) (fun c hc => hl c (List.mem_cons_of_mem _ hc))]
      have hco := hl c (List.mem_cons_self ..)
      unfold askU
      split
      · rename_i hc
        rw [show (Kwn.mk (hlN c q (s.L + 1).toNat) _ _ _).hol = hlN c q (s.L + 1).toNat from rfl, hlN_get hv hco hq o _ (by omega)]
        constructor
        · rintro ((h1 | ⟨h, h1, h2⟩) | ⟨c', h1, h2⟩)
          · exact .inl h1
          · exact .inr ⟨c, List.mem_cons_self .., hc, h, by omega, h2⟩
          · exact .inr ⟨c', List.mem_cons_of_mem _ h1, h2⟩
        · rintro (h1 | ⟨c', h1, h2, h, h3, h4⟩)
          · exact .inl (.inl h1)
          · rcases List.mem_cons.1 h1 with rfl | h1
            · exact .inl (.inr ⟨h, by omega, h4⟩)
            · exact .inr ⟨c', h1, h2, h, h3, h4⟩
      · rename_i hc
        constructor
        · rintro (h1 | ⟨c', h1, h2⟩)
          · exact .inl h1
          · exact .inr ⟨c', List.mem_cons_of_mem _ h1, h2⟩
        · rintro (h1 | ⟨c', h1, h2, h3⟩)
          · exact .inl h1
          · rcases List.mem_cons.1 h1 with rfl | h1
            · exact absurd h2 hc
            · exact .inr ⟨c', h1, h2, h3⟩
  have := gen (chainsL s b) kn0 ⟨rfl, rfl⟩ (fun c hc => chainsL_ok hv hc)
  unfold askF
  rw [this]
  have hz : kn0.hol.getD o false = false := by
    rw [kn0, List.getD_eq_getElem?_getD, List.getElem?_replicate]; split <;> rfl
  rw [hz]
  exact ⟨fun h => h.resolve_left (by decide), fun h => .inr h⟩
theorem ask_opn {s : Smp} (hv : VSm s) {b : Int} (o : Nat) : (askF s b).opn.getD o false = true ↔ ∃ c ∈ chainsL s b, canF s b c = true ∧ ∃ h : Nat, (h : Int) ≤ s.L ∧ o = (c.getD h 0).toNat ∧ opnH s b c h = true := by
  have h0 := hv.l0
  have h9 := hv.l9
  have gen : ∀ (l : List (List Int)) (q : Kwn), KnOk q → (∀ c ∈ l, ChOk s c) → ((l.foldl (askU s b) q).opn.getD o false = true ↔ q.opn.getD o false = true ∨ ∃ c ∈ l, canF s b c = true ∧ ∃ h : Nat, (h : Int) ≤ s.L ∧ o = (c.getD h 0).toNat ∧ opnH s b c h = true) := fun l => by
    induction l with
    | nil => intro q _ _; simp
    | cons c l ih =>
      intro q hq hl
      rw [List.foldl_cons, ih _ (askU_ok hq) (fun c hc => hl c (List.mem_cons_of_mem _ hc))]
      have hco := hl c (List.mem_cons_self ..)
      unfold askU
      split
      · rename_i hc
        rw [show (Kwn.mk _ (opN c (opnL s b c) q (s.L + 1).toNat) _ _).opn = opN c (opnL s b c) q (s.L + 1).toNat from rfl, opN_get hv hco hq _ o _ (by omega)]
        constructor
        · rintro ((h1 | ⟨h, h1, h2, h3⟩) | ⟨c', h1, h2⟩)
          · exact .inl h1
          · exact .inr ⟨c, List.mem_cons_self .., hc, h, by omega, h2, by rw [opnL_get (by omega) h9] at h3; exact h3⟩
          · exact .inr ⟨c', List.mem_cons_of_mem _ h1, h2⟩
        · rintro (h1 | ⟨c', h1, h2, h, h3, h4, h5⟩)
          · exact .inl (.inl h1)
          · rcases List.mem_cons.1 h1 with rfl | h1
            · exact .inl (.inr ⟨h, by omega, h4, by rw [opnL_get (by omega) h9]; exact h5⟩)
            · exact .inr ⟨c', h1, h2, h, h3, h4, h5⟩
      · rename_i hc
        constructor
        · rintro (h1 | ⟨c', h1, h2⟩)
          · exact .inl h1
          · exact .inr ⟨c', List.mem_cons_of_mem _ h1, h2⟩
        · rintro (h1 | ⟨c', h1, h2, h3⟩)
          · exact .inl h1
          · rcases List.mem_cons.1 h1 with rfl | h1
            · exact absurd h2 hc
            · exact .inr ⟨c', h1, h2, h3⟩
  have := gen (chainsL s b) kn0 ⟨rfl, rfl⟩ (fun c hc => chainsL_ok hv hc)
  unfold askF
  rw [this]
  have hz : kn0.opn.getD o false = false := by
    rw [kn0, List.getD_eq_getElem?_getD, List.getElem?_replicate]; split <;> rfl
  rw [hz]
  exact ⟨fun h => h.resolve_left (by decide), fun h => .inr h⟩
theorem ask_least {s : Smp} {b : Int} (hp : possF s b = true) : (∃ c ∈ chainsL s b, canF s b c = true ∧ lsN s b c = (askF s b).least) ∧ ∀ c ∈ chainsL s b, canF s b c = true → (askF s b).least ≤ lsN s b c := by
  have gen : ∀ (l : List (List Int)) (q : Kwn), ((l.foldl (askU s b) q).sm = true → (q.sm = true ∧ (l.foldl (askU s b) q).least = q.least) ∨ ∃ c ∈ l, canF s b c = true ∧ lsN s b c = (l.foldl (askU s b) q).least) ∧ ((q.sm = true → (l.foldl (askU s b) q).least ≤ q.least) ∧ ∀ c ∈ l, canF s b c = true → (l.foldl (askU s b) q).least ≤ lsN s b c) := fun l => by
    induction l with
    | nil => intro q; exact ⟨fun h => .inl ⟨h, rfl⟩, fun _ => Int.le_refl _, fun c hc => by cases hc⟩
    | cons c l ih =>
      intro q
      rw [List.foldl_cons]
      obtain ⟨i1, i2, i3⟩ := ih (askU s b q c)
      by_cases hc : canF s b c = true
      · have e : (askU s b q c).least = if q.sm = true ∧ ¬ lsN s b c < q.least then q.least else lsN s b c := by unfold askU; rw [if_pos hc]
        have e2 : (askU s b q c).sm = true := by unfold askU; rw [if_pos hc]
        refine ⟨fun h => ?_, fun hq => ?_, fun c' hc' hcc => ?_⟩
        · rcases i1 h with ⟨_, h2⟩ | ⟨c', h1, h2⟩
          · rw [h2, e]
            split
            · rename_i hh; exact .inl ⟨hh.1, rfl⟩
            · exact .inr ⟨c, List.mem_cons_self .., hc, rfl⟩
          · exact .inr ⟨c', List.mem_cons_of_mem _ h1, h2⟩
        · have := i2 e2
          rw [e] at this
          split at this
          · exact this
          · rename_i hh
            have : lsN s b c < q.least := Decidable.byContradiction fun g => hh ⟨hq, g⟩
            omega
        · rcases List.mem_cons.1 hc' with rfl | hc'
          · have := i2 e2
            rw [e] at this
            split at this
            · rename_i hh; omega
            · exact this
          · exact i3 c' hc' hcc
      · have e : askU s b q c = q := by unfold askU; rw [if_neg hc]
        rw [e] at i1 i2 i3 ⊢
        refine ⟨fun h => ?_, i2, fun c' hc' hcc => ?_⟩
        · rcases i1 h with h1 | ⟨c', h1, h2⟩
          · exact .inl h1
          · exact .inr ⟨c', List.mem_cons_of_mem _ h1, h2⟩
        · rcases List.mem_cons.1 hc' with rfl | hc'
          · exact absurd hcc hc
          · exact i3 c' hc' hcc
  obtain ⟨g1, _, g3⟩ := gen (chainsL s b) kn0
  have hsm := askF_sm s b
  rw [hp] at hsm
  exact ⟨(g1 hsm).resolve_left (fun h => by cases h.1), g3⟩
theorem sure_ok {s : Smp} (hv : VSm s) (hc : consF s = true) : sureE s true = 0 := by
  unfold sureE
  rw [if_neg (fun h => h (chkS_0.2 hv)), if_neg (by decide), if_neg (by rw [hc]; decide)]
end Go.Sp
/-
  The document's examples, computed.
-/
namespace Go.Sp
open Go Go.Proofs
def twoS (m : List Sgt) : Smp := ⟨2, 3, 4, 0, [false, false, true], [⟨0, 0, 1, 1, 2⟩, ⟨0, 1, 2, 3, 3⟩, ⟨1, 0, 1, 2, 2⟩], [⟨0, 2, true⟩, ⟨1, 4, true⟩] ++ m⟩
abbrev badG : Sgt := ⟨0, 2, false⟩
theorem two_few (m : List Sgt) (h : m.length ≤ 1) : Few (twoS m) := ⟨by simp [twoS], by simp [twoS], by simp [twoS]; omega⟩
theorem aw_h : hdE (twoS []) 0 1 = 0 ∧ hdL (twoS []) 0 1 = [0, 1] := by decide +kernel
theorem aw_o : opE (twoS []) 0 = 0 ∧ opL (twoS []) 0 = [2] := by decide +kernel
theorem aw_v : vdE (twoS []) = 0 ∧ vdL (twoS []) = [3, 2] := by decide +kernel
theorem aw_a : alF (twoS []) = 3 := by decide +kernel
theorem aw_l : lsL (twoS []) = [0, 0] := by decide +kernel
theorem aw_f : frsE (twoS [badG]) = (5, 0) := by decide +kernel
theorem aw_x : chkS (twoS [badG]) = 0 ∧ lvN (twoS [badG]) 2 = [3] := by decide +kernel
theorem aw_x2 : levL (twoS [badG]) = [3] := by
  unfold levL lvS
  rw [if_pos aw_x.1, show (twoS [badG]).B.toNat = 2 from rfl, aw_x.2]
  simp
end Go.Sp
/-
  The document's examples, walked: two, awake.
-/
namespace Go.Sp
open Go Go.Proofs
theorem between_c (a b : Int) (w : World) : CnV Tryz.prog 49 #[vi a, vi b] w (.agg #[vi a, vi b]) := by
  refine cnv (vs := [_, _]) Tryz.func49 rfl rfl ?_
  all_goals refine tc_seq fun K1 hK1 => ?_; refine tc_region ?_; refine tl_e (e_allocN rfl) rfl (fun b4 _ => ?_); refine tl_nil ?_; ((refine hK1 ?_; try (clear hK1; clear K1)))
  all_goals refine tc_seq fun K2 hK2 => ?_; refine tc_region ?_; refine tl_q (y_move rfl) rfl ?_; refine tl_q (y_move rfl) rfl ?_; refine tl_q (y_build_g (by repeat constructor)) rfl ?_; refine tl_e (e_storeW rfl rfl (by repeat constructor) (by rfl) (by rfl) (by simp [Value.oneCell'])) rfl (fun _ _ => ?_); refine tl_nil ?_; ((refine hK2 ?_; try (clear hK2; clear K2)))
  all_goals refine tc_ret ?_; (repeat (first | refine tk_then_ret ?_))
  all_goals (refine tk_ret rfl rfl (.cons (.agg inferInstance rfl (by repeat constructor) (by rfl)) .nil) ?_)
  all_goals (
   exact fun w' hw' => ⟨rfl, hw'.fr (by simp)⟩)
set_option maxHeartbeats 1000000 in
theorem two_c (m : List Sgt) (hm : m.length ≤ 1) (mv : Value) (w : World) (hr : RdS 3 sgE w mv m) :
    CnX Tryz.prog 48 #[mv] w [] (fun y : Nat × Nat × Nat × Nat × List Value => smV (twoS m) (.slice (some ⟨y.1, 0, none⟩) 3 3) (.slice (some ⟨y.2.1, 0, none⟩) 3 3) (.slice (some ⟨y.2.2.1, 0, none⟩) (2 + m.length) y.2.2.2.1))
      (fun y w' => RdSm w' (twoS m) (.slice (some ⟨y.1, 0, none⟩) 3 3) (.slice (some ⟨y.2.1, 0, none⟩) 3 3) (.slice (some ⟨y.2.2.1, 0, none⟩) (2 + m.length) y.2.2.2.1)) := by
  refine cnx0 (vs := [_]) Tryz.func48 rfl rfl ?_
  all_goals refine tc_seq fun K1 hK1 => ?_; refine tc_region ?_; refine tl_e (e_allocN rfl) rfl (fun b2 _ => ?_); refine tl_nil ?_; ((refine hK1 ?_; try (clear hK1; clear K1)))
  all_goals refine tc_seq fun K2 hK2 => ?_; refine tc_region ?_; ((refine tl_e (e_bslice rfl (by (repeat (first | exact .nil | apply PV.one rfl rfl)); done) rfl rfl) rfl (fun b3 _ => ?_)))
  all_goals refine tl_e (e_callV rfl (.cons rfl (.cons rfl .nil)) (fun w' _ => between_c _ _ w')) rfl (fun _ _ => ?_); refine tl_q (y_build_g (by repeat constructor)) rfl ?_; refine tl_e (e_callV rfl (.cons rfl (.cons rfl .nil)) (fun w' _ => between_c _ _ w')) rfl (fun _ _ => ?_); refine tl_q (y_build_g (by repeat constructor)) rfl ?_; refine tl_e (e_callV rfl (.cons rfl (.cons rfl .nil)) (fun w' _ => between_c _ _ w')) rfl (fun _ _ => ?_); refine tl_q (y_build_g (by repeat constructor)) rfl ?_; refine tl_e (e_bsliceG rfl (.agg rfl rfl (.agg rfl rfl (.agg rfl rfl .nil))) rfl rfl) rfl (fun b10 _ => ?_); refine tl_q (y_build_g (by repeat constructor)) rfl ?_; refine tl_q (y_build_g (by repeat constructor)) rfl ?_; refine tl_e (e_bsliceG rfl (.agg rfl rfl (.agg rfl rfl .nil)) rfl rfl) rfl (fun b13 _ => ?_); refine tl_q (y_move rfl) rfl ?_; refine tl_e (e_append_own (old := [vi 0, vi 2, .bool true, vi 1, vi 4, .bool true]) (junk := []) rfl rfl rfl (by repeat constructor) rfl rfl (Nat.le_refl 2) (fun w' hw' => hr.fr (hw'.fr (w0 := w) (S := []) MI.m)) (one_flat sgE_one _) (by omega) rfl) rfl (fun r hq => ?_); refine tl_q (y_build_g (by repeat constructor)) rfl ?_; refine tl_e (e_storeW rfl rfl (by repeat constructor) (by rfl) (by rfl) (by simp [Value.oneCell'])) rfl (fun _ _ => ?_); refine tl_nil ?_; ((refine hK2 ?_; try (clear hK2; clear K2)))
  all_goals refine tc_ret ?_; (repeat (first | refine tk_then_ret ?_))
  all_goals (refine tk_ret rfl rfl (.cons (.agg inferInstance rfl (by repeat constructor) (by rfl)) .nil) ?_)
  all_goals (
   refine fun w' hw' => ⟨(b3, b10, r.1, r.2.1, r.2.2), rfl, hw'.fr (w0 := w) (S := []) MI.m, ?_, ?_, ?_⟩
   · exact RdS.own (xs := (twoS m).st) (cap := 3) (junk := []) boE_len hw' (b := b3) (by repeat constructor)
   · exact RdS.own (xs := (twoS m).ps) (cap := 3) (junk := []) psE_len hw' (b := b10) (by repeat constructor)
   · have := RdS.own (xs := (twoS m).sg) (cap := r.2.1) (junk := r.2.2) sgE_len hw' (b := r.1) (by repeat constructor)
     rw [show (twoS m).sg.length = 2 + m.length from by simp [twoS]; omega] at this
     exact this)
theorem two0 : Few (twoS []) := two_few [] (by simp)
theorem two1 : Few (twoS [badG]) := two_few [badG] (by simp)
theorem hold_v (tv pv gv : Value) (w : World) (hr : RdSm w (twoS []) tv pv gv) : CnX Tryz.prog 17 #[smV (twoS []) tv pv gv, vi 0, vi 1] w [] (fun y : Option Addr × Nat => .tuple #[slV 2 y, vi 0]) (fun y w' => RdI w' (slV 2 y) [0, 1]) := by
  have h := holders_c (twoS []) two0 0 1 tv pv gv w hr
  rw [aw_h.1, aw_h.2] at h
  exact h.imp id (fun _ => rfl) (fun _ h => h) (fun _ _ _ h => h.toI)
theorem open_v (tv pv gv : Value) (w : World) (hr : RdSm w (twoS []) tv pv gv) : CnX Tryz.prog 19 #[smV (twoS []) tv pv gv, vi 0] w [] (fun y : Option Addr × Nat => .tuple #[slV 1 y, vi 0]) (fun y w' => RdI w' (slV 1 y) [2]) := by
  have h := openers_c (twoS []) two0 0 tv pv gv w hr
  rw [aw_o.1, aw_o.2] at h
  exact h.imp id (fun _ => rfl) (fun _ h => h) (fun _ _ _ h => h.toI)
theorem verd_v (tv pv gv : Value) (w : World) (hr : RdSm w (twoS []) tv pv gv) : CnX Tryz.prog 26 #[smV (twoS []) tv pv gv] w [] (fun y : Option Addr × Nat => .tuple #[slV 2 y, vi 0]) (fun y w' => RdI w' (slV 2 y) [3, 2]) := by
  have h := verdicts_c (twoS []) two0 tv pv gv w hr
  rw [aw_v.1, aw_v.2] at h
  exact h.imp id (fun _ => rfl) (fun _ h => h) (fun _ _ _ h => h.toI)
theorem alik_v (tv pv gv : Value) (w : World) (hr : RdSm w (twoS []) tv pv gv) : CnV Tryz.prog 27 #[smV (twoS []) tv pv gv] w (.tuple #[vi 3, vi 0]) := by
  have h := alike_c (twoS []) two0 tv pv gv w hr
  rw [aw_a, aw_v.1] at h
  exact h
theorem leas_v (tv pv gv : Value) (w : World) (hr : RdSm w (twoS []) tv pv gv) : CnX Tryz.prog 28 #[smV (twoS []) tv pv gv] w [] (fun y : Option Addr × Nat => .tuple #[slV 2 y, vi 0]) (fun y w' => RdI w' (slV 2 y) [0, 0]) := by
  have h := least_c (twoS []) two0 tv pv gv w hr
  rw [aw_v.1, aw_l] at h
  exact h.imp id (fun _ => rfl) (fun _ h => h) (fun _ _ _ h => h.toI)
theorem frst_v (tv pv gv : Value) (w : World) (hr : RdSm w (twoS [badG]) tv pv gv) : CnV Tryz.prog 30 #[smV (twoS [badG]) tv pv gv] w (.tuple #[vi 5, vi 0]) := by
  have h := first_c (twoS [badG]) two1 tv pv gv w hr
  rw [aw_f] at h
  exact h
theorem leav_v (tv pv gv : Value) (w : World) (hr : RdSm w (twoS [badG]) tv pv gv) : CnX Tryz.prog 31 #[smV (twoS [badG]) tv pv gv] w [] (fun y : Option Addr × Nat => .tuple #[slV 1 y, vi 0]) (fun y w' => RdI w' (slV 1 y) [3]) := by
  have h := leaveAll_c (twoS [badG]) two1 tv pv gv w hr
  rw [aw_x.1, aw_x2] at h
  exact h
set_option maxHeartbeats 4000000 in
theorem awake_c (w : World) : CnV Tryz.prog 16 #[] w (.bool true) := by
  refine cnv (vs := []) Tryz.func16 rfl rfl ?_
  all_goals refine tc_seq fun K1 hK1 => ?_; refine tc_region ?_; refine tl_q (y_assign rfl) rfl ?_; refine tl_nil ?_; ((refine hK1 ?_; try (clear hK1; clear K1)))
  all_goals refine tc_seq fun K2 hK2 => ?_; refine tc_lay ([]) (SB.s .nil) (fun wl1 hl1 => ?_); refine tc_region ?_; refine tl_e (e_callX rfl (.cons rfl .nil) (fun w' hw' => two_c [] (by simp) (.slice none 0 0) w' (RdS.nil _ _ _ _))) rfl (fun x1 hx1 => ?_); refine tl_e (e_callX rfl (.cons rfl (.cons rfl (.cons rfl .nil))) (fun w' hw' => hold_v _ _ _ w' (hx1.1.fr (hw'.calm hx1.2 MI.m SB.s)))) rfl (fun y1 hy1 => ?_); refine tl_q (y_move rfl) rfl ?_; refine tl_q (y_extract rfl rfl) rfl ?_; refine tl_q (y_extract rfl rfl) rfl ?_; refine tl_q (y_assign rfl) rfl ?_; refine tl_q (y_assign rfl) rfl ?_; refine tl_nil ?_; ((refine hK2 ?_; try (clear hK2; clear K2)))
  all_goals refine tc_seq fun K3 hK3 => ?_; refine tc_lay ([]) (SB.s .nil) (fun wl2 hl2 => ?_); refine tc_region ?_; refine tl_e (e_callX rfl (.cons rfl .nil) (fun w' hw' => two_c [] (by simp) (.slice none 0 0) w' (RdS.nil _ _ _ _))) rfl (fun x2 hx2 => ?_); refine tl_e (e_callX rfl (.cons rfl (.cons rfl .nil)) (fun w' hw' => open_v _ _ _ w' (hx2.1.fr (hw'.calm hx2.2 MI.m SB.s)))) rfl (fun y2 hy2 => ?_); refine tl_q (y_move rfl) rfl ?_; refine tl_q (y_extract rfl rfl) rfl ?_; refine tl_q (y_extract rfl rfl) rfl ?_; refine tl_q (y_assign rfl) rfl ?_; refine tl_q (y_assign rfl) rfl ?_; refine tl_nil ?_; ((refine hK3 ?_; try (clear hK3; clear K3)))
  all_goals refine tc_seq fun K4 hK4 => ?_; refine tc_lay ([]) (SB.s .nil) (fun wl3 hl3 => ?_); refine tc_region ?_; refine tl_e (e_callX rfl (.cons rfl .nil) (fun w' hw' => two_c [] (by simp) (.slice none 0 0) w' (RdS.nil _ _ _ _))) rfl (fun x3 hx3 => ?_); refine tl_e (e_callX rfl (.cons rfl .nil) (fun w' hw' => verd_v _ _ _ w' (hx3.1.fr (hw'.calm hx3.2 MI.m SB.s)))) rfl (fun y3 hy3 => ?_); refine tl_q (y_move rfl) rfl ?_; refine tl_q (y_extract rfl rfl) rfl ?_; refine tl_q (y_extract rfl rfl) rfl ?_; refine tl_q (y_assign rfl) rfl ?_; refine tl_q (y_assign rfl) rfl ?_; refine tl_nil ?_; ((refine hK4 ?_; try (clear hK4; clear K4)))
  all_goals refine tc_seq fun K5 hK5 => ?_; refine tc_lay ([]) (SB.s .nil) (fun wl4 hl4 => ?_); refine tc_region ?_; refine tl_e (e_callX rfl (.cons rfl .nil) (fun w' hw' => two_c [] (by simp) (.slice none 0 0) w' (RdS.nil _ _ _ _))) rfl (fun x4 hx4 => ?_); refine tl_e (e_callV rfl (.cons rfl .nil) (fun w' hw' => alik_v _ _ _ w' (hx4.1.fr (hw'.calm hx4.2 MI.m SB.s)))) rfl (fun _ _ => ?_); refine tl_q (y_move rfl) rfl ?_; refine tl_q (y_extract rfl rfl) rfl ?_; refine tl_q (y_extract rfl rfl) rfl ?_; refine tl_q (y_assign rfl) rfl ?_; refine tl_q (y_assign rfl) rfl ?_; refine tl_nil ?_; ((refine hK5 ?_; try (clear hK5; clear K5)))
  all_goals refine tc_seq fun K6 hK6 => ?_; refine tc_lay ([]) (SB.s .nil) (fun wl5 hl5 => ?_); refine tc_region ?_; refine tl_e (e_callX rfl (.cons rfl .nil) (fun w' hw' => two_c [] (by simp) (.slice none 0 0) w' (RdS.nil _ _ _ _))) rfl (fun x5 hx5 => ?_); refine tl_e (e_callX rfl (.cons rfl .nil) (fun w' hw' => leas_v _ _ _ w' (hx5.1.fr (hw'.calm hx5.2 MI.m SB.s)))) rfl (fun y5 hy5 => ?_); refine tl_q (y_move rfl) rfl ?_; refine tl_q (y_extract rfl rfl) rfl ?_; refine tl_q (y_extract rfl rfl) rfl ?_; refine tl_q (y_assign rfl) rfl ?_; refine tl_q (y_assign rfl) rfl ?_; refine tl_nil ?_; ((refine hK6 ?_; try (clear hK6; clear K6)))
  all_goals refine tc_seq fun K7 hK7 => ?_; refine tc_lay ([]) (SB.s .nil) (fun wl6 hl6 => ?_); refine tc_region ?_; refine tl_q (y_build_g (by repeat constructor)) rfl ?_; refine tl_e (e_bsliceG rfl (.agg rfl rfl .nil) rfl rfl) rfl (fun b42 _ => ?_); refine tl_e (e_callX rfl (.cons rfl .nil) (fun w' hw' => two_c [badG] (by simp) _ w' (RdS.own0 (xs := [badG]) sgE_len hw' (by repeat constructor)))) rfl (fun x6 hx6 => ?_); refine tl_e (e_callV rfl (.cons rfl .nil) (fun w' hw' => frst_v _ _ _ w' (hx6.1.fr (hw'.calm hx6.2 MI.m SB.s)))) rfl (fun _ _ => ?_); refine tl_q (y_move rfl) rfl ?_; refine tl_q (y_extract rfl rfl) rfl ?_; refine tl_q (y_extract rfl rfl) rfl ?_; refine tl_q (y_assign rfl) rfl ?_; refine tl_q (y_assign rfl) rfl ?_; refine tl_nil ?_; ((refine hK7 ?_; try (clear hK7; clear K7)))
  all_goals refine tc_seq fun K8 hK8 => ?_; refine tc_lay ([]) (SB.s .nil) (fun wl7 hl7 => ?_); refine tc_region ?_; refine tl_q (y_build_g (by repeat constructor)) rfl ?_; refine tl_e (e_bsliceG rfl (.agg rfl rfl .nil) rfl rfl) rfl (fun b49 _ => ?_); refine tl_e (e_callX rfl (.cons rfl .nil) (fun w' hw' => two_c [badG] (by simp) _ w' (RdS.own0 (xs := [badG]) sgE_len hw' (by repeat constructor)))) rfl (fun x7 hx7 => ?_); refine tl_e (e_callX rfl (.cons rfl .nil) (fun w' hw' => leav_v _ _ _ w' (hx7.1.fr (hw'.calm hx7.2 MI.m SB.s)))) rfl (fun y7 hy7 => ?_); refine tl_q (y_move rfl) rfl ?_; refine tl_q (y_extract rfl rfl) rfl ?_; refine tl_q (y_extract rfl rfl) rfl ?_; refine tl_q (y_assign rfl) rfl ?_; refine tl_q (y_assign rfl) rfl ?_; refine tl_nil ?_; ((refine hK8 ?_; try (clear hK8; clear K8)))
  all_goals refine tc_seq fun K9 hK9 => ?_; refine tc_lay ([]) (SB.s .nil) (fun wl8 hl8 => ?_); refine tc_region ?_; refine tl_q (y_move rfl) rfl ?_; refine tl_q (y_eql rfl rfl) rfl ?_; refine tl_q (y_move rfl) rfl ?_; refine tl_qg rfl rfl (y_move rfl) rfl ?_; ((refine tl_eg rfl rfl rfl (e_bslice rfl (by (repeat (first | exact .nil | apply PV.one rfl rfl)); done) rfl rfl) (fun _ _ => ?_)))
  all_goals (refine tl_eg rfl rfl rfl (e_callV rfl (.cons rfl (.cons rfl .nil)) (fun w' hw' => rSame_c [0, 1] [0, 1] (by decide) (by decide) _ _ w' (hy1.1.fr (hw'.fr MI.m)) (RdI.own0 hw' (by repeat constructor)))) (fun _ _ => ?_)); refine tl_q (y_pick_t rfl rfl) rfl ?_; refine tl_q (y_move rfl) rfl ?_; refine tl_qg rfl rfl (y_move rfl) rfl ?_; refine tl_qg rfl rfl (y_eql rfl rfl) rfl ?_; refine tl_q (y_pick_t rfl rfl) rfl ?_; refine tl_q (y_move rfl) rfl ?_; refine tl_qg rfl rfl (y_move rfl) rfl ?_; ((refine tl_eg rfl rfl rfl (e_bslice rfl (by (repeat (first | exact .nil | apply PV.one rfl rfl)); done) rfl rfl) (fun _ _ => ?_)))
  all_goals (refine tl_eg rfl rfl rfl (e_callV rfl (.cons rfl (.cons rfl .nil)) (fun w' hw' => rSame_c [2] [2] (by decide) (by decide) _ _ w' (hy2.1.fr (hw'.fr MI.m)) (RdI.own0 hw' (by repeat constructor)))) (fun _ _ => ?_)); refine tl_q (y_pick_t rfl rfl) rfl ?_; refine tl_q (y_move rfl) rfl ?_; refine tl_qg rfl rfl (y_move rfl) rfl ?_; refine tl_qg rfl rfl (y_eql rfl rfl) rfl ?_; refine tl_q (y_pick_t rfl rfl) rfl ?_; refine tl_q (y_move rfl) rfl ?_; refine tl_qg rfl rfl (y_move rfl) rfl ?_; ((refine tl_eg rfl rfl rfl (e_bslice rfl (by (repeat (first | exact .nil | apply PV.one rfl rfl)); done) rfl rfl) (fun _ _ => ?_)))
  all_goals (refine tl_eg rfl rfl rfl (e_callV rfl (.cons rfl (.cons rfl .nil)) (fun w' hw' => rSame_c [3, 2] [3, 2] (by decide) (by decide) _ _ w' (hy3.1.fr (hw'.fr MI.m)) (RdI.own0 hw' (by repeat constructor)))) (fun _ _ => ?_)); refine tl_q (y_pick_t rfl rfl) rfl ?_; refine tl_q (y_move rfl) rfl ?_; refine tl_qg rfl rfl (y_move rfl) rfl ?_; refine tl_qg rfl rfl (y_eql rfl rfl) rfl ?_; refine tl_q (y_pick_t rfl rfl) rfl ?_; refine tl_q (y_move rfl) rfl ?_; refine tl_qg rfl rfl (y_move rfl) rfl ?_; refine tl_qg rfl rfl (y_eql rfl rfl) rfl ?_; refine tl_q (y_pick_t rfl rfl) rfl ?_; refine tl_q (y_move rfl) rfl ?_; refine tl_qg rfl rfl (y_move rfl) rfl ?_; refine tl_qg rfl rfl (y_eql rfl rfl) rfl ?_; refine tl_q (y_pick_t rfl rfl) rfl ?_; refine tl_q (y_move rfl) rfl ?_; refine tl_qg rfl rfl (y_move rfl) rfl ?_; ((refine tl_eg rfl rfl rfl (e_bslice rfl (by (repeat (first | exact .nil | apply PV.one rfl rfl)); done) rfl rfl) (fun _ _ => ?_)))
  all_goals (refine tl_eg rfl rfl rfl (e_callV rfl (.cons rfl (.cons rfl .nil)) (fun w' hw' => rSame_c [0, 0] [0, 0] (by decide) (by decide) _ _ w' (hy5.1.fr (hw'.fr MI.m)) (RdI.own0 hw' (by repeat constructor)))) (fun _ _ => ?_)); refine tl_q (y_pick_t rfl rfl) rfl ?_; refine tl_q (y_move rfl) rfl ?_; refine tl_qg rfl rfl (y_move rfl) rfl ?_; refine tl_qg rfl rfl (y_eql rfl rfl) rfl ?_; refine tl_q (y_pick_t rfl rfl) rfl ?_; refine tl_q (y_move rfl) rfl ?_; refine tl_qg rfl rfl (y_move rfl) rfl ?_; refine tl_qg rfl rfl (y_eql rfl rfl) rfl ?_; refine tl_q (y_pick_t rfl rfl) rfl ?_; refine tl_q (y_move rfl) rfl ?_; refine tl_qg rfl rfl (y_move rfl) rfl ?_; refine tl_qg rfl rfl (y_eql rfl rfl) rfl ?_; refine tl_q (y_pick_t rfl rfl) rfl ?_; refine tl_q (y_move rfl) rfl ?_; refine tl_qg rfl rfl (y_move rfl) rfl ?_; ((refine tl_eg rfl rfl rfl (e_bslice rfl (by (repeat (first | exact .nil | apply PV.one rfl rfl)); done) rfl rfl) (fun _ _ => ?_)))
  all_goals (refine tl_eg rfl rfl rfl (e_callV rfl (.cons rfl (.cons rfl .nil)) (fun w' hw' => rSame_c [3] [3] (by decide) (by decide) _ _ w' ((hy7.1.fr (hl8.calm hy7.2 MI.m SB.s)).fr (hw'.fr (w0 := wl8) (S := []) MI.m)) (RdI.own0 hw' (by repeat constructor)))) (fun _ _ => ?_)); refine tl_q (y_pick_t rfl rfl) rfl ?_; refine tl_q (y_assign rfl) rfl ?_; refine tl_nil ?_; ((refine hK9 ?_; try (clear hK9; clear K9)))
  all_goals refine tc_ret ?_; (repeat (first | refine tk_then_ret ?_))
  all_goals (refine tk_ret rfl rfl (.cons (.tmp rfl) .nil) ?_)
  all_goals (
   exact fun w' hw' => ⟨rfl, hw'.fr (w0 := w) (S := []) MI.m⟩)
end Go.Sp
/-
  SampleVerdicts, walked.
-/
namespace Go.Sp
open Go Go.Proofs
theorem lsure_c (s : Smp) (hf : Few s) (tv pv gv : Value) (w : World) (hr : RdSm w s tv pv gv) : CnV Tryz.prog 20 #[smV s tv pv gv] w (vi (vdE s)) := by
  have hr0 := hr
  refine cnv (vs := [_]) Tryz.func20 rfl rfl ?_
  all_goals refine tc_seq fun K1 hK1 => ?_; refine tc_region ?_; refine tl_e (e_box rfl rfl rfl) rfl (fun b1 _ => ?_); refine tl_q (y_assign rfl) rfl ?_; refine tl_nil ?_; ((refine hK1 ?_; try (clear hK1; clear K1)))
  all_goals refine tc_seq fun K2 hK2 => ?_; refine tc_seq fun K3 hK3 => ?_; refine tc_region ?_; refine tl_q (y_loadW rfl (by repeat constructor) (by rfl)) rfl ?_; refine tl_e (e_callV rfl (.cons rfl .nil) (fun w' hw' => fault_c s tv pv gv w' (hr0.fr (hw'.fr (w0 := w) (S := []) MI.m)) hf)) rfl (fun _ _ => ?_); refine tl_q (y_assign rfl) rfl ?_; refine tl_nil ?_; ((refine hK3 ?_; try (clear hK3; clear K3)))
  all_goals refine tc_seq fun K4 hK4 => ?_; refine tc_region ?_; refine tl_q (y_move rfl) rfl ?_; refine tl_q (y_neq rfl rfl) rfl ?_; refine tl_nil ?_; ((refine hK4 ?_; try (clear hK4; clear K4)))
  all_goals (
   refine tc_cond rfl (fun hc => ?_) (fun hc => ?_)
   · try simp only [qn1, qn2, qn3, qn4, qn5, qn6, qn7, qn8] at hc
     all_goals refine tc_seq fun K5 hK5 => ?_; refine tc_region ?_; refine tl_q (y_move rfl) rfl ?_; refine tl_q (y_assign rfl) rfl ?_; refine tl_nil ?_; ((refine hK5 ?_; try (clear hK5; clear K5)))
     all_goals refine tc_ret ?_; (repeat (refine tk_then_ret ?_))
     all_goals (refine tk_ret rfl rfl (.cons (.tmp rfl) .nil) ?_)
     all_goals (
      first
      | (have hE : vdE s = chkS s := by unfold vdE sureE; rw [if_pos (by assumption)]
         rw [hE]
         exact fun w' hw' => ⟨rfl, hw'.fr (w0 := w) (S := []) MI.m⟩)
      | (have hE : vdE s = 9 := by unfold vdE sureE; rw [if_neg (fun g => g (by assumption)), if_neg (by decide), if_pos (by assumption)]
         rw [hE]
         exact fun w' hw' => ⟨rfl, hw'.fr (w0 := w) (S := []) MI.m⟩)
      | (have hE : vdE s = 0 := sure_ok (chkS_0.1 (by assumption)) (by assumption)
         rw [hE]
         exact fun w' hw' => ⟨rfl, hw'.fr (w0 := w) (S := []) MI.m⟩))
   · try simp only [qn1, qn2, qn3, qn4, qn5, qn6, qn7, qn8] at hc
     all_goals refine tc_skip ?_; ((refine hK2 ?_; try (clear hK2; clear K2)))
     all_goals refine tc_seq fun K6 hK6 => ?_; refine tc_seq fun K7 hK7 => ?_; refine tc_region ?_; refine tl_q (y_loadW rfl (by repeat constructor) (by rfl)) rfl ?_; refine tl_e (e_callV rfl (.cons rfl .nil) (fun w' hw' => hasC_c s hf (chkS_0.1 (by assumption)) tv pv gv w' (hr0.fr (hw'.fr (w0 := w) (S := []) MI.m)))) rfl (fun _ _ => ?_); refine tl_q (y_not rfl) rfl ?_; refine tl_nil ?_; ((refine hK7 ?_; try (clear hK7; clear K7)))
     all_goals (
      refine tc_cond rfl (fun hc => ?_) (fun hc => ?_)
      · try simp only [qn1, qn2, qn3, qn4, qn5, qn6, qn7, qn8] at hc
        all_goals refine tc_seq fun K8 hK8 => ?_; refine tc_region ?_; refine tl_q (y_assign rfl) rfl ?_; refine tl_nil ?_; ((refine hK8 ?_; try (clear hK8; clear K8)))
        all_goals refine tc_ret ?_; (repeat (refine tk_then_ret ?_))
        all_goals (refine tk_ret rfl rfl (.cons (.tmp rfl) .nil) ?_)
        all_goals (
         first
         | (have hE : vdE s = chkS s := by unfold vdE sureE; rw [if_pos (by assumption)]
            rw [hE]
            exact fun w' hw' => ⟨rfl, hw'.fr (w0 := w) (S := []) MI.m⟩)
         | (have hE : vdE s = 9 := by unfold vdE sureE; rw [if_neg (fun g => g (by assumption)), if_neg (by decide), if_pos (by assumption)]
            rw [hE]
            exact fun w' hw' => ⟨rfl, hw'.fr (w0 := w) (S := []) MI.m⟩)
         | (have hE : vdE s = 0 := sure_ok (chkS_0.1 (by assumption)) (by assumption)
            rw [hE]
            exact fun w' hw' => ⟨rfl, hw'.fr (w0 := w) (S := []) MI.m⟩))
      · try simp only [qn1, qn2, qn3, qn4, qn5, qn6, qn7, qn8] at hc
        all_goals refine tc_skip ?_; ((refine hK6 ?_; try (clear hK6; clear K6)))
        all_goals refine tc_seq fun K9 hK9 => ?_; refine tc_region ?_; refine tl_q (y_assign rfl) rfl ?_; refine tl_nil ?_; ((refine hK9 ?_; try (clear hK9; clear K9)))
        all_goals refine tc_ret ?_; (repeat (first | refine tk_then_ret ?_))
        all_goals (refine tk_ret rfl rfl (.cons (.tmp rfl) .nil) ?_)
        all_goals (
         first
         | (have hE : vdE s = chkS s := by unfold vdE sureE; rw [if_pos (by assumption)]
            rw [hE]
            exact fun w' hw' => ⟨rfl, hw'.fr (w0 := w) (S := []) MI.m⟩)
         | (have hE : vdE s = 9 := by unfold vdE sureE; rw [if_neg (fun g => g (by assumption)), if_neg (by decide), if_pos (by assumption)]
            rw [hE]
            exact fun w' hw' => ⟨rfl, hw'.fr (w0 := w) (S := []) MI.m⟩)
         | (have hE : vdE s = 0 := sure_ok (chkS_0.1 (by assumption)) (by assumption)
            rw [hE]
            exact fun w' hw' => ⟨rfl, hw'.fr (w0 := w) (S := []) MI.m⟩))))
theorem RunF.mem {s : Smp} {b : Int} {c : List Int} : ∀ {k : Nat} {x : Bool} {l : List (Bool × Int)}, RunF s b c k x l → ∀ z ∈ l, z.2 = 0 ∨ z.2 = 1
  | 0, _, _, h, z, hz => by obtain rfl := h; cases hz
  | k + 1, _, _, ⟨y, t, h, hy, ht⟩, z, hz => by
    subst h
    rcases List.mem_cons.1 hz with rfl | hz
    · obtain ⟨n, _, _, rfl⟩ := mem_stepL.1 hy
      dsimp only
      split
      · exact .inr rfl
      · exact .inl rfl
    · exact RunF.mem ht z hz
theorem cons_poss {s : Smp} (hc : consF s = true) {k : Nat} (hk : k < s.B.toNat) : possF s (k : Int) = true := List.all_eq_true.1 hc k (List.mem_range.2 hk)
theorem vdL_v {s : Smp} (h : vdE s = 0) : vdL s = vdN s s.B.toNat := if_pos h
theorem lsL_v {s : Smp} (h : vdE s = 0) : lsL s = lsN' s s.B.toNat := if_pos h
theorem verdictsI_c (s : Smp) (hf : Few s) (tv pv gv : Value) (w : World) (hr : RdSm w s tv pv gv) :
    CnX Tryz.prog 26 #[smV s tv pv gv] w [] (fun y : Option Addr × Nat => .tuple #[slV (vdL s).length y, vi (vdE s)]) (fun y w' => RdI w' (slV (vdL s).length y) (vdL s)) :=
  (verdicts_c s hf tv pv gv w hr).imp id (fun _ => rfl) (fun _ h => h) (fun _ _ _ h => h.toI)
theorem leastI_c (s : Smp) (hf : Few s) (tv pv gv : Value) (w : World) (hr : RdSm w s tv pv gv) :
    CnX Tryz.prog 28 #[smV s tv pv gv] w [] (fun y : Option Addr × Nat => .tuple #[slV (lsL s).length y, vi (vdE s)]) (fun y w' => RdI w' (slV (lsL s).length y) (lsL s)) :=
  (least_c s hf tv pv gv w hr).imp id (fun _ => rfl) (fun _ h => h) (fun _ _ _ h => h.toI)
end Go.Sp
/-
  SampleApart, walked.
-/
namespace Go.Sp
open Go Go.Proofs
def psQ (s : Smp) (b : Int) (n : Nat) : List Pas := ((List.range n).filter fun i => decide ((s.ps.getD i pas0).b = b)).map fun i => s.ps.getD i pas0
def sgQ (s : Smp) (b : Int) (n : Nat) : List Sgt := ((List.range n).filter fun i => decide ((s.sg.getD i sgt0).b = b)).map fun i => s.sg.getD i sgt0
theorem psQ_len (s : Smp) (b : Int) (n : Nat) : (psQ s b n).length ≤ n := filt_len
theorem sgQ_len (s : Smp) (b : Int) (n : Nat) : (sgQ s b n).length ≤ n := filt_len
/-- The sample with the entries of a bottle alone. -/
def ownB (s : Smp) (b : Int) : Smp := { s with ps := psQ s b s.ps.length, sg := sgQ s b s.sg.length }
theorem Few.own {s : Smp} (h : Few s) (b : Int) : Few (ownB s b) := ⟨h.st, Nat.le_trans (psQ_len s b _) h.ps, Nat.le_trans (sgQ_len s b _) h.sg⟩
theorem VSm.own {s : Smp} (hv : VSm s) (b : Int) : VSm (ownB s b) := hv.sub (filt_sub s.ps pas0 _) (filt_sub s.sg sgt0 _)
theorem sameK_v {a b : List Int} (h : a = b) (ha : a.length ≤ 4) (av bv : Value) (w : World) (hra : RdI w av a) (hrb : RdI w bv b) : CnV Tryz.prog 24 #[av, bv] w (.bool true) := by
  subst h
  have := rSame_c a a (by omega) (by omega) av bv w hra hrb
  rw [decide_eq_true rfl] at this
  exact this
end Go.Sp
/-
  Law's helpers: has, within, fewer.
-/
namespace Go.Sp
open Go Go.Proofs
end Go.Sp
/-
  Lists of slices, read and made.
-/
namespace Go.Sp
open Go Go.Proofs
/-- A value of one cell. -/
abbrev Sv := { v : Value // v.oneCell' = true }
def svE (v : Sv) : List Value := [v.1]
theorem svE_len (v : Sv) : (svE v).length = 1 := rfl
def sv0 : Sv := ⟨.slice none 0 0, rfl⟩
/-- A slice reads so, and stays so as long as nothing but S turns. -/
def OKS {α : Type} (k : Nat) (enc : α → List Value) (w : World) (S : List Nat) (v : Value) (xs : List α) : Prop := RdS k enc w v xs ∧ (0 < xs.length → ∀ p m c, v = .slice (some p) m c → p.block < w.heap.size ∧ p.block ∉ S)
theorem RdS.frO {α : Type} {k : Nat} {enc : α → List Value} {w w' : World} {v : Value} {xs : List α} {S : List Nat} (h : RdS k enc w v xs) (f : Fr S w w') (hS : 0 < xs.length → sepS v S) : RdS k enc w' v xs := by
  by_cases h0 : 0 < xs.length
  · exact h.frS f (hS h0)
  · obtain ⟨h1, ad, cap, h2, _⟩ := h
    exact ⟨h1, ad, cap, h2, fun hn => absurd (Nat.pos_of_ne_zero hn) h0⟩
theorem OKS.rd' {α : Type} {k : Nat} {enc : α → List Value} {w w' : World} {S : List Nat} {v : Value} {xs : List α} (h : OKS k enc w S v xs) (f : Fr S w w') : RdS k enc w' v xs := h.1.frO f fun h0 p m c e hm => (h.2 h0 p m c e).2 hm
theorem OKS.step {α : Type} {k : Nat} {enc : α → List Value} {w w1 : World} {S S' : List Nat} {v : Value} {xs : List α} (h : OKS k enc w S v xs) (f : Fr S w w1) (hS : ∀ b ∈ S', b ∈ S ∨ w.heap.size ≤ b) : OKS k enc w1 S' v xs :=
  ⟨h.rd' f, fun h0 p m c e => by
    obtain ⟨h1, h2⟩ := h.2 h0 p m c e
    refine ⟨Nat.lt_of_lt_of_le h1 f.size, fun hm => ?_⟩
    rcases hS _ hm with g | g
    · exact h2 g
    · omega⟩
theorem HG.ownsK {bs : List (World × List Nat)} {H Hk : List (Nat × Obj)} {w : World} (hw : HG bs H w) (hk : Hk.Sublist H) {w0 : World} {S : List Nat} (hb : (w0, S) ∈ bs) : ∀ x ∈ Hk.map Prod.fst, x ∈ S ∨ w0.heap.size ≤ x := fun x hx => by
  obtain ⟨p, hp, rfl⟩ := List.mem_map.1 hx
  exact hw.own p (hk.subset hp) (w0, S) hb
theorem RdS.lt {α : Type} {k : Nat} {enc : α → List Value} (hk : ∀ x, (enc x).length = k) (h0 : 0 < k) {w : World} {v : Value} {xs : List α} (hr : RdS k enc w v xs) (hx : 0 < xs.length) : ∀ p m c, v = .slice (some p) m c → p.block < w.heap.size := fun p m c e => by
  obtain ⟨hl, ad, cap, e0, hc⟩ := hr
  obtain ⟨q, o, e2, hca⟩ := hc (by omega)
  rw [e0] at e
  injection e with e1
  rw [e2] at e1
  cases e1
  have hlen : 0 < (xs.flatMap enc).length := by rw [hl]; exact Nat.mul_pos hx h0
  have := hca.get 0 ((xs.flatMap enc)[0]'hlen) (by rw [List.getElem?_eq_getElem hlen])
  rcases Nat.lt_or_ge q w.heap.size with g | g
  · exact g
  · unfold World.cell? at this
    rw [show w.heap[(⟨q, o + 0, none⟩ : Addr).block]? = none from Array.getElem?_eq_none g] at this
    cases this
/-- An own slice, let go. -/
theorem OKS.ofO {α : Type} {k : Nat} {enc : α → List Value} (hk : ∀ x, (enc x).length = k) {bs : List (World × List Nat)} {H' : List (Nat × Obj)} {w1 : World} {e : TypeId} {xs : List α} {oo : OwnB} (hok : okE k xs oo) (hw : HG bs (slE e enc xs oo ++ H') w1) : OKS k enc w1 (H'.map Prod.fst) (ouV xs.length oo) xs := by
  rcases oo with _ | ⟨b, cap, junk⟩
  · obtain rfl : xs = [] := hok
    exact ⟨RdS.nil k enc w1 0, fun h => absurd h (Nat.lt_irrefl 0)⟩
  · rw [slE_some] at hw
    have hn := hw.nodup
    rw [List.singleton_append, List.map_cons, List.nodup_cons] at hn
    refine ⟨?_, fun hx p m c e => by cases e; exact ⟨hw.lt List.mem_cons_self, hn.1⟩⟩
    refine ⟨flatS_len hk xs, some ⟨b, 0, none⟩, cap, rfl, fun _ => ⟨b, 0, rfl, ?_⟩⟩
    have := CA_pre (xs.flatMap enc) junk e (0, 0)
    rw [flatS_len hk] at this
    exact this.cells (hw.heap _ List.mem_cons_self)
def OKV {α : Type} (k : Nat) (enc : α → List Value) (w : World) (S : List Nat) (us : List Sv) (xss : List (List α)) : Prop := us.length = xss.length ∧ ∀ j, j < xss.length → OKS k enc w S (us.getD j sv0).1 (xss.getD j [])
theorem OKV.nil {α : Type} {k : Nat} {enc : α → List Value} {w : World} {S : List Nat} : OKV k enc w S [] [] := ⟨rfl, fun j hj => absurd hj (Nat.not_lt_zero j)⟩
theorem OKV.step {α : Type} {k : Nat} {enc : α → List Value} {w w1 : World} {S S' : List Nat} {us : List Sv} {xss : List (List α)} (h : OKV k enc w S us xss) (f : Fr S w w1) (hS : ∀ b ∈ S', b ∈ S ∨ w.heap.size ≤ b) : OKV k enc w1 S' us xss := ⟨h.1, fun j hj => (h.2 j hj).step f hS⟩
theorem getD_snocK {α : Type} {l : List α} {x z : α} {j : Nat} : (l ++ [x]).getD j z = if j < l.length then l.getD j z else if j = l.length then x else z := by
  rw [List.getD_eq_getElem?_getD, List.getD_eq_getElem?_getD]
  split
  · rename_i h; rw [List.getElem?_append_left h]
  · rename_i h
    rw [List.getElem?_append_right (by omega)]
    split
    · rename_i h2; subst h2; rw [Nat.sub_self]; rfl
    · rename_i h2; rw [List.getElem?_eq_none (by simp; omega)]; rfl
theorem OKV.snoc {α : Type} {k : Nat} {enc : α → List Value} {w : World} {S : List Nat} {us : List Sv} {xss : List (List α)} {v : Sv} {xs : List α} (h : OKV k enc w S us xss) (hv : OKS k enc w S v.1 xs) : OKV k enc w S (us ++ [v]) (xss ++ [xs]) := by
  refine ⟨by simp [h.1], fun j hj => ?_⟩
  rw [List.length_append, List.length_singleton] at hj
  rw [getD_snocK, getD_snocK, h.1]
  by_cases hlt : j < xss.length
  · rw [if_pos hlt, if_pos hlt]; exact h.2 j hlt
  · rw [if_neg hlt, if_neg hlt, if_pos (by omega), if_pos (by omega)]; exact hv
/-- A slice of slices reads so. -/
def RdLL {α : Type} (k : Nat) (enc : α → List Value) (w : World) (v : Value) (xss : List (List α)) : Prop := ∃ us : List Sv, RdS 1 svE w v us ∧ us.length = xss.length ∧ ∀ j, j < xss.length → RdS k enc w (us.getD j sv0).1 (xss.getD j [])
theorem RdLL.fr {α : Type} {k : Nat} {enc : α → List Value} {w w' : World} {v : Value} {xss : List (List α)} (h : RdLL k enc w v xss) (f : Fr [] w w') : RdLL k enc w' v xss := by
  obtain ⟨us, h1, h2, h3⟩ := h
  exact ⟨us, h1.fr f, h2, fun j hj => (h3 j hj).fr f⟩
theorem RdLL.nil {α : Type} (k : Nat) (enc : α → List Value) (w : World) (c : Nat) : RdLL k enc w (.slice none 0 c) [] := ⟨[], RdS.nil 1 svE w c, rfl, fun j hj => absurd hj (Nat.not_lt_zero j)⟩
theorem RdLL.one {α : Type} {k : Nat} {enc : α → List Value} {w : World} {v : Value} {xss : List (List α)} (h : RdLL k enc w v xss) : v.oneCell' = true := by obtain ⟨us, h1, _⟩ := h; exact h1.one
theorem RdLL.open {α : Type} {k : Nat} {enc : α → List Value} {w : World} {v : Value} {xss : List (List α)} (h : RdLL k enc w v xss) :
    ∃ ad cap b o, ∃ us : List Sv, v = .slice ad xss.length cap ∧ (0 < xss.length → ad = some ⟨b, o, none⟩) ∧ (∀ w', Fr [] w w' → ∀ i, i < xss.length → w'.cell? ⟨b, o + i, none⟩ = some (us.getD i sv0).1) ∧ ∀ w', Fr [] w w' → ∀ i, i < xss.length → RdS k enc w' (us.getD i sv0).1 (xss.getD i []) := by
  obtain ⟨us, h1, h2, h3⟩ := h
  obtain ⟨ad, cap, b, o, rfl, had, hcell⟩ := h1.open svE_len sv0
  rw [h2] at had
  refine ⟨ad, cap, b, o, us, by rw [h2], had, fun w' f i hi => ?_, fun w' f i hi => (h3 i hi).fr f⟩
  have := (hcell w' [] f (by simp) i (by omega)).get 0 _ rfl
  rw [Nat.mul_one, Nat.add_zero] at this
  exact this
theorem RdLL.ofO {α : Type} {k : Nat} {enc : α → List Value} {bs : List (World × List Nat)} {H H' : List (Nat × Obj)} {w wz : World} {S : List Nat} {us : List Sv} {xss : List (List α)} {e : TypeId} {oo : OwnB} (hok : okE 1 us oo) (hu : OKV k enc wz S us xss) (hw : HG bs H w) (hf : Fr S wz w) (hm : HT (slE e svE us oo) [] H H') : RdLL k enc w (ouV us.length oo) xss :=
  ⟨us, RdS.ofO svE_len hok hw hm, hu.1, fun j hj => (hu.2 j hj).rd' hf⟩
def NewV (w0 : World) (us : List Sv) : Prop := ∀ v ∈ us, NewS w0 v.1
theorem NewV.nil (w0 : World) : NewV w0 [] := fun v hv => by cases hv
theorem NewV.snoc {w0 : World} {us : List Sv} {v : Sv} (h : NewV w0 us) (hv : NewS w0 v.1) : NewV w0 (us ++ [v]) := fun u hu => by
  rcases List.mem_append.1 hu with hu | hu
  · exact h u hu
  · obtain rfl := List.mem_singleton.1 hu; exact hv
theorem NewS.sepN {w0 : World} {v : Value} {S : List Nat} (h : NewS w0 v) (hS : ∀ b ∈ S, b < w0.heap.size) : sepS v S := fun p m c e hm => by
  have h1 := h p m c e
  have h2 := hS _ hm
  omega
def RdLN {α : Type} (k : Nat) (enc : α → List Value) (w0 w : World) (v : Value) (xss : List (List α)) : Prop := ∃ us : List Sv, (RdS 1 svE w v us ∧ NewS w0 v) ∧ (us.length = xss.length ∧ NewV w0 us) ∧ ∀ j, j < xss.length → RdS k enc w (us.getD j sv0).1 (xss.getD j [])
theorem RdLN.fr {α : Type} {k : Nat} {enc : α → List Value} {w0 w w' : World} {v : Value} {xss : List (List α)} (h : RdLN k enc w0 w v xss) {S : List Nat} (hS : ∀ b ∈ S, b < w0.heap.size) (f : Fr S w w') : RdLN k enc w0 w' v xss := by
  obtain ⟨us, ⟨h1, h2⟩, ⟨h3, h4⟩, h5⟩ := h
  refine ⟨us, ⟨h1.frS f (h2.sepN hS), h2⟩, ⟨h3, h4⟩, fun j hj => (h5 j hj).frS f ?_⟩
  refine NewS.sepN (h4 _ ?_) hS
  exact getD_memG (by omega)
theorem RdLN.nil {α : Type} (k : Nat) (enc : α → List Value) (w0 w : World) (c : Nat) : RdLN k enc w0 w (.slice none 0 c) [] := ⟨[], ⟨RdS.nil 1 svE w c, NewS.nil _ _ _⟩, ⟨rfl, NewV.nil _⟩, fun j hj => absurd hj (Nat.not_lt_zero j)⟩
theorem RdLN.ofO {α : Type} {k : Nat} {enc : α → List Value} {bs : List (World × List Nat)} {H H' : List (Nat × Obj)} {w wz w0 : World} {S : List Nat} {us : List Sv} {xss : List (List α)} {e : TypeId} {oo : OwnB} (hok : okE 1 us oo) (hu : OKV k enc wz S us xss) (hn : NewV w0 us) (hw : HG bs H w) (hf : Fr S wz w) (hb : (w0, []) ∈ bs) (hm : HT (slE e svE us oo) [] H H') : RdLN k enc w0 w (ouV us.length oo) xss :=
  ⟨us, ⟨RdS.ofO svE_len hok hw hm, NewS.ofO hw hm hb⟩, ⟨hu.1, hn⟩, fun j hj => (hu.2 j hj).rd' hf⟩
end Go.Sp
/-
  The reference's Play.
-/
namespace Go.Sp
open Go Go.Proofs
/-- A truth: the hours of passes, and what was done. -/
structure Tth where
  hs : List Int
  ac : List (List Int)
structure RdTh (w : World) (t : Tth) (hv av : Value) : Prop where
  hs : RdI w hv t.hs
  ac : RdLL 1 inE w av t.ac
theorem RdTh.fr {w w' : World} {t : Tth} {hv av : Value} (h : RdTh w t hv av) (f : Fr [] w w') : RdTh w' t hv av := ⟨h.hs.fr f, h.ac.fr f⟩
theorem heldF_none {s : Smp} (hv : VSm s) {b : Int} {ts : List Int} (hE : heldF s b ts = none) (hts : ts.length = s.ps.length) (tv pv gv hv' : Value) (w : World) (hr : RdSm w s tv pv gv) (hh : RdI w hv' ts) :
    CnX Tryz.prog 59 #[smV s tv pv gv, vi b, hv'] w [] (fun y : Option Addr × Nat => .tuple #[slV ([] : List Int).length y, .bool false]) (fun _ _ => True) := by
  have h := heldN_c s hv b ts hts tv pv gv hv' w hr hh
  rw [hE] at h
  exact h.imp id (fun _ => rfl) (fun _ h => h) (fun _ _ _ _ => trivial)
theorem heldF_some {s : Smp} (hv : VSm s) {b : Int} {ts c : List Int} (hE : heldF s b ts = some c) (hts : ts.length = s.ps.length) (tv pv gv hv' : Value) (w : World) (hr : RdSm w s tv pv gv) (hh : RdI w hv' ts) :
    CnX Tryz.prog 59 #[smV s tv pv gv, vi b, hv'] w [] (fun y : Option Addr × Nat => .tuple #[slV c.length y, .bool true]) (fun y w' => RdI w' (slV c.length y) c ∧ NewS w (slV c.length y)) := by
  have h := heldN_c s hv b ts hts tv pv gv hv' w hr hh
  rw [hE] at h
  exact h
theorem RdI.opensS {w : World} {xs : List Int} {x : Option Addr × Nat} {S : List Nat} (h : RdI w (slV xs.length x) xs) (hS : sepS (slV xs.length x) S) : ∃ b o, (0 < xs.length → x.1 = some ⟨b, o, none⟩) ∧ ∀ w', Fr S w w' → ∀ i, i < xs.length → w'.cell? ⟨b, o + i, none⟩ = some (vi (xs.getD i 0)) := by
  obtain ⟨ad, cap, b, o, e, had, hcell⟩ := RdS.opens (RdS.int.2 h) (fun _ => rfl) 0 hS
  injection e with e1 e2 e3
  subst e1
  refine ⟨b, o, had, fun w' f i hi => ?_⟩
  have := (hcell w' f i hi).get 0 _ rfl
  rw [Nat.mul_one] at this
  exact this
end Go.Sp
/-
  Happened, plainly: what is so of the passes so far.
-/
namespace Go.Sp
open Go Go.Proofs
theorem getD_app2 {α : Type} {l : List α} {x d : α} {n : Nat} (h : n = l.length) : (l ++ [x]).getD n d = x := by
  subst h
  rw [List.getD_eq_getElem?_getD, List.getElem?_append_right (Nat.le_refl _), Nat.sub_self]; rfl
theorem InR.snoc : ∀ {ps : List Pas} {hs : List Int} {p : Pas} {k : Int}, InR ps hs → p.lo ≤ k ∧ k ≤ p.hi → InR (ps ++ [p]) (hs ++ [k])
  | [], hs, p, k, h, hk => by
    obtain rfl : hs = [] := h
    exact ⟨k, [], rfl, hk, rfl⟩
  | q :: ps, _, p, k, ⟨a, t, h, ha, ht⟩, hk => by
    subst h
    exact ⟨a, t ++ [k], rfl, ha, InR.snoc ht hk⟩
end Go.Sp
/-
  Happened.
-/
namespace Go.Sp
open Go Go.Proofs
section
variable {r : Option Nat} {P : Program} {ops : Array Oper} {Q : Exit → Act → World → Prop} {N : NN} {F : List (Nat × Value)} {bs : List (World × List Nat)} {H : List (Nat × Obj)}
theorem tx_three {fuel : Nat} {S : World → Prop} {listed : Array Bool} (i j k : Nat) (hr : Region.ready .any ops listed = [i, j, k]) (h1 : TOne r P ops Q fuel S listed i N F bs H) (h2 : TOne r P ops Q fuel S listed j N F bs H) (h3 : TOne r P ops Q fuel S listed k N F bs H) : TX r P ops Q (fuel + 1) S listed N F bs H := by
  unfold TOne at h1 h2 h3
  unfold TX
  exact fun a w ht hw =>
    ⟨fun h0 => (by rw [h0] at hr; cases hr), fun q hq => by
      rw [hr] at hq
      rcases (by simpa using hq : q = i ∨ q = j ∨ q = k) with rfl | rfl | rfl
      · exact h1 a w ht hw
      · exact h2 a w ht hw
      · exact h3 a w ht hw⟩
end
end Go.Sp
/-
  The sample before, and with, an entry: plainly.
-/
namespace Go.Sp
open Go Go.Proofs
/-- The first entries. -/
def fstK (s : Smp) (k : Nat) : Smp := { s with ps := s.ps.take k, sg := s.sg.take (k - s.ps.length) }
theorem VSm.fst {s : Smp} (hv : VSm s) (k : Nat) : VSm (fstK s k) := hv.sub (List.take_sublist _ _) (List.take_sublist _ _)
theorem Few.fst {s : Smp} (h : Few s) (k : Nat) : Few (fstK s k) := ⟨h.st, by have := h.ps; simp [fstK]; omega, by have := h.sg; simp [fstK]; omega⟩
end Go.Sp
/-
  The smallest set of entries, plainly.
-/
namespace Go.Sp
open Go Go.Proofs
end Go.Sp
/-
  Samples that allow more: what is returned of them, plainly.
-/
namespace Go.Sp
open Go Go.Proofs
/-- Whatever can be done with a bottle in the one sample can be done in the other one. -/
structure SubB (s s' : Smp) (b : Int) : Prop where
  L : s.L = s'.L
  st : ∀ c h, stB s c h = true → stB s' c h = true
  seen : ∀ h x, seenB s b h x = true → seenB s' b h x = true
  ch : ∀ c, c ∈ chainsL s b → c ∈ chainsL s' b
theorem actIs_mono {x st st' : Bool} (h : st = true → st' = true) {n : Nat} (hi : actIs x st n = true) : actIs x st' n = true := by
  match n with
  | 0 => rfl
  | 1 => exact hi
  | 2 =>
    have h1 : (x && st) = true := hi
    rw [Bool.and_eq_true] at h1
    show (x && st') = true
    rw [h1.1, h h1.2]; rfl
  | n + 3 =>
    have h1 : (!x && st) = true := hi
    rw [Bool.and_eq_true] at h1
    show (!x && st') = true
    rw [h1.1, h h1.2]; rfl
theorem SubB.step {s s' : Smp} {b : Int} (h : SubB s s' b) {c : List Int} {hr : Int} {x : Bool} {z : Bool × Int} (hz : z ∈ stepL s b hr (stB s c hr) x) : z ∈ stepL s' b hr (stB s' c hr) x := by
  obtain ⟨n, h1, ⟨h2, h3⟩, rfl⟩ := mem_stepL.1 hz
  exact mem_stepL.2 ⟨n, h1, ⟨actIs_mono (h.st c hr) h2, h.seen _ _ h3⟩, rfl⟩
theorem SubB.run {s s' : Smp} {b : Int} (h : SubB s s' b) {c : List Int} : ∀ {k : Nat} {x : Bool} {l : List (Bool × Int)}, RunF s b c k x l → RunF s' b c k x l
  | 0, _, _, hl => hl
  | k + 1, _, _, ⟨z, t, hl, hz, ht⟩ => ⟨z, t, hl, by rw [← h.L]; exact h.step hz, SubB.run h ht⟩
theorem SubB.can {s s' : Smp} {b : Int} (h : SubB s s' b) {c : List Int} (hc : canF s b c = true) : canF s' b c = true := by
  unfold canF at hc ⊢
  rw [← h.L]
  obtain ⟨l, hl⟩ := rst_run.1 hc
  exact rst_run.2 ⟨l, h.run hl⟩
theorem SubB.opn {s s' : Smp} {b : Int} (h : SubB s s' b) {c : List Int} (hc : canF s b c = true) {n : Nat} (hn : (n : Int) ≤ s.L) (ho : opnH s b c n = true) : opnH s' b c n = true := by
  obtain ⟨l, h1, h2⟩ := (opn_run hc hn).1 ho
  have := h.run h1
  rw [h.L] at this
  exact (opn_run (h.can hc) (by rw [← h.L]; exact hn)).2 ⟨l, this, h2⟩
theorem chains_iff {s : Smp} (hp : ∀ p ∈ s.ps, p.lo ≤ p.hi) {b : Int} (c : List Int) : c ∈ chainsL s b ↔ ∃ hs q, InR s.ps hs ∧ chN s b hs (s.L + 1).toNat = some q ∧ padC q.1 = c := by
  have hz : c ∈ chainsL s b ↔ ∃ z ∈ zAll b s.ps, zchF s.L s.F b z = some c := by
    show c ∈ ddC s b (timesL s b) ↔ _
    rw [ddC_mem]
    unfold zAll timesL
    constructor
    · rintro ⟨ts, h1, h2⟩
      refine ⟨_, List.mem_map.2 ⟨ts, h1, rfl⟩, ?_⟩
      rw [← chF_z (genT_len b s.ps [] ts h1 |>.trans (by simp))]; exact h2
    · rintro ⟨z, h1, h2⟩
      obtain ⟨ts, h3, rfl⟩ := List.mem_map.1 h1
      exact ⟨ts, h3, by rw [chF_z (genT_len b s.ps [] ts h3 |>.trans (by simp))]; exact h2⟩
  rw [hz]
  constructor
  · rintro ⟨z, h3, h4⟩
    obtain ⟨hs, h5, rfl⟩ := zAll_ex hp h3
    unfold zchF at h4
    rw [← chN_z s b hs h5.len] at h4
    obtain ⟨q, h6, h7⟩ := Option.map_eq_some_iff.1 h4
    exact ⟨hs, q, h5, h6, h7⟩
  · rintro ⟨hs, q, h1, h2, rfl⟩
    refine ⟨zOwn b s.ps hs, zOwn_in h1, ?_⟩
    unfold zchF
    rw [← chN_z s b hs h1.len, h2]; rfl
end Go.Sp
/-
  A truth is a way; bottles without stamps: plainly.
-/
namespace Go.Sp
open Go Go.Proofs
def opA (a : Int) : Bool := decide (a = 1) || decide (a = 3)
end Go.Sp
/-
  SampleSealed, walked.
-/
namespace Go.Sp
open Go Go.Proofs
end Go.Sp
/-
  Sights of a truth; who can have opened a bottle; plainly.
-/
namespace Go.Sp
open Go Go.Proofs
structure SgOk (x : Smp) (q : List (List Int) × List (List Bool)) (sg : List Sgt) : Prop where
  n6 : sg.length ≤ 6
  v : ∀ g ∈ sg, ((0 ≤ g.b ∧ g.b < x.B) ∧ 0 ≤ g.h ∧ g.h ≤ x.L) ∧ (q.2.getD g.b.toNat []).getD g.h.toNat false = g.wh
theorem SgOk.nil (x : Smp) (q : List (List Int) × List (List Bool)) : SgOk x q [] := ⟨by simp, fun g hg => by cases hg⟩
theorem SgOk.snoc {x : Smp} {q : List (List Int) × List (List Bool)} {sg : List Sgt} (h : SgOk x q sg) (hl : sg.length < 6) {b k : Nat} (hb : (b : Int) < x.B) (hk : (k : Int) ≤ x.L) : SgOk x q (sg ++ [⟨b, k, (q.2.getD b []).getD k false⟩]) := by
  refine ⟨by simp; omega, fun g hg => ?_⟩
  rcases List.mem_append.1 hg with hg | hg
  · exact h.v g hg
  · obtain rfl := List.mem_singleton.1 hg
    exact ⟨⟨⟨by dsimp only; omega, hb⟩, by dsimp only; omega, hk⟩, rfl⟩
end Go.Sp
/-
  SampleLeft, walked.
-/
namespace Go.Sp
open Go Go.Proofs
end Go.Sp
/-
  SampleSealed.
-/
namespace Go.Sp
open Go Go.Proofs
/-- A slice of slices that lies apart from some blocks. -/
def RdLP {α : Type} (k : Nat) (enc : α → List Value) (S : List Nat) (w : World) (v : Value) (xss : List (List α)) : Prop := ∃ us : List Sv, (RdS 1 svE w v us ∧ sepS v S) ∧ (us.length = xss.length ∧ ∀ u ∈ us, sepS u.1 S) ∧ ∀ j, j < xss.length → RdS k enc w (us.getD j sv0).1 (xss.getD j [])
theorem RdLP.fr {α : Type} {k : Nat} {enc : α → List Value} {S : List Nat} {w w' : World} {v : Value} {xss : List (List α)} (h : RdLP k enc S w v xss) (f : Fr S w w') : RdLP k enc S w' v xss := by
  obtain ⟨us, ⟨h1, h2⟩, ⟨h3, h4⟩, h5⟩ := h
  exact ⟨us, ⟨h1.frS f h2, h2⟩, ⟨h3, h4⟩, fun j hj => (h5 j hj).frS f (h4 _ (getD_memG (by omega)))⟩
theorem RdLP.sub {α : Type} {k : Nat} {enc : α → List Value} {S S' : List Nat} {w : World} {v : Value} {xss : List (List α)} (h : RdLP k enc S w v xss) (hs : ∀ b ∈ S', b ∈ S) : RdLP k enc S' w v xss := by
  obtain ⟨us, ⟨h1, h2⟩, ⟨h3, h4⟩, h5⟩ := h
  exact ⟨us, ⟨h1, fun p m c e hm => h2 p m c e (hs _ hm)⟩, ⟨h3, fun u hu p m c e hm => h4 u hu p m c e (hs _ hm)⟩, h5⟩
theorem RdLP.opens {α : Type} {k : Nat} {enc : α → List Value} {S : List Nat} {w : World} {n : Nat} {y : Option Addr × Nat} {xss : List (List α)} (h : RdLP k enc S w (slV n y) xss) :
    ∃ b o, ∃ us : List Sv, (0 < xss.length → y.1 = some ⟨b, o, none⟩) ∧ (∀ w', Fr S w w' → ∀ i, i < xss.length → w'.cell? ⟨b, o + i, none⟩ = some (us.getD i sv0).1) ∧ ∀ i, i < xss.length → sepS (us.getD i sv0).1 S ∧ RdS k enc w (us.getD i sv0).1 (xss.getD i []) := by
  obtain ⟨us, ⟨h1, h2⟩, ⟨h3, h4⟩, h5⟩ := h
  obtain ⟨ad, cap, b, o, e, had, hcell⟩ := h1.opens svE_len sv0 h2
  injection e with e1 e2 e3
  subst e1
  rw [h3] at had
  refine ⟨b, o, us, had, fun w' f i hi => ?_, fun i hi => ⟨h4 _ (getD_memG (by omega)), h5 i hi⟩⟩
  have := (hcell w' f i (by omega)).get 0 _ rfl
  rw [Nat.mul_one, Nat.add_zero] at this
  exact this
theorem sepS.sub {v : Value} {S S' : List Nat} (h : sepS v S) (hs : ∀ b ∈ S', b ∈ S) : sepS v S' := fun p m c e hm => h p m c e (hs _ hm)
theorem sepS.own {b n c : Nat} {S : List Nat} (h : b ∉ S) : sepS (.slice (some ⟨b, 0, none⟩) n c) S := fun p m c' e hm => by cases e; exact h hm
end Go.Sp
/-
  Appending to an own slice what another one holds, of any length.
-/
namespace Go.Sp
open Go Go.Proofs
theorem e_append_big {P : Program} {N : NN} {F : List (Nat × Value)} {bs : List (World × List Nat)} {H : List (Nat × Obj)} {ty : TypeId} {pos : String} {after : Array Edge} {g : Option (Nat × Bool)} {dd : Tmp} {t e : TypeId} {sz by_ : Nat} [hs : TySlice P t e sz] [hi : TyElem P e sz by_] {x y : Operand} {b len cap : Nat} {old junk : List Value} {H' : List (Nat × Obj)} {xv : Value} {n : Nat} {vs : List Value} (hd : Nat.blt dd N.n = true)
    (hx : evalO F x = some (.slice (some ⟨b, 0, none⟩) len cap)) (hy : evalO F y = some xv) (hdel : HD b (.cells (old ++ junk).toArray e (0, 0)) H H') (hlen : old.length = len * sz) (hcap : junk.length = (cap - len) * sz) (hlc : len ≤ cap)
    (hr : ∀ w, HG bs H w → Reads w xv sz n vs) (h1 : one' vs) (hsm : len + n ≤ 9223372036854775807) (hby : (len + n) * by_ ≤ 140737488355328) :
    OpE P ⟨some dd, .call ⟨.builtin .append, #[x, y], #[t, t]⟩, ty, pos, after, g⟩ N F bs H (fun r : Nat × Nat × List Value => len + n ≤ r.2.1 ∧ r.2.2.length = (r.2.1 - (len + n)) * sz) (fun r => (dd, .slice (some ⟨r.1, 0, none⟩) (len + n) r.2.1) :: F) (fun _ => bs)
      (fun r => (r.1, .cells (old ++ vs ++ r.2.2).toArray e (0, 0)) :: H') := by
  unfold OpE
  intro a w ht hw K Q hK
  obtain ⟨i, z, h1', h2, h3, h4, h5⟩ := hi.info
  have hb := hw.heap _ hdel.mem
  have hsrc : Src P i.size t xv n vs w := by rw [h3]; exact (hr w hw).src h1
  have hvl : vs.length = n * sz := (hr w hw).1
  unfold Oper.wp
  simp only [execOp, resolve, invoke, builtin, Sem.run_bind, Sem.run_pure, Result.andThen, List.map_toArray, List.map_cons, List.map_nil, ht.eval hx, ht.eval hy]
  by_cases hroom : len + n ≤ cap
  · have hsz : (old ++ junk).length = cap * sz := by
      rw [List.length_append, hlen, hcap, ← Nat.add_mul]; congr 1; omega
    have hle : len * sz + n * sz ≤ cap * sz := by rw [← Nat.add_mul]; exact Nat.mul_le_mul_right _ hroom
    obtain ⟨w', c', k1, k2, k3, k4, k5, k6, k7⟩ := storeCells_at (P := P) (b := b) (o := len * sz) (e := e) vs 0 w (old ++ junk).toArray hb (by simp only [List.size_toArray, hsz, hvl]; omega) h1
    have hlt : ∀ j, j < vs.length → len * sz + j < (old ++ junk).length := fun j hj => by rw [hsz]; omega
    have hcc : ∀ j, j < vs.length → (w.cell? ⟨b, 0 + len * i.size + j, none⟩).isSome = true := fun j hj => by
      have := hlt j hj
      simp only [World.cell?, hb, h3, Nat.zero_add]
      simp
      simpa using this
    have hff : ∀ j, j < vs.length → w.frozen? ⟨b, 0 + len * i.size + j, none⟩ = false := fun j hj => by simp [World.frozen?, hb]
    have hrun := run_append_room_src (P := P) w t t ty e i hs.ty h1' b 0 len cap xv n vs hsrc hroom hcc hff
    have hst := run_storeCells_cells (P := P) b (0 + len * i.size) vs 0 w (by simpa using hcc) (by simpa using hff) h1
    simp only [Nat.add_zero, Nat.zero_add, h3] at hst hrun
    rw [k1] at hst
    obtain rfl : w' = w.setCells b (len * sz) vs := by injection hst
    rw [hrun]
    simp only [Sem.run_pure, Result.andThen, Oper.upon]
    have hcells : c' = (old ++ vs ++ junk.drop (n * sz)).toArray := by
      apply Array.ext_getElem?
      intro k
      rw [k7 k]
      simp only [Nat.add_zero, List.getElem?_toArray]
      by_cases hk : len * sz ≤ k ∧ k < len * sz + vs.length
      · rw [if_pos hk, List.append_assoc, List.getElem?_append_right (by omega), List.getElem?_append_left (by omega), hlen]
      · rw [if_neg hk]
        by_cases hk' : k < len * sz
        · rw [List.getElem?_append_left (by omega), List.append_assoc, List.getElem?_append_left (by omega)]
        · rw [List.getElem?_append_right (by omega), List.getElem?_append_right (by simp only [List.length_append]; omega), List.getElem?_drop]
          congr 1
          simp only [List.length_append]
          omega
    subst hcells
    have hhg : HG bs ((b, .cells (old ++ vs ++ junk.drop (n * sz)).toArray e (0, 0)) :: H') (w.setCells b (len * sz) vs) :=
      (hw.perm hdel.perm).set .head ⟨k2, k3, k4, k5⟩
    refine hK (b, cap, junk.drop (n * sz)) _ _ ⟨hroom, ?_⟩ (ht.put hd _) hhg
    simp only [List.length_drop, hcap]
    rw [← Nat.sub_mul]; congr 1; omega
  · have hrun := run_append_grow_src (P := P) w t t ty e i z hs.ty h1' h2 (some ⟨b, 0, none⟩) len cap old (by
      rw [h3]
      refine firstCells_run (w := w.drew) ⟨hlen, _, _, rfl, fun hne => ⟨b, 0, rfl, ?_⟩⟩
      have hca := CA_pre old junk e (0, 0)
      rw [hlen] at hca
      exact hca.cells hb) xv n vs hsrc (by omega) (by omega) (by rw [h4]; exact growslice_fits (by omega) hby)
    rw [hrun]
    simp only [Sem.run_pure, Result.andThen, Oper.upon]
    have hcells : (old ++ vs).toArray ++ Builtin.zeroCells z.cells (grownCap w (len + n) cap e - (len + n)) = (old ++ vs ++ (Builtin.zeroCells z.cells (grownCap w (len + n) cap e - (len + n))).toList).toArray := by apply Array.ext'; simp
    rw [hcells]
    refine hK (w.heap.size, grownCap w (len + n) cap e, (Builtin.zeroCells z.cells (grownCap w (len + n) cap e - (len + n))).toList) _ _ ⟨?_, ?_⟩ (ht.put hd _) ((hw.sub (fun _ h => h) hdel.sub).drew.alloc _)
    · simp [grownCap, Question.cut]
    · simp [Builtin.zeroCells, h5]
end Go.Sp
/-
  SampleMore, walked.
-/
namespace Go.Sp
open Go Go.Proofs
/-- So many sights, and one more, are not too many bytes. -/
def BigOk (n : Nat) : Prop := (n + 1) * 24 ≤ 140737488355328
theorem BigOk.b {n : Nat} {x : Sgt} (h : BigOk n) : (0 + n + [x].length) * 24 ≤ 140737488355328 := Nat.le_trans (Nat.mul_le_mul_right 24 (by rw [List.length_singleton, Nat.zero_add]; exact Nat.le_refl _)) h
theorem flatE_one {α : Type} {enc : α → List Value} (h : ∀ x, one' (enc x)) (xs : List α) : one' (xs.flatMap enc) := fun u hu => by
  obtain ⟨x, _, hx⟩ := List.mem_flatMap.1 hu
  exact h x u hx
end Go.Sp
/-
  Sighted.
-/
namespace Go.Sp
open Go Go.Proofs
theorem RdS.app {α : Type} {k : Nat} {enc : α → List Value} (hk : ∀ x, (enc x).length = k) {bs : List (World × List Nat)} {H : List (Nat × Obj)} {w : World} {b c n : Nat} {xs : List α} {x : α} {junk : List Value} {e : TypeId} (hw : HG bs H w) (hm : HM b (.cells ([] ++ xs.flatMap enc ++ [x].flatMap enc ++ junk).toArray e (0, 0)) H) (hn : n = (xs ++ [x]).length) : RdS k enc w (.slice (some ⟨b, 0, none⟩) n c) (xs ++ [x]) := by
  subst hn
  have e1 : [] ++ xs.flatMap enc ++ [x].flatMap enc ++ junk = (xs ++ [x]).flatMap enc ++ junk := by rw [List.nil_append, List.flatMap_append]
  rw [e1] at hm
  exact RdS.own hk hw hm
end Go.Sp
/-
  The reference's ways, plainly; drawn regions by states.
-/
namespace Go.Sp
open Go Go.Proofs
section
variable {r : Option Nat} {P : Program} {ops : Array Oper} {Q : Exit → Act → World → Prop} {N : NN} {F : List (Nat × Value)} {bs : List (World × List Nat)} {H : List (Nat × Obj)}
/-- A state of a drawn region, proved once. -/
theorem tx_cutG {A : Type} (p : A → Prop) {fuel n' : Nat} {S : World → Prop} {listed : Array Bool} {L' : List Bool} (F' : A → List (Nat × Value)) (bs' : List (World × List Nat)) (H' : A → List (Nat × Obj)) (h1 : ∀ x, p x → TX r P ops Q n' S L'.toArray N (F' x) bs' (H' x))
    (h2 : (∀ x, p x → TX r P ops Q n' S L'.toArray N (F' x) bs' (H' x)) → TX r P ops Q fuel S listed N F bs H) : TX r P ops Q fuel S listed N F bs H := h2 h1
theorem tx_meetG {n n' : Nat} {S : World → Prop} {listed : Array Bool} {L' : List Bool} {F' : List (Nat × Value)} {bs' : List (World × List Nat)} {H' : List (Nat × Obj)} (h1 : TX r P ops Q n' S L'.toArray N F' bs' H')
    (hn : n = n') (hL : listed = L'.toArray) (hF : Sub F F') (hH : ∀ w, HG bs H w → HG bs' H' w) : TX r P ops Q n S listed N F bs H := by
  subst hn hL
  unfold TX at h1 ⊢
  exact fun a w ht hw => h1 a w (ht.sub hF) (hH w hw)
theorem tx_four {fuel : Nat} {S : World → Prop} {listed : Array Bool} (i j k l : Nat) (hr : Region.ready .any ops listed = [i, j, k, l]) (h1 : TOne r P ops Q fuel S listed i N F bs H) (h2 : TOne r P ops Q fuel S listed j N F bs H) (h3 : TOne r P ops Q fuel S listed k N F bs H) (h4 : TOne r P ops Q fuel S listed l N F bs H) : TX r P ops Q (fuel + 1) S listed N F bs H := by
  unfold TOne at h1 h2 h3 h4
  unfold TX
  exact fun a w ht hw =>
    ⟨fun h0 => (by rw [h0] at hr; cases hr), fun q hq => by
      rw [hr] at hq
      rcases (by simpa using hq : q = i ∨ q = j ∨ q = k ∨ q = l) with rfl | rfl | rfl | rfl
      · exact h1 a w ht hw
      · exact h2 a w ht hw
      · exact h3 a w ht hw
      · exact h4 a w ht hw⟩
theorem tx_five {fuel : Nat} {S : World → Prop} {listed : Array Bool} (i j k l m : Nat) (hr : Region.ready .any ops listed = [i, j, k, l, m]) (h1 : TOne r P ops Q fuel S listed i N F bs H) (h2 : TOne r P ops Q fuel S listed j N F bs H) (h3 : TOne r P ops Q fuel S listed k N F bs H) (h4 : TOne r P ops Q fuel S listed l N F bs H) (h5 : TOne r P ops Q fuel S listed m N F bs H) : TX r P ops Q (fuel + 1) S listed N F bs H := by
  unfold TOne at h1 h2 h3 h4 h5
  unfold TX
  exact fun a w ht hw =>
    ⟨fun h0 => (by rw [h0] at hr; cases hr), fun q hq => by
      rw [hr] at hq
      rcases (by simpa using hq : q = i ∨ q = j ∨ q = k ∨ q = l ∨ q = m) with rfl | rfl | rfl | rfl | rfl
      · exact h1 a w ht hw
      · exact h2 a w ht hw
      · exact h3 a w ht hw
      · exact h4 a w ht hw
      · exact h5 a w ht hw⟩
end
section
variable {bs : List (World × List Nat)} {B : List (Nat × Obj)} {w : World} {x a b c d : Nat × Obj}
theorem HG.mid1 (h : HG bs (x :: a :: B) w) : HG bs (a :: x :: B) w := h.perm (List.Perm.swap _ _ _)
theorem HG.mid2 (h : HG bs (x :: a :: b :: B) w) : HG bs (a :: b :: x :: B) w := h.perm (List.perm_middle (l₁ := [a, b])).symm
theorem HG.mid3 (h : HG bs (x :: a :: b :: c :: B) w) : HG bs (a :: b :: c :: x :: B) w := h.perm (List.perm_middle (l₁ := [a, b, c])).symm
theorem HG.mid4 (h : HG bs (x :: a :: b :: c :: d :: B) w) : HG bs (a :: b :: c :: d :: x :: B) w := h.perm (List.perm_middle (l₁ := [a, b, c, d])).symm
end
theorem opA_decW (a : Int) : opA a = decide (a = 1 ∨ a = 3) := by
  unfold opA
  by_cases h1 : a = 1 <;> by_cases h3 : a = 3 <;> simp [h1, h3]
structure Wy where
  ac : List Int
  br : List Bool
  op : List Bool
abbrev wy0 : Wy := ⟨[], [], []⟩
def wasW (x : Wy) (h : Nat) : Bool := if h = 0 then false else x.br.getD (h - 1) false
def wyS (x : Wy) (h : Nat) (a : Nat) : Wy := ⟨x.ac ++ [(a : Int)], x.br ++ [acY (wasW x h) a], x.op ++ [wasW x h || opA a]⟩
def wyA (s : Smp) (b : Int) (c : List Int) (h : Nat) (x : Wy) (a : Nat) : List Wy := if acIs (wasW x h) (stB s c h) a = true ∧ seenB s b h (acY (wasW x h) a) = true then [wyS x h a] else []
def wyN (s : Smp) (b : Int) (c : List Int) (h : Nat) (x : Wy) : Nat → List Wy
  | 0 => []
  | a + 1 => wyN s b c h x a ++ wyA s b c h x a
def wyI (s : Smp) (b : Int) (c : List Int) (h : Nat) (xs : List Wy) : Nat → List Wy
  | 0 => []
  | i + 1 => wyI s b c h xs i ++ wyN s b c h (xs.getD i wy0) 4
def waysF (s : Smp) (b : Int) (c : List Int) : Nat → List Wy
  | 0 => [wy0]
  | h + 1 => wyI s b c h (waysF s b c h) (waysF s b c h).length
theorem wyN_len (s : Smp) (b : Int) (c : List Int) (h : Nat) (x : Wy) : ∀ a, (wyN s b c h x a).length ≤ a
  | 0 => Nat.le_refl 0
  | a + 1 => by
    have := wyN_len s b c h x a
    rw [wyN, List.length_append]
    unfold wyA
    split <;> simp <;> omega
theorem wyI_len (s : Smp) (b : Int) (c : List Int) (h : Nat) (xs : List Wy) : ∀ i, (wyI s b c h xs i).length ≤ 4 * i
  | 0 => Nat.le_refl 0
  | i + 1 => by
    have := wyI_len s b c h xs i
    have := wyN_len s b c h (xs.getD i wy0) 4
    rw [wyI, List.length_append]; omega
theorem waysF_len4 (s : Smp) (b : Int) (c : List Int) : ∀ h, (waysF s b c h).length ≤ 4 ^ h
  | 0 => Nat.le_refl 1
  | h + 1 => by
    have := waysF_len4 s b c h
    have := wyI_len s b c h (waysF s b c h) (waysF s b c h).length
    rw [waysF, Nat.pow_succ]; omega
theorem waysF_len (s : Smp) (b : Int) (c : List Int) {h : Nat} (hh : h ≤ 7) : (waysF s b c h).length ≤ 16384 :=
  Nat.le_trans (waysF_len4 s b c h) (Nat.le_trans (Nat.pow_le_pow_right (by omega) hh) (by decide))
structure WyL (h : Nat) (x : Wy) : Prop where
  ac : x.ac.length = h
  br : x.br.length = h
  op : x.op.length = h
theorem wyS_len {x : Wy} {h a : Nat} (hx : WyL h x) : WyL (h + 1) (wyS x h a) := ⟨by simp [wyS, hx.ac], by simp [wyS, hx.br], by simp [wyS, hx.op]⟩
theorem mem_wyN {s : Smp} {b : Int} {c : List Int} {h : Nat} {x y : Wy} : ∀ {n : Nat}, y ∈ wyN s b c h x n ↔ ∃ a, a < n ∧ (acIs (wasW x h) (stB s c h) a = true ∧ seenB s b h (acY (wasW x h) a) = true) ∧ y = wyS x h a
  | 0 => ⟨(fun h => by cases h), fun ⟨a, ha, _⟩ => absurd ha (Nat.not_lt_zero a)⟩
  | n + 1 => by
    rw [wyN, List.mem_append, mem_wyN (n := n)]
    unfold wyA
    constructor
    · rintro (⟨a, h1, h2⟩ | h1)
      · exact ⟨a, by omega, h2⟩
      · split at h1
        · rename_i h2; exact ⟨n, by omega, h2, List.mem_singleton.1 h1⟩
        · cases h1
    · rintro ⟨a, h1, h2, h3⟩
      by_cases ha : a = n
      · subst ha; right; rw [if_pos h2]; exact List.mem_singleton.2 h3
      · exact .inl ⟨a, by omega, h2, h3⟩
theorem mem_wyI {s : Smp} {b : Int} {c : List Int} {h : Nat} {xs : List Wy} {y : Wy} : ∀ {i : Nat}, i ≤ xs.length → (y ∈ wyI s b c h xs i ↔ ∃ j, j < i ∧ y ∈ wyN s b c h (xs.getD j wy0) 4)
  | 0, _ => ⟨(fun h => by cases h), fun ⟨a, ha, _⟩ => absurd ha (Nat.not_lt_zero a)⟩
  | i + 1, hi => by
    rw [wyI, List.mem_append, mem_wyI (i := i) (by omega)]
    constructor
    · rintro (⟨j, h1, h2⟩ | h1)
      · exact ⟨j, by omega, h2⟩
      · exact ⟨i, by omega, h1⟩
    · rintro ⟨j, h1, h2⟩
      by_cases hj : j = i
      · subst hj; exact .inr h2
      · exact .inl ⟨j, by omega, h2⟩
theorem mem_ways {s : Smp} {b : Int} {c : List Int} {h : Nat} {y : Wy} : y ∈ waysF s b c (h + 1) ↔ ∃ x ∈ waysF s b c h, ∃ a : Nat, a < 4 ∧ (acIs (wasW x h) (stB s c h) a = true ∧ seenB s b h (acY (wasW x h) a) = true) ∧ y = wyS x h a := by
  rw [waysF, mem_wyI (Nat.le_refl _)]
  constructor
  · rintro ⟨j, hj, h1⟩
    obtain ⟨a, h2⟩ := mem_wyN.1 h1
    exact ⟨_, getD_memG hj, a, h2⟩
  · rintro ⟨x, hx, h1⟩
    obtain ⟨j, hj, rfl⟩ := List.getElem_of_mem hx
    refine ⟨j, hj, mem_wyN.2 ?_⟩
    rw [List.getD_eq_getElem?_getD, List.getElem?_eq_getElem hj]
    exact h1
theorem ways_wl {s : Smp} {b : Int} {c : List Int} : ∀ {h : Nat} {y : Wy}, y ∈ waysF s b c h → WyL h y
  | 0, y, hy => by obtain rfl := List.mem_singleton.1 hy; exact ⟨rfl, rfl, rfl⟩
  | h + 1, y, hy => by
    obtain ⟨x, hx, a, _, _, rfl⟩ := mem_ways.1 hy
    exact wyS_len (ways_wl hx)
abbrev Wv := Sv × Sv × Sv
abbrev wv0 : Wv := (sv0, sv0, sv0)
def wyE (u : Wv) : List Value := [u.1.1, u.2.1.1, u.2.2.1]
theorem wyE_len (u : Wv) : (wyE u).length = 3 := rfl
theorem wyE_one (u : Wv) : one' (wyE u) := fun v hv => by
  simp only [wyE, List.mem_cons, List.not_mem_nil, or_false] at hv
  rcases hv with rfl | rfl | rfl
  · exact u.1.2
  · exact u.2.1.2
  · exact u.2.2.2
structure WyR (w : World) (u : Wv) (x : Wy) : Prop where
  ac : RdS 1 inE w u.1.1 x.ac
  br : RdS 1 boE w u.2.1.1 x.br
  op : RdS 1 boE w u.2.2.1 x.op
theorem WyR.fr {w w' : World} {u : Wv} {x : Wy} (h : WyR w u x) (f : Fr [] w w') : WyR w' u x := ⟨h.ac.fr f, h.br.fr f, h.op.fr f⟩
def WsAt (w : World) (us : List Wv) (xs : List Wy) : Prop := us.length = xs.length ∧ ∀ j, j < xs.length → WyR w (us.getD j wv0) (xs.getD j wy0)
theorem WsAt.fr {w w' : World} {us : List Wv} {xs : List Wy} (h : WsAt w us xs) (f : Fr [] w w') : WsAt w' us xs := ⟨h.1, fun j hj => (h.2 j hj).fr f⟩
structure WyK (w : World) (S : List Nat) (u : Wv) (x : Wy) : Prop where
  ac : OKS 1 inE w S u.1.1 x.ac
  br : OKS 1 boE w S u.2.1.1 x.br
  op : OKS 1 boE w S u.2.2.1 x.op
def WsK (w : World) (S : List Nat) (us : List Wv) (xs : List Wy) : Prop := us.length = xs.length ∧ ∀ j, j < xs.length → WyK w S (us.getD j wv0) (xs.getD j wy0)
theorem WsK.nil {w : World} {S : List Nat} : WsK w S [] [] := ⟨rfl, fun j hj => absurd hj (Nat.not_lt_zero j)⟩
theorem WsK.step {w w1 : World} {S S' : List Nat} {us : List Wv} {xs : List Wy} (h : WsK w S us xs) (f : Fr S w w1) (hS : ∀ b ∈ S', b ∈ S ∨ w.heap.size ≤ b) : WsK w1 S' us xs := ⟨h.1, fun j hj => ⟨(h.2 j hj).ac.step f hS, (h.2 j hj).br.step f hS, (h.2 j hj).op.step f hS⟩⟩
theorem WsK.snoc {w : World} {S : List Nat} {us : List Wv} {xs : List Wy} {u : Wv} {x : Wy} (h : WsK w S us xs) (hv : WyK w S u x) : WsK w S (us ++ [u]) (xs ++ [x]) := by
  refine ⟨by simp [h.1], fun j hj => ?_⟩
  rw [List.length_append, List.length_singleton] at hj
  rw [getD_snocK, getD_snocK, h.1]
  by_cases hlt : j < xs.length
  · rw [if_pos hlt, if_pos hlt]; exact h.2 j hlt
  · rw [if_neg hlt, if_neg hlt, if_pos (by omega), if_pos (by omega)]; exact hv
theorem WsK.at {w w' : World} {S : List Nat} {us : List Wv} {xs : List Wy} (h : WsK w S us xs) (f : Fr S w w') : WsAt w' us xs := ⟨h.1, fun j hj => ⟨(h.2 j hj).ac.rd' f, (h.2 j hj).br.rd' f, (h.2 j hj).op.rd' f⟩⟩
/-- What is open lies in new blocks. -/
def NewO (w : World) (us : List Wv) : Prop := ∀ u ∈ us, NewS w u.2.2.1
theorem NewO.nil (w : World) : NewO w [] := fun u hu => by cases hu
theorem NewO.snoc {w : World} {us : List Wv} {u : Wv} (h : NewO w us) (hu : NewS w u.2.2.1) : NewO w (us ++ [u]) := fun v hv => by
  rcases List.mem_append.1 hv with hv | hv
  · exact h v hv
  · obtain rfl := List.mem_singleton.1 hv; exact hu
def RdWs (w : World) (v : Value) (xs : List Wy) : Prop := ∃ us : List Wv, RdS 3 wyE w v us ∧ WsAt w us xs
theorem RdWs.fr {w w' : World} {v : Value} {xs : List Wy} (h : RdWs w v xs) (f : Fr [] w w') : RdWs w' v xs := by
  obtain ⟨us, h1, h2⟩ := h
  exact ⟨us, h1.fr f, h2.fr f⟩
theorem RdS.openW {α : Type} {k : Nat} {enc : α → List Value} {w : World} {n : Nat} {y : Option Addr × Nat} {xs : List α} (h : RdS k enc w (slV n y) xs) (hk : ∀ x, (enc x).length = k) (d : α) :
    ∃ b o, (0 < xs.length → y.1 = some ⟨b, o, none⟩) ∧ ∀ w', Fr [] w w' → ∀ i, i < xs.length → CA (fun n => w'.cell? ⟨b, n, none⟩) (o + i * k) k (enc (xs.getD i d)) := by
  obtain ⟨ad, cap, b, o, e, had, hcell⟩ := h.open hk d
  injection e with e1 e2 e3
  subst e1
  exact ⟨b, o, had, fun w' f i hi => hcell w' [] f (by simp) i hi⟩
/-- A slice that was made by two appends, let go. -/
theorem OKS.app {α : Type} {k : Nat} {enc : α → List Value} (hk : ∀ x, (enc x).length = k) {bs : List (World × List Nat)} {H Hk : List (Nat × Obj)} {w : World} {b c n : Nat} {xs : List α} {x : α} {junk : List Value} {e : TypeId} (hw : HG bs H w) (hm : HM b (.cells ([] ++ xs.flatMap enc ++ [x].flatMap enc ++ junk).toArray e (0, 0)) H) (hn : n = (xs ++ [x]).length) (hb : b ∉ Hk.map Prod.fst) : OKS k enc w (Hk.map Prod.fst) (.slice (some ⟨b, 0, none⟩) n c) (xs ++ [x]) :=
  ⟨RdS.app hk hw hm hn, fun _ p m c' e' => by cases e'; exact ⟨hw.lt hm.mem, hb⟩⟩
end Go.Sp
