
/-
  What all statements about trials end with: the chapter's example.
-/
import Derived.Test.YtegojecjmaifdaaGreatM4
import Derived.Test.YtegojecjmaifdaaGreatRows
import Derived.ProofKit
import Derived.OpenShut
import Derived.Carry
import Derived.Deep.Fields
set_option linter.unusedVariables false
set_option linter.unusedSimpArgs false
set_option linter.deprecated false
namespace Go.Sp
open Go Go.Proofs
theorem ints9_c (a b : List Int) (ha : (a.length : Int) ≤ 9000000000000000000) (hb : (b.length : Int) ≤ 9000000000000000000) (av bv : Value) (w : World) (hA : RdI w av a) (hB : RdI w bv b) :
    CnV Tryz.prog 24 #[av, bv] w (.bool (decide (a = b))) := by
  obtain ⟨ad, cap, b0, o, rfl, had, hcell⟩ := hA.open
  obtain ⟨ad2, cap2, b02, o2, rfl, had2, hcell2⟩ := hB.open
  refine cnv (vs := [_, _]) Tryz.func24 rfl rfl ?_
  all_goals refine tc_seq fun K1 hK1 => ?_
  all_goals refine tc_region ?_
  all_goals refine tl_q (y_assign rfl) rfl ?_
  all_goals refine tl_nil ?_
  all_goals (refine hK1 ?_; try (clear hK1; clear K1))
  all_goals refine tc_seq fun K2 hK2 => ?_
  all_goals refine tc_seq fun K3 hK3 => ?_
  all_goals refine tc_region ?_
  all_goals refine tl_q (y_move rfl) rfl ?_
  all_goals refine tl_q (y_len rfl) rfl ?_
  all_goals refine tl_q (y_move rfl) rfl ?_
  all_goals refine tl_q (y_len rfl) rfl ?_
  all_goals refine tl_q (y_neq rfl rfl) rfl ?_
  all_goals refine tl_nil ?_
  all_goals (refine hK3 ?_; try (clear hK3; clear K3))
  all_goals (
   refine tc_cond rfl (fun hc => ?_) (fun hc => ?_)
   · try simp only [decide_eq_true_eq, decide_eq_false_iff_not, Int.not_lt, Int.not_le, Bool.not_eq_true', Bool.not_eq_false', Decidable.not_not, not_true_eq_false] at hc
     all_goals first | (exfalso; with_reducible exact bft hc) | (exfalso; with_reducible exact btf hc) | (exfalso; omega) | skip
     all_goals refine tc_seq fun K4 hK4 => ?_
     all_goals refine tc_region ?_
     all_goals refine tl_q (y_assign rfl) rfl ?_
     all_goals refine tl_nil ?_
     all_goals (refine hK4 ?_; try (clear hK4; clear K4))
     all_goals refine tc_ret ?_
     all_goals (repeat (refine tk_then_ret ?_))
     all_goals first | refine tk_ret rfl rfl (.cons (.tmp rfl) .nil) ?_ | refine tk_retM rfl (by repeat constructor) rfl (.cons (.tmp rfl) .nil) ?_
     all_goals (
      refine fun w' hw' => ⟨congrArg (fun n => Ending.returned (Value.bool n)) ?_, hw'.fr (by simp)⟩
      symm
      first
      | exact decide_eq_false (fun h => absurd (congrArg List.length h) (by omega))
      | exact decide_eq_false (fun h => absurd (congrArg (fun l => List.getD l n 0) h) (by omega))
      | exact decide_eq_true (List.ext_getElem (by omega) (fun i h1 h2 => by
          have := hI i (by omega)
          rw [List.getD_eq_getElem?_getD, List.getD_eq_getElem?_getD, List.getElem?_eq_getElem h1, List.getElem?_eq_getElem h2] at this
          exact this)))
   · try simp only [decide_eq_true_eq, decide_eq_false_iff_not, Int.not_lt, Int.not_le, Bool.not_eq_true', Bool.not_eq_false', Decidable.not_not, not_true_eq_false] at hc
     all_goals first | (exfalso; with_reducible exact bft hc) | (exfalso; with_reducible exact btf hc) | (exfalso; omega) | skip
     all_goals refine tc_skip ?_
     all_goals (refine hK2 ?_; try (clear hK2; clear K2))
     all_goals refine tc_seq fun K5 hK5 => ?_
     all_goals refine tc_seq fun K6 hK6 => ?_
     all_goals refine tc_region ?_
     all_goals refine tl_q (y_assign rfl) rfl ?_
     all_goals refine tl_nil ?_
     all_goals (refine hK6 ?_; try (clear hK6; clear K6))
     all_goals refine tc_block ?_
     all_goals (
      refine tc_loop (fun n : Nat => n ≤ a.length ∧ ∀ j : Nat, j < n → a.getD j 0 = b.getD j 0) (fun n => [(0, .slice ad a.length cap), (1, .slice ad2 b.length cap2), (5, vi n)]) (fun _ => [(w, [])]) (fun _ => []) (fun n => a.length - n) ?_ ?_
      · exact tk_start 0 ⟨Nat.zero_le _, fun i hi => absurd hi (Nat.not_lt_zero i)⟩ (.cons rfl (.cons rfl (.cons rfl .nil))) (fun _ h => h)
      · rintro n ⟨hn, hI⟩
        all_goals refine tc_seq fun K7 hK7 => ?_
        all_goals refine tc_seq fun K8 hK8 => ?_
        all_goals refine tc_region ?_
        all_goals refine tl_q (y_move rfl) rfl ?_
        all_goals refine tl_q (y_move rfl) rfl ?_
        all_goals refine tl_q (y_len rfl) rfl ?_
        all_goals refine tl_q (y_lss rfl rfl) rfl ?_
        all_goals refine tl_nil ?_
        all_goals (refine hK8 ?_; try (clear hK8; clear K8))
        all_goals (
         refine tc_cond rfl (fun hc => ?_) (fun hc => ?_)
         · try simp only [decide_eq_true_eq, decide_eq_false_iff_not, Int.not_lt, Int.not_le, Bool.not_eq_true', Bool.not_eq_false', Decidable.not_not, not_true_eq_false] at hc
           all_goals first | (exfalso; with_reducible exact bft hc) | (exfalso; with_reducible exact btf hc) | (exfalso; omega) | skip
           all_goals refine tc_skip ?_
           all_goals (refine hK7 ?_; try (clear hK7; clear K7))
           all_goals refine tc_seq fun K9 hK9 => ?_
           all_goals refine tc_block ?_
           all_goals refine tc_seq fun K10 hK10 => ?_
           have had' := had (by omega)
           have had2' := had2 (by omega)
           all_goals refine tc_draw (by kernel_rfl) ?_
           all_goals refine tx_p 0 rfl (by kernel_rfl) (y_move rfl) rfl (fun _ _ _ h => h) (fun _ h => h) ?_
           all_goals refine tx_p 1 rfl (by kernel_rfl) (y_move rfl) rfl (fun _ _ _ h => h) (fun _ h => h) ?_
           all_goals (refine tx_p 2 rfl (by kernel_rfl) (y_index rfl rfl (by omega) had') rfl (fun _ _ _ h => h) (fun _ h => h) ?_)
           all_goals (refine tx_q 3 rfl (by kernel_rfl) (y_load1o (v := vi (a.getD n 0)) rfl (fun w' hw' => by rw [show Int.toNat (n : Int) * 1 = n from by omega]; exact hcell w' (hw'.fr (by simp)) n (by omega))) rfl (fun _ _ _ h => h) (fun _ h => h) ?_)
           all_goals refine tx_p 4 rfl (by kernel_rfl) (y_move rfl) rfl (fun _ _ _ h => h) (fun _ h => h) ?_
           all_goals refine tx_p 5 rfl (by kernel_rfl) (y_move rfl) rfl (fun _ _ _ h => h) (fun _ h => h) ?_
           all_goals (refine tx_p 6 rfl (by kernel_rfl) (y_index rfl rfl (by omega) had2') rfl (fun _ _ _ h => h) (fun _ h => h) ?_)
           all_goals (refine tx_q 7 rfl (by kernel_rfl) (y_load1o (v := vi (b.getD n 0)) rfl (fun w' hw' => by rw [show Int.toNat (n : Int) * 1 = n from by omega]; exact hcell2 w' (hw'.fr (by simp)) n (by omega))) rfl (fun _ _ _ h => h) (fun _ h => h) ?_)
           all_goals refine tx_p 8 rfl (by kernel_rfl) (y_neq rfl rfl) rfl (fun _ _ _ h => h) (fun _ h => h) ?_
           all_goals refine tx_done (by kernel_rfl) ?_
           all_goals (refine hK10 ?_; try (clear hK10; clear K10))
           all_goals (
            refine tc_cond rfl (fun hc => ?_) (fun hc => ?_)
            · try simp only [decide_eq_true_eq, decide_eq_false_iff_not, Int.not_lt, Int.not_le, Bool.not_eq_true', Bool.not_eq_false', Decidable.not_not, not_true_eq_false] at hc
              all_goals first | (exfalso; with_reducible exact bft hc) | (exfalso; with_reducible exact btf hc) | (exfalso; omega) | skip
              all_goals refine tc_seq fun K11 hK11 => ?_
              all_goals refine tc_region ?_
              all_goals refine tl_q (y_assign rfl) rfl ?_
              all_goals refine tl_nil ?_
              all_goals (refine hK11 ?_; try (clear hK11; clear K11))
              all_goals refine tc_ret ?_
              all_goals (repeat (first | refine tk_then_ret ?_ | refine tk_block_ret ?_))
              all_goals first | refine tk_ret rfl rfl (.cons (.tmp rfl) .nil) ?_ | refine tk_retM rfl (by repeat constructor) rfl (.cons (.tmp rfl) .nil) ?_
              all_goals (
               refine fun w' hw' => ⟨congrArg (fun n => Ending.returned (Value.bool n)) ?_, hw'.fr (by simp)⟩
               symm
               first
               | exact decide_eq_false (fun h => absurd (congrArg List.length h) (by omega))
               | exact decide_eq_false (fun h => absurd (congrArg (fun l => List.getD l n 0) h) (by omega))
               | exact decide_eq_true (List.ext_getElem (by omega) (fun i h1 h2 => by
                   have := hI i (by omega)
                   rw [List.getD_eq_getElem?_getD, List.getD_eq_getElem?_getD, List.getElem?_eq_getElem h1, List.getElem?_eq_getElem h2] at this
                   exact this)))
            · try simp only [decide_eq_true_eq, decide_eq_false_iff_not, Int.not_lt, Int.not_le, Bool.not_eq_true', Bool.not_eq_false', Decidable.not_not, not_true_eq_false] at hc
              all_goals first | (exfalso; with_reducible exact bft hc) | (exfalso; with_reducible exact btf hc) | (exfalso; omega) | skip
              all_goals refine tc_skip ?_
              all_goals (refine hK9 ?_; try (clear hK9; clear K9))
              all_goals refine tc_region ?_
              all_goals refine tl_q (y_move rfl) rfl ?_
              all_goals refine tl_q (y_add rfl rfl (by omega)) rfl ?_
              all_goals refine tl_q (y_assign rfl) rfl ?_
              all_goals refine tl_nil ?_
              all_goals (
               exact tk_round (n + 1) ⟨by omega, fun i hi => by
                 rcases Nat.lt_succ_iff_lt_or_eq.1 hi with h | rfl
                 · exact hI i h
                 · exact hc⟩ (by omega) (.cons rfl (.cons rfl (.cons rfl .nil))) (fun _ h => h)))
         · try simp only [decide_eq_true_eq, decide_eq_false_iff_not, Int.not_lt, Int.not_le, Bool.not_eq_true', Bool.not_eq_false', Decidable.not_not, not_true_eq_false] at hc
           all_goals first | (exfalso; with_reducible exact bft hc) | (exfalso; with_reducible exact btf hc) | (exfalso; omega) | skip
           all_goals refine tc_exit ?_
           all_goals (refine hK5 ?_; try (clear hK5; clear K5))
           all_goals refine tc_seq fun K12 hK12 => ?_
           all_goals refine tc_region ?_
           all_goals refine tl_q (y_assign rfl) rfl ?_
           all_goals refine tl_nil ?_
           all_goals (refine hK12 ?_; try (clear hK12; clear K12))
           all_goals refine tc_ret ?_
           all_goals (repeat (first | refine tk_then_ret ?_))
           all_goals first | refine tk_ret rfl rfl (.cons (.tmp rfl) .nil) ?_ | refine tk_retM rfl (by repeat constructor) rfl (.cons (.tmp rfl) .nil) ?_
           all_goals (
            refine fun w' hw' => ⟨congrArg (fun n => Ending.returned (Value.bool n)) ?_, hw'.fr (by simp)⟩
            symm
            first
            | exact decide_eq_false (fun h => absurd (congrArg List.length h) (by omega))
            | exact decide_eq_false (fun h => absurd (congrArg (fun l => List.getD l n 0) h) (by omega))
            | exact decide_eq_true (List.ext_getElem (by omega) (fun i h1 h2 => by
                have := hI i (by omega)
                rw [List.getD_eq_getElem?_getD, List.getD_eq_getElem?_getD, List.getElem?_eq_getElem h1, List.getElem?_eq_getElem h2] at this
                exact this))))))
theorem ints9_t (a : List Int) (ha : (a.length : Int) ≤ 9000000000000000000) (av bv : Value) (w : World) (hA : RdI w av a) (hB : RdI w bv a) : CnV Tryz.prog 24 #[av, bv] w (.bool true) := by
  have h := ints9_c a a ha ha av bv w hA hB
  rwa [decide_eq_true rfl] at h
theorem between9_c (a b : Int) (w : World) : CnV Tryz.prog 60 #[vi a, vi b] w (rV (a, b)) := by
  refine cnv (vs := [_, _]) Tryz.func60 rfl rfl ?_
  all_goals refine tc_seq fun K1 hK1 => ?_
  all_goals refine tc_region ?_
  all_goals refine tl_e (e_allocN rfl) rfl (fun _ _ => ?_)
  all_goals refine tl_nil ?_
  all_goals (refine hK1 ?_; try (clear hK1; clear K1))
  all_goals refine tc_seq fun K2 hK2 => ?_
  all_goals refine tc_region ?_
  all_goals refine tl_q (y_move rfl) rfl ?_
  all_goals refine tl_q (y_move rfl) rfl ?_
  all_goals refine tl_q (y_build_2 rfl rfl rfl rfl) rfl ?_
  all_goals refine tl_e (e_storeW rfl rfl (by repeat constructor) (by rfl) (by rfl) (by simp [Value.oneCell'])) rfl (fun _ _ => ?_)
  all_goals refine tl_nil ?_
  all_goals (refine hK2 ?_; try (clear hK2; clear K2))
  all_goals refine tc_ret ?_
  all_goals (repeat (first | refine tk_then_ret ?_))
  all_goals first | refine tk_ret rfl rfl (.cons (.agg inferInstance rfl (by repeat constructor) (by rfl)) .nil) ?_ | refine tk_retM rfl (by repeat constructor) rfl (.cons (.agg inferInstance rfl (by repeat constructor) (by rfl)) .nil) ?_
  all_goals (
   exact fun w' hw' => ⟨rfl, hw'.fr (by simp)⟩)
theorem offered_c (w : World) : CnX Tryz.prog 61 #[] w [] (slV 2) (fun x w' => RdR w' (slV 2 x) [(0, 1000), (0, 1100)]) := by
  refine cnx0 (vs := []) Tryz.func61 rfl rfl ?_
  all_goals refine tc_seq fun K1 hK1 => ?_
  all_goals refine tc_region ?_
  all_goals refine tl_q (y_assign rfl) rfl ?_
  all_goals refine tl_nil ?_
  all_goals (refine hK1 ?_; try (clear hK1; clear K1))
  all_goals refine tc_seq fun K2 hK2 => ?_
  all_goals refine tc_region ?_
  all_goals refine tl_q (y_build_2 rfl rfl rfl rfl) rfl ?_
  all_goals refine tl_q (y_build_2 rfl rfl rfl rfl) rfl ?_
  all_goals refine tl_e (e_bslice rfl (by (repeat (first | exact .nil | apply PV.two rfl)); done) rfl rfl) rfl (fun b3 _ => ?_)
  all_goals refine tl_q (y_assign rfl) rfl ?_
  all_goals refine tl_nil ?_
  all_goals (refine hK2 ?_; try (clear hK2; clear K2))
  all_goals refine tc_ret ?_
  all_goals (repeat (first | refine tk_then_ret ?_))
  all_goals first | refine tk_ret rfl rfl (.cons (.tmp rfl) .nil) ?_ | refine tk_retM rfl (by repeat constructor) rfl (.cons (.tmp rfl) .nil) ?_
  all_goals (
   exact fun w' hw' => ⟨(some ⟨b3, 0, none⟩, 2), rfl, hw'.fr (by simp), RdR.own0 (xs := [(0, 1000), (0, 1100)]) hw' (by repeat constructor)⟩)
theorem two9_c (m : List E3) (hm : m.length ≤ 1000) (lv : Value) (w : World) (hL : RdT w lv m) :
    CnX Tryz.prog 59 #[lv] w [] (fun x : (Option Addr × Nat) × (Option Addr × Nat) × (Option Addr × Nat) × (Option Addr × Nat) => trV (twoT m) (slV 2 x.1) (slV 2 x.2.1) (slV 2 x.2.2.1) (slV (2 + m.length) x.2.2.2))
      (fun x w' => RdTr w' (twoT m) (slV 2 x.1) (slV 2 x.2.1) (slV 2 x.2.2.1) (slV (2 + m.length) x.2.2.2)) := by
  refine cnx0 (vs := [_]) Tryz.func59 rfl rfl ?_
  all_goals refine tc_seq fun K1 hK1 => ?_
  all_goals refine tc_region ?_
  all_goals refine tl_e (e_allocN rfl) rfl (fun b2 _ => ?_)
  all_goals refine tl_nil ?_
  all_goals (refine hK1 ?_; try (clear hK1; clear K1))
  all_goals refine tc_seq fun K2 hK2 => ?_
  all_goals refine tc_region ?_
  all_goals (refine tl_e (e_bslice rfl (by (repeat (first | exact .nil | apply PV.one rfl rfl)); done) rfl rfl) rfl (fun b3 _ => ?_))
  all_goals (refine tl_q (y_build_g (by repeat constructor)) rfl ?_)
  all_goals (refine tl_e (e_bslice rfl (by (repeat (first | exact .nil | apply PV.one rfl rfl)); done) rfl rfl) rfl (fun b5 _ => ?_))
  all_goals refine tl_e (e_callV rfl (.cons rfl (.cons rfl .nil)) (fun w' _ => between9_c _ _ w')) rfl (fun _ _ => ?_)
  all_goals refine tl_e (e_callV rfl (.cons rfl (.cons rfl .nil)) (fun w' _ => between9_c _ _ w')) rfl (fun _ _ => ?_)
  all_goals (refine tl_e (e_bsliceG rfl (.agg rfl rfl (.agg rfl rfl .nil)) rfl rfl) rfl (fun b8 _ => ?_))
  all_goals refine tl_q (y_build_g (by repeat constructor)) rfl ?_
  all_goals refine tl_q (y_build_g (by repeat constructor)) rfl ?_
  all_goals (refine tl_e (e_bsliceG rfl (.agg rfl rfl (.agg rfl rfl .nil)) rfl rfl) rfl (fun b11 _ => ?_))
  all_goals refine tl_q (y_move rfl) rfl ?_
  all_goals refine tl_e (e_append_own (old := flatT [(0, 0, 6), (1, 0, 10)]) (junk := []) rfl rfl rfl (by repeat constructor) (by rfl) (by rfl) (Nat.le_refl _) (fun w' hw' => hL.fr (hw'.fr (w0 := w) (S := []) (MI.m (by repeat constructor)))) (flatT_one _) (by omega) rfl) rfl (fun z hz => ?_)
  all_goals refine tl_q (y_build_g (by repeat constructor)) rfl ?_
  all_goals refine tl_e (e_storeW rfl rfl (by repeat constructor) (by rfl) (by rfl) (by simp [Value.oneCell'])) rfl (fun _ _ => ?_)
  all_goals refine tl_nil ?_
  all_goals (refine hK2 ?_; try (clear hK2; clear K2))
  all_goals refine tc_ret ?_
  all_goals (repeat (first | refine tk_then_ret ?_))
  all_goals first | refine tk_ret rfl rfl (.cons (.agg inferInstance rfl (by repeat constructor) (by rfl)) .nil) ?_ | refine tk_retM rfl (by repeat constructor) rfl (.cons (.agg inferInstance rfl (by repeat constructor) (by rfl)) .nil) ?_
  all_goals (
   refine fun w' hw' => ⟨((some ⟨b3, 0, none⟩, 2), (some ⟨b5, 0, none⟩, 2), (some ⟨b8, 0, none⟩, 2), (some ⟨z.1, 0, none⟩, z.2.1)), rfl, hw'.fr (by simp), RdI.own0 (xs := [100, 200]) hw' (b := b3) (by repeat constructor), RdI.own0 (xs := [0, 6]) hw' (b := b5) (by repeat constructor), RdR.own0 (xs := [(1000, 1000), (915, 925)]) hw' (b := b8) (by repeat constructor), ?_⟩
   have := RdT.own (xs := [(0, 0, 6), (1, 0, 10)] ++ m) (b := z.1) (cap := z.2.1) (junk := z.2.2) (e := 121) (f := (0, 0)) hw' (by rw [flatT_append]; repeat constructor)
   rw [List.length_append] at this
   exact this)
set_option maxRecDepth 100000 in
theorem tb1 : shownL (twoT []) (er3 [0, 1]) 0 1000 = [5, 6] := by kernel_rfl
theorem two_shown (sl pl ll tl lv : Value) (w : World) (hr : RdTr w (twoT []) sl pl ll tl) (hl : RdI w lv [0, 1]) :
    CnX Tryz.prog 17 #[trV (twoT []) sl pl ll tl, lv, vi 0, vi 1000] w [] (fun y : Option Addr × Nat => .tuple #[slV 2 y, vi 0]) (fun y w' => RdI w' (slV 2 y) [5, 6]) := by
  have h := shown_ok (twoT []) (twoT_nt [] (by decide)) [0, 1] (by decide) 0 1000 (by rw [ta1]) sl pl ll tl lv w hr hl
  rw [tb1] at h
  exact h
theorem two_err (sl pl ll tl : Value) (w : World) (hr : RdTr w (twoT []) sl pl ll tl) :
    CnX Tryz.prog 35 #[trV (twoT []) sl pl ll tl] w [] (fun y : Option Addr × Nat => .tuple #[slV 2 y, vi 0]) (fun y w' => RdLL w' (slV 2 y) [[-2, -1, 0, 1, 2], [1]]) := by
  have h := errors_ok (twoT []) (twoT_nt [] (by decide)) ta2 sl pl ll tl w hr
  rw [show possLL (twoT []) (twoT []).parts.length = [[-2, -1, 0, 1, 2], [1]] from ta3] at h
  exact h
theorem two_cert (sl pl ll tl : Value) (w : World) (hr : RdTr w (twoT []) sl pl ll tl) :
    CnX Tryz.prog 47 #[trV (twoT []) sl pl ll tl] w [] (fun y : Option Addr × Nat => .tuple #[slV 2 y, vi 0]) (fun y w' => RdR w' (slV 2 y) [(0, 2), (1, 0)]) := by
  have h := certificate_ok (twoT []) (twoT_nt [] (by decide)) ta2 sl pl ll tl w hr
  rw [show certL (twoT []) (twoT []).parts.length = [(0, 2), (1, 0)] from ta5] at h
  exact h
theorem two_few (sl pl ll tl lv : Value) (w : World) (hr : RdTr w (twoT []) sl pl ll tl) (hl : RdR w lv [(0, 1000), (0, 1100)]) :
    CnX Tryz.prog 31 #[trV (twoT []) sl pl ll tl, vi 1, lv] w [] (fun y : Value => .tuple #[y, vi 0]) (fun y w' => RdI w' y [1]) := by
  have h := fewest_c (twoT []) (twoT_nt [] (by decide)) 1 (by decide) [(0, 1000), (0, 1100)] (by decide) sl pl ll tl lv w hr hl
  rw [ta7] at h
  exact h
theorem two_leave (sl pl ll tl : Value) (w : World) (hr : RdTr w (twoT [(0, 0, 8)]) sl pl ll tl) :
    CnX Tryz.prog 37 #[trV (twoT [(0, 0, 8)]) sl pl ll tl] w [] (fun y : Value => .tuple #[y, vi 0]) (fun y w' => RdI w' y [2]) := by
  have h := leaveT_ok (twoT [(0, 0, 8)]) (chkT_0.1 ta9) sl pl ll tl w hr
  rw [ta8] at h
  exact h
set_option maxRecDepth 100000 in
set_option maxHeartbeats 4000000 in
theorem awake9_c (w : World) : CnV Tryz.prog 16 #[] w (.bool true) := by
  refine cnv (vs := []) Tryz.func16 rfl rfl ?_
  all_goals refine tc_seq fun K1 hK1 => ?_
  all_goals refine tc_region ?_
  all_goals refine tl_q (y_assign rfl) rfl ?_
  all_goals refine tl_nil ?_
  all_goals (refine hK1 ?_; try (clear hK1; clear K1))
  all_goals refine tc_seq fun K2 hK2 => ?_
  all_goals refine tc_lay ([]) (SB.s (by repeat constructor)) (fun wl1 hl1 => ?_)
  all_goals refine tc_region ?_
  all_goals (refine tl_e (e_callX rfl (.cons rfl .nil) (fun w' _ => two9_c [] (by decide) _ w' (RdT.nil w'))) rfl (fun x1 hx1 => ?_))
  all_goals (refine tl_e (e_bslice rfl (by (repeat (first | exact .nil | apply PV.one rfl rfl)); done) rfl rfl) rfl (fun b17 _ => ?_))
  all_goals refine tl_e (e_callX rfl (.cons rfl (.cons rfl (.cons rfl (.cons rfl .nil)))) (fun w' hw' => two_shown _ _ _ _ _ w' (hx1.1.fr (hw'.fr (MI.m (by repeat constructor)))) (RdI.own0 (xs := [0, 1]) hw' (by repeat constructor)))) rfl (fun y1 hy1 => ?_)
  all_goals refine tl_q (y_move rfl) rfl ?_
  all_goals refine tl_q (y_extract rfl rfl) rfl ?_
  all_goals refine tl_q (y_extract rfl rfl) rfl ?_
  all_goals refine tl_q (y_assign rfl) rfl ?_
  all_goals refine tl_q (y_assign rfl) rfl ?_
  all_goals refine tl_nil ?_
  all_goals (refine hK2 ?_; try (clear hK2; clear K2))
  all_goals refine tc_seq fun K3 hK3 => ?_
  all_goals refine tc_lay ([]) (SB.s (by repeat constructor)) (fun wl2 hl2 => ?_)
  have r1 := hy1.1.fr (hl2.calm hy1.2 (MI.m (by repeat constructor)) (SB.s (by repeat constructor)))
  all_goals refine tc_region ?_
  all_goals (refine tl_e (e_callX rfl (.cons rfl .nil) (fun w' _ => two9_c [] (by decide) _ w' (RdT.nil w'))) rfl (fun x2 hx2 => ?_))
  all_goals refine tl_e (e_callX rfl (.cons rfl .nil) (fun w' hw' => two_err _ _ _ _ w' (hx2.1.fr (hw'.fr (MI.m (by repeat constructor)))))) rfl (fun y2 hy2 => ?_)
  all_goals refine tl_q (y_move rfl) rfl ?_
  all_goals refine tl_q (y_extract rfl rfl) rfl ?_
  all_goals refine tl_q (y_extract rfl rfl) rfl ?_
  all_goals refine tl_q (y_assign rfl) rfl ?_
  all_goals refine tl_q (y_assign rfl) rfl ?_
  all_goals refine tl_nil ?_
  all_goals (refine hK3 ?_; try (clear hK3; clear K3))
  all_goals refine tc_seq fun K4 hK4 => ?_
  all_goals refine tc_lay ([]) (SB.s (by repeat constructor)) (fun wl3 hl3 => ?_)
  all_goals refine tc_region ?_
  all_goals (refine tl_e (e_callX rfl (.cons rfl .nil) (fun w' _ => two9_c [] (by decide) _ w' (RdT.nil w'))) rfl (fun x3 hx3 => ?_))
  all_goals refine tl_e (e_callV rfl (.cons rfl (.cons rfl .nil)) (fun w' hw' => by have h := judge_c (twoT []) (twoT_nt [] (by decide)) 1 (by decide) _ _ _ _ w' (hx3.1.fr (hw'.fr (MI.m (by repeat constructor)))); rw [ta4] at h; exact h)) rfl (fun _ _ => ?_)
  all_goals refine tl_q (y_move rfl) rfl ?_
  all_goals refine tl_q (y_extract rfl rfl) rfl ?_
  all_goals refine tl_q (y_extract rfl rfl) rfl ?_
  all_goals refine tl_q (y_assign rfl) rfl ?_
  all_goals refine tl_q (y_assign rfl) rfl ?_
  all_goals refine tl_nil ?_
  all_goals (refine hK4 ?_; try (clear hK4; clear K4))
  all_goals refine tc_seq fun K5 hK5 => ?_
  all_goals refine tc_lay ([]) (SB.s (by repeat constructor)) (fun wl4 hl4 => ?_)
  all_goals refine tc_region ?_
  all_goals (refine tl_e (e_callX rfl (.cons rfl .nil) (fun w' _ => two9_c [] (by decide) _ w' (RdT.nil w'))) rfl (fun x4 hx4 => ?_))
  all_goals refine tl_e (e_callX rfl (.cons rfl .nil) (fun w' hw' => two_cert _ _ _ _ w' (hx4.1.fr (hw'.fr (MI.m (by repeat constructor)))))) rfl (fun y4 hy4 => ?_)
  all_goals refine tl_q (y_move rfl) rfl ?_
  all_goals refine tl_q (y_extract rfl rfl) rfl ?_
  all_goals refine tl_q (y_extract rfl rfl) rfl ?_
  all_goals refine tl_q (y_assign rfl) rfl ?_
  all_goals refine tl_q (y_assign rfl) rfl ?_
  all_goals refine tl_nil ?_
  all_goals (refine hK5 ?_; try (clear hK5; clear K5))
  all_goals refine tc_seq fun K6 hK6 => ?_
  all_goals refine tc_lay ([]) (SB.s (by repeat constructor)) (fun wl5 hl5 => ?_)
  all_goals refine tc_region ?_
  all_goals (refine tl_e (e_callX rfl (.cons rfl .nil) (fun w' _ => two9_c [] (by decide) _ w' (RdT.nil w'))) rfl (fun x5 hx5 => ?_))
  all_goals refine tl_e (e_callV rfl (.cons rfl (.cons rfl (.cons rfl .nil))) (fun w' hw' => by have h := correct_c (twoT []) (twoT_nt [] (by decide)) 0 7 _ _ _ _ w' (hx5.1.fr (hw'.fr (MI.m (by repeat constructor)))); rw [ta6] at h; exact h)) rfl (fun _ _ => ?_)
  all_goals refine tl_q (y_move rfl) rfl ?_
  all_goals refine tl_q (y_extract rfl rfl) rfl ?_
  all_goals refine tl_q (y_extract rfl rfl) rfl ?_
  all_goals refine tl_e (e_allocN rfl) rfl (fun b9 _ => ?_)
  all_goals refine tl_e (e_storeW rfl rfl (by repeat constructor) (by rfl) (by rfl) (by simp [Value.oneCell'])) rfl (fun _ _ => ?_)
  all_goals refine tl_q (y_assign rfl) rfl ?_
  all_goals refine tl_nil ?_
  all_goals (refine hK6 ?_; try (clear hK6; clear K6))
  all_goals refine tc_seq fun K7 hK7 => ?_
  all_goals refine tc_lay ([]) (SB.s (by repeat constructor)) (fun wl6 hl6 => ?_)
  all_goals refine tc_region ?_
  all_goals (refine tl_e (e_callX rfl (.cons rfl .nil) (fun w' _ => two9_c [] (by decide) _ w' (RdT.nil w'))) rfl (fun x6 hx6 => ?_))
  all_goals refine tl_e (e_callX rfl .nil (fun w' _ => offered_c w')) rfl (fun o6 ho6 => ?_)
  all_goals refine tl_e (e_callX rfl (.cons rfl (.cons rfl (.cons rfl .nil))) (fun w' hw' => two_few _ _ _ _ _ w' (hx6.1.fr (hw'.fr (MI.m (by repeat constructor)))) (ho6.1.fr (hw'.fr (MI.m (by repeat constructor)))))) rfl (fun y6 hy6 => ?_)
  all_goals refine tl_q (y_move rfl) rfl ?_
  all_goals refine tl_q (y_extract rfl rfl) rfl ?_
  all_goals refine tl_q (y_extract rfl rfl) rfl ?_
  all_goals refine tl_q (y_assign rfl) rfl ?_
  all_goals refine tl_q (y_assign rfl) rfl ?_
  all_goals refine tl_nil ?_
  all_goals (refine hK7 ?_; try (clear hK7; clear K7))
  all_goals refine tc_seq fun K8 hK8 => ?_
  all_goals refine tc_lay ([]) (SB.s (by repeat constructor)) (fun wl7 hl7 => ?_)
  all_goals refine tc_region ?_
  all_goals (refine tl_q (y_build_g (by repeat constructor)) rfl ?_)
  all_goals (refine tl_e (e_bsliceG rfl (.agg rfl rfl .nil) rfl rfl) rfl (fun b49 _ => ?_))
  all_goals (refine tl_e (e_callX rfl (.cons rfl .nil) (fun w' hw' => two9_c [(0, 0, 8)] (by decide) _ w' (RdT.own0 (xs := [(0, 0, 8)]) hw' (by repeat constructor)))) rfl (fun x7 hx7 => ?_))
  all_goals refine tl_e (e_callX rfl (.cons rfl .nil) (fun w' hw' => two_leave _ _ _ _ w' (hx7.1.fr (hw'.calm hx7.2 (MI.m (by repeat constructor)) (SB.s (by repeat constructor)))))) rfl (fun y7 hy7 => ?_)
  all_goals refine tl_q (y_move rfl) rfl ?_
  all_goals refine tl_q (y_extract rfl rfl) rfl ?_
  all_goals refine tl_q (y_extract rfl rfl) rfl ?_
  all_goals refine tl_q (y_assign rfl) rfl ?_
  all_goals refine tl_q (y_assign rfl) rfl ?_
  all_goals refine tl_nil ?_
  all_goals (refine hK8 ?_; try (clear hK8; clear K8))
  all_goals refine tc_seq fun K9 hK9 => ?_
  all_goals refine tc_lay ([]) (SB.s (by repeat constructor)) (fun wl8 hl8 => ?_)
  have r7 := hy7.1.fr (hl8.calm hy7.2 (MI.m (by repeat constructor)) (SB.s (by repeat constructor)))
  obtain ⟨bE, oE, vsE, hadE, hcE, hiE⟩ := hy2.1.opensL (n := 2) rfl
  have hadE' := hadE (by decide)
  obtain ⟨adC, cpC, bC, oC, eC, hadC, hcC⟩ := hy4.1.open
  have hadC' := hadC (by decide)
  all_goals refine tc_drawS ([]) (by kernel_rfl) ?_
  all_goals refine tx_p 0 rfl (by kernel_rfl) (y_move rfl) rfl (fun _ _ _ h => h) (fun _ h => h.subl (SB.s (by repeat constructor)) (SB.s (by repeat constructor))) ?_
  all_goals refine tx_p 1 rfl (by kernel_rfl) (y_eql rfl rfl) rfl (fun _ _ _ h => h) (fun _ h => h.subl (SB.s (by repeat constructor)) (SB.s (by repeat constructor))) ?_
  all_goals refine tx_p 2 rfl (by kernel_rfl) (y_move rfl) rfl (fun _ _ _ h => h) (fun _ h => h.subl (SB.s (by repeat constructor)) (SB.s (by repeat constructor))) ?_
  all_goals (refine tx_pg 3 rfl (by kernel_rfl) rfl rfl (y_move rfl) rfl (fun _ _ _ h => h) (fun _ h => h.subl (SB.s (by repeat constructor)) (SB.s (by repeat constructor))) ?_)
  all_goals (refine tx_single 4 (by kernel_rfl) (to_eg rfl rfl rfl rfl (e_bslice rfl (by (repeat (first | exact .nil | apply PV.one rfl rfl)); done) rfl rfl) (.inr ⟨fun _ _ h => h.subl (SB.s (by repeat constructor)) (SB.s (by repeat constructor)), fun _ h => h⟩) (fun _ _ => ?_)))
  all_goals (refine tx_single 5 (by kernel_rfl) (to_eg rfl rfl rfl rfl (e_callV rfl (.cons rfl (.cons rfl .nil)) (fun w' hw' => ints9_t [5, 6] (by decide) _ _ w' (r1.fr (hw'.fr (w0 := wl2) (S := []) (MI.m (by repeat constructor)))) (RdI.own0 (xs := [5, 6]) hw' (by repeat constructor)))) (.inr ⟨fun _ _ h => h.subl (SB.s (by repeat constructor)) (SB.s (by repeat constructor)), fun _ h => h⟩) (fun _ _ => ?_)))
  all_goals refine tx_norm (L' := [true, true, true, true, true, true, false, false, false, false, false, false, false, false, false, false, false, false, false, false, false, false, false, false, false, false, false, false, false, false, false, false, false, false, false, false, false, false, false, false, false, false, false, false, false, false, false, false, false, false, false, false, false, false, false, false, false, false, false, false, false, false, false, false, false, false, false, false, false, false, false, false, false, false, false, false, false, false, false, false, false, false, false, false, false, false, false, false, false]) (by kernel_rfl) ?_
  all_goals (refine tx_p 6 rfl (by kernel_rfl) (y_pick_t rfl rfl) rfl (fun _ _ _ h => h) (fun _ h => h.subl (SB.s (by repeat constructor)) (SB.s (by repeat constructor))) ?_)
  all_goals refine tx_p 7 rfl (by kernel_rfl) (y_move rfl) rfl (fun _ _ _ h => h) (fun _ h => h.subl (SB.s (by repeat constructor)) (SB.s (by repeat constructor))) ?_
  all_goals (refine tx_pg 8 rfl (by kernel_rfl) rfl rfl (y_move rfl) rfl (fun _ _ _ h => h) (fun _ h => h.subl (SB.s (by repeat constructor)) (SB.s (by repeat constructor))) ?_)
  all_goals (refine tx_pg 9 rfl (by kernel_rfl) rfl rfl (y_eql rfl rfl) rfl (fun _ _ _ h => h) (fun _ h => h.subl (SB.s (by repeat constructor)) (SB.s (by repeat constructor))) ?_)
  all_goals (refine tx_p 10 rfl (by kernel_rfl) (y_pick_t rfl rfl) rfl (fun _ _ _ h => h) (fun _ h => h.subl (SB.s (by repeat constructor)) (SB.s (by repeat constructor))) ?_)
  all_goals refine tx_p 11 rfl (by kernel_rfl) (y_move rfl) rfl (fun _ _ _ h => h) (fun _ h => h.subl (SB.s (by repeat constructor)) (SB.s (by repeat constructor))) ?_
  all_goals refine tx_norm (L' := [true, true, true, true, true, true, true, true, true, true, true, true, false, false, false, false, false, false, false, false, false, false, false, false, false, false, false, false, false, false, false, false, false, false, false, false, false, false, false, false, false, false, false, false, false, false, false, false, false, false, false, false, false, false, false, false, false, false, false, false, false, false, false, false, false, false, false, false, false, false, false, false, false, false, false, false, false, false, false, false, false, false, false, false, false, false, false, false, false]) (by kernel_rfl) ?_
  all_goals (refine tx_pg 12 rfl (by kernel_rfl) rfl rfl (y_move rfl) rfl (fun _ _ _ h => h) (fun _ h => h.subl (SB.s (by repeat constructor)) (SB.s (by repeat constructor))) ?_)
  all_goals (refine tx_qg 13 rfl (by kernel_rfl) rfl rfl (y_len rfl) rfl (fun _ _ _ h => h) (fun _ h => h.subl (SB.s (by repeat constructor)) (SB.s (by repeat constructor))) ?_)
  all_goals (refine tx_pg 14 rfl (by kernel_rfl) rfl rfl (y_eql rfl rfl) rfl (fun _ _ _ h => h) (fun _ h => h.subl (SB.s (by repeat constructor)) (SB.s (by repeat constructor))) ?_)
  all_goals (refine tx_p 15 rfl (by kernel_rfl) (y_pick_t rfl rfl) rfl (fun _ _ _ h => h) (fun _ h => h.subl (SB.s (by repeat constructor)) (SB.s (by repeat constructor))) ?_)
  all_goals refine tx_p 16 rfl (by kernel_rfl) (y_move rfl) rfl (fun _ _ _ h => h) (fun _ h => h.subl (SB.s (by repeat constructor)) (SB.s (by repeat constructor))) ?_
  all_goals (refine tx_pg 17 rfl (by kernel_rfl) rfl rfl (y_move rfl) rfl (fun _ _ _ h => h) (fun _ h => h.subl (SB.s (by repeat constructor)) (SB.s (by repeat constructor))) ?_)
  all_goals refine tx_norm (L' := [true, true, true, true, true, true, true, true, true, true, true, true, true, true, true, true, true, true, false, false, false, false, false, false, false, false, false, false, false, false, false, false, false, false, false, false, false, false, false, false, false, false, false, false, false, false, false, false, false, false, false, false, false, false, false, false, false, false, false, false, false, false, false, false, false, false, false, false, false, false, false, false, false, false, false, false, false, false, false, false, false, false, false, false, false, false, false, false, false]) (by kernel_rfl) ?_
  all_goals (refine tx_pg 18 rfl (by kernel_rfl) rfl rfl (y_index rfl rfl (by omega) hadE') rfl (fun _ _ _ h => h) (fun _ h => h.subl (SB.s (by repeat constructor)) (SB.s (by repeat constructor))) ?_)
  all_goals (refine tx_qg 19 rfl (by kernel_rfl) rfl rfl (y_load1o (v := vsE.getD 0 (.slice none 0 0)) rfl (fun w' hw' => hcE w' (hw'.fr (w0 := y2.2) (S := []) (MI.m (by repeat constructor))) 0 (by decide))) rfl (fun _ _ _ h => h) (fun _ h => h.subl (SB.s (by repeat constructor)) (SB.s (by repeat constructor))) ?_)
  all_goals (refine tx_single 20 (by kernel_rfl) (to_eg rfl rfl rfl rfl (e_bslice rfl (by (repeat (first | exact .nil | apply PV.one rfl rfl)); done) rfl rfl) (.inr ⟨fun _ _ h => h.subl (SB.s (by repeat constructor)) (SB.s (by repeat constructor)), fun _ h => h⟩) (fun _ _ => ?_)))
  all_goals (refine tx_single 21 (by kernel_rfl) (to_eg rfl rfl rfl rfl (e_callV rfl (.cons rfl (.cons rfl .nil)) (fun w' hw' => ints9_t [-2, -1, 0, 1, 2] (by decide) _ _ w' (hiE w' (hw'.fr (w0 := y2.2) (S := []) (MI.m (by repeat constructor))) 0 (by decide)) (RdI.own0 (xs := [-2, -1, 0, 1, 2]) hw' (by repeat constructor)))) (.inr ⟨fun _ _ h => h.subl (SB.s (by repeat constructor)) (SB.s (by repeat constructor)), fun _ h => h⟩) (fun _ _ => ?_)))
  all_goals (refine tx_p 22 rfl (by kernel_rfl) (y_pick_t rfl rfl) rfl (fun _ _ _ h => h) (fun _ h => h.subl (SB.s (by repeat constructor)) (SB.s (by repeat constructor))) ?_)
  all_goals refine tx_p 23 rfl (by kernel_rfl) (y_move rfl) rfl (fun _ _ _ h => h) (fun _ h => h.subl (SB.s (by repeat constructor)) (SB.s (by repeat constructor))) ?_
  all_goals refine tx_norm (L' := [true, true, true, true, true, true, true, true, true, true, true, true, true, true, true, true, true, true, true, true, true, true, true, true, false, false, false, false, false, false, false, false, false, false, false, false, false, false, false, false, false, false, false, false, false, false, false, false, false, false, false, false, false, false, false, false, false, false, false, false, false, false, false, false, false, false, false, false, false, false, false, false, false, false, false, false, false, false, false, false, false, false, false, false, false, false, false, false, false]) (by kernel_rfl) ?_
  all_goals (refine tx_pg 24 rfl (by kernel_rfl) rfl rfl (y_move rfl) rfl (fun _ _ _ h => h) (fun _ h => h.subl (SB.s (by repeat constructor)) (SB.s (by repeat constructor))) ?_)
  all_goals (refine tx_pg 25 rfl (by kernel_rfl) rfl rfl (y_index rfl rfl (by omega) hadE') rfl (fun _ _ _ h => h) (fun _ h => h.subl (SB.s (by repeat constructor)) (SB.s (by repeat constructor))) ?_)
  all_goals (refine tx_qg 26 rfl (by kernel_rfl) rfl rfl (y_load1o (v := vsE.getD 1 (.slice none 0 0)) rfl (fun w' hw' => hcE w' (hw'.fr (w0 := y2.2) (S := []) (MI.m (by repeat constructor))) 1 (by decide))) rfl (fun _ _ _ h => h) (fun _ h => h.subl (SB.s (by repeat constructor)) (SB.s (by repeat constructor))) ?_)
  all_goals (refine tx_single 27 (by kernel_rfl) (to_eg rfl rfl rfl rfl (e_bslice rfl (by (repeat (first | exact .nil | apply PV.one rfl rfl)); done) rfl rfl) (.inr ⟨fun _ _ h => h.subl (SB.s (by repeat constructor)) (SB.s (by repeat constructor)), fun _ h => h⟩) (fun _ _ => ?_)))
  all_goals (refine tx_single 28 (by kernel_rfl) (to_eg rfl rfl rfl rfl (e_callV rfl (.cons rfl (.cons rfl .nil)) (fun w' hw' => ints9_t [1] (by decide) _ _ w' (hiE w' (hw'.fr (w0 := y2.2) (S := []) (MI.m (by repeat constructor))) 1 (by decide)) (RdI.own0 (xs := [1]) hw' (by repeat constructor)))) (.inr ⟨fun _ _ h => h.subl (SB.s (by repeat constructor)) (SB.s (by repeat constructor)), fun _ h => h⟩) (fun _ _ => ?_)))
  all_goals (refine tx_p 29 rfl (by kernel_rfl) (y_pick_t rfl rfl) rfl (fun _ _ _ h => h) (fun _ h => h.subl (SB.s (by repeat constructor)) (SB.s (by repeat constructor))) ?_)
  all_goals refine tx_norm (L' := [true, true, true, true, true, true, true, true, true, true, true, true, true, true, true, true, true, true, true, true, true, true, true, true, true, true, true, true, true, true, false, false, false, false, false, false, false, false, false, false, false, false, false, false, false, false, false, false, false, false, false, false, false, false, false, false, false, false, false, false, false, false, false, false, false, false, false, false, false, false, false, false, false, false, false, false, false, false, false, false, false, false, false, false, false, false, false, false, false]) (by kernel_rfl) ?_
  all_goals refine tx_p 30 rfl (by kernel_rfl) (y_move rfl) rfl (fun _ _ _ h => h) (fun _ h => h.subl (SB.s (by repeat constructor)) (SB.s (by repeat constructor))) ?_
  all_goals (refine tx_pg 31 rfl (by kernel_rfl) rfl rfl (y_move rfl) rfl (fun _ _ _ h => h) (fun _ h => h.subl (SB.s (by repeat constructor)) (SB.s (by repeat constructor))) ?_)
  all_goals (refine tx_pg 32 rfl (by kernel_rfl) rfl rfl (y_eql rfl rfl) rfl (fun _ _ _ h => h) (fun _ h => h.subl (SB.s (by repeat constructor)) (SB.s (by repeat constructor))) ?_)
  all_goals (refine tx_p 33 rfl (by kernel_rfl) (y_pick_t rfl rfl) rfl (fun _ _ _ h => h) (fun _ h => h.subl (SB.s (by repeat constructor)) (SB.s (by repeat constructor))) ?_)
  all_goals refine tx_p 34 rfl (by kernel_rfl) (y_move rfl) rfl (fun _ _ _ h => h) (fun _ h => h.subl (SB.s (by repeat constructor)) (SB.s (by repeat constructor))) ?_
  all_goals (refine tx_pg 35 rfl (by kernel_rfl) rfl rfl (y_move rfl) rfl (fun _ _ _ h => h) (fun _ h => h.subl (SB.s (by repeat constructor)) (SB.s (by repeat constructor))) ?_)
  all_goals refine tx_norm (L' := [true, true, true, true, true, true, true, true, true, true, true, true, true, true, true, true, true, true, true, true, true, true, true, true, true, true, true, true, true, true, true, true, true, true, true, true, false, false, false, false, false, false, false, false, false, false, false, false, false, false, false, false, false, false, false, false, false, false, false, false, false, false, false, false, false, false, false, false, false, false, false, false, false, false, false, false, false, false, false, false, false, false, false, false, false, false, false, false, false]) (by kernel_rfl) ?_
  all_goals (refine tx_pg 36 rfl (by kernel_rfl) rfl rfl (y_eql rfl rfl) rfl (fun _ _ _ h => h) (fun _ h => h.subl (SB.s (by repeat constructor)) (SB.s (by repeat constructor))) ?_)
  all_goals (refine tx_p 37 rfl (by kernel_rfl) (y_pick_t rfl rfl) rfl (fun _ _ _ h => h) (fun _ h => h.subl (SB.s (by repeat constructor)) (SB.s (by repeat constructor))) ?_)
  all_goals refine tx_p 38 rfl (by kernel_rfl) (y_move rfl) rfl (fun _ _ _ h => h) (fun _ h => h.subl (SB.s (by repeat constructor)) (SB.s (by repeat constructor))) ?_
  all_goals (refine tx_pg 39 rfl (by kernel_rfl) rfl rfl (y_move rfl) rfl (fun _ _ _ h => h) (fun _ h => h.subl (SB.s (by repeat constructor)) (SB.s (by repeat constructor))) ?_)
  all_goals (refine tx_pg 40 rfl (by kernel_rfl) rfl rfl (y_eql rfl rfl) rfl (fun _ _ _ h => h) (fun _ h => h.subl (SB.s (by repeat constructor)) (SB.s (by repeat constructor))) ?_)
  all_goals (refine tx_p 41 rfl (by kernel_rfl) (y_pick_t rfl rfl) rfl (fun _ _ _ h => h) (fun _ h => h.subl (SB.s (by repeat constructor)) (SB.s (by repeat constructor))) ?_)
  all_goals refine tx_norm (L' := [true, true, true, true, true, true, true, true, true, true, true, true, true, true, true, true, true, true, true, true, true, true, true, true, true, true, true, true, true, true, true, true, true, true, true, true, true, true, true, true, true, true, false, false, false, false, false, false, false, false, false, false, false, false, false, false, false, false, false, false, false, false, false, false, false, false, false, false, false, false, false, false, false, false, false, false, false, false, false, false, false, false, false, false, false, false, false, false, false]) (by kernel_rfl) ?_
  all_goals refine tx_p 42 rfl (by kernel_rfl) (y_move rfl) rfl (fun _ _ _ h => h) (fun _ h => h.subl (SB.s (by repeat constructor)) (SB.s (by repeat constructor))) ?_
  all_goals (refine tx_pg 43 rfl (by kernel_rfl) rfl rfl (y_move rfl) rfl (fun _ _ _ h => h) (fun _ h => h.subl (SB.s (by repeat constructor)) (SB.s (by repeat constructor))) ?_)
  all_goals (refine tx_qg 44 rfl (by kernel_rfl) rfl rfl (y_len rfl) rfl (fun _ _ _ h => h) (fun _ h => h.subl (SB.s (by repeat constructor)) (SB.s (by repeat constructor))) ?_)
  all_goals (refine tx_pg 45 rfl (by kernel_rfl) rfl rfl (y_eql rfl rfl) rfl (fun _ _ _ h => h) (fun _ h => h.subl (SB.s (by repeat constructor)) (SB.s (by repeat constructor))) ?_)
  all_goals (refine tx_p 46 rfl (by kernel_rfl) (y_pick_t rfl rfl) rfl (fun _ _ _ h => h) (fun _ h => h.subl (SB.s (by repeat constructor)) (SB.s (by repeat constructor))) ?_)
  all_goals refine tx_p 47 rfl (by kernel_rfl) (y_move rfl) rfl (fun _ _ _ h => h) (fun _ h => h.subl (SB.s (by repeat constructor)) (SB.s (by repeat constructor))) ?_
  all_goals refine tx_norm (L' := [true, true, true, true, true, true, true, true, true, true, true, true, true, true, true, true, true, true, true, true, true, true, true, true, true, true, true, true, true, true, true, true, true, true, true, true, true, true, true, true, true, true, true, true, true, true, true, true, false, false, false, false, false, false, false, false, false, false, false, false, false, false, false, false, false, false, false, false, false, false, false, false, false, false, false, false, false, false, false, false, false, false, false, false, false, false, false, false, false]) (by kernel_rfl) ?_
  all_goals (refine tx_pg 48 rfl (by kernel_rfl) rfl rfl (y_move rfl) rfl (fun _ _ _ h => h) (fun _ h => h.subl (SB.s (by repeat constructor)) (SB.s (by repeat constructor))) ?_)
  all_goals (refine tx_pg 49 rfl (by kernel_rfl) rfl rfl (y_index rfl rfl (by omega) (by injection eC with e1; exact e1.trans hadC')) rfl (fun _ _ _ h => h) (fun _ h => h.subl (SB.s (by repeat constructor)) (SB.s (by repeat constructor))) ?_)
  all_goals (refine tx_qg 50 rfl (by kernel_rfl) rfl rfl (y_loadNo (n := 2) (vs := [vi 0, vi 2]) rfl (fun w' hw' => hcC w' [] (hw'.fr (w0 := y4.2) (S := []) (MI.m (by repeat constructor))) (by simp) 0 (by decide))) rfl (fun _ _ _ h => h) (fun _ h => h.subl (SB.s (by repeat constructor)) (SB.s (by repeat constructor))) ?_)
  all_goals (refine tx_pg 51 rfl (by kernel_rfl) rfl rfl (y_build_g (by repeat constructor)) rfl (fun _ _ _ h => h) (fun _ h => h.subl (SB.s (by repeat constructor)) (SB.s (by repeat constructor))) ?_)
  all_goals (refine tx_pg 52 rfl (by kernel_rfl) rfl rfl (y_eql2 rfl rfl) rfl (fun _ _ _ h => h) (fun _ h => h.subl (SB.s (by repeat constructor)) (SB.s (by repeat constructor))) ?_)
  all_goals (refine tx_p 53 rfl (by kernel_rfl) (y_pick_t rfl rfl) rfl (fun _ _ _ h => h) (fun _ h => h.subl (SB.s (by repeat constructor)) (SB.s (by repeat constructor))) ?_)
  all_goals refine tx_norm (L' := [true, true, true, true, true, true, true, true, true, true, true, true, true, true, true, true, true, true, true, true, true, true, true, true, true, true, true, true, true, true, true, true, true, true, true, true, true, true, true, true, true, true, true, true, true, true, true, true, true, true, true, true, true, true, false, false, false, false, false, false, false, false, false, false, false, false, false, false, false, false, false, false, false, false, false, false, false, false, false, false, false, false, false, false, false, false, false, false, false]) (by kernel_rfl) ?_
  all_goals refine tx_p 54 rfl (by kernel_rfl) (y_move rfl) rfl (fun _ _ _ h => h) (fun _ h => h.subl (SB.s (by repeat constructor)) (SB.s (by repeat constructor))) ?_
  all_goals (refine tx_pg 55 rfl (by kernel_rfl) rfl rfl (y_move rfl) rfl (fun _ _ _ h => h) (fun _ h => h.subl (SB.s (by repeat constructor)) (SB.s (by repeat constructor))) ?_)
  all_goals (refine tx_pg 56 rfl (by kernel_rfl) rfl rfl (y_index rfl rfl (by omega) (by injection eC with e1; exact e1.trans hadC')) rfl (fun _ _ _ h => h) (fun _ h => h.subl (SB.s (by repeat constructor)) (SB.s (by repeat constructor))) ?_)
  all_goals (refine tx_qg 57 rfl (by kernel_rfl) rfl rfl (y_loadNo (n := 2) (vs := [vi 1, vi 0]) rfl (fun w' hw' => hcC w' [] (hw'.fr (w0 := y4.2) (S := []) (MI.m (by repeat constructor))) (by simp) 1 (by decide))) rfl (fun _ _ _ h => h) (fun _ h => h.subl (SB.s (by repeat constructor)) (SB.s (by repeat constructor))) ?_)
  all_goals (refine tx_pg 58 rfl (by kernel_rfl) rfl rfl (y_build_g (by repeat constructor)) rfl (fun _ _ _ h => h) (fun _ h => h.subl (SB.s (by repeat constructor)) (SB.s (by repeat constructor))) ?_)
  all_goals (refine tx_pg 59 rfl (by kernel_rfl) rfl rfl (y_eql2 rfl rfl) rfl (fun _ _ _ h => h) (fun _ h => h.subl (SB.s (by repeat constructor)) (SB.s (by repeat constructor))) ?_)
  all_goals refine tx_norm (L' := [true, true, true, true, true, true, true, true, true, true, true, true, true, true, true, true, true, true, true, true, true, true, true, true, true, true, true, true, true, true, true, true, true, true, true, true, true, true, true, true, true, true, true, true, true, true, true, true, true, true, true, true, true, true, true, true, true, true, true, true, false, false, false, false, false, false, false, false, false, false, false, false, false, false, false, false, false, false, false, false, false, false, false, false, false, false, false, false, false]) (by kernel_rfl) ?_
  all_goals (refine tx_p 60 rfl (by kernel_rfl) (y_pick_t rfl rfl) rfl (fun _ _ _ h => h) (fun _ h => h.subl (SB.s (by repeat constructor)) (SB.s (by repeat constructor))) ?_)
  all_goals refine tx_p 61 rfl (by kernel_rfl) (y_move rfl) rfl (fun _ _ _ h => h) (fun _ h => h.subl (SB.s (by repeat constructor)) (SB.s (by repeat constructor))) ?_
  all_goals (refine tx_pg 62 rfl (by kernel_rfl) rfl rfl (y_move rfl) rfl (fun _ _ _ h => h) (fun _ h => h.subl (SB.s (by repeat constructor)) (SB.s (by repeat constructor))) ?_)
  all_goals (refine tx_pg 63 rfl (by kernel_rfl) rfl rfl (y_eql rfl rfl) rfl (fun _ _ _ h => h) (fun _ h => h.subl (SB.s (by repeat constructor)) (SB.s (by repeat constructor))) ?_)
  all_goals (refine tx_p 64 rfl (by kernel_rfl) (y_pick_t rfl rfl) rfl (fun _ _ _ h => h) (fun _ h => h.subl (SB.s (by repeat constructor)) (SB.s (by repeat constructor))) ?_)
  all_goals refine tx_p 65 rfl (by kernel_rfl) (y_move rfl) rfl (fun _ _ _ h => h) (fun _ h => h.subl (SB.s (by repeat constructor)) (SB.s (by repeat constructor))) ?_
  all_goals refine tx_norm (L' := [true, true, true, true, true, true, true, true, true, true, true, true, true, true, true, true, true, true, true, true, true, true, true, true, true, true, true, true, true, true, true, true, true, true, true, true, true, true, true, true, true, true, true, true, true, true, true, true, true, true, true, true, true, true, true, true, true, true, true, true, true, true, true, true, true, true, false, false, false, false, false, false, false, false, false, false, false, false, false, false, false, false, false, false, false, false, false, false, false]) (by kernel_rfl) ?_
  all_goals (refine tx_qg 66 rfl (by kernel_rfl) rfl rfl (y_loadWf rfl (hl6.at (by repeat constructor)) (MI.m (by repeat constructor)) (by simp) (by rfl)) rfl (fun _ _ _ h => h) (fun _ h => h.subl (SB.s (by repeat constructor)) (SB.s (by repeat constructor))) ?_)
  all_goals (refine tx_single 67 (by kernel_rfl) (to_eg rfl rfl rfl rfl (e_callV rfl (.cons rfl (.cons rfl .nil)) (fun w' _ => between9_c _ _ w')) (.inr ⟨fun _ _ h => h.subl (SB.s (by repeat constructor)) (SB.s (by repeat constructor)), fun _ h => h⟩) (fun _ _ => ?_)))
  all_goals (refine tx_pg 68 rfl (by kernel_rfl) rfl rfl (y_eql2 rfl rfl) rfl (fun _ _ _ h => h) (fun _ h => h.subl (SB.s (by repeat constructor)) (SB.s (by repeat constructor))) ?_)
  all_goals (refine tx_p 69 rfl (by kernel_rfl) (y_pick_t rfl rfl) rfl (fun _ _ _ h => h) (fun _ h => h.subl (SB.s (by repeat constructor)) (SB.s (by repeat constructor))) ?_)
  all_goals refine tx_p 70 rfl (by kernel_rfl) (y_move rfl) rfl (fun _ _ _ h => h) (fun _ h => h.subl (SB.s (by repeat constructor)) (SB.s (by repeat constructor))) ?_
  all_goals (refine tx_pg 71 rfl (by kernel_rfl) rfl rfl (y_move rfl) rfl (fun _ _ _ h => h) (fun _ h => h.subl (SB.s (by repeat constructor)) (SB.s (by repeat constructor))) ?_)
  all_goals refine tx_norm (L' := [true, true, true, true, true, true, true, true, true, true, true, true, true, true, true, true, true, true, true, true, true, true, true, true, true, true, true, true, true, true, true, true, true, true, true, true, true, true, true, true, true, true, true, true, true, true, true, true, true, true, true, true, true, true, true, true, true, true, true, true, true, true, true, true, true, true, true, true, true, true, true, true, false, false, false, false, false, false, false, false, false, false, false, false, false, false, false, false, false]) (by kernel_rfl) ?_
  all_goals (refine tx_pg 72 rfl (by kernel_rfl) rfl rfl (y_eql rfl rfl) rfl (fun _ _ _ h => h) (fun _ h => h.subl (SB.s (by repeat constructor)) (SB.s (by repeat constructor))) ?_)
  all_goals (refine tx_p 73 rfl (by kernel_rfl) (y_pick_t rfl rfl) rfl (fun _ _ _ h => h) (fun _ h => h.subl (SB.s (by repeat constructor)) (SB.s (by repeat constructor))) ?_)
  all_goals refine tx_p 74 rfl (by kernel_rfl) (y_move rfl) rfl (fun _ _ _ h => h) (fun _ h => h.subl (SB.s (by repeat constructor)) (SB.s (by repeat constructor))) ?_
  all_goals (refine tx_pg 75 rfl (by kernel_rfl) rfl rfl (y_move rfl) rfl (fun _ _ _ h => h) (fun _ h => h.subl (SB.s (by repeat constructor)) (SB.s (by repeat constructor))) ?_)
  all_goals (refine tx_single 76 (by kernel_rfl) (to_eg rfl rfl rfl rfl (e_bslice rfl (by (repeat (first | exact .nil | apply PV.one rfl rfl)); done) rfl rfl) (.inr ⟨fun _ _ h => h.subl (SB.s (by repeat constructor)) (SB.s (by repeat constructor)), fun _ h => h⟩) (fun _ _ => ?_)))
  all_goals (refine tx_single 77 (by kernel_rfl) (to_eg rfl rfl rfl rfl (e_callV rfl (.cons rfl (.cons rfl .nil)) (fun w' hw' => ints9_t [1] (by decide) _ _ w' (hy6.1.fr (hw'.fr (w0 := y6.2) (S := []) (MI.m (by repeat constructor)))) (RdI.own0 (xs := [1]) hw' (by repeat constructor)))) (.inr ⟨fun _ _ h => h.subl (SB.s (by repeat constructor)) (SB.s (by repeat constructor)), fun _ h => h⟩) (fun _ _ => ?_)))
  all_goals refine tx_norm (L' := [true, true, true, true, true, true, true, true, true, true, true, true, true, true, true, true, true, true, true, true, true, true, true, true, true, true, true, true, true, true, true, true, true, true, true, true, true, true, true, true, true, true, true, true, true, true, true, true, true, true, true, true, true, true, true, true, true, true, true, true, true, true, true, true, true, true, true, true, true, true, true, true, true, true, true, true, true, true, false, false, false, false, false, false, false, false, false, false, false]) (by kernel_rfl) ?_
  all_goals (refine tx_p 78 rfl (by kernel_rfl) (y_pick_t rfl rfl) rfl (fun _ _ _ h => h) (fun _ h => h.subl (SB.s (by repeat constructor)) (SB.s (by repeat constructor))) ?_)
  all_goals refine tx_p 79 rfl (by kernel_rfl) (y_move rfl) rfl (fun _ _ _ h => h) (fun _ h => h.subl (SB.s (by repeat constructor)) (SB.s (by repeat constructor))) ?_
  all_goals (refine tx_pg 80 rfl (by kernel_rfl) rfl rfl (y_move rfl) rfl (fun _ _ _ h => h) (fun _ h => h.subl (SB.s (by repeat constructor)) (SB.s (by repeat constructor))) ?_)
  all_goals (refine tx_pg 81 rfl (by kernel_rfl) rfl rfl (y_eql rfl rfl) rfl (fun _ _ _ h => h) (fun _ h => h.subl (SB.s (by repeat constructor)) (SB.s (by repeat constructor))) ?_)
  all_goals (refine tx_p 82 rfl (by kernel_rfl) (y_pick_t rfl rfl) rfl (fun _ _ _ h => h) (fun _ h => h.subl (SB.s (by repeat constructor)) (SB.s (by repeat constructor))) ?_)
  all_goals refine tx_p 83 rfl (by kernel_rfl) (y_move rfl) rfl (fun _ _ _ h => h) (fun _ h => h.subl (SB.s (by repeat constructor)) (SB.s (by repeat constructor))) ?_
  all_goals refine tx_norm (L' := [true, true, true, true, true, true, true, true, true, true, true, true, true, true, true, true, true, true, true, true, true, true, true, true, true, true, true, true, true, true, true, true, true, true, true, true, true, true, true, true, true, true, true, true, true, true, true, true, true, true, true, true, true, true, true, true, true, true, true, true, true, true, true, true, true, true, true, true, true, true, true, true, true, true, true, true, true, true, true, true, true, true, true, true, false, false, false, false, false]) (by kernel_rfl) ?_
  all_goals (refine tx_pg 84 rfl (by kernel_rfl) rfl rfl (y_move rfl) rfl (fun _ _ _ h => h) (fun _ h => h.subl (SB.s (by repeat constructor)) (SB.s (by repeat constructor))) ?_)
  all_goals (refine tx_single 85 (by kernel_rfl) (to_eg rfl rfl rfl rfl (e_bslice rfl (by (repeat (first | exact .nil | apply PV.one rfl rfl)); done) rfl rfl) (.inr ⟨fun _ _ h => h.subl (SB.s (by repeat constructor)) (SB.s (by repeat constructor)), fun _ h => h⟩) (fun _ _ => ?_)))
  all_goals (refine tx_single 86 (by kernel_rfl) (to_eg rfl rfl rfl rfl (e_callV rfl (.cons rfl (.cons rfl .nil)) (fun w' hw' => ints9_t [2] (by decide) _ _ w' (r7.fr (hw'.fr (w0 := wl8) (S := []) (MI.m (by repeat constructor)))) (RdI.own0 (xs := [2]) hw' (by repeat constructor)))) (.inr ⟨fun _ _ h => h.subl (SB.s (by repeat constructor)) (SB.s (by repeat constructor)), fun _ h => h⟩) (fun _ _ => ?_)))
  all_goals (refine tx_p 87 rfl (by kernel_rfl) (y_pick_t rfl rfl) rfl (fun _ _ _ h => h) (fun _ h => h.subl (SB.s (by repeat constructor)) (SB.s (by repeat constructor))) ?_)
  all_goals refine tx_p 88 rfl (by kernel_rfl) (y_assign rfl) rfl (fun _ _ _ h => h) (fun _ h => h.subl (SB.s (by repeat constructor)) (SB.s (by repeat constructor))) ?_
  all_goals refine tx_done (by kernel_rfl) ?_
  all_goals (refine hK9 ?_; try (clear hK9; clear K9))
  all_goals refine tc_ret ?_
  all_goals (repeat (first | refine tk_then_ret ?_))
  all_goals first | refine tk_ret rfl rfl (.cons (.tmp rfl) .nil) ?_ | refine tk_retM rfl (by repeat constructor) rfl (.cons (.tmp rfl) .nil) ?_
  all_goals (
   exact fun w' hw' => ⟨rfl, hw'.fr (w0 := w) (S := []) (MI.m (by repeat constructor))⟩)
end Go.Sp
/-
  Helpers of the statements about trials.
-/
namespace Go.Sp
open Go Go.Proofs
theorem e_mkS {P : Program} {N : NN} {F : List (Nat × Value)} {bs : List (World × List Nat)} {H : List (Nat × Obj)} {ty : TypeId} {pos : String} {after : Array Edge} {g : Option (Nat × Bool)} {dd : Tmp} {t e : TypeId} {sz by_ : Nat} {x y : Operand} {z : Value} {n : Nat} {out : List Value} [hs : TySlice P t e sz] (hi : (P.info? e).map (fun i => (i.zero, i.size, i.bytes)) = some (some z, sz, by_)) (hd : Nat.blt dd N.n = true)
    (hx : evalO F x = some (.int .i64 n)) (hy : evalO F y = some (.int .i64 n)) (hb : by_ * n ≤ 1000000) (hn : n * sz ≤ 1000000) (hn2 : n ≤ 1000000) (hout : madeCells z.cells (n * sz) = out.toArray) :
    OpE P ⟨some dd, .makeSlice t x y, ty, pos, after, g⟩ N F bs H (fun _ : Nat => True) (fun b => (dd, .slice (some ⟨b, 0, none⟩) n n) :: F) (fun _ => bs) (fun b => (b, .cells out.toArray e (0, 0)) :: H) := by
  unfold OpE
  intro a w ht hw K Q hK
  obtain ⟨i, h1, h2⟩ := Option.map_eq_some_iff.1 hi
  simp only [Prod.mk.injEq] at h2
  have hbb : (i.bytes : Int) * (n : Int) ≤ 281474976710656 := by
    have : ((i.bytes * n : Nat) : Int) ≤ 1000000 := by rw [h2.2.2]; omega
    rw [Int.natCast_mul] at this; omega
  have hrun := run_makeSlice (P := P) w t e i z hs.ty h1 h2.1 .i64 .i64 n n (by omega) (Int.le_refl _) (by rw [h2.2.1, Int.toNat_natCast]; omega) hbb (by omega)
  simp only [Int.toNat_natCast, h2.2.1, hout] at hrun
  unfold Oper.wp
  simp only [execOp, Sem.run_bind, ht.eval hx, ht.eval hy, hrun, Result.andThen, Sem.run_pure, Oper.upon]
  exact hK w.heap.size _ _ trivial (ht.put hd _) (hw.alloc _)
theorem e_y {P : Program} {N : NN} {F : List (Nat × Value)} {bs : List (World × List Nat)} {H : List (Nat × Obj)} {d : Tmp} {op : Op} {ty : TypeId} {pos : String} {after : Array Edge} {g : Option (Nat × Bool)} {v : Value} (hd : Nat.blt d N.n = true) (hy : OpY P ⟨some d, op, ty, pos, after, g⟩ F bs H v) :
    OpE P ⟨some d, op, ty, pos, after, g⟩ N F bs H (fun _ : Unit => True) (fun _ => (d, v) :: F) (fun _ => bs) (fun _ => H) := by
  unfold OpE
  unfold OpY at hy
  intro a w ht hw K Q hK
  unfold Oper.wp
  rw [hy N a w ht hw]
  simp only [Oper.upon]
  exact hK () _ _ trivial (ht.put hd _) hw
theorem e_storeS {P : Program} {N : NN} {F : List (Nat × Value)} {bs : List (World × List Nat)} {H : List (Nat × Obj)} {ty : TypeId} {pos : String} {after : Array Edge} {g : Option (Nat × Bool)} {t : TypeId} {z : Value} [h : TyOne P t z] {x y : Operand} {b o : Nat} {v : Value} {l : List Value} {e : TypeId} {H' : List (Nat × Obj)}
    (hx : evalO F x = some (.pointer (some ⟨b, o, none⟩))) (hy : evalO F y = some v) (hv : v.cells = #[v]) (ho : v.oneCell' = true)
    (hu : HU b (.cells l.toArray e (0, 0)) (.cells (l.set o v).toArray e (0, 0)) H H') (hlt : o < l.length) :
    OpE P ⟨none, .store t x y, ty, pos, after, g⟩ N F bs H (fun _ : Unit => True) (fun _ => F) (fun _ => bs) (fun _ => H') :=
  e_store1g hx hy hv ho (c := l.toArray) (by simpa using hlt) (by rw [List.setIfInBounds_toArray]; exact hu)
theorem tr_ones {t : Tr} {sl pl ll tl : Value} (h1 : sl.oneCell' = true) (h2 : pl.oneCell' = true) (h3 : ll.oneCell' = true) (h4 : tl.oneCell' = true) : ∀ v ∈ (#[vi t.s.mass, vi t.s.volume, vi t.s.step, vi t.s.divisions, vi t.s.width, sl, pl, vi t.worst, ll, tl] : Array Value).toList, v.oneCell' = true := by
  intro v hv
  simp only [List.mem_cons, List.not_mem_nil, or_false] at hv
  rcases hv with rfl | rfl | rfl | rfl | rfl | rfl | rfl | rfl | rfl | rfl
  all_goals first | rfl | assumption
def thin9P (t : Tr) : Prop := (t.s.weights.length : Int) ≤ 9 ∧ (t.parts.length : Int) ≤ 6 ∧ (t.liquids.length : Int) ≤ 5 ∧ (t.tests.length : Int) ≤ 9
instance (t : Tr) : Decidable (thin9P t) := by unfold thin9P; infer_instance
theorem thin9P.nt {t : Tr} (h : thin9P t) : NT t := by
  obtain ⟨h1, h2, h3, h4⟩ := h
  exact ⟨by omega, by omega, by omega, by omega⟩
theorem thin9_c (t : Tr) (sl pl ll tl : Value) (w : World) (hr : RdTr w t sl pl ll tl) : CnV Tryz.prog 15 #[trV t sl pl ll tl] w (.bool (decide (thin9P t))) := by
  have hr0 := hr
  obtain ⟨_, _, _, _, rfl, _, _⟩ := hr.ps.open
  obtain ⟨_, _, _, _, rfl, _, _⟩ := hr.ls.open
  obtain ⟨_, _, _, _, rfl, _, _⟩ := hr.ts.open
  refine cnv (vs := [_]) Tryz.func15 rfl rfl ?_
  all_goals refine tc_seq fun K1 hK1 => ?_
  all_goals refine tc_region ?_
  all_goals refine tl_e (e_box rfl rfl rfl) rfl (fun _ _ => ?_)
  all_goals refine tl_q (y_assign rfl) rfl ?_
  all_goals refine tl_nil ?_
  all_goals (refine hK1 ?_; try (clear hK1; clear K1))
  all_goals refine tc_seq fun K2 hK2 => ?_
  all_goals refine tc_region ?_
  all_goals refine tl_q (y_field rfl) rfl ?_
  all_goals (refine tl_q (y_loadN rfl (by repeat constructor) (by (repeat (first | exact .nil | apply CA.cons rfl)); done)) rfl ?_)
  all_goals refine tl_e (e_callV rfl (.cons rfl .nil) (fun w' hw' => thin_c t.s sl w' (hr0.ws.fr (hw'.fr (by simp))))) rfl (fun _ _ => ?_)
  all_goals refine tl_q (y_move rfl) rfl ?_
  all_goals (refine tl_gs rfl rfl (fun hc => ?_) (fun hc => ?_) <;> (try simp only [decide_eq_true_eq, decide_eq_false_iff_not, Int.not_lt, Int.not_le, Bool.not_eq_true', Bool.not_eq_false', Decidable.not_not, not_true_eq_false] at hc) <;> (first | refine tl_sk rfl rfl rfl rfl ?_ | refine tl_qg rfl rfl (y_field rfl) rfl ?_))
  all_goals (first | refine tl_sk rfl rfl rfl rfl ?_ | refine tl_qg rfl rfl (y_load1 rfl (by repeat constructor) (by rfl)) rfl ?_)
  all_goals (first | refine tl_sk rfl rfl rfl rfl ?_ | refine tl_qg rfl rfl (y_len rfl) rfl ?_)
  all_goals (first | refine tl_sk rfl rfl rfl rfl ?_ | refine tl_qg rfl rfl (y_leq rfl rfl) rfl ?_)
  all_goals (first | refine tl_q (y_pick_t rfl rfl) rfl ?_ | refine tl_q (y_pick_f rfl rfl) rfl ?_)
  all_goals refine tl_q (y_move rfl) rfl ?_
  all_goals (first | refine tl_sk rfl rfl rfl rfl ?_ | (refine tl_gs rfl rfl (fun hc => ?_) (fun hc => ?_) <;> (try simp only [decide_eq_true_eq, decide_eq_false_iff_not, Int.not_lt, Int.not_le, Bool.not_eq_true', Bool.not_eq_false', Decidable.not_not, not_true_eq_false] at hc) <;> (first | refine tl_sk rfl rfl rfl rfl ?_ | refine tl_qg rfl rfl (y_field rfl) rfl ?_)))
  all_goals (first | refine tl_sk rfl rfl rfl rfl ?_ | refine tl_qg rfl rfl (y_load1 rfl (by repeat constructor) (by rfl)) rfl ?_)
  all_goals (first | refine tl_sk rfl rfl rfl rfl ?_ | refine tl_qg rfl rfl (y_len rfl) rfl ?_)
  all_goals (first | refine tl_sk rfl rfl rfl rfl ?_ | refine tl_qg rfl rfl (y_leq rfl rfl) rfl ?_)
  all_goals (first | refine tl_q (y_pick_t rfl rfl) rfl ?_ | refine tl_q (y_pick_f rfl rfl) rfl ?_)
  all_goals refine tl_q (y_move rfl) rfl ?_
  all_goals (first | refine tl_sk rfl rfl rfl rfl ?_ | (refine tl_gs rfl rfl (fun hc => ?_) (fun hc => ?_) <;> (try simp only [decide_eq_true_eq, decide_eq_false_iff_not, Int.not_lt, Int.not_le, Bool.not_eq_true', Bool.not_eq_false', Decidable.not_not, not_true_eq_false] at hc) <;> (first | refine tl_sk rfl rfl rfl rfl ?_ | refine tl_qg rfl rfl (y_field rfl) rfl ?_)))
  all_goals (first | refine tl_sk rfl rfl rfl rfl ?_ | refine tl_qg rfl rfl (y_load1 rfl (by repeat constructor) (by rfl)) rfl ?_)
  all_goals (first | refine tl_sk rfl rfl rfl rfl ?_ | refine tl_qg rfl rfl (y_len rfl) rfl ?_)
  all_goals (first | refine tl_sk rfl rfl rfl rfl ?_ | refine tl_qg rfl rfl (y_leq rfl rfl) rfl ?_)
  all_goals (first | refine tl_q (y_pick_t rfl rfl) rfl ?_ | refine tl_q (y_pick_f rfl rfl) rfl ?_)
  all_goals refine tl_q (y_assign rfl) rfl ?_
  all_goals refine tl_nil ?_
  all_goals (refine hK2 ?_; try (clear hK2; clear K2))
  all_goals refine tc_ret ?_
  all_goals (repeat (first | refine tk_then_ret ?_))
  all_goals first | refine tk_ret rfl rfl (.cons (.tmp rfl) .nil) ?_ | refine tk_retM rfl (by repeat constructor) rfl (.cons (.tmp rfl) .nil) ?_
  all_goals (
   refine fun w' hw' => ⟨congrArg (fun b => Ending.returned (Value.bool b)) ?_, hw'.fr (by simp)⟩
   unfold thin9P
   first
   | exact decide_eq_decide.2 (by omega)
   | exact (decide_eq_false (by omega)).symm)
theorem ready9_c (t : Tr) (sl pl ll tl : Value) (w : World) (hr : RdTr w t sl pl ll tl) : CnV Tryz.prog 34 #[trV t sl pl ll tl] w (.bool (decide (thin9P t ∧ chkT t = 0))) := by
  refine cnv (vs := [_]) Tryz.func34 rfl rfl ?_
  all_goals refine tc_seq fun K1 hK1 => ?_
  all_goals refine tc_region ?_
  all_goals refine tl_e (e_box rfl rfl rfl) rfl (fun _ _ => ?_)
  all_goals refine tl_q (y_assign rfl) rfl ?_
  all_goals refine tl_nil ?_
  all_goals (refine hK1 ?_; try (clear hK1; clear K1))
  all_goals refine tc_seq fun K2 hK2 => ?_
  all_goals refine tc_region ?_
  all_goals (refine tl_q (y_loadW rfl (by repeat constructor) (by rfl)) rfl ?_)
  all_goals refine tl_e (e_callV rfl (.cons rfl .nil) (fun w' hw' => thin9_c t sl pl ll tl w' (hr.fr (hw'.fr (by simp))))) rfl (fun _ _ => ?_)
  all_goals refine tl_q (y_move rfl) rfl ?_
  all_goals (refine tl_gs rfl rfl (fun hc => ?_) (fun hc => ?_) <;> (try simp only [decide_eq_true_eq, decide_eq_false_iff_not, Int.not_lt, Int.not_le, Bool.not_eq_true', Bool.not_eq_false', Decidable.not_not, not_true_eq_false] at hc) <;> (first | refine tl_sk rfl rfl rfl rfl ?_ | refine tl_qg rfl rfl (y_loadW rfl (by repeat constructor) (by rfl)) rfl ?_))
  all_goals (first | refine tl_sk rfl rfl rfl rfl ?_ | refine tl_eg rfl rfl rfl (e_callV rfl (.cons rfl .nil) (fun w' hw' => faultT_c t (thin9P.nt (by assumption)) sl pl ll tl w' (hr.fr (hw'.fr (by simp))))) (fun _ _ => ?_))
  all_goals (first | refine tl_sk rfl rfl rfl rfl ?_ | refine tl_qg rfl rfl (y_eql rfl rfl) rfl ?_)
  all_goals (first | refine tl_q (y_pick_t rfl rfl) rfl ?_ | refine tl_q (y_pick_f rfl rfl) rfl ?_)
  all_goals refine tl_q (y_assign rfl) rfl ?_
  all_goals refine tl_nil ?_
  all_goals (refine hK2 ?_; try (clear hK2; clear K2))
  all_goals refine tc_ret ?_
  all_goals (repeat (first | refine tk_then_ret ?_))
  all_goals first | refine tk_ret rfl rfl (.cons (.tmp rfl) .nil) ?_ | refine tk_retM rfl (by repeat constructor) rfl (.cons (.tmp rfl) .nil) ?_
  all_goals (
   refine fun w' hw' => ⟨congrArg (fun b => Ending.returned (Value.bool b)) ?_, hw'.fr (by simp)⟩
   first
   | exact decide_eq_decide.2 ⟨fun h => ⟨by assumption, h⟩, fun h => h.2⟩
   | exact (decide_eq_false (fun h => absurd h.1 (by assumption))).symm)
theorem has9_c (l : List Int) (hl : (l.length : Int) ≤ 9000000000000000000) (n : Int) (lv : Value) (w : World) (hr : RdI w lv l) : CnV Tryz.prog 58 #[lv, vi n] w (.bool (decide (n ∈ l))) := by
  obtain ⟨ad, cap, b0, o, rfl, had, hcell⟩ := hr.open
  refine cnv (vs := [_, _]) Tryz.func58 rfl rfl ?_
  all_goals refine tc_seq fun K1 hK1 => ?_
  all_goals refine tc_region ?_
  all_goals refine tl_q (y_assign rfl) rfl ?_
  all_goals refine tl_nil ?_
  all_goals (refine hK1 ?_; try (clear hK1; clear K1))
  all_goals refine tc_seq fun K2 hK2 => ?_
  all_goals refine tc_seq fun K3 hK3 => ?_
  all_goals refine tc_region ?_
  all_goals refine tl_q (y_assign rfl) rfl ?_
  all_goals refine tl_nil ?_
  all_goals (refine hK3 ?_; try (clear hK3; clear K3))
  all_goals refine tc_block ?_
  all_goals (
   refine tc_loop (fun k : Nat => k ≤ l.length ∧ ∀ j : Nat, j < k → l.getD j 0 ≠ n) (fun k => [(0, .slice ad l.length cap), (1, vi n), (5, vi k)]) (fun _ => [(w, [])]) (fun _ => []) (fun k => l.length - k) ?_ ?_
   · exact tk_start 0 ⟨Nat.zero_le _, fun i hi => absurd hi (Nat.not_lt_zero i)⟩ (.cons rfl (.cons rfl (.cons rfl .nil))) (fun _ h => h)
   · rintro k ⟨hk, hI⟩
     all_goals refine tc_seq fun K4 hK4 => ?_
     all_goals refine tc_seq fun K5 hK5 => ?_
     all_goals refine tc_region ?_
     all_goals refine tl_q (y_move rfl) rfl ?_
     all_goals refine tl_q (y_move rfl) rfl ?_
     all_goals refine tl_q (y_len rfl) rfl ?_
     all_goals refine tl_q (y_lss rfl rfl) rfl ?_
     all_goals refine tl_nil ?_
     all_goals (refine hK5 ?_; try (clear hK5; clear K5))
     all_goals (
      refine tc_cond rfl (fun hc => ?_) (fun hc => ?_)
      · try simp only [decide_eq_true_eq, decide_eq_false_iff_not, Int.not_lt, Int.not_le, Bool.not_eq_true', Bool.not_eq_false', Decidable.not_not, not_true_eq_false] at hc
        all_goals first | (exfalso; with_reducible exact bft hc) | (exfalso; with_reducible exact btf hc) | (exfalso; omega) | skip
        all_goals refine tc_skip ?_
        all_goals (refine hK4 ?_; try (clear hK4; clear K4))
        all_goals refine tc_seq fun K6 hK6 => ?_
        all_goals refine tc_block ?_
        all_goals refine tc_seq fun K7 hK7 => ?_
        all_goals have had' := had (by omega)
        all_goals refine tc_region ?_
        all_goals refine tl_q (y_move rfl) rfl ?_
        all_goals refine tl_q (y_move rfl) rfl ?_
        all_goals (refine tl_q (y_index rfl rfl (by omega) had') rfl ?_)
        all_goals (refine tl_q (y_load1o (v := vi (l.getD k 0)) rfl (fun w' hw' => by rw [show Int.toNat (k : Int) * 1 = k from by omega]; exact hcell w' (hw'.fr (by simp)) k (by omega))) rfl ?_)
        all_goals refine tl_q (y_move rfl) rfl ?_
        all_goals refine tl_q (y_eql rfl rfl) rfl ?_
        all_goals refine tl_nil ?_
        all_goals (refine hK7 ?_; try (clear hK7; clear K7))
        all_goals (
         refine tc_cond rfl (fun hc => ?_) (fun hc => ?_)
         · try simp only [decide_eq_true_eq, decide_eq_false_iff_not, Int.not_lt, Int.not_le, Bool.not_eq_true', Bool.not_eq_false', Decidable.not_not, not_true_eq_false] at hc
           all_goals first | (exfalso; with_reducible exact bft hc) | (exfalso; with_reducible exact btf hc) | (exfalso; omega) | skip
           all_goals refine tc_seq fun K8 hK8 => ?_
           all_goals refine tc_region ?_
           all_goals refine tl_q (y_assign rfl) rfl ?_
           all_goals refine tl_nil ?_
           all_goals (refine hK8 ?_; try (clear hK8; clear K8))
           all_goals refine tc_ret ?_
           all_goals (repeat (first | refine tk_then_ret ?_ | refine tk_block_ret ?_))
           all_goals first | refine tk_ret rfl rfl (.cons (.tmp rfl) .nil) ?_ | refine tk_retM rfl (by repeat constructor) rfl (.cons (.tmp rfl) .nil) ?_
           all_goals (
            refine fun w' hw' => ⟨congrArg (fun b => Ending.returned (Value.bool b)) ?_, hw'.fr (by simp)⟩
            symm
            first
            | exact decide_eq_true (by rw [← hc, List.getD_eq_getElem?_getD, List.getElem?_eq_getElem (by omega)]; exact List.getElem_mem _)
            | exact decide_eq_false (fun h => by
                obtain ⟨j, hj, e⟩ := List.getElem_of_mem h
                have := hI j (by omega)
                rw [List.getD_eq_getElem?_getD, List.getElem?_eq_getElem hj] at this
                exact this e))
         · try simp only [decide_eq_true_eq, decide_eq_false_iff_not, Int.not_lt, Int.not_le, Bool.not_eq_true', Bool.not_eq_false', Decidable.not_not, not_true_eq_false] at hc
           all_goals first | (exfalso; with_reducible exact bft hc) | (exfalso; with_reducible exact btf hc) | (exfalso; omega) | skip
           all_goals refine tc_skip ?_
           all_goals (refine hK6 ?_; try (clear hK6; clear K6))
           all_goals refine tc_region ?_
           all_goals refine tl_q (y_move rfl) rfl ?_
           all_goals refine tl_q (y_add rfl rfl (by omega)) rfl ?_
           all_goals refine tl_q (y_assign rfl) rfl ?_
           all_goals refine tl_nil ?_
           all_goals (
            exact tk_round (k + 1) ⟨by omega, fun i hi => by
              rcases Nat.lt_succ_iff_lt_or_eq.1 hi with h | rfl
              · exact hI i h
              · exact hc⟩ (by omega) (.cons rfl (.cons rfl (.cons rfl .nil))) (fun _ h => h)))
      · try simp only [decide_eq_true_eq, decide_eq_false_iff_not, Int.not_lt, Int.not_le, Bool.not_eq_true', Bool.not_eq_false', Decidable.not_not, not_true_eq_false] at hc
        all_goals first | (exfalso; with_reducible exact bft hc) | (exfalso; with_reducible exact btf hc) | (exfalso; omega) | skip
        all_goals refine tc_exit ?_
        all_goals (refine hK2 ?_; try (clear hK2; clear K2))
        all_goals refine tc_seq fun K9 hK9 => ?_
        all_goals refine tc_region ?_
        all_goals refine tl_q (y_assign rfl) rfl ?_
        all_goals refine tl_nil ?_
        all_goals (refine hK9 ?_; try (clear hK9; clear K9))
        all_goals refine tc_ret ?_
        all_goals (repeat (first | refine tk_then_ret ?_))
        all_goals first | refine tk_ret rfl rfl (.cons (.tmp rfl) .nil) ?_ | refine tk_retM rfl (by repeat constructor) rfl (.cons (.tmp rfl) .nil) ?_
        all_goals (
         refine fun w' hw' => ⟨congrArg (fun b => Ending.returned (Value.bool b)) ?_, hw'.fr (by simp)⟩
         symm
         first
         | exact decide_eq_true (by rw [← hc, List.getD_eq_getElem?_getD, List.getElem?_eq_getElem (by omega)]; exact List.getElem_mem _)
         | exact decide_eq_false (fun h => by
             obtain ⟨j, hj, e⟩ := List.getElem_of_mem h
             have := hI j (by omega)
             rw [List.getD_eq_getElem?_getD, List.getElem?_eq_getElem hj] at this
             exact this e))))
theorem subset9_c (a l : List Int) (ha : (a.length : Int) ≤ 9000000000000000000) (hl : (l.length : Int) ≤ 9000000000000000000) (av lv : Value) (w : World) (hA : RdI w av a) (hr : RdI w lv l) : CnV Tryz.prog 38 #[av, lv] w (.bool (a.all fun x => decide (x ∈ l))) := by
  obtain ⟨ad, cap, b0, o, rfl, had, hcell⟩ := hA.open
  refine cnv (vs := [_, _]) Tryz.func38 rfl rfl ?_
  all_goals refine tc_seq fun K1 hK1 => ?_
  all_goals refine tc_region ?_
  all_goals refine tl_q (y_assign rfl) rfl ?_
  all_goals refine tl_nil ?_
  all_goals (refine hK1 ?_; try (clear hK1; clear K1))
  all_goals refine tc_seq fun K2 hK2 => ?_
  all_goals refine tc_seq fun K3 hK3 => ?_
  all_goals refine tc_region ?_
  all_goals refine tl_q (y_assign rfl) rfl ?_
  all_goals refine tl_nil ?_
  all_goals (refine hK3 ?_; try (clear hK3; clear K3))
  all_goals refine tc_block ?_
  all_goals (
   refine tc_loop (fun k : Nat => k ≤ a.length ∧ ∀ j : Nat, j < k → a.getD j 0 ∈ l) (fun k => [(0, .slice ad a.length cap), (1, lv), (5, vi k)]) (fun _ => [(w, [])]) (fun _ => []) (fun k => a.length - k) ?_ ?_
   · exact tk_start 0 ⟨Nat.zero_le _, fun i hi => absurd hi (Nat.not_lt_zero i)⟩ (.cons rfl (.cons rfl (.cons rfl .nil))) (fun _ h => h)
   · rintro k ⟨hk, hI⟩
     all_goals refine tc_seq fun K4 hK4 => ?_
     all_goals refine tc_seq fun K5 hK5 => ?_
     all_goals refine tc_region ?_
     all_goals refine tl_q (y_move rfl) rfl ?_
     all_goals refine tl_q (y_move rfl) rfl ?_
     all_goals refine tl_q (y_len rfl) rfl ?_
     all_goals refine tl_q (y_lss rfl rfl) rfl ?_
     all_goals refine tl_nil ?_
     all_goals (refine hK5 ?_; try (clear hK5; clear K5))
     all_goals (
      refine tc_cond rfl (fun hc => ?_) (fun hc => ?_)
      · try simp only [decide_eq_true_eq, decide_eq_false_iff_not, Int.not_lt, Int.not_le, Bool.not_eq_true', Bool.not_eq_false', Decidable.not_not, not_true_eq_false] at hc
        all_goals first | (exfalso; with_reducible exact bft hc) | (exfalso; with_reducible exact btf hc) | (exfalso; omega) | skip
        all_goals refine tc_skip ?_
        all_goals (refine hK4 ?_; try (clear hK4; clear K4))
        all_goals refine tc_seq fun K6 hK6 => ?_
        all_goals refine tc_block ?_
        all_goals refine tc_seq fun K7 hK7 => ?_
        all_goals have had' := had (by omega)
        all_goals refine tc_region ?_
        all_goals refine tl_q (y_move rfl) rfl ?_
        all_goals refine tl_q (y_move rfl) rfl ?_
        all_goals refine tl_q (y_move rfl) rfl ?_
        all_goals (refine tl_q (y_index rfl rfl (by omega) had') rfl ?_)
        all_goals (refine tl_q (y_load1o (v := vi (a.getD k 0)) rfl (fun w' hw' => by rw [show Int.toNat (k : Int) * 1 = k from by omega]; exact hcell w' (hw'.fr (by simp)) k (by omega))) rfl ?_)
        all_goals refine tl_e (e_callV rfl (.cons rfl (.cons rfl .nil)) (fun w' hw' => has9_c l hl (a.getD k 0) lv w' (hr.fr (hw'.fr (by simp))))) rfl (fun _ _ => ?_)
        all_goals (refine tl_q (y_not_dec rfl) rfl ?_)
        all_goals refine tl_nil ?_
        all_goals (refine hK7 ?_; try (clear hK7; clear K7))
        all_goals (
         refine tc_cond rfl (fun hc => ?_) (fun hc => ?_)
         · try simp only [decide_eq_true_eq, decide_eq_false_iff_not, Int.not_lt, Int.not_le, Bool.not_eq_true', Bool.not_eq_false', Decidable.not_not, not_true_eq_false] at hc
           all_goals first | (exfalso; with_reducible exact bft hc) | (exfalso; with_reducible exact btf hc) | (exfalso; omega) | skip
           all_goals refine tc_seq fun K8 hK8 => ?_
           all_goals refine tc_region ?_
           all_goals refine tl_q (y_assign rfl) rfl ?_
           all_goals refine tl_nil ?_
           all_goals (refine hK8 ?_; try (clear hK8; clear K8))
           all_goals refine tc_ret ?_
           all_goals (repeat (first | refine tk_then_ret ?_ | refine tk_block_ret ?_))
           all_goals first | refine tk_ret rfl rfl (.cons (.tmp rfl) .nil) ?_ | refine tk_retM rfl (by repeat constructor) rfl (.cons (.tmp rfl) .nil) ?_
           all_goals (
            refine fun w' hw' => ⟨congrArg (fun b => Ending.returned (Value.bool b)) ?_, hw'.fr (by simp)⟩
            symm
            first
            | (rw [List.all_eq_false]
               exact ⟨a.getD k 0, by rw [List.getD_eq_getElem?_getD, List.getElem?_eq_getElem (by omega)]; exact List.getElem_mem _, by rw [decide_eq_true_eq]; exact hc⟩)
            | (rw [List.all_eq_true]
               intro x hx
               obtain ⟨j, hj, rfl⟩ := List.getElem_of_mem hx
               have := hI j (by omega)
               rw [List.getD_eq_getElem?_getD, List.getElem?_eq_getElem hj] at this
               exact decide_eq_true this))
         · try simp only [decide_eq_true_eq, decide_eq_false_iff_not, Int.not_lt, Int.not_le, Bool.not_eq_true', Bool.not_eq_false', Decidable.not_not, not_true_eq_false] at hc
           all_goals first | (exfalso; with_reducible exact bft hc) | (exfalso; with_reducible exact btf hc) | (exfalso; omega) | skip
           all_goals refine tc_skip ?_
           all_goals (refine hK6 ?_; try (clear hK6; clear K6))
           all_goals refine tc_region ?_
           all_goals refine tl_q (y_move rfl) rfl ?_
           all_goals refine tl_q (y_add rfl rfl (by omega)) rfl ?_
           all_goals refine tl_q (y_assign rfl) rfl ?_
           all_goals refine tl_nil ?_
           all_goals (
            exact tk_round (k + 1) ⟨by omega, fun i hi => by
              rcases Nat.lt_succ_iff_lt_or_eq.1 hi with h | rfl
              · exact hI i h
              · exact hc⟩ (by omega) (.cons rfl (.cons rfl (.cons rfl .nil))) (fun _ h => h)))
      · try simp only [decide_eq_true_eq, decide_eq_false_iff_not, Int.not_lt, Int.not_le, Bool.not_eq_true', Bool.not_eq_false', Decidable.not_not, not_true_eq_false] at hc
        all_goals first | (exfalso; with_reducible exact bft hc) | (exfalso; with_reducible exact btf hc) | (exfalso; omega) | skip
        all_goals refine tc_exit ?_
        all_goals (refine hK2 ?_; try (clear hK2; clear K2))
        all_goals refine tc_seq fun K9 hK9 => ?_
        all_goals refine tc_region ?_
        all_goals refine tl_q (y_assign rfl) rfl ?_
        all_goals refine tl_nil ?_
        all_goals (refine hK9 ?_; try (clear hK9; clear K9))
        all_goals refine tc_ret ?_
        all_goals (repeat (first | refine tk_then_ret ?_))
        all_goals first | refine tk_ret rfl rfl (.cons (.tmp rfl) .nil) ?_ | refine tk_retM rfl (by repeat constructor) rfl (.cons (.tmp rfl) .nil) ?_
        all_goals (
         refine fun w' hw' => ⟨congrArg (fun b => Ending.returned (Value.bool b)) ?_, hw'.fr (by simp)⟩
         symm
         first
         | (rw [List.all_eq_false]
            exact ⟨a.getD k 0, by rw [List.getD_eq_getElem?_getD, List.getElem?_eq_getElem (by omega)]; exact List.getElem_mem _, by rw [decide_eq_true_eq]; exact hc⟩)
         | (rw [List.all_eq_true]
            intro x hx
            obtain ⟨j, hj, rfl⟩ := List.getElem_of_mem hx
            have := hI j (by omega)
            rw [List.getD_eq_getElem?_getD, List.getElem?_eq_getElem hj] at this
            exact decide_eq_true this))))
end Go.Sp
/-
  From a contract of a law's function to its row: what the arguments read as, and that they read so afterwards.
-/
namespace Go.Sp
open Go Go.Proofs Go.ChangeShapes Go.WideShapes Go.RowKit
section
variable {H : Type} {enc : TypeId × Value → H} {P : Program} {w : World} {base : Nat} {spare : Nat → Bool} {held : Bool}
theorem Fr.kept {W W' : World} (h : Fr [] W W') (p : MemPlace → Prop) : W.keptBut W' p :=
  ⟨h.os, h.output, fun i hi => by
    have e := h.block i hi (by simp)
    rw [e]
    cases hb : W.heap[i]? with
    | none => trivial
    | some o => cases o <;> simp⟩
/-- What is left of a post without 'again'. -/
theorem post_na {f : Func} {s : ChangeSpec} {apart fresh handsOn : Bool} {W W' : World} {args : Array Value} {v : Value} {ds gs : List (DataW H)} {before pa pv : List MemPlace}
    (hW : DataW.Whole enc P f.params.toList s.vars apart W args.toList ds gs before)
    (hres : ∀ (b : Nat) (sp : Nat → Bool) (hd : Bool), DataW.TrodAll enc P W' b sp hd f.resultTypes.toList (v.resultList f.resultTypes.size) (s.fn H (ds ++ gs)).results [])
    (hargs : ∀ sp : Nat → Bool, (∀ p ∈ before, sp p.block = true) → DataW.TrodAll enc P W' 0 sp true f.params.toList args.toList (s.fn H (ds ++ gs)).args pa)
    (hvars : ∀ sp : Nat → Bool, (∀ p ∈ before, sp p.block = true) → DataW.TrodVars enc P W' sp s.vars (s.fn H (ds ++ gs)).vars pv)
    (hps : before = pa ++ pv) (hk : W.keptBut W' (· ∈ before)) : s.post enc P f apart fresh handsOn false W args v W' := by
  have hold : ∀ p ∈ before, (fun b => decide (b < W.heap.size)) p.block = true := fun p hp => by simpa using hW.lt p hp
  refine ⟨ds, gs, before, [], pa, pv, hW, hres _ _ _, hargs _ hold, hvars _ hold, World.keptBut_mono (fun p hp => ⟨hp, ?_⟩) hk, fun h => by cases h⟩
  rw [hps, List.mem_append] at hp
  exact Or.inr hp
theorem all_stays (hl : laidOutB P = true) {W W' : World} {sp : Nat → Bool} (hb : Below W.heap.size W W') : ∀ {ts : List TypeId} {vs : List Value} {ds : List (DataW H)} {ps : List MemPlace}, (ts.all fun t => P.readableRec t && decide (t < P.types.size)) = true →
    DataW.TrodAll enc P W 0 (fun _ => true) true ts vs ds ps → (∀ p ∈ ps, sp p.block = true) → DataW.TrodAll enc P W' 0 sp true ts vs ds ps := by
  intro ts
  induction ts with
  | nil => intro vs ds ps _ h _; cases vs <;> cases ds <;> simp [DataW.TrodAll] at h ⊢; exact h
  | cons t ts ih =>
    intro vs ds ps ht h hs
    have hlt := h.lt
    obtain ⟨v, vs', d, ds', p, q, rfl, rfl, rfl, h1, h2⟩ := trodAll_cons h
    simp only [List.all_cons, Bool.and_eq_true, decide_eq_true_eq] at ht
    exact ⟨p, q, WideElems.Trod_stays hl ht.1.1 ht.1.2 h1 (fun x hx => hb.same (hlt x (List.mem_append_left _ hx))) (fun x hx => hs x (List.mem_append_left _ hx)),
      ih (by simpa using ht.2) h2 (fun x hx => hs x (List.mem_append_right _ hx)), rfl⟩
/-- A slice reads as the cells of its elements, each of which reads. -/
theorem slice_reads {t e : TypeId} {fuel : Nat} {cs : List Value} {x : DataW H × List MemPlace} (ht : P.underlying t = some (.slice e)) (hc : 0 < P.cellsOf e) (h : DataW.trod enc P w base spare held fuel t cs = some x) :
    ∃ ad cap, ∃ ess : List (List Value), cs = [.slice ad ess.length cap] ∧ ess.length ≤ maxLen ∧ Reads w (.slice ad ess.length cap) (P.cellsOf e) ess.length ess.flatten ∧ ∀ es ∈ ess, ∃ m y, DataW.trod enc P w base spare held m e es = some y := by
  rcases DataW.trod_slice ht h with ⟨rfl, _⟩ | ⟨a, len, cap, elems, rest, n, _, rfl, _, hb, hl, hm, hlen, hel, _, _⟩
  · exact ⟨none, 0, [], rfl, Nat.zero_le _, ⟨by simp, none, 0, rfl, fun h => absurd rfl h⟩, by simp⟩
  · -- the cells of each element
    have hone : ∀ i, i < len → ∃ es y, w.cells? base (a.add (i * P.cellsOf e)) (P.cellsOf e) = some es ∧ DataW.trod enc P w base spare held n e es = some y := fun i hi => by
      have h1 := hel i hi
      rw [List.getElem?_eq_getElem (by omega)] at h1
      obtain ⟨es, h2, h3⟩ := Option.bind_eq_some_iff.1 h1
      exact ⟨es, _, h2, h3⟩
    have hadd : ∀ m, a.spot = none → a.add m = ⟨a.block, a.off + m, none⟩ := fun m hs => by
      obtain ⟨b, o, sp⟩ := a
      simp only at hs
      subst hs
      unfold Addr.add; split
      · rename_i h0; subst h0; rfl
      · rfl
    have hsp0 : 0 < len → a.spot = none := fun h0 => by
      obtain ⟨es, y, g1, g2⟩ := hone 0 h0
      obtain ⟨_, hl1, hat⟩ := World.cells?_some g1
      have := hat 0 hc
      rw [List.getElem?_eq_getElem (by omega), Nat.zero_mul, show (a.add 0).add 0 = a from rfl] at this
      unfold World.cell? at this
      split at this
      · split at this
        · cases this
        · rename_i hs; simpa using hs
      · cases this
    have hcell : ∀ k, k ≤ len → ∃ ess : List (List Value), ess.length = k ∧ (∀ es ∈ ess, ∃ m y, DataW.trod enc P w base spare held m e es = some y) ∧ ess.flatten.length = k * P.cellsOf e ∧
        (k ≠ 0 → a.spot = none) ∧ ∀ j v, ess.flatten[j]? = some v → w.cell? ⟨a.block, a.off + j, none⟩ = some v := by
      intro k
      induction k with
      | zero => intro _; exact ⟨[], rfl, by simp, by simp, fun h => absurd rfl h, by simp⟩
      | succ k ih =>
        intro hk
        obtain ⟨ess, h1, h2, h3, h4, h5⟩ := ih (by omega)
        obtain ⟨es, y, g1, g2⟩ := hone k (by omega)
        obtain ⟨_, hl1, hat⟩ := World.cells?_some g1
        have hspot : a.spot = none := hsp0 (by omega)
        refine ⟨ess ++ [es], by simp [h1], fun u hu => ?_, ?_, fun _ => hspot, fun j v hv => ?_⟩
        · rcases List.mem_append.1 hu with hu | hu
          · exact h2 u hu
          · obtain rfl := List.mem_singleton.1 hu; exact ⟨n, y, g2⟩
        · rw [List.flatten_append, List.length_append, h3]; simp [hl1]; rw [Nat.add_mul]; omega
        · rw [List.flatten_append] at hv
          by_cases hj : j < ess.flatten.length
          · rw [List.getElem?_append_left hj] at hv; exact h5 j v hv
          · rw [List.getElem?_append_right (by omega)] at hv
            simp only [List.flatten_cons, List.flatten_nil, List.append_nil] at hv
            have hjl : j - ess.flatten.length < es.length := (List.getElem?_eq_some_iff.1 hv).1
            have := hat (j - ess.flatten.length) (by omega)
            rw [hv, hadd _ hspot] at this
            have e2 : (⟨a.block, a.off + k * P.cellsOf e, none⟩ : Addr).add (j - ess.flatten.length) = ⟨a.block, a.off + j, none⟩ := by
              unfold Addr.add; split
              · rename_i h0; simp only [Addr.mk.injEq, true_and, and_true]; omega
              · simp only [Addr.mk.injEq, true_and, and_true]; omega
            rw [e2] at this
            exact this
    obtain ⟨ess, h1, h2, h3, h4, h5⟩ := hcell len (Nat.le_refl _)
    subst h1
    refine ⟨some a, cap, ess, rfl, by omega, ⟨h3, _, _, rfl, fun hn => ⟨a.block, a.off, ?_, ?_⟩⟩, h2⟩
    · have := h4 hn
      obtain ⟨b, o, sp⟩ := a
      simp only at this
      subst this
      rfl
    · rw [← h3]
      generalize ess.flatten = vs at h5
      have key : ∀ (vs : List Value) (o : Nat), (∀ j v, vs[j]? = some v → w.cell? ⟨a.block, o + j, none⟩ = some v) → CA (fun k => w.cell? ⟨a.block, k, none⟩) o vs.length vs := by
        intro vs
        induction vs with
        | nil => intro o _; exact .nil
        | cons v vs ih => intro o hv; exact .cons (hv 0 v rfl) (ih (o + 1) fun j u hu => by rw [Nat.add_assoc, Nat.add_comm 1 j]; exact hv (j + 1) u hu)
      exact key vs a.off h5
theorem exists_map {α β : Type} {f : α → β} {q : α → Prop} : ∀ (l : List β), (∀ y ∈ l, ∃ x, y = f x ∧ q x) → ∃ xs : List α, l = xs.map f ∧ ∀ x ∈ xs, q x
  | [], _ => ⟨[], rfl, by simp⟩
  | y :: l, h => by
    obtain ⟨x, rfl, hq⟩ := h y List.mem_cons_self
    obtain ⟨xs, rfl, hxs⟩ := exists_map l (fun z hz => h z (List.mem_cons_of_mem _ hz))
    exact ⟨x :: xs, rfl, fun z hz => by rcases List.mem_cons.1 hz with rfl | hz; exact hq; exact hxs z hz⟩
theorem flatten_map_one {α : Type} (f : α → Value) (xs : List α) : (xs.map fun x => [f x]).flatten = xs.map f := by
  induction xs with
  | nil => rfl
  | cons x xs ih => simp [ih]
/-- A slice of integers of one kind. -/
theorem ints_reads {t e : TypeId} {k : IntKind} {fuel : Nat} {cs : List Value} {x : DataW H × List MemPlace} (ht : P.underlying t = some (.slice e)) (he : P.underlying e = some (.int k)) (hc : P.cellsOf e = 1) (h : DataW.trod enc P w base spare held fuel t cs = some x) :
    ∃ sl, ∃ xs : List Int, cs = [sl] ∧ xs.length ≤ maxLen ∧ Reads w sl 1 xs.length (xs.map (Value.int k)) ∧ ∀ n ∈ xs, (Lit.int k n).wf = true := by
  obtain ⟨ad, cap, ess, rfl, hm, hr, hes⟩ := slice_reads ht (by omega) h
  obtain ⟨xs, rfl, hxs⟩ := exists_map (f := fun n : Int => [Value.int k n]) (q := fun n => (Lit.int k n).wf = true) ess (fun es h => by
    obtain ⟨m, y, hy⟩ := hes es h
    obtain ⟨n, rfl, _, hw⟩ := DataW.trod_int he hy
    exact ⟨n, rfl, hw⟩)
  rw [flatten_map_one, hc] at hr
  simp only [List.length_map] at hr hm
  exact ⟨_, xs, by simp, hm, hr, hxs⟩
/-- The fields of a struct. -/
theorem fields_reads {t : TypeId} {fs : Array Field} {fuel : Nat} {cs : List Value} {x : DataW H × List MemPlace} (ht : P.underlying t = some (.struct fs)) (h : DataW.trod enc P w base spare held fuel t cs = some x) :
    cs.length = P.cellsOf t ∧ ∀ (i : Nat) (f : Field), fs[i]? = some f → ∃ m y, DataW.trod enc P w base spare held m f.type ((cs.drop f.offset).take (P.cellsOf f.type)) = some y := by
  obtain ⟨xs, n, _, _, hl, hx, hf⟩ := DataW.trod_struct ht h
  refine ⟨hl, fun i f hi => ?_⟩
  have := hf i f hi
  have hlt : i < fs.size := (Array.getElem?_eq_some_iff.1 hi).1
  rw [List.getElem?_eq_getElem (by omega)] at this
  exact ⟨n, _, this⟩
def flds (enc : TypeId × Value → H) (P : Program) (w : World) (base : Nat) (spare : Nat → Bool) (held : Bool) (cs : List Value) : List Field → Prop
  | [] => True
  | f :: fs => (∃ m y, DataW.trod enc P w base spare held m f.type ((cs.drop f.offset).take (P.cellsOf f.type)) = some y) ∧ flds enc P w base spare held cs fs
theorem fields_list {t : TypeId} {l : List Field} {fuel : Nat} {cs : List Value} {x : DataW H × List MemPlace} (ht : P.underlying t = some (.struct l.toArray)) (h : DataW.trod enc P w base spare held fuel t cs = some x) :
    cs.length = P.cellsOf t ∧ flds enc P w base spare held cs l := by
  obtain ⟨hl, hf⟩ := fields_reads ht h
  refine ⟨hl, ?_⟩
  have key : ∀ l' : List Field, (∀ f ∈ l', f ∈ l) → flds enc P w base spare held cs l' := by
    intro l'
    induction l' with
    | nil => intro _; trivial
    | cons f fs ih =>
      intro hm
      obtain ⟨i, hi, e⟩ := List.getElem_of_mem (hm f List.mem_cons_self)
      exact ⟨hf i f (by simp [hi, e]), ih fun g hg => hm g (List.mem_cons_of_mem _ hg)⟩
  exact key l fun _ h => h
end
end Go.Sp
/-
  What the arguments of this seat's laws read as.
-/
namespace Go.Sp
open Go Go.Proofs Go.ChangeShapes Go.WideShapes Go.RowKit
theorem laidTryz : laidOutB Tryz.prog = true := by kernel_rfl
theorem cells_3 : Tryz.prog.cellsOf 3 = 1 := by kernel_rfl
theorem cells_22 : Tryz.prog.cellsOf 22 = 1 := by kernel_rfl
theorem cells_24 : Tryz.prog.cellsOf 24 = 6 := by kernel_rfl
theorem cells_57 : Tryz.prog.cellsOf 57 = 2 := by kernel_rfl
theorem wf64 {n : Int} (h : (Lit.int .i64 n).wf = true) : -9223372036854775808 ≤ n ∧ n ≤ 9223372036854775807 := by
  simpa [Lit.wf, IntKind.min, IntKind.max, IntKind.signed, IntKind.bits] using h
theorem wf16 {n : Int} (h : (Lit.int .u16 n).wf = true) : 0 ≤ n ∧ n ≤ 65535 := by
  simpa [Lit.wf, IntKind.min, IntKind.max, IntKind.signed, IntKind.bits] using h
theorem wf8 {n : Int} (h : (Lit.int .u8 n).wf = true) : 0 ≤ n ∧ n ≤ 255 := by
  simpa [Lit.wf, IntKind.min, IntKind.max, IntKind.signed, IntKind.bits] using h
theorem six {α : Type} {l : List α} (h : l.length = 6) : ∃ a b c d e f, l = [a, b, c, d, e, f] := by
  match l, h with
  | [a, b, c, d, e, f], _ => exact ⟨a, b, c, d, e, f, rfl⟩
theorem two' {α : Type} {l : List α} (h : l.length = 2) : ∃ a b, l = [a, b] := by
  match l, h with
  | [a, b], _ => exact ⟨a, b, rfl⟩
section
variable {H : Type} {enc : TypeId × Value → H} {w : World} {base : Nat} {spare : Nat → Bool} {held : Bool}
abbrev Bd (n : Int) : Prop := -9223372036854775808 ≤ n ∧ n ≤ 9223372036854775807
theorem sn_reads {fuel : Nat} {cs : List Value} {x : DataW H × List MemPlace} (h : DataW.trod enc Tryz.prog w base spare held fuel 24 cs = some x) :
    ∃ (s : Sn) (sl : Value), cs = [vi s.mass, vi s.volume, vi s.step, vi s.divisions, vi s.width, sl] ∧ RdI w sl s.weights ∧ s.weights.length ≤ maxLen := by
  obtain ⟨hl, hf⟩ := fields_list Tryz.underlying24 h
  rw [cells_24] at hl
  obtain ⟨c0, c1, c2, c3, c4, c5, rfl⟩ := six hl
  obtain ⟨⟨_, _, f0⟩, ⟨_, _, f1⟩, ⟨_, _, f2⟩, ⟨_, _, f3⟩, ⟨_, _, f4⟩, ⟨_, _, f5⟩, _⟩ := hf
  rw [cells_3] at f0 f1 f2 f3 f4
  rw [cells_22] at f5
  obtain ⟨n0, e0, _, _⟩ := DataW.trod_int Tryz.underlying3 f0
  obtain ⟨n1, e1, _, _⟩ := DataW.trod_int Tryz.underlying3 f1
  obtain ⟨n2, e2, _, _⟩ := DataW.trod_int Tryz.underlying3 f2
  obtain ⟨n3, e3, _, _⟩ := DataW.trod_int Tryz.underlying3 f3
  obtain ⟨n4, e4, _, _⟩ := DataW.trod_int Tryz.underlying3 f4
  obtain ⟨sl, xs, e5, hm, hr, _⟩ := ints_reads Tryz.underlying22 Tryz.underlying3 cells_3 f5
  simp at e0 e1 e2 e3 e4 e5
  subst e0; subst e1; subst e2; subst e3; subst e4; subst e5
  exact ⟨⟨n0, n1, n2, n3, n4, xs⟩, _, rfl, hr, hm⟩
theorem pair_reads {t : TypeId} {f0 f1 : Field} (ht : Tryz.prog.underlying t = some (.struct #[f0, f1])) (hc : Tryz.prog.cellsOf t = 2) (h0 : f0.type = 3) (h1 : f1.type = 3) (o0 : f0.offset = 0) (o1 : f1.offset = 1) {fuel : Nat} {cs : List Value} {x : DataW H × List MemPlace} (h : DataW.trod enc Tryz.prog w base spare held fuel t cs = some x) :
    ∃ r : Int × Int, cs = [vi r.1, vi r.2] ∧ Bd r.1 ∧ Bd r.2 := by
  obtain ⟨hl, hf⟩ := fields_list (l := [f0, f1]) ht h
  rw [hc] at hl
  obtain ⟨c0, c1, rfl⟩ := two' hl
  obtain ⟨⟨_, _, g0⟩, ⟨_, _, g1⟩, _⟩ := hf
  rw [h0, o0, cells_3] at g0
  rw [h1, o1, cells_3] at g1
  obtain ⟨n0, e0, _, w0⟩ := DataW.trod_int Tryz.underlying3 g0
  obtain ⟨n1, e1, _, w1⟩ := DataW.trod_int Tryz.underlying3 g1
  simp at e0 e1
  subst e0; subst e1
  exact ⟨(n0, n1), rfl, wf64 w0, wf64 w1⟩
theorem flat_map (xs : List (Int × Int)) : (xs.map fun r => [vi r.1, vi r.2]).flatten = flatR xs := by
  induction xs with
  | nil => rfl
  | cons x xs ih => simp [ih, flatR]
end
end Go.Sp
/-
  What a trial reads as.
-/
namespace Go.Sp
open Go Go.Proofs Go.ChangeShapes Go.WideShapes Go.RowKit
theorem cells_72 : Tryz.prog.cellsOf 72 = 3 := by kernel_rfl
theorem cells_25 : Tryz.prog.cellsOf 25 = 1 := by kernel_rfl
theorem cells_26 : Tryz.prog.cellsOf 26 = 1 := by kernel_rfl
theorem cells_28 : Tryz.prog.cellsOf 28 = 10 := by kernel_rfl
theorem three' {α : Type} {l : List α} (h : l.length = 3) : ∃ a b c, l = [a, b, c] := by
  match l, h with
  | [a, b, c], _ => exact ⟨a, b, c, rfl⟩
theorem ten' {α : Type} {l : List α} (h : l.length = 10) : ∃ a b c d e f g i j k, l = [a, b, c, d, e, f, g, i, j, k] := by
  match l, h with
  | [a, b, c, d, e, f, g, i, j, k], _ => exact ⟨a, b, c, d, e, f, g, i, j, k, rfl⟩
section
variable {H : Type} {enc : TypeId × Value → H} {w : World} {base : Nat} {spare : Nat → Bool} {held : Bool}
theorem rgs_reads {fuel : Nat} {cs : List Value} {x : DataW H × List MemPlace} (h : DataW.trod enc Tryz.prog w base spare held fuel 25 cs = some x) :
    ∃ (sl : Value) (l : List (Int × Int)), cs = [sl] ∧ RdR w sl l ∧ l.length ≤ maxLen ∧ ∀ r ∈ l, Bd r.1 ∧ Bd r.2 := by
  obtain ⟨ad, cap, ess, rfl, hm, hr, hes⟩ := slice_reads Tryz.underlying25 (by rw [cells_57]; decide) h
  obtain ⟨xs, rfl, hxs⟩ := exists_map (f := fun r : Int × Int => [vi r.1, vi r.2]) (q := fun r => Bd r.1 ∧ Bd r.2) ess (fun es h => by
    obtain ⟨m, y, hy⟩ := hes es h
    obtain ⟨r, e, hb⟩ := pair_reads Tryz.underlying57 cells_57 rfl rfl rfl rfl hy
    exact ⟨r, e, hb⟩)
  rw [flat_map, cells_57] at hr
  simp only [List.length_map] at hr hm
  exact ⟨_, xs, by simp, hr, hm, hxs⟩
theorem test_reads {fuel : Nat} {cs : List Value} {x : DataW H × List MemPlace} (h : DataW.trod enc Tryz.prog w base spare held fuel 72 cs = some x) :
    ∃ r : Int × Int × Int, cs = [vi r.1, vi r.2.1, vi r.2.2] ∧ Bd r.1 ∧ Bd r.2.1 ∧ Bd r.2.2 := by
  obtain ⟨hl, hf⟩ := fields_list Tryz.underlying72 h
  rw [cells_72] at hl
  obtain ⟨c0, c1, c2, rfl⟩ := three' hl
  obtain ⟨⟨_, _, f0⟩, ⟨_, _, f1⟩, ⟨_, _, f2⟩, _⟩ := hf
  rw [cells_3] at f0 f1 f2
  obtain ⟨n0, e0, _, w0⟩ := DataW.trod_int Tryz.underlying3 f0
  obtain ⟨n1, e1, _, w1⟩ := DataW.trod_int Tryz.underlying3 f1
  obtain ⟨n2, e2, _, w2⟩ := DataW.trod_int Tryz.underlying3 f2
  simp at e0 e1 e2
  subst e0; subst e1; subst e2
  exact ⟨(n0, n1, n2), rfl, wf64 w0, wf64 w1, wf64 w2⟩
theorem flat_mapT (xs : List (Int × Int × Int)) : (xs.map fun r => [vi r.1, vi r.2.1, vi r.2.2]).flatten = flatT xs := by
  induction xs with
  | nil => rfl
  | cons x xs ih => simp [ih, flatT]
theorem tests_reads {fuel : Nat} {cs : List Value} {x : DataW H × List MemPlace} (h : DataW.trod enc Tryz.prog w base spare held fuel 26 cs = some x) :
    ∃ (sl : Value) (l : List (Int × Int × Int)), cs = [sl] ∧ RdT w sl l ∧ l.length ≤ maxLen := by
  obtain ⟨ad, cap, ess, rfl, hm, hr, hes⟩ := slice_reads Tryz.underlying26 (by rw [cells_72]; decide) h
  obtain ⟨xs, rfl, hxs⟩ := exists_map (f := fun r : Int × Int × Int => [vi r.1, vi r.2.1, vi r.2.2]) (q := fun r => True) ess (fun es h => by
    obtain ⟨m, y, hy⟩ := hes es h
    obtain ⟨r, e, hb⟩ := test_reads hy
    exact ⟨r, e, trivial⟩)
  rw [flat_mapT, cells_72] at hr
  simp only [List.length_map] at hr hm
  exact ⟨_, xs, by simp, hr, hm⟩
theorem tr_reads {fuel : Nat} {cs : List Value} {x : DataW H × List MemPlace} (h : DataW.trod enc Tryz.prog w base spare held fuel 28 cs = some x) :
    ∃ (t : Tr) (sl pl ll tl : Value), cs = [vi t.s.mass, vi t.s.volume, vi t.s.step, vi t.s.divisions, vi t.s.width, sl, pl, vi t.worst, ll, tl] ∧ RdTr w t sl pl ll tl := by
  obtain ⟨hl, hf⟩ := fields_list Tryz.underlying28 h
  rw [cells_28] at hl
  obtain ⟨c0, c1, c2, c3, c4, c5, c6, c7, c8, c9, rfl⟩ := ten' hl
  obtain ⟨⟨_, _, f0⟩, ⟨_, _, f1⟩, ⟨_, _, f2⟩, ⟨_, _, f3⟩, ⟨_, _, f4⟩, _⟩ := hf
  rw [cells_24] at f0
  rw [cells_22] at f1
  rw [cells_3] at f2
  rw [cells_25] at f3
  rw [cells_26] at f4
  obtain ⟨s, sl, e0, hrs, _⟩ := sn_reads f0
  obtain ⟨pl, ps, e1, _, hrp, _⟩ := ints_reads Tryz.underlying22 Tryz.underlying3 cells_3 f1
  obtain ⟨n2, e2, _, _⟩ := DataW.trod_int Tryz.underlying3 f2
  obtain ⟨ll, l, e3, hrl, _, _⟩ := rgs_reads f3
  obtain ⟨tl, ts, e4, hrt, _⟩ := tests_reads f4
  simp at e0 e1 e2 e3 e4
  obtain ⟨rfl, rfl, rfl, rfl, rfl, rfl⟩ := e0
  subst e1; subst e2; subst e3; subst e4
  exact ⟨⟨s, ps, n2, l, ts⟩, _, _, _, _, rfl, hrs, hrp, hrl, hrt⟩
end
end Go.Sp
