/-
  TopFloated: the law's function returns true.
-/
import Derived.Test.YtaoohjefbfmhnaaXs
import Derived.Test.YtaoohjefbfmhnaaXu
import Derived.Test.YtaoohjefbfmhnaaXv
import Derived.Test.YtaoohjefbfmhnaaXw
set_option linter.unusedVariables false
set_option linter.unusedSimpArgs false
set_option linter.deprecated false
namespace Go.Sp
open Go Go.Proofs
theorem flt_succ {l : List (Int × Int)} {n : Nat} (h : n < l.length) : flatT ((l.take (n + 1)).map fun x => ((0 : Int), x.1, x.2)) = flatT ((l.take n).map fun x => ((0 : Int), x.1, x.2)) ++ flatT [(0, (l.getD n (0, 0)).1, (l.getD n (0, 0)).2)] := by
  rw [take_succ' h, List.map_append, flatT_append]; rfl
theorem narrow2_v (s : Sn) (hn : NB s) (l : List (Int × Int)) (hl : (l.length : Int) ≤ 9000000000000000000) {n1 n2 f : Int} (hE : narrowE s l = ((n1, n2), f)) (sl lv : Value) (w : World) (hr : RdI w sl s.weights) (hR : RdR w lv l) :
    CnV Try.prog 8 #[spV s sl, lv] w (.tuple #[.agg #[vi n1, vi n2], vi f]) := narrow_v s hn l hl hE sl lv w hr hR
theorem densOne {s : Sn} {r q : Int × Int} {l : List (Int × Int)} (hn : NT (oneT s r l)) (he : askedE (oneT s r l) = 0) (hd : densR (oneT s r l) 1 = [q]) (sl pl ll tl : Value) (w : World) (hr : RdTr w (oneT s r l) sl pl ll tl) :
    CnX Try.prog 11 #[trV (oneT s r l) sl pl ll tl] w [] (fun y : Option Addr × Nat => .tuple #[slV 1 y, vi 0]) (fun y w' => RdR w' (slV 1 y) [q]) := by
  have h := densities_ok _ hn he sl pl ll tl w hr
  rw [show densR (oneT s r l) (oneT s r l).liquids.length = [q] from hd] at h
  exact h
theorem dens11 (t : Tr) (hn : NT t) (he : askedE t = 11) (sl pl ll tl : Value) (w : World) (hr : RdTr w t sl pl ll tl) : CnV Try.prog 11 #[trV t sl pl ll tl] w (.tuple #[.slice none 0 0, vi 11]) := by
  have h := densities_no t hn (by omega) sl pl ll tl w hr
  rw [he] at h; exact h
theorem leaveT_sl (t : Tr) (hv : VT t) (sl pl ll tl : Value) (w : World) (hr : RdTr w t sl pl ll tl) :
    CnX Try.prog 14 #[trV t sl pl ll tl] w [] (fun x : Option Addr × Nat => .tuple #[slV (leaveTL t).length x, vi 0]) (fun x w' => RdI w' (slV (leaveTL t).length x) (leaveTL t)) :=
  (leaveT_ok t hv sl pl ll tl w hr).sliced
abbrev flO (s : Sn) (sl pl ll tl : Value) : Obj := .cells #[vi s.mass, vi s.volume, vi s.step, vi s.divisions, vi s.width, sl, pl, vi 0, ll, tl] 35 (0, 0)
set_option maxHeartbeats 4000000 in
theorem topfl_c (s : Sn) (l : List (Int × Int)) (hll : (l.length : Int) ≤ 9223372036854775807) (dn un : Int) (hdn : 0 ≤ dn ∧ dn ≤ 65535) (hun : 0 ≤ un ∧ un ≤ 65535) (sl lv : Value) (w : World) (hr : RdI w sl s.weights) (hR : RdR w lv l) : CnV Try.prog 3 #[spV s sl, lv, v16 dn, v16 un] w (.bool true) := by
  have hr0 := hr
  have hR0 := hR
  obtain ⟨ad, cap, b0, o, rfl, _, _⟩ := hr.open
  obtain ⟨ad2, cap2, b02, o2, rfl, had, hcell⟩ := hR.open
  obtain ⟨r1, hr1⟩ : ∃ r, r = 1 + dn % 2000 := ⟨_, rfl⟩
  obtain ⟨r2, hr2⟩ : ∃ r, r = min 2000 (r1 + un % 41) := ⟨_, rfl⟩
  have hrb : 1 ≤ r1 ∧ r1 ≤ r2 ∧ r2 ≤ 2000 := by omega
  rcases hN : narrowE s l with ⟨⟨n1, n2⟩, e⟩
  rcases hL : leaveE s l with ⟨x, g⟩
  have hcase := fun (h1 : ∀ x ∈ l, 0 ≤ x.2) (h2 : chkT (oneT s (r1, r2) l) = 0) => floated_plain h1 (r := (r1, r2)) hrb h2 hN hL
  refine cnv (vs := [_, _, _, _]) Try.func3 rfl rfl ?_
  all_goals refine tc_seq fun K1 hK1 => ?_
  all_goals refine tc_region ?_
  all_goals refine tl_e (e_box rfl rfl rfl) rfl (fun b4 _ => ?_)
  all_goals refine tl_q (y_assign rfl) rfl ?_
  all_goals refine tl_nil ?_
  all_goals (refine hK1 ?_; try (clear hK1; clear K1))
  all_goals refine tc_seq fun K2 hK2 => ?_
  all_goals refine tc_seq fun K3 hK3 => ?_
  all_goals refine tc_lay ([]) (SB.s (by repeat constructor)) (fun wl1 hl1 => ?_)
  all_goals refine tc_region ?_
  all_goals (refine tl_q (y_loadWf rfl (hl1.at (by repeat constructor)) (MI.m (by repeat constructor)) (by simp) (by rfl)) rfl ?_)
  all_goals refine tl_e (e_callV rfl (.cons rfl .nil) (fun w' hw' => thin_c s _ w' (hr0.fr (hw'.fr (w0 := w) (S := []) (MI.m (by repeat constructor)))))) rfl (fun _ _ => ?_)
  all_goals (refine tl_q (y_not_dec rfl) rfl ?_)
  all_goals refine tl_q (y_move rfl) rfl ?_
  all_goals (refine tl_gs rfl rfl (fun hc => ?_) (fun hc => ?_) <;> (try simp only [decide_eq_true_eq, decide_eq_false_iff_not, Int.not_lt, Int.not_le, Bool.not_eq_true', Bool.not_eq_false', Decidable.not_not, not_true_eq_false] at hc) <;> (first | refine tl_sk rfl rfl rfl rfl ?_ | refine tl_qg rfl rfl (y_loadWf rfl (hl1.at (by repeat constructor)) (MI.m (by repeat constructor)) (by simp) (by rfl)) rfl ?_))
  all_goals (first | refine tl_sk rfl rfl rfl rfl ?_ | refine tl_eg rfl rfl rfl (e_callV rfl (.cons rfl .nil) (fun w' hw' => fault_c s (nb9 (by omega)) _ w' (hr0.fr (hw'.fr (w0 := w) (S := []) (MI.m (by repeat constructor)))))) (fun _ _ => ?_))
  all_goals (first | refine tl_sk rfl rfl rfl rfl ?_ | refine tl_qg rfl rfl (y_neq rfl rfl) rfl ?_)
  all_goals (first | refine tl_q (y_pick_t rfl rfl) rfl ?_ | refine tl_q (y_pick_f rfl rfl) rfl ?_)
  all_goals refine tl_q (y_move rfl) rfl ?_
  all_goals (first | refine tl_sk rfl rfl rfl rfl ?_ | (refine tl_gs rfl rfl (fun hc => ?_) (fun hc => ?_) <;> (try simp only [decide_eq_true_eq, decide_eq_false_iff_not, Int.not_lt, Int.not_le, Bool.not_eq_true', Bool.not_eq_false', Decidable.not_not, not_true_eq_false] at hc) <;> (first | refine tl_sk rfl rfl rfl rfl ?_ | refine tl_qg rfl rfl (y_move rfl) rfl ?_)))
  all_goals (first | refine tl_sk rfl rfl rfl rfl ?_ | refine tl_qg rfl rfl (y_len rfl) rfl ?_)
  all_goals (first | refine tl_sk rfl rfl rfl rfl ?_ | refine tl_qg rfl rfl (y_gtr rfl rfl) rfl ?_)
  all_goals (first | refine tl_q (y_pick_t rfl rfl) rfl ?_ | refine tl_q (y_pick_f rfl rfl) rfl ?_)
  all_goals refine tl_nil ?_
  all_goals (refine hK3 ?_; try (clear hK3; clear K3))
  all_goals (
   refine tc_cond rfl (fun hc => ?_) (fun hc => ?_)
   · try simp only [decide_eq_true_eq, decide_eq_false_iff_not, Int.not_lt, Int.not_le, Bool.not_eq_true', Bool.not_eq_false', Decidable.not_not, not_true_eq_false] at hc
     all_goals first | (exfalso; with_reducible exact bft hc) | (exfalso; with_reducible exact btf hc) | (exfalso; omega) | skip
     all_goals refine tc_seq fun K4 hK4 => ?_
     all_goals refine tc_lay ([]) (SB.s (by repeat constructor)) (fun wl2 hl2 => ?_)
     all_goals refine tc_region ?_
     all_goals refine tl_e (e_callV rfl .nil (fun w' _ => floated_c w')) rfl (fun _ _ => ?_)
     all_goals refine tl_q (y_assign rfl) rfl ?_
     all_goals refine tl_nil ?_
     all_goals (refine hK4 ?_; try (clear hK4; clear K4))
     all_goals refine tc_ret ?_
     all_goals (repeat (refine tk_then_ret ?_))
     all_goals first | refine tk_ret rfl rfl (.cons (.tmp rfl) .nil) ?_ | refine tk_retM rfl (by repeat constructor) rfl (.cons (.tmp rfl) .nil) ?_
     all_goals (
      first | exact fun w' hw' => ⟨rfl, hw'.fr (w0 := w) (S := []) (MI.m (by repeat constructor))⟩ | exact absurd ⟨trivial, trivial⟩ hc)
   · try simp only [decide_eq_true_eq, decide_eq_false_iff_not, Int.not_lt, Int.not_le, Bool.not_eq_true', Bool.not_eq_false', Decidable.not_not, not_true_eq_false] at hc
     all_goals first | (exfalso; with_reducible exact bft hc) | (exfalso; with_reducible exact btf hc) | (exfalso; omega) | skip
     all_goals refine tc_skip ?_
     all_goals (refine hK2 ?_; try (clear hK2; clear K2))
     all_goals refine tc_seq fun K5 hK5 => ?_
     all_goals refine tc_lay ([]) (SB.s (by repeat constructor)) (fun wl3 hl3 => ?_)
     all_goals (have hs : VS s := chkF_valid.1 (by omega))
     all_goals (have hlen6 : (l.length : Int) ≤ 6 := by omega)
     all_goals refine tc_region ?_
     all_goals refine tl_q (y_move rfl) rfl ?_
     all_goals (refine tl_q (y_conv64 rfl (by omega)) rfl ?_)
     all_goals refine tl_q (y_rem rfl rfl (by omega) (by omega)) rfl ?_
     all_goals refine tl_q (y_add rfl rfl (by omega)) rfl ?_
     all_goals (refine tl_q (y_build_g (by repeat constructor)) rfl ?_)
     all_goals refine tl_e (e_allocN rfl) rfl (fun b9 _ => ?_)
     all_goals refine tl_e (e_storeW rfl rfl (by repeat constructor) (by rfl) (by rfl) (by simp [Value.oneCell'])) rfl (fun _ _ => ?_)
     all_goals refine tl_nil ?_
     all_goals (refine hK5 ?_; try (clear hK5; clear K5))
     all_goals refine tc_seq fun K6 hK6 => ?_
     all_goals rw [← hr1]
     all_goals refine tc_region ?_
     all_goals refine tl_q (y_field rfl) rfl ?_
     all_goals (refine tl_q (y_load1 rfl (by repeat constructor) (by rfl)) rfl ?_)
     all_goals refine tl_q (y_move rfl) rfl ?_
     all_goals (refine tl_q (y_conv64 rfl (by omega)) rfl ?_)
     all_goals refine tl_q (y_rem rfl rfl (by omega) (by omega)) rfl ?_
     all_goals refine tl_q (y_add rfl rfl (by omega)) rfl ?_
     all_goals refine tl_q (y_min rfl rfl) rfl ?_
     all_goals refine tl_q (y_field rfl) rfl ?_
     all_goals refine tl_e (e_store1 rfl rfl (by repeat constructor) (by repeat constructor) (by rfl) (by rfl)) rfl (fun _ _ => ?_)
     all_goals refine tl_nil ?_
     all_goals (refine hK6 ?_; try (clear hK6; clear K6))
     all_goals refine tc_seq fun K7 hK7 => ?_
     all_goals refine tc_lay ([]) (SB.s (by repeat constructor)) (fun wl5 hl5 => ?_)
     all_goals (try rw [← hr2])
     all_goals rw [← hr2] at hl5
     all_goals refine tc_region ?_
     all_goals (refine tl_q (y_loadWf rfl (hl1.at (by repeat constructor)) (MI.m (by repeat constructor)) (by simp) (by rfl)) rfl ?_)
     all_goals (refine tl_e (e_bslice rfl (by (repeat (first | exact .nil | apply PV.one rfl rfl)); done) rfl rfl) rfl (fun bp _ => ?_))
     all_goals (refine tl_q (y_loadWf rfl (hl5.at (by repeat constructor)) (MI.m (by repeat constructor)) (by simp) (by rfl)) rfl ?_)
     all_goals (refine tl_e (e_bslice rfl (by (repeat (first | exact .nil | apply PV.two rfl)); done) rfl rfl) rfl (fun bl _ => ?_))
     all_goals refine tl_q (y_build_g (by repeat constructor)) rfl ?_
     all_goals refine tl_e (e_allocN rfl) rfl (fun b10 _ => ?_)
     all_goals refine tl_e (e_storeW rfl rfl (by repeat constructor) (by rfl) (by rfl) (by simp [Value.oneCell'])) rfl (fun _ _ => ?_)
     all_goals refine tl_nil ?_
     all_goals (refine hK7 ?_; try (clear hK7; clear K7))
     all_goals (
      refine tc_join (fun z : World × (Option Addr × Nat) => (∀ x ∈ l, 0 ≤ x.2) ∧ RdTr z.1 (oneT s (r1, r2) l) (.slice ad s.weights.length cap) (.slice (some ⟨bp, 0, none⟩) 1 1) (.slice (some ⟨bl, 0, none⟩) 1 1) (slV l.length z.2) ∧ z.1.heap[b10]? = some (flO s (.slice ad s.weights.length cap) (.slice (some ⟨bp, 0, none⟩) 1 1) (.slice (some ⟨bl, 0, none⟩) 1 1) (slV l.length z.2)) ∧ z.1.heap[b9]? = some (.cells #[vi r1, vi r2] 31 (0, 0))) (fun z => [(1, .slice ad2 l.length cap2), (4, ptr b4), (9, ptr b9), (10, ptr b10)]) (fun z => [(z.1, []), (wl1, []), (w, [])]) (fun _ => []) ?_ ?_
      · skip
        all_goals refine tc_seq fun K8 hK8 => ?_
        all_goals refine tc_lay ([(b10, flO s (.slice ad s.weights.length cap) (.slice (some ⟨bp, 0, none⟩) 1 1) (.slice (some ⟨bl, 0, none⟩) 1 1) (.slice none 0 0))]) (SB.s (by repeat constructor)) (fun wl6 hl6 => ?_)
        all_goals refine tc_region ?_
        all_goals refine tl_q (y_assign rfl) rfl ?_
        all_goals refine tl_nil ?_
        all_goals (refine hK8 ?_; try (clear hK8; clear K8))
        all_goals refine tc_block ?_
        all_goals (
         refine tc_loop (fun p : Nat × Option (Nat × Nat × List Value) => p.1 ≤ l.length ∧ outOkT (p.1, p.2) ∧ ∀ j : Nat, j < p.1 → 0 ≤ (l.getD j (0, 0)).2) (fun p => [(1, .slice ad2 l.length cap2), (4, ptr b4), (9, ptr b9), (10, ptr b10), (11, vi p.1)]) (fun _ => [(wl6, [b10]), (wl1, []), (w, [])]) (fun p => match p.2 with | none => [(b10, flO s (.slice ad s.weights.length cap) (.slice (some ⟨bp, 0, none⟩) 1 1) (.slice (some ⟨bl, 0, none⟩) 1 1) (.slice none 0 0))] | some (bo, bcap, junk) => [(bo, .cells (flatT ((l.take p.1).map fun x => ((0 : Int), x.1, x.2)) ++ junk).toArray 39 (0, 0)), (b10, flO s (.slice ad s.weights.length cap) (.slice (some ⟨bp, 0, none⟩) 1 1) (.slice (some ⟨bl, 0, none⟩) 1 1) (.slice (some ⟨bo, 0, none⟩) p.1 bcap))]) (fun p => l.length - p.1) ?_ ?_
         · exact tk_start (0, none) ⟨Nat.zero_le _, rfl, fun j hj => absurd hj (Nat.not_lt_zero j)⟩ (.cons rfl (.cons rfl (.cons rfl (.cons rfl (.cons rfl .nil))))) (fun _ h => h.subl (SB.s (by repeat constructor)) (SB.s (by repeat constructor)))
         · rintro ⟨n, oo⟩ ⟨hn, hok, hps⟩
           rcases oo with _ | ⟨bo, bcap, junk⟩
           all_goals dsimp only [outOkT] at hn hok hps ⊢
           all_goals refine tc_seq fun K9 hK9 => ?_
           all_goals refine tc_seq fun K10 hK10 => ?_
           all_goals refine tc_region ?_
           all_goals refine tl_q (y_move rfl) rfl ?_
           all_goals refine tl_q (y_move rfl) rfl ?_
           all_goals refine tl_q (y_len rfl) rfl ?_
           all_goals refine tl_q (y_lss rfl rfl) rfl ?_
           all_goals refine tl_nil ?_
           all_goals (refine hK10 ?_; try (clear hK10; clear K10))
           all_goals (
            refine tc_cond rfl (fun hc => ?_) (fun hc => ?_)
            · try simp only [decide_eq_true_eq, decide_eq_false_iff_not, Int.not_lt, Int.not_le, Bool.not_eq_true', Bool.not_eq_false', Decidable.not_not, not_true_eq_false] at hc
              all_goals first | (exfalso; with_reducible exact bft hc) | (exfalso; with_reducible exact btf hc) | (exfalso; omega) | skip
              all_goals refine tc_skip ?_
              all_goals (refine hK9 ?_; try (clear hK9; clear K9))
              all_goals refine tc_seq fun K11 hK11 => ?_
              all_goals refine tc_block ?_
              all_goals refine tc_seq fun K12 hK12 => ?_
              all_goals refine tc_seq fun K13 hK13 => ?_
              all_goals (have had' := had (by omega); have hlen : (flatT ((l.take n).map fun x => ((0 : Int), x.1, x.2))).length = n * 3 := by rw [flatT_len, List.length_map, List.length_take]; omega)
              all_goals (have hca : ∀ w', Fr [] w w' → w'.cell? ⟨b02, o2 + n * 2, none⟩ = some (vi (l.getD n (0, 0)).1) ∧ w'.cell? ⟨b02, o2 + n * 2 + 1, none⟩ = some (vi (l.getD n (0, 0)).2) := fun w' f => ⟨(hcell w' [] f (by simp) n (by omega)).get 0 _ rfl, (hcell w' [] f (by simp) n (by omega)).get 1 _ rfl⟩)
              all_goals refine tc_region ?_
              all_goals refine tl_q (y_move rfl) rfl ?_
              all_goals refine tl_q (y_move rfl) rfl ?_
              all_goals (refine tl_q (y_index rfl rfl (by omega) had') rfl ?_)
              all_goals refine tl_q (y_field rfl) rfl ?_
              all_goals (refine tl_q (y_load1o (v := vi (l.getD n (0, 0)).2) rfl (fun w' hw' => by rw [show o2 + Int.toNat (n : Int) * 2 + 1 = o2 + n * 2 + 1 from by omega]; exact (hca w' (hw'.fr (w0 := w) (S := []) (MI.m (by repeat constructor)))).2)) rfl ?_)
              all_goals refine tl_q (y_lss rfl rfl) rfl ?_
              all_goals refine tl_nil ?_
              all_goals (refine hK13 ?_; try (clear hK13; clear K13))
              all_goals (
               refine tc_cond rfl (fun hc => ?_) (fun hc => ?_)
               · try simp only [decide_eq_true_eq, decide_eq_false_iff_not, Int.not_lt, Int.not_le, Bool.not_eq_true', Bool.not_eq_false', Decidable.not_not, not_true_eq_false] at hc
                 all_goals first | (exfalso; with_reducible exact bft hc) | (exfalso; with_reducible exact btf hc) | (exfalso; omega) | skip
                 all_goals refine tc_seq fun K14 hK14 => ?_
                 all_goals refine tc_region ?_
                 all_goals refine tl_e (e_callV rfl .nil (fun w' _ => floated_c w')) rfl (fun _ _ => ?_)
                 all_goals refine tl_q (y_assign rfl) rfl ?_
                 all_goals refine tl_nil ?_
                 all_goals (refine hK14 ?_; try (clear hK14; clear K14))
                 all_goals refine tc_ret ?_
                 all_goals (repeat (first | refine tk_then_ret ?_ | refine tk_block_ret ?_))
                 all_goals first | refine tk_ret rfl rfl (.cons (.tmp rfl) .nil) ?_ | refine tk_retM rfl (by repeat constructor) rfl (.cons (.tmp rfl) .nil) ?_
                 all_goals (
                  first | exact fun w' hw' => ⟨rfl, hw'.fr (w0 := w) (S := []) (MI.m (by repeat constructor))⟩ | exact absurd ⟨trivial, trivial⟩ hc)
               · try simp only [decide_eq_true_eq, decide_eq_false_iff_not, Int.not_lt, Int.not_le, Bool.not_eq_true', Bool.not_eq_false', Decidable.not_not, not_true_eq_false] at hc
                 all_goals first | (exfalso; with_reducible exact bft hc) | (exfalso; with_reducible exact btf hc) | (exfalso; omega) | skip
                 all_goals refine tc_skip ?_
                 all_goals (refine hK12 ?_; try (clear hK12; clear K12))
                 all_goals refine tc_drawS (by first | exact [(b10, flO s (.slice ad s.weights.length cap) (.slice (some ⟨bp, 0, none⟩) 1 1) (.slice (some ⟨bl, 0, none⟩) 1 1) (.slice (some ⟨bo, 0, none⟩) n bcap))] | exact [(b10, flO s (.slice ad s.weights.length cap) (.slice (some ⟨bp, 0, none⟩) 1 1) (.slice (some ⟨bl, 0, none⟩) 1 1) (.slice none 0 0))]) (by kernel_rfl) ?_
                 all_goals refine tx_p 0 rfl (by kernel_rfl) (y_field rfl) rfl (fun _ _ _ h => h) (fun _ h => h.subl (SB.s (by repeat constructor)) (SB.s (by repeat constructor))) ?_
                 all_goals (refine tx_qS 1 rfl (by kernel_rfl) (y_load1 rfl (by repeat constructor) (by rfl)) rfl (fun _ _ _ h => h) (fun _ h => h.subl (SB.s (by repeat constructor)) (SB.s (by repeat constructor))) ?_)
                 all_goals refine tx_p 2 rfl (by kernel_rfl) (y_move rfl) rfl (fun _ _ _ h => h) (fun _ h => h.subl (SB.s (by repeat constructor)) (SB.s (by repeat constructor))) ?_
                 all_goals refine tx_p 3 rfl (by kernel_rfl) (y_move rfl) rfl (fun _ _ _ h => h) (fun _ h => h.subl (SB.s (by repeat constructor)) (SB.s (by repeat constructor))) ?_
                 all_goals (refine tx_p 4 rfl (by kernel_rfl) (y_index rfl rfl (by omega) had') rfl (fun _ _ _ h => h) (fun _ h => h.subl (SB.s (by repeat constructor)) (SB.s (by repeat constructor))) ?_)
                 all_goals refine tx_p 5 rfl (by kernel_rfl) (y_field rfl) rfl (fun _ _ _ h => h) (fun _ h => h.subl (SB.s (by repeat constructor)) (SB.s (by repeat constructor))) ?_
                 all_goals (refine tx_qS 6 rfl (by kernel_rfl) (y_load1o (v := vi (l.getD n (0, 0)).1) rfl (fun w' hw' => by rw [show o2 + Int.toNat (n : Int) * 2 + 0 = o2 + n * 2 from by omega]; exact (hca w' (hw'.fr (w0 := w) (S := []) (MI.m (by repeat constructor)))).1)) rfl (fun _ _ _ h => h) (fun _ h => h.subl (SB.s (by repeat constructor)) (SB.s (by repeat constructor))) ?_)
                 all_goals refine tx_p 7 rfl (by kernel_rfl) (y_move rfl) rfl (fun _ _ _ h => h) (fun _ h => h.subl (SB.s (by repeat constructor)) (SB.s (by repeat constructor))) ?_
                 all_goals refine tx_p 8 rfl (by kernel_rfl) (y_move rfl) rfl (fun _ _ _ h => h) (fun _ h => h.subl (SB.s (by repeat constructor)) (SB.s (by repeat constructor))) ?_
                 all_goals (refine tx_p 9 rfl (by kernel_rfl) (y_index rfl rfl (by omega) had') rfl (fun _ _ _ h => h) (fun _ h => h.subl (SB.s (by repeat constructor)) (SB.s (by repeat constructor))) ?_)
                 all_goals refine tx_p 10 rfl (by kernel_rfl) (y_field rfl) rfl (fun _ _ _ h => h) (fun _ h => h.subl (SB.s (by repeat constructor)) (SB.s (by repeat constructor))) ?_
                 all_goals (refine tx_qS 11 rfl (by kernel_rfl) (y_load1o (v := vi (l.getD n (0, 0)).2) rfl (fun w' hw' => by rw [show o2 + Int.toNat (n : Int) * 2 + 1 = o2 + n * 2 + 1 from by omega]; exact (hca w' (hw'.fr (w0 := w) (S := []) (MI.m (by repeat constructor)))).2)) rfl (fun _ _ _ h => h) (fun _ h => h.subl (SB.s (by repeat constructor)) (SB.s (by repeat constructor))) ?_)
                 all_goals (refine tx_p 12 rfl (by kernel_rfl) (y_build_g (by repeat constructor)) rfl (fun _ _ _ h => h) (fun _ h => h.subl (SB.s (by repeat constructor)) (SB.s (by repeat constructor))) ?_)
                 all_goals (refine tx_single 13 (by kernel_rfl) (to_e rfl rfl (e_bslice31 rfl rfl) (.inr ⟨fun _ _ h => h.subl (SB.s (by repeat constructor)) (SB.s (by repeat constructor)), fun _ h => h⟩) (fun _ _ => ?_)))
                 all_goals (first | refine tx_single 14 (by kernel_rfl) (to_e rfl rfl (e_append_own (old := flatT ((l.take n).map fun x => ((0 : Int), x.1, x.2))) (junk := junk) rfl rfl rfl (by repeat constructor) (by rw [hlen]) (by omega) hok.1 (fun w' hw' => RdT.own0 (xs := [(0, (l.getD n (0, 0)).1, (l.getD n (0, 0)).2)]) hw' (by repeat constructor)) (flatT_one _) (by simp only [List.length_cons, List.length_nil]; omega) rfl) (.inr ⟨fun _ _ h => h.subl (SB.s (by repeat constructor)) (SB.s (by repeat constructor)), fun _ h => h⟩) (fun y hy => ?_)) | refine tx_single 14 (by kernel_rfl) (to_e rfl rfl (e_append_nil rfl rfl rfl (fun w' hw' => RdT.own0 (xs := [(0, (l.getD n (0, 0)).1, (l.getD n (0, 0)).2)]) hw' (by repeat constructor)) (flatT_one _) Nat.zero_lt_one (Nat.le_of_ble_eq_true rfl) rfl) (.inr ⟨fun _ _ h => h.subl (SB.s (by repeat constructor)) (SB.s (by repeat constructor)), fun _ h => h⟩) (fun y hy => ?_)))
                 all_goals refine tx_p 15 rfl (by kernel_rfl) (y_field rfl) rfl (fun _ _ _ h => h) (fun _ h => h.subl (SB.s (by repeat constructor)) (SB.s (by repeat constructor))) ?_
                 all_goals refine tx_single 16 (by kernel_rfl) (to_e (S' := HG [] []) rfl rfl (e_store1 rfl rfl (by repeat constructor) (by repeat constructor) (by rfl) (by rfl)) (.inl (by kernel_rfl)) (fun _ _ => ?_))
                 all_goals refine tx_done (by kernel_rfl) ?_
                 all_goals (refine hK11 ?_; try (clear hK11; clear K11))
                 all_goals refine tc_region ?_
                 all_goals refine tl_q (y_move rfl) rfl ?_
                 all_goals refine tl_q (y_add rfl rfl (by omega)) rfl ?_
                 all_goals refine tl_q (y_assign rfl) rfl ?_
                 all_goals refine tl_nil ?_
                 all_goals (
                  have hsx := flt_succ (l := l) (n := n) (by omega)
                  refine tk_round (n + 1, some (y.1, y.2.1, y.2.2)) ⟨by dsimp only; omega, ?_, fun j hj => ?_⟩ (by dsimp only; omega) (.cons rfl (.cons rfl (.cons rfl (.cons rfl (.cons rfl .nil))))) (fun _ h => ?_)
                  · dsimp only [outOkT]; simp only [List.length_cons, List.length_nil] at hy ⊢; omega
                  · rcases Nat.lt_succ_iff_lt_or_eq.1 hj with h | rfl
                    · exact hps j h
                    · assumption
                  · dsimp only; rw [hsx]
                    first
                    | (rw [show l.take n = [] from by rw [hok]; rfl, List.map_nil, show flatT [] = [] from rfl, List.nil_append, show n + 1 = ([(0, (l.getD n (0, 0)).1, (l.getD n (0, 0)).2)] : List (Int × Int × Int)).length from by simp only [List.length_cons, List.length_nil]; omega]; exact h.subl (SB.s (by repeat constructor)) (SB.s (by repeat constructor)))
                    | exact h.subl (SB.s (by repeat constructor)) (SB.s (by repeat constructor))))
            · try simp only [decide_eq_true_eq, decide_eq_false_iff_not, Int.not_lt, Int.not_le, Bool.not_eq_true', Bool.not_eq_false', Decidable.not_not, not_true_eq_false] at hc
              all_goals first | (exfalso; with_reducible exact bft hc) | (exfalso; with_reducible exact btf hc) | (exfalso; omega) | skip
              all_goals refine tc_exit ?_
              all_goals (
               have en : n = l.length := by omega
               subst en
               have hpx : ∀ x ∈ l, 0 ≤ x.2 := fun x hx => by
                 obtain ⟨j, hj, rfl⟩ := List.getElem_of_mem hx
                 have := hps j hj
                 rw [List.getD_eq_getElem?_getD, List.getElem?_eq_getElem hj] at this
                 exact this
               refine tk_lay [] (SB.s (by repeat constructor)) (fun w2 h2 => ?_)
               have hf2 := h2.fr (w0 := wl6) (S := [b10]) (MI.m (by repeat constructor))
               have hnd := hl6.nodup
               have k9 := hl5.heap _ (HM.mem (b := b9) (by repeat constructor))
               have o10 := (hl6.own (b10, _) (HM.mem (by repeat constructor)) (wl5, []) (MI.m (by repeat constructor))).resolve_left (by simp)
               have lt9 := (Array.getElem?_eq_some_iff.1 k9).1
               dsimp only at lt9 o10
               have q1 : RdI w2 (.slice (some ⟨bp, 0, none⟩) 1 1) [0] := Reads.frS (RdI.own0 (xs := [0]) (cap := 1) (b := bp) hl6 (by repeat constructor)) hf2 (fun p m c hp => by cases hp; simp at hnd ⊢; omega)
               have q2 : RdR w2 (.slice (some ⟨bl, 0, none⟩) 1 1) [(r1, r2)] := Reads.frS (RdR.own0 (xs := [(r1, r2)]) (cap := 1) (b := bl) hl6 (by repeat constructor)) hf2 (fun p m c hp => by cases hp; simp at hnd ⊢; omega)
               have q3 : w2.heap[b9]? = some (.cells #[vi r1, vi r2] 31 (0, 0)) := hf2.keeps (by simp; omega) ((hl6.fr (w0 := wl5) (S := []) (MI.m (by repeat constructor))).keep k9)
               have q4 := hr0.fr (h2.fr (w0 := w) (S := []) (MI.m (by repeat constructor)))
               have hml : ((l.map fun x => ((0 : Int), x.1, x.2))).length = l.length := List.length_map _
               first
               | (refine tk_start (w2, some ⟨bo, 0, none⟩, bcap) ⟨hpx, ⟨q4, q1, q2, ?_⟩, h2.heap _ (HM.mem (b := b10) (by repeat constructor)), q3⟩ (.cons rfl (.cons rfl (.cons rfl (.cons rfl .nil)))) (fun _ h => h.subl (SB.s (by repeat constructor)) (SB.s (by repeat constructor)))
                  have q5 := RdT.own (xs := l.map fun x => ((0 : Int), x.1, x.2)) (cap := bcap) (junk := junk) (b := bo) h2 (by rw [List.take_length]; exact .head)
                  rw [hml] at q5
                  exact q5)
               | (refine tk_start (w2, none, 0) ⟨hpx, ⟨q4, q1, q2, ?_⟩, ?_, q3⟩ (.cons rfl (.cons rfl (.cons rfl (.cons rfl .nil)))) (fun _ h => h.subl (SB.s (by repeat constructor)) (SB.s (by repeat constructor)))
                  · have e0 : l = [] := List.eq_nil_of_length_eq_zero hok
                    unfold slV; dsimp only; rw [hok, e0]; exact RdT.nil _
                  · unfold slV; dsimp only; rw [hok]; exact h2.heap _ (HM.mem (b := b10) (by repeat constructor))))))
      · rintro ⟨z1, tx⟩ ⟨hpx, hrt, hb10, hb9⟩
        dsimp only at hpx hrt hb10 hb9 ⊢
        have hcs := hcase hpx
        have hNT : NT (oneT s (r1, r2) l) := ⟨by show (s.weights.length : Int) ≤ _; omega, by show ((1 : Nat) : Int) ≤ _; omega, by show ((1 : Nat) : Int) ≤ _; omega, by show (((l.map fun x => ((0 : Int), x.1, x.2)).length : Nat) : Int) ≤ _; rw [List.length_map]; omega⟩
        have hlm : (oneT s (r1, r2) l).tests.length = l.length := List.length_map _
        all_goals refine tc_seq fun K15 hK15 => ?_
        all_goals refine tc_seq fun K16 hK16 => ?_
        all_goals refine tc_lay ([]) (SB.s (by repeat constructor)) (fun wl12 hl12 => ?_)
        all_goals refine tc_region ?_
        all_goals (refine tl_q (y_loadWf rfl hb10 (MI.m (by repeat constructor)) (by simp) (by rfl)) rfl ?_)
        all_goals refine tl_e (e_callV rfl (.cons rfl .nil) (fun w' hw' => faultT_c (oneT s (r1, r2) l) hNT _ _ _ _ w' (hrt.fr (hw'.fr (w0 := z1) (S := []) (MI.m (by repeat constructor)))))) rfl (fun _ _ => ?_)
        all_goals refine tl_q (y_neq rfl rfl) rfl ?_
        all_goals refine tl_nil ?_
        all_goals (refine hK16 ?_; try (clear hK16; clear K16))
        all_goals (
         refine tc_cond rfl (fun hc => ?_) (fun hc => ?_)
         · try simp only [decide_eq_true_eq, decide_eq_false_iff_not, Int.not_lt, Int.not_le, Bool.not_eq_true', Bool.not_eq_false', Decidable.not_not, not_true_eq_false] at hc
           all_goals first | (exfalso; with_reducible exact bft hc) | (exfalso; with_reducible exact btf hc) | (exfalso; omega) | skip
           all_goals refine tc_seq fun K17 hK17 => ?_
           all_goals refine tc_lay ([]) (SB.s (by repeat constructor)) (fun wl13 hl13 => ?_)
           all_goals refine tc_region ?_
           all_goals refine tl_e (e_callV rfl .nil (fun w' _ => floated_c w')) rfl (fun _ _ => ?_)
           all_goals refine tl_q (y_assign rfl) rfl ?_
           all_goals refine tl_nil ?_
           all_goals (refine hK17 ?_; try (clear hK17; clear K17))
           all_goals refine tc_ret ?_
           all_goals (repeat (refine tk_then_ret ?_))
           all_goals first | refine tk_ret rfl rfl (.cons (.tmp rfl) .nil) ?_ | refine tk_retM rfl (by repeat constructor) rfl (.cons (.tmp rfl) .nil) ?_
           all_goals (
            first | exact fun w' hw' => ⟨rfl, hw'.fr (w0 := w) (S := []) (MI.m (by repeat constructor))⟩ | exact absurd ⟨trivial, trivial⟩ hc)
         · try simp only [decide_eq_true_eq, decide_eq_false_iff_not, Int.not_lt, Int.not_le, Bool.not_eq_true', Bool.not_eq_false', Decidable.not_not, not_true_eq_false] at hc
           all_goals first | (exfalso; with_reducible exact bft hc) | (exfalso; with_reducible exact btf hc) | (exfalso; omega) | skip
           all_goals refine tc_skip ?_
           all_goals (refine hK15 ?_; try (clear hK15; clear K15))
           all_goals refine tc_seq fun K18 hK18 => ?_
           all_goals refine tc_lay ([]) (SB.s (by repeat constructor)) (fun wl14 hl14 => ?_)
           all_goals (obtain ⟨he, hg, hxl, hQ⟩ := hcs (by omega))
           all_goals (have hv := chkT_0.1 (show chkT (oneT s (r1, r2) l) = 0 by omega))
           all_goals refine tc_region ?_
           all_goals (refine tl_q (y_loadWf rfl (hl1.at (by repeat constructor)) (MI.m (by repeat constructor)) (by simp) (by rfl)) rfl ?_)
           all_goals refine tl_e (e_callX rfl (.cons rfl .nil) (fun w' hw' => spindle_c s (by omega) _ w' (hr0.fr (hw'.fr (w0 := w) (S := []) (MI.m (by repeat constructor)))))) rfl (fun x1 hx1 => ?_)
           all_goals refine tl_q (y_move rfl) rfl ?_
           all_goals refine tl_e (e_callX rfl (.cons rfl .nil) (fun w' hw' => readings_c l (by omega) _ w' (hR0.fr (hw'.fr (w0 := w) (S := []) (MI.m (by repeat constructor)))))) rfl (fun y1 hy1 => ?_)
           all_goals refine tl_e (e_callV rfl (.cons rfl (.cons rfl .nil)) (fun w' hw' => narrow2_v s (nb9 (by omega)) l (by omega) hN _ _ w' (hx1.1.fr (hw'.fr (MI.m (by repeat constructor)))) (hy1.1.fr (hw'.fr (MI.m (by repeat constructor)))))) rfl (fun _ _ => ?_)
           all_goals refine tl_q (y_move rfl) rfl ?_
           all_goals refine tl_q (y_extract rfl rfl) rfl ?_
           all_goals refine tl_q (y_extract rfl rfl) rfl ?_
           all_goals refine tl_e (e_allocN rfl) rfl (fun b12 _ => ?_)
           all_goals refine tl_e (e_storeW rfl rfl (by repeat constructor) (by rfl) (by rfl) (by simp [Value.oneCell'])) rfl (fun _ _ => ?_)
           all_goals refine tl_q (y_assign rfl) rfl ?_
           all_goals refine tl_nil ?_
           all_goals (refine hK18 ?_; try (clear hK18; clear K18))
           all_goals refine tc_seq fun K19 hK19 => ?_
           all_goals refine tc_lay ([]) (SB.s (by repeat constructor)) (fun wl15 hl15 => ?_)
           all_goals (rcases hQ with ⟨hne, hak, hq0⟩ | ⟨⟨he0, hmm⟩, hak, hdr, hq0⟩)
           all_goals refine tc_region ?_
           all_goals (refine tl_q (y_loadWf rfl hb10 (MI.m (by repeat constructor)) (by simp) (by rfl)) rfl ?_)
           all_goals refine tl_e (e_callX rfl (.cons rfl .nil) (fun w' hw' => trial9_c (oneT s (r1, r2) l) (by show s.weights.length ≤ 1000; omega) (by show 1 ≤ 1000; omega) (by show 1 ≤ 1000; omega) (by rw [hlm]; omega) _ _ _ _ w' (hrt.fr (hw'.fr (w0 := z1) (S := []) (MI.m (by repeat constructor)))))) rfl (fun x2 hx2 => ?_)
           all_goals (first | refine tl_e (e_callX rfl (.cons rfl .nil) (fun w' hw' => densOne hNT hak hdr _ _ _ _ w' (hx2.1.fr (hw'.fr (MI.m (by repeat constructor)))))) rfl (fun y2 hy2 => ?_) | refine tl_e (e_callV rfl (.cons rfl .nil) (fun w' hw' => dens11 (oneT s (r1, r2) l) hNT hak _ _ _ _ w' (hx2.1.fr (hw'.fr (MI.m (by repeat constructor)))))) rfl (fun y2 hy2 => ?_))
           all_goals refine tl_q (y_move rfl) rfl ?_
           all_goals refine tl_q (y_extract rfl rfl) rfl ?_
           all_goals refine tl_q (y_extract rfl rfl) rfl ?_
           all_goals refine tl_q (y_assign rfl) rfl ?_
           all_goals refine tl_q (y_assign rfl) rfl ?_
           all_goals refine tl_nil ?_
           all_goals (refine hK19 ?_; try (clear hK19; clear K19))
           all_goals refine tc_seq fun K20 hK20 => ?_
           all_goals refine tc_lay ([]) (SB.s (by repeat constructor)) (fun wl16 hl16 => ?_)
           all_goals refine tc_region ?_
           all_goals (refine tl_q (y_loadWf rfl (hl1.at (by repeat constructor)) (MI.m (by repeat constructor)) (by simp) (by rfl)) rfl ?_)
           all_goals refine tl_e (e_callX rfl (.cons rfl .nil) (fun w' hw' => spindle_c s (by omega) _ w' (hr0.fr (hw'.fr (w0 := w) (S := []) (MI.m (by repeat constructor)))))) rfl (fun x3 hx3 => ?_)
           all_goals refine tl_q (y_move rfl) rfl ?_
           all_goals refine tl_e (e_callX rfl (.cons rfl .nil) (fun w' hw' => readings_c l (by omega) _ w' (hR0.fr (hw'.fr (w0 := w) (S := []) (MI.m (by repeat constructor)))))) rfl (fun y3 hy3 => ?_)
           all_goals refine tl_e (e_callX rfl (.cons rfl (.cons rfl .nil)) (fun w' hw' => leave_v s (nb9 (by omega)) l (by omega) hL _ _ w' (hx3.1.fr (hw'.fr (MI.m (by repeat constructor)))) (hy3.1.fr (hw'.fr (MI.m (by repeat constructor)))))) rfl (fun z3 hz3 => ?_)
           all_goals refine tl_q (y_move rfl) rfl ?_
           all_goals refine tl_q (y_extract rfl rfl) rfl ?_
           all_goals refine tl_q (y_extract rfl rfl) rfl ?_
           all_goals refine tl_q (y_assign rfl) rfl ?_
           all_goals refine tl_q (y_assign rfl) rfl ?_
           all_goals refine tl_nil ?_
           all_goals (refine hK20 ?_; try (clear hK20; clear K20))
           all_goals refine tc_seq fun K21 hK21 => ?_
           all_goals refine tc_lay ([]) (SB.s (by repeat constructor)) (fun wl17 hl17 => ?_)
           all_goals refine tc_region ?_
           all_goals (refine tl_q (y_loadWf rfl hb10 (MI.m (by repeat constructor)) (by simp) (by rfl)) rfl ?_)
           all_goals refine tl_e (e_callX rfl (.cons rfl .nil) (fun w' hw' => trial9_c (oneT s (r1, r2) l) (by show s.weights.length ≤ 1000; omega) (by show 1 ≤ 1000; omega) (by show 1 ≤ 1000; omega) (by rw [hlm]; omega) _ _ _ _ w' (hrt.fr (hw'.fr (w0 := z1) (S := []) (MI.m (by repeat constructor)))))) rfl (fun x4 hx4 => ?_)
           all_goals refine tl_e (e_callX rfl (.cons rfl .nil) (fun w' hw' => leaveT_sl (oneT s (r1, r2) l) hv _ _ _ _ w' (hx4.1.fr (hw'.fr (MI.m (by repeat constructor)))))) rfl (fun y4 hy4 => ?_)
           all_goals refine tl_q (y_move rfl) rfl ?_
           all_goals refine tl_q (y_extract rfl rfl) rfl ?_
           all_goals refine tl_q (y_extract rfl rfl) rfl ?_
           all_goals refine tl_q (y_assign rfl) rfl ?_
           all_goals refine tl_q (y_assign rfl) rfl ?_
           all_goals refine tl_nil ?_
           all_goals (refine hK21 ?_; try (clear hK21; clear K21))
           all_goals refine tc_seq fun K22 hK22 => ?_
           all_goals refine tc_seq fun K23 hK23 => ?_
           all_goals refine tc_lay ([]) (SB.s (by repeat constructor)) (fun wl18 hl18 => ?_)
           all_goals refine tc_region ?_
           all_goals refine tl_q (y_move rfl) rfl ?_
           all_goals refine tl_q (y_neq rfl rfl) rfl ?_
           all_goals refine tl_q (y_move rfl) rfl ?_
           all_goals (refine tl_gs rfl rfl (fun hc => ?_) (fun hc => ?_) <;> (try simp only [decide_eq_true_eq, decide_eq_false_iff_not, Int.not_lt, Int.not_le, Bool.not_eq_true', Bool.not_eq_false', Decidable.not_not, not_true_eq_false] at hc) <;> (first | (exfalso; omega) | refine tl_sk rfl rfl rfl rfl ?_ | refine tl_qg rfl rfl (y_move rfl) rfl ?_))
           all_goals (first | refine tl_sk rfl rfl rfl rfl ?_ | refine tl_qg rfl rfl (y_neq rfl rfl) rfl ?_)
           all_goals (first | refine tl_q (y_pick_t rfl rfl) rfl ?_ | refine tl_q (y_pick_f rfl rfl) rfl ?_)
           all_goals refine tl_q (y_move rfl) rfl ?_
           all_goals (first | refine tl_qg rfl rfl (y_move rfl) rfl ?_ | (refine tl_gs rfl rfl (fun hc => ?_) (fun hc => ?_) <;> (try simp only [decide_eq_true_eq, decide_eq_false_iff_not, Int.not_lt, Int.not_le, Bool.not_eq_true', Bool.not_eq_false', Decidable.not_not, not_true_eq_false] at hc) <;> (first | (exfalso; omega) | refine tl_qg rfl rfl (y_move rfl) rfl ?_)))
           all_goals (refine tl_qg rfl rfl (y_neq rfl rfl) rfl ?_)
           all_goals (refine tl_q (y_pick_f rfl rfl) rfl ?_)
           all_goals refine tl_q (y_move rfl) rfl ?_
           all_goals (refine tl_gs rfl rfl (fun hc => ?_) (fun hc => ?_) <;> (try simp only [decide_eq_true_eq, decide_eq_false_iff_not, Int.not_lt, Int.not_le, Bool.not_eq_true', Bool.not_eq_false', Decidable.not_not, not_true_eq_false] at hc) <;> (first | (exfalso; omega) | refine tl_qg rfl rfl (y_move rfl) rfl ?_))
           all_goals (refine tl_qg rfl rfl (y_neq rfl rfl) rfl ?_)
           all_goals (refine tl_q (y_pick_f rfl rfl) rfl ?_)
           all_goals refine tl_q (y_move rfl) rfl ?_
           all_goals (refine tl_qg rfl rfl (y_move rfl) rfl ?_)
           all_goals (refine tl_qg rfl rfl (y_len rfl) rfl ?_)
           all_goals (refine tl_qg rfl rfl (y_move rfl) rfl ?_)
           all_goals (refine tl_qg rfl rfl (y_len rfl) rfl ?_)
           all_goals (refine tl_qg rfl rfl (y_lss rfl rfl) rfl ?_)
           all_goals (refine tl_q (y_pick_f rfl rfl) rfl ?_)
           all_goals refine tl_nil ?_
           all_goals (refine hK23 ?_; try (clear hK23; clear K23))
           all_goals (
            refine tc_cond rfl (fun hc => ?_) (fun hc => ?_)
            · try simp only [decide_eq_true_eq, decide_eq_false_iff_not, Int.not_lt, Int.not_le, Bool.not_eq_true', Bool.not_eq_false', Decidable.not_not, not_true_eq_false] at hc
              all_goals first | (exfalso; with_reducible exact bft hc) | (exfalso; with_reducible exact btf hc) | (exfalso; omega) | skip
              all_goals refine tc_seq fun K24 hK24 => ?_
              all_goals refine tc_lay ([]) (SB.s (by repeat constructor)) (fun wl19 hl19 => ?_)
              all_goals refine tc_region ?_
              all_goals refine tl_q (y_assign rfl) rfl ?_
              all_goals refine tl_nil ?_
              all_goals (refine hK24 ?_; try (clear hK24; clear K24))
              all_goals refine tc_ret ?_
              all_goals (repeat (first | refine tk_then_ret ?_))
              all_goals first | refine tk_ret rfl rfl (.cons (.tmp rfl) .nil) ?_ | refine tk_retM rfl (by repeat constructor) rfl (.cons (.tmp rfl) .nil) ?_
              all_goals (
               first | exact fun w' hw' => ⟨rfl, hw'.fr (w0 := w) (S := []) (MI.m (by repeat constructor))⟩ | exact absurd ⟨trivial, trivial⟩ hc)
            · try simp only [decide_eq_true_eq, decide_eq_false_iff_not, Int.not_lt, Int.not_le, Bool.not_eq_true', Bool.not_eq_false', Decidable.not_not, not_true_eq_false] at hc
              all_goals first | (exfalso; with_reducible exact bft hc) | (exfalso; with_reducible exact btf hc) | (exfalso; omega) | skip
              all_goals refine tc_skip ?_
              all_goals (refine hK22 ?_; try (clear hK22; clear K22))
              all_goals refine tc_seq fun K25 hK25 => ?_
              all_goals refine tc_seq fun K26 hK26 => ?_
              all_goals refine tc_lay ([]) (SB.s (by repeat constructor)) (fun wl20 hl20 => ?_)
              all_goals refine tc_region ?_
              all_goals refine tl_q (y_move rfl) rfl ?_
              all_goals refine tl_q (y_neq rfl rfl) rfl ?_
              all_goals refine tl_q (y_move rfl) rfl ?_
              all_goals (refine tl_gs rfl rfl (fun hc => ?_) (fun hc => ?_) <;> (try simp only [decide_eq_true_eq, decide_eq_false_iff_not, Int.not_lt, Int.not_le, Bool.not_eq_true', Bool.not_eq_false', Decidable.not_not, not_true_eq_false] at hc) <;> (first | (exfalso; omega) | refine tl_sk rfl rfl rfl rfl ?_ | refine tl_qg rfl rfl (y_field rfl) rfl ?_))
              all_goals (first | refine tl_sk rfl rfl rfl rfl ?_ | refine tl_qg rfl rfl (y_load1f rfl (hl15.at (by repeat constructor)) (MI.m (by repeat constructor)) (by simp) (by rfl)) rfl ?_)
              all_goals (first | refine tl_sk rfl rfl rfl rfl ?_ | refine tl_qg rfl rfl (y_field rfl) rfl ?_)
              all_goals (first | refine tl_sk rfl rfl rfl rfl ?_ | refine tl_qg rfl rfl (y_load1f rfl hb9 (MI.m (by repeat constructor)) (by simp) (by rfl)) rfl ?_)
              all_goals (first | refine tl_sk rfl rfl rfl rfl ?_ | refine tl_qg rfl rfl (y_max rfl rfl) rfl ?_)
              all_goals (first | refine tl_sk rfl rfl rfl rfl ?_ | refine tl_qg rfl rfl (y_field rfl) rfl ?_)
              all_goals (first | refine tl_sk rfl rfl rfl rfl ?_ | refine tl_qg rfl rfl (y_load1f rfl (hl15.at (by repeat constructor)) (MI.m (by repeat constructor)) (by simp) (by rfl)) rfl ?_)
              all_goals (first | refine tl_sk rfl rfl rfl rfl ?_ | refine tl_qg rfl rfl (y_field rfl) rfl ?_)
              all_goals (first | refine tl_sk rfl rfl rfl rfl ?_ | refine tl_qg rfl rfl (y_load1f rfl hb9 (MI.m (by repeat constructor)) (by simp) (by rfl)) rfl ?_)
              all_goals (first | refine tl_sk rfl rfl rfl rfl ?_ | refine tl_qg rfl rfl (y_min rfl rfl) rfl ?_)
              all_goals (first | refine tl_sk rfl rfl rfl rfl ?_ | refine tl_qg rfl rfl (y_gtr rfl rfl) rfl ?_)
              all_goals (first | refine tl_q (y_pick_t rfl rfl) rfl ?_ | refine tl_q (y_pick_f rfl rfl) rfl ?_)
              all_goals refine tl_nil ?_
              all_goals (refine hK26 ?_; try (clear hK26; clear K26))
              all_goals (
               refine tc_cond rfl (fun hc => ?_) (fun hc => ?_)
               · try simp only [decide_eq_true_eq, decide_eq_false_iff_not, Int.not_lt, Int.not_le, Bool.not_eq_true', Bool.not_eq_false', Decidable.not_not, not_true_eq_false] at hc
                 all_goals first | (exfalso; with_reducible exact bft hc) | (exfalso; with_reducible exact btf hc) | (exfalso; omega) | skip
                 all_goals refine tc_seq fun K27 hK27 => ?_
                 all_goals refine tc_lay ([]) (SB.s (by repeat constructor)) (fun wl21 hl21 => ?_)
                 all_goals refine tc_region ?_
                 all_goals refine tl_q (y_move rfl) rfl ?_
                 all_goals refine tl_q (y_eql rfl rfl) rfl ?_
                 all_goals refine tl_q (y_move rfl) rfl ?_
                 all_goals (refine tl_qg rfl rfl (y_move rfl) rfl ?_)
                 all_goals (refine tl_qg rfl rfl (y_len rfl) rfl ?_)
                 all_goals (refine tl_qg rfl rfl (y_gtr rfl rfl) rfl ?_)
                 all_goals (refine tl_q (y_pick_t rfl rfl) rfl ?_)
                 all_goals refine tl_q (y_move rfl) rfl ?_
                 all_goals (refine tl_gs rfl rfl (fun hc => ?_) (fun hc => ?_) <;> (try simp only [decide_eq_true_eq, decide_eq_false_iff_not, Int.not_lt, Int.not_le, Bool.not_eq_true', Bool.not_eq_false', Decidable.not_not, not_true_eq_false] at hc) <;> (first | (exfalso; omega) | refine tl_eg rfl rfl rfl (e_callV rfl .nil (fun w' _ => floated_c w')) (fun _ _ => ?_)))
                 all_goals (refine tl_q (y_pick_t rfl rfl) rfl ?_)
                 all_goals refine tl_q (y_assign rfl) rfl ?_
                 all_goals refine tl_nil ?_
                 all_goals (refine hK27 ?_; try (clear hK27; clear K27))
                 all_goals refine tc_ret ?_
                 all_goals (repeat (refine tk_then_ret ?_))
                 all_goals first | refine tk_ret rfl rfl (.cons (.tmp rfl) .nil) ?_ | refine tk_retM rfl (by repeat constructor) rfl (.cons (.tmp rfl) .nil) ?_
                 all_goals (
                  first | exact fun w' hw' => ⟨rfl, hw'.fr (w0 := w) (S := []) (MI.m (by repeat constructor))⟩ | exact absurd ⟨trivial, trivial⟩ hc)
               · try simp only [decide_eq_true_eq, decide_eq_false_iff_not, Int.not_lt, Int.not_le, Bool.not_eq_true', Bool.not_eq_false', Decidable.not_not, not_true_eq_false] at hc
                 all_goals first | (exfalso; with_reducible exact bft hc) | (exfalso; with_reducible exact btf hc) | (exfalso; omega) | skip
                 all_goals refine tc_skip ?_
                 all_goals (refine hK25 ?_; try (clear hK25; clear K25))
                 all_goals refine tc_seq fun K28 hK28 => ?_
                 all_goals refine tc_lay ([]) (SB.s (by repeat constructor)) (fun wl22 hl22 => ?_)
                 all_goals first | (exfalso; omega) | skip
                 all_goals (have hy3' : RdR y2.2 (slV 1 y2.1) [(max n1 r1, min n2 r2)] := hy2.1)
                 all_goals (obtain ⟨ba, oa, hya, hyc⟩ := hy3'.one1)
                 all_goals refine tc_draw (by kernel_rfl) ?_
                 all_goals refine tx_p 0 rfl (by kernel_rfl) (y_move rfl) rfl (fun _ _ _ h => h) (fun _ h => h) ?_
                 all_goals refine tx_p 1 rfl (by kernel_rfl) (y_eql rfl rfl) rfl (fun _ _ _ h => h) (fun _ h => h) ?_
                 all_goals refine tx_p 2 rfl (by kernel_rfl) (y_move rfl) rfl (fun _ _ _ h => h) (fun _ h => h) ?_
                 all_goals (refine tx_pg 3 rfl (by kernel_rfl) rfl rfl (y_move rfl) rfl (fun _ _ _ h => h) (fun _ h => h) ?_)
                 all_goals (refine tx_qg 4 rfl (by kernel_rfl) rfl rfl (y_len rfl) rfl (fun _ _ _ h => h) (fun _ h => h) ?_)
                 all_goals (refine tx_pg 5 rfl (by kernel_rfl) rfl rfl (y_eql rfl rfl) rfl (fun _ _ _ h => h) (fun _ h => h) ?_)
                 all_goals refine tx_norm (L' := [true, true, true, true, true, true, false, false, false, false, false, false, false, false, false, false, false, false, false, false, false, false, false, false, false, false, false, false, false, false, false, false, false]) (by kernel_rfl) ?_
                 all_goals (refine tx_p 6 rfl (by kernel_rfl) (y_pick_t rfl rfl) rfl (fun _ _ _ h => h) (fun _ h => h) ?_)
                 all_goals refine tx_p 7 rfl (by kernel_rfl) (y_move rfl) rfl (fun _ _ _ h => h) (fun _ h => h) ?_
                 all_goals (refine tx_pg 8 rfl (by kernel_rfl) rfl rfl (y_move rfl) rfl (fun _ _ _ h => h) (fun _ h => h) ?_)
                 all_goals (refine tx_pg 9 rfl (by kernel_rfl) rfl rfl (y_index rfl rfl (by omega) hya) rfl (fun _ _ _ h => h) (fun _ h => h) ?_)
                 all_goals (refine tx_qg 10 rfl (by kernel_rfl) rfl rfl (y_loadNo rfl (fun w' hw' => hyc w' (hw'.fr (MI.m (by repeat constructor))))) rfl (fun _ _ _ h => h) (fun _ h => h) ?_)
                 all_goals (refine tx_pg 11 rfl (by kernel_rfl) rfl rfl (y_field rfl) rfl (fun _ _ _ h => h) (fun _ h => h) ?_)
                 all_goals refine tx_norm (L' := [true, true, true, true, true, true, true, true, true, true, true, true, false, false, false, false, false, false, false, false, false, false, false, false, false, false, false, false, false, false, false, false, false]) (by kernel_rfl) ?_
                 all_goals (refine tx_qg 12 rfl (by kernel_rfl) rfl rfl (y_load1f rfl (hl15.at (by repeat constructor)) (MI.m (by repeat constructor)) (by simp) (by rfl)) rfl (fun _ _ _ h => h) (fun _ h => h) ?_)
                 all_goals (refine tx_pg 13 rfl (by kernel_rfl) rfl rfl (y_field rfl) rfl (fun _ _ _ h => h) (fun _ h => h) ?_)
                 all_goals (refine tx_qg 14 rfl (by kernel_rfl) rfl rfl (y_load1f rfl hb9 (MI.m (by repeat constructor)) (by simp) (by rfl)) rfl (fun _ _ _ h => h) (fun _ h => h) ?_)
                 all_goals (refine tx_pg 15 rfl (by kernel_rfl) rfl rfl (y_max rfl rfl) rfl (fun _ _ _ h => h) (fun _ h => h) ?_)
                 all_goals (refine tx_pg 16 rfl (by kernel_rfl) rfl rfl (y_field rfl) rfl (fun _ _ _ h => h) (fun _ h => h) ?_)
                 all_goals (refine tx_qg 17 rfl (by kernel_rfl) rfl rfl (y_load1f rfl (hl15.at (by repeat constructor)) (MI.m (by repeat constructor)) (by simp) (by rfl)) rfl (fun _ _ _ h => h) (fun _ h => h) ?_)
                 all_goals refine tx_norm (L' := [true, true, true, true, true, true, true, true, true, true, true, true, true, true, true, true, true, true, false, false, false, false, false, false, false, false, false, false, false, false, false, false, false]) (by kernel_rfl) ?_
                 all_goals (refine tx_pg 18 rfl (by kernel_rfl) rfl rfl (y_field rfl) rfl (fun _ _ _ h => h) (fun _ h => h) ?_)
                 all_goals (refine tx_qg 19 rfl (by kernel_rfl) rfl rfl (y_load1f rfl hb9 (MI.m (by repeat constructor)) (by simp) (by rfl)) rfl (fun _ _ _ h => h) (fun _ h => h) ?_)
                 all_goals (refine tx_pg 20 rfl (by kernel_rfl) rfl rfl (y_min rfl rfl) rfl (fun _ _ _ h => h) (fun _ h => h) ?_)
                 all_goals (refine tx_pg 21 rfl (by kernel_rfl) rfl rfl (y_build_g (by repeat constructor)) rfl (fun _ _ _ h => h) (fun _ h => h) ?_)
                 all_goals (refine tx_pg 22 rfl (by kernel_rfl) rfl rfl (y_eql2 rfl rfl) rfl (fun _ _ _ h => h) (fun _ h => h) ?_)
                 all_goals (refine tx_p 23 rfl (by kernel_rfl) (y_pick_t rfl rfl) rfl (fun _ _ _ h => h) (fun _ h => h) ?_)
                 all_goals refine tx_norm (L' := [true, true, true, true, true, true, true, true, true, true, true, true, true, true, true, true, true, true, true, true, true, true, true, true, false, false, false, false, false, false, false, false, false]) (by kernel_rfl) ?_
                 all_goals refine tx_p 24 rfl (by kernel_rfl) (y_move rfl) rfl (fun _ _ _ h => h) (fun _ h => h) ?_
                 all_goals (refine tx_gs 183 rfl (fun hc => ?_) (fun hc => ?_) <;> (try simp only [decide_eq_true_eq, decide_eq_false_iff_not, Int.not_lt, Int.not_le, Bool.not_eq_true', Bool.not_eq_false', Decidable.not_not, not_true_eq_false] at hc) <;> (first | refine tx_sk 25 rfl (by kernel_rfl) rfl rfl rfl rfl (fun _ _ _ h => h) (fun _ h => h) ?_ | refine tx_pg 25 rfl (by kernel_rfl) rfl rfl (y_move rfl) rfl (fun _ _ _ h => h) (fun _ h => h) ?_))
                 all_goals (first | refine tx_sk 26 rfl (by kernel_rfl) rfl rfl rfl rfl (fun _ _ _ h => h) (fun _ h => h) ?_ | refine tx_qg 26 rfl (by kernel_rfl) rfl rfl (y_len rfl) rfl (fun _ _ _ h => h) (fun _ h => h) ?_)
                 all_goals (first | refine tx_sk 27 rfl (by kernel_rfl) rfl rfl rfl rfl (fun _ _ _ h => h) (fun _ h => h) ?_ | refine tx_pg 27 rfl (by kernel_rfl) rfl rfl (y_eql rfl rfl) rfl (fun _ _ _ h => h) (fun _ h => h) ?_)
                 all_goals (first | refine tx_p 28 rfl (by kernel_rfl) (y_pick_t rfl rfl) rfl (fun _ _ _ h => h) (fun _ h => h) ?_ | refine tx_p 28 rfl (by kernel_rfl) (y_pick_f rfl rfl) rfl (fun _ _ _ h => h) (fun _ h => h) ?_)
                 all_goals refine tx_p 29 rfl (by kernel_rfl) (y_move rfl) rfl (fun _ _ _ h => h) (fun _ h => h) ?_
                 all_goals refine tx_norm (L' := [true, true, true, true, true, true, true, true, true, true, true, true, true, true, true, true, true, true, true, true, true, true, true, true, true, true, true, true, true, true, false, false, false]) (by kernel_rfl) ?_
                 all_goals (first | refine tx_sk 30 rfl (by kernel_rfl) rfl rfl rfl rfl (fun _ _ _ h => h) (fun _ h => h) ?_ | (refine tx_gs 188 rfl (fun hc => ?_) (fun hc => ?_) <;> (try simp only [decide_eq_true_eq, decide_eq_false_iff_not, Int.not_lt, Int.not_le, Bool.not_eq_true', Bool.not_eq_false', Decidable.not_not, not_true_eq_false] at hc) <;> (first | (exfalso; omega) | refine tx_eg 30 rfl (by kernel_rfl) rfl rfl rfl (e_callV rfl .nil (fun w' _ => floated_c w')) (.inr fun _ _ h => h) (fun _ _ => ?_))))
                 all_goals (first | refine tx_p 31 rfl (by kernel_rfl) (y_pick_t rfl rfl) rfl (fun _ _ _ h => h) (fun _ h => h) ?_ | refine tx_p 31 rfl (by kernel_rfl) (y_pick_f rfl rfl) rfl (fun _ _ _ h => h) (fun _ h => h) ?_)
                 all_goals refine tx_p 32 rfl (by kernel_rfl) (y_assign rfl) rfl (fun _ _ _ h => h) (fun _ h => h) ?_
                 all_goals refine tx_done (by kernel_rfl) ?_
                 all_goals (refine hK28 ?_; try (clear hK28; clear K28))
                 all_goals refine tc_ret ?_
                 all_goals (repeat (first | refine tk_then_ret ?_))
                 all_goals first | refine tk_ret rfl rfl (.cons (.tmp rfl) .nil) ?_ | refine tk_retM rfl (by repeat constructor) rfl (.cons (.tmp rfl) .nil) ?_
                 all_goals (
                  first | exact fun w' hw' => ⟨rfl, hw'.fr (w0 := w) (S := []) (MI.m (by repeat constructor))⟩ | exact absurd ⟨trivial, trivial⟩ hc))))))
end Go.Sp
