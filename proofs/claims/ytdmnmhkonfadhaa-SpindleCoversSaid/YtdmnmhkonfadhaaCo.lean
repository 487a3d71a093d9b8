/-
  SpindleCovers: the law's function returns true.
-/
import Derived.Test.YtdmnmhkonfadhaaFea
set_option linter.unusedVariables false
set_option linter.unusedSimpArgs false
set_option linter.deprecated false
namespace Go.Sp
open Go Go.Proofs
theorem verdicts_v (s : Sn) (hn : NB s) (r : Int × Int) {ll : List Int} {e : Int} (hE : verdictsE s r = (ll, e)) (sl : Value) (w : World) (hr : RdI w sl s.weights) :
    CnX Try.prog 50 #[spV s sl, rV r] w [] (fun x : Option Addr × Nat => .tuple #[slV ll.length x, vi e]) (fun x w' => RdI w' (slV ll.length x) ll) := by
  have h := verdicts_e s hn r sl w hr
  rw [hE] at h; exact h.sliced
theorem cover_v (s : Sn) (hn : NB s) (r : Int × Int) {ll : List Int} {e : Int} (hE : coverE s r = (ll, e)) (sl : Value) (w : World) (hr : RdI w sl s.weights) :
    CnX Try.prog 51 #[spV s sl, rV r] w [] (fun x : Option Addr × Nat => .tuple #[slV ll.length x, vi e]) (fun x w' => RdI w' (slV ll.length x) ll) := by
  have h := cover_e s hn r sl w hr
  rw [hE] at h; exact h.sliced
theorem rcover_v (s : Sn) (hs : VS s) (r : Int × Int) (hr1 : 1 ≤ r.1 ∧ r.1 ≤ 2000) (hr2 : r.2 ≤ 2000) {ll : List Int} {b : Bool} (hE : rCover s r = (ll, b)) (sl : Value) (w : World) (hr : RdI w sl s.weights) :
    CnX Try.prog 57 #[spV s sl, rV r] w [] (fun x : Option Addr × Nat => .tuple #[slV ll.length x, .bool b]) (fun x w' => RdI w' (slV ll.length x) ll) := by
  have h := rcover_c s hs r hr1 hr2 sl w hr
  rw [hE] at h; exact h.sliced
theorem prove_v (s : Sn) (hn : NB s) (r : Int × Int) (l : List Int) (hl : (l.length : Int) ≤ 9000000000000000000) (many : Int) {b : Bool} (hE : proveF s r l many = b) (sl lv : Value) (w : World) (hr : RdI w sl s.weights) (hL : RdI w lv l) :
    CnV Try.prog 52 #[spV s sl, rV r, lv, vi many] w (.bool b) := by
  subst hE; exact prove_c s hn r l hl many sl lv w hr hL
theorem isl_v (s : Sn) (hn : NB s) (l : List Int) (hl : (l.length : Int) ≤ 9000000000000000000) {b : Bool} (hE : isLoadsF s l = b) (sl lv : Value) (w : World) (hr : RdI w sl s.weights) (hL : RdI w lv l) :
    CnV Try.prog 54 #[spV s sl, lv] w (.bool b) := by
  subst hE; exact risloads_c s hn l hl sl lv w hr hL
theorem rcov_v (s : Sn) (hs : VS s) (r : Int × Int) (hr1 : 1 ≤ r.1 ∧ r.1 ≤ 2000) (hr2 : r.2 ≤ 2000) (l : List Int) (hl : (l.length : Int) ≤ 9000000000000000000) (hlo : isLoadsF s l = true) {b : Bool} (hE : rCovers s r l = b) (sl lv : Value) (w : World) (hr : RdI w sl s.weights) (hL : RdI w lv l) :
    CnV Try.prog 55 #[spV s sl, rV r, lv] w (.bool b) := by
  subst hE
  unfold isLoadsF at hlo
  exact rcovers_c s hs r hr1 hr2 l hl (allIn_iff.1 (Bool.and_eq_true_iff.1 hlo).1) sl lv w hr hL
theorem RdI.opens {w : World} {xs : List Int} {x : Option Addr × Nat} (h : RdI w (slV xs.length x) xs) : ∃ b o, (0 < xs.length → x.1 = some ⟨b, o, none⟩) ∧ ∀ w', Fr [] w w' → ∀ i, i < xs.length → w'.cell? ⟨b, o + i, none⟩ = some (vi (xs.getD i 0)) := by
  obtain ⟨ad, cap, b, o, e, had, hcell⟩ := h.open
  injection e with e1 e2 e3
  subst e1
  exact ⟨b, o, had, hcell⟩
theorem list_v (xs : List Int) (hx : xs.length ≤ 1000) (sl : Value) (w : World) (hr : RdI w sl xs) : CnX Try.prog 53 #[sl] w [] (slV xs.length) (fun x w' => RdI w' (slV xs.length x) xs) :=
  (list_c xs hx sl w hr).imp id (fun _ => rfl) (fun _ h => h) (fun _ _ _ h => h.1)
theorem prove_cases {s : Sn} (hs : VS s) {r : Int × Int} (h : rangedF s r = 0) {l : List Int} {many : Int} {pb : Bool} (hp : proveF s r l many = pb) : (isLoadsF s l = false ∧ pb = false) ∨ (isLoadsF s l = true ∧ many < l.length ∧ pb = false) ∨ (isLoadsF s l = true ∧ (l.length : Int) ≤ many ∧ rCovers s r l = false ∧ pb = false) ∨ (isLoadsF s l = true ∧ (l.length : Int) ≤ many ∧ rCovers s r l = true ∧ pb = true) := by
  subst hp
  rw [prove_eq hs h]
  cases isLoadsF s l
  · exact .inl ⟨rfl, rfl⟩
  · by_cases hl : (l.length : Int) ≤ many
    · rw [decide_eq_true hl]
      cases rCovers s r l
      · exact .inr (.inr (.inl ⟨rfl, hl, rfl, rfl⟩))
      · exact .inr (.inr (.inr ⟨rfl, hl, rfl, rfl⟩))
    · rw [decide_eq_false hl]
      exact .inr (.inl ⟨rfl, by omega, rfl⟩)
theorem verd_get {s : Sn} {r : Int × Int} {n i : Nat} (hi : i < n) : (verdictsL s r n).getD i 0 = vdF s r i := by
  unfold verdictsL
  rw [List.getD_eq_getElem?_getD, List.getElem?_map, List.getElem?_range hi]; rfl
set_option maxHeartbeats 4000000 in
theorem covers2_c (s : Sn) (r : Int × Int) (l : List Int) (many : Int) (sl lv : Value) (w : World) (hr : RdI w sl s.weights) (hL : RdI w lv l) : CnV Try.prog 13 #[spV s sl, rV r, lv, vi many] w (.bool true) := by
  have hr0 := hr
  have hL0 := hL
  obtain ⟨ad, cap, b0, o, rfl, _, _⟩ := hr.open
  obtain ⟨ad2, cap2, b02, o2, rfl, _, _⟩ := hL.open
  rcases hV : verdictsE s r with ⟨vl, e⟩
  rcases hC : coverE s r with ⟨cl, f⟩
  rcases hR : rCover s r with ⟨rl, cb⟩
  obtain ⟨pb, hp⟩ : ∃ b, proveF s r l many = b := ⟨_, rfl⟩
  have hcase : (¬ rangedF s r = 0 ∧ e = rangedF s r ∧ f = rangedF s r ∧ vl.length = 0 ∧ cl.length = 0 ∧ pb = false) ∨ (rangedF s r = 0 ∧ e = 0 ∧ vl = verdictsL s r (s.weights.length + 1) ∧ ((f = 0 ∧ cb = true ∧ rl = cl ∧ cl.length ≤ 16) ∨ (f = 10 ∧ cb = false ∧ cl.length = 0))) := by
    unfold verdictsE at hV
    by_cases h : rangedF s r = 0
    · obtain ⟨hs, h12, h1, h2⟩ := rangedF_0 h
      rw [if_neg (by omega)] at hV
      cases hV
      refine .inr ⟨h, rfl, rfl, ?_⟩
      rcases cover_eq hs h1.1 h2.2 with ⟨q1, q2⟩ | ⟨x, q1, q2⟩
      · rw [cover_e1 h q1] at hC
        rw [q2] at hR
        cases hC; cases hR
        exact .inr ⟨rfl, rfl, rfl⟩
      · rw [cover_e0 h q1] at hC
        have hx := rCoverN_len s r (2 ^ (s.weights.length + 1))
        have : (rCover s r).1.length ≤ 16 := hx
        rw [q2] at hR this
        cases hC; cases hR
        exact .inl ⟨rfl, rfl, rfl, this⟩
    · unfold coverE at hC
      rw [if_pos h] at hV hC
      cases hV; cases hC
      refine .inl ⟨h, rfl, rfl, rfl, rfl, ?_⟩
      rw [← hp]; unfold proveF; exact decide_eq_false fun hh => h hh.1
  refine cnv (vs := [_, _, _, _]) Try.func13 rfl rfl ?_
  all_goals refine tc_seq fun K1 hK1 => ?_
  all_goals refine tc_region ?_
  all_goals refine tl_e (e_box rfl rfl rfl) rfl (fun b4 _ => ?_)
  all_goals refine tl_e (e_box rfl rfl rfl) rfl (fun b5 _ => ?_)
  all_goals refine tl_q (y_assign rfl) rfl ?_
  all_goals refine tl_nil ?_
  all_goals (refine hK1 ?_; try (clear hK1; clear K1))
  all_goals refine tc_seq fun K2 hK2 => ?_
  all_goals refine tc_seq fun K3 hK3 => ?_
  all_goals refine tc_lay ([]) (SB.s (by repeat constructor)) (fun wl1 hl1 => ?_)
  all_goals refine tc_region ?_
  all_goals (first | refine tl_q (y_loadW rfl (by repeat constructor) (by rfl)) rfl ?_ | refine tl_q (y_loadN rfl (by repeat constructor) (by (repeat (first | exact .nil | apply CA.cons rfl)); done)) rfl ?_ | refine tl_q (y_loadWf rfl (hl1.at (by repeat constructor)) (MI.m (by repeat constructor)) (by simp) (by rfl)) rfl ?_ | refine tl_q (y_load1f rfl (hl1.at (by repeat constructor)) (MI.m (by repeat constructor)) (by simp) (by rfl)) rfl ?_ | refine tl_q (y_load1o (v := vi (vdF s r i)) rfl (fun w' hw' => by rw [show Int.toNat (i : Int) * 1 = i from by omega, ← verd_get (n := s.weights.length + 1) (by omega), ← hvl]; exact hcell w' (hw'.fr (MI.m (by repeat constructor))) i (by omega))) rfl ?_)
  all_goals refine tl_e (e_callV rfl (.cons rfl .nil) (fun w' hw' => thin_c s _ w' (hr0.fr (hw'.fr (w0 := w) (S := []) (MI.m (by repeat constructor)))))) rfl (fun _ _ => ?_)
  all_goals (first | refine tl_q (y_not_dec rfl) rfl ?_ | refine tl_q (y_not rfl) rfl ?_)
  all_goals refine tl_q (y_move rfl) rfl ?_
  all_goals (first | refine tl_sk rfl rfl rfl rfl ?_ | refine tl_qg rfl rfl (y_move rfl) rfl ?_ | refine tl_su rfl rfl rfl ?_ | (refine tl_gs rfl rfl (fun hc => ?_) (fun hc => ?_) <;> (try simp only [decide_eq_true_eq, decide_eq_false_iff_not, Int.not_lt, Int.not_le, Bool.not_eq_true', Bool.not_eq_false', Decidable.not_not, not_true_eq_false] at hc) <;> (first | (exfalso; omega) | refine tl_sk rfl rfl rfl rfl ?_ | refine tl_qg rfl rfl (y_move rfl) rfl ?_ | refine tl_su rfl rfl rfl ?_)))
  all_goals (first | refine tl_sk rfl rfl rfl rfl ?_ | refine tl_qg rfl rfl (y_len rfl) rfl ?_ | refine tl_su rfl rfl rfl ?_ | (refine tl_gs rfl rfl (fun hc => ?_) (fun hc => ?_) <;> (try simp only [decide_eq_true_eq, decide_eq_false_iff_not, Int.not_lt, Int.not_le, Bool.not_eq_true', Bool.not_eq_false', Decidable.not_not, not_true_eq_false] at hc) <;> (first | (exfalso; omega) | refine tl_sk rfl rfl rfl rfl ?_ | refine tl_qg rfl rfl (y_len rfl) rfl ?_ | refine tl_su rfl rfl rfl ?_)))
  all_goals (first | refine tl_sk rfl rfl rfl rfl ?_ | refine tl_qg rfl rfl (y_gtr rfl rfl) rfl ?_ | refine tl_su rfl rfl rfl ?_ | (refine tl_gs rfl rfl (fun hc => ?_) (fun hc => ?_) <;> (try simp only [decide_eq_true_eq, decide_eq_false_iff_not, Int.not_lt, Int.not_le, Bool.not_eq_true', Bool.not_eq_false', Decidable.not_not, not_true_eq_false] at hc) <;> (first | (exfalso; omega) | refine tl_sk rfl rfl rfl rfl ?_ | refine tl_qg rfl rfl (y_gtr rfl rfl) rfl ?_ | refine tl_su rfl rfl rfl ?_)))
  all_goals (first | refine tl_q (y_pick_t rfl rfl) rfl ?_ | refine tl_q (y_pick_f rfl rfl) rfl ?_)
  all_goals refine tl_nil ?_
  all_goals (refine hK3 ?_; try (clear hK3; clear K3))
  all_goals (
   refine tc_cond rfl (fun hc => ?_) (fun hc => ?_)
   · try simp only [decide_eq_true_eq, decide_eq_false_iff_not, Int.not_lt, Int.not_le, Bool.not_eq_true', Bool.not_eq_false', Decidable.not_not, not_true_eq_false] at hc
     all_goals first | (exfalso; with_reducible exact bft hc) | (exfalso; with_reducible exact btf hc) | (exfalso; omega) | skip
     all_goals refine tc_seq fun K4 hK4 => ?_
     all_goals refine tc_lay ([]) (SB.s (by repeat constructor)) (fun wl2 hl2 => ?_)
     all_goals refine tc_region ?_
     all_goals refine tl_e (e_callV rfl .nil (fun w' _ => awake_c w')) rfl (fun _ _ => ?_)
     all_goals refine tl_q (y_assign rfl) rfl ?_
     all_goals refine tl_nil ?_
     all_goals (refine hK4 ?_; try (clear hK4; clear K4))
     all_goals refine tc_ret ?_
     all_goals (repeat (first | refine tk_then_ret ?_ | refine tk_block_ret ?_ | refine tk_scope_ret ?_))
     all_goals first | refine tk_ret rfl rfl (.cons (.tmp rfl) .nil) ?_ | refine tk_retM rfl (by repeat constructor) rfl (.cons (.tmp rfl) .nil) ?_
     all_goals (
      refine fun w' hw' => ⟨?_, hw'.fr (w0 := w) (S := []) (MI.m (by repeat constructor))⟩
      first
      | rfl
      | (exfalso; omega)
      | (exfalso; simp_all))
   · try simp only [decide_eq_true_eq, decide_eq_false_iff_not, Int.not_lt, Int.not_le, Bool.not_eq_true', Bool.not_eq_false', Decidable.not_not, not_true_eq_false] at hc
     all_goals first | (exfalso; with_reducible exact bft hc) | (exfalso; with_reducible exact btf hc) | (exfalso; omega) | skip
     all_goals refine tc_skip ?_
     all_goals (refine hK2 ?_; try (clear hK2; clear K2))
     all_goals refine tc_seq fun K5 hK5 => ?_
     all_goals refine tc_lay ([]) (SB.s (by repeat constructor)) (fun wl3 hl3 => ?_)
     all_goals refine tc_draw (by kernel_rfl) ?_
     all_goals (first | refine tx_q 0 rfl (by kernel_rfl) (y_loadW rfl (by repeat constructor) (by rfl)) rfl (fun _ _ _ h => h) (fun _ h => h) ?_ | refine tx_q 0 rfl (by kernel_rfl) (y_loadN rfl (by repeat constructor) (by (repeat (first | exact .nil | apply CA.cons rfl)); done)) rfl (fun _ _ _ h => h) (fun _ h => h) ?_ | refine tx_q 0 rfl (by kernel_rfl) (y_loadWf rfl (hl1.at (by repeat constructor)) (MI.m (by repeat constructor)) (by simp) (by rfl)) rfl (fun _ _ _ h => h) (fun _ h => h) ?_ | refine tx_q 0 rfl (by kernel_rfl) (y_load1f rfl (hl1.at (by repeat constructor)) (MI.m (by repeat constructor)) (by simp) (by rfl)) rfl (fun _ _ _ h => h) (fun _ h => h) ?_ | refine tx_q 0 rfl (by kernel_rfl) (y_load1o (v := vi (vdF s r i)) rfl (fun w' hw' => by rw [show Int.toNat (i : Int) * 1 = i from by omega, ← verd_get (n := s.weights.length + 1) (by omega), ← hvl]; exact hcell w' (hw'.fr (MI.m (by repeat constructor))) i (by omega))) rfl (fun _ _ _ h => h) (fun _ h => h) ?_)
     all_goals (first | refine tx_q 2 rfl (by kernel_rfl) (y_loadW rfl (by repeat constructor) (by rfl)) rfl (fun _ _ _ h => h) (fun _ h => h) ?_ | refine tx_q 2 rfl (by kernel_rfl) (y_loadN rfl (by repeat constructor) (by (repeat (first | exact .nil | apply CA.cons rfl)); done)) rfl (fun _ _ _ h => h) (fun _ h => h) ?_ | refine tx_q 2 rfl (by kernel_rfl) (y_loadWf rfl (hl1.at (by repeat constructor)) (MI.m (by repeat constructor)) (by simp) (by rfl)) rfl (fun _ _ _ h => h) (fun _ h => h) ?_ | refine tx_q 2 rfl (by kernel_rfl) (y_load1f rfl (hl1.at (by repeat constructor)) (MI.m (by repeat constructor)) (by simp) (by rfl)) rfl (fun _ _ _ h => h) (fun _ h => h) ?_ | refine tx_q 2 rfl (by kernel_rfl) (y_load1o (v := vi (vdF s r i)) rfl (fun w' hw' => by rw [show Int.toNat (i : Int) * 1 = i from by omega, ← verd_get (n := s.weights.length + 1) (by omega), ← hvl]; exact hcell w' (hw'.fr (MI.m (by repeat constructor))) i (by omega))) rfl (fun _ _ _ h => h) (fun _ h => h) ?_)
     all_goals refine tx_e 1 rfl (by kernel_rfl) rfl (e_callX rfl (.cons rfl .nil) (fun w' hw' => spindle_c s (by omega) _ w' (hr0.fr (hw'.fr (w0 := w) (S := []) (MI.m (by repeat constructor)))))) (.inr fun _ _ h => h.sub (fun _ h => List.mem_cons_of_mem _ h) (List.Sublist.refl _)) (fun x hx => ?_)
     all_goals refine tx_e 3 rfl (by kernel_rfl) rfl (e_callV rfl (.cons rfl .nil) (fun w' _ => to_c _ w')) (.inr fun _ _ h => h) (fun _ _ => ?_)
     all_goals refine tx_e 4 rfl (by kernel_rfl) rfl (e_callX rfl (.cons rfl (.cons rfl .nil)) (fun w' hw' => verdicts_v s (nb9 (by omega)) r hV _ w' (hx.1.fr (hw'.fr (MI.m (by repeat constructor)))))) (.inr fun _ _ h => h.sub (fun _ h => List.mem_cons_of_mem _ h) (List.Sublist.refl _)) (fun y hy => ?_)
     all_goals refine tx_p 5 rfl (by kernel_rfl) (y_move rfl) rfl (fun _ _ _ h => h) (fun _ h => h) ?_
     all_goals refine tx_p 6 rfl (by kernel_rfl) (y_extract rfl rfl) rfl (fun _ _ _ h => h) (fun _ h => h) ?_
     all_goals refine tx_p 7 rfl (by kernel_rfl) (y_extract rfl rfl) rfl (fun _ _ _ h => h) (fun _ h => h) ?_
     all_goals refine tx_p 8 rfl (by kernel_rfl) (y_assign rfl) rfl (fun _ _ _ h => h) (fun _ h => h) ?_
     all_goals refine tx_p 9 rfl (by kernel_rfl) (y_assign rfl) rfl (fun _ _ _ h => h) (fun _ h => h) ?_
     all_goals refine tx_done (by kernel_rfl) ?_
     all_goals (refine hK5 ?_; try (clear hK5; clear K5))
     all_goals refine tc_seq fun K6 hK6 => ?_
     all_goals refine tc_lay ([]) (SB.s (by repeat constructor)) (fun wl4 hl4 => ?_)
     all_goals refine tc_draw (by kernel_rfl) ?_
     all_goals (first | refine tx_q 0 rfl (by kernel_rfl) (y_loadW rfl (by repeat constructor) (by rfl)) rfl (fun _ _ _ h => h) (fun _ h => h) ?_ | refine tx_q 0 rfl (by kernel_rfl) (y_loadN rfl (by repeat constructor) (by (repeat (first | exact .nil | apply CA.cons rfl)); done)) rfl (fun _ _ _ h => h) (fun _ h => h) ?_ | refine tx_q 0 rfl (by kernel_rfl) (y_loadWf rfl (hl1.at (by repeat constructor)) (MI.m (by repeat constructor)) (by simp) (by rfl)) rfl (fun _ _ _ h => h) (fun _ h => h) ?_ | refine tx_q 0 rfl (by kernel_rfl) (y_load1f rfl (hl1.at (by repeat constructor)) (MI.m (by repeat constructor)) (by simp) (by rfl)) rfl (fun _ _ _ h => h) (fun _ h => h) ?_ | refine tx_q 0 rfl (by kernel_rfl) (y_load1o (v := vi (vdF s r i)) rfl (fun w' hw' => by rw [show Int.toNat (i : Int) * 1 = i from by omega, ← verd_get (n := s.weights.length + 1) (by omega), ← hvl]; exact hcell w' (hw'.fr (MI.m (by repeat constructor))) i (by omega))) rfl (fun _ _ _ h => h) (fun _ h => h) ?_)
     all_goals (first | refine tx_q 2 rfl (by kernel_rfl) (y_loadW rfl (by repeat constructor) (by rfl)) rfl (fun _ _ _ h => h) (fun _ h => h) ?_ | refine tx_q 2 rfl (by kernel_rfl) (y_loadN rfl (by repeat constructor) (by (repeat (first | exact .nil | apply CA.cons rfl)); done)) rfl (fun _ _ _ h => h) (fun _ h => h) ?_ | refine tx_q 2 rfl (by kernel_rfl) (y_loadWf rfl (hl1.at (by repeat constructor)) (MI.m (by repeat constructor)) (by simp) (by rfl)) rfl (fun _ _ _ h => h) (fun _ h => h) ?_ | refine tx_q 2 rfl (by kernel_rfl) (y_load1f rfl (hl1.at (by repeat constructor)) (MI.m (by repeat constructor)) (by simp) (by rfl)) rfl (fun _ _ _ h => h) (fun _ h => h) ?_ | refine tx_q 2 rfl (by kernel_rfl) (y_load1o (v := vi (vdF s r i)) rfl (fun w' hw' => by rw [show Int.toNat (i : Int) * 1 = i from by omega, ← verd_get (n := s.weights.length + 1) (by omega), ← hvl]; exact hcell w' (hw'.fr (MI.m (by repeat constructor))) i (by omega))) rfl (fun _ _ _ h => h) (fun _ h => h) ?_)
     all_goals refine tx_e 1 rfl (by kernel_rfl) rfl (e_callX rfl (.cons rfl .nil) (fun w' hw' => spindle_c s (by omega) _ w' (hr0.fr (hw'.fr (w0 := w) (S := []) (MI.m (by repeat constructor)))))) (.inr fun _ _ h => h.sub (fun _ h => List.mem_cons_of_mem _ h) (List.Sublist.refl _)) (fun x2 hx2 => ?_)
     all_goals refine tx_e 3 rfl (by kernel_rfl) rfl (e_callV rfl (.cons rfl .nil) (fun w' _ => to_c _ w')) (.inr fun _ _ h => h) (fun _ _ => ?_)
     all_goals refine tx_e 4 rfl (by kernel_rfl) rfl (e_callX rfl (.cons rfl (.cons rfl .nil)) (fun w' hw' => cover_v s (nb9 (by omega)) r hC _ w' (hx2.1.fr (hw'.fr (MI.m (by repeat constructor)))))) (.inr fun _ _ h => h.sub (fun _ h => List.mem_cons_of_mem _ h) (List.Sublist.refl _)) (fun z hz => ?_)
     all_goals refine tx_p 5 rfl (by kernel_rfl) (y_move rfl) rfl (fun _ _ _ h => h) (fun _ h => h) ?_
     all_goals refine tx_p 6 rfl (by kernel_rfl) (y_extract rfl rfl) rfl (fun _ _ _ h => h) (fun _ h => h) ?_
     all_goals refine tx_p 7 rfl (by kernel_rfl) (y_extract rfl rfl) rfl (fun _ _ _ h => h) (fun _ h => h) ?_
     all_goals refine tx_p 8 rfl (by kernel_rfl) (y_assign rfl) rfl (fun _ _ _ h => h) (fun _ h => h) ?_
     all_goals refine tx_p 9 rfl (by kernel_rfl) (y_assign rfl) rfl (fun _ _ _ h => h) (fun _ h => h) ?_
     all_goals refine tx_done (by kernel_rfl) ?_
     all_goals (refine hK6 ?_; try (clear hK6; clear K6))
     all_goals refine tc_seq fun K7 hK7 => ?_
     all_goals refine tc_lay ([]) (SB.s (by repeat constructor)) (fun wl5 hl5 => ?_)
     all_goals refine tc_draw (by kernel_rfl) ?_
     all_goals (first | refine tx_q 0 rfl (by kernel_rfl) (y_loadW rfl (by repeat constructor) (by rfl)) rfl (fun _ _ _ h => h) (fun _ h => h) ?_ | refine tx_q 0 rfl (by kernel_rfl) (y_loadN rfl (by repeat constructor) (by (repeat (first | exact .nil | apply CA.cons rfl)); done)) rfl (fun _ _ _ h => h) (fun _ h => h) ?_ | refine tx_q 0 rfl (by kernel_rfl) (y_loadWf rfl (hl1.at (by repeat constructor)) (MI.m (by repeat constructor)) (by simp) (by rfl)) rfl (fun _ _ _ h => h) (fun _ h => h) ?_ | refine tx_q 0 rfl (by kernel_rfl) (y_load1f rfl (hl1.at (by repeat constructor)) (MI.m (by repeat constructor)) (by simp) (by rfl)) rfl (fun _ _ _ h => h) (fun _ h => h) ?_ | refine tx_q 0 rfl (by kernel_rfl) (y_load1o (v := vi (vdF s r i)) rfl (fun w' hw' => by rw [show Int.toNat (i : Int) * 1 = i from by omega, ← verd_get (n := s.weights.length + 1) (by omega), ← hvl]; exact hcell w' (hw'.fr (MI.m (by repeat constructor))) i (by omega))) rfl (fun _ _ _ h => h) (fun _ h => h) ?_)
     all_goals (first | refine tx_q 2 rfl (by kernel_rfl) (y_loadW rfl (by repeat constructor) (by rfl)) rfl (fun _ _ _ h => h) (fun _ h => h) ?_ | refine tx_q 2 rfl (by kernel_rfl) (y_loadN rfl (by repeat constructor) (by (repeat (first | exact .nil | apply CA.cons rfl)); done)) rfl (fun _ _ _ h => h) (fun _ h => h) ?_ | refine tx_q 2 rfl (by kernel_rfl) (y_loadWf rfl (hl1.at (by repeat constructor)) (MI.m (by repeat constructor)) (by simp) (by rfl)) rfl (fun _ _ _ h => h) (fun _ h => h) ?_ | refine tx_q 2 rfl (by kernel_rfl) (y_load1f rfl (hl1.at (by repeat constructor)) (MI.m (by repeat constructor)) (by simp) (by rfl)) rfl (fun _ _ _ h => h) (fun _ h => h) ?_ | refine tx_q 2 rfl (by kernel_rfl) (y_load1o (v := vi (vdF s r i)) rfl (fun w' hw' => by rw [show Int.toNat (i : Int) * 1 = i from by omega, ← verd_get (n := s.weights.length + 1) (by omega), ← hvl]; exact hcell w' (hw'.fr (MI.m (by repeat constructor))) i (by omega))) rfl (fun _ _ _ h => h) (fun _ h => h) ?_)
     all_goals refine tx_p 4 rfl (by kernel_rfl) (y_move rfl) rfl (fun _ _ _ h => h) (fun _ h => h) ?_
     all_goals refine tx_p 6 rfl (by kernel_rfl) (y_move rfl) rfl (fun _ _ _ h => h) (fun _ h => h) ?_
     all_goals refine tx_e 1 rfl (by kernel_rfl) rfl (e_callX rfl (.cons rfl .nil) (fun w' hw' => spindle_c s (by omega) _ w' (hr0.fr (hw'.fr (w0 := w) (S := []) (MI.m (by repeat constructor)))))) (.inr fun _ _ h => h.sub (fun _ h => List.mem_cons_of_mem _ h) (List.Sublist.refl _)) (fun x3 hx3 => ?_)
     all_goals refine tx_e 3 rfl (by kernel_rfl) rfl (e_callV rfl (.cons rfl .nil) (fun w' _ => to_c _ w')) (.inr fun _ _ h => h) (fun _ _ => ?_)
     all_goals refine tx_e 5 rfl (by kernel_rfl) rfl (e_callX rfl (.cons rfl .nil) (fun w' hw' => list_v l (by omega) _ w' (hL0.fr (hw'.fr (w0 := w) (S := []) (MI.m (by repeat constructor)))))) (.inr fun _ _ h => h.sub (fun _ h => List.mem_cons_of_mem _ h) (List.Sublist.refl _)) (fun u hu => ?_)
     all_goals refine tx_e 7 rfl (by kernel_rfl) rfl (e_callV rfl (.cons rfl (.cons rfl (.cons rfl (.cons rfl .nil)))) (fun w' hw' => prove_v s (nb9 (by omega)) r l (by omega) many hp _ _ w' (hx3.1.fr (hw'.fr (MI.m (by repeat constructor)))) (hu.1.fr (hw'.fr (MI.m (by repeat constructor)))))) (.inr fun _ _ h => h) (fun _ _ => ?_)
     all_goals refine tx_p 8 rfl (by kernel_rfl) (y_assign rfl) rfl (fun _ _ _ h => h) (fun _ h => h) ?_
     all_goals refine tx_done (by kernel_rfl) ?_
     all_goals (refine hK7 ?_; try (clear hK7; clear K7))
     all_goals refine tc_seq fun K8 hK8 => ?_
     all_goals refine tc_seq fun K9 hK9 => ?_
     all_goals refine tc_lay ([]) (SB.s (by repeat constructor)) (fun wl6 hl6 => ?_)
     all_goals refine tc_region ?_
     all_goals (first | refine tl_q (y_loadW rfl (by repeat constructor) (by rfl)) rfl ?_ | refine tl_q (y_loadN rfl (by repeat constructor) (by (repeat (first | exact .nil | apply CA.cons rfl)); done)) rfl ?_ | refine tl_q (y_loadWf rfl (hl1.at (by repeat constructor)) (MI.m (by repeat constructor)) (by simp) (by rfl)) rfl ?_ | refine tl_q (y_load1f rfl (hl1.at (by repeat constructor)) (MI.m (by repeat constructor)) (by simp) (by rfl)) rfl ?_ | refine tl_q (y_load1o (v := vi (vdF s r i)) rfl (fun w' hw' => by rw [show Int.toNat (i : Int) * 1 = i from by omega, ← verd_get (n := s.weights.length + 1) (by omega), ← hvl]; exact hcell w' (hw'.fr (MI.m (by repeat constructor))) i (by omega))) rfl ?_)
     all_goals (first | refine tl_q (y_loadW rfl (by repeat constructor) (by rfl)) rfl ?_ | refine tl_q (y_loadN rfl (by repeat constructor) (by (repeat (first | exact .nil | apply CA.cons rfl)); done)) rfl ?_ | refine tl_q (y_loadWf rfl (hl1.at (by repeat constructor)) (MI.m (by repeat constructor)) (by simp) (by rfl)) rfl ?_ | refine tl_q (y_load1f rfl (hl1.at (by repeat constructor)) (MI.m (by repeat constructor)) (by simp) (by rfl)) rfl ?_ | refine tl_q (y_load1o (v := vi (vdF s r i)) rfl (fun w' hw' => by rw [show Int.toNat (i : Int) * 1 = i from by omega, ← verd_get (n := s.weights.length + 1) (by omega), ← hvl]; exact hcell w' (hw'.fr (MI.m (by repeat constructor))) i (by omega))) rfl ?_)
     all_goals refine tl_e (e_callV rfl (.cons rfl (.cons rfl .nil)) (fun w' hw' => ranged2_c s (nb9 (by omega)) r _ w' (hr0.fr (hw'.fr (w0 := w) (S := []) (MI.m (by repeat constructor)))))) rfl (fun _ _ => ?_)
     all_goals refine tl_q (y_assign rfl) rfl ?_
     all_goals refine tl_nil ?_
     all_goals (refine hK9 ?_; try (clear hK9; clear K9))
     all_goals refine tc_seq fun K10 hK10 => ?_
     all_goals refine tc_lay ([]) (SB.s (by repeat constructor)) (fun wl7 hl7 => ?_)
     all_goals refine tc_region ?_
     all_goals refine tl_q (y_move rfl) rfl ?_
     all_goals refine tl_q (y_neq rfl rfl) rfl ?_
     all_goals refine tl_nil ?_
     all_goals (refine hK10 ?_; try (clear hK10; clear K10))
     all_goals (
      refine tc_cond rfl (fun hc => ?_) (fun hc => ?_)
      · try simp only [decide_eq_true_eq, decide_eq_false_iff_not, Int.not_lt, Int.not_le, Bool.not_eq_true', Bool.not_eq_false', Decidable.not_not, not_true_eq_false] at hc
        all_goals first | (exfalso; with_reducible exact bft hc) | (exfalso; with_reducible exact btf hc) | (exfalso; omega) | skip
        all_goals refine tc_seq fun K11 hK11 => ?_
        all_goals refine tc_lay ([]) (SB.s (by repeat constructor)) (fun wl8 hl8 => ?_)
        all_goals refine tc_region ?_
        all_goals refine tl_q (y_move rfl) rfl ?_
        all_goals refine tl_q (y_move rfl) rfl ?_
        all_goals refine tl_q (y_eql rfl rfl) rfl ?_
        all_goals refine tl_q (y_move rfl) rfl ?_
        all_goals (first | refine tl_sk rfl rfl rfl rfl ?_ | refine tl_qg rfl rfl (y_move rfl) rfl ?_ | refine tl_su rfl rfl rfl ?_ | (refine tl_gs rfl rfl (fun hc => ?_) (fun hc => ?_) <;> (try simp only [decide_eq_true_eq, decide_eq_false_iff_not, Int.not_lt, Int.not_le, Bool.not_eq_true', Bool.not_eq_false', Decidable.not_not, not_true_eq_false] at hc) <;> (first | (exfalso; omega) | refine tl_sk rfl rfl rfl rfl ?_ | refine tl_qg rfl rfl (y_move rfl) rfl ?_ | refine tl_su rfl rfl rfl ?_)))
        all_goals (first | refine tl_sk rfl rfl rfl rfl ?_ | refine tl_qg rfl rfl (y_move rfl) rfl ?_ | refine tl_su rfl rfl rfl ?_ | (refine tl_gs rfl rfl (fun hc => ?_) (fun hc => ?_) <;> (try simp only [decide_eq_true_eq, decide_eq_false_iff_not, Int.not_lt, Int.not_le, Bool.not_eq_true', Bool.not_eq_false', Decidable.not_not, not_true_eq_false] at hc) <;> (first | (exfalso; omega) | refine tl_sk rfl rfl rfl rfl ?_ | refine tl_qg rfl rfl (y_move rfl) rfl ?_ | refine tl_su rfl rfl rfl ?_)))
        all_goals (first | refine tl_sk rfl rfl rfl rfl ?_ | refine tl_qg rfl rfl (y_eql rfl rfl) rfl ?_ | refine tl_su rfl rfl rfl ?_ | (refine tl_gs rfl rfl (fun hc => ?_) (fun hc => ?_) <;> (try simp only [decide_eq_true_eq, decide_eq_false_iff_not, Int.not_lt, Int.not_le, Bool.not_eq_true', Bool.not_eq_false', Decidable.not_not, not_true_eq_false] at hc) <;> (first | (exfalso; omega) | refine tl_sk rfl rfl rfl rfl ?_ | refine tl_qg rfl rfl (y_eql rfl rfl) rfl ?_ | refine tl_su rfl rfl rfl ?_)))
        all_goals (first | refine tl_q (y_pick_t rfl rfl) rfl ?_ | refine tl_q (y_pick_f rfl rfl) rfl ?_)
        all_goals refine tl_q (y_move rfl) rfl ?_
        all_goals (first | refine tl_sk rfl rfl rfl rfl ?_ | refine tl_qg rfl rfl (y_move rfl) rfl ?_ | refine tl_su rfl rfl rfl ?_ | (refine tl_gs rfl rfl (fun hc => ?_) (fun hc => ?_) <;> (try simp only [decide_eq_true_eq, decide_eq_false_iff_not, Int.not_lt, Int.not_le, Bool.not_eq_true', Bool.not_eq_false', Decidable.not_not, not_true_eq_false] at hc) <;> (first | (exfalso; omega) | refine tl_sk rfl rfl rfl rfl ?_ | refine tl_qg rfl rfl (y_move rfl) rfl ?_ | refine tl_su rfl rfl rfl ?_)))
        all_goals (first | refine tl_sk rfl rfl rfl rfl ?_ | refine tl_qg rfl rfl (y_not_dec rfl) rfl ?_ | refine tl_qg rfl rfl (y_not rfl) rfl ?_ | refine tl_su rfl rfl rfl ?_ | (refine tl_gs rfl rfl (fun hc => ?_) (fun hc => ?_) <;> (try simp only [decide_eq_true_eq, decide_eq_false_iff_not, Int.not_lt, Int.not_le, Bool.not_eq_true', Bool.not_eq_false', Decidable.not_not, not_true_eq_false] at hc) <;> (first | (exfalso; omega) | refine tl_sk rfl rfl rfl rfl ?_ | refine tl_qg rfl rfl (y_not_dec rfl) rfl ?_ | refine tl_qg rfl rfl (y_not rfl) rfl ?_ | refine tl_su rfl rfl rfl ?_)))
        all_goals (first | refine tl_q (y_pick_t rfl rfl) rfl ?_ | refine tl_q (y_pick_f rfl rfl) rfl ?_)
        all_goals refine tl_q (y_move rfl) rfl ?_
        all_goals (first | refine tl_sk rfl rfl rfl rfl ?_ | refine tl_qg rfl rfl (y_move rfl) rfl ?_ | refine tl_su rfl rfl rfl ?_ | (refine tl_gs rfl rfl (fun hc => ?_) (fun hc => ?_) <;> (try simp only [decide_eq_true_eq, decide_eq_false_iff_not, Int.not_lt, Int.not_le, Bool.not_eq_true', Bool.not_eq_false', Decidable.not_not, not_true_eq_false] at hc) <;> (first | (exfalso; omega) | refine tl_sk rfl rfl rfl rfl ?_ | refine tl_qg rfl rfl (y_move rfl) rfl ?_ | refine tl_su rfl rfl rfl ?_)))
        all_goals (first | refine tl_sk rfl rfl rfl rfl ?_ | refine tl_qg rfl rfl (y_len rfl) rfl ?_ | refine tl_su rfl rfl rfl ?_ | (refine tl_gs rfl rfl (fun hc => ?_) (fun hc => ?_) <;> (try simp only [decide_eq_true_eq, decide_eq_false_iff_not, Int.not_lt, Int.not_le, Bool.not_eq_true', Bool.not_eq_false', Decidable.not_not, not_true_eq_false] at hc) <;> (first | (exfalso; omega) | refine tl_sk rfl rfl rfl rfl ?_ | refine tl_qg rfl rfl (y_len rfl) rfl ?_ | refine tl_su rfl rfl rfl ?_)))
        all_goals (first | refine tl_sk rfl rfl rfl rfl ?_ | refine tl_qg rfl rfl (y_move rfl) rfl ?_ | refine tl_su rfl rfl rfl ?_ | (refine tl_gs rfl rfl (fun hc => ?_) (fun hc => ?_) <;> (try simp only [decide_eq_true_eq, decide_eq_false_iff_not, Int.not_lt, Int.not_le, Bool.not_eq_true', Bool.not_eq_false', Decidable.not_not, not_true_eq_false] at hc) <;> (first | (exfalso; omega) | refine tl_sk rfl rfl rfl rfl ?_ | refine tl_qg rfl rfl (y_move rfl) rfl ?_ | refine tl_su rfl rfl rfl ?_)))
        all_goals (first | refine tl_sk rfl rfl rfl rfl ?_ | refine tl_qg rfl rfl (y_len rfl) rfl ?_ | refine tl_su rfl rfl rfl ?_ | (refine tl_gs rfl rfl (fun hc => ?_) (fun hc => ?_) <;> (try simp only [decide_eq_true_eq, decide_eq_false_iff_not, Int.not_lt, Int.not_le, Bool.not_eq_true', Bool.not_eq_false', Decidable.not_not, not_true_eq_false] at hc) <;> (first | (exfalso; omega) | refine tl_sk rfl rfl rfl rfl ?_ | refine tl_qg rfl rfl (y_len rfl) rfl ?_ | refine tl_su rfl rfl rfl ?_)))
        all_goals (first | refine tl_sk rfl rfl rfl rfl ?_ | refine tl_qg rfl rfl (y_add rfl rfl (by omega)) rfl ?_ | refine tl_su rfl rfl rfl ?_ | (refine tl_gs rfl rfl (fun hc => ?_) (fun hc => ?_) <;> (try simp only [decide_eq_true_eq, decide_eq_false_iff_not, Int.not_lt, Int.not_le, Bool.not_eq_true', Bool.not_eq_false', Decidable.not_not, not_true_eq_false] at hc) <;> (first | (exfalso; omega) | refine tl_sk rfl rfl rfl rfl ?_ | refine tl_qg rfl rfl (y_add rfl rfl (by omega)) rfl ?_ | refine tl_su rfl rfl rfl ?_)))
        all_goals (first | refine tl_sk rfl rfl rfl rfl ?_ | refine tl_qg rfl rfl (y_eql rfl rfl) rfl ?_ | refine tl_su rfl rfl rfl ?_ | (refine tl_gs rfl rfl (fun hc => ?_) (fun hc => ?_) <;> (try simp only [decide_eq_true_eq, decide_eq_false_iff_not, Int.not_lt, Int.not_le, Bool.not_eq_true', Bool.not_eq_false', Decidable.not_not, not_true_eq_false] at hc) <;> (first | (exfalso; omega) | refine tl_sk rfl rfl rfl rfl ?_ | refine tl_qg rfl rfl (y_eql rfl rfl) rfl ?_ | refine tl_su rfl rfl rfl ?_)))
        all_goals (first | refine tl_q (y_pick_t rfl rfl) rfl ?_ | refine tl_q (y_pick_f rfl rfl) rfl ?_)
        all_goals refine tl_q (y_move rfl) rfl ?_
        all_goals (first | refine tl_sk rfl rfl rfl rfl ?_ | refine tl_eg rfl rfl rfl (e_callV rfl .nil (fun w' _ => awake_c w')) (fun _ _ => ?_) | refine tl_su rfl rfl rfl ?_ | (refine tl_gs rfl rfl (fun hc => ?_) (fun hc => ?_) <;> (try simp only [decide_eq_true_eq, decide_eq_false_iff_not, Int.not_lt, Int.not_le, Bool.not_eq_true', Bool.not_eq_false', Decidable.not_not, not_true_eq_false] at hc) <;> (first | (exfalso; omega) | refine tl_sk rfl rfl rfl rfl ?_ | refine tl_eg rfl rfl rfl (e_callV rfl .nil (fun w' _ => awake_c w')) (fun _ _ => ?_) | refine tl_su rfl rfl rfl ?_)))
        all_goals (first | refine tl_q (y_pick_t rfl rfl) rfl ?_ | refine tl_q (y_pick_f rfl rfl) rfl ?_)
        all_goals refine tl_q (y_assign rfl) rfl ?_
        all_goals refine tl_nil ?_
        all_goals (refine hK11 ?_; try (clear hK11; clear K11))
        all_goals refine tc_ret ?_
        all_goals (repeat (first | refine tk_then_ret ?_ | refine tk_block_ret ?_ | refine tk_scope_ret ?_))
        all_goals first | refine tk_ret rfl rfl (.cons (.tmp rfl) .nil) ?_ | refine tk_retM rfl (by repeat constructor) rfl (.cons (.tmp rfl) .nil) ?_
        all_goals (
         refine fun w' hw' => ⟨?_, hw'.fr (w0 := w) (S := []) (MI.m (by repeat constructor))⟩
         first
         | rfl
         | (exfalso; omega)
         | (exfalso; simp_all))
      · try simp only [decide_eq_true_eq, decide_eq_false_iff_not, Int.not_lt, Int.not_le, Bool.not_eq_true', Bool.not_eq_false', Decidable.not_not, not_true_eq_false] at hc
        all_goals first | (exfalso; with_reducible exact bft hc) | (exfalso; with_reducible exact btf hc) | (exfalso; omega) | skip
        all_goals refine tc_skip ?_
        all_goals (refine hK8 ?_; try (clear hK8; clear K8))
        all_goals refine tc_seq fun K12 hK12 => ?_
        all_goals refine tc_seq fun K13 hK13 => ?_
        all_goals refine tc_lay ([]) (SB.s (by repeat constructor)) (fun wl9 hl9 => ?_)
        all_goals (have h00 : rangedF s r = 0 := by omega)
        all_goals (have hq := rangedF_0 h00; have hl6 := hq.1.n; have hcs := (hcase.resolve_left (fun h => h.1 h00)).2; obtain ⟨he, hvl, hco⟩ := hcs; have hvn : vl.length = s.weights.length + 1 := by rw [hvl, verdictsL_len])
        all_goals (clear hcase; rcases prove_cases hq.1 h00 hp with ⟨hA, rfl⟩ | ⟨hA, hle, rfl⟩ | ⟨hA, hle, hQ, rfl⟩ | ⟨hA, hle, hQ, rfl⟩)
        all_goals refine tc_region ?_
        all_goals refine tl_q (y_move rfl) rfl ?_
        all_goals refine tl_q (y_neq rfl rfl) rfl ?_
        all_goals refine tl_q (y_move rfl) rfl ?_
        all_goals (first | refine tl_sk rfl rfl rfl rfl ?_ | refine tl_qg rfl rfl (y_move rfl) rfl ?_ | refine tl_su rfl rfl rfl ?_ | (refine tl_gs rfl rfl (fun hc => ?_) (fun hc => ?_) <;> (try simp only [decide_eq_true_eq, decide_eq_false_iff_not, Int.not_lt, Int.not_le, Bool.not_eq_true', Bool.not_eq_false', Decidable.not_not, not_true_eq_false] at hc) <;> (first | (exfalso; omega) | refine tl_sk rfl rfl rfl rfl ?_ | refine tl_qg rfl rfl (y_move rfl) rfl ?_ | refine tl_su rfl rfl rfl ?_)))
        all_goals (first | refine tl_sk rfl rfl rfl rfl ?_ | refine tl_qg rfl rfl (y_len rfl) rfl ?_ | refine tl_su rfl rfl rfl ?_ | (refine tl_gs rfl rfl (fun hc => ?_) (fun hc => ?_) <;> (try simp only [decide_eq_true_eq, decide_eq_false_iff_not, Int.not_lt, Int.not_le, Bool.not_eq_true', Bool.not_eq_false', Decidable.not_not, not_true_eq_false] at hc) <;> (first | (exfalso; omega) | refine tl_sk rfl rfl rfl rfl ?_ | refine tl_qg rfl rfl (y_len rfl) rfl ?_ | refine tl_su rfl rfl rfl ?_)))
        all_goals (first | refine tl_sk rfl rfl rfl rfl ?_ | refine tl_qg rfl rfl (y_field rfl) rfl ?_ | refine tl_su rfl rfl rfl ?_ | (refine tl_gs rfl rfl (fun hc => ?_) (fun hc => ?_) <;> (try simp only [decide_eq_true_eq, decide_eq_false_iff_not, Int.not_lt, Int.not_le, Bool.not_eq_true', Bool.not_eq_false', Decidable.not_not, not_true_eq_false] at hc) <;> (first | (exfalso; omega) | refine tl_sk rfl rfl rfl rfl ?_ | refine tl_qg rfl rfl (y_field rfl) rfl ?_ | refine tl_su rfl rfl rfl ?_)))
        all_goals (first | refine tl_sk rfl rfl rfl rfl ?_ | refine tl_qg rfl rfl (y_load1 rfl (by repeat constructor) (by rfl)) rfl ?_ | refine tl_qg rfl rfl (y_load1f rfl (hl1.at (by repeat constructor)) (MI.m (by repeat constructor)) (by simp) (by rfl)) rfl ?_ | refine tl_qg rfl rfl (y_load1o (v := vi (vdF s r i)) rfl (fun w' hw' => by rw [show Int.toNat (i : Int) * 1 = i from by omega, ← verd_get (n := s.weights.length + 1) (by omega), ← hvl]; exact hcell w' (hw'.fr (MI.m (by repeat constructor))) i (by omega))) rfl ?_ | refine tl_su rfl rfl rfl ?_ | (refine tl_gs rfl rfl (fun hc => ?_) (fun hc => ?_) <;> (try simp only [decide_eq_true_eq, decide_eq_false_iff_not, Int.not_lt, Int.not_le, Bool.not_eq_true', Bool.not_eq_false', Decidable.not_not, not_true_eq_false] at hc) <;> (first | (exfalso; omega) | refine tl_sk rfl rfl rfl rfl ?_ | refine tl_qg rfl rfl (y_load1 rfl (by repeat constructor) (by rfl)) rfl ?_ | refine tl_qg rfl rfl (y_load1f rfl (hl1.at (by repeat constructor)) (MI.m (by repeat constructor)) (by simp) (by rfl)) rfl ?_ | refine tl_qg rfl rfl (y_load1o (v := vi (vdF s r i)) rfl (fun w' hw' => by rw [show Int.toNat (i : Int) * 1 = i from by omega, ← verd_get (n := s.weights.length + 1) (by omega), ← hvl]; exact hcell w' (hw'.fr (MI.m (by repeat constructor))) i (by omega))) rfl ?_ | refine tl_su rfl rfl rfl ?_)))
        all_goals (first | refine tl_sk rfl rfl rfl rfl ?_ | refine tl_qg rfl rfl (y_len rfl) rfl ?_ | refine tl_su rfl rfl rfl ?_ | (refine tl_gs rfl rfl (fun hc => ?_) (fun hc => ?_) <;> (try simp only [decide_eq_true_eq, decide_eq_false_iff_not, Int.not_lt, Int.not_le, Bool.not_eq_true', Bool.not_eq_false', Decidable.not_not, not_true_eq_false] at hc) <;> (first | (exfalso; omega) | refine tl_sk rfl rfl rfl rfl ?_ | refine tl_qg rfl rfl (y_len rfl) rfl ?_ | refine tl_su rfl rfl rfl ?_)))
        all_goals (first | refine tl_sk rfl rfl rfl rfl ?_ | refine tl_qg rfl rfl (y_add rfl rfl (by omega)) rfl ?_ | refine tl_su rfl rfl rfl ?_ | (refine tl_gs rfl rfl (fun hc => ?_) (fun hc => ?_) <;> (try simp only [decide_eq_true_eq, decide_eq_false_iff_not, Int.not_lt, Int.not_le, Bool.not_eq_true', Bool.not_eq_false', Decidable.not_not, not_true_eq_false] at hc) <;> (first | (exfalso; omega) | refine tl_sk rfl rfl rfl rfl ?_ | refine tl_qg rfl rfl (y_add rfl rfl (by omega)) rfl ?_ | refine tl_su rfl rfl rfl ?_)))
        all_goals (first | refine tl_sk rfl rfl rfl rfl ?_ | refine tl_qg rfl rfl (y_neq rfl rfl) rfl ?_ | refine tl_su rfl rfl rfl ?_ | (refine tl_gs rfl rfl (fun hc => ?_) (fun hc => ?_) <;> (try simp only [decide_eq_true_eq, decide_eq_false_iff_not, Int.not_lt, Int.not_le, Bool.not_eq_true', Bool.not_eq_false', Decidable.not_not, not_true_eq_false] at hc) <;> (first | (exfalso; omega) | refine tl_sk rfl rfl rfl rfl ?_ | refine tl_qg rfl rfl (y_neq rfl rfl) rfl ?_ | refine tl_su rfl rfl rfl ?_)))
        all_goals (first | refine tl_q (y_pick_t rfl rfl) rfl ?_ | refine tl_q (y_pick_f rfl rfl) rfl ?_)
        all_goals refine tl_q (y_move rfl) rfl ?_
        all_goals (first | refine tl_sk rfl rfl rfl rfl ?_ | refine tl_qg rfl rfl (y_move rfl) rfl ?_ | refine tl_su rfl rfl rfl ?_ | (refine tl_gs rfl rfl (fun hc => ?_) (fun hc => ?_) <;> (try simp only [decide_eq_true_eq, decide_eq_false_iff_not, Int.not_lt, Int.not_le, Bool.not_eq_true', Bool.not_eq_false', Decidable.not_not, not_true_eq_false] at hc) <;> (first | (exfalso; omega) | refine tl_sk rfl rfl rfl rfl ?_ | refine tl_qg rfl rfl (y_move rfl) rfl ?_ | refine tl_su rfl rfl rfl ?_)))
        all_goals (first | refine tl_sk rfl rfl rfl rfl ?_ | refine tl_qg rfl rfl (y_loadW rfl (by repeat constructor) (by rfl)) rfl ?_ | refine tl_qg rfl rfl (y_loadN rfl (by repeat constructor) (by (repeat (first | exact .nil | apply CA.cons rfl)); done)) rfl ?_ | refine tl_qg rfl rfl (y_loadWf rfl (hl1.at (by repeat constructor)) (MI.m (by repeat constructor)) (by simp) (by rfl)) rfl ?_ | refine tl_qg rfl rfl (y_load1f rfl (hl1.at (by repeat constructor)) (MI.m (by repeat constructor)) (by simp) (by rfl)) rfl ?_ | refine tl_qg rfl rfl (y_load1o (v := vi (vdF s r i)) rfl (fun w' hw' => by rw [show Int.toNat (i : Int) * 1 = i from by omega, ← verd_get (n := s.weights.length + 1) (by omega), ← hvl]; exact hcell w' (hw'.fr (MI.m (by repeat constructor))) i (by omega))) rfl ?_ | refine tl_su rfl rfl rfl ?_ | (refine tl_gs rfl rfl (fun hc => ?_) (fun hc => ?_) <;> (try simp only [decide_eq_true_eq, decide_eq_false_iff_not, Int.not_lt, Int.not_le, Bool.not_eq_true', Bool.not_eq_false', Decidable.not_not, not_true_eq_false] at hc) <;> (first | (exfalso; omega) | refine tl_sk rfl rfl rfl rfl ?_ | refine tl_qg rfl rfl (y_loadW rfl (by repeat constructor) (by rfl)) rfl ?_ | refine tl_qg rfl rfl (y_loadN rfl (by repeat constructor) (by (repeat (first | exact .nil | apply CA.cons rfl)); done)) rfl ?_ | refine tl_qg rfl rfl (y_loadWf rfl (hl1.at (by repeat constructor)) (MI.m (by repeat constructor)) (by simp) (by rfl)) rfl ?_ | refine tl_qg rfl rfl (y_load1f rfl (hl1.at (by repeat constructor)) (MI.m (by repeat constructor)) (by simp) (by rfl)) rfl ?_ | refine tl_qg rfl rfl (y_load1o (v := vi (vdF s r i)) rfl (fun w' hw' => by rw [show Int.toNat (i : Int) * 1 = i from by omega, ← verd_get (n := s.weights.length + 1) (by omega), ← hvl]; exact hcell w' (hw'.fr (MI.m (by repeat constructor))) i (by omega))) rfl ?_ | refine tl_su rfl rfl rfl ?_)))
        all_goals (first | refine tl_sk rfl rfl rfl rfl ?_ | refine tl_qg rfl rfl (y_move rfl) rfl ?_ | refine tl_su rfl rfl rfl ?_ | (refine tl_gs rfl rfl (fun hc => ?_) (fun hc => ?_) <;> (try simp only [decide_eq_true_eq, decide_eq_false_iff_not, Int.not_lt, Int.not_le, Bool.not_eq_true', Bool.not_eq_false', Decidable.not_not, not_true_eq_false] at hc) <;> (first | (exfalso; omega) | refine tl_sk rfl rfl rfl rfl ?_ | refine tl_qg rfl rfl (y_move rfl) rfl ?_ | refine tl_su rfl rfl rfl ?_)))
        all_goals (first | refine tl_sk rfl rfl rfl rfl ?_ | refine tl_eg rfl rfl rfl (e_callV rfl (.cons rfl (.cons rfl .nil)) (fun w' hw' => isl_v s (nb9 (by omega)) l (by omega) hA _ _ w' (hr0.fr (hw'.fr (w0 := w) (S := []) (MI.m (by repeat constructor)))) (hL0.fr (hw'.fr (w0 := w) (S := []) (MI.m (by repeat constructor)))))) (fun _ _ => ?_) | refine tl_su rfl rfl rfl ?_ | (refine tl_gs rfl rfl (fun hc => ?_) (fun hc => ?_) <;> (try simp only [decide_eq_true_eq, decide_eq_false_iff_not, Int.not_lt, Int.not_le, Bool.not_eq_true', Bool.not_eq_false', Decidable.not_not, not_true_eq_false] at hc) <;> (first | (exfalso; omega) | refine tl_sk rfl rfl rfl rfl ?_ | refine tl_eg rfl rfl rfl (e_callV rfl (.cons rfl (.cons rfl .nil)) (fun w' hw' => isl_v s (nb9 (by omega)) l (by omega) hA _ _ w' (hr0.fr (hw'.fr (w0 := w) (S := []) (MI.m (by repeat constructor)))) (hL0.fr (hw'.fr (w0 := w) (S := []) (MI.m (by repeat constructor)))))) (fun _ _ => ?_) | refine tl_su rfl rfl rfl ?_)))
        all_goals (first | refine tl_sk rfl rfl rfl rfl ?_ | refine tl_qg rfl rfl (y_move rfl) rfl ?_ | refine tl_su rfl rfl rfl ?_ | (refine tl_gs rfl rfl (fun hc => ?_) (fun hc => ?_) <;> (try simp only [decide_eq_true_eq, decide_eq_false_iff_not, Int.not_lt, Int.not_le, Bool.not_eq_true', Bool.not_eq_false', Decidable.not_not, not_true_eq_false] at hc) <;> (first | (exfalso; omega) | refine tl_sk rfl rfl rfl rfl ?_ | refine tl_qg rfl rfl (y_move rfl) rfl ?_ | refine tl_su rfl rfl rfl ?_)))
        all_goals (first | refine tl_sk rfl rfl rfl rfl ?_ | refine tl_qg rfl rfl (y_move rfl) rfl ?_ | refine tl_su rfl rfl rfl ?_ | (refine tl_gs rfl rfl (fun hc => ?_) (fun hc => ?_) <;> (try simp only [decide_eq_true_eq, decide_eq_false_iff_not, Int.not_lt, Int.not_le, Bool.not_eq_true', Bool.not_eq_false', Decidable.not_not, not_true_eq_false] at hc) <;> (first | (exfalso; omega) | refine tl_sk rfl rfl rfl rfl ?_ | refine tl_qg rfl rfl (y_move rfl) rfl ?_ | refine tl_su rfl rfl rfl ?_)))
        all_goals (first | refine tl_sk rfl rfl rfl rfl ?_ | refine tl_qg rfl rfl (y_len rfl) rfl ?_ | refine tl_su rfl rfl rfl ?_ | (refine tl_gs rfl rfl (fun hc => ?_) (fun hc => ?_) <;> (try simp only [decide_eq_true_eq, decide_eq_false_iff_not, Int.not_lt, Int.not_le, Bool.not_eq_true', Bool.not_eq_false', Decidable.not_not, not_true_eq_false] at hc) <;> (first | (exfalso; omega) | refine tl_sk rfl rfl rfl rfl ?_ | refine tl_qg rfl rfl (y_len rfl) rfl ?_ | refine tl_su rfl rfl rfl ?_)))
        all_goals (first | refine tl_sk rfl rfl rfl rfl ?_ | refine tl_qg rfl rfl (y_move rfl) rfl ?_ | refine tl_su rfl rfl rfl ?_ | (refine tl_gs rfl rfl (fun hc => ?_) (fun hc => ?_) <;> (try simp only [decide_eq_true_eq, decide_eq_false_iff_not, Int.not_lt, Int.not_le, Bool.not_eq_true', Bool.not_eq_false', Decidable.not_not, not_true_eq_false] at hc) <;> (first | (exfalso; omega) | refine tl_sk rfl rfl rfl rfl ?_ | refine tl_qg rfl rfl (y_move rfl) rfl ?_ | refine tl_su rfl rfl rfl ?_)))
        all_goals (first | refine tl_sk rfl rfl rfl rfl ?_ | refine tl_qg rfl rfl (y_leq rfl rfl) rfl ?_ | refine tl_su rfl rfl rfl ?_ | (refine tl_gs rfl rfl (fun hc => ?_) (fun hc => ?_) <;> (try simp only [decide_eq_true_eq, decide_eq_false_iff_not, Int.not_lt, Int.not_le, Bool.not_eq_true', Bool.not_eq_false', Decidable.not_not, not_true_eq_false] at hc) <;> (first | (exfalso; omega) | refine tl_sk rfl rfl rfl rfl ?_ | refine tl_qg rfl rfl (y_leq rfl rfl) rfl ?_ | refine tl_su rfl rfl rfl ?_)))
        all_goals (first | refine tl_sk rfl rfl rfl rfl ?_ | refine tl_qg rfl rfl (y_pick_t rfl rfl) rfl ?_ | refine tl_qg rfl rfl (y_pick_f rfl rfl) rfl ?_ | refine tl_su rfl rfl rfl ?_ | (refine tl_gs rfl rfl (fun hc => ?_) (fun hc => ?_) <;> (try simp only [decide_eq_true_eq, decide_eq_false_iff_not, Int.not_lt, Int.not_le, Bool.not_eq_true', Bool.not_eq_false', Decidable.not_not, not_true_eq_false] at hc) <;> (first | (exfalso; omega) | refine tl_sk rfl rfl rfl rfl ?_ | refine tl_qg rfl rfl (y_pick_t rfl rfl) rfl ?_ | refine tl_qg rfl rfl (y_pick_f rfl rfl) rfl ?_ | refine tl_su rfl rfl rfl ?_)))
        all_goals (first | refine tl_sk rfl rfl rfl rfl ?_ | refine tl_qg rfl rfl (y_move rfl) rfl ?_ | refine tl_su rfl rfl rfl ?_ | (refine tl_gs rfl rfl (fun hc => ?_) (fun hc => ?_) <;> (try simp only [decide_eq_true_eq, decide_eq_false_iff_not, Int.not_lt, Int.not_le, Bool.not_eq_true', Bool.not_eq_false', Decidable.not_not, not_true_eq_false] at hc) <;> (first | (exfalso; omega) | refine tl_sk rfl rfl rfl rfl ?_ | refine tl_qg rfl rfl (y_move rfl) rfl ?_ | refine tl_su rfl rfl rfl ?_)))
        all_goals (first | refine tl_sk rfl rfl rfl rfl ?_ | refine tl_qg rfl rfl (y_loadW rfl (by repeat constructor) (by rfl)) rfl ?_ | refine tl_qg rfl rfl (y_loadN rfl (by repeat constructor) (by (repeat (first | exact .nil | apply CA.cons rfl)); done)) rfl ?_ | refine tl_qg rfl rfl (y_loadWf rfl (hl1.at (by repeat constructor)) (MI.m (by repeat constructor)) (by simp) (by rfl)) rfl ?_ | refine tl_qg rfl rfl (y_load1f rfl (hl1.at (by repeat constructor)) (MI.m (by repeat constructor)) (by simp) (by rfl)) rfl ?_ | refine tl_qg rfl rfl (y_load1o (v := vi (vdF s r i)) rfl (fun w' hw' => by rw [show Int.toNat (i : Int) * 1 = i from by omega, ← verd_get (n := s.weights.length + 1) (by omega), ← hvl]; exact hcell w' (hw'.fr (MI.m (by repeat constructor))) i (by omega))) rfl ?_ | refine tl_su rfl rfl rfl ?_ | (refine tl_gs rfl rfl (fun hc => ?_) (fun hc => ?_) <;> (try simp only [decide_eq_true_eq, decide_eq_false_iff_not, Int.not_lt, Int.not_le, Bool.not_eq_true', Bool.not_eq_false', Decidable.not_not, not_true_eq_false] at hc) <;> (first | (exfalso; omega) | refine tl_sk rfl rfl rfl rfl ?_ | refine tl_qg rfl rfl (y_loadW rfl (by repeat constructor) (by rfl)) rfl ?_ | refine tl_qg rfl rfl (y_loadN rfl (by repeat constructor) (by (repeat (first | exact .nil | apply CA.cons rfl)); done)) rfl ?_ | refine tl_qg rfl rfl (y_loadWf rfl (hl1.at (by repeat constructor)) (MI.m (by repeat constructor)) (by simp) (by rfl)) rfl ?_ | refine tl_qg rfl rfl (y_load1f rfl (hl1.at (by repeat constructor)) (MI.m (by repeat constructor)) (by simp) (by rfl)) rfl ?_ | refine tl_qg rfl rfl (y_load1o (v := vi (vdF s r i)) rfl (fun w' hw' => by rw [show Int.toNat (i : Int) * 1 = i from by omega, ← verd_get (n := s.weights.length + 1) (by omega), ← hvl]; exact hcell w' (hw'.fr (MI.m (by repeat constructor))) i (by omega))) rfl ?_ | refine tl_su rfl rfl rfl ?_)))
        all_goals (first | refine tl_sk rfl rfl rfl rfl ?_ | refine tl_qg rfl rfl (y_loadW rfl (by repeat constructor) (by rfl)) rfl ?_ | refine tl_qg rfl rfl (y_loadN rfl (by repeat constructor) (by (repeat (first | exact .nil | apply CA.cons rfl)); done)) rfl ?_ | refine tl_qg rfl rfl (y_loadWf rfl (hl1.at (by repeat constructor)) (MI.m (by repeat constructor)) (by simp) (by rfl)) rfl ?_ | refine tl_qg rfl rfl (y_load1f rfl (hl1.at (by repeat constructor)) (MI.m (by repeat constructor)) (by simp) (by rfl)) rfl ?_ | refine tl_qg rfl rfl (y_load1o (v := vi (vdF s r i)) rfl (fun w' hw' => by rw [show Int.toNat (i : Int) * 1 = i from by omega, ← verd_get (n := s.weights.length + 1) (by omega), ← hvl]; exact hcell w' (hw'.fr (MI.m (by repeat constructor))) i (by omega))) rfl ?_ | refine tl_su rfl rfl rfl ?_ | (refine tl_gs rfl rfl (fun hc => ?_) (fun hc => ?_) <;> (try simp only [decide_eq_true_eq, decide_eq_false_iff_not, Int.not_lt, Int.not_le, Bool.not_eq_true', Bool.not_eq_false', Decidable.not_not, not_true_eq_false] at hc) <;> (first | (exfalso; omega) | refine tl_sk rfl rfl rfl rfl ?_ | refine tl_qg rfl rfl (y_loadW rfl (by repeat constructor) (by rfl)) rfl ?_ | refine tl_qg rfl rfl (y_loadN rfl (by repeat constructor) (by (repeat (first | exact .nil | apply CA.cons rfl)); done)) rfl ?_ | refine tl_qg rfl rfl (y_loadWf rfl (hl1.at (by repeat constructor)) (MI.m (by repeat constructor)) (by simp) (by rfl)) rfl ?_ | refine tl_qg rfl rfl (y_load1f rfl (hl1.at (by repeat constructor)) (MI.m (by repeat constructor)) (by simp) (by rfl)) rfl ?_ | refine tl_qg rfl rfl (y_load1o (v := vi (vdF s r i)) rfl (fun w' hw' => by rw [show Int.toNat (i : Int) * 1 = i from by omega, ← verd_get (n := s.weights.length + 1) (by omega), ← hvl]; exact hcell w' (hw'.fr (MI.m (by repeat constructor))) i (by omega))) rfl ?_ | refine tl_su rfl rfl rfl ?_)))
        all_goals (first | refine tl_sk rfl rfl rfl rfl ?_ | refine tl_qg rfl rfl (y_move rfl) rfl ?_ | refine tl_su rfl rfl rfl ?_ | (refine tl_gs rfl rfl (fun hc => ?_) (fun hc => ?_) <;> (try simp only [decide_eq_true_eq, decide_eq_false_iff_not, Int.not_lt, Int.not_le, Bool.not_eq_true', Bool.not_eq_false', Decidable.not_not, not_true_eq_false] at hc) <;> (first | (exfalso; omega) | refine tl_sk rfl rfl rfl rfl ?_ | refine tl_qg rfl rfl (y_move rfl) rfl ?_ | refine tl_su rfl rfl rfl ?_)))
        all_goals (first | refine tl_sk rfl rfl rfl rfl ?_ | refine tl_eg rfl rfl rfl (e_callV rfl (.cons rfl (.cons rfl (.cons rfl .nil))) (fun w' hw' => rcov_v s hq.1 r hq.2.2.1 hq.2.2.2.2 l (by omega) hA hQ _ _ w' (hr0.fr (hw'.fr (w0 := w) (S := []) (MI.m (by repeat constructor)))) (hL0.fr (hw'.fr (w0 := w) (S := []) (MI.m (by repeat constructor)))))) (fun _ _ => ?_) | refine tl_su rfl rfl rfl ?_ | (refine tl_gs rfl rfl (fun hc => ?_) (fun hc => ?_) <;> (try simp only [decide_eq_true_eq, decide_eq_false_iff_not, Int.not_lt, Int.not_le, Bool.not_eq_true', Bool.not_eq_false', Decidable.not_not, not_true_eq_false] at hc) <;> (first | (exfalso; omega) | refine tl_sk rfl rfl rfl rfl ?_ | refine tl_eg rfl rfl rfl (e_callV rfl (.cons rfl (.cons rfl (.cons rfl .nil))) (fun w' hw' => rcov_v s hq.1 r hq.2.2.1 hq.2.2.2.2 l (by omega) hA hQ _ _ w' (hr0.fr (hw'.fr (w0 := w) (S := []) (MI.m (by repeat constructor)))) (hL0.fr (hw'.fr (w0 := w) (S := []) (MI.m (by repeat constructor)))))) (fun _ _ => ?_) | refine tl_su rfl rfl rfl ?_)))
        all_goals (first | refine tl_sk rfl rfl rfl rfl ?_ | refine tl_qg rfl rfl (y_pick_t rfl rfl) rfl ?_ | refine tl_qg rfl rfl (y_pick_f rfl rfl) rfl ?_ | refine tl_su rfl rfl rfl ?_ | (refine tl_gs rfl rfl (fun hc => ?_) (fun hc => ?_) <;> (try simp only [decide_eq_true_eq, decide_eq_false_iff_not, Int.not_lt, Int.not_le, Bool.not_eq_true', Bool.not_eq_false', Decidable.not_not, not_true_eq_false] at hc) <;> (first | (exfalso; omega) | refine tl_sk rfl rfl rfl rfl ?_ | refine tl_qg rfl rfl (y_pick_t rfl rfl) rfl ?_ | refine tl_qg rfl rfl (y_pick_f rfl rfl) rfl ?_ | refine tl_su rfl rfl rfl ?_)))
        all_goals (first | refine tl_sk rfl rfl rfl rfl ?_ | refine tl_qg rfl rfl (y_neqb rfl rfl) rfl ?_ | refine tl_su rfl rfl rfl ?_ | (refine tl_gs rfl rfl (fun hc => ?_) (fun hc => ?_) <;> (try simp only [decide_eq_true_eq, decide_eq_false_iff_not, Int.not_lt, Int.not_le, Bool.not_eq_true', Bool.not_eq_false', Decidable.not_not, not_true_eq_false] at hc) <;> (first | (exfalso; omega) | refine tl_sk rfl rfl rfl rfl ?_ | refine tl_qg rfl rfl (y_neqb rfl rfl) rfl ?_ | refine tl_su rfl rfl rfl ?_)))
        all_goals (first | refine tl_q (y_pick_t rfl rfl) rfl ?_ | refine tl_q (y_pick_f rfl rfl) rfl ?_)
        all_goals refine tl_nil ?_
        all_goals (refine hK13 ?_; try (clear hK13; clear K13))
        all_goals (
         refine tc_cond rfl (fun hc => ?_) (fun hc => ?_)
         · try simp only [decide_eq_true_eq, decide_eq_false_iff_not, Int.not_lt, Int.not_le, Bool.not_eq_true', Bool.not_eq_false', Decidable.not_not, not_true_eq_false] at hc
           all_goals first | (exfalso; with_reducible exact bft hc) | (exfalso; with_reducible exact btf hc) | (exfalso; omega) | skip
           all_goals refine tc_seq fun K14 hK14 => ?_
           all_goals refine tc_lay ([]) (SB.s (by repeat constructor)) (fun wl10 hl10 => ?_)
           all_goals refine tc_region ?_
           all_goals refine tl_q (y_assign rfl) rfl ?_
           all_goals refine tl_nil ?_
           all_goals (refine hK14 ?_; try (clear hK14; clear K14))
           all_goals refine tc_ret ?_
           all_goals (repeat (first | refine tk_then_ret ?_ | refine tk_block_ret ?_ | refine tk_scope_ret ?_))
           all_goals first | refine tk_ret rfl rfl (.cons (.tmp rfl) .nil) ?_ | refine tk_retM rfl (by repeat constructor) rfl (.cons (.tmp rfl) .nil) ?_
           all_goals (
            refine fun w' hw' => ⟨?_, hw'.fr (w0 := w) (S := []) (MI.m (by repeat constructor))⟩
            first
            | rfl
            | (exfalso; omega)
            | (exfalso; simp_all))
         · try simp only [decide_eq_true_eq, decide_eq_false_iff_not, Int.not_lt, Int.not_le, Bool.not_eq_true', Bool.not_eq_false', Decidable.not_not, not_true_eq_false] at hc
           all_goals first | (exfalso; with_reducible exact bft hc) | (exfalso; with_reducible exact btf hc) | (exfalso; omega) | skip
           all_goals refine tc_skip ?_
           all_goals (refine hK12 ?_; try (clear hK12; clear K12))
           all_goals refine tc_seq fun K15 hK15 => ?_
           all_goals refine tc_seq fun K16 hK16 => ?_
           all_goals refine tc_lay ([]) (SB.s (by repeat constructor)) (fun wl11 hl11 => ?_)
           all_goals refine tc_region ?_
           all_goals refine tl_q (y_assign rfl) rfl ?_
           all_goals refine tl_nil ?_
           all_goals (refine hK16 ?_; try (clear hK16; clear K16))
           all_goals refine tc_block ?_
           all_goals (
            refine tc_loop (fun i : Nat => i ≤ vl.length) (fun i => [(4, ptr b4), (5, ptr b5), (9, slV vl.length y.1), (11, slV cl.length z.1), (12, vi f), (15, vi i)]) (fun _ => [(z.2, []), (y.2, []), (wl1, []), (w, [])]) (fun _ => []) (fun i => vl.length - i) ?_ ?_
            · exact tk_start 0 (Nat.zero_le _) (.cons rfl (.cons rfl (.cons rfl (.cons rfl (.cons rfl (.cons rfl .nil)))))) (fun _ h => h.subl (SB.s (by repeat constructor)) (SB.s (by repeat constructor)))
            · rintro i hi
              all_goals refine tc_seq fun K17 hK17 => ?_
              all_goals refine tc_seq fun K18 hK18 => ?_
              all_goals refine tc_lay ([]) (SB.s (by repeat constructor)) (fun wl12 hl12 => ?_)
              all_goals refine tc_region ?_
              all_goals refine tl_q (y_move rfl) rfl ?_
              all_goals refine tl_q (y_move rfl) rfl ?_
              all_goals refine tl_q (y_len rfl) rfl ?_
              all_goals refine tl_q (y_lss rfl rfl) rfl ?_
              all_goals refine tl_nil ?_
              all_goals (refine hK18 ?_; try (clear hK18; clear K18))
              all_goals (
               refine tc_cond rfl (fun hc => ?_) (fun hc => ?_)
               · try simp only [decide_eq_true_eq, decide_eq_false_iff_not, Int.not_lt, Int.not_le, Bool.not_eq_true', Bool.not_eq_false', Decidable.not_not, not_true_eq_false] at hc
                 all_goals first | (exfalso; with_reducible exact bft hc) | (exfalso; with_reducible exact btf hc) | (exfalso; omega) | skip
                 all_goals refine tc_skip ?_
                 all_goals (refine hK17 ?_; try (clear hK17; clear K17))
                 all_goals refine tc_seq fun K19 hK19 => ?_
                 all_goals refine tc_block ?_
                 all_goals refine tc_seq fun K20 hK20 => ?_
                 all_goals refine tc_lay ([]) (SB.s (by repeat constructor)) (fun wl14 hl14 => ?_)
                 all_goals (obtain ⟨yb, yo, had, hcell⟩ := hy.1.opens; have had' := had (by omega))
                 all_goals refine tc_draw (by kernel_rfl) ?_
                 all_goals refine tx_p 0 rfl (by kernel_rfl) (y_move rfl) rfl (fun _ _ _ h => h) (fun _ h => h) ?_
                 all_goals refine tx_p 1 rfl (by kernel_rfl) (y_move rfl) rfl (fun _ _ _ h => h) (fun _ h => h) ?_
                 all_goals (first | refine tx_p 2 rfl (by kernel_rfl) (y_index rfl rfl (by omega) had') rfl (fun _ _ _ h => h) (fun _ h => h) ?_ | refine tx_p 2 rfl (by kernel_rfl) (y_index rfl rfl (by omega) rfl) rfl (fun _ _ _ h => h) (fun _ h => h) ?_ | refine tx_p 2 rfl (by kernel_rfl) (y_indexA rfl rfl (by omega)) rfl (fun _ _ _ h => h) (fun _ h => h) ?_)
                 all_goals (first | refine tx_q 3 rfl (by kernel_rfl) (y_load1 rfl (by repeat constructor) (by rfl)) rfl (fun _ _ _ h => h) (fun _ h => h) ?_ | refine tx_q 3 rfl (by kernel_rfl) (y_load1f rfl (hl14.at (by repeat constructor)) (MI.m (by repeat constructor)) (by simp) (by rfl)) rfl (fun _ _ _ h => h) (fun _ h => h) ?_ | refine tx_q 3 rfl (by kernel_rfl) (y_load1f rfl (hl12.at (by repeat constructor)) (MI.m (by repeat constructor)) (by simp) (by rfl)) rfl (fun _ _ _ h => h) (fun _ h => h) ?_ | refine tx_q 3 rfl (by kernel_rfl) (y_load1f rfl (hl11.at (by repeat constructor)) (MI.m (by repeat constructor)) (by simp) (by rfl)) rfl (fun _ _ _ h => h) (fun _ h => h) ?_ | refine tx_q 3 rfl (by kernel_rfl) (y_load1f rfl (hl9.at (by repeat constructor)) (MI.m (by repeat constructor)) (by simp) (by rfl)) rfl (fun _ _ _ h => h) (fun _ h => h) ?_ | refine tx_q 3 rfl (by kernel_rfl) (y_load1f rfl (hl7.at (by repeat constructor)) (MI.m (by repeat constructor)) (by simp) (by rfl)) rfl (fun _ _ _ h => h) (fun _ h => h) ?_ | refine tx_q 3 rfl (by kernel_rfl) (y_load1f rfl (hl6.at (by repeat constructor)) (MI.m (by repeat constructor)) (by simp) (by rfl)) rfl (fun _ _ _ h => h) (fun _ h => h) ?_ | refine tx_q 3 rfl (by kernel_rfl) (y_load1f rfl (hl5.at (by repeat constructor)) (MI.m (by repeat constructor)) (by simp) (by rfl)) rfl (fun _ _ _ h => h) (fun _ h => h) ?_ | refine tx_q 3 rfl (by kernel_rfl) (y_load1f rfl (hl4.at (by repeat constructor)) (MI.m (by repeat constructor)) (by simp) (by rfl)) rfl (fun _ _ _ h => h) (fun _ h => h) ?_ | refine tx_q 3 rfl (by kernel_rfl) (y_load1f rfl (hl3.at (by repeat constructor)) (MI.m (by repeat constructor)) (by simp) (by rfl)) rfl (fun _ _ _ h => h) (fun _ h => h) ?_ | refine tx_q 3 rfl (by kernel_rfl) (y_load1f rfl (hl1.at (by repeat constructor)) (MI.m (by repeat constructor)) (by simp) (by rfl)) rfl (fun _ _ _ h => h) (fun _ h => h) ?_ | refine tx_q 3 rfl (by kernel_rfl) (y_load1o (v := vi (vdF s r i)) rfl (fun w' hw' => by rw [show Int.toNat (i : Int) * 1 = i from by omega, ← verd_get (n := s.weights.length + 1) (by omega), ← hvl]; exact hcell w' (hw'.fr (MI.m (by repeat constructor))) i (by omega))) rfl (fun _ _ _ h => h) (fun _ h => h) ?_)
                 all_goals (first | refine tx_q 4 rfl (by kernel_rfl) (y_loadW rfl (by repeat constructor) (by rfl)) rfl (fun _ _ _ h => h) (fun _ h => h) ?_ | refine tx_q 4 rfl (by kernel_rfl) (y_loadN rfl (by repeat constructor) (by (repeat (first | exact .nil | apply CA.cons rfl)); done)) rfl (fun _ _ _ h => h) (fun _ h => h) ?_ | refine tx_q 4 rfl (by kernel_rfl) (y_loadWf rfl (hl1.at (by repeat constructor)) (MI.m (by repeat constructor)) (by simp) (by rfl)) rfl (fun _ _ _ h => h) (fun _ h => h) ?_ | refine tx_q 4 rfl (by kernel_rfl) (y_load1f rfl (hl1.at (by repeat constructor)) (MI.m (by repeat constructor)) (by simp) (by rfl)) rfl (fun _ _ _ h => h) (fun _ h => h) ?_ | refine tx_q 4 rfl (by kernel_rfl) (y_load1o (v := vi (vdF s r i)) rfl (fun w' hw' => by rw [show Int.toNat (i : Int) * 1 = i from by omega, ← verd_get (n := s.weights.length + 1) (by omega), ← hvl]; exact hcell w' (hw'.fr (MI.m (by repeat constructor))) i (by omega))) rfl (fun _ _ _ h => h) (fun _ h => h) ?_)
                 all_goals (first | refine tx_q 5 rfl (by kernel_rfl) (y_loadW rfl (by repeat constructor) (by rfl)) rfl (fun _ _ _ h => h) (fun _ h => h) ?_ | refine tx_q 5 rfl (by kernel_rfl) (y_loadN rfl (by repeat constructor) (by (repeat (first | exact .nil | apply CA.cons rfl)); done)) rfl (fun _ _ _ h => h) (fun _ h => h) ?_ | refine tx_q 5 rfl (by kernel_rfl) (y_loadWf rfl (hl1.at (by repeat constructor)) (MI.m (by repeat constructor)) (by simp) (by rfl)) rfl (fun _ _ _ h => h) (fun _ h => h) ?_ | refine tx_q 5 rfl (by kernel_rfl) (y_load1f rfl (hl1.at (by repeat constructor)) (MI.m (by repeat constructor)) (by simp) (by rfl)) rfl (fun _ _ _ h => h) (fun _ h => h) ?_ | refine tx_q 5 rfl (by kernel_rfl) (y_load1o (v := vi (vdF s r i)) rfl (fun w' hw' => by rw [show Int.toNat (i : Int) * 1 = i from by omega, ← verd_get (n := s.weights.length + 1) (by omega), ← hvl]; exact hcell w' (hw'.fr (MI.m (by repeat constructor))) i (by omega))) rfl (fun _ _ _ h => h) (fun _ h => h) ?_)
                 all_goals refine tx_p 6 rfl (by kernel_rfl) (y_move rfl) rfl (fun _ _ _ h => h) (fun _ h => h) ?_
                 all_goals refine tx_e 7 rfl (by kernel_rfl) rfl (e_callV rfl (.cons rfl (.cons rfl (.cons rfl .nil))) (fun w' hw' => (by rw [vd_eq hq.1 hq.2.2.1.1 hq.2.1 hq.2.2.2.2]; exact rverdict_c s hq.1 r hq.2.2.1 hq.2.2.2.2 (i : Nat) (by omega) (by omega) _ w' (hr0.fr (hw'.fr (w0 := w) (S := []) (MI.m (by repeat constructor)))) : CnV _ _ _ _ (vi (vdF s r i))))) (.inr fun _ _ h => h) (fun _ _ => ?_)
                 all_goals refine tx_p 8 rfl (by kernel_rfl) (y_neq rfl rfl) rfl (fun _ _ _ h => h) (fun _ h => h) ?_
                 all_goals refine tx_done (by kernel_rfl) ?_
                 all_goals (refine hK20 ?_; try (clear hK20; clear K20))
                 all_goals (
                  refine tc_cond rfl (fun hc => ?_) (fun hc => ?_)
                  · try simp only [decide_eq_true_eq, decide_eq_false_iff_not, Int.not_lt, Int.not_le, Bool.not_eq_true', Bool.not_eq_false', Decidable.not_not, not_true_eq_false] at hc
                    all_goals first | (exfalso; with_reducible exact bft hc) | (exfalso; with_reducible exact btf hc) | (exfalso; omega) | skip
                    all_goals refine tc_seq fun K21 hK21 => ?_
                    all_goals refine tc_lay ([]) (SB.s (by repeat constructor)) (fun wl15 hl15 => ?_)
                    all_goals refine tc_region ?_
                    all_goals refine tl_q (y_assign rfl) rfl ?_
                    all_goals refine tl_nil ?_
                    all_goals (refine hK21 ?_; try (clear hK21; clear K21))
                    all_goals refine tc_ret ?_
                    all_goals (repeat (first | refine tk_then_ret ?_ | refine tk_block_ret ?_ | refine tk_scope_ret ?_))
                    all_goals first | refine tk_ret rfl rfl (.cons (.tmp rfl) .nil) ?_ | refine tk_retM rfl (by repeat constructor) rfl (.cons (.tmp rfl) .nil) ?_
                    all_goals (
                     refine fun w' hw' => ⟨?_, hw'.fr (w0 := w) (S := []) (MI.m (by repeat constructor))⟩
                     first
                     | rfl
                     | (exfalso; omega)
                     | (exfalso; simp_all))
                  · try simp only [decide_eq_true_eq, decide_eq_false_iff_not, Int.not_lt, Int.not_le, Bool.not_eq_true', Bool.not_eq_false', Decidable.not_not, not_true_eq_false] at hc
                    all_goals first | (exfalso; with_reducible exact bft hc) | (exfalso; with_reducible exact btf hc) | (exfalso; omega) | skip
                    all_goals refine tc_skip ?_
                    all_goals (refine hK19 ?_; try (clear hK19; clear K19))
                    all_goals refine tc_lay ([]) (SB.s (by repeat constructor)) (fun wl13 hl13 => ?_)
                    all_goals refine tc_region ?_
                    all_goals refine tl_q (y_move rfl) rfl ?_
                    all_goals refine tl_q (y_add rfl rfl (by omega)) rfl ?_
                    all_goals refine tl_q (y_assign rfl) rfl ?_
                    all_goals refine tl_nil ?_
                    all_goals (
                     exact tk_round (i + 1) (by omega) (by omega) (.cons rfl (.cons rfl (.cons rfl (.cons rfl (.cons rfl (.cons rfl .nil)))))) (fun _ h => h.subl (SB.s (by repeat constructor)) (SB.s (by repeat constructor)))))
               · try simp only [decide_eq_true_eq, decide_eq_false_iff_not, Int.not_lt, Int.not_le, Bool.not_eq_true', Bool.not_eq_false', Decidable.not_not, not_true_eq_false] at hc
                 all_goals first | (exfalso; with_reducible exact bft hc) | (exfalso; with_reducible exact btf hc) | (exfalso; omega) | skip
                 all_goals refine tc_exit ?_
                 all_goals (refine hK15 ?_; try (clear hK15; clear K15))
                 all_goals refine tc_seq fun K22 hK22 => ?_
                 all_goals refine tc_lay ([]) (SB.s (by repeat constructor)) (fun wl16 hl16 => ?_)
                 all_goals (rcases hco with ⟨rfl, rfl, rfl, hcl⟩ | ⟨rfl, rfl, hcl⟩)
                 all_goals refine tc_region ?_
                 all_goals (first | refine tl_q (y_loadW rfl (by repeat constructor) (by rfl)) rfl ?_ | refine tl_q (y_loadN rfl (by repeat constructor) (by (repeat (first | exact .nil | apply CA.cons rfl)); done)) rfl ?_ | refine tl_q (y_loadWf rfl (hl1.at (by repeat constructor)) (MI.m (by repeat constructor)) (by simp) (by rfl)) rfl ?_ | refine tl_q (y_load1f rfl (hl1.at (by repeat constructor)) (MI.m (by repeat constructor)) (by simp) (by rfl)) rfl ?_ | refine tl_q (y_load1o (v := vi (vdF s r i)) rfl (fun w' hw' => by rw [show Int.toNat (i : Int) * 1 = i from by omega, ← verd_get (n := s.weights.length + 1) (by omega), ← hvl]; exact hcell w' (hw'.fr (MI.m (by repeat constructor))) i (by omega))) rfl ?_)
                 all_goals (first | refine tl_q (y_loadW rfl (by repeat constructor) (by rfl)) rfl ?_ | refine tl_q (y_loadN rfl (by repeat constructor) (by (repeat (first | exact .nil | apply CA.cons rfl)); done)) rfl ?_ | refine tl_q (y_loadWf rfl (hl1.at (by repeat constructor)) (MI.m (by repeat constructor)) (by simp) (by rfl)) rfl ?_ | refine tl_q (y_load1f rfl (hl1.at (by repeat constructor)) (MI.m (by repeat constructor)) (by simp) (by rfl)) rfl ?_ | refine tl_q (y_load1o (v := vi (vdF s r i)) rfl (fun w' hw' => by rw [show Int.toNat (i : Int) * 1 = i from by omega, ← verd_get (n := s.weights.length + 1) (by omega), ← hvl]; exact hcell w' (hw'.fr (MI.m (by repeat constructor))) i (by omega))) rfl ?_)
                 all_goals refine tl_e (e_callX rfl (.cons rfl (.cons rfl .nil)) (fun w' hw' => rcover_v s hq.1 r hq.2.2.1 hq.2.2.2.2 hR _ w' (hr0.fr (hw'.fr (w0 := w) (S := []) (MI.m (by repeat constructor)))))) rfl (fun v hv => ?_)
                 all_goals refine tl_q (y_move rfl) rfl ?_
                 all_goals refine tl_q (y_extract rfl rfl) rfl ?_
                 all_goals refine tl_q (y_extract rfl rfl) rfl ?_
                 all_goals refine tl_q (y_assign rfl) rfl ?_
                 all_goals refine tl_q (y_assign rfl) rfl ?_
                 all_goals refine tl_nil ?_
                 all_goals (refine hK22 ?_; try (clear hK22; clear K22))
                 all_goals refine tc_seq fun K23 hK23 => ?_
                 all_goals refine tc_seq fun K24 hK24 => ?_
                 all_goals refine tc_lay ([]) (SB.s (by repeat constructor)) (fun wl17 hl17 => ?_)
                 all_goals refine tc_region ?_
                 all_goals refine tl_q (y_move rfl) rfl ?_
                 all_goals (first | refine tl_q (y_not_dec rfl) rfl ?_ | refine tl_q (y_not rfl) rfl ?_)
                 all_goals refine tl_nil ?_
                 all_goals (refine hK24 ?_; try (clear hK24; clear K24))
                 all_goals (
                  refine tc_cond rfl (fun hc => ?_) (fun hc => ?_)
                  · try simp only [decide_eq_true_eq, decide_eq_false_iff_not, Int.not_lt, Int.not_le, Bool.not_eq_true', Bool.not_eq_false', Decidable.not_not, not_true_eq_false] at hc
                    all_goals first | (exfalso; with_reducible exact bft hc) | (exfalso; with_reducible exact btf hc) | (exfalso; omega) | skip
                    all_goals refine tc_seq fun K25 hK25 => ?_
                    all_goals refine tc_lay ([]) (SB.s (by repeat constructor)) (fun wl18 hl18 => ?_)
                    all_goals refine tc_region ?_
                    all_goals refine tl_q (y_move rfl) rfl ?_
                    all_goals refine tl_q (y_eql rfl rfl) rfl ?_
                    all_goals refine tl_q (y_move rfl) rfl ?_
                    all_goals (first | refine tl_sk rfl rfl rfl rfl ?_ | refine tl_qg rfl rfl (y_move rfl) rfl ?_ | refine tl_su rfl rfl rfl ?_ | (refine tl_gs rfl rfl (fun hc => ?_) (fun hc => ?_) <;> (try simp only [decide_eq_true_eq, decide_eq_false_iff_not, Int.not_lt, Int.not_le, Bool.not_eq_true', Bool.not_eq_false', Decidable.not_not, not_true_eq_false] at hc) <;> (first | (exfalso; omega) | refine tl_sk rfl rfl rfl rfl ?_ | refine tl_qg rfl rfl (y_move rfl) rfl ?_ | refine tl_su rfl rfl rfl ?_)))
                    all_goals (first | refine tl_sk rfl rfl rfl rfl ?_ | refine tl_qg rfl rfl (y_len rfl) rfl ?_ | refine tl_su rfl rfl rfl ?_ | (refine tl_gs rfl rfl (fun hc => ?_) (fun hc => ?_) <;> (try simp only [decide_eq_true_eq, decide_eq_false_iff_not, Int.not_lt, Int.not_le, Bool.not_eq_true', Bool.not_eq_false', Decidable.not_not, not_true_eq_false] at hc) <;> (first | (exfalso; omega) | refine tl_sk rfl rfl rfl rfl ?_ | refine tl_qg rfl rfl (y_len rfl) rfl ?_ | refine tl_su rfl rfl rfl ?_)))
                    all_goals (first | refine tl_sk rfl rfl rfl rfl ?_ | refine tl_qg rfl rfl (y_eql rfl rfl) rfl ?_ | refine tl_su rfl rfl rfl ?_ | (refine tl_gs rfl rfl (fun hc => ?_) (fun hc => ?_) <;> (try simp only [decide_eq_true_eq, decide_eq_false_iff_not, Int.not_lt, Int.not_le, Bool.not_eq_true', Bool.not_eq_false', Decidable.not_not, not_true_eq_false] at hc) <;> (first | (exfalso; omega) | refine tl_sk rfl rfl rfl rfl ?_ | refine tl_qg rfl rfl (y_eql rfl rfl) rfl ?_ | refine tl_su rfl rfl rfl ?_)))
                    all_goals (first | refine tl_q (y_pick_t rfl rfl) rfl ?_ | refine tl_q (y_pick_f rfl rfl) rfl ?_)
                    all_goals refine tl_q (y_move rfl) rfl ?_
                    all_goals (first | refine tl_sk rfl rfl rfl rfl ?_ | refine tl_eg rfl rfl rfl (e_callV rfl .nil (fun w' _ => awake_c w')) (fun _ _ => ?_) | refine tl_su rfl rfl rfl ?_ | (refine tl_gs rfl rfl (fun hc => ?_) (fun hc => ?_) <;> (try simp only [decide_eq_true_eq, decide_eq_false_iff_not, Int.not_lt, Int.not_le, Bool.not_eq_true', Bool.not_eq_false', Decidable.not_not, not_true_eq_false] at hc) <;> (first | (exfalso; omega) | refine tl_sk rfl rfl rfl rfl ?_ | refine tl_eg rfl rfl rfl (e_callV rfl .nil (fun w' _ => awake_c w')) (fun _ _ => ?_) | refine tl_su rfl rfl rfl ?_)))
                    all_goals (first | refine tl_q (y_pick_t rfl rfl) rfl ?_ | refine tl_q (y_pick_f rfl rfl) rfl ?_)
                    all_goals refine tl_q (y_assign rfl) rfl ?_
                    all_goals refine tl_nil ?_
                    all_goals (refine hK25 ?_; try (clear hK25; clear K25))
                    all_goals refine tc_ret ?_
                    all_goals (repeat (first | refine tk_then_ret ?_ | refine tk_block_ret ?_ | refine tk_scope_ret ?_))
                    all_goals first | refine tk_ret rfl rfl (.cons (.tmp rfl) .nil) ?_ | refine tk_retM rfl (by repeat constructor) rfl (.cons (.tmp rfl) .nil) ?_
                    all_goals (
                     refine fun w' hw' => ⟨?_, hw'.fr (w0 := w) (S := []) (MI.m (by repeat constructor))⟩
                     first
                     | rfl
                     | (exfalso; omega)
                     | (exfalso; simp_all))
                  · try simp only [decide_eq_true_eq, decide_eq_false_iff_not, Int.not_lt, Int.not_le, Bool.not_eq_true', Bool.not_eq_false', Decidable.not_not, not_true_eq_false] at hc
                    all_goals first | (exfalso; with_reducible exact bft hc) | (exfalso; with_reducible exact btf hc) | (exfalso; omega) | skip
                    all_goals refine tc_skip ?_
                    all_goals (refine hK23 ?_; try (clear hK23; clear K23))
                    all_goals refine tc_seq fun K26 hK26 => ?_
                    all_goals refine tc_lay ([]) (SB.s (by repeat constructor)) (fun wl19 hl19 => ?_)
                    all_goals refine tc_region ?_
                    all_goals refine tl_q (y_move rfl) rfl ?_
                    all_goals refine tl_q (y_eql rfl rfl) rfl ?_
                    all_goals refine tl_q (y_move rfl) rfl ?_
                    all_goals (first | refine tl_sk rfl rfl rfl rfl ?_ | refine tl_qg rfl rfl (y_move rfl) rfl ?_ | refine tl_su rfl rfl rfl ?_ | (refine tl_gs rfl rfl (fun hc => ?_) (fun hc => ?_) <;> (try simp only [decide_eq_true_eq, decide_eq_false_iff_not, Int.not_lt, Int.not_le, Bool.not_eq_true', Bool.not_eq_false', Decidable.not_not, not_true_eq_false] at hc) <;> (first | (exfalso; omega) | refine tl_sk rfl rfl rfl rfl ?_ | refine tl_qg rfl rfl (y_move rfl) rfl ?_ | refine tl_su rfl rfl rfl ?_)))
                    all_goals (first | refine tl_sk rfl rfl rfl rfl ?_ | refine tl_qg rfl rfl (y_move rfl) rfl ?_ | refine tl_su rfl rfl rfl ?_ | (refine tl_gs rfl rfl (fun hc => ?_) (fun hc => ?_) <;> (try simp only [decide_eq_true_eq, decide_eq_false_iff_not, Int.not_lt, Int.not_le, Bool.not_eq_true', Bool.not_eq_false', Decidable.not_not, not_true_eq_false] at hc) <;> (first | (exfalso; omega) | refine tl_sk rfl rfl rfl rfl ?_ | refine tl_qg rfl rfl (y_move rfl) rfl ?_ | refine tl_su rfl rfl rfl ?_)))
                    all_goals (first | refine tl_sk rfl rfl rfl rfl ?_ | refine tl_eg rfl rfl rfl (e_callV rfl (.cons rfl (.cons rfl .nil)) (fun w' hw' => ints_t _ (by omega) _ _ w' (hz.1.fr (hw'.fr (MI.m (by repeat constructor)))) (hv.1.fr (hw'.fr (MI.m (by repeat constructor)))))) (fun _ _ => ?_) | refine tl_su rfl rfl rfl ?_ | (refine tl_gs rfl rfl (fun hc => ?_) (fun hc => ?_) <;> (try simp only [decide_eq_true_eq, decide_eq_false_iff_not, Int.not_lt, Int.not_le, Bool.not_eq_true', Bool.not_eq_false', Decidable.not_not, not_true_eq_false] at hc) <;> (first | (exfalso; omega) | refine tl_sk rfl rfl rfl rfl ?_ | refine tl_eg rfl rfl rfl (e_callV rfl (.cons rfl (.cons rfl .nil)) (fun w' hw' => ints_t _ (by omega) _ _ w' (hz.1.fr (hw'.fr (MI.m (by repeat constructor)))) (hv.1.fr (hw'.fr (MI.m (by repeat constructor)))))) (fun _ _ => ?_) | refine tl_su rfl rfl rfl ?_)))
                    all_goals (first | refine tl_q (y_pick_t rfl rfl) rfl ?_ | refine tl_q (y_pick_f rfl rfl) rfl ?_)
                    all_goals refine tl_q (y_move rfl) rfl ?_
                    all_goals (first | refine tl_sk rfl rfl rfl rfl ?_ | refine tl_eg rfl rfl rfl (e_callV rfl .nil (fun w' _ => awake_c w')) (fun _ _ => ?_) | refine tl_su rfl rfl rfl ?_ | (refine tl_gs rfl rfl (fun hc => ?_) (fun hc => ?_) <;> (try simp only [decide_eq_true_eq, decide_eq_false_iff_not, Int.not_lt, Int.not_le, Bool.not_eq_true', Bool.not_eq_false', Decidable.not_not, not_true_eq_false] at hc) <;> (first | (exfalso; omega) | refine tl_sk rfl rfl rfl rfl ?_ | refine tl_eg rfl rfl rfl (e_callV rfl .nil (fun w' _ => awake_c w')) (fun _ _ => ?_) | refine tl_su rfl rfl rfl ?_)))
                    all_goals (first | refine tl_q (y_pick_t rfl rfl) rfl ?_ | refine tl_q (y_pick_f rfl rfl) rfl ?_)
                    all_goals refine tl_q (y_assign rfl) rfl ?_
                    all_goals refine tl_nil ?_
                    all_goals (refine hK26 ?_; try (clear hK26; clear K26))
                    all_goals refine tc_ret ?_
                    all_goals (repeat (first | refine tk_then_ret ?_ | refine tk_block_ret ?_ | refine tk_scope_ret ?_))
                    all_goals first | refine tk_ret rfl rfl (.cons (.tmp rfl) .nil) ?_ | refine tk_retM rfl (by repeat constructor) rfl (.cons (.tmp rfl) .nil) ?_
                    all_goals (
                     refine fun w' hw' => ⟨?_, hw'.fr (w0 := w) (S := []) (MI.m (by repeat constructor))⟩
                     first
                     | rfl
                     | (exfalso; omega)
                     | (exfalso; simp_all))))))))
end Go.Sp
