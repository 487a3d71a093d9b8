/-
  SpindleLeft: the law's function returns true.
-/
import Derived.Test.YtdmnmhkonfadhaaLea
set_option linter.unusedVariables false
set_option linter.unusedSimpArgs false
set_option linter.deprecated false
namespace Go.Sp
open Go Go.Proofs
section
variable {P : Program} {F : List (Nat × Value)} {bs : List (World × List Nat)} {H : List (Nat × Obj)} {d : Option Tmp} {ty : TypeId} {pos : String} {after : Array Edge} {g : Option (Nat × Bool)} {x y : Operand} {t t' : TypeId}
theorem z_eqlT {k : IntKind} {m n : Int} (hx : evalO F x = some (.int k m)) (hy : evalO F y = some (.int k n)) (h : m = n) : OpY P ⟨d, .binOp .eql t x y t', ty, pos, after, g⟩ F bs H (.bool true) := by
  have h' : OpY P ⟨d, .binOp .eql t x y t', ty, pos, after, g⟩ F bs H (.bool (decide (m = n))) := y_eql hx hy
  rw [decide_eq_true h] at h'; exact h'
theorem z_eqlF {k : IntKind} {m n : Int} (hx : evalO F x = some (.int k m)) (hy : evalO F y = some (.int k n)) (h : ¬ m = n) : OpY P ⟨d, .binOp .eql t x y t', ty, pos, after, g⟩ F bs H (.bool false) := by
  have h' : OpY P ⟨d, .binOp .eql t x y t', ty, pos, after, g⟩ F bs H (.bool (decide (m = n))) := y_eql hx hy
  rw [decide_eq_false h] at h'; exact h'
end
theorem bitsZ {b : Int} (hb : 0 ≤ b) {tl : List Int} (hE : bitsL b = tl) (w : World) : CnX Try.prog 45 #[vi b] w [] (fun x : Option Addr × Nat => slV tl.length x) (fun x w' => RdI w' (slV tl.length x) tl) := by
  subst hE; exact (bits_c b hb w).sliced (g := fun v => v)
theorem lessZ {a b : List Int} (ha : (a.length : Int) ≤ 9000000000000000000) (hb : (b.length : Int) ≤ 9000000000000000000) {c : Bool} (hE : lessF a b = c) (av bv : Value) (w : World) (hA : RdI w av a) (hB : RdI w bv b) : CnV Try.prog 44 #[av, bv] w (.bool c) := by
  subst hE; exact less_c a b ha hb av bv w hA hB
theorem RdI.opensZ {w : World} {xs : List Int} {x : Option Addr × Nat} (h : RdI w (slV xs.length x) xs) : ∃ b o, (0 < xs.length → x.1 = some ⟨b, o, none⟩) ∧ ∀ w', Fr [] w w' → ∀ i, i < xs.length → w'.cell? ⟨b, o + i, none⟩ = some (vi (xs.getD i 0)) := by
  obtain ⟨ad, cap, b, o, e, had, hcell⟩ := h.open
  injection e with e1 e2 e3
  subst e1
  exact ⟨b, o, had, hcell⟩
theorem keep_yes {l : List (Int × Int)} {out : Int} {n : Nat} (h : out / 2 ^ n % 2 = 0) : keepN l out (n + 1) = keepN l out n ++ [l.getD n (0, 0)] := by
  rw [keepN_succ, if_neg (by unfold outB; simp only [decide_eq_true_eq]; omega)]
theorem keep_no {l : List (Int × Int)} {out : Int} {n : Nat} (h : ¬ out / 2 ^ n % 2 = 0) : keepN l out (n + 1) = keepN l out n := by
  rw [keepN_succ, if_pos (by unfold outB; simp only [decide_eq_true_eq]; omega)]
theorem pow62 {k : Int} (h : k < 6) : 2 ^ k.toNat < 2 ^ 62 := Nat.pow_lt_pow_right (by omega) (by omega)
theorem nbc {s : Sn} (h : chkF s = 0) : NB s := by
  have := (chkF_valid.1 h).n
  unfold NB; omega
def lfH (l : List (Int × Int)) (S T : Int) (n : Nat) : Option (Nat × Nat × List Value) → Option (Nat × Nat × List Value) → List (Nat × Obj)
  | none, none => []
  | some (b, _, j), none => [(b, .cells (flatR (keepN l S n) ++ j).toArray 42 (0, 0))]
  | none, some (b', _, j') => [(b', .cells (flatR (keepN l T n) ++ j').toArray 42 (0, 0))]
  | some (b, _, j), some (b', _, j') => [(b, .cells (flatR (keepN l S n) ++ j).toArray 42 (0, 0)), (b', .cells (flatR (keepN l T n) ++ j').toArray 42 (0, 0))]
set_option maxHeartbeats 4000000 in
theorem left2_c (s : Sn) (l : List (Int × Int)) (hll : (l.length : Int) ≤ 9223372036854775807) (on : Int) (ho : 0 ≤ on ∧ on ≤ 255) (sl lv : Value) (w : World) (hr : RdI w sl s.weights) (hR : RdR w lv l) : CnV Try.prog 10 #[spV s sl, lv, v8 on] w (.bool true) := by
  have hr0 := hr
  have hR0 := hR
  obtain ⟨ad, cap, b0, o, rfl, _, _⟩ := hr.open
  obtain ⟨ad2, cap2, b02, o2, rfl, had, hcell⟩ := hR.open
  rcases hL : leaveE s l with ⟨x, f⟩
  obtain ⟨t, ht⟩ : ∃ t : Nat, on % ((2 ^ (l.length : Int).toNat : Nat) : Int) = (t : Int) := ⟨(on % ((2 ^ (l.length : Int).toNat : Nat) : Int)).toNat, (Int.toNat_of_nonneg (Int.emod_nonneg _ (by have := Nat.two_pow_pos (l.length : Int).toNat; omega))).symm⟩
  have htl : t < 2 ^ l.length := by
    have hp := Nat.two_pow_pos l.length
    have := Int.emod_lt_of_pos on (show 0 < ((2 ^ (l.length : Int).toNat : Nat) : Int) by rw [Int.toNat_natCast]; omega)
    rw [ht, Int.toNat_natCast] at this
    omega
  obtain ⟨S, hS⟩ : ∃ S : Nat, S = setN x x.length := ⟨_, rfl⟩
  obtain ⟨tl, hT⟩ : ∃ tl, bitsL (t : Int) = tl := ⟨_, rfl⟩
  have htb : tl.length ≤ 16 := by rw [← hT]; exact bitsL_len _
  rcases hN1 : narrowE s (keepN l (S : Int) l.length) with ⟨⟨k1, k2⟩, fk⟩
  rcases hN2 : narrowE s (keepN l (t : Int) l.length) with ⟨⟨q1, q2⟩, gk⟩
  obtain ⟨lb, hlb⟩ : ∃ b, lessF tl x = b := ⟨_, rfl⟩
  have hcase : chkF s = 0 → readF s l = 0 → (l.length ≤ 6 ∧ f = 0 ∧ x.length ≤ l.length ∧ (∀ k ∈ x, 0 ≤ k ∧ k < (l.length : Int)) ∧ (∀ i : Nat, i < x.length → 0 < i → x.getD (i - 1) 0 < x.getD i 0)) ∧ fk = 0 ∧ (gk = 11 ∨ (gk = 0 ∧ lb = false)) := fun hc h0 => by
    obtain ⟨hs, hl6, hok⟩ := readF_0 h0
    unfold leaveE at hL
    rw [if_neg (by omega)] at hL
    cases hL
    have hLe := leaveL_least (s := s) (l := l) (by omega)
    have hlen := hLe.inc.len (by omega)
    subst hS
    have := left_spec hs (by omega) hok rfl htl hN1 hN2
    rw [hT, hlb] at this
    refine ⟨⟨by omega, rfl, by omega, hLe.inc.2, fun i hi h0 => ?_⟩, this⟩
    rw [List.getD_eq_getElem?_getD, List.getElem?_eq_getElem (by omega), List.getD_eq_getElem?_getD, List.getElem?_eq_getElem hi]
    exact List.pairwise_iff_getElem.1 hLe.inc.1 (i - 1) i (by omega) hi (by omega)
  refine cnv (vs := [_, _, _]) Try.func10 rfl rfl ?_
  all_goals refine tc_seq fun K1 hK1 => ?_
  all_goals refine tc_region ?_
  all_goals refine tl_e (e_box rfl rfl rfl) rfl (fun b3 _ => ?_)
  all_goals refine tl_q (y_assign rfl) rfl ?_
  all_goals refine tl_nil ?_
  all_goals (refine hK1 ?_; try (clear hK1; clear K1))
  all_goals refine tc_seq fun K2 hK2 => ?_
  all_goals refine tc_seq fun K3 hK3 => ?_
  all_goals refine tc_lay ([]) (SB.s (by repeat constructor)) (fun wl1 hl1 => ?_)
  all_goals refine tc_region ?_
  all_goals (first | refine tl_q (y_loadW rfl (by repeat constructor) (by rfl)) rfl ?_ | refine tl_q (y_loadN rfl (by repeat constructor) (by (repeat (first | exact .nil | apply CA.cons rfl)); done)) rfl ?_ | refine tl_q (y_loadWf rfl (hl1.at (by repeat constructor)) (MI.m (by repeat constructor)) (by simp) (by rfl)) rfl ?_ | refine tl_q (y_load1f rfl (hl1.at (by repeat constructor)) (MI.m (by repeat constructor)) (by simp) (by rfl)) rfl ?_ | refine tl_q (y_load1o (v := vi (x.getD i 0)) rfl (fun w' hw' => by rw [show Int.toNat (i : Int) * 1 = i from by omega]; exact hcellz w' (hw'.fr (MI.m (by repeat constructor))) i (by omega))) rfl ?_ | refine tl_q (y_load1o (v := vi (x.getD (i - 1) 0)) rfl (fun w' hw' => by rw [show Int.toNat ((i : Int) - 1) * 1 = i - 1 from by omega]; exact hcellz w' (hw'.fr (MI.m (by repeat constructor))) (i - 1) (by omega))) rfl ?_ | refine tl_q (y_loadNo rfl (fun w' hw' => hcell w' [] (hw'.fr (w0 := w) (S := []) (MI.m (by repeat constructor))) (by simp) (Int.toNat n) (by omega))) rfl ?_)
  all_goals refine tl_e (e_callV rfl (.cons rfl .nil) (fun w' hw' => ready2_c s _ w' (hr0.fr (hw'.fr (w0 := w) (S := []) (MI.m (by repeat constructor)))))) rfl (fun _ _ => ?_)
  all_goals (first | refine tl_q (y_not_dec rfl) rfl ?_ | refine tl_q (y_not rfl) rfl ?_)
  all_goals refine tl_q (y_move rfl) rfl ?_
  all_goals (first | refine tl_sk rfl rfl rfl rfl ?_ | refine tl_qg rfl rfl (y_loadW rfl (by repeat constructor) (by rfl)) rfl ?_ | refine tl_qg rfl rfl (y_loadN rfl (by repeat constructor) (by (repeat (first | exact .nil | apply CA.cons rfl)); done)) rfl ?_ | refine tl_qg rfl rfl (y_loadWf rfl (hl1.at (by repeat constructor)) (MI.m (by repeat constructor)) (by simp) (by rfl)) rfl ?_ | refine tl_qg rfl rfl (y_load1f rfl (hl1.at (by repeat constructor)) (MI.m (by repeat constructor)) (by simp) (by rfl)) rfl ?_ | refine tl_qg rfl rfl (y_load1o (v := vi (x.getD i 0)) rfl (fun w' hw' => by rw [show Int.toNat (i : Int) * 1 = i from by omega]; exact hcellz w' (hw'.fr (MI.m (by repeat constructor))) i (by omega))) rfl ?_ | refine tl_qg rfl rfl (y_load1o (v := vi (x.getD (i - 1) 0)) rfl (fun w' hw' => by rw [show Int.toNat ((i : Int) - 1) * 1 = i - 1 from by omega]; exact hcellz w' (hw'.fr (MI.m (by repeat constructor))) (i - 1) (by omega))) rfl ?_ | refine tl_qg rfl rfl (y_loadNo rfl (fun w' hw' => hcell w' [] (hw'.fr (w0 := w) (S := []) (MI.m (by repeat constructor))) (by simp) (Int.toNat n) (by omega))) rfl ?_ | refine tl_su rfl rfl rfl ?_ | (refine tl_gs rfl rfl (fun hc => ?_) (fun hc => ?_) <;> (try simp only [decide_eq_true_eq, decide_eq_false_iff_not, Int.not_lt, Int.not_le, Bool.not_eq_true', Bool.not_eq_false', Decidable.not_not, not_true_eq_false, Int.toNat_natCast] at hc) <;> (first | (exfalso; omega) | refine tl_sk rfl rfl rfl rfl ?_ | refine tl_qg rfl rfl (y_loadW rfl (by repeat constructor) (by rfl)) rfl ?_ | refine tl_qg rfl rfl (y_loadN rfl (by repeat constructor) (by (repeat (first | exact .nil | apply CA.cons rfl)); done)) rfl ?_ | refine tl_qg rfl rfl (y_loadWf rfl (hl1.at (by repeat constructor)) (MI.m (by repeat constructor)) (by simp) (by rfl)) rfl ?_ | refine tl_qg rfl rfl (y_load1f rfl (hl1.at (by repeat constructor)) (MI.m (by repeat constructor)) (by simp) (by rfl)) rfl ?_ | refine tl_qg rfl rfl (y_load1o (v := vi (x.getD i 0)) rfl (fun w' hw' => by rw [show Int.toNat (i : Int) * 1 = i from by omega]; exact hcellz w' (hw'.fr (MI.m (by repeat constructor))) i (by omega))) rfl ?_ | refine tl_qg rfl rfl (y_load1o (v := vi (x.getD (i - 1) 0)) rfl (fun w' hw' => by rw [show Int.toNat ((i : Int) - 1) * 1 = i - 1 from by omega]; exact hcellz w' (hw'.fr (MI.m (by repeat constructor))) (i - 1) (by omega))) rfl ?_ | refine tl_qg rfl rfl (y_loadNo rfl (fun w' hw' => hcell w' [] (hw'.fr (w0 := w) (S := []) (MI.m (by repeat constructor))) (by simp) (Int.toNat n) (by omega))) rfl ?_ | refine tl_su rfl rfl rfl ?_)))
  all_goals (first | refine tl_sk rfl rfl rfl rfl ?_ | refine tl_qg rfl rfl (y_move rfl) rfl ?_ | refine tl_su rfl rfl rfl ?_ | (refine tl_gs rfl rfl (fun hc => ?_) (fun hc => ?_) <;> (try simp only [decide_eq_true_eq, decide_eq_false_iff_not, Int.not_lt, Int.not_le, Bool.not_eq_true', Bool.not_eq_false', Decidable.not_not, not_true_eq_false, Int.toNat_natCast] at hc) <;> (first | (exfalso; omega) | refine tl_sk rfl rfl rfl rfl ?_ | refine tl_qg rfl rfl (y_move rfl) rfl ?_ | refine tl_su rfl rfl rfl ?_)))
  all_goals (first | refine tl_sk rfl rfl rfl rfl ?_ | refine tl_eg rfl rfl rfl (e_callV rfl (.cons rfl (.cons rfl .nil)) (fun w' hw' => read2_c s (nbc (by omega)) l hll _ _ w' (hr0.fr (hw'.fr (w0 := w) (S := []) (MI.m (by repeat constructor)))) (hR0.fr (hw'.fr (w0 := w) (S := []) (MI.m (by repeat constructor)))))) (fun _ _ => ?_) | refine tl_su rfl rfl rfl ?_ | (refine tl_gs rfl rfl (fun hc => ?_) (fun hc => ?_) <;> (try simp only [decide_eq_true_eq, decide_eq_false_iff_not, Int.not_lt, Int.not_le, Bool.not_eq_true', Bool.not_eq_false', Decidable.not_not, not_true_eq_false, Int.toNat_natCast] at hc) <;> (first | (exfalso; omega) | refine tl_sk rfl rfl rfl rfl ?_ | refine tl_eg rfl rfl rfl (e_callV rfl (.cons rfl (.cons rfl .nil)) (fun w' hw' => read2_c s (nbc (by omega)) l hll _ _ w' (hr0.fr (hw'.fr (w0 := w) (S := []) (MI.m (by repeat constructor)))) (hR0.fr (hw'.fr (w0 := w) (S := []) (MI.m (by repeat constructor)))))) (fun _ _ => ?_) | refine tl_su rfl rfl rfl ?_)))
  all_goals (first | refine tl_sk rfl rfl rfl rfl ?_ | refine tl_qg rfl rfl (z_eqlT rfl rfl (by omega)) rfl ?_ | refine tl_qg rfl rfl (z_eqlF rfl rfl (by omega)) rfl ?_ | refine tl_qg rfl rfl (y_neq rfl rfl) rfl ?_ | refine tl_su rfl rfl rfl ?_ | (refine tl_gs rfl rfl (fun hc => ?_) (fun hc => ?_) <;> (try simp only [decide_eq_true_eq, decide_eq_false_iff_not, Int.not_lt, Int.not_le, Bool.not_eq_true', Bool.not_eq_false', Decidable.not_not, not_true_eq_false, Int.toNat_natCast] at hc) <;> (first | (exfalso; omega) | refine tl_sk rfl rfl rfl rfl ?_ | refine tl_qg rfl rfl (z_eqlT rfl rfl (by omega)) rfl ?_ | refine tl_qg rfl rfl (z_eqlF rfl rfl (by omega)) rfl ?_ | refine tl_qg rfl rfl (y_neq rfl rfl) rfl ?_ | refine tl_su rfl rfl rfl ?_)))
  all_goals (first | refine tl_q (y_pick_t rfl rfl) rfl ?_ | refine tl_q (y_pick_f rfl rfl) rfl ?_)
  all_goals refine tl_nil ?_
  all_goals (refine hK3 ?_; try (clear hK3; clear K3))
  all_goals (
   refine tc_cond rfl (fun hc => ?_) (fun hc => ?_)
   · try simp only [decide_eq_true_eq, decide_eq_false_iff_not, Int.not_lt, Int.not_le, Bool.not_eq_true', Bool.not_eq_false', Decidable.not_not, not_true_eq_false, Int.toNat_natCast] at hc
     all_goals first | (exfalso; with_reducible exact bft hc) | (exfalso; with_reducible exact btf hc) | (exfalso; omega) | skip
     all_goals refine tc_seq fun K4 hK4 => ?_
     all_goals refine tc_lay ([]) (SB.s (by repeat constructor)) (fun wl2 hl2 => ?_)
     all_goals refine tc_region ?_
     all_goals refine tl_e (e_callV rfl .nil (fun w' _ => awake_c w')) rfl (fun _ _ => ?_)
     all_goals refine tl_q (y_assign rfl) rfl ?_
     all_goals refine tl_nil ?_
     all_goals (refine hK4 ?_; try (clear hK4; clear K4))
     all_goals refine tc_ret ?_
     all_goals (repeat (first | refine tk_then_ret ?_ | refine tk_block_ret ?_ | refine tk_scope_ret ?_))
     all_goals first | refine tk_ret rfl rfl (.cons (.tmp rfl) .nil) ?_ | refine tk_retM rfl (by repeat constructor) rfl (.cons (.tmp rfl) .nil) ?_
     all_goals (
      refine fun w' hw' => ⟨?_, hw'.fr (w0 := w) (S := []) (MI.m (by repeat constructor))⟩
      first
      | rfl
      | (exfalso; omega))
   · try simp only [decide_eq_true_eq, decide_eq_false_iff_not, Int.not_lt, Int.not_le, Bool.not_eq_true', Bool.not_eq_false', Decidable.not_not, not_true_eq_false, Int.toNat_natCast] at hc
     all_goals first | (exfalso; with_reducible exact bft hc) | (exfalso; with_reducible exact btf hc) | (exfalso; omega) | skip
     all_goals refine tc_skip ?_
     all_goals (refine hK2 ?_; try (clear hK2; clear K2))
     all_goals refine tc_seq fun K5 hK5 => ?_
     all_goals refine tc_lay ([]) (SB.s (by repeat constructor)) (fun wl3 hl3 => ?_)
     all_goals (have hr00 : readF s l = 0 := by omega)
     all_goals (have hqr := readF_0 hr00; have hs := hqr.1; have hl6 := hs.n; obtain ⟨⟨hln, hf, hxl, hxb, hxp⟩, hfk, hgk⟩ := hcase (by omega) hr00)
     all_goals refine tc_region ?_
     all_goals (first | refine tl_q (y_loadW rfl (by repeat constructor) (by rfl)) rfl ?_ | refine tl_q (y_loadN rfl (by repeat constructor) (by (repeat (first | exact .nil | apply CA.cons rfl)); done)) rfl ?_ | refine tl_q (y_loadWf rfl (hl1.at (by repeat constructor)) (MI.m (by repeat constructor)) (by simp) (by rfl)) rfl ?_ | refine tl_q (y_load1f rfl (hl1.at (by repeat constructor)) (MI.m (by repeat constructor)) (by simp) (by rfl)) rfl ?_ | refine tl_q (y_load1o (v := vi (x.getD i 0)) rfl (fun w' hw' => by rw [show Int.toNat (i : Int) * 1 = i from by omega]; exact hcellz w' (hw'.fr (MI.m (by repeat constructor))) i (by omega))) rfl ?_ | refine tl_q (y_load1o (v := vi (x.getD (i - 1) 0)) rfl (fun w' hw' => by rw [show Int.toNat ((i : Int) - 1) * 1 = i - 1 from by omega]; exact hcellz w' (hw'.fr (MI.m (by repeat constructor))) (i - 1) (by omega))) rfl ?_ | refine tl_q (y_loadNo rfl (fun w' hw' => hcell w' [] (hw'.fr (w0 := w) (S := []) (MI.m (by repeat constructor))) (by simp) (Int.toNat n) (by omega))) rfl ?_)
     all_goals refine tl_e (e_callX rfl (.cons rfl .nil) (fun w' hw' => spindle_c s (by omega) _ w' (hr0.fr (hw'.fr (w0 := w) (S := []) (MI.m (by repeat constructor)))))) rfl (fun x1 hx1 => ?_)
     all_goals refine tl_q (y_move rfl) rfl ?_
     all_goals (first | refine tl_e (e_callX rfl (.cons rfl .nil) (fun w' hw' => readings_c l (by omega) _ w' (hR0.fr (hw'.fr (w0 := w) (S := []) (MI.m (by repeat constructor)))))) rfl (fun y1 hy1 => ?_) | refine tl_e (e_callX rfl (.cons rfl .nil) (fun w' hw' => readings_c (keepN l (S : Int) l.length) (by have := keepN_len l (S : Int) l.length; omega) _ w' (hkR.fr (hw'.fr (MI.m (by repeat constructor)))))) rfl (fun y1 hy1 => ?_) | refine tl_e (e_callX rfl (.cons rfl .nil) (fun w' hw' => readings_c (keepN l (t : Int) l.length) (by have := keepN_len l (t : Int) l.length; omega) _ w' (hoR.fr (hw'.fr (MI.m (by repeat constructor)))))) rfl (fun y1 hy1 => ?_))
     all_goals refine tl_e (e_callX rfl (.cons rfl (.cons rfl .nil)) (fun w' hw' => leave_v s (nb9 (by omega)) l (by omega) hL _ _ w' (hx1.1.fr (hw'.fr (MI.m (by repeat constructor)))) (hy1.1.fr (hw'.fr (MI.m (by repeat constructor)))))) rfl (fun z hz => ?_)
     all_goals refine tl_q (y_move rfl) rfl ?_
     all_goals refine tl_q (y_extract rfl rfl) rfl ?_
     all_goals refine tl_q (y_extract rfl rfl) rfl ?_
     all_goals refine tl_q (y_assign rfl) rfl ?_
     all_goals refine tl_q (y_assign rfl) rfl ?_
     all_goals refine tl_nil ?_
     all_goals (refine hK5 ?_; try (clear hK5; clear K5))
     all_goals refine tc_seq fun K6 hK6 => ?_
     all_goals refine tc_seq fun K7 hK7 => ?_
     all_goals refine tc_lay ([]) (SB.s (by repeat constructor)) (fun wl4 hl4 => ?_)
     all_goals refine tc_region ?_
     all_goals refine tl_q (y_move rfl) rfl ?_
     all_goals (first | refine tl_q (z_eqlT rfl rfl (by omega)) rfl ?_ | refine tl_q (z_eqlF rfl rfl (by omega)) rfl ?_ | refine tl_q (y_neq rfl rfl) rfl ?_)
     all_goals refine tl_q (y_move rfl) rfl ?_
     all_goals (first | refine tl_sk rfl rfl rfl rfl ?_ | refine tl_qg rfl rfl (y_move rfl) rfl ?_ | refine tl_su rfl rfl rfl ?_ | (refine tl_gs rfl rfl (fun hc => ?_) (fun hc => ?_) <;> (try simp only [decide_eq_true_eq, decide_eq_false_iff_not, Int.not_lt, Int.not_le, Bool.not_eq_true', Bool.not_eq_false', Decidable.not_not, not_true_eq_false, Int.toNat_natCast] at hc) <;> (first | (exfalso; omega) | refine tl_sk rfl rfl rfl rfl ?_ | refine tl_qg rfl rfl (y_move rfl) rfl ?_ | refine tl_su rfl rfl rfl ?_)))
     all_goals (first | refine tl_sk rfl rfl rfl rfl ?_ | refine tl_qg rfl rfl (y_len rfl) rfl ?_ | refine tl_su rfl rfl rfl ?_ | (refine tl_gs rfl rfl (fun hc => ?_) (fun hc => ?_) <;> (try simp only [decide_eq_true_eq, decide_eq_false_iff_not, Int.not_lt, Int.not_le, Bool.not_eq_true', Bool.not_eq_false', Decidable.not_not, not_true_eq_false, Int.toNat_natCast] at hc) <;> (first | (exfalso; omega) | refine tl_sk rfl rfl rfl rfl ?_ | refine tl_qg rfl rfl (y_len rfl) rfl ?_ | refine tl_su rfl rfl rfl ?_)))
     all_goals (first | refine tl_sk rfl rfl rfl rfl ?_ | refine tl_qg rfl rfl (y_move rfl) rfl ?_ | refine tl_su rfl rfl rfl ?_ | (refine tl_gs rfl rfl (fun hc => ?_) (fun hc => ?_) <;> (try simp only [decide_eq_true_eq, decide_eq_false_iff_not, Int.not_lt, Int.not_le, Bool.not_eq_true', Bool.not_eq_false', Decidable.not_not, not_true_eq_false, Int.toNat_natCast] at hc) <;> (first | (exfalso; omega) | refine tl_sk rfl rfl rfl rfl ?_ | refine tl_qg rfl rfl (y_move rfl) rfl ?_ | refine tl_su rfl rfl rfl ?_)))
     all_goals (first | refine tl_sk rfl rfl rfl rfl ?_ | refine tl_qg rfl rfl (y_len rfl) rfl ?_ | refine tl_su rfl rfl rfl ?_ | (refine tl_gs rfl rfl (fun hc => ?_) (fun hc => ?_) <;> (try simp only [decide_eq_true_eq, decide_eq_false_iff_not, Int.not_lt, Int.not_le, Bool.not_eq_true', Bool.not_eq_false', Decidable.not_not, not_true_eq_false, Int.toNat_natCast] at hc) <;> (first | (exfalso; omega) | refine tl_sk rfl rfl rfl rfl ?_ | refine tl_qg rfl rfl (y_len rfl) rfl ?_ | refine tl_su rfl rfl rfl ?_)))
     all_goals (first | refine tl_sk rfl rfl rfl rfl ?_ | refine tl_qg rfl rfl (y_shl1 rfl rfl (by omega)) rfl ?_ | refine tl_qg rfl rfl (y_orn rfl rfl hset hpow) rfl ?_ | refine tl_qg rfl rfl (y_gtr rfl rfl) rfl ?_ | refine tl_su rfl rfl rfl ?_ | (refine tl_gs rfl rfl (fun hc => ?_) (fun hc => ?_) <;> (try simp only [decide_eq_true_eq, decide_eq_false_iff_not, Int.not_lt, Int.not_le, Bool.not_eq_true', Bool.not_eq_false', Decidable.not_not, not_true_eq_false, Int.toNat_natCast] at hc) <;> (first | (exfalso; omega) | refine tl_sk rfl rfl rfl rfl ?_ | refine tl_qg rfl rfl (y_shl1 rfl rfl (by omega)) rfl ?_ | refine tl_qg rfl rfl (y_orn rfl rfl hset hpow) rfl ?_ | refine tl_qg rfl rfl (y_gtr rfl rfl) rfl ?_ | refine tl_su rfl rfl rfl ?_)))
     all_goals (first | refine tl_q (y_pick_t rfl rfl) rfl ?_ | refine tl_q (y_pick_f rfl rfl) rfl ?_)
     all_goals refine tl_nil ?_
     all_goals (refine hK7 ?_; try (clear hK7; clear K7))
     all_goals (
      refine tc_cond rfl (fun hc => ?_) (fun hc => ?_)
      · try simp only [decide_eq_true_eq, decide_eq_false_iff_not, Int.not_lt, Int.not_le, Bool.not_eq_true', Bool.not_eq_false', Decidable.not_not, not_true_eq_false, Int.toNat_natCast] at hc
        all_goals first | (exfalso; with_reducible exact bft hc) | (exfalso; with_reducible exact btf hc) | (exfalso; omega) | skip
        all_goals refine tc_seq fun K8 hK8 => ?_
        all_goals refine tc_lay ([]) (SB.s (by repeat constructor)) (fun wl5 hl5 => ?_)
        all_goals refine tc_region ?_
        all_goals refine tl_q (y_assign rfl) rfl ?_
        all_goals refine tl_nil ?_
        all_goals (refine hK8 ?_; try (clear hK8; clear K8))
        all_goals refine tc_ret ?_
        all_goals (repeat (first | refine tk_then_ret ?_ | refine tk_block_ret ?_ | refine tk_scope_ret ?_))
        all_goals first | refine tk_ret rfl rfl (.cons (.tmp rfl) .nil) ?_ | refine tk_retM rfl (by repeat constructor) rfl (.cons (.tmp rfl) .nil) ?_
        all_goals (
         refine fun w' hw' => ⟨?_, hw'.fr (w0 := w) (S := []) (MI.m (by repeat constructor))⟩
         first
         | rfl
         | (exfalso; omega))
      · try simp only [decide_eq_true_eq, decide_eq_false_iff_not, Int.not_lt, Int.not_le, Bool.not_eq_true', Bool.not_eq_false', Decidable.not_not, not_true_eq_false, Int.toNat_natCast] at hc
        all_goals first | (exfalso; with_reducible exact bft hc) | (exfalso; with_reducible exact btf hc) | (exfalso; omega) | skip
        all_goals refine tc_skip ?_
        all_goals (refine hK6 ?_; try (clear hK6; clear K6))
        all_goals refine tc_seq fun K9 hK9 => ?_
        all_goals refine tc_lay ([]) (SB.s (by repeat constructor)) (fun wl6 hl6 => ?_)
        all_goals refine tc_region ?_
        all_goals refine tl_q (y_assign rfl) rfl ?_
        all_goals refine tl_nil ?_
        all_goals (refine hK9 ?_; try (clear hK9; clear K9))
        all_goals refine tc_seq fun K10 hK10 => ?_
        all_goals refine tc_seq fun K11 hK11 => ?_
        all_goals refine tc_lay ([]) (SB.s (by repeat constructor)) (fun wl7 hl7 => ?_)
        all_goals refine tc_region ?_
        all_goals refine tl_q (y_assign rfl) rfl ?_
        all_goals refine tl_nil ?_
        all_goals (refine hK11 ?_; try (clear hK11; clear K11))
        all_goals refine tc_block ?_
        all_goals (
         refine tc_loop (fun i : Nat => i ≤ x.length) (fun i => [(1, .slice ad2 l.length cap2), (2, v8 on), (3, ptr b3), (7, slV x.length z.1), (9, vi (setN x i : Nat)), (10, vi i)]) (fun _ => [(z.2, []), (wl1, []), (w, [])]) (fun _ => []) (fun i => x.length - i) ?_ ?_
         · exact tk_start 0 (Nat.zero_le _) (.cons rfl (.cons rfl (.cons rfl (.cons rfl (.cons rfl (.cons rfl .nil)))))) (fun _ h => h.subl (SB.s (by repeat constructor)) (SB.s (by repeat constructor)))
         · rintro i hi
           all_goals refine tc_seq fun K12 hK12 => ?_
           all_goals refine tc_seq fun K13 hK13 => ?_
           all_goals refine tc_lay ([]) (SB.s (by repeat constructor)) (fun wl8 hl8 => ?_)
           all_goals refine tc_region ?_
           all_goals refine tl_q (y_move rfl) rfl ?_
           all_goals refine tl_q (y_move rfl) rfl ?_
           all_goals refine tl_q (y_len rfl) rfl ?_
           all_goals (first | refine tl_q (y_shl1 rfl rfl (by omega)) rfl ?_ | refine tl_q (y_orn rfl rfl hset hpow) rfl ?_ | refine tl_q (y_lss rfl rfl) rfl ?_)
           all_goals refine tl_nil ?_
           all_goals (refine hK13 ?_; try (clear hK13; clear K13))
           all_goals (
            refine tc_cond rfl (fun hc => ?_) (fun hc => ?_)
            · try simp only [decide_eq_true_eq, decide_eq_false_iff_not, Int.not_lt, Int.not_le, Bool.not_eq_true', Bool.not_eq_false', Decidable.not_not, not_true_eq_false, Int.toNat_natCast] at hc
              all_goals first | (exfalso; with_reducible exact bft hc) | (exfalso; with_reducible exact btf hc) | (exfalso; omega) | skip
              all_goals refine tc_skip ?_
              all_goals (refine hK12 ?_; try (clear hK12; clear K12))
              all_goals refine tc_seq fun K14 hK14 => ?_
              all_goals refine tc_block ?_
              all_goals refine tc_seq fun K15 hK15 => ?_
              all_goals refine tc_seq fun K16 hK16 => ?_
              all_goals refine tc_lay ([]) (SB.s (by repeat constructor)) (fun wl10 hl10 => ?_)
              all_goals (obtain ⟨zb, zo, hadz, hcellz⟩ := hz.1.opensZ; have hadz' := hadz (by omega); have hxi := hxb (x.getD i 0) (by rw [List.getD_eq_getElem?_getD, List.getElem?_eq_getElem (by omega)]; exact List.getElem_mem (by omega)); have hxpi := hxp i (by omega))
              all_goals refine tc_draw (by kernel_rfl) ?_
              all_goals refine tx_p 0 rfl (by kernel_rfl) (y_move rfl) rfl (fun _ _ _ h => h) (fun _ h => h) ?_
              all_goals refine tx_p 1 rfl (by kernel_rfl) (y_move rfl) rfl (fun _ _ _ h => h) (fun _ h => h) ?_
              all_goals (first | refine tx_p 2 rfl (by kernel_rfl) (y_index rfl rfl (by omega) hadz') rfl (fun _ _ _ h => h) (fun _ h => h) ?_ | refine tx_p 2 rfl (by kernel_rfl) (y_index rfl rfl (by omega) had') rfl (fun _ _ _ h => h) (fun _ h => h) ?_ | refine tx_p 2 rfl (by kernel_rfl) (y_index rfl rfl (by omega) rfl) rfl (fun _ _ _ h => h) (fun _ h => h) ?_ | refine tx_p 2 rfl (by kernel_rfl) (y_indexA rfl rfl (by omega)) rfl (fun _ _ _ h => h) (fun _ h => h) ?_)
              all_goals (first | refine tx_q 3 rfl (by kernel_rfl) (y_load1 rfl (by repeat constructor) (by rfl)) rfl (fun _ _ _ h => h) (fun _ h => h) ?_ | refine tx_q 3 rfl (by kernel_rfl) (y_load1f rfl (hl10.at (by repeat constructor)) (MI.m (by repeat constructor)) (by simp) (by rfl)) rfl (fun _ _ _ h => h) (fun _ h => h) ?_ | refine tx_q 3 rfl (by kernel_rfl) (y_load1f rfl (hl8.at (by repeat constructor)) (MI.m (by repeat constructor)) (by simp) (by rfl)) rfl (fun _ _ _ h => h) (fun _ h => h) ?_ | refine tx_q 3 rfl (by kernel_rfl) (y_load1f rfl (hl7.at (by repeat constructor)) (MI.m (by repeat constructor)) (by simp) (by rfl)) rfl (fun _ _ _ h => h) (fun _ h => h) ?_ | refine tx_q 3 rfl (by kernel_rfl) (y_load1f rfl (hl6.at (by repeat constructor)) (MI.m (by repeat constructor)) (by simp) (by rfl)) rfl (fun _ _ _ h => h) (fun _ h => h) ?_ | refine tx_q 3 rfl (by kernel_rfl) (y_load1f rfl (hl4.at (by repeat constructor)) (MI.m (by repeat constructor)) (by simp) (by rfl)) rfl (fun _ _ _ h => h) (fun _ h => h) ?_ | refine tx_q 3 rfl (by kernel_rfl) (y_load1f rfl (hl3.at (by repeat constructor)) (MI.m (by repeat constructor)) (by simp) (by rfl)) rfl (fun _ _ _ h => h) (fun _ h => h) ?_ | refine tx_q 3 rfl (by kernel_rfl) (y_load1f rfl (hl1.at (by repeat constructor)) (MI.m (by repeat constructor)) (by simp) (by rfl)) rfl (fun _ _ _ h => h) (fun _ h => h) ?_ | refine tx_q 3 rfl (by kernel_rfl) (y_load1o (v := vi (x.getD i 0)) rfl (fun w' hw' => by rw [show Int.toNat (i : Int) * 1 = i from by omega]; exact hcellz w' (hw'.fr (MI.m (by repeat constructor))) i (by omega))) rfl (fun _ _ _ h => h) (fun _ h => h) ?_ | refine tx_q 3 rfl (by kernel_rfl) (y_load1o (v := vi (x.getD (i - 1) 0)) rfl (fun w' hw' => by rw [show Int.toNat ((i : Int) - 1) * 1 = i - 1 from by omega]; exact hcellz w' (hw'.fr (MI.m (by repeat constructor))) (i - 1) (by omega))) rfl (fun _ _ _ h => h) (fun _ h => h) ?_ | refine tx_q 3 rfl (by kernel_rfl) (y_loadNo rfl (fun w' hw' => hcell w' [] (hw'.fr (w0 := w) (S := []) (MI.m (by repeat constructor))) (by simp) (Int.toNat n) (by omega))) rfl (fun _ _ _ h => h) (fun _ h => h) ?_)
              all_goals (first | refine tx_p 4 rfl (by kernel_rfl) (y_shl1 rfl rfl (by omega)) rfl (fun _ _ _ h => h) (fun _ h => h) ?_ | refine tx_p 4 rfl (by kernel_rfl) (y_orn rfl rfl hset hpow) rfl (fun _ _ _ h => h) (fun _ h => h) ?_ | refine tx_p 4 rfl (by kernel_rfl) (y_lss rfl rfl) rfl (fun _ _ _ h => h) (fun _ h => h) ?_)
              all_goals refine tx_p 5 rfl (by kernel_rfl) (y_move rfl) rfl (fun _ _ _ h => h) (fun _ h => h) ?_
              all_goals (first | refine tx_sk 6 rfl (by kernel_rfl) rfl rfl rfl rfl (fun _ _ _ h => h) (fun _ h => h) ?_ | refine tx_pg 6 rfl (by kernel_rfl) rfl rfl (y_move rfl) rfl (fun _ _ _ h => h) (fun _ h => h) ?_ | refine tx_su 6 rfl (by kernel_rfl) rfl rfl rfl (fun _ _ _ h => h) (fun _ h => h) ?_ | (refine tx_gs 57 rfl (fun hc => ?_) (fun hc => ?_) <;> (try simp only [decide_eq_true_eq, decide_eq_false_iff_not, Int.not_lt, Int.not_le, Bool.not_eq_true', Bool.not_eq_false', Decidable.not_not, not_true_eq_false, Int.toNat_natCast] at hc) <;> (first | (exfalso; omega) | refine tx_sk 6 rfl (by kernel_rfl) rfl rfl rfl rfl (fun _ _ _ h => h) (fun _ h => h) ?_ | refine tx_pg 6 rfl (by kernel_rfl) rfl rfl (y_move rfl) rfl (fun _ _ _ h => h) (fun _ h => h) ?_ | refine tx_su 6 rfl (by kernel_rfl) rfl rfl rfl (fun _ _ _ h => h) (fun _ h => h) ?_)))
              all_goals (first | refine tx_sk 7 rfl (by kernel_rfl) rfl rfl rfl rfl (fun _ _ _ h => h) (fun _ h => h) ?_ | refine tx_pg 7 rfl (by kernel_rfl) rfl rfl (y_move rfl) rfl (fun _ _ _ h => h) (fun _ h => h) ?_ | refine tx_su 7 rfl (by kernel_rfl) rfl rfl rfl (fun _ _ _ h => h) (fun _ h => h) ?_ | (refine tx_gs 57 rfl (fun hc => ?_) (fun hc => ?_) <;> (try simp only [decide_eq_true_eq, decide_eq_false_iff_not, Int.not_lt, Int.not_le, Bool.not_eq_true', Bool.not_eq_false', Decidable.not_not, not_true_eq_false, Int.toNat_natCast] at hc) <;> (first | (exfalso; omega) | refine tx_sk 7 rfl (by kernel_rfl) rfl rfl rfl rfl (fun _ _ _ h => h) (fun _ h => h) ?_ | refine tx_pg 7 rfl (by kernel_rfl) rfl rfl (y_move rfl) rfl (fun _ _ _ h => h) (fun _ h => h) ?_ | refine tx_su 7 rfl (by kernel_rfl) rfl rfl rfl (fun _ _ _ h => h) (fun _ h => h) ?_)))
              all_goals (first | refine tx_sk 8 rfl (by kernel_rfl) rfl rfl rfl rfl (fun _ _ _ h => h) (fun _ h => h) ?_ | refine tx_pg 8 rfl (by kernel_rfl) rfl rfl (y_index rfl rfl (by omega) hadz') rfl (fun _ _ _ h => h) (fun _ h => h) ?_ | refine tx_pg 8 rfl (by kernel_rfl) rfl rfl (y_index rfl rfl (by omega) had') rfl (fun _ _ _ h => h) (fun _ h => h) ?_ | refine tx_pg 8 rfl (by kernel_rfl) rfl rfl (y_index rfl rfl (by omega) rfl) rfl (fun _ _ _ h => h) (fun _ h => h) ?_ | refine tx_pg 8 rfl (by kernel_rfl) rfl rfl (y_indexA rfl rfl (by omega)) rfl (fun _ _ _ h => h) (fun _ h => h) ?_ | refine tx_su 8 rfl (by kernel_rfl) rfl rfl rfl (fun _ _ _ h => h) (fun _ h => h) ?_ | (refine tx_gs 57 rfl (fun hc => ?_) (fun hc => ?_) <;> (try simp only [decide_eq_true_eq, decide_eq_false_iff_not, Int.not_lt, Int.not_le, Bool.not_eq_true', Bool.not_eq_false', Decidable.not_not, not_true_eq_false, Int.toNat_natCast] at hc) <;> (first | (exfalso; omega) | refine tx_sk 8 rfl (by kernel_rfl) rfl rfl rfl rfl (fun _ _ _ h => h) (fun _ h => h) ?_ | refine tx_pg 8 rfl (by kernel_rfl) rfl rfl (y_index rfl rfl (by omega) hadz') rfl (fun _ _ _ h => h) (fun _ h => h) ?_ | refine tx_pg 8 rfl (by kernel_rfl) rfl rfl (y_index rfl rfl (by omega) had') rfl (fun _ _ _ h => h) (fun _ h => h) ?_ | refine tx_pg 8 rfl (by kernel_rfl) rfl rfl (y_index rfl rfl (by omega) rfl) rfl (fun _ _ _ h => h) (fun _ h => h) ?_ | refine tx_pg 8 rfl (by kernel_rfl) rfl rfl (y_indexA rfl rfl (by omega)) rfl (fun _ _ _ h => h) (fun _ h => h) ?_ | refine tx_su 8 rfl (by kernel_rfl) rfl rfl rfl (fun _ _ _ h => h) (fun _ h => h) ?_)))
              all_goals (first | refine tx_sk 9 rfl (by kernel_rfl) rfl rfl rfl rfl (fun _ _ _ h => h) (fun _ h => h) ?_ | refine tx_qg 9 rfl (by kernel_rfl) rfl rfl (y_load1 rfl (by repeat constructor) (by rfl)) rfl (fun _ _ _ h => h) (fun _ h => h) ?_ | refine tx_qg 9 rfl (by kernel_rfl) rfl rfl (y_load1f rfl (hl10.at (by repeat constructor)) (MI.m (by repeat constructor)) (by simp) (by rfl)) rfl (fun _ _ _ h => h) (fun _ h => h) ?_ | refine tx_qg 9 rfl (by kernel_rfl) rfl rfl (y_load1f rfl (hl8.at (by repeat constructor)) (MI.m (by repeat constructor)) (by simp) (by rfl)) rfl (fun _ _ _ h => h) (fun _ h => h) ?_ | refine tx_qg 9 rfl (by kernel_rfl) rfl rfl (y_load1f rfl (hl7.at (by repeat constructor)) (MI.m (by repeat constructor)) (by simp) (by rfl)) rfl (fun _ _ _ h => h) (fun _ h => h) ?_ | refine tx_qg 9 rfl (by kernel_rfl) rfl rfl (y_load1f rfl (hl6.at (by repeat constructor)) (MI.m (by repeat constructor)) (by simp) (by rfl)) rfl (fun _ _ _ h => h) (fun _ h => h) ?_ | refine tx_qg 9 rfl (by kernel_rfl) rfl rfl (y_load1f rfl (hl4.at (by repeat constructor)) (MI.m (by repeat constructor)) (by simp) (by rfl)) rfl (fun _ _ _ h => h) (fun _ h => h) ?_ | refine tx_qg 9 rfl (by kernel_rfl) rfl rfl (y_load1f rfl (hl3.at (by repeat constructor)) (MI.m (by repeat constructor)) (by simp) (by rfl)) rfl (fun _ _ _ h => h) (fun _ h => h) ?_ | refine tx_qg 9 rfl (by kernel_rfl) rfl rfl (y_load1f rfl (hl1.at (by repeat constructor)) (MI.m (by repeat constructor)) (by simp) (by rfl)) rfl (fun _ _ _ h => h) (fun _ h => h) ?_ | refine tx_qg 9 rfl (by kernel_rfl) rfl rfl (y_load1o (v := vi (x.getD i 0)) rfl (fun w' hw' => by rw [show Int.toNat (i : Int) * 1 = i from by omega]; exact hcellz w' (hw'.fr (MI.m (by repeat constructor))) i (by omega))) rfl (fun _ _ _ h => h) (fun _ h => h) ?_ | refine tx_qg 9 rfl (by kernel_rfl) rfl rfl (y_load1o (v := vi (x.getD (i - 1) 0)) rfl (fun w' hw' => by rw [show Int.toNat ((i : Int) - 1) * 1 = i - 1 from by omega]; exact hcellz w' (hw'.fr (MI.m (by repeat constructor))) (i - 1) (by omega))) rfl (fun _ _ _ h => h) (fun _ h => h) ?_ | refine tx_qg 9 rfl (by kernel_rfl) rfl rfl (y_loadNo rfl (fun w' hw' => hcell w' [] (hw'.fr (w0 := w) (S := []) (MI.m (by repeat constructor))) (by simp) (Int.toNat n) (by omega))) rfl (fun _ _ _ h => h) (fun _ h => h) ?_ | refine tx_su 9 rfl (by kernel_rfl) rfl rfl rfl (fun _ _ _ h => h) (fun _ h => h) ?_ | (refine tx_gs 57 rfl (fun hc => ?_) (fun hc => ?_) <;> (try simp only [decide_eq_true_eq, decide_eq_false_iff_not, Int.not_lt, Int.not_le, Bool.not_eq_true', Bool.not_eq_false', Decidable.not_not, not_true_eq_false, Int.toNat_natCast] at hc) <;> (first | (exfalso; omega) | refine tx_sk 9 rfl (by kernel_rfl) rfl rfl rfl rfl (fun _ _ _ h => h) (fun _ h => h) ?_ | refine tx_qg 9 rfl (by kernel_rfl) rfl rfl (y_load1 rfl (by repeat constructor) (by rfl)) rfl (fun _ _ _ h => h) (fun _ h => h) ?_ | refine tx_qg 9 rfl (by kernel_rfl) rfl rfl (y_load1f rfl (hl10.at (by repeat constructor)) (MI.m (by repeat constructor)) (by simp) (by rfl)) rfl (fun _ _ _ h => h) (fun _ h => h) ?_ | refine tx_qg 9 rfl (by kernel_rfl) rfl rfl (y_load1f rfl (hl8.at (by repeat constructor)) (MI.m (by repeat constructor)) (by simp) (by rfl)) rfl (fun _ _ _ h => h) (fun _ h => h) ?_ | refine tx_qg 9 rfl (by kernel_rfl) rfl rfl (y_load1f rfl (hl7.at (by repeat constructor)) (MI.m (by repeat constructor)) (by simp) (by rfl)) rfl (fun _ _ _ h => h) (fun _ h => h) ?_ | refine tx_qg 9 rfl (by kernel_rfl) rfl rfl (y_load1f rfl (hl6.at (by repeat constructor)) (MI.m (by repeat constructor)) (by simp) (by rfl)) rfl (fun _ _ _ h => h) (fun _ h => h) ?_ | refine tx_qg 9 rfl (by kernel_rfl) rfl rfl (y_load1f rfl (hl4.at (by repeat constructor)) (MI.m (by repeat constructor)) (by simp) (by rfl)) rfl (fun _ _ _ h => h) (fun _ h => h) ?_ | refine tx_qg 9 rfl (by kernel_rfl) rfl rfl (y_load1f rfl (hl3.at (by repeat constructor)) (MI.m (by repeat constructor)) (by simp) (by rfl)) rfl (fun _ _ _ h => h) (fun _ h => h) ?_ | refine tx_qg 9 rfl (by kernel_rfl) rfl rfl (y_load1f rfl (hl1.at (by repeat constructor)) (MI.m (by repeat constructor)) (by simp) (by rfl)) rfl (fun _ _ _ h => h) (fun _ h => h) ?_ | refine tx_qg 9 rfl (by kernel_rfl) rfl rfl (y_load1o (v := vi (x.getD i 0)) rfl (fun w' hw' => by rw [show Int.toNat (i : Int) * 1 = i from by omega]; exact hcellz w' (hw'.fr (MI.m (by repeat constructor))) i (by omega))) rfl (fun _ _ _ h => h) (fun _ h => h) ?_ | refine tx_qg 9 rfl (by kernel_rfl) rfl rfl (y_load1o (v := vi (x.getD (i - 1) 0)) rfl (fun w' hw' => by rw [show Int.toNat ((i : Int) - 1) * 1 = i - 1 from by omega]; exact hcellz w' (hw'.fr (MI.m (by repeat constructor))) (i - 1) (by omega))) rfl (fun _ _ _ h => h) (fun _ h => h) ?_ | refine tx_qg 9 rfl (by kernel_rfl) rfl rfl (y_loadNo rfl (fun w' hw' => hcell w' [] (hw'.fr (w0 := w) (S := []) (MI.m (by repeat constructor))) (by simp) (Int.toNat n) (by omega))) rfl (fun _ _ _ h => h) (fun _ h => h) ?_ | refine tx_su 9 rfl (by kernel_rfl) rfl rfl rfl (fun _ _ _ h => h) (fun _ h => h) ?_)))
              all_goals (first | refine tx_sk 10 rfl (by kernel_rfl) rfl rfl rfl rfl (fun _ _ _ h => h) (fun _ h => h) ?_ | refine tx_pg 10 rfl (by kernel_rfl) rfl rfl (y_move rfl) rfl (fun _ _ _ h => h) (fun _ h => h) ?_ | refine tx_su 10 rfl (by kernel_rfl) rfl rfl rfl (fun _ _ _ h => h) (fun _ h => h) ?_ | (refine tx_gs 57 rfl (fun hc => ?_) (fun hc => ?_) <;> (try simp only [decide_eq_true_eq, decide_eq_false_iff_not, Int.not_lt, Int.not_le, Bool.not_eq_true', Bool.not_eq_false', Decidable.not_not, not_true_eq_false, Int.toNat_natCast] at hc) <;> (first | (exfalso; omega) | refine tx_sk 10 rfl (by kernel_rfl) rfl rfl rfl rfl (fun _ _ _ h => h) (fun _ h => h) ?_ | refine tx_pg 10 rfl (by kernel_rfl) rfl rfl (y_move rfl) rfl (fun _ _ _ h => h) (fun _ h => h) ?_ | refine tx_su 10 rfl (by kernel_rfl) rfl rfl rfl (fun _ _ _ h => h) (fun _ h => h) ?_)))
              all_goals (first | refine tx_sk 11 rfl (by kernel_rfl) rfl rfl rfl rfl (fun _ _ _ h => h) (fun _ h => h) ?_ | refine tx_qg 11 rfl (by kernel_rfl) rfl rfl (y_len rfl) rfl (fun _ _ _ h => h) (fun _ h => h) ?_ | refine tx_su 11 rfl (by kernel_rfl) rfl rfl rfl (fun _ _ _ h => h) (fun _ h => h) ?_ | (refine tx_gs 57 rfl (fun hc => ?_) (fun hc => ?_) <;> (try simp only [decide_eq_true_eq, decide_eq_false_iff_not, Int.not_lt, Int.not_le, Bool.not_eq_true', Bool.not_eq_false', Decidable.not_not, not_true_eq_false, Int.toNat_natCast] at hc) <;> (first | (exfalso; omega) | refine tx_sk 11 rfl (by kernel_rfl) rfl rfl rfl rfl (fun _ _ _ h => h) (fun _ h => h) ?_ | refine tx_qg 11 rfl (by kernel_rfl) rfl rfl (y_len rfl) rfl (fun _ _ _ h => h) (fun _ h => h) ?_ | refine tx_su 11 rfl (by kernel_rfl) rfl rfl rfl (fun _ _ _ h => h) (fun _ h => h) ?_)))
              all_goals (first | refine tx_sk 12 rfl (by kernel_rfl) rfl rfl rfl rfl (fun _ _ _ h => h) (fun _ h => h) ?_ | refine tx_pg 12 rfl (by kernel_rfl) rfl rfl (y_shl1 rfl rfl (by omega)) rfl (fun _ _ _ h => h) (fun _ h => h) ?_ | refine tx_pg 12 rfl (by kernel_rfl) rfl rfl (y_orn rfl rfl hset hpow) rfl (fun _ _ _ h => h) (fun _ h => h) ?_ | refine tx_pg 12 rfl (by kernel_rfl) rfl rfl (y_geq rfl rfl) rfl (fun _ _ _ h => h) (fun _ h => h) ?_ | refine tx_su 12 rfl (by kernel_rfl) rfl rfl rfl (fun _ _ _ h => h) (fun _ h => h) ?_ | (refine tx_gs 57 rfl (fun hc => ?_) (fun hc => ?_) <;> (try simp only [decide_eq_true_eq, decide_eq_false_iff_not, Int.not_lt, Int.not_le, Bool.not_eq_true', Bool.not_eq_false', Decidable.not_not, not_true_eq_false, Int.toNat_natCast] at hc) <;> (first | (exfalso; omega) | refine tx_sk 12 rfl (by kernel_rfl) rfl rfl rfl rfl (fun _ _ _ h => h) (fun _ h => h) ?_ | refine tx_pg 12 rfl (by kernel_rfl) rfl rfl (y_shl1 rfl rfl (by omega)) rfl (fun _ _ _ h => h) (fun _ h => h) ?_ | refine tx_pg 12 rfl (by kernel_rfl) rfl rfl (y_orn rfl rfl hset hpow) rfl (fun _ _ _ h => h) (fun _ h => h) ?_ | refine tx_pg 12 rfl (by kernel_rfl) rfl rfl (y_geq rfl rfl) rfl (fun _ _ _ h => h) (fun _ h => h) ?_ | refine tx_su 12 rfl (by kernel_rfl) rfl rfl rfl (fun _ _ _ h => h) (fun _ h => h) ?_)))
              all_goals (first | refine tx_p 13 rfl (by kernel_rfl) (y_pick_t rfl rfl) rfl (fun _ _ _ h => h) (fun _ h => h) ?_ | refine tx_p 13 rfl (by kernel_rfl) (y_pick_f rfl rfl) rfl (fun _ _ _ h => h) (fun _ h => h) ?_)
              all_goals refine tx_p 14 rfl (by kernel_rfl) (y_move rfl) rfl (fun _ _ _ h => h) (fun _ h => h) ?_
              all_goals (first | refine tx_sk 15 rfl (by kernel_rfl) rfl rfl rfl rfl (fun _ _ _ h => h) (fun _ h => h) ?_ | refine tx_pg 15 rfl (by kernel_rfl) rfl rfl (y_move rfl) rfl (fun _ _ _ h => h) (fun _ h => h) ?_ | refine tx_su 15 rfl (by kernel_rfl) rfl rfl rfl (fun _ _ _ h => h) (fun _ h => h) ?_ | (refine tx_gs 66 rfl (fun hc => ?_) (fun hc => ?_) <;> (try simp only [decide_eq_true_eq, decide_eq_false_iff_not, Int.not_lt, Int.not_le, Bool.not_eq_true', Bool.not_eq_false', Decidable.not_not, not_true_eq_false, Int.toNat_natCast] at hc) <;> (first | (exfalso; omega) | refine tx_sk 15 rfl (by kernel_rfl) rfl rfl rfl rfl (fun _ _ _ h => h) (fun _ h => h) ?_ | refine tx_pg 15 rfl (by kernel_rfl) rfl rfl (y_move rfl) rfl (fun _ _ _ h => h) (fun _ h => h) ?_ | refine tx_su 15 rfl (by kernel_rfl) rfl rfl rfl (fun _ _ _ h => h) (fun _ h => h) ?_)))
              all_goals (first | refine tx_sk 16 rfl (by kernel_rfl) rfl rfl rfl rfl (fun _ _ _ h => h) (fun _ h => h) ?_ | refine tx_pg 16 rfl (by kernel_rfl) rfl rfl (y_shl1 rfl rfl (by omega)) rfl (fun _ _ _ h => h) (fun _ h => h) ?_ | refine tx_pg 16 rfl (by kernel_rfl) rfl rfl (y_orn rfl rfl hset hpow) rfl (fun _ _ _ h => h) (fun _ h => h) ?_ | refine tx_pg 16 rfl (by kernel_rfl) rfl rfl (y_gtr rfl rfl) rfl (fun _ _ _ h => h) (fun _ h => h) ?_ | refine tx_su 16 rfl (by kernel_rfl) rfl rfl rfl (fun _ _ _ h => h) (fun _ h => h) ?_ | (refine tx_gs 66 rfl (fun hc => ?_) (fun hc => ?_) <;> (try simp only [decide_eq_true_eq, decide_eq_false_iff_not, Int.not_lt, Int.not_le, Bool.not_eq_true', Bool.not_eq_false', Decidable.not_not, not_true_eq_false, Int.toNat_natCast] at hc) <;> (first | (exfalso; omega) | refine tx_sk 16 rfl (by kernel_rfl) rfl rfl rfl rfl (fun _ _ _ h => h) (fun _ h => h) ?_ | refine tx_pg 16 rfl (by kernel_rfl) rfl rfl (y_shl1 rfl rfl (by omega)) rfl (fun _ _ _ h => h) (fun _ h => h) ?_ | refine tx_pg 16 rfl (by kernel_rfl) rfl rfl (y_orn rfl rfl hset hpow) rfl (fun _ _ _ h => h) (fun _ h => h) ?_ | refine tx_pg 16 rfl (by kernel_rfl) rfl rfl (y_gtr rfl rfl) rfl (fun _ _ _ h => h) (fun _ h => h) ?_ | refine tx_su 16 rfl (by kernel_rfl) rfl rfl rfl (fun _ _ _ h => h) (fun _ h => h) ?_)))
              all_goals (first | refine tx_sk 17 rfl (by kernel_rfl) rfl rfl rfl rfl (fun _ _ _ h => h) (fun _ h => h) ?_ | refine tx_pg 17 rfl (by kernel_rfl) rfl rfl (y_move rfl) rfl (fun _ _ _ h => h) (fun _ h => h) ?_ | refine tx_su 17 rfl (by kernel_rfl) rfl rfl rfl (fun _ _ _ h => h) (fun _ h => h) ?_ | (refine tx_gs 66 rfl (fun hc => ?_) (fun hc => ?_) <;> (try simp only [decide_eq_true_eq, decide_eq_false_iff_not, Int.not_lt, Int.not_le, Bool.not_eq_true', Bool.not_eq_false', Decidable.not_not, not_true_eq_false, Int.toNat_natCast] at hc) <;> (first | (exfalso; omega) | refine tx_sk 17 rfl (by kernel_rfl) rfl rfl rfl rfl (fun _ _ _ h => h) (fun _ h => h) ?_ | refine tx_pg 17 rfl (by kernel_rfl) rfl rfl (y_move rfl) rfl (fun _ _ _ h => h) (fun _ h => h) ?_ | refine tx_su 17 rfl (by kernel_rfl) rfl rfl rfl (fun _ _ _ h => h) (fun _ h => h) ?_)))
              all_goals (first | refine tx_sk 18 rfl (by kernel_rfl) rfl rfl rfl rfl (fun _ _ _ h => h) (fun _ h => h) ?_ | refine tx_pg 18 rfl (by kernel_rfl) rfl rfl (y_move rfl) rfl (fun _ _ _ h => h) (fun _ h => h) ?_ | refine tx_su 18 rfl (by kernel_rfl) rfl rfl rfl (fun _ _ _ h => h) (fun _ h => h) ?_ | (refine tx_gs 69 rfl (fun hc => ?_) (fun hc => ?_) <;> (try simp only [decide_eq_true_eq, decide_eq_false_iff_not, Int.not_lt, Int.not_le, Bool.not_eq_true', Bool.not_eq_false', Decidable.not_not, not_true_eq_false, Int.toNat_natCast] at hc) <;> (first | (exfalso; omega) | refine tx_sk 18 rfl (by kernel_rfl) rfl rfl rfl rfl (fun _ _ _ h => h) (fun _ h => h) ?_ | refine tx_pg 18 rfl (by kernel_rfl) rfl rfl (y_move rfl) rfl (fun _ _ _ h => h) (fun _ h => h) ?_ | refine tx_su 18 rfl (by kernel_rfl) rfl rfl rfl (fun _ _ _ h => h) (fun _ h => h) ?_)))
              all_goals (first | refine tx_sk 19 rfl (by kernel_rfl) rfl rfl rfl rfl (fun _ _ _ h => h) (fun _ h => h) ?_ | refine tx_pg 19 rfl (by kernel_rfl) rfl rfl (y_move rfl) rfl (fun _ _ _ h => h) (fun _ h => h) ?_ | refine tx_su 19 rfl (by kernel_rfl) rfl rfl rfl (fun _ _ _ h => h) (fun _ h => h) ?_ | (refine tx_gs 69 rfl (fun hc => ?_) (fun hc => ?_) <;> (try simp only [decide_eq_true_eq, decide_eq_false_iff_not, Int.not_lt, Int.not_le, Bool.not_eq_true', Bool.not_eq_false', Decidable.not_not, not_true_eq_false, Int.toNat_natCast] at hc) <;> (first | (exfalso; omega) | refine tx_sk 19 rfl (by kernel_rfl) rfl rfl rfl rfl (fun _ _ _ h => h) (fun _ h => h) ?_ | refine tx_pg 19 rfl (by kernel_rfl) rfl rfl (y_move rfl) rfl (fun _ _ _ h => h) (fun _ h => h) ?_ | refine tx_su 19 rfl (by kernel_rfl) rfl rfl rfl (fun _ _ _ h => h) (fun _ h => h) ?_)))
              all_goals (first | refine tx_sk 20 rfl (by kernel_rfl) rfl rfl rfl rfl (fun _ _ _ h => h) (fun _ h => h) ?_ | refine tx_pg 20 rfl (by kernel_rfl) rfl rfl (y_index rfl rfl (by omega) hadz') rfl (fun _ _ _ h => h) (fun _ h => h) ?_ | refine tx_pg 20 rfl (by kernel_rfl) rfl rfl (y_index rfl rfl (by omega) had') rfl (fun _ _ _ h => h) (fun _ h => h) ?_ | refine tx_pg 20 rfl (by kernel_rfl) rfl rfl (y_index rfl rfl (by omega) rfl) rfl (fun _ _ _ h => h) (fun _ h => h) ?_ | refine tx_pg 20 rfl (by kernel_rfl) rfl rfl (y_indexA rfl rfl (by omega)) rfl (fun _ _ _ h => h) (fun _ h => h) ?_ | refine tx_su 20 rfl (by kernel_rfl) rfl rfl rfl (fun _ _ _ h => h) (fun _ h => h) ?_ | (refine tx_gs 69 rfl (fun hc => ?_) (fun hc => ?_) <;> (try simp only [decide_eq_true_eq, decide_eq_false_iff_not, Int.not_lt, Int.not_le, Bool.not_eq_true', Bool.not_eq_false', Decidable.not_not, not_true_eq_false, Int.toNat_natCast] at hc) <;> (first | (exfalso; omega) | refine tx_sk 20 rfl (by kernel_rfl) rfl rfl rfl rfl (fun _ _ _ h => h) (fun _ h => h) ?_ | refine tx_pg 20 rfl (by kernel_rfl) rfl rfl (y_index rfl rfl (by omega) hadz') rfl (fun _ _ _ h => h) (fun _ h => h) ?_ | refine tx_pg 20 rfl (by kernel_rfl) rfl rfl (y_index rfl rfl (by omega) had') rfl (fun _ _ _ h => h) (fun _ h => h) ?_ | refine tx_pg 20 rfl (by kernel_rfl) rfl rfl (y_index rfl rfl (by omega) rfl) rfl (fun _ _ _ h => h) (fun _ h => h) ?_ | refine tx_pg 20 rfl (by kernel_rfl) rfl rfl (y_indexA rfl rfl (by omega)) rfl (fun _ _ _ h => h) (fun _ h => h) ?_ | refine tx_su 20 rfl (by kernel_rfl) rfl rfl rfl (fun _ _ _ h => h) (fun _ h => h) ?_)))
              all_goals (first | refine tx_sk 21 rfl (by kernel_rfl) rfl rfl rfl rfl (fun _ _ _ h => h) (fun _ h => h) ?_ | refine tx_qg 21 rfl (by kernel_rfl) rfl rfl (y_load1 rfl (by repeat constructor) (by rfl)) rfl (fun _ _ _ h => h) (fun _ h => h) ?_ | refine tx_qg 21 rfl (by kernel_rfl) rfl rfl (y_load1f rfl (hl10.at (by repeat constructor)) (MI.m (by repeat constructor)) (by simp) (by rfl)) rfl (fun _ _ _ h => h) (fun _ h => h) ?_ | refine tx_qg 21 rfl (by kernel_rfl) rfl rfl (y_load1f rfl (hl8.at (by repeat constructor)) (MI.m (by repeat constructor)) (by simp) (by rfl)) rfl (fun _ _ _ h => h) (fun _ h => h) ?_ | refine tx_qg 21 rfl (by kernel_rfl) rfl rfl (y_load1f rfl (hl7.at (by repeat constructor)) (MI.m (by repeat constructor)) (by simp) (by rfl)) rfl (fun _ _ _ h => h) (fun _ h => h) ?_ | refine tx_qg 21 rfl (by kernel_rfl) rfl rfl (y_load1f rfl (hl6.at (by repeat constructor)) (MI.m (by repeat constructor)) (by simp) (by rfl)) rfl (fun _ _ _ h => h) (fun _ h => h) ?_ | refine tx_qg 21 rfl (by kernel_rfl) rfl rfl (y_load1f rfl (hl4.at (by repeat constructor)) (MI.m (by repeat constructor)) (by simp) (by rfl)) rfl (fun _ _ _ h => h) (fun _ h => h) ?_ | refine tx_qg 21 rfl (by kernel_rfl) rfl rfl (y_load1f rfl (hl3.at (by repeat constructor)) (MI.m (by repeat constructor)) (by simp) (by rfl)) rfl (fun _ _ _ h => h) (fun _ h => h) ?_ | refine tx_qg 21 rfl (by kernel_rfl) rfl rfl (y_load1f rfl (hl1.at (by repeat constructor)) (MI.m (by repeat constructor)) (by simp) (by rfl)) rfl (fun _ _ _ h => h) (fun _ h => h) ?_ | refine tx_qg 21 rfl (by kernel_rfl) rfl rfl (y_load1o (v := vi (x.getD i 0)) rfl (fun w' hw' => by rw [show Int.toNat (i : Int) * 1 = i from by omega]; exact hcellz w' (hw'.fr (MI.m (by repeat constructor))) i (by omega))) rfl (fun _ _ _ h => h) (fun _ h => h) ?_ | refine tx_qg 21 rfl (by kernel_rfl) rfl rfl (y_load1o (v := vi (x.getD (i - 1) 0)) rfl (fun w' hw' => by rw [show Int.toNat ((i : Int) - 1) * 1 = i - 1 from by omega]; exact hcellz w' (hw'.fr (MI.m (by repeat constructor))) (i - 1) (by omega))) rfl (fun _ _ _ h => h) (fun _ h => h) ?_ | refine tx_qg 21 rfl (by kernel_rfl) rfl rfl (y_loadNo rfl (fun w' hw' => hcell w' [] (hw'.fr (w0 := w) (S := []) (MI.m (by repeat constructor))) (by simp) (Int.toNat n) (by omega))) rfl (fun _ _ _ h => h) (fun _ h => h) ?_ | refine tx_su 21 rfl (by kernel_rfl) rfl rfl rfl (fun _ _ _ h => h) (fun _ h => h) ?_ | (refine tx_gs 69 rfl (fun hc => ?_) (fun hc => ?_) <;> (try simp only [decide_eq_true_eq, decide_eq_false_iff_not, Int.not_lt, Int.not_le, Bool.not_eq_true', Bool.not_eq_false', Decidable.not_not, not_true_eq_false, Int.toNat_natCast] at hc) <;> (first | (exfalso; omega) | refine tx_sk 21 rfl (by kernel_rfl) rfl rfl rfl rfl (fun _ _ _ h => h) (fun _ h => h) ?_ | refine tx_qg 21 rfl (by kernel_rfl) rfl rfl (y_load1 rfl (by repeat constructor) (by rfl)) rfl (fun _ _ _ h => h) (fun _ h => h) ?_ | refine tx_qg 21 rfl (by kernel_rfl) rfl rfl (y_load1f rfl (hl10.at (by repeat constructor)) (MI.m (by repeat constructor)) (by simp) (by rfl)) rfl (fun _ _ _ h => h) (fun _ h => h) ?_ | refine tx_qg 21 rfl (by kernel_rfl) rfl rfl (y_load1f rfl (hl8.at (by repeat constructor)) (MI.m (by repeat constructor)) (by simp) (by rfl)) rfl (fun _ _ _ h => h) (fun _ h => h) ?_ | refine tx_qg 21 rfl (by kernel_rfl) rfl rfl (y_load1f rfl (hl7.at (by repeat constructor)) (MI.m (by repeat constructor)) (by simp) (by rfl)) rfl (fun _ _ _ h => h) (fun _ h => h) ?_ | refine tx_qg 21 rfl (by kernel_rfl) rfl rfl (y_load1f rfl (hl6.at (by repeat constructor)) (MI.m (by repeat constructor)) (by simp) (by rfl)) rfl (fun _ _ _ h => h) (fun _ h => h) ?_ | refine tx_qg 21 rfl (by kernel_rfl) rfl rfl (y_load1f rfl (hl4.at (by repeat constructor)) (MI.m (by repeat constructor)) (by simp) (by rfl)) rfl (fun _ _ _ h => h) (fun _ h => h) ?_ | refine tx_qg 21 rfl (by kernel_rfl) rfl rfl (y_load1f rfl (hl3.at (by repeat constructor)) (MI.m (by repeat constructor)) (by simp) (by rfl)) rfl (fun _ _ _ h => h) (fun _ h => h) ?_ | refine tx_qg 21 rfl (by kernel_rfl) rfl rfl (y_load1f rfl (hl1.at (by repeat constructor)) (MI.m (by repeat constructor)) (by simp) (by rfl)) rfl (fun _ _ _ h => h) (fun _ h => h) ?_ | refine tx_qg 21 rfl (by kernel_rfl) rfl rfl (y_load1o (v := vi (x.getD i 0)) rfl (fun w' hw' => by rw [show Int.toNat (i : Int) * 1 = i from by omega]; exact hcellz w' (hw'.fr (MI.m (by repeat constructor))) i (by omega))) rfl (fun _ _ _ h => h) (fun _ h => h) ?_ | refine tx_qg 21 rfl (by kernel_rfl) rfl rfl (y_load1o (v := vi (x.getD (i - 1) 0)) rfl (fun w' hw' => by rw [show Int.toNat ((i : Int) - 1) * 1 = i - 1 from by omega]; exact hcellz w' (hw'.fr (MI.m (by repeat constructor))) (i - 1) (by omega))) rfl (fun _ _ _ h => h) (fun _ h => h) ?_ | refine tx_qg 21 rfl (by kernel_rfl) rfl rfl (y_loadNo rfl (fun w' hw' => hcell w' [] (hw'.fr (w0 := w) (S := []) (MI.m (by repeat constructor))) (by simp) (Int.toNat n) (by omega))) rfl (fun _ _ _ h => h) (fun _ h => h) ?_ | refine tx_su 21 rfl (by kernel_rfl) rfl rfl rfl (fun _ _ _ h => h) (fun _ h => h) ?_)))
              all_goals (first | refine tx_sk 22 rfl (by kernel_rfl) rfl rfl rfl rfl (fun _ _ _ h => h) (fun _ h => h) ?_ | refine tx_pg 22 rfl (by kernel_rfl) rfl rfl (y_move rfl) rfl (fun _ _ _ h => h) (fun _ h => h) ?_ | refine tx_su 22 rfl (by kernel_rfl) rfl rfl rfl (fun _ _ _ h => h) (fun _ h => h) ?_ | (refine tx_gs 69 rfl (fun hc => ?_) (fun hc => ?_) <;> (try simp only [decide_eq_true_eq, decide_eq_false_iff_not, Int.not_lt, Int.not_le, Bool.not_eq_true', Bool.not_eq_false', Decidable.not_not, not_true_eq_false, Int.toNat_natCast] at hc) <;> (first | (exfalso; omega) | refine tx_sk 22 rfl (by kernel_rfl) rfl rfl rfl rfl (fun _ _ _ h => h) (fun _ h => h) ?_ | refine tx_pg 22 rfl (by kernel_rfl) rfl rfl (y_move rfl) rfl (fun _ _ _ h => h) (fun _ h => h) ?_ | refine tx_su 22 rfl (by kernel_rfl) rfl rfl rfl (fun _ _ _ h => h) (fun _ h => h) ?_)))
              all_goals (first | refine tx_sk 23 rfl (by kernel_rfl) rfl rfl rfl rfl (fun _ _ _ h => h) (fun _ h => h) ?_ | refine tx_pg 23 rfl (by kernel_rfl) rfl rfl (y_move rfl) rfl (fun _ _ _ h => h) (fun _ h => h) ?_ | refine tx_su 23 rfl (by kernel_rfl) rfl rfl rfl (fun _ _ _ h => h) (fun _ h => h) ?_ | (refine tx_gs 69 rfl (fun hc => ?_) (fun hc => ?_) <;> (try simp only [decide_eq_true_eq, decide_eq_false_iff_not, Int.not_lt, Int.not_le, Bool.not_eq_true', Bool.not_eq_false', Decidable.not_not, not_true_eq_false, Int.toNat_natCast] at hc) <;> (first | (exfalso; omega) | refine tx_sk 23 rfl (by kernel_rfl) rfl rfl rfl rfl (fun _ _ _ h => h) (fun _ h => h) ?_ | refine tx_pg 23 rfl (by kernel_rfl) rfl rfl (y_move rfl) rfl (fun _ _ _ h => h) (fun _ h => h) ?_ | refine tx_su 23 rfl (by kernel_rfl) rfl rfl rfl (fun _ _ _ h => h) (fun _ h => h) ?_)))
              all_goals (first | refine tx_sk 24 rfl (by kernel_rfl) rfl rfl rfl rfl (fun _ _ _ h => h) (fun _ h => h) ?_ | refine tx_pg 24 rfl (by kernel_rfl) rfl rfl (y_shl1 rfl rfl (by omega)) rfl (fun _ _ _ h => h) (fun _ h => h) ?_ | refine tx_pg 24 rfl (by kernel_rfl) rfl rfl (y_orn rfl rfl hset hpow) rfl (fun _ _ _ h => h) (fun _ h => h) ?_ | refine tx_pg 24 rfl (by kernel_rfl) rfl rfl (y_sub rfl rfl (by omega)) rfl (fun _ _ _ h => h) (fun _ h => h) ?_ | refine tx_su 24 rfl (by kernel_rfl) rfl rfl rfl (fun _ _ _ h => h) (fun _ h => h) ?_ | (refine tx_gs 69 rfl (fun hc => ?_) (fun hc => ?_) <;> (try simp only [decide_eq_true_eq, decide_eq_false_iff_not, Int.not_lt, Int.not_le, Bool.not_eq_true', Bool.not_eq_false', Decidable.not_not, not_true_eq_false, Int.toNat_natCast] at hc) <;> (first | (exfalso; omega) | refine tx_sk 24 rfl (by kernel_rfl) rfl rfl rfl rfl (fun _ _ _ h => h) (fun _ h => h) ?_ | refine tx_pg 24 rfl (by kernel_rfl) rfl rfl (y_shl1 rfl rfl (by omega)) rfl (fun _ _ _ h => h) (fun _ h => h) ?_ | refine tx_pg 24 rfl (by kernel_rfl) rfl rfl (y_orn rfl rfl hset hpow) rfl (fun _ _ _ h => h) (fun _ h => h) ?_ | refine tx_pg 24 rfl (by kernel_rfl) rfl rfl (y_sub rfl rfl (by omega)) rfl (fun _ _ _ h => h) (fun _ h => h) ?_ | refine tx_su 24 rfl (by kernel_rfl) rfl rfl rfl (fun _ _ _ h => h) (fun _ h => h) ?_)))
              all_goals (first | refine tx_sk 25 rfl (by kernel_rfl) rfl rfl rfl rfl (fun _ _ _ h => h) (fun _ h => h) ?_ | refine tx_pg 25 rfl (by kernel_rfl) rfl rfl (y_index rfl rfl (by omega) hadz') rfl (fun _ _ _ h => h) (fun _ h => h) ?_ | refine tx_pg 25 rfl (by kernel_rfl) rfl rfl (y_index rfl rfl (by omega) had') rfl (fun _ _ _ h => h) (fun _ h => h) ?_ | refine tx_pg 25 rfl (by kernel_rfl) rfl rfl (y_index rfl rfl (by omega) rfl) rfl (fun _ _ _ h => h) (fun _ h => h) ?_ | refine tx_pg 25 rfl (by kernel_rfl) rfl rfl (y_indexA rfl rfl (by omega)) rfl (fun _ _ _ h => h) (fun _ h => h) ?_ | refine tx_su 25 rfl (by kernel_rfl) rfl rfl rfl (fun _ _ _ h => h) (fun _ h => h) ?_ | (refine tx_gs 69 rfl (fun hc => ?_) (fun hc => ?_) <;> (try simp only [decide_eq_true_eq, decide_eq_false_iff_not, Int.not_lt, Int.not_le, Bool.not_eq_true', Bool.not_eq_false', Decidable.not_not, not_true_eq_false, Int.toNat_natCast] at hc) <;> (first | (exfalso; omega) | refine tx_sk 25 rfl (by kernel_rfl) rfl rfl rfl rfl (fun _ _ _ h => h) (fun _ h => h) ?_ | refine tx_pg 25 rfl (by kernel_rfl) rfl rfl (y_index rfl rfl (by omega) hadz') rfl (fun _ _ _ h => h) (fun _ h => h) ?_ | refine tx_pg 25 rfl (by kernel_rfl) rfl rfl (y_index rfl rfl (by omega) had') rfl (fun _ _ _ h => h) (fun _ h => h) ?_ | refine tx_pg 25 rfl (by kernel_rfl) rfl rfl (y_index rfl rfl (by omega) rfl) rfl (fun _ _ _ h => h) (fun _ h => h) ?_ | refine tx_pg 25 rfl (by kernel_rfl) rfl rfl (y_indexA rfl rfl (by omega)) rfl (fun _ _ _ h => h) (fun _ h => h) ?_ | refine tx_su 25 rfl (by kernel_rfl) rfl rfl rfl (fun _ _ _ h => h) (fun _ h => h) ?_)))
              all_goals (first | refine tx_sk 26 rfl (by kernel_rfl) rfl rfl rfl rfl (fun _ _ _ h => h) (fun _ h => h) ?_ | refine tx_qg 26 rfl (by kernel_rfl) rfl rfl (y_load1 rfl (by repeat constructor) (by rfl)) rfl (fun _ _ _ h => h) (fun _ h => h) ?_ | refine tx_qg 26 rfl (by kernel_rfl) rfl rfl (y_load1f rfl (hl10.at (by repeat constructor)) (MI.m (by repeat constructor)) (by simp) (by rfl)) rfl (fun _ _ _ h => h) (fun _ h => h) ?_ | refine tx_qg 26 rfl (by kernel_rfl) rfl rfl (y_load1f rfl (hl8.at (by repeat constructor)) (MI.m (by repeat constructor)) (by simp) (by rfl)) rfl (fun _ _ _ h => h) (fun _ h => h) ?_ | refine tx_qg 26 rfl (by kernel_rfl) rfl rfl (y_load1f rfl (hl7.at (by repeat constructor)) (MI.m (by repeat constructor)) (by simp) (by rfl)) rfl (fun _ _ _ h => h) (fun _ h => h) ?_ | refine tx_qg 26 rfl (by kernel_rfl) rfl rfl (y_load1f rfl (hl6.at (by repeat constructor)) (MI.m (by repeat constructor)) (by simp) (by rfl)) rfl (fun _ _ _ h => h) (fun _ h => h) ?_ | refine tx_qg 26 rfl (by kernel_rfl) rfl rfl (y_load1f rfl (hl4.at (by repeat constructor)) (MI.m (by repeat constructor)) (by simp) (by rfl)) rfl (fun _ _ _ h => h) (fun _ h => h) ?_ | refine tx_qg 26 rfl (by kernel_rfl) rfl rfl (y_load1f rfl (hl3.at (by repeat constructor)) (MI.m (by repeat constructor)) (by simp) (by rfl)) rfl (fun _ _ _ h => h) (fun _ h => h) ?_ | refine tx_qg 26 rfl (by kernel_rfl) rfl rfl (y_load1f rfl (hl1.at (by repeat constructor)) (MI.m (by repeat constructor)) (by simp) (by rfl)) rfl (fun _ _ _ h => h) (fun _ h => h) ?_ | refine tx_qg 26 rfl (by kernel_rfl) rfl rfl (y_load1o (v := vi (x.getD i 0)) rfl (fun w' hw' => by rw [show Int.toNat (i : Int) * 1 = i from by omega]; exact hcellz w' (hw'.fr (MI.m (by repeat constructor))) i (by omega))) rfl (fun _ _ _ h => h) (fun _ h => h) ?_ | refine tx_qg 26 rfl (by kernel_rfl) rfl rfl (y_load1o (v := vi (x.getD (i - 1) 0)) rfl (fun w' hw' => by rw [show Int.toNat ((i : Int) - 1) * 1 = i - 1 from by omega]; exact hcellz w' (hw'.fr (MI.m (by repeat constructor))) (i - 1) (by omega))) rfl (fun _ _ _ h => h) (fun _ h => h) ?_ | refine tx_qg 26 rfl (by kernel_rfl) rfl rfl (y_loadNo rfl (fun w' hw' => hcell w' [] (hw'.fr (w0 := w) (S := []) (MI.m (by repeat constructor))) (by simp) (Int.toNat n) (by omega))) rfl (fun _ _ _ h => h) (fun _ h => h) ?_ | refine tx_su 26 rfl (by kernel_rfl) rfl rfl rfl (fun _ _ _ h => h) (fun _ h => h) ?_ | (refine tx_gs 69 rfl (fun hc => ?_) (fun hc => ?_) <;> (try simp only [decide_eq_true_eq, decide_eq_false_iff_not, Int.not_lt, Int.not_le, Bool.not_eq_true', Bool.not_eq_false', Decidable.not_not, not_true_eq_false, Int.toNat_natCast] at hc) <;> (first | (exfalso; omega) | refine tx_sk 26 rfl (by kernel_rfl) rfl rfl rfl rfl (fun _ _ _ h => h) (fun _ h => h) ?_ | refine tx_qg 26 rfl (by kernel_rfl) rfl rfl (y_load1 rfl (by repeat constructor) (by rfl)) rfl (fun _ _ _ h => h) (fun _ h => h) ?_ | refine tx_qg 26 rfl (by kernel_rfl) rfl rfl (y_load1f rfl (hl10.at (by repeat constructor)) (MI.m (by repeat constructor)) (by simp) (by rfl)) rfl (fun _ _ _ h => h) (fun _ h => h) ?_ | refine tx_qg 26 rfl (by kernel_rfl) rfl rfl (y_load1f rfl (hl8.at (by repeat constructor)) (MI.m (by repeat constructor)) (by simp) (by rfl)) rfl (fun _ _ _ h => h) (fun _ h => h) ?_ | refine tx_qg 26 rfl (by kernel_rfl) rfl rfl (y_load1f rfl (hl7.at (by repeat constructor)) (MI.m (by repeat constructor)) (by simp) (by rfl)) rfl (fun _ _ _ h => h) (fun _ h => h) ?_ | refine tx_qg 26 rfl (by kernel_rfl) rfl rfl (y_load1f rfl (hl6.at (by repeat constructor)) (MI.m (by repeat constructor)) (by simp) (by rfl)) rfl (fun _ _ _ h => h) (fun _ h => h) ?_ | refine tx_qg 26 rfl (by kernel_rfl) rfl rfl (y_load1f rfl (hl4.at (by repeat constructor)) (MI.m (by repeat constructor)) (by simp) (by rfl)) rfl (fun _ _ _ h => h) (fun _ h => h) ?_ | refine tx_qg 26 rfl (by kernel_rfl) rfl rfl (y_load1f rfl (hl3.at (by repeat constructor)) (MI.m (by repeat constructor)) (by simp) (by rfl)) rfl (fun _ _ _ h => h) (fun _ h => h) ?_ | refine tx_qg 26 rfl (by kernel_rfl) rfl rfl (y_load1f rfl (hl1.at (by repeat constructor)) (MI.m (by repeat constructor)) (by simp) (by rfl)) rfl (fun _ _ _ h => h) (fun _ h => h) ?_ | refine tx_qg 26 rfl (by kernel_rfl) rfl rfl (y_load1o (v := vi (x.getD i 0)) rfl (fun w' hw' => by rw [show Int.toNat (i : Int) * 1 = i from by omega]; exact hcellz w' (hw'.fr (MI.m (by repeat constructor))) i (by omega))) rfl (fun _ _ _ h => h) (fun _ h => h) ?_ | refine tx_qg 26 rfl (by kernel_rfl) rfl rfl (y_load1o (v := vi (x.getD (i - 1) 0)) rfl (fun w' hw' => by rw [show Int.toNat ((i : Int) - 1) * 1 = i - 1 from by omega]; exact hcellz w' (hw'.fr (MI.m (by repeat constructor))) (i - 1) (by omega))) rfl (fun _ _ _ h => h) (fun _ h => h) ?_ | refine tx_qg 26 rfl (by kernel_rfl) rfl rfl (y_loadNo rfl (fun w' hw' => hcell w' [] (hw'.fr (w0 := w) (S := []) (MI.m (by repeat constructor))) (by simp) (Int.toNat n) (by omega))) rfl (fun _ _ _ h => h) (fun _ h => h) ?_ | refine tx_su 26 rfl (by kernel_rfl) rfl rfl rfl (fun _ _ _ h => h) (fun _ h => h) ?_)))
              all_goals (first | refine tx_sk 27 rfl (by kernel_rfl) rfl rfl rfl rfl (fun _ _ _ h => h) (fun _ h => h) ?_ | refine tx_pg 27 rfl (by kernel_rfl) rfl rfl (y_shl1 rfl rfl (by omega)) rfl (fun _ _ _ h => h) (fun _ h => h) ?_ | refine tx_pg 27 rfl (by kernel_rfl) rfl rfl (y_orn rfl rfl hset hpow) rfl (fun _ _ _ h => h) (fun _ h => h) ?_ | refine tx_pg 27 rfl (by kernel_rfl) rfl rfl (y_leq rfl rfl) rfl (fun _ _ _ h => h) (fun _ h => h) ?_ | refine tx_su 27 rfl (by kernel_rfl) rfl rfl rfl (fun _ _ _ h => h) (fun _ h => h) ?_ | (refine tx_gs 69 rfl (fun hc => ?_) (fun hc => ?_) <;> (try simp only [decide_eq_true_eq, decide_eq_false_iff_not, Int.not_lt, Int.not_le, Bool.not_eq_true', Bool.not_eq_false', Decidable.not_not, not_true_eq_false, Int.toNat_natCast] at hc) <;> (first | (exfalso; omega) | refine tx_sk 27 rfl (by kernel_rfl) rfl rfl rfl rfl (fun _ _ _ h => h) (fun _ h => h) ?_ | refine tx_pg 27 rfl (by kernel_rfl) rfl rfl (y_shl1 rfl rfl (by omega)) rfl (fun _ _ _ h => h) (fun _ h => h) ?_ | refine tx_pg 27 rfl (by kernel_rfl) rfl rfl (y_orn rfl rfl hset hpow) rfl (fun _ _ _ h => h) (fun _ h => h) ?_ | refine tx_pg 27 rfl (by kernel_rfl) rfl rfl (y_leq rfl rfl) rfl (fun _ _ _ h => h) (fun _ h => h) ?_ | refine tx_su 27 rfl (by kernel_rfl) rfl rfl rfl (fun _ _ _ h => h) (fun _ h => h) ?_)))
              all_goals (first | refine tx_sk 28 rfl (by kernel_rfl) rfl rfl rfl rfl (fun _ _ _ h => h) (fun _ h => h) ?_ | refine tx_pg 28 rfl (by kernel_rfl) rfl rfl (y_pick_t rfl rfl) rfl (fun _ _ _ h => h) (fun _ h => h) ?_ | refine tx_pg 28 rfl (by kernel_rfl) rfl rfl (y_pick_f rfl rfl) rfl (fun _ _ _ h => h) (fun _ h => h) ?_ | refine tx_su 28 rfl (by kernel_rfl) rfl rfl rfl (fun _ _ _ h => h) (fun _ h => h) ?_ | (refine tx_gs 66 rfl (fun hc => ?_) (fun hc => ?_) <;> (try simp only [decide_eq_true_eq, decide_eq_false_iff_not, Int.not_lt, Int.not_le, Bool.not_eq_true', Bool.not_eq_false', Decidable.not_not, not_true_eq_false, Int.toNat_natCast] at hc) <;> (first | (exfalso; omega) | refine tx_sk 28 rfl (by kernel_rfl) rfl rfl rfl rfl (fun _ _ _ h => h) (fun _ h => h) ?_ | refine tx_pg 28 rfl (by kernel_rfl) rfl rfl (y_pick_t rfl rfl) rfl (fun _ _ _ h => h) (fun _ h => h) ?_ | refine tx_pg 28 rfl (by kernel_rfl) rfl rfl (y_pick_f rfl rfl) rfl (fun _ _ _ h => h) (fun _ h => h) ?_ | refine tx_su 28 rfl (by kernel_rfl) rfl rfl rfl (fun _ _ _ h => h) (fun _ h => h) ?_)))
              all_goals (first | refine tx_p 29 rfl (by kernel_rfl) (y_pick_t rfl rfl) rfl (fun _ _ _ h => h) (fun _ h => h) ?_ | refine tx_p 29 rfl (by kernel_rfl) (y_pick_f rfl rfl) rfl (fun _ _ _ h => h) (fun _ h => h) ?_)
              all_goals refine tx_done (by kernel_rfl) ?_
              all_goals (refine hK16 ?_; try (clear hK16; clear K16))
              all_goals (
               refine tc_cond rfl (fun hc => ?_) (fun hc => ?_)
               · try simp only [decide_eq_true_eq, decide_eq_false_iff_not, Int.not_lt, Int.not_le, Bool.not_eq_true', Bool.not_eq_false', Decidable.not_not, not_true_eq_false, Int.toNat_natCast] at hc
                 all_goals first | (exfalso; with_reducible exact bft hc) | (exfalso; with_reducible exact btf hc) | (exfalso; omega) | skip
                 all_goals refine tc_seq fun K17 hK17 => ?_
                 all_goals refine tc_lay ([]) (SB.s (by repeat constructor)) (fun wl11 hl11 => ?_)
                 all_goals refine tc_region ?_
                 all_goals refine tl_q (y_assign rfl) rfl ?_
                 all_goals refine tl_nil ?_
                 all_goals (refine hK17 ?_; try (clear hK17; clear K17))
                 all_goals refine tc_ret ?_
                 all_goals (repeat (first | refine tk_then_ret ?_ | refine tk_block_ret ?_ | refine tk_scope_ret ?_))
                 all_goals first | refine tk_ret rfl rfl (.cons (.tmp rfl) .nil) ?_ | refine tk_retM rfl (by repeat constructor) rfl (.cons (.tmp rfl) .nil) ?_
                 all_goals (
                  refine fun w' hw' => ⟨?_, hw'.fr (w0 := w) (S := []) (MI.m (by repeat constructor))⟩
                  first
                  | rfl
                  | (exfalso; omega))
               · try simp only [decide_eq_true_eq, decide_eq_false_iff_not, Int.not_lt, Int.not_le, Bool.not_eq_true', Bool.not_eq_false', Decidable.not_not, not_true_eq_false, Int.toNat_natCast] at hc
                 all_goals first | (exfalso; with_reducible exact bft hc) | (exfalso; with_reducible exact btf hc) | (exfalso; omega) | skip
                 all_goals refine tc_skip ?_
                 all_goals (refine hK15 ?_; try (clear hK15; clear K15))
                 all_goals refine tc_lay ([]) (SB.s (by repeat constructor)) (fun wl12 hl12 => ?_)
                 all_goals (have hset : setN x i < 2 ^ 62 := Nat.lt_of_lt_of_le (setN_lt (N := l.length) hxb i) (Nat.pow_le_pow_right (by omega) (by omega)); have hpow := pow62 (k := x.getD i 0) (by omega))
                 all_goals refine tc_region ?_
                 all_goals refine tl_q (y_move rfl) rfl ?_
                 all_goals refine tl_q (y_move rfl) rfl ?_
                 all_goals refine tl_q (y_move rfl) rfl ?_
                 all_goals (first | refine tl_q (y_index rfl rfl (by omega) hadz') rfl ?_ | refine tl_q (y_index rfl rfl (by omega) had') rfl ?_ | refine tl_q (y_index rfl rfl (by omega) rfl) rfl ?_ | refine tl_q (y_indexA rfl rfl (by omega)) rfl ?_)
                 all_goals (first | refine tl_q (y_load1 rfl (by repeat constructor) (by rfl)) rfl ?_ | refine tl_q (y_load1f rfl (hl12.at (by repeat constructor)) (MI.m (by repeat constructor)) (by simp) (by rfl)) rfl ?_ | refine tl_q (y_load1f rfl (hl10.at (by repeat constructor)) (MI.m (by repeat constructor)) (by simp) (by rfl)) rfl ?_ | refine tl_q (y_load1f rfl (hl8.at (by repeat constructor)) (MI.m (by repeat constructor)) (by simp) (by rfl)) rfl ?_ | refine tl_q (y_load1f rfl (hl7.at (by repeat constructor)) (MI.m (by repeat constructor)) (by simp) (by rfl)) rfl ?_ | refine tl_q (y_load1f rfl (hl6.at (by repeat constructor)) (MI.m (by repeat constructor)) (by simp) (by rfl)) rfl ?_ | refine tl_q (y_load1f rfl (hl4.at (by repeat constructor)) (MI.m (by repeat constructor)) (by simp) (by rfl)) rfl ?_ | refine tl_q (y_load1f rfl (hl3.at (by repeat constructor)) (MI.m (by repeat constructor)) (by simp) (by rfl)) rfl ?_ | refine tl_q (y_load1f rfl (hl1.at (by repeat constructor)) (MI.m (by repeat constructor)) (by simp) (by rfl)) rfl ?_ | refine tl_q (y_load1o (v := vi (x.getD i 0)) rfl (fun w' hw' => by rw [show Int.toNat (i : Int) * 1 = i from by omega]; exact hcellz w' (hw'.fr (MI.m (by repeat constructor))) i (by omega))) rfl ?_ | refine tl_q (y_load1o (v := vi (x.getD (i - 1) 0)) rfl (fun w' hw' => by rw [show Int.toNat ((i : Int) - 1) * 1 = i - 1 from by omega]; exact hcellz w' (hw'.fr (MI.m (by repeat constructor))) (i - 1) (by omega))) rfl ?_ | refine tl_q (y_loadNo rfl (fun w' hw' => hcell w' [] (hw'.fr (w0 := w) (S := []) (MI.m (by repeat constructor))) (by simp) (Int.toNat n) (by omega))) rfl ?_)
                 all_goals (first | refine tl_q (y_conv64 rfl (by omega)) rfl ?_ | refine tl_q (y_conv rfl (by simp only [IntKind.wrap, IntKind.bits, IntKind.signed, Bool.false_and, Bool.true_and, Bool.false_eq_true, if_false, decide_eq_true_eq]; omega)) rfl ?_)
                 all_goals (first | refine tl_q (y_shl1 rfl rfl (by omega)) rfl ?_ | refine tl_q (y_orn rfl rfl hset hpow) rfl ?_ | refine tl_q (y_shl rfl rfl (by omega) (by omega)) rfl ?_)
                 all_goals (first | refine tl_q (y_shl1 rfl rfl (by omega)) rfl ?_ | refine tl_q (y_orn rfl rfl hset hpow) rfl ?_ | refine tl_q (y_or rfl rfl) rfl ?_)
                 all_goals refine tl_q (y_assign rfl) rfl ?_
                 all_goals refine tl_nil ?_
                 all_goals (refine hK14 ?_; try (clear hK14; clear K14))
                 all_goals refine tc_lay ([]) (SB.s (by repeat constructor)) (fun wl9 hl9 => ?_)
                 all_goals refine tc_region ?_
                 all_goals refine tl_q (y_move rfl) rfl ?_
                 all_goals (first | refine tl_q (y_shl1 rfl rfl (by omega)) rfl ?_ | refine tl_q (y_orn rfl rfl hset hpow) rfl ?_ | refine tl_q (y_add rfl rfl (by omega)) rfl ?_)
                 all_goals refine tl_q (y_assign rfl) rfl ?_
                 all_goals refine tl_nil ?_
                 all_goals (
                  have hsx := setN_succ x (n := i) (by omega)
                  exact tk_round (i + 1) (by omega) (by omega) (.cons rfl (.cons rfl (.cons rfl (.cons rfl (.cons (by rw [hsx]; rfl) (.cons rfl .nil)))))) (fun _ h => h.subl (SB.s (by repeat constructor)) (SB.s (by repeat constructor)))))
            · try simp only [decide_eq_true_eq, decide_eq_false_iff_not, Int.not_lt, Int.not_le, Bool.not_eq_true', Bool.not_eq_false', Decidable.not_not, not_true_eq_false, Int.toNat_natCast] at hc
              all_goals first | (exfalso; with_reducible exact bft hc) | (exfalso; with_reducible exact btf hc) | (exfalso; omega) | skip
              all_goals refine tc_exit ?_
              all_goals (refine hK10 ?_; try (clear hK10; clear K10))
              all_goals refine tc_seq fun K18 hK18 => ?_
              all_goals refine tc_lay ([]) (SB.s (by repeat constructor)) (fun wl13 hl13 => ?_)
              all_goals (have hix : i = x.length := by omega)
              all_goals subst hix
              all_goals rw [← hS]
              all_goals refine tc_region ?_
              all_goals refine tl_q (y_move rfl) rfl ?_
              all_goals (first | refine tl_q (y_conv64 rfl (by omega)) rfl ?_ | refine tl_q (y_conv rfl (by simp only [IntKind.wrap, IntKind.bits, IntKind.signed, Bool.false_and, Bool.true_and, Bool.false_eq_true, if_false, decide_eq_true_eq]; omega)) rfl ?_)
              all_goals refine tl_q (y_move rfl) rfl ?_
              all_goals refine tl_q (y_len rfl) rfl ?_
              all_goals (first | refine tl_q (y_conv64 rfl (by omega)) rfl ?_ | refine tl_q (y_conv rfl (by simp only [IntKind.wrap, IntKind.bits, IntKind.signed, Bool.false_and, Bool.true_and, Bool.false_eq_true, if_false, decide_eq_true_eq]; omega)) rfl ?_)
              all_goals (first | refine tl_q (y_shl1 rfl rfl (by omega)) rfl ?_ | refine tl_q (y_orn rfl rfl hset hpow) rfl ?_ | refine tl_q (y_shl rfl rfl (by omega) (by omega)) rfl ?_)
              all_goals (first | refine tl_q (y_shl1 rfl rfl (by omega)) rfl ?_ | refine tl_q (y_orn rfl rfl hset hpow) rfl ?_ | refine tl_q (y_rem rfl rfl (by omega) (by omega)) rfl ?_)
              all_goals rw [ht]
              all_goals refine tl_q (y_assign rfl) rfl ?_
              all_goals refine tl_nil ?_
              all_goals (refine hK18 ?_; try (clear hK18; clear K18))
              all_goals refine tc_seq fun K19 hK19 => ?_
              all_goals refine tc_lay ([]) (SB.s (by repeat constructor)) (fun wl14 hl14 => ?_)
              all_goals refine tc_region ?_
              all_goals refine tl_q (y_assign rfl) rfl ?_
              all_goals refine tl_q (y_assign rfl) rfl ?_
              all_goals refine tl_nil ?_
              all_goals (refine hK19 ?_; try (clear hK19; clear K19))
              all_goals refine tc_seq fun K20 hK20 => ?_
              all_goals refine tc_seq fun K21 hK21 => ?_
              all_goals refine tc_lay ([]) (SB.s (by repeat constructor)) (fun wl15 hl15 => ?_)
              all_goals refine tc_region ?_
              all_goals refine tl_q (y_assign rfl) rfl ?_
              all_goals refine tl_nil ?_
              all_goals (refine hK21 ?_; try (clear hK21; clear K21))
              all_goals refine tc_block ?_
              all_goals (
               refine tc_loop (fun p : Nat × Option (Nat × Nat × List Value) × Option (Nat × Nat × List Value) => p.1 ≤ l.length ∧ outOkR ((keepN l (S : Int) p.1).length, p.2.1) ∧ outOkR ((keepN l (t : Int) p.1).length, p.2.2)) (fun p => [(1, .slice ad2 l.length cap2), (3, ptr b3), (7, slV x.length z.1), (9, vi S), (11, vi t), (12, outV' ((keepN l (S : Int) p.1).length, p.2.1)), (13, outV' ((keepN l (t : Int) p.1).length, p.2.2)), (14, vi p.1)]) (fun _ => [(z.2, []), (wl1, []), (w, [])]) (fun p => lfH l S t p.1 p.2.1 p.2.2) (fun p => l.length - p.1) ?_ ?_
               · exact tk_start (0, none, none) ⟨Nat.zero_le _, rfl, rfl⟩ (.cons rfl (.cons rfl (.cons rfl (.cons rfl (.cons rfl (.cons rfl (.cons rfl (.cons rfl .nil)))))))) (fun _ h => h.subl (SB.s (by repeat constructor)) (SB.s (by repeat constructor)))
               · rintro ⟨n, ok, oo⟩ ⟨hn, hk, ho2⟩
                 have hlk := keepN_len l (S : Int) n
                 have hlo := keepN_len l (t : Int) n
                 rcases ok with _ | ⟨bk, ck, jk⟩ <;> rcases oo with _ | ⟨bo, co, jo⟩
                 all_goals (dsimp only [outOkR] at hn hk ho2 ⊢; dsimp only [outV', lfH])
                 all_goals refine tc_seq fun K22 hK22 => ?_
                 all_goals refine tc_seq fun K23 hK23 => ?_
                 all_goals refine tc_region ?_
                 all_goals refine tl_q (y_move rfl) rfl ?_
                 all_goals refine tl_q (y_move rfl) rfl ?_
                 all_goals refine tl_q (y_len rfl) rfl ?_
                 all_goals (first | refine tl_q (y_shl1 rfl rfl (by omega)) rfl ?_ | refine tl_q (y_orn rfl rfl hset hpow) rfl ?_ | refine tl_q (y_lss rfl rfl) rfl ?_)
                 all_goals refine tl_nil ?_
                 all_goals (refine hK23 ?_; try (clear hK23; clear K23))
                 all_goals (
                  refine tc_cond rfl (fun hc => ?_) (fun hc => ?_)
                  · try simp only [decide_eq_true_eq, decide_eq_false_iff_not, Int.not_lt, Int.not_le, Bool.not_eq_true', Bool.not_eq_false', Decidable.not_not, not_true_eq_false, Int.toNat_natCast] at hc
                    all_goals first | (exfalso; with_reducible exact bft hc) | (exfalso; with_reducible exact btf hc) | (exfalso; omega) | skip
                    all_goals refine tc_skip ?_
                    all_goals (refine hK22 ?_; try (clear hK22; clear K22))
                    all_goals refine tc_seq fun K24 hK24 => ?_
                    all_goals refine tc_block ?_
                    all_goals refine tc_seq fun K25 hK25 => ?_
                    all_goals refine tc_seq fun K26 hK26 => ?_
                    all_goals (have had' := had (by omega); have hdS : 0 ≤ (S : Int) / 2 ^ (n : Int).toNat := Int.ediv_nonneg (by omega) (Int.le_of_lt (Int.pow_pos (by decide))); have hdT : 0 ≤ (t : Int) / 2 ^ (n : Int).toNat := Int.ediv_nonneg (by omega) (Int.le_of_lt (Int.pow_pos (by decide))))
                    all_goals refine tc_region ?_
                    all_goals refine tl_q (y_move rfl) rfl ?_
                    all_goals refine tl_q (y_move rfl) rfl ?_
                    all_goals (first | refine tl_q (y_conv64 rfl (by omega)) rfl ?_ | refine tl_q (y_conv rfl (by simp only [IntKind.wrap, IntKind.bits, IntKind.signed, Bool.false_and, Bool.true_and, Bool.false_eq_true, if_false, decide_eq_true_eq]; omega)) rfl ?_)
                    all_goals (first | refine tl_q (y_shl1 rfl rfl (by omega)) rfl ?_ | refine tl_q (y_orn rfl rfl hset hpow) rfl ?_ | refine tl_q (y_shr rfl rfl (by omega)) rfl ?_)
                    all_goals (first | refine tl_q (y_shl1 rfl rfl (by omega)) rfl ?_ | refine tl_q (y_orn rfl rfl hset hpow) rfl ?_ | refine tl_q (y_rem rfl rfl (by omega) (by omega)) rfl ?_)
                    all_goals (first | refine tl_q (z_eqlT rfl rfl (by omega)) rfl ?_ | refine tl_q (z_eqlF rfl rfl (by omega)) rfl ?_ | refine tl_q (y_eql rfl rfl) rfl ?_)
                    all_goals refine tl_nil ?_
                    all_goals (refine hK26 ?_; try (clear hK26; clear K26))
                    all_goals (
                     refine tc_cond rfl (fun hc => ?_) (fun hc => ?_)
                     · try simp only [decide_eq_true_eq, decide_eq_false_iff_not, Int.not_lt, Int.not_le, Bool.not_eq_true', Bool.not_eq_false', Decidable.not_not, not_true_eq_false, Int.toNat_natCast] at hc
                       all_goals first | (exfalso; with_reducible exact bft hc) | (exfalso; with_reducible exact btf hc) | (exfalso; omega) | skip
                       all_goals refine tc_region ?_
                       all_goals refine tl_q (y_move rfl) rfl ?_
                       all_goals refine tl_q (y_move rfl) rfl ?_
                       all_goals refine tl_q (y_move rfl) rfl ?_
                       all_goals (first | refine tl_q (y_index rfl rfl (by omega) hadz') rfl ?_ | refine tl_q (y_index rfl rfl (by omega) had') rfl ?_ | refine tl_q (y_index rfl rfl (by omega) rfl) rfl ?_ | refine tl_q (y_indexA rfl rfl (by omega)) rfl ?_)
                       all_goals (first | refine tl_q (y_loadW rfl (by repeat constructor) (by rfl)) rfl ?_ | refine tl_q (y_loadN rfl (by repeat constructor) (by (repeat (first | exact .nil | apply CA.cons rfl)); done)) rfl ?_ | refine tl_q (y_loadWf rfl (hl15.at (by repeat constructor)) (MI.m (by repeat constructor)) (by simp) (by rfl)) rfl ?_ | refine tl_q (y_loadWf rfl (hl14.at (by repeat constructor)) (MI.m (by repeat constructor)) (by simp) (by rfl)) rfl ?_ | refine tl_q (y_loadWf rfl (hl13.at (by repeat constructor)) (MI.m (by repeat constructor)) (by simp) (by rfl)) rfl ?_ | refine tl_q (y_loadWf rfl (hl8.at (by repeat constructor)) (MI.m (by repeat constructor)) (by simp) (by rfl)) rfl ?_ | refine tl_q (y_loadWf rfl (hl7.at (by repeat constructor)) (MI.m (by repeat constructor)) (by simp) (by rfl)) rfl ?_ | refine tl_q (y_loadWf rfl (hl6.at (by repeat constructor)) (MI.m (by repeat constructor)) (by simp) (by rfl)) rfl ?_ | refine tl_q (y_loadWf rfl (hl4.at (by repeat constructor)) (MI.m (by repeat constructor)) (by simp) (by rfl)) rfl ?_ | refine tl_q (y_loadWf rfl (hl3.at (by repeat constructor)) (MI.m (by repeat constructor)) (by simp) (by rfl)) rfl ?_ | refine tl_q (y_loadWf rfl (hl1.at (by repeat constructor)) (MI.m (by repeat constructor)) (by simp) (by rfl)) rfl ?_ | refine tl_q (y_load1f rfl (hl15.at (by repeat constructor)) (MI.m (by repeat constructor)) (by simp) (by rfl)) rfl ?_ | refine tl_q (y_load1f rfl (hl14.at (by repeat constructor)) (MI.m (by repeat constructor)) (by simp) (by rfl)) rfl ?_ | refine tl_q (y_load1f rfl (hl13.at (by repeat constructor)) (MI.m (by repeat constructor)) (by simp) (by rfl)) rfl ?_ | refine tl_q (y_load1f rfl (hl8.at (by repeat constructor)) (MI.m (by repeat constructor)) (by simp) (by rfl)) rfl ?_ | refine tl_q (y_load1f rfl (hl7.at (by repeat constructor)) (MI.m (by repeat constructor)) (by simp) (by rfl)) rfl ?_ | refine tl_q (y_load1f rfl (hl6.at (by repeat constructor)) (MI.m (by repeat constructor)) (by simp) (by rfl)) rfl ?_ | refine tl_q (y_load1f rfl (hl4.at (by repeat constructor)) (MI.m (by repeat constructor)) (by simp) (by rfl)) rfl ?_ | refine tl_q (y_load1f rfl (hl3.at (by repeat constructor)) (MI.m (by repeat constructor)) (by simp) (by rfl)) rfl ?_ | refine tl_q (y_load1f rfl (hl1.at (by repeat constructor)) (MI.m (by repeat constructor)) (by simp) (by rfl)) rfl ?_ | refine tl_q (y_load1o (v := vi (x.getD i 0)) rfl (fun w' hw' => by rw [show Int.toNat (i : Int) * 1 = i from by omega]; exact hcellz w' (hw'.fr (MI.m (by repeat constructor))) i (by omega))) rfl ?_ | refine tl_q (y_load1o (v := vi (x.getD (i - 1) 0)) rfl (fun w' hw' => by rw [show Int.toNat ((i : Int) - 1) * 1 = i - 1 from by omega]; exact hcellz w' (hw'.fr (MI.m (by repeat constructor))) (i - 1) (by omega))) rfl ?_ | refine tl_q (y_loadNo rfl (fun w' hw' => hcell w' [] (hw'.fr (w0 := w) (S := []) (MI.m (by repeat constructor))) (by simp) (Int.toNat n) (by omega))) rfl ?_)
                       all_goals refine tl_e (e_bslice rfl (by (repeat (first | exact .nil | apply PV.one rfl rfl | apply PV.two rfl)); done) rfl rfl) rfl (fun _ _ => ?_)
                       all_goals (first | refine tl_e (e_append_own (old := flatR (keepN l (S : Int) n)) (junk := jk) rfl rfl rfl (by repeat constructor) (by rw [flatR_len]) hk.2 hk.1 (fun w' hw' => RdR.own0 (xs := [l.getD n (0, 0)]) hw' (by repeat constructor)) (flatR_one _) (by simp only [List.length_cons, List.length_nil]; omega) rfl) rfl (fun y hy => ?_) | refine tl_e (e_append_own (old := flatR (keepN l (t : Int) n)) (junk := jo) rfl rfl rfl (by repeat constructor) (by rw [flatR_len]) ho2.2 ho2.1 (fun w' hw' => RdR.own0 (xs := [l.getD n (0, 0)]) hw' (by repeat constructor)) (flatR_one _) (by simp only [List.length_cons, List.length_nil]; omega) rfl) rfl (fun y hy => ?_) | refine tl_e (e_append_nil rfl rfl rfl (fun w' hw' => RdR.own0 (xs := [l.getD n (0, 0)]) hw' (by repeat constructor)) (flatR_one _) Nat.zero_lt_one (Nat.le_of_ble_eq_true rfl) rfl) rfl (fun y hy => ?_))
                       all_goals refine tl_q (y_assign rfl) rfl ?_
                       all_goals refine tl_nil ?_
                       all_goals (refine hK25 ?_; try (clear hK25; clear K25))
                       all_goals refine tc_seq fun K27 hK27 => ?_
                       all_goals (have hck := hc)
                       all_goals refine tc_region ?_
                       all_goals refine tl_q (y_move rfl) rfl ?_
                       all_goals refine tl_q (y_move rfl) rfl ?_
                       all_goals (first | refine tl_q (y_conv64 rfl (by omega)) rfl ?_ | refine tl_q (y_conv rfl (by simp only [IntKind.wrap, IntKind.bits, IntKind.signed, Bool.false_and, Bool.true_and, Bool.false_eq_true, if_false, decide_eq_true_eq]; omega)) rfl ?_)
                       all_goals (first | refine tl_q (y_shl1 rfl rfl (by omega)) rfl ?_ | refine tl_q (y_orn rfl rfl hset hpow) rfl ?_ | refine tl_q (y_shr rfl rfl (by omega)) rfl ?_)
                       all_goals (first | refine tl_q (y_shl1 rfl rfl (by omega)) rfl ?_ | refine tl_q (y_orn rfl rfl hset hpow) rfl ?_ | refine tl_q (y_rem rfl rfl (by omega) (by omega)) rfl ?_)
                       all_goals (first | refine tl_q (z_eqlT rfl rfl (by omega)) rfl ?_ | refine tl_q (z_eqlF rfl rfl (by omega)) rfl ?_ | refine tl_q (y_eql rfl rfl) rfl ?_)
                       all_goals refine tl_nil ?_
                       all_goals (refine hK27 ?_; try (clear hK27; clear K27))
                       all_goals (
                        refine tc_cond rfl (fun hc => ?_) (fun hc => ?_)
                        · try simp only [decide_eq_true_eq, decide_eq_false_iff_not, Int.not_lt, Int.not_le, Bool.not_eq_true', Bool.not_eq_false', Decidable.not_not, not_true_eq_false, Int.toNat_natCast] at hc
                          all_goals first | (exfalso; with_reducible exact bft hc) | (exfalso; with_reducible exact btf hc) | (exfalso; omega) | skip
                          all_goals refine tc_region ?_
                          all_goals refine tl_q (y_move rfl) rfl ?_
                          all_goals refine tl_q (y_move rfl) rfl ?_
                          all_goals refine tl_q (y_move rfl) rfl ?_
                          all_goals (first | refine tl_q (y_index rfl rfl (by omega) hadz') rfl ?_ | refine tl_q (y_index rfl rfl (by omega) had') rfl ?_ | refine tl_q (y_index rfl rfl (by omega) rfl) rfl ?_ | refine tl_q (y_indexA rfl rfl (by omega)) rfl ?_)
                          all_goals (first | refine tl_q (y_loadW rfl (by repeat constructor) (by rfl)) rfl ?_ | refine tl_q (y_loadN rfl (by repeat constructor) (by (repeat (first | exact .nil | apply CA.cons rfl)); done)) rfl ?_ | refine tl_q (y_loadWf rfl (hl15.at (by repeat constructor)) (MI.m (by repeat constructor)) (by simp) (by rfl)) rfl ?_ | refine tl_q (y_loadWf rfl (hl14.at (by repeat constructor)) (MI.m (by repeat constructor)) (by simp) (by rfl)) rfl ?_ | refine tl_q (y_loadWf rfl (hl13.at (by repeat constructor)) (MI.m (by repeat constructor)) (by simp) (by rfl)) rfl ?_ | refine tl_q (y_loadWf rfl (hl8.at (by repeat constructor)) (MI.m (by repeat constructor)) (by simp) (by rfl)) rfl ?_ | refine tl_q (y_loadWf rfl (hl7.at (by repeat constructor)) (MI.m (by repeat constructor)) (by simp) (by rfl)) rfl ?_ | refine tl_q (y_loadWf rfl (hl6.at (by repeat constructor)) (MI.m (by repeat constructor)) (by simp) (by rfl)) rfl ?_ | refine tl_q (y_loadWf rfl (hl4.at (by repeat constructor)) (MI.m (by repeat constructor)) (by simp) (by rfl)) rfl ?_ | refine tl_q (y_loadWf rfl (hl3.at (by repeat constructor)) (MI.m (by repeat constructor)) (by simp) (by rfl)) rfl ?_ | refine tl_q (y_loadWf rfl (hl1.at (by repeat constructor)) (MI.m (by repeat constructor)) (by simp) (by rfl)) rfl ?_ | refine tl_q (y_load1f rfl (hl15.at (by repeat constructor)) (MI.m (by repeat constructor)) (by simp) (by rfl)) rfl ?_ | refine tl_q (y_load1f rfl (hl14.at (by repeat constructor)) (MI.m (by repeat constructor)) (by simp) (by rfl)) rfl ?_ | refine tl_q (y_load1f rfl (hl13.at (by repeat constructor)) (MI.m (by repeat constructor)) (by simp) (by rfl)) rfl ?_ | refine tl_q (y_load1f rfl (hl8.at (by repeat constructor)) (MI.m (by repeat constructor)) (by simp) (by rfl)) rfl ?_ | refine tl_q (y_load1f rfl (hl7.at (by repeat constructor)) (MI.m (by repeat constructor)) (by simp) (by rfl)) rfl ?_ | refine tl_q (y_load1f rfl (hl6.at (by repeat constructor)) (MI.m (by repeat constructor)) (by simp) (by rfl)) rfl ?_ | refine tl_q (y_load1f rfl (hl4.at (by repeat constructor)) (MI.m (by repeat constructor)) (by simp) (by rfl)) rfl ?_ | refine tl_q (y_load1f rfl (hl3.at (by repeat constructor)) (MI.m (by repeat constructor)) (by simp) (by rfl)) rfl ?_ | refine tl_q (y_load1f rfl (hl1.at (by repeat constructor)) (MI.m (by repeat constructor)) (by simp) (by rfl)) rfl ?_ | refine tl_q (y_load1o (v := vi (x.getD i 0)) rfl (fun w' hw' => by rw [show Int.toNat (i : Int) * 1 = i from by omega]; exact hcellz w' (hw'.fr (MI.m (by repeat constructor))) i (by omega))) rfl ?_ | refine tl_q (y_load1o (v := vi (x.getD (i - 1) 0)) rfl (fun w' hw' => by rw [show Int.toNat ((i : Int) - 1) * 1 = i - 1 from by omega]; exact hcellz w' (hw'.fr (MI.m (by repeat constructor))) (i - 1) (by omega))) rfl ?_ | refine tl_q (y_loadNo rfl (fun w' hw' => hcell w' [] (hw'.fr (w0 := w) (S := []) (MI.m (by repeat constructor))) (by simp) (Int.toNat n) (by omega))) rfl ?_)
                          all_goals refine tl_e (e_bslice rfl (by (repeat (first | exact .nil | apply PV.one rfl rfl | apply PV.two rfl)); done) rfl rfl) rfl (fun _ _ => ?_)
                          all_goals (first | refine tl_e (e_append_own (old := flatR (keepN l (S : Int) n)) (junk := jk) rfl rfl rfl (by repeat constructor) (by rw [flatR_len]) hk.2 hk.1 (fun w' hw' => RdR.own0 (xs := [l.getD n (0, 0)]) hw' (by repeat constructor)) (flatR_one _) (by simp only [List.length_cons, List.length_nil]; omega) rfl) rfl (fun u hu => ?_) | refine tl_e (e_append_own (old := flatR (keepN l (t : Int) n)) (junk := jo) rfl rfl rfl (by repeat constructor) (by rw [flatR_len]) ho2.2 ho2.1 (fun w' hw' => RdR.own0 (xs := [l.getD n (0, 0)]) hw' (by repeat constructor)) (flatR_one _) (by simp only [List.length_cons, List.length_nil]; omega) rfl) rfl (fun u hu => ?_) | refine tl_e (e_append_nil rfl rfl rfl (fun w' hw' => RdR.own0 (xs := [l.getD n (0, 0)]) hw' (by repeat constructor)) (flatR_one _) Nat.zero_lt_one (Nat.le_of_ble_eq_true rfl) rfl) rfl (fun u hu => ?_))
                          all_goals refine tl_q (y_assign rfl) rfl ?_
                          all_goals refine tl_nil ?_
                          all_goals (refine hK24 ?_; try (clear hK24; clear K24))
                          all_goals refine tc_region ?_
                          all_goals refine tl_q (y_move rfl) rfl ?_
                          all_goals (first | refine tl_q (y_shl1 rfl rfl (by omega)) rfl ?_ | refine tl_q (y_orn rfl rfl hset hpow) rfl ?_ | refine tl_q (y_add rfl rfl (by omega)) rfl ?_)
                          all_goals refine tl_q (y_assign rfl) rfl ?_
                          all_goals refine tl_nil ?_
                          all_goals (
                           first
                           | (have eK := keep_yes (l := l) hck
                              have eO := keep_yes (l := l) hc
                              refine tk_round (n + 1, some (y.1, y.2.1, y.2.2), some (u.1, u.2.1, u.2.2)) ⟨by dsimp only; omega, ?_, ?_⟩ (by dsimp only; omega) (.cons rfl (.cons rfl (.cons rfl (.cons rfl (.cons rfl (.cons ?_ (.cons ?_ (.cons rfl .nil)))))))) (fun _ h => ?_)
                              · dsimp only [outOkR]; rw [eK, List.length_append]; simp only [List.length_cons, List.length_nil] at hy ⊢; omega
                              · dsimp only [outOkR]; rw [eO, List.length_append]; simp only [List.length_cons, List.length_nil] at hu ⊢; omega
                              · dsimp only [outV']; rw [eK, List.length_append]; first | rfl | (rw [hk]; rfl)
                              · dsimp only [outV']; rw [eO, List.length_append]; first | rfl | (rw [ho2]; rfl)
                              · dsimp only [lfH]
                                try simp only [eK, eO, flatR_append]
                                try rw [show flatR (keepN l (S : Int) n) = [] from by rw [List.eq_nil_of_length_eq_zero hk]; rfl, List.nil_append]
                                try rw [show flatR (keepN l (t : Int) n) = [] from by rw [List.eq_nil_of_length_eq_zero ho2]; rfl, List.nil_append]
                                exact (h.subl (SB.s (by repeat constructor)) (SB.s (by repeat constructor))).sw)
                           | (have eK := keep_yes (l := l) hck
                              have eO := keep_no (l := l) hc
                              refine tk_round (n + 1, some (y.1, y.2.1, y.2.2), some (bo, co, jo)) ⟨by dsimp only; omega, ?_, ?_⟩ (by dsimp only; omega) (.cons rfl (.cons rfl (.cons rfl (.cons rfl (.cons rfl (.cons ?_ (.cons ?_ (.cons rfl .nil)))))))) (fun _ h => ?_)
                              · dsimp only [outOkR]; rw [eK, List.length_append]; simp only [List.length_cons, List.length_nil] at hy ⊢; omega
                              · dsimp only [outOkR]; rw [eO]; exact ho2
                              · dsimp only [outV']; rw [eK, List.length_append]; first | rfl | (rw [hk]; rfl)
                              · dsimp only [outV']; rw [eO]; rfl
                              · dsimp only [lfH]
                                try simp only [eK, eO, flatR_append]
                                try rw [show flatR (keepN l (S : Int) n) = [] from by rw [List.eq_nil_of_length_eq_zero hk]; rfl, List.nil_append]
                                try rw [show flatR (keepN l (t : Int) n) = [] from by rw [List.eq_nil_of_length_eq_zero ho2]; rfl, List.nil_append]
                                exact (h.subl (SB.s (by repeat constructor)) (SB.s (by repeat constructor))))
                           | (have eK := keep_yes (l := l) hck
                              have eO := keep_no (l := l) hc
                              refine tk_round (n + 1, some (y.1, y.2.1, y.2.2), none) ⟨by dsimp only; omega, ?_, ?_⟩ (by dsimp only; omega) (.cons rfl (.cons rfl (.cons rfl (.cons rfl (.cons rfl (.cons ?_ (.cons ?_ (.cons rfl .nil)))))))) (fun _ h => ?_)
                              · dsimp only [outOkR]; rw [eK, List.length_append]; simp only [List.length_cons, List.length_nil] at hy ⊢; omega
                              · dsimp only [outOkR]; rw [eO]; exact ho2
                              · dsimp only [outV']; rw [eK, List.length_append]; first | rfl | (rw [hk]; rfl)
                              · dsimp only [outV']; rfl
                              · dsimp only [lfH]
                                try simp only [eK, eO, flatR_append]
                                try rw [show flatR (keepN l (S : Int) n) = [] from by rw [List.eq_nil_of_length_eq_zero hk]; rfl, List.nil_append]
                                try rw [show flatR (keepN l (t : Int) n) = [] from by rw [List.eq_nil_of_length_eq_zero ho2]; rfl, List.nil_append]
                                exact (h.subl (SB.s (by repeat constructor)) (SB.s (by repeat constructor))))
                           | (have eK := keep_no (l := l) hck
                              have eO := keep_yes (l := l) hc
                              refine tk_round (n + 1, some (bk, ck, jk), some (u.1, u.2.1, u.2.2)) ⟨by dsimp only; omega, ?_, ?_⟩ (by dsimp only; omega) (.cons rfl (.cons rfl (.cons rfl (.cons rfl (.cons rfl (.cons ?_ (.cons ?_ (.cons rfl .nil)))))))) (fun _ h => ?_)
                              · dsimp only [outOkR]; rw [eK]; exact hk
                              · dsimp only [outOkR]; rw [eO, List.length_append]; simp only [List.length_cons, List.length_nil] at hu ⊢; omega
                              · dsimp only [outV']; rw [eK]; rfl
                              · dsimp only [outV']; rw [eO, List.length_append]; first | rfl | (rw [ho2]; rfl)
                              · dsimp only [lfH]
                                try simp only [eK, eO, flatR_append]
                                try rw [show flatR (keepN l (S : Int) n) = [] from by rw [List.eq_nil_of_length_eq_zero hk]; rfl, List.nil_append]
                                try rw [show flatR (keepN l (t : Int) n) = [] from by rw [List.eq_nil_of_length_eq_zero ho2]; rfl, List.nil_append]
                                exact (h.subl (SB.s (by repeat constructor)) (SB.s (by repeat constructor))).sw)
                           | (have eK := keep_no (l := l) hck
                              have eO := keep_no (l := l) hc
                              refine tk_round (n + 1, some (bk, ck, jk), some (bo, co, jo)) ⟨by dsimp only; omega, ?_, ?_⟩ (by dsimp only; omega) (.cons rfl (.cons rfl (.cons rfl (.cons rfl (.cons rfl (.cons ?_ (.cons ?_ (.cons rfl .nil)))))))) (fun _ h => ?_)
                              · dsimp only [outOkR]; rw [eK]; exact hk
                              · dsimp only [outOkR]; rw [eO]; exact ho2
                              · dsimp only [outV']; rw [eK]; rfl
                              · dsimp only [outV']; rw [eO]; rfl
                              · dsimp only [lfH]
                                try simp only [eK, eO, flatR_append]
                                try rw [show flatR (keepN l (S : Int) n) = [] from by rw [List.eq_nil_of_length_eq_zero hk]; rfl, List.nil_append]
                                try rw [show flatR (keepN l (t : Int) n) = [] from by rw [List.eq_nil_of_length_eq_zero ho2]; rfl, List.nil_append]
                                exact (h.subl (SB.s (by repeat constructor)) (SB.s (by repeat constructor))))
                           | (have eK := keep_no (l := l) hck
                              have eO := keep_no (l := l) hc
                              refine tk_round (n + 1, some (bk, ck, jk), none) ⟨by dsimp only; omega, ?_, ?_⟩ (by dsimp only; omega) (.cons rfl (.cons rfl (.cons rfl (.cons rfl (.cons rfl (.cons ?_ (.cons ?_ (.cons rfl .nil)))))))) (fun _ h => ?_)
                              · dsimp only [outOkR]; rw [eK]; exact hk
                              · dsimp only [outOkR]; rw [eO]; exact ho2
                              · dsimp only [outV']; rw [eK]; rfl
                              · dsimp only [outV']; rfl
                              · dsimp only [lfH]
                                try simp only [eK, eO, flatR_append]
                                try rw [show flatR (keepN l (S : Int) n) = [] from by rw [List.eq_nil_of_length_eq_zero hk]; rfl, List.nil_append]
                                try rw [show flatR (keepN l (t : Int) n) = [] from by rw [List.eq_nil_of_length_eq_zero ho2]; rfl, List.nil_append]
                                exact (h.subl (SB.s (by repeat constructor)) (SB.s (by repeat constructor))))
                           | (have eK := keep_no (l := l) hck
                              have eO := keep_yes (l := l) hc
                              refine tk_round (n + 1, none, some (u.1, u.2.1, u.2.2)) ⟨by dsimp only; omega, ?_, ?_⟩ (by dsimp only; omega) (.cons rfl (.cons rfl (.cons rfl (.cons rfl (.cons rfl (.cons ?_ (.cons ?_ (.cons rfl .nil)))))))) (fun _ h => ?_)
                              · dsimp only [outOkR]; rw [eK]; exact hk
                              · dsimp only [outOkR]; rw [eO, List.length_append]; simp only [List.length_cons, List.length_nil] at hu ⊢; omega
                              · dsimp only [outV']; rfl
                              · dsimp only [outV']; rw [eO, List.length_append]; first | rfl | (rw [ho2]; rfl)
                              · dsimp only [lfH]
                                try simp only [eK, eO, flatR_append]
                                try rw [show flatR (keepN l (S : Int) n) = [] from by rw [List.eq_nil_of_length_eq_zero hk]; rfl, List.nil_append]
                                try rw [show flatR (keepN l (t : Int) n) = [] from by rw [List.eq_nil_of_length_eq_zero ho2]; rfl, List.nil_append]
                                exact (h.subl (SB.s (by repeat constructor)) (SB.s (by repeat constructor))))
                           | (have eK := keep_no (l := l) hck
                              have eO := keep_no (l := l) hc
                              refine tk_round (n + 1, none, some (bo, co, jo)) ⟨by dsimp only; omega, ?_, ?_⟩ (by dsimp only; omega) (.cons rfl (.cons rfl (.cons rfl (.cons rfl (.cons rfl (.cons ?_ (.cons ?_ (.cons rfl .nil)))))))) (fun _ h => ?_)
                              · dsimp only [outOkR]; rw [eK]; exact hk
                              · dsimp only [outOkR]; rw [eO]; exact ho2
                              · dsimp only [outV']; rfl
                              · dsimp only [outV']; rw [eO]; rfl
                              · dsimp only [lfH]
                                try simp only [eK, eO, flatR_append]
                                try rw [show flatR (keepN l (S : Int) n) = [] from by rw [List.eq_nil_of_length_eq_zero hk]; rfl, List.nil_append]
                                try rw [show flatR (keepN l (t : Int) n) = [] from by rw [List.eq_nil_of_length_eq_zero ho2]; rfl, List.nil_append]
                                exact (h.subl (SB.s (by repeat constructor)) (SB.s (by repeat constructor))))
                           | (have eK := keep_no (l := l) hck
                              have eO := keep_no (l := l) hc
                              refine tk_round (n + 1, none, none) ⟨by dsimp only; omega, ?_, ?_⟩ (by dsimp only; omega) (.cons rfl (.cons rfl (.cons rfl (.cons rfl (.cons rfl (.cons ?_ (.cons ?_ (.cons rfl .nil)))))))) (fun _ h => ?_)
                              · dsimp only [outOkR]; rw [eK]; exact hk
                              · dsimp only [outOkR]; rw [eO]; exact ho2
                              · dsimp only [outV']; rfl
                              · dsimp only [outV']; rfl
                              · dsimp only [lfH]
                                try simp only [eK, eO, flatR_append]
                                try rw [show flatR (keepN l (S : Int) n) = [] from by rw [List.eq_nil_of_length_eq_zero hk]; rfl, List.nil_append]
                                try rw [show flatR (keepN l (t : Int) n) = [] from by rw [List.eq_nil_of_length_eq_zero ho2]; rfl, List.nil_append]
                                exact (h.subl (SB.s (by repeat constructor)) (SB.s (by repeat constructor)))))
                        · try simp only [decide_eq_true_eq, decide_eq_false_iff_not, Int.not_lt, Int.not_le, Bool.not_eq_true', Bool.not_eq_false', Decidable.not_not, not_true_eq_false, Int.toNat_natCast] at hc
                          all_goals first | (exfalso; with_reducible exact bft hc) | (exfalso; with_reducible exact btf hc) | (exfalso; omega) | skip
                          all_goals refine tc_skip ?_
                          all_goals (refine hK24 ?_; try (clear hK24; clear K24))
                          all_goals refine tc_region ?_
                          all_goals refine tl_q (y_move rfl) rfl ?_
                          all_goals (first | refine tl_q (y_shl1 rfl rfl (by omega)) rfl ?_ | refine tl_q (y_orn rfl rfl hset hpow) rfl ?_ | refine tl_q (y_add rfl rfl (by omega)) rfl ?_)
                          all_goals refine tl_q (y_assign rfl) rfl ?_
                          all_goals refine tl_nil ?_
                          all_goals (
                           first
                           | (have eK := keep_yes (l := l) hck
                              have eO := keep_yes (l := l) hc
                              refine tk_round (n + 1, some (y.1, y.2.1, y.2.2), some (u.1, u.2.1, u.2.2)) ⟨by dsimp only; omega, ?_, ?_⟩ (by dsimp only; omega) (.cons rfl (.cons rfl (.cons rfl (.cons rfl (.cons rfl (.cons ?_ (.cons ?_ (.cons rfl .nil)))))))) (fun _ h => ?_)
                              · dsimp only [outOkR]; rw [eK, List.length_append]; simp only [List.length_cons, List.length_nil] at hy ⊢; omega
                              · dsimp only [outOkR]; rw [eO, List.length_append]; simp only [List.length_cons, List.length_nil] at hu ⊢; omega
                              · dsimp only [outV']; rw [eK, List.length_append]; first | rfl | (rw [hk]; rfl)
                              · dsimp only [outV']; rw [eO, List.length_append]; first | rfl | (rw [ho2]; rfl)
                              · dsimp only [lfH]
                                try simp only [eK, eO, flatR_append]
                                try rw [show flatR (keepN l (S : Int) n) = [] from by rw [List.eq_nil_of_length_eq_zero hk]; rfl, List.nil_append]
                                try rw [show flatR (keepN l (t : Int) n) = [] from by rw [List.eq_nil_of_length_eq_zero ho2]; rfl, List.nil_append]
                                exact (h.subl (SB.s (by repeat constructor)) (SB.s (by repeat constructor))).sw)
                           | (have eK := keep_yes (l := l) hck
                              have eO := keep_no (l := l) hc
                              refine tk_round (n + 1, some (y.1, y.2.1, y.2.2), some (bo, co, jo)) ⟨by dsimp only; omega, ?_, ?_⟩ (by dsimp only; omega) (.cons rfl (.cons rfl (.cons rfl (.cons rfl (.cons rfl (.cons ?_ (.cons ?_ (.cons rfl .nil)))))))) (fun _ h => ?_)
                              · dsimp only [outOkR]; rw [eK, List.length_append]; simp only [List.length_cons, List.length_nil] at hy ⊢; omega
                              · dsimp only [outOkR]; rw [eO]; exact ho2
                              · dsimp only [outV']; rw [eK, List.length_append]; first | rfl | (rw [hk]; rfl)
                              · dsimp only [outV']; rw [eO]; rfl
                              · dsimp only [lfH]
                                try simp only [eK, eO, flatR_append]
                                try rw [show flatR (keepN l (S : Int) n) = [] from by rw [List.eq_nil_of_length_eq_zero hk]; rfl, List.nil_append]
                                try rw [show flatR (keepN l (t : Int) n) = [] from by rw [List.eq_nil_of_length_eq_zero ho2]; rfl, List.nil_append]
                                exact (h.subl (SB.s (by repeat constructor)) (SB.s (by repeat constructor))))
                           | (have eK := keep_yes (l := l) hck
                              have eO := keep_no (l := l) hc
                              refine tk_round (n + 1, some (y.1, y.2.1, y.2.2), none) ⟨by dsimp only; omega, ?_, ?_⟩ (by dsimp only; omega) (.cons rfl (.cons rfl (.cons rfl (.cons rfl (.cons rfl (.cons ?_ (.cons ?_ (.cons rfl .nil)))))))) (fun _ h => ?_)
                              · dsimp only [outOkR]; rw [eK, List.length_append]; simp only [List.length_cons, List.length_nil] at hy ⊢; omega
                              · dsimp only [outOkR]; rw [eO]; exact ho2
                              · dsimp only [outV']; rw [eK, List.length_append]; first | rfl | (rw [hk]; rfl)
                              · dsimp only [outV']; rfl
                              · dsimp only [lfH]
                                try simp only [eK, eO, flatR_append]
                                try rw [show flatR (keepN l (S : Int) n) = [] from by rw [List.eq_nil_of_length_eq_zero hk]; rfl, List.nil_append]
                                try rw [show flatR (keepN l (t : Int) n) = [] from by rw [List.eq_nil_of_length_eq_zero ho2]; rfl, List.nil_append]
                                exact (h.subl (SB.s (by repeat constructor)) (SB.s (by repeat constructor))))
                           | (have eK := keep_no (l := l) hck
                              have eO := keep_yes (l := l) hc
                              refine tk_round (n + 1, some (bk, ck, jk), some (u.1, u.2.1, u.2.2)) ⟨by dsimp only; omega, ?_, ?_⟩ (by dsimp only; omega) (.cons rfl (.cons rfl (.cons rfl (.cons rfl (.cons rfl (.cons ?_ (.cons ?_ (.cons rfl .nil)))))))) (fun _ h => ?_)
                              · dsimp only [outOkR]; rw [eK]; exact hk
                              · dsimp only [outOkR]; rw [eO, List.length_append]; simp only [List.length_cons, List.length_nil] at hu ⊢; omega
                              · dsimp only [outV']; rw [eK]; rfl
                              · dsimp only [outV']; rw [eO, List.length_append]; first | rfl | (rw [ho2]; rfl)
                              · dsimp only [lfH]
                                try simp only [eK, eO, flatR_append]
                                try rw [show flatR (keepN l (S : Int) n) = [] from by rw [List.eq_nil_of_length_eq_zero hk]; rfl, List.nil_append]
                                try rw [show flatR (keepN l (t : Int) n) = [] from by rw [List.eq_nil_of_length_eq_zero ho2]; rfl, List.nil_append]
                                exact (h.subl (SB.s (by repeat constructor)) (SB.s (by repeat constructor))).sw)
                           | (have eK := keep_no (l := l) hck
                              have eO := keep_no (l := l) hc
                              refine tk_round (n + 1, some (bk, ck, jk), some (bo, co, jo)) ⟨by dsimp only; omega, ?_, ?_⟩ (by dsimp only; omega) (.cons rfl (.cons rfl (.cons rfl (.cons rfl (.cons rfl (.cons ?_ (.cons ?_ (.cons rfl .nil)))))))) (fun _ h => ?_)
                              · dsimp only [outOkR]; rw [eK]; exact hk
                              · dsimp only [outOkR]; rw [eO]; exact ho2
                              · dsimp only [outV']; rw [eK]; rfl
                              · dsimp only [outV']; rw [eO]; rfl
                              · dsimp only [lfH]
                                try simp only [eK, eO, flatR_append]
                                try rw [show flatR (keepN l (S : Int) n) = [] from by rw [List.eq_nil_of_length_eq_zero hk]; rfl, List.nil_append]
                                try rw [show flatR (keepN l (t : Int) n) = [] from by rw [List.eq_nil_of_length_eq_zero ho2]; rfl, List.nil_append]
                                exact (h.subl (SB.s (by repeat constructor)) (SB.s (by repeat constructor))))
                           | (have eK := keep_no (l := l) hck
                              have eO := keep_no (l := l) hc
                              refine tk_round (n + 1, some (bk, ck, jk), none) ⟨by dsimp only; omega, ?_, ?_⟩ (by dsimp only; omega) (.cons rfl (.cons rfl (.cons rfl (.cons rfl (.cons rfl (.cons ?_ (.cons ?_ (.cons rfl .nil)))))))) (fun _ h => ?_)
                              · dsimp only [outOkR]; rw [eK]; exact hk
                              · dsimp only [outOkR]; rw [eO]; exact ho2
                              · dsimp only [outV']; rw [eK]; rfl
                              · dsimp only [outV']; rfl
                              · dsimp only [lfH]
                                try simp only [eK, eO, flatR_append]
                                try rw [show flatR (keepN l (S : Int) n) = [] from by rw [List.eq_nil_of_length_eq_zero hk]; rfl, List.nil_append]
                                try rw [show flatR (keepN l (t : Int) n) = [] from by rw [List.eq_nil_of_length_eq_zero ho2]; rfl, List.nil_append]
                                exact (h.subl (SB.s (by repeat constructor)) (SB.s (by repeat constructor))))
                           | (have eK := keep_no (l := l) hck
                              have eO := keep_yes (l := l) hc
                              refine tk_round (n + 1, none, some (u.1, u.2.1, u.2.2)) ⟨by dsimp only; omega, ?_, ?_⟩ (by dsimp only; omega) (.cons rfl (.cons rfl (.cons rfl (.cons rfl (.cons rfl (.cons ?_ (.cons ?_ (.cons rfl .nil)))))))) (fun _ h => ?_)
                              · dsimp only [outOkR]; rw [eK]; exact hk
                              · dsimp only [outOkR]; rw [eO, List.length_append]; simp only [List.length_cons, List.length_nil] at hu ⊢; omega
                              · dsimp only [outV']; rfl
                              · dsimp only [outV']; rw [eO, List.length_append]; first | rfl | (rw [ho2]; rfl)
                              · dsimp only [lfH]
                                try simp only [eK, eO, flatR_append]
                                try rw [show flatR (keepN l (S : Int) n) = [] from by rw [List.eq_nil_of_length_eq_zero hk]; rfl, List.nil_append]
                                try rw [show flatR (keepN l (t : Int) n) = [] from by rw [List.eq_nil_of_length_eq_zero ho2]; rfl, List.nil_append]
                                exact (h.subl (SB.s (by repeat constructor)) (SB.s (by repeat constructor))))
                           | (have eK := keep_no (l := l) hck
                              have eO := keep_no (l := l) hc
                              refine tk_round (n + 1, none, some (bo, co, jo)) ⟨by dsimp only; omega, ?_, ?_⟩ (by dsimp only; omega) (.cons rfl (.cons rfl (.cons rfl (.cons rfl (.cons rfl (.cons ?_ (.cons ?_ (.cons rfl .nil)))))))) (fun _ h => ?_)
                              · dsimp only [outOkR]; rw [eK]; exact hk
                              · dsimp only [outOkR]; rw [eO]; exact ho2
                              · dsimp only [outV']; rfl
                              · dsimp only [outV']; rw [eO]; rfl
                              · dsimp only [lfH]
                                try simp only [eK, eO, flatR_append]
                                try rw [show flatR (keepN l (S : Int) n) = [] from by rw [List.eq_nil_of_length_eq_zero hk]; rfl, List.nil_append]
                                try rw [show flatR (keepN l (t : Int) n) = [] from by rw [List.eq_nil_of_length_eq_zero ho2]; rfl, List.nil_append]
                                exact (h.subl (SB.s (by repeat constructor)) (SB.s (by repeat constructor))))
                           | (have eK := keep_no (l := l) hck
                              have eO := keep_no (l := l) hc
                              refine tk_round (n + 1, none, none) ⟨by dsimp only; omega, ?_, ?_⟩ (by dsimp only; omega) (.cons rfl (.cons rfl (.cons rfl (.cons rfl (.cons rfl (.cons ?_ (.cons ?_ (.cons rfl .nil)))))))) (fun _ h => ?_)
                              · dsimp only [outOkR]; rw [eK]; exact hk
                              · dsimp only [outOkR]; rw [eO]; exact ho2
                              · dsimp only [outV']; rfl
                              · dsimp only [outV']; rfl
                              · dsimp only [lfH]
                                try simp only [eK, eO, flatR_append]
                                try rw [show flatR (keepN l (S : Int) n) = [] from by rw [List.eq_nil_of_length_eq_zero hk]; rfl, List.nil_append]
                                try rw [show flatR (keepN l (t : Int) n) = [] from by rw [List.eq_nil_of_length_eq_zero ho2]; rfl, List.nil_append]
                                exact (h.subl (SB.s (by repeat constructor)) (SB.s (by repeat constructor))))))
                     · try simp only [decide_eq_true_eq, decide_eq_false_iff_not, Int.not_lt, Int.not_le, Bool.not_eq_true', Bool.not_eq_false', Decidable.not_not, not_true_eq_false, Int.toNat_natCast] at hc
                       all_goals first | (exfalso; with_reducible exact bft hc) | (exfalso; with_reducible exact btf hc) | (exfalso; omega) | skip
                       all_goals refine tc_skip ?_
                       all_goals (refine hK25 ?_; try (clear hK25; clear K25))
                       all_goals refine tc_seq fun K28 hK28 => ?_
                       all_goals (have hck := hc)
                       all_goals refine tc_region ?_
                       all_goals refine tl_q (y_move rfl) rfl ?_
                       all_goals refine tl_q (y_move rfl) rfl ?_
                       all_goals (first | refine tl_q (y_conv64 rfl (by omega)) rfl ?_ | refine tl_q (y_conv rfl (by simp only [IntKind.wrap, IntKind.bits, IntKind.signed, Bool.false_and, Bool.true_and, Bool.false_eq_true, if_false, decide_eq_true_eq]; omega)) rfl ?_)
                       all_goals (first | refine tl_q (y_shl1 rfl rfl (by omega)) rfl ?_ | refine tl_q (y_orn rfl rfl hset hpow) rfl ?_ | refine tl_q (y_shr rfl rfl (by omega)) rfl ?_)
                       all_goals (first | refine tl_q (y_shl1 rfl rfl (by omega)) rfl ?_ | refine tl_q (y_orn rfl rfl hset hpow) rfl ?_ | refine tl_q (y_rem rfl rfl (by omega) (by omega)) rfl ?_)
                       all_goals (first | refine tl_q (z_eqlT rfl rfl (by omega)) rfl ?_ | refine tl_q (z_eqlF rfl rfl (by omega)) rfl ?_ | refine tl_q (y_eql rfl rfl) rfl ?_)
                       all_goals refine tl_nil ?_
                       all_goals (refine hK28 ?_; try (clear hK28; clear K28))
                       all_goals (
                        refine tc_cond rfl (fun hc => ?_) (fun hc => ?_)
                        · try simp only [decide_eq_true_eq, decide_eq_false_iff_not, Int.not_lt, Int.not_le, Bool.not_eq_true', Bool.not_eq_false', Decidable.not_not, not_true_eq_false, Int.toNat_natCast] at hc
                          all_goals first | (exfalso; with_reducible exact bft hc) | (exfalso; with_reducible exact btf hc) | (exfalso; omega) | skip
                          all_goals refine tc_region ?_
                          all_goals refine tl_q (y_move rfl) rfl ?_
                          all_goals refine tl_q (y_move rfl) rfl ?_
                          all_goals refine tl_q (y_move rfl) rfl ?_
                          all_goals (first | refine tl_q (y_index rfl rfl (by omega) hadz') rfl ?_ | refine tl_q (y_index rfl rfl (by omega) had') rfl ?_ | refine tl_q (y_index rfl rfl (by omega) rfl) rfl ?_ | refine tl_q (y_indexA rfl rfl (by omega)) rfl ?_)
                          all_goals (first | refine tl_q (y_loadW rfl (by repeat constructor) (by rfl)) rfl ?_ | refine tl_q (y_loadN rfl (by repeat constructor) (by (repeat (first | exact .nil | apply CA.cons rfl)); done)) rfl ?_ | refine tl_q (y_loadWf rfl (hl15.at (by repeat constructor)) (MI.m (by repeat constructor)) (by simp) (by rfl)) rfl ?_ | refine tl_q (y_loadWf rfl (hl14.at (by repeat constructor)) (MI.m (by repeat constructor)) (by simp) (by rfl)) rfl ?_ | refine tl_q (y_loadWf rfl (hl13.at (by repeat constructor)) (MI.m (by repeat constructor)) (by simp) (by rfl)) rfl ?_ | refine tl_q (y_loadWf rfl (hl8.at (by repeat constructor)) (MI.m (by repeat constructor)) (by simp) (by rfl)) rfl ?_ | refine tl_q (y_loadWf rfl (hl7.at (by repeat constructor)) (MI.m (by repeat constructor)) (by simp) (by rfl)) rfl ?_ | refine tl_q (y_loadWf rfl (hl6.at (by repeat constructor)) (MI.m (by repeat constructor)) (by simp) (by rfl)) rfl ?_ | refine tl_q (y_loadWf rfl (hl4.at (by repeat constructor)) (MI.m (by repeat constructor)) (by simp) (by rfl)) rfl ?_ | refine tl_q (y_loadWf rfl (hl3.at (by repeat constructor)) (MI.m (by repeat constructor)) (by simp) (by rfl)) rfl ?_ | refine tl_q (y_loadWf rfl (hl1.at (by repeat constructor)) (MI.m (by repeat constructor)) (by simp) (by rfl)) rfl ?_ | refine tl_q (y_load1f rfl (hl15.at (by repeat constructor)) (MI.m (by repeat constructor)) (by simp) (by rfl)) rfl ?_ | refine tl_q (y_load1f rfl (hl14.at (by repeat constructor)) (MI.m (by repeat constructor)) (by simp) (by rfl)) rfl ?_ | refine tl_q (y_load1f rfl (hl13.at (by repeat constructor)) (MI.m (by repeat constructor)) (by simp) (by rfl)) rfl ?_ | refine tl_q (y_load1f rfl (hl8.at (by repeat constructor)) (MI.m (by repeat constructor)) (by simp) (by rfl)) rfl ?_ | refine tl_q (y_load1f rfl (hl7.at (by repeat constructor)) (MI.m (by repeat constructor)) (by simp) (by rfl)) rfl ?_ | refine tl_q (y_load1f rfl (hl6.at (by repeat constructor)) (MI.m (by repeat constructor)) (by simp) (by rfl)) rfl ?_ | refine tl_q (y_load1f rfl (hl4.at (by repeat constructor)) (MI.m (by repeat constructor)) (by simp) (by rfl)) rfl ?_ | refine tl_q (y_load1f rfl (hl3.at (by repeat constructor)) (MI.m (by repeat constructor)) (by simp) (by rfl)) rfl ?_ | refine tl_q (y_load1f rfl (hl1.at (by repeat constructor)) (MI.m (by repeat constructor)) (by simp) (by rfl)) rfl ?_ | refine tl_q (y_load1o (v := vi (x.getD i 0)) rfl (fun w' hw' => by rw [show Int.toNat (i : Int) * 1 = i from by omega]; exact hcellz w' (hw'.fr (MI.m (by repeat constructor))) i (by omega))) rfl ?_ | refine tl_q (y_load1o (v := vi (x.getD (i - 1) 0)) rfl (fun w' hw' => by rw [show Int.toNat ((i : Int) - 1) * 1 = i - 1 from by omega]; exact hcellz w' (hw'.fr (MI.m (by repeat constructor))) (i - 1) (by omega))) rfl ?_ | refine tl_q (y_loadNo rfl (fun w' hw' => hcell w' [] (hw'.fr (w0 := w) (S := []) (MI.m (by repeat constructor))) (by simp) (Int.toNat n) (by omega))) rfl ?_)
                          all_goals refine tl_e (e_bslice rfl (by (repeat (first | exact .nil | apply PV.one rfl rfl | apply PV.two rfl)); done) rfl rfl) rfl (fun _ _ => ?_)
                          all_goals (first | refine tl_e (e_append_own (old := flatR (keepN l (S : Int) n)) (junk := jk) rfl rfl rfl (by repeat constructor) (by rw [flatR_len]) hk.2 hk.1 (fun w' hw' => RdR.own0 (xs := [l.getD n (0, 0)]) hw' (by repeat constructor)) (flatR_one _) (by simp only [List.length_cons, List.length_nil]; omega) rfl) rfl (fun u hu => ?_) | refine tl_e (e_append_own (old := flatR (keepN l (t : Int) n)) (junk := jo) rfl rfl rfl (by repeat constructor) (by rw [flatR_len]) ho2.2 ho2.1 (fun w' hw' => RdR.own0 (xs := [l.getD n (0, 0)]) hw' (by repeat constructor)) (flatR_one _) (by simp only [List.length_cons, List.length_nil]; omega) rfl) rfl (fun u hu => ?_) | refine tl_e (e_append_nil rfl rfl rfl (fun w' hw' => RdR.own0 (xs := [l.getD n (0, 0)]) hw' (by repeat constructor)) (flatR_one _) Nat.zero_lt_one (Nat.le_of_ble_eq_true rfl) rfl) rfl (fun u hu => ?_))
                          all_goals refine tl_q (y_assign rfl) rfl ?_
                          all_goals refine tl_nil ?_
                          all_goals (refine hK24 ?_; try (clear hK24; clear K24))
                          all_goals refine tc_region ?_
                          all_goals refine tl_q (y_move rfl) rfl ?_
                          all_goals (first | refine tl_q (y_shl1 rfl rfl (by omega)) rfl ?_ | refine tl_q (y_orn rfl rfl hset hpow) rfl ?_ | refine tl_q (y_add rfl rfl (by omega)) rfl ?_)
                          all_goals refine tl_q (y_assign rfl) rfl ?_
                          all_goals refine tl_nil ?_
                          all_goals (
                           first
                           | (have eK := keep_yes (l := l) hck
                              have eO := keep_yes (l := l) hc
                              refine tk_round (n + 1, some (y.1, y.2.1, y.2.2), some (u.1, u.2.1, u.2.2)) ⟨by dsimp only; omega, ?_, ?_⟩ (by dsimp only; omega) (.cons rfl (.cons rfl (.cons rfl (.cons rfl (.cons rfl (.cons ?_ (.cons ?_ (.cons rfl .nil)))))))) (fun _ h => ?_)
                              · dsimp only [outOkR]; rw [eK, List.length_append]; simp only [List.length_cons, List.length_nil] at hy ⊢; omega
                              · dsimp only [outOkR]; rw [eO, List.length_append]; simp only [List.length_cons, List.length_nil] at hu ⊢; omega
                              · dsimp only [outV']; rw [eK, List.length_append]; first | rfl | (rw [hk]; rfl)
                              · dsimp only [outV']; rw [eO, List.length_append]; first | rfl | (rw [ho2]; rfl)
                              · dsimp only [lfH]
                                try simp only [eK, eO, flatR_append]
                                try rw [show flatR (keepN l (S : Int) n) = [] from by rw [List.eq_nil_of_length_eq_zero hk]; rfl, List.nil_append]
                                try rw [show flatR (keepN l (t : Int) n) = [] from by rw [List.eq_nil_of_length_eq_zero ho2]; rfl, List.nil_append]
                                exact (h.subl (SB.s (by repeat constructor)) (SB.s (by repeat constructor))).sw)
                           | (have eK := keep_yes (l := l) hck
                              have eO := keep_no (l := l) hc
                              refine tk_round (n + 1, some (y.1, y.2.1, y.2.2), some (bo, co, jo)) ⟨by dsimp only; omega, ?_, ?_⟩ (by dsimp only; omega) (.cons rfl (.cons rfl (.cons rfl (.cons rfl (.cons rfl (.cons ?_ (.cons ?_ (.cons rfl .nil)))))))) (fun _ h => ?_)
                              · dsimp only [outOkR]; rw [eK, List.length_append]; simp only [List.length_cons, List.length_nil] at hy ⊢; omega
                              · dsimp only [outOkR]; rw [eO]; exact ho2
                              · dsimp only [outV']; rw [eK, List.length_append]; first | rfl | (rw [hk]; rfl)
                              · dsimp only [outV']; rw [eO]; rfl
                              · dsimp only [lfH]
                                try simp only [eK, eO, flatR_append]
                                try rw [show flatR (keepN l (S : Int) n) = [] from by rw [List.eq_nil_of_length_eq_zero hk]; rfl, List.nil_append]
                                try rw [show flatR (keepN l (t : Int) n) = [] from by rw [List.eq_nil_of_length_eq_zero ho2]; rfl, List.nil_append]
                                exact (h.subl (SB.s (by repeat constructor)) (SB.s (by repeat constructor))))
                           | (have eK := keep_yes (l := l) hck
                              have eO := keep_no (l := l) hc
                              refine tk_round (n + 1, some (y.1, y.2.1, y.2.2), none) ⟨by dsimp only; omega, ?_, ?_⟩ (by dsimp only; omega) (.cons rfl (.cons rfl (.cons rfl (.cons rfl (.cons rfl (.cons ?_ (.cons ?_ (.cons rfl .nil)))))))) (fun _ h => ?_)
                              · dsimp only [outOkR]; rw [eK, List.length_append]; simp only [List.length_cons, List.length_nil] at hy ⊢; omega
                              · dsimp only [outOkR]; rw [eO]; exact ho2
                              · dsimp only [outV']; rw [eK, List.length_append]; first | rfl | (rw [hk]; rfl)
                              · dsimp only [outV']; rfl
                              · dsimp only [lfH]
                                try simp only [eK, eO, flatR_append]
                                try rw [show flatR (keepN l (S : Int) n) = [] from by rw [List.eq_nil_of_length_eq_zero hk]; rfl, List.nil_append]
                                try rw [show flatR (keepN l (t : Int) n) = [] from by rw [List.eq_nil_of_length_eq_zero ho2]; rfl, List.nil_append]
                                exact (h.subl (SB.s (by repeat constructor)) (SB.s (by repeat constructor))))
                           | (have eK := keep_no (l := l) hck
                              have eO := keep_yes (l := l) hc
                              refine tk_round (n + 1, some (bk, ck, jk), some (u.1, u.2.1, u.2.2)) ⟨by dsimp only; omega, ?_, ?_⟩ (by dsimp only; omega) (.cons rfl (.cons rfl (.cons rfl (.cons rfl (.cons rfl (.cons ?_ (.cons ?_ (.cons rfl .nil)))))))) (fun _ h => ?_)
                              · dsimp only [outOkR]; rw [eK]; exact hk
                              · dsimp only [outOkR]; rw [eO, List.length_append]; simp only [List.length_cons, List.length_nil] at hu ⊢; omega
                              · dsimp only [outV']; rw [eK]; rfl
                              · dsimp only [outV']; rw [eO, List.length_append]; first | rfl | (rw [ho2]; rfl)
                              · dsimp only [lfH]
                                try simp only [eK, eO, flatR_append]
                                try rw [show flatR (keepN l (S : Int) n) = [] from by rw [List.eq_nil_of_length_eq_zero hk]; rfl, List.nil_append]
                                try rw [show flatR (keepN l (t : Int) n) = [] from by rw [List.eq_nil_of_length_eq_zero ho2]; rfl, List.nil_append]
                                exact (h.subl (SB.s (by repeat constructor)) (SB.s (by repeat constructor))).sw)
                           | (have eK := keep_no (l := l) hck
                              have eO := keep_no (l := l) hc
                              refine tk_round (n + 1, some (bk, ck, jk), some (bo, co, jo)) ⟨by dsimp only; omega, ?_, ?_⟩ (by dsimp only; omega) (.cons rfl (.cons rfl (.cons rfl (.cons rfl (.cons rfl (.cons ?_ (.cons ?_ (.cons rfl .nil)))))))) (fun _ h => ?_)
                              · dsimp only [outOkR]; rw [eK]; exact hk
                              · dsimp only [outOkR]; rw [eO]; exact ho2
                              · dsimp only [outV']; rw [eK]; rfl
                              · dsimp only [outV']; rw [eO]; rfl
                              · dsimp only [lfH]
                                try simp only [eK, eO, flatR_append]
                                try rw [show flatR (keepN l (S : Int) n) = [] from by rw [List.eq_nil_of_length_eq_zero hk]; rfl, List.nil_append]
                                try rw [show flatR (keepN l (t : Int) n) = [] from by rw [List.eq_nil_of_length_eq_zero ho2]; rfl, List.nil_append]
                                exact (h.subl (SB.s (by repeat constructor)) (SB.s (by repeat constructor))))
                           | (have eK := keep_no (l := l) hck
                              have eO := keep_no (l := l) hc
                              refine tk_round (n + 1, some (bk, ck, jk), none) ⟨by dsimp only; omega, ?_, ?_⟩ (by dsimp only; omega) (.cons rfl (.cons rfl (.cons rfl (.cons rfl (.cons rfl (.cons ?_ (.cons ?_ (.cons rfl .nil)))))))) (fun _ h => ?_)
                              · dsimp only [outOkR]; rw [eK]; exact hk
                              · dsimp only [outOkR]; rw [eO]; exact ho2
                              · dsimp only [outV']; rw [eK]; rfl
                              · dsimp only [outV']; rfl
                              · dsimp only [lfH]
                                try simp only [eK, eO, flatR_append]
                                try rw [show flatR (keepN l (S : Int) n) = [] from by rw [List.eq_nil_of_length_eq_zero hk]; rfl, List.nil_append]
                                try rw [show flatR (keepN l (t : Int) n) = [] from by rw [List.eq_nil_of_length_eq_zero ho2]; rfl, List.nil_append]
                                exact (h.subl (SB.s (by repeat constructor)) (SB.s (by repeat constructor))))
                           | (have eK := keep_no (l := l) hck
                              have eO := keep_yes (l := l) hc
                              refine tk_round (n + 1, none, some (u.1, u.2.1, u.2.2)) ⟨by dsimp only; omega, ?_, ?_⟩ (by dsimp only; omega) (.cons rfl (.cons rfl (.cons rfl (.cons rfl (.cons rfl (.cons ?_ (.cons ?_ (.cons rfl .nil)))))))) (fun _ h => ?_)
                              · dsimp only [outOkR]; rw [eK]; exact hk
                              · dsimp only [outOkR]; rw [eO, List.length_append]; simp only [List.length_cons, List.length_nil] at hu ⊢; omega
                              · dsimp only [outV']; rfl
                              · dsimp only [outV']; rw [eO, List.length_append]; first | rfl | (rw [ho2]; rfl)
                              · dsimp only [lfH]
                                try simp only [eK, eO, flatR_append]
                                try rw [show flatR (keepN l (S : Int) n) = [] from by rw [List.eq_nil_of_length_eq_zero hk]; rfl, List.nil_append]
                                try rw [show flatR (keepN l (t : Int) n) = [] from by rw [List.eq_nil_of_length_eq_zero ho2]; rfl, List.nil_append]
                                exact (h.subl (SB.s (by repeat constructor)) (SB.s (by repeat constructor))))
                           | (have eK := keep_no (l := l) hck
                              have eO := keep_no (l := l) hc
                              refine tk_round (n + 1, none, some (bo, co, jo)) ⟨by dsimp only; omega, ?_, ?_⟩ (by dsimp only; omega) (.cons rfl (.cons rfl (.cons rfl (.cons rfl (.cons rfl (.cons ?_ (.cons ?_ (.cons rfl .nil)))))))) (fun _ h => ?_)
                              · dsimp only [outOkR]; rw [eK]; exact hk
                              · dsimp only [outOkR]; rw [eO]; exact ho2
                              · dsimp only [outV']; rfl
                              · dsimp only [outV']; rw [eO]; rfl
                              · dsimp only [lfH]
                                try simp only [eK, eO, flatR_append]
                                try rw [show flatR (keepN l (S : Int) n) = [] from by rw [List.eq_nil_of_length_eq_zero hk]; rfl, List.nil_append]
                                try rw [show flatR (keepN l (t : Int) n) = [] from by rw [List.eq_nil_of_length_eq_zero ho2]; rfl, List.nil_append]
                                exact (h.subl (SB.s (by repeat constructor)) (SB.s (by repeat constructor))))
                           | (have eK := keep_no (l := l) hck
                              have eO := keep_no (l := l) hc
                              refine tk_round (n + 1, none, none) ⟨by dsimp only; omega, ?_, ?_⟩ (by dsimp only; omega) (.cons rfl (.cons rfl (.cons rfl (.cons rfl (.cons rfl (.cons ?_ (.cons ?_ (.cons rfl .nil)))))))) (fun _ h => ?_)
                              · dsimp only [outOkR]; rw [eK]; exact hk
                              · dsimp only [outOkR]; rw [eO]; exact ho2
                              · dsimp only [outV']; rfl
                              · dsimp only [outV']; rfl
                              · dsimp only [lfH]
                                try simp only [eK, eO, flatR_append]
                                try rw [show flatR (keepN l (S : Int) n) = [] from by rw [List.eq_nil_of_length_eq_zero hk]; rfl, List.nil_append]
                                try rw [show flatR (keepN l (t : Int) n) = [] from by rw [List.eq_nil_of_length_eq_zero ho2]; rfl, List.nil_append]
                                exact (h.subl (SB.s (by repeat constructor)) (SB.s (by repeat constructor)))))
                        · try simp only [decide_eq_true_eq, decide_eq_false_iff_not, Int.not_lt, Int.not_le, Bool.not_eq_true', Bool.not_eq_false', Decidable.not_not, not_true_eq_false, Int.toNat_natCast] at hc
                          all_goals first | (exfalso; with_reducible exact bft hc) | (exfalso; with_reducible exact btf hc) | (exfalso; omega) | skip
                          all_goals refine tc_skip ?_
                          all_goals (refine hK24 ?_; try (clear hK24; clear K24))
                          all_goals refine tc_region ?_
                          all_goals refine tl_q (y_move rfl) rfl ?_
                          all_goals (first | refine tl_q (y_shl1 rfl rfl (by omega)) rfl ?_ | refine tl_q (y_orn rfl rfl hset hpow) rfl ?_ | refine tl_q (y_add rfl rfl (by omega)) rfl ?_)
                          all_goals refine tl_q (y_assign rfl) rfl ?_
                          all_goals refine tl_nil ?_
                          all_goals (
                           first
                           | (have eK := keep_yes (l := l) hck
                              have eO := keep_yes (l := l) hc
                              refine tk_round (n + 1, some (y.1, y.2.1, y.2.2), some (u.1, u.2.1, u.2.2)) ⟨by dsimp only; omega, ?_, ?_⟩ (by dsimp only; omega) (.cons rfl (.cons rfl (.cons rfl (.cons rfl (.cons rfl (.cons ?_ (.cons ?_ (.cons rfl .nil)))))))) (fun _ h => ?_)
                              · dsimp only [outOkR]; rw [eK, List.length_append]; simp only [List.length_cons, List.length_nil] at hy ⊢; omega
                              · dsimp only [outOkR]; rw [eO, List.length_append]; simp only [List.length_cons, List.length_nil] at hu ⊢; omega
                              · dsimp only [outV']; rw [eK, List.length_append]; first | rfl | (rw [hk]; rfl)
                              · dsimp only [outV']; rw [eO, List.length_append]; first | rfl | (rw [ho2]; rfl)
                              · dsimp only [lfH]
                                try simp only [eK, eO, flatR_append]
                                try rw [show flatR (keepN l (S : Int) n) = [] from by rw [List.eq_nil_of_length_eq_zero hk]; rfl, List.nil_append]
                                try rw [show flatR (keepN l (t : Int) n) = [] from by rw [List.eq_nil_of_length_eq_zero ho2]; rfl, List.nil_append]
                                exact (h.subl (SB.s (by repeat constructor)) (SB.s (by repeat constructor))).sw)
                           | (have eK := keep_yes (l := l) hck
                              have eO := keep_no (l := l) hc
                              refine tk_round (n + 1, some (y.1, y.2.1, y.2.2), some (bo, co, jo)) ⟨by dsimp only; omega, ?_, ?_⟩ (by dsimp only; omega) (.cons rfl (.cons rfl (.cons rfl (.cons rfl (.cons rfl (.cons ?_ (.cons ?_ (.cons rfl .nil)))))))) (fun _ h => ?_)
                              · dsimp only [outOkR]; rw [eK, List.length_append]; simp only [List.length_cons, List.length_nil] at hy ⊢; omega
                              · dsimp only [outOkR]; rw [eO]; exact ho2
                              · dsimp only [outV']; rw [eK, List.length_append]; first | rfl | (rw [hk]; rfl)
                              · dsimp only [outV']; rw [eO]; rfl
                              · dsimp only [lfH]
                                try simp only [eK, eO, flatR_append]
                                try rw [show flatR (keepN l (S : Int) n) = [] from by rw [List.eq_nil_of_length_eq_zero hk]; rfl, List.nil_append]
                                try rw [show flatR (keepN l (t : Int) n) = [] from by rw [List.eq_nil_of_length_eq_zero ho2]; rfl, List.nil_append]
                                exact (h.subl (SB.s (by repeat constructor)) (SB.s (by repeat constructor))))
                           | (have eK := keep_yes (l := l) hck
                              have eO := keep_no (l := l) hc
                              refine tk_round (n + 1, some (y.1, y.2.1, y.2.2), none) ⟨by dsimp only; omega, ?_, ?_⟩ (by dsimp only; omega) (.cons rfl (.cons rfl (.cons rfl (.cons rfl (.cons rfl (.cons ?_ (.cons ?_ (.cons rfl .nil)))))))) (fun _ h => ?_)
                              · dsimp only [outOkR]; rw [eK, List.length_append]; simp only [List.length_cons, List.length_nil] at hy ⊢; omega
                              · dsimp only [outOkR]; rw [eO]; exact ho2
                              · dsimp only [outV']; rw [eK, List.length_append]; first | rfl | (rw [hk]; rfl)
                              · dsimp only [outV']; rfl
                              · dsimp only [lfH]
                                try simp only [eK, eO, flatR_append]
                                try rw [show flatR (keepN l (S : Int) n) = [] from by rw [List.eq_nil_of_length_eq_zero hk]; rfl, List.nil_append]
                                try rw [show flatR (keepN l (t : Int) n) = [] from by rw [List.eq_nil_of_length_eq_zero ho2]; rfl, List.nil_append]
                                exact (h.subl (SB.s (by repeat constructor)) (SB.s (by repeat constructor))))
                           | (have eK := keep_no (l := l) hck
                              have eO := keep_yes (l := l) hc
                              refine tk_round (n + 1, some (bk, ck, jk), some (u.1, u.2.1, u.2.2)) ⟨by dsimp only; omega, ?_, ?_⟩ (by dsimp only; omega) (.cons rfl (.cons rfl (.cons rfl (.cons rfl (.cons rfl (.cons ?_ (.cons ?_ (.cons rfl .nil)))))))) (fun _ h => ?_)
                              · dsimp only [outOkR]; rw [eK]; exact hk
                              · dsimp only [outOkR]; rw [eO, List.length_append]; simp only [List.length_cons, List.length_nil] at hu ⊢; omega
                              · dsimp only [outV']; rw [eK]; rfl
                              · dsimp only [outV']; rw [eO, List.length_append]; first | rfl | (rw [ho2]; rfl)
                              · dsimp only [lfH]
                                try simp only [eK, eO, flatR_append]
                                try rw [show flatR (keepN l (S : Int) n) = [] from by rw [List.eq_nil_of_length_eq_zero hk]; rfl, List.nil_append]
                                try rw [show flatR (keepN l (t : Int) n) = [] from by rw [List.eq_nil_of_length_eq_zero ho2]; rfl, List.nil_append]
                                exact (h.subl (SB.s (by repeat constructor)) (SB.s (by repeat constructor))).sw)
                           | (have eK := keep_no (l := l) hck
                              have eO := keep_no (l := l) hc
                              refine tk_round (n + 1, some (bk, ck, jk), some (bo, co, jo)) ⟨by dsimp only; omega, ?_, ?_⟩ (by dsimp only; omega) (.cons rfl (.cons rfl (.cons rfl (.cons rfl (.cons rfl (.cons ?_ (.cons ?_ (.cons rfl .nil)))))))) (fun _ h => ?_)
                              · dsimp only [outOkR]; rw [eK]; exact hk
                              · dsimp only [outOkR]; rw [eO]; exact ho2
                              · dsimp only [outV']; rw [eK]; rfl
                              · dsimp only [outV']; rw [eO]; rfl
                              · dsimp only [lfH]
                                try simp only [eK, eO, flatR_append]
                                try rw [show flatR (keepN l (S : Int) n) = [] from by rw [List.eq_nil_of_length_eq_zero hk]; rfl, List.nil_append]
                                try rw [show flatR (keepN l (t : Int) n) = [] from by rw [List.eq_nil_of_length_eq_zero ho2]; rfl, List.nil_append]
                                exact (h.subl (SB.s (by repeat constructor)) (SB.s (by repeat constructor))))
                           | (have eK := keep_no (l := l) hck
                              have eO := keep_no (l := l) hc
                              refine tk_round (n + 1, some (bk, ck, jk), none) ⟨by dsimp only; omega, ?_, ?_⟩ (by dsimp only; omega) (.cons rfl (.cons rfl (.cons rfl (.cons rfl (.cons rfl (.cons ?_ (.cons ?_ (.cons rfl .nil)))))))) (fun _ h => ?_)
                              · dsimp only [outOkR]; rw [eK]; exact hk
                              · dsimp only [outOkR]; rw [eO]; exact ho2
                              · dsimp only [outV']; rw [eK]; rfl
                              · dsimp only [outV']; rfl
                              · dsimp only [lfH]
                                try simp only [eK, eO, flatR_append]
                                try rw [show flatR (keepN l (S : Int) n) = [] from by rw [List.eq_nil_of_length_eq_zero hk]; rfl, List.nil_append]
                                try rw [show flatR (keepN l (t : Int) n) = [] from by rw [List.eq_nil_of_length_eq_zero ho2]; rfl, List.nil_append]
                                exact (h.subl (SB.s (by repeat constructor)) (SB.s (by repeat constructor))))
                           | (have eK := keep_no (l := l) hck
                              have eO := keep_yes (l := l) hc
                              refine tk_round (n + 1, none, some (u.1, u.2.1, u.2.2)) ⟨by dsimp only; omega, ?_, ?_⟩ (by dsimp only; omega) (.cons rfl (.cons rfl (.cons rfl (.cons rfl (.cons rfl (.cons ?_ (.cons ?_ (.cons rfl .nil)))))))) (fun _ h => ?_)
                              · dsimp only [outOkR]; rw [eK]; exact hk
                              · dsimp only [outOkR]; rw [eO, List.length_append]; simp only [List.length_cons, List.length_nil] at hu ⊢; omega
                              · dsimp only [outV']; rfl
                              · dsimp only [outV']; rw [eO, List.length_append]; first | rfl | (rw [ho2]; rfl)
                              · dsimp only [lfH]
                                try simp only [eK, eO, flatR_append]
                                try rw [show flatR (keepN l (S : Int) n) = [] from by rw [List.eq_nil_of_length_eq_zero hk]; rfl, List.nil_append]
                                try rw [show flatR (keepN l (t : Int) n) = [] from by rw [List.eq_nil_of_length_eq_zero ho2]; rfl, List.nil_append]
                                exact (h.subl (SB.s (by repeat constructor)) (SB.s (by repeat constructor))))
                           | (have eK := keep_no (l := l) hck
                              have eO := keep_no (l := l) hc
                              refine tk_round (n + 1, none, some (bo, co, jo)) ⟨by dsimp only; omega, ?_, ?_⟩ (by dsimp only; omega) (.cons rfl (.cons rfl (.cons rfl (.cons rfl (.cons rfl (.cons ?_ (.cons ?_ (.cons rfl .nil)))))))) (fun _ h => ?_)
                              · dsimp only [outOkR]; rw [eK]; exact hk
                              · dsimp only [outOkR]; rw [eO]; exact ho2
                              · dsimp only [outV']; rfl
                              · dsimp only [outV']; rw [eO]; rfl
                              · dsimp only [lfH]
                                try simp only [eK, eO, flatR_append]
                                try rw [show flatR (keepN l (S : Int) n) = [] from by rw [List.eq_nil_of_length_eq_zero hk]; rfl, List.nil_append]
                                try rw [show flatR (keepN l (t : Int) n) = [] from by rw [List.eq_nil_of_length_eq_zero ho2]; rfl, List.nil_append]
                                exact (h.subl (SB.s (by repeat constructor)) (SB.s (by repeat constructor))))
                           | (have eK := keep_no (l := l) hck
                              have eO := keep_no (l := l) hc
                              refine tk_round (n + 1, none, none) ⟨by dsimp only; omega, ?_, ?_⟩ (by dsimp only; omega) (.cons rfl (.cons rfl (.cons rfl (.cons rfl (.cons rfl (.cons ?_ (.cons ?_ (.cons rfl .nil)))))))) (fun _ h => ?_)
                              · dsimp only [outOkR]; rw [eK]; exact hk
                              · dsimp only [outOkR]; rw [eO]; exact ho2
                              · dsimp only [outV']; rfl
                              · dsimp only [outV']; rfl
                              · dsimp only [lfH]
                                try simp only [eK, eO, flatR_append]
                                try rw [show flatR (keepN l (S : Int) n) = [] from by rw [List.eq_nil_of_length_eq_zero hk]; rfl, List.nil_append]
                                try rw [show flatR (keepN l (t : Int) n) = [] from by rw [List.eq_nil_of_length_eq_zero ho2]; rfl, List.nil_append]
                                exact (h.subl (SB.s (by repeat constructor)) (SB.s (by repeat constructor)))))))
                  · try simp only [decide_eq_true_eq, decide_eq_false_iff_not, Int.not_lt, Int.not_le, Bool.not_eq_true', Bool.not_eq_false', Decidable.not_not, not_true_eq_false, Int.toNat_natCast] at hc
                    all_goals first | (exfalso; with_reducible exact bft hc) | (exfalso; with_reducible exact btf hc) | (exfalso; omega) | skip
                    all_goals refine tc_exit ?_
                    all_goals (refine hK20 ?_; try (clear hK20; clear K20))
                    all_goals refine tc_seq fun K29 hK29 => ?_
                    all_goals refine tc_lay ([]) (SB.s (by repeat constructor)) (fun wl22 hl22 => ?_)
                    all_goals (have hnl : n = l.length := by omega)
                    all_goals subst hnl
                    all_goals first
                    | have hkR := RdR.own (xs := keepN l (S : Int) l.length) (cap := ck) (junk := jk) hl22 (by repeat constructor)
                    | (have hkR := RdR.nil wl22
                       rw [← show keepN l (S : Int) l.length = [] from List.eq_nil_of_length_eq_zero hk] at hkR)
                    all_goals first
                    | have hoR := RdR.own (xs := keepN l (t : Int) l.length) (cap := co) (junk := jo) hl22 (by repeat constructor)
                    | (have hoR := RdR.nil wl22
                       rw [← show keepN l (t : Int) l.length = [] from List.eq_nil_of_length_eq_zero ho2] at hoR)
                    all_goals refine tc_region ?_
                    all_goals (first | refine tl_q (y_loadW rfl (by repeat constructor) (by rfl)) rfl ?_ | refine tl_q (y_loadN rfl (by repeat constructor) (by (repeat (first | exact .nil | apply CA.cons rfl)); done)) rfl ?_ | refine tl_q (y_loadWf rfl (hl1.at (by repeat constructor)) (MI.m (by repeat constructor)) (by simp) (by rfl)) rfl ?_ | refine tl_q (y_load1f rfl (hl1.at (by repeat constructor)) (MI.m (by repeat constructor)) (by simp) (by rfl)) rfl ?_ | refine tl_q (y_load1o (v := vi (x.getD i 0)) rfl (fun w' hw' => by rw [show Int.toNat (i : Int) * 1 = i from by omega]; exact hcellz w' (hw'.fr (MI.m (by repeat constructor))) i (by omega))) rfl ?_ | refine tl_q (y_load1o (v := vi (x.getD (i - 1) 0)) rfl (fun w' hw' => by rw [show Int.toNat ((i : Int) - 1) * 1 = i - 1 from by omega]; exact hcellz w' (hw'.fr (MI.m (by repeat constructor))) (i - 1) (by omega))) rfl ?_ | refine tl_q (y_loadNo rfl (fun w' hw' => hcell w' [] (hw'.fr (w0 := w) (S := []) (MI.m (by repeat constructor))) (by simp) (Int.toNat n) (by omega))) rfl ?_)
                    all_goals refine tl_e (e_callX rfl (.cons rfl .nil) (fun w' hw' => spindle_c s (by omega) _ w' (hr0.fr (hw'.fr (w0 := w) (S := []) (MI.m (by repeat constructor)))))) rfl (fun x2 hx2 => ?_)
                    all_goals refine tl_q (y_move rfl) rfl ?_
                    all_goals (first | refine tl_e (e_callX rfl (.cons rfl .nil) (fun w' hw' => readings_c l (by omega) _ w' (hR0.fr (hw'.fr (w0 := w) (S := []) (MI.m (by repeat constructor)))))) rfl (fun y2 hy2 => ?_) | refine tl_e (e_callX rfl (.cons rfl .nil) (fun w' hw' => readings_c (keepN l (S : Int) l.length) (by have := keepN_len l (S : Int) l.length; omega) _ w' (hkR.fr (hw'.fr (MI.m (by repeat constructor)))))) rfl (fun y2 hy2 => ?_) | refine tl_e (e_callX rfl (.cons rfl .nil) (fun w' hw' => readings_c (keepN l (t : Int) l.length) (by have := keepN_len l (t : Int) l.length; omega) _ w' (hoR.fr (hw'.fr (MI.m (by repeat constructor)))))) rfl (fun y2 hy2 => ?_))
                    all_goals (first | refine tl_e (e_callV rfl (.cons rfl (.cons rfl .nil)) (fun w' hw' => narrow_v s (nb9 (by omega)) (keepN l (S : Int) l.length) (by have := keepN_len l (S : Int) l.length; omega) hN1 _ _ w' (hx2.1.fr (hw'.fr (MI.m (by repeat constructor)))) (hy2.1.fr (hw'.fr (MI.m (by repeat constructor)))))) rfl (fun _ _ => ?_) | refine tl_e (e_callV rfl (.cons rfl (.cons rfl .nil)) (fun w' hw' => narrow_v s (nb9 (by omega)) (keepN l (t : Int) l.length) (by have := keepN_len l (t : Int) l.length; omega) hN2 _ _ w' (hx3.1.fr (hw'.fr (MI.m (by repeat constructor)))) (hy3.1.fr (hw'.fr (MI.m (by repeat constructor)))))) rfl (fun _ _ => ?_))
                    all_goals refine tl_q (y_move rfl) rfl ?_
                    all_goals refine tl_q (y_extract rfl rfl) rfl ?_
                    all_goals refine tl_q (y_extract rfl rfl) rfl ?_
                    all_goals refine tl_e (e_allocN rfl) rfl (fun b15 _ => ?_)
                    all_goals refine tl_e (e_storeW rfl rfl (by repeat constructor) (by rfl) (by rfl) (by simp [Value.oneCell'])) rfl (fun _ _ => ?_)
                    all_goals refine tl_q (y_assign rfl) rfl ?_
                    all_goals refine tl_nil ?_
                    all_goals (refine hK29 ?_; try (clear hK29; clear K29))
                    all_goals refine tc_seq fun K30 hK30 => ?_
                    all_goals refine tc_lay ([]) (SB.s (by repeat constructor)) (fun wl23 hl23 => ?_)
                    all_goals clear hkR
                    all_goals refine tc_region ?_
                    all_goals (first | refine tl_q (y_loadW rfl (by repeat constructor) (by rfl)) rfl ?_ | refine tl_q (y_loadN rfl (by repeat constructor) (by (repeat (first | exact .nil | apply CA.cons rfl)); done)) rfl ?_ | refine tl_q (y_loadWf rfl (hl1.at (by repeat constructor)) (MI.m (by repeat constructor)) (by simp) (by rfl)) rfl ?_ | refine tl_q (y_load1f rfl (hl1.at (by repeat constructor)) (MI.m (by repeat constructor)) (by simp) (by rfl)) rfl ?_ | refine tl_q (y_load1o (v := vi (x.getD i 0)) rfl (fun w' hw' => by rw [show Int.toNat (i : Int) * 1 = i from by omega]; exact hcellz w' (hw'.fr (MI.m (by repeat constructor))) i (by omega))) rfl ?_ | refine tl_q (y_load1o (v := vi (x.getD (i - 1) 0)) rfl (fun w' hw' => by rw [show Int.toNat ((i : Int) - 1) * 1 = i - 1 from by omega]; exact hcellz w' (hw'.fr (MI.m (by repeat constructor))) (i - 1) (by omega))) rfl ?_ | refine tl_q (y_loadNo rfl (fun w' hw' => hcell w' [] (hw'.fr (w0 := w) (S := []) (MI.m (by repeat constructor))) (by simp) (Int.toNat n) (by omega))) rfl ?_)
                    all_goals refine tl_e (e_callX rfl (.cons rfl .nil) (fun w' hw' => spindle_c s (by omega) _ w' (hr0.fr (hw'.fr (w0 := w) (S := []) (MI.m (by repeat constructor)))))) rfl (fun x3 hx3 => ?_)
                    all_goals refine tl_q (y_move rfl) rfl ?_
                    all_goals (first | refine tl_e (e_callX rfl (.cons rfl .nil) (fun w' hw' => readings_c l (by omega) _ w' (hR0.fr (hw'.fr (w0 := w) (S := []) (MI.m (by repeat constructor)))))) rfl (fun y3 hy3 => ?_) | refine tl_e (e_callX rfl (.cons rfl .nil) (fun w' hw' => readings_c (keepN l (S : Int) l.length) (by have := keepN_len l (S : Int) l.length; omega) _ w' (hkR.fr (hw'.fr (MI.m (by repeat constructor)))))) rfl (fun y3 hy3 => ?_) | refine tl_e (e_callX rfl (.cons rfl .nil) (fun w' hw' => readings_c (keepN l (t : Int) l.length) (by have := keepN_len l (t : Int) l.length; omega) _ w' (hoR.fr (hw'.fr (MI.m (by repeat constructor)))))) rfl (fun y3 hy3 => ?_))
                    all_goals (first | refine tl_e (e_callV rfl (.cons rfl (.cons rfl .nil)) (fun w' hw' => narrow_v s (nb9 (by omega)) (keepN l (S : Int) l.length) (by have := keepN_len l (S : Int) l.length; omega) hN1 _ _ w' (hx2.1.fr (hw'.fr (MI.m (by repeat constructor)))) (hy2.1.fr (hw'.fr (MI.m (by repeat constructor)))))) rfl (fun _ _ => ?_) | refine tl_e (e_callV rfl (.cons rfl (.cons rfl .nil)) (fun w' hw' => narrow_v s (nb9 (by omega)) (keepN l (t : Int) l.length) (by have := keepN_len l (t : Int) l.length; omega) hN2 _ _ w' (hx3.1.fr (hw'.fr (MI.m (by repeat constructor)))) (hy3.1.fr (hw'.fr (MI.m (by repeat constructor)))))) rfl (fun _ _ => ?_))
                    all_goals refine tl_q (y_move rfl) rfl ?_
                    all_goals refine tl_q (y_extract rfl rfl) rfl ?_
                    all_goals refine tl_q (y_extract rfl rfl) rfl ?_
                    all_goals refine tl_e (e_allocN rfl) rfl (fun b17 _ => ?_)
                    all_goals refine tl_e (e_storeW rfl rfl (by repeat constructor) (by rfl) (by rfl) (by simp [Value.oneCell'])) rfl (fun _ _ => ?_)
                    all_goals refine tl_q (y_assign rfl) rfl ?_
                    all_goals refine tl_nil ?_
                    all_goals (refine hK30 ?_; try (clear hK30; clear K30))
                    all_goals refine tc_seq fun K31 hK31 => ?_
                    all_goals refine tc_lay ([]) (SB.s (by repeat constructor)) (fun wl24 hl24 => ?_)
                    all_goals (rcases hgk with hgk | ⟨hgk, rfl⟩)
                    all_goals refine tc_region ?_
                    all_goals refine tl_q (y_move rfl) rfl ?_
                    all_goals (first | refine tl_q (z_eqlT rfl rfl (by omega)) rfl ?_ | refine tl_q (z_eqlF rfl rfl (by omega)) rfl ?_ | refine tl_q (y_eql rfl rfl) rfl ?_)
                    all_goals refine tl_q (y_move rfl) rfl ?_
                    all_goals (first | refine tl_sk rfl rfl rfl rfl ?_ | refine tl_qg rfl rfl (y_move rfl) rfl ?_ | refine tl_su rfl rfl rfl ?_ | (refine tl_gs rfl rfl (fun hc => ?_) (fun hc => ?_) <;> (try simp only [decide_eq_true_eq, decide_eq_false_iff_not, Int.not_lt, Int.not_le, Bool.not_eq_true', Bool.not_eq_false', Decidable.not_not, not_true_eq_false, Int.toNat_natCast] at hc) <;> (first | (exfalso; omega) | refine tl_sk rfl rfl rfl rfl ?_ | refine tl_qg rfl rfl (y_move rfl) rfl ?_ | refine tl_su rfl rfl rfl ?_)))
                    all_goals (first | refine tl_sk rfl rfl rfl rfl ?_ | refine tl_qg rfl rfl (z_eqlT rfl rfl (by omega)) rfl ?_ | refine tl_qg rfl rfl (z_eqlF rfl rfl (by omega)) rfl ?_ | refine tl_qg rfl rfl (y_eql rfl rfl) rfl ?_ | refine tl_su rfl rfl rfl ?_ | (refine tl_gs rfl rfl (fun hc => ?_) (fun hc => ?_) <;> (try simp only [decide_eq_true_eq, decide_eq_false_iff_not, Int.not_lt, Int.not_le, Bool.not_eq_true', Bool.not_eq_false', Decidable.not_not, not_true_eq_false, Int.toNat_natCast] at hc) <;> (first | (exfalso; omega) | refine tl_sk rfl rfl rfl rfl ?_ | refine tl_qg rfl rfl (z_eqlT rfl rfl (by omega)) rfl ?_ | refine tl_qg rfl rfl (z_eqlF rfl rfl (by omega)) rfl ?_ | refine tl_qg rfl rfl (y_eql rfl rfl) rfl ?_ | refine tl_su rfl rfl rfl ?_)))
                    all_goals (first | refine tl_sk rfl rfl rfl rfl ?_ | refine tl_qg rfl rfl (y_move rfl) rfl ?_ | refine tl_su rfl rfl rfl ?_ | (refine tl_gs rfl rfl (fun hc => ?_) (fun hc => ?_) <;> (try simp only [decide_eq_true_eq, decide_eq_false_iff_not, Int.not_lt, Int.not_le, Bool.not_eq_true', Bool.not_eq_false', Decidable.not_not, not_true_eq_false, Int.toNat_natCast] at hc) <;> (first | (exfalso; omega) | refine tl_sk rfl rfl rfl rfl ?_ | refine tl_qg rfl rfl (y_move rfl) rfl ?_ | refine tl_su rfl rfl rfl ?_)))
                    all_goals (first | refine tl_sk rfl rfl rfl rfl ?_ | refine tl_qg rfl rfl (y_move rfl) rfl ?_ | refine tl_su rfl rfl rfl ?_ | (refine tl_gs rfl rfl (fun hc => ?_) (fun hc => ?_) <;> (try simp only [decide_eq_true_eq, decide_eq_false_iff_not, Int.not_lt, Int.not_le, Bool.not_eq_true', Bool.not_eq_false', Decidable.not_not, not_true_eq_false, Int.toNat_natCast] at hc) <;> (first | (exfalso; omega) | refine tl_sk rfl rfl rfl rfl ?_ | refine tl_qg rfl rfl (y_move rfl) rfl ?_ | refine tl_su rfl rfl rfl ?_)))
                    all_goals (first | refine tl_sk rfl rfl rfl rfl ?_ | refine tl_qg rfl rfl (z_eqlT rfl rfl (by omega)) rfl ?_ | refine tl_qg rfl rfl (z_eqlF rfl rfl (by omega)) rfl ?_ | refine tl_qg rfl rfl (y_eql rfl rfl) rfl ?_ | refine tl_su rfl rfl rfl ?_ | (refine tl_gs rfl rfl (fun hc => ?_) (fun hc => ?_) <;> (try simp only [decide_eq_true_eq, decide_eq_false_iff_not, Int.not_lt, Int.not_le, Bool.not_eq_true', Bool.not_eq_false', Decidable.not_not, not_true_eq_false, Int.toNat_natCast] at hc) <;> (first | (exfalso; omega) | refine tl_sk rfl rfl rfl rfl ?_ | refine tl_qg rfl rfl (z_eqlT rfl rfl (by omega)) rfl ?_ | refine tl_qg rfl rfl (z_eqlF rfl rfl (by omega)) rfl ?_ | refine tl_qg rfl rfl (y_eql rfl rfl) rfl ?_ | refine tl_su rfl rfl rfl ?_)))
                    all_goals (first | refine tl_sk rfl rfl rfl rfl ?_ | refine tl_qg rfl rfl (y_move rfl) rfl ?_ | refine tl_su rfl rfl rfl ?_ | (refine tl_gs rfl rfl (fun hc => ?_) (fun hc => ?_) <;> (try simp only [decide_eq_true_eq, decide_eq_false_iff_not, Int.not_lt, Int.not_le, Bool.not_eq_true', Bool.not_eq_false', Decidable.not_not, not_true_eq_false, Int.toNat_natCast] at hc) <;> (first | (exfalso; omega) | refine tl_sk rfl rfl rfl rfl ?_ | refine tl_qg rfl rfl (y_move rfl) rfl ?_ | refine tl_su rfl rfl rfl ?_)))
                    all_goals (first | refine tl_sk rfl rfl rfl rfl ?_ | refine tl_qg rfl rfl (y_move rfl) rfl ?_ | refine tl_su rfl rfl rfl ?_ | (refine tl_gs rfl rfl (fun hc => ?_) (fun hc => ?_) <;> (try simp only [decide_eq_true_eq, decide_eq_false_iff_not, Int.not_lt, Int.not_le, Bool.not_eq_true', Bool.not_eq_false', Decidable.not_not, not_true_eq_false, Int.toNat_natCast] at hc) <;> (first | (exfalso; omega) | refine tl_sk rfl rfl rfl rfl ?_ | refine tl_qg rfl rfl (y_move rfl) rfl ?_ | refine tl_su rfl rfl rfl ?_)))
                    all_goals (first | refine tl_sk rfl rfl rfl rfl ?_ | refine tl_eg rfl rfl rfl (e_callX rfl (.cons rfl .nil) (fun w' _ => bitsZ (by omega) hT w')) (fun t2 ht2 => ?_) | refine tl_su rfl rfl rfl ?_ | (refine tl_gs rfl rfl (fun hc => ?_) (fun hc => ?_) <;> (try simp only [decide_eq_true_eq, decide_eq_false_iff_not, Int.not_lt, Int.not_le, Bool.not_eq_true', Bool.not_eq_false', Decidable.not_not, not_true_eq_false, Int.toNat_natCast] at hc) <;> (first | (exfalso; omega) | refine tl_sk rfl rfl rfl rfl ?_ | refine tl_eg rfl rfl rfl (e_callX rfl (.cons rfl .nil) (fun w' _ => bitsZ (by omega) hT w')) (fun t2 ht2 => ?_) | refine tl_su rfl rfl rfl ?_)))
                    all_goals (first | refine tl_sk rfl rfl rfl rfl ?_ | refine tl_qg rfl rfl (y_move rfl) rfl ?_ | refine tl_su rfl rfl rfl ?_ | (refine tl_gs rfl rfl (fun hc => ?_) (fun hc => ?_) <;> (try simp only [decide_eq_true_eq, decide_eq_false_iff_not, Int.not_lt, Int.not_le, Bool.not_eq_true', Bool.not_eq_false', Decidable.not_not, not_true_eq_false, Int.toNat_natCast] at hc) <;> (first | (exfalso; omega) | refine tl_sk rfl rfl rfl rfl ?_ | refine tl_qg rfl rfl (y_move rfl) rfl ?_ | refine tl_su rfl rfl rfl ?_)))
                    all_goals (first | refine tl_sk rfl rfl rfl rfl ?_ | refine tl_eg rfl rfl rfl (e_callV rfl (.cons rfl (.cons rfl .nil)) (fun w' hw' => lessZ (by omega) (by omega) hlb _ _ w' (ht2.1.fr (hw'.fr (MI.m (by repeat constructor)))) (hz.1.fr (hw'.fr (MI.m (by repeat constructor)))))) (fun _ _ => ?_) | refine tl_su rfl rfl rfl ?_ | (refine tl_gs rfl rfl (fun hc => ?_) (fun hc => ?_) <;> (try simp only [decide_eq_true_eq, decide_eq_false_iff_not, Int.not_lt, Int.not_le, Bool.not_eq_true', Bool.not_eq_false', Decidable.not_not, not_true_eq_false, Int.toNat_natCast] at hc) <;> (first | (exfalso; omega) | refine tl_sk rfl rfl rfl rfl ?_ | refine tl_eg rfl rfl rfl (e_callV rfl (.cons rfl (.cons rfl .nil)) (fun w' hw' => lessZ (by omega) (by omega) hlb _ _ w' (ht2.1.fr (hw'.fr (MI.m (by repeat constructor)))) (hz.1.fr (hw'.fr (MI.m (by repeat constructor)))))) (fun _ _ => ?_) | refine tl_su rfl rfl rfl ?_)))
                    all_goals (first | refine tl_sk rfl rfl rfl rfl ?_ | refine tl_qg rfl rfl (y_not_dec rfl) rfl ?_ | refine tl_qg rfl rfl (y_not rfl) rfl ?_ | refine tl_su rfl rfl rfl ?_ | (refine tl_gs rfl rfl (fun hc => ?_) (fun hc => ?_) <;> (try simp only [decide_eq_true_eq, decide_eq_false_iff_not, Int.not_lt, Int.not_le, Bool.not_eq_true', Bool.not_eq_false', Decidable.not_not, not_true_eq_false, Int.toNat_natCast] at hc) <;> (first | (exfalso; omega) | refine tl_sk rfl rfl rfl rfl ?_ | refine tl_qg rfl rfl (y_not_dec rfl) rfl ?_ | refine tl_qg rfl rfl (y_not rfl) rfl ?_ | refine tl_su rfl rfl rfl ?_)))
                    all_goals (first | refine tl_sk rfl rfl rfl rfl ?_ | refine tl_qg rfl rfl (y_pick_t rfl rfl) rfl ?_ | refine tl_qg rfl rfl (y_pick_f rfl rfl) rfl ?_ | refine tl_su rfl rfl rfl ?_ | (refine tl_gs rfl rfl (fun hc => ?_) (fun hc => ?_) <;> (try simp only [decide_eq_true_eq, decide_eq_false_iff_not, Int.not_lt, Int.not_le, Bool.not_eq_true', Bool.not_eq_false', Decidable.not_not, not_true_eq_false, Int.toNat_natCast] at hc) <;> (first | (exfalso; omega) | refine tl_sk rfl rfl rfl rfl ?_ | refine tl_qg rfl rfl (y_pick_t rfl rfl) rfl ?_ | refine tl_qg rfl rfl (y_pick_f rfl rfl) rfl ?_ | refine tl_su rfl rfl rfl ?_)))
                    all_goals (first | refine tl_sk rfl rfl rfl rfl ?_ | refine tl_qg rfl rfl (y_pick_t rfl rfl) rfl ?_ | refine tl_qg rfl rfl (y_pick_f rfl rfl) rfl ?_ | refine tl_su rfl rfl rfl ?_ | (refine tl_gs rfl rfl (fun hc => ?_) (fun hc => ?_) <;> (try simp only [decide_eq_true_eq, decide_eq_false_iff_not, Int.not_lt, Int.not_le, Bool.not_eq_true', Bool.not_eq_false', Decidable.not_not, not_true_eq_false, Int.toNat_natCast] at hc) <;> (first | (exfalso; omega) | refine tl_sk rfl rfl rfl rfl ?_ | refine tl_qg rfl rfl (y_pick_t rfl rfl) rfl ?_ | refine tl_qg rfl rfl (y_pick_f rfl rfl) rfl ?_ | refine tl_su rfl rfl rfl ?_)))
                    all_goals (first | refine tl_q (y_pick_t rfl rfl) rfl ?_ | refine tl_q (y_pick_f rfl rfl) rfl ?_)
                    all_goals refine tl_q (y_move rfl) rfl ?_
                    all_goals (first | refine tl_sk rfl rfl rfl rfl ?_ | refine tl_eg rfl rfl rfl (e_callV rfl .nil (fun w' _ => awake_c w')) (fun _ _ => ?_) | refine tl_su rfl rfl rfl ?_ | (refine tl_gs rfl rfl (fun hc => ?_) (fun hc => ?_) <;> (try simp only [decide_eq_true_eq, decide_eq_false_iff_not, Int.not_lt, Int.not_le, Bool.not_eq_true', Bool.not_eq_false', Decidable.not_not, not_true_eq_false, Int.toNat_natCast] at hc) <;> (first | (exfalso; omega) | refine tl_sk rfl rfl rfl rfl ?_ | refine tl_eg rfl rfl rfl (e_callV rfl .nil (fun w' _ => awake_c w')) (fun _ _ => ?_) | refine tl_su rfl rfl rfl ?_)))
                    all_goals (first | refine tl_q (y_pick_t rfl rfl) rfl ?_ | refine tl_q (y_pick_f rfl rfl) rfl ?_)
                    all_goals refine tl_q (y_assign rfl) rfl ?_
                    all_goals refine tl_nil ?_
                    all_goals (refine hK31 ?_; try (clear hK31; clear K31))
                    all_goals refine tc_ret ?_
                    all_goals (repeat (first | refine tk_then_ret ?_ | refine tk_block_ret ?_ | refine tk_scope_ret ?_))
                    all_goals first | refine tk_ret rfl rfl (.cons (.tmp rfl) .nil) ?_ | refine tk_retM rfl (by repeat constructor) rfl (.cons (.tmp rfl) .nil) ?_
                    all_goals (
                     refine fun w' hw' => ⟨?_, hw'.fr (w0 := w) (S := []) (MI.m (by repeat constructor))⟩
                     first
                     | rfl
                     | (exfalso; omega))))))))
end Go.Sp
