/-
  What the statements are made of: two readings, ranges, what is seen.
-/
import Derived.Test.YtdmnmhkonfadhaaP
set_option linter.unusedVariables false
set_option linter.unusedSimpArgs false
set_option linter.deprecated false
namespace Go.Sp
open Go Go.Proofs
theorem two_c (l : List (Int × Int)) (hl : l.length ≤ 1000) (lv : Value) (w : World) (hR : RdR w lv l) :
    CnX Try.prog 59 #[lv] w [] (slV (2 + l.length)) (fun x w' => RdR w' (slV (2 + l.length) x) ([(0, 5), (1, 10)] ++ l)) := by
  refine cnx0 (vs := [_]) Try.func59 rfl rfl ?_
  all_goals refine tc_seq fun K1 hK1 => ?_
  all_goals refine tc_region ?_
  all_goals refine tl_q (y_assign rfl) rfl ?_
  all_goals refine tl_nil ?_
  all_goals (refine hK1 ?_; try (clear hK1; clear K1))
  all_goals refine tc_seq fun K2 hK2 => ?_
  all_goals refine tc_region ?_
  all_goals refine tl_q (y_build_2 rfl rfl rfl rfl) rfl ?_
  all_goals refine tl_q (y_build_2 rfl rfl rfl rfl) rfl ?_
  all_goals refine tl_e (e_bslice rfl (by (repeat (first | exact .nil | apply PV.one rfl rfl | apply PV.two rfl)); done) rfl rfl) rfl (fun _ _ => ?_)
  all_goals refine tl_q (y_move rfl) rfl ?_
  all_goals refine tl_e (e_append_own (old := flatR [(0, 5), (1, 10)]) (junk := []) (len := 2) (cap := 2) rfl rfl rfl (by repeat constructor) rfl rfl (Nat.le_refl _) (fun w' hw' => hR.fr (hw'.fr (by simp))) (flatR_one _) (by omega) rfl) rfl (fun y hy => ?_)
  all_goals refine tl_q (y_assign rfl) rfl ?_
  all_goals refine tl_nil ?_
  all_goals (refine hK2 ?_; try (clear hK2; clear K2))
  all_goals refine tc_ret ?_
  all_goals (repeat (first | refine tk_then_ret ?_ | refine tk_block_ret ?_ | refine tk_scope_ret ?_))
  all_goals first | refine tk_ret rfl rfl (.cons (.tmp rfl) .nil) ?_ | refine tk_retM rfl (by repeat constructor) rfl (.cons (.tmp rfl) .nil) ?_
  all_goals (
   exact fun w' hw' => ⟨(some ⟨y.1, 0, none⟩, y.2.1), rfl, hw'.fr (by simp), by
     have := RdR.own (xs := [(0, 5), (1, 10)] ++ l) (cap := y.2.1) (junk := y.2.2) (b := y.1) hw' (by rw [flatR_append]; exact .head)
     rw [List.length_append] at this
     exact this⟩)
def fitF (m r : Int × Int) : Int := max 0 (min m.2 r.2 - max m.1 r.1 + 1)
theorem fitting_c (m r : Int × Int) (h1 : -10000000 ≤ m.1 ∧ m.1 ≤ 10000000) (h2 : -10000000 ≤ m.2 ∧ m.2 ≤ 10000000) (h3 : -10000000 ≤ r.1 ∧ r.1 ≤ 10000000) (h4 : -10000000 ≤ r.2 ∧ r.2 ≤ 10000000) (w : World) : CnV Try.prog 48 #[rV m, rV r] w (vi (fitF m r)) := by
  refine cnv (vs := [_, _]) Try.func48 rfl rfl ?_
  all_goals refine tc_seq fun K1 hK1 => ?_
  all_goals refine tc_region ?_
  all_goals refine tl_e (e_box rfl rfl rfl) rfl (fun _ _ => ?_)
  all_goals refine tl_e (e_box rfl rfl rfl) rfl (fun _ _ => ?_)
  all_goals refine tl_q (y_assign rfl) rfl ?_
  all_goals refine tl_nil ?_
  all_goals (refine hK1 ?_; try (clear hK1; clear K1))
  all_goals refine tc_seq fun K2 hK2 => ?_
  all_goals refine tc_region ?_
  all_goals refine tl_q (y_field rfl) rfl ?_
  all_goals refine tl_q (y_load1 rfl (by repeat constructor) (by rfl)) rfl ?_
  all_goals refine tl_q (y_field rfl) rfl ?_
  all_goals refine tl_q (y_load1 rfl (by repeat constructor) (by rfl)) rfl ?_
  all_goals refine tl_q (y_min rfl rfl) rfl ?_
  all_goals refine tl_q (y_field rfl) rfl ?_
  all_goals refine tl_q (y_load1 rfl (by repeat constructor) (by rfl)) rfl ?_
  all_goals refine tl_q (y_field rfl) rfl ?_
  all_goals refine tl_q (y_load1 rfl (by repeat constructor) (by rfl)) rfl ?_
  all_goals refine tl_q (y_max rfl rfl) rfl ?_
  all_goals refine tl_q (y_sub rfl rfl (by omega)) rfl ?_
  all_goals refine tl_q (y_add rfl rfl (by omega)) rfl ?_
  all_goals refine tl_q (y_max rfl rfl) rfl ?_
  all_goals refine tl_q (y_assign rfl) rfl ?_
  all_goals refine tl_nil ?_
  all_goals (refine hK2 ?_; try (clear hK2; clear K2))
  all_goals refine tc_ret ?_
  all_goals (repeat (first | refine tk_then_ret ?_ | refine tk_block_ret ?_ | refine tk_scope_ret ?_))
  all_goals first | refine tk_ret rfl rfl (.cons (.tmp rfl) .nil) ?_ | refine tk_retM rfl (by repeat constructor) rfl (.cons (.tmp rfl) .nil) ?_
  all_goals (
   exact fun w' hw' => ⟨rfl, hw'.fr (by simp)⟩)
abbrev v16 (n : Int) : Value := .int .u16 n
abbrev v8 (n : Int) : Value := .int .u8 n
def rangesF (a b : Int) : Int × Int := (1 + a % 2000, min 2000 (1 + a % 2000 + b % 400))
theorem ranges_c (a b : Int) (ha : 0 ≤ a ∧ a ≤ 65535) (hb : 0 ≤ b ∧ b ≤ 65535) (w : World) : CnV Try.prog 46 #[v16 a, v16 b] w (rV (rangesF a b)) := by
  refine cnv (vs := [_, _]) Try.func46 rfl rfl ?_
  all_goals refine tc_seq fun K1 hK1 => ?_
  all_goals refine tc_region ?_
  all_goals refine tl_e (e_allocN rfl) rfl (fun _ _ => ?_)
  all_goals refine tl_nil ?_
  all_goals (refine hK1 ?_; try (clear hK1; clear K1))
  all_goals refine tc_seq fun K2 hK2 => ?_
  all_goals refine tc_region ?_
  all_goals refine tl_q (y_move rfl) rfl ?_
  all_goals (first | refine tl_q (y_conv64 rfl (by omega)) rfl ?_ | refine tl_q (y_conv rfl (by simp only [IntKind.wrap, IntKind.bits, IntKind.signed, Bool.false_and, Bool.true_and, Bool.false_eq_true, if_false, decide_eq_true_eq]; omega)) rfl ?_)
  all_goals refine tl_q (y_rem rfl rfl (by omega) (by omega)) rfl ?_
  all_goals refine tl_q (y_add rfl rfl (by omega)) rfl ?_
  all_goals refine tl_q (y_assign rfl) rfl ?_
  all_goals refine tl_nil ?_
  all_goals (refine hK2 ?_; try (clear hK2; clear K2))
  all_goals refine tc_seq fun K3 hK3 => ?_
  all_goals refine tc_region ?_
  all_goals refine tl_q (y_move rfl) rfl ?_
  all_goals refine tl_q (y_move rfl) rfl ?_
  all_goals refine tl_q (y_move rfl) rfl ?_
  all_goals (first | refine tl_q (y_conv64 rfl (by omega)) rfl ?_ | refine tl_q (y_conv rfl (by simp only [IntKind.wrap, IntKind.bits, IntKind.signed, Bool.false_and, Bool.true_and, Bool.false_eq_true, if_false, decide_eq_true_eq]; omega)) rfl ?_)
  all_goals refine tl_q (y_rem rfl rfl (by omega) (by omega)) rfl ?_
  all_goals refine tl_q (y_add rfl rfl (by omega)) rfl ?_
  all_goals refine tl_q (y_min rfl rfl) rfl ?_
  all_goals refine tl_q (y_build_2 rfl rfl rfl rfl) rfl ?_
  all_goals refine tl_e (e_storeW rfl rfl (by repeat constructor) (by rfl) (by rfl) (by simp [Value.oneCell'])) rfl (fun _ _ => ?_)
  all_goals refine tl_nil ?_
  all_goals (refine hK3 ?_; try (clear hK3; clear K3))
  all_goals refine tc_ret ?_
  all_goals (repeat (first | refine tk_then_ret ?_ | refine tk_block_ret ?_ | refine tk_scope_ret ?_))
  all_goals first | refine tk_ret rfl rfl (.cons (.agg inferInstance rfl (by repeat constructor) (by rfl)) .nil) ?_ | refine tk_retM rfl (by repeat constructor) rfl (.cons (.agg inferInstance rfl (by repeat constructor) (by rfl)) .nil) ?_
  all_goals (
   exact fun w' hw' => ⟨rfl, hw'.fr (by simp)⟩)
def canN (s : Sn) (k d : Int) (n : Nat) : List Int := ((List.range n).filter fun (i : Nat) => rFit s (k, (i : Int)) d).map fun (i : Nat) => (i : Int)
def canL (s : Sn) (k d : Int) : List Int := canN s k d (s.divisions + 1).toNat
theorem canN_succ (s : Sn) (k d : Int) (n : Nat) : canN s k d (n + 1) = if rFit s (k, (n : Int)) d = true then canN s k d n ++ [(n : Int)] else canN s k d n := by
  unfold canN
  rw [List.range_succ, List.filter_append, List.map_append]
  cases h : rFit s (k, (n : Int)) d <;> simp [h]
theorem canN_len (s : Sn) (k d : Int) (n : Nat) : (canN s k d n).length ≤ n := by
  unfold canN
  rw [List.length_map]
  exact Nat.le_trans (List.length_filter_le _ _) (by simp)
def seenF (s : Sn) (k d word : Int) : Int := if rFlo s k d = 0 then (canL s k d).getD (word % ((canL s k d).length : Int)).toNat 0 else rFlo s k d
theorem seen2_c (s : Sn) (hs : VS s) (k d word : Int) (h0 : 0 ≤ k) (h1 : k ≤ s.weights.length) (h2 : 1 ≤ d) (h3 : d ≤ 2000) (hw0 : 0 ≤ word) (hne : rFlo s k d = 0 → 0 < (canL s k d).length) (sl : Value) (w : World) (hr : RdI w sl s.weights) :
    CnV Try.prog 47 #[spV s sl, vi k, vi d, vi word] w (vi (seenF s k d word)) := by
  have hd1 := hs.d1
  have hd2 := hs.d2
  refine cnv (vs := [_, _, _, _]) Try.func47 rfl rfl ?_
  all_goals refine tc_seq fun K1 hK1 => ?_
  all_goals refine tc_region ?_
  all_goals refine tl_e (e_box rfl rfl rfl) rfl (fun b4 _ => ?_)
  all_goals refine tl_q (y_assign rfl) rfl ?_
  all_goals refine tl_nil ?_
  all_goals (refine hK1 ?_; try (clear hK1; clear K1))
  all_goals refine tc_seq fun K2 hK2 => ?_
  all_goals refine tc_region ?_
  all_goals (first | refine tl_q (y_loadW rfl (by repeat constructor) (by rfl)) rfl ?_ | refine tl_q (y_loadN rfl (by repeat constructor) (by (repeat (first | exact .nil | apply CA.cons rfl)); done)) rfl ?_ | refine tl_q (y_load1o (v := vi ((canL s k d).getD (word % ((canL s k d).length : Int)).toNat 0)) rfl (fun w' hw' => by obtain ⟨_, _, _, _, e, had, hcell⟩ := (RdI.own (xs := canL s k d) (cap := cap) (junk := junk) hw' (b := b0) (by repeat constructor)).open; cases e; cases had hpos; rw [Nat.mul_one]; exact hcell w' (Fr.refl _ _) (word % ((canL s k d).length : Int)).toNat (by unfold canL; omega))) rfl ?_)
  all_goals refine tl_q (y_move rfl) rfl ?_
  all_goals refine tl_q (y_move rfl) rfl ?_
  all_goals refine tl_e (e_callV rfl (.cons rfl (.cons rfl (.cons rfl .nil))) (fun w' hw' => rfloats_c s hs k d h0 h1 h2 h3 _ w' (hr.fr (hw'.fr (by simp))))) rfl (fun _ _ => ?_)
  all_goals refine tl_q (y_assign rfl) rfl ?_
  all_goals refine tl_nil ?_
  all_goals (refine hK2 ?_; try (clear hK2; clear K2))
  all_goals refine tc_seq fun K3 hK3 => ?_
  all_goals refine tc_seq fun K4 hK4 => ?_
  all_goals refine tc_region ?_
  all_goals refine tl_q (y_move rfl) rfl ?_
  all_goals refine tl_q (y_neq rfl rfl) rfl ?_
  all_goals refine tl_nil ?_
  all_goals (refine hK4 ?_; try (clear hK4; clear K4))
  all_goals (
   refine tc_cond rfl (fun hc => ?_) (fun hc => ?_)
   · try simp only [decide_eq_true_eq, decide_eq_false_iff_not, Int.not_lt, Int.not_le, Bool.not_eq_true', Bool.not_eq_false', Decidable.not_not, not_true_eq_false] at hc
     all_goals first | (exfalso; with_reducible exact bft hc) | (exfalso; with_reducible exact btf hc) | (exfalso; omega) | skip
     all_goals refine tc_seq fun K5 hK5 => ?_
     all_goals refine tc_region ?_
     all_goals refine tl_q (y_move rfl) rfl ?_
     all_goals refine tl_q (y_assign rfl) rfl ?_
     all_goals refine tl_nil ?_
     all_goals (refine hK5 ?_; try (clear hK5; clear K5))
     all_goals refine tc_ret ?_
     all_goals (repeat (first | refine tk_then_ret ?_ | refine tk_block_ret ?_ | refine tk_scope_ret ?_))
     all_goals first | refine tk_ret rfl rfl (.cons (.tmp rfl) .nil) ?_ | refine tk_retM rfl (by repeat constructor) rfl (.cons (.tmp rfl) .nil) ?_
     all_goals (
      first
      | exact fun w' hw' => ⟨by unfold seenF; rw [if_neg (by omega)]; rfl, hw'.fr (by simp)⟩
      | exact fun w' hw' => ⟨by unfold seenF; rw [if_pos (by omega)]; rfl, hw'.fr (by simp)⟩)
   · try simp only [decide_eq_true_eq, decide_eq_false_iff_not, Int.not_lt, Int.not_le, Bool.not_eq_true', Bool.not_eq_false', Decidable.not_not, not_true_eq_false] at hc
     all_goals first | (exfalso; with_reducible exact bft hc) | (exfalso; with_reducible exact btf hc) | (exfalso; omega) | skip
     all_goals refine tc_skip ?_
     all_goals (refine hK3 ?_; try (clear hK3; clear K3))
     all_goals refine tc_seq fun K6 hK6 => ?_
     all_goals refine tc_region ?_
     all_goals refine tl_q (y_assign rfl) rfl ?_
     all_goals refine tl_nil ?_
     all_goals (refine hK6 ?_; try (clear hK6; clear K6))
     all_goals refine tc_seq fun K7 hK7 => ?_
     all_goals refine tc_seq fun K8 hK8 => ?_
     all_goals refine tc_region ?_
     all_goals refine tl_q (y_assign rfl) rfl ?_
     all_goals refine tl_nil ?_
     all_goals (refine hK8 ?_; try (clear hK8; clear K8))
     all_goals refine tc_block ?_
     all_goals (
      refine tc_loop (fun p : Nat × Option (Nat × Nat × List Value) => p.1 ≤ (s.divisions + 1).toNat ∧ outOk ((canN s k d p.1).length, p.2)) (fun p => [(1, vi k), (2, vi d), (3, vi word), (4, ptr b4), (10, outV' ((canN s k d p.1).length, p.2)), (11, vi p.1)]) (fun _ => [(w, [])]) (fun p => match p.2 with | none => [(b4, .cells (spV s sl).cells 24 (0, 0))] | some (b0, cap, junk) => [(b0, .cells ((canN s k d p.1).map vi ++ junk).toArray 3 (0, 0)), (b4, .cells (spV s sl).cells 24 (0, 0))]) (fun p => (s.divisions + 1).toNat - p.1) ?_ ?_
      · exact tk_start (0, none) ⟨Nat.zero_le _, rfl⟩ (.cons rfl (.cons rfl (.cons rfl (.cons rfl (.cons rfl (.cons rfl .nil)))))) (fun _ h => h.sub (fun _ h => h) (SB.s (by repeat constructor)))
      · rintro ⟨n, oo⟩ ⟨hn, hok⟩
        have hlen := canN_len s k d n
        rcases oo with _ | ⟨b0, cap, junk⟩
        all_goals (dsimp only [outOk] at hn hok ⊢; dsimp only [outV'])
        all_goals refine tc_seq fun K9 hK9 => ?_
        all_goals refine tc_seq fun K10 hK10 => ?_
        all_goals refine tc_region ?_
        all_goals refine tl_q (y_move rfl) rfl ?_
        all_goals refine tl_q (y_field rfl) rfl ?_
        all_goals (first | refine tl_q (y_load1 rfl (by repeat constructor) (by rfl)) rfl ?_ | refine tl_q (y_load1o (v := vi ((canL s k d).getD (word % ((canL s k d).length : Int)).toNat 0)) rfl (fun w' hw' => by obtain ⟨_, _, _, _, e, had, hcell⟩ := (RdI.own (xs := canL s k d) (cap := cap) (junk := junk) hw' (b := b0) (by repeat constructor)).open; cases e; cases had hpos; rw [Nat.mul_one]; exact hcell w' (Fr.refl _ _) (word % ((canL s k d).length : Int)).toNat (by unfold canL; omega))) rfl ?_)
        all_goals refine tl_q (y_leq rfl rfl) rfl ?_
        all_goals refine tl_nil ?_
        all_goals (refine hK10 ?_; try (clear hK10; clear K10))
        all_goals (
         refine tc_cond rfl (fun hc => ?_) (fun hc => ?_)
         · try simp only [decide_eq_true_eq, decide_eq_false_iff_not, Int.not_lt, Int.not_le, Bool.not_eq_true', Bool.not_eq_false', Decidable.not_not, not_true_eq_false] at hc
           all_goals first | (exfalso; with_reducible exact bft hc) | (exfalso; with_reducible exact btf hc) | (exfalso; omega) | skip
           all_goals refine tc_skip ?_
           all_goals (refine hK9 ?_; try (clear hK9; clear K9))
           all_goals refine tc_seq fun K11 hK11 => ?_
           all_goals refine tc_block ?_
           all_goals refine tc_seq fun K12 hK12 => ?_
           all_goals refine tc_region ?_
           all_goals (first | refine tl_q (y_loadW rfl (by repeat constructor) (by rfl)) rfl ?_ | refine tl_q (y_loadN rfl (by repeat constructor) (by (repeat (first | exact .nil | apply CA.cons rfl)); done)) rfl ?_ | refine tl_q (y_load1o (v := vi ((canL s k d).getD (word % ((canL s k d).length : Int)).toNat 0)) rfl (fun w' hw' => by obtain ⟨_, _, _, _, e, had, hcell⟩ := (RdI.own (xs := canL s k d) (cap := cap) (junk := junk) hw' (b := b0) (by repeat constructor)).open; cases e; cases had hpos; rw [Nat.mul_one]; exact hcell w' (Fr.refl _ _) (word % ((canL s k d).length : Int)).toNat (by unfold canL; omega))) rfl ?_)
           all_goals refine tl_q (y_move rfl) rfl ?_
           all_goals refine tl_q (y_move rfl) rfl ?_
           all_goals refine tl_q (y_build_2 rfl rfl rfl rfl) rfl ?_
           all_goals refine tl_q (y_move rfl) rfl ?_
           all_goals refine tl_e (e_callV rfl (.cons rfl (.cons rfl (.cons rfl .nil))) (fun w' hw' => fits_c s hs (k, (n : Int)) (decide_eq_true ⟨⟨h0, h1⟩, by dsimp only; omega, by dsimp only; omega⟩) d h2 h3 _ w' (hr.fr (hw'.fr (by simp))))) rfl (fun _ _ => ?_)
           all_goals refine tl_nil ?_
           all_goals (refine hK12 ?_; try (clear hK12; clear K12))
           all_goals (
            refine tc_cond rfl (fun hc => ?_) (fun hc => ?_)
            · try simp only [decide_eq_true_eq, decide_eq_false_iff_not, Int.not_lt, Int.not_le, Bool.not_eq_true', Bool.not_eq_false', Decidable.not_not, not_true_eq_false] at hc
              all_goals first | (exfalso; with_reducible exact bft hc) | (exfalso; with_reducible exact btf hc) | (exfalso; omega) | skip
              all_goals refine tc_region ?_
              all_goals refine tl_q (y_move rfl) rfl ?_
              all_goals refine tl_q (y_move rfl) rfl ?_
              all_goals refine tl_e (e_bslice rfl (by (repeat (first | exact .nil | apply PV.one rfl rfl | apply PV.two rfl)); done) rfl rfl) rfl (fun _ _ => ?_)
              all_goals (first | refine tl_e (e_append_own (old := (canN s k d n).map vi) (junk := junk) rfl rfl rfl (by repeat constructor) (by simp) (by omega) hok.1 (fun w' hw' => RdI.own0 (xs := [(n : Int)]) hw' (by repeat constructor)) (fun u hu => by obtain ⟨_, _, rfl⟩ := List.mem_map.1 hu; rfl) (by simp only [List.length_cons, List.length_nil]; omega) rfl) rfl (fun y hy => ?_) | refine tl_e (e_append_nil rfl rfl rfl (fun w' hw' => RdI.own0 (xs := [(n : Int)]) hw' (by repeat constructor)) (fun u hu => by obtain ⟨_, _, rfl⟩ := List.mem_map.1 hu; rfl) Nat.zero_lt_one (Nat.le_of_ble_eq_true rfl) rfl) rfl (fun y hy => ?_))
              all_goals refine tl_q (y_assign rfl) rfl ?_
              all_goals refine tl_nil ?_
              all_goals (refine hK11 ?_; try (clear hK11; clear K11))
              all_goals refine tc_region ?_
              all_goals refine tl_q (y_move rfl) rfl ?_
              all_goals refine tl_q (y_add rfl rfl (by omega)) rfl ?_
              all_goals refine tl_q (y_assign rfl) rfl ?_
              all_goals refine tl_nil ?_
              all_goals (
               first
               | (have hs2 : canN s k d (n + 1) = canN s k d n ++ [(n : Int)] := by rw [canN_succ, if_pos hc]
                  refine tk_round (n + 1, some (y.1, y.2.1, y.2.2)) ⟨by omega, ?_⟩ (by omega) (.cons rfl (.cons rfl (.cons rfl (.cons rfl (.cons ?_ (.cons rfl .nil)))))) (fun _ h => ?_)
                  · dsimp only [outOk]; rw [hs2, List.length_append]; simp only [List.length_cons, List.length_nil] at hy ⊢; omega
                  · dsimp only [outV']; rw [hs2, List.length_append]; first | rfl | (rw [hok]; rfl)
                  · dsimp only; rw [hs2, List.map_append]
                    first | (rw [show canN s k d n = [] from List.eq_nil_of_length_eq_zero hok, List.map_nil, List.nil_append]; exact h.sub (fun _ h => h) (SB.s (by repeat constructor))) | exact h.sub (fun _ h => h) (SB.s (by repeat constructor)))
               | (have hs2 : canN s k d (n + 1) = canN s k d n := by rw [canN_succ, if_neg (by rw [hc]; exact Bool.false_ne_true)]
                  first
                  | (refine tk_round (n + 1, none) ⟨by omega, by dsimp only [outOk]; rw [hs2]; exact hok⟩ (by omega) (.cons rfl (.cons rfl (.cons rfl (.cons rfl (.cons rfl (.cons rfl .nil)))))) (fun _ h => h.sub (fun _ h => h) (SB.s (by repeat constructor))))
                  | (refine tk_round (n + 1, some (b0, cap, junk)) ⟨by omega, by dsimp only [outOk]; rw [hs2]; exact hok⟩ (by omega) (.cons rfl (.cons rfl (.cons rfl (.cons rfl (.cons ?_ (.cons rfl .nil)))))) (fun _ h => ?_)
                     · dsimp only [outV']; rw [hs2]; rfl
                     · dsimp only; rw [hs2]; exact h.sub (fun _ h => h) (SB.s (by repeat constructor)))))
            · try simp only [decide_eq_true_eq, decide_eq_false_iff_not, Int.not_lt, Int.not_le, Bool.not_eq_true', Bool.not_eq_false', Decidable.not_not, not_true_eq_false] at hc
              all_goals first | (exfalso; with_reducible exact bft hc) | (exfalso; with_reducible exact btf hc) | (exfalso; omega) | skip
              all_goals refine tc_skip ?_
              all_goals (refine hK11 ?_; try (clear hK11; clear K11))
              all_goals refine tc_region ?_
              all_goals refine tl_q (y_move rfl) rfl ?_
              all_goals refine tl_q (y_add rfl rfl (by omega)) rfl ?_
              all_goals refine tl_q (y_assign rfl) rfl ?_
              all_goals refine tl_nil ?_
              all_goals (
               first
               | (have hs2 : canN s k d (n + 1) = canN s k d n ++ [(n : Int)] := by rw [canN_succ, if_pos hc]
                  refine tk_round (n + 1, some (y.1, y.2.1, y.2.2)) ⟨by omega, ?_⟩ (by omega) (.cons rfl (.cons rfl (.cons rfl (.cons rfl (.cons ?_ (.cons rfl .nil)))))) (fun _ h => ?_)
                  · dsimp only [outOk]; rw [hs2, List.length_append]; simp only [List.length_cons, List.length_nil] at hy ⊢; omega
                  · dsimp only [outV']; rw [hs2, List.length_append]; first | rfl | (rw [hok]; rfl)
                  · dsimp only; rw [hs2, List.map_append]
                    first | (rw [show canN s k d n = [] from List.eq_nil_of_length_eq_zero hok, List.map_nil, List.nil_append]; exact h.sub (fun _ h => h) (SB.s (by repeat constructor))) | exact h.sub (fun _ h => h) (SB.s (by repeat constructor)))
               | (have hs2 : canN s k d (n + 1) = canN s k d n := by rw [canN_succ, if_neg (by rw [hc]; exact Bool.false_ne_true)]
                  first
                  | (refine tk_round (n + 1, none) ⟨by omega, by dsimp only [outOk]; rw [hs2]; exact hok⟩ (by omega) (.cons rfl (.cons rfl (.cons rfl (.cons rfl (.cons rfl (.cons rfl .nil)))))) (fun _ h => h.sub (fun _ h => h) (SB.s (by repeat constructor))))
                  | (refine tk_round (n + 1, some (b0, cap, junk)) ⟨by omega, by dsimp only [outOk]; rw [hs2]; exact hok⟩ (by omega) (.cons rfl (.cons rfl (.cons rfl (.cons rfl (.cons ?_ (.cons rfl .nil)))))) (fun _ h => ?_)
                     · dsimp only [outV']; rw [hs2]; rfl
                     · dsimp only; rw [hs2]; exact h.sub (fun _ h => h) (SB.s (by repeat constructor))))))
         · try simp only [decide_eq_true_eq, decide_eq_false_iff_not, Int.not_lt, Int.not_le, Bool.not_eq_true', Bool.not_eq_false', Decidable.not_not, not_true_eq_false] at hc
           all_goals first | (exfalso; with_reducible exact bft hc) | (exfalso; with_reducible exact btf hc) | (exfalso; omega) | skip
           all_goals refine tc_exit ?_
           all_goals (refine hK7 ?_; try (clear hK7; clear K7))
           all_goals refine tc_seq fun K13 hK13 => ?_
           all_goals (have hnn : n = (s.divisions + 1).toNat := by omega)
           all_goals subst hnn
           all_goals (have hpos : 0 < (canN s k d (s.divisions + 1).toNat).length := hne (by omega))
           all_goals (have hmod : 0 ≤ word % ((canN s k d (s.divisions + 1).toNat).length : Int) ∧ word % ((canN s k d (s.divisions + 1).toNat).length : Int) < ((canN s k d (s.divisions + 1).toNat).length : Int) := ⟨Int.emod_nonneg _ (by omega), Int.emod_lt_of_pos _ (by omega)⟩)
           all_goals try (exfalso; omega)
           all_goals refine tc_region ?_
           all_goals refine tl_q (y_move rfl) rfl ?_
           all_goals refine tl_q (y_move rfl) rfl ?_
           all_goals refine tl_q (y_move rfl) rfl ?_
           all_goals refine tl_q (y_len rfl) rfl ?_
           all_goals refine tl_q (y_rem rfl rfl (by omega) (by omega)) rfl ?_
           all_goals (first | refine tl_q (y_index rfl rfl (by omega) rfl) rfl ?_ | refine tl_q (y_indexA rfl rfl (by omega)) rfl ?_)
           all_goals (first | refine tl_q (y_load1 rfl (by repeat constructor) (by rfl)) rfl ?_ | refine tl_q (y_load1o (v := vi ((canL s k d).getD (word % ((canL s k d).length : Int)).toNat 0)) rfl (fun w' hw' => by obtain ⟨_, _, _, _, e, had, hcell⟩ := (RdI.own (xs := canL s k d) (cap := cap) (junk := junk) hw' (b := b0) (by repeat constructor)).open; cases e; cases had hpos; rw [Nat.mul_one]; exact hcell w' (Fr.refl _ _) (word % ((canL s k d).length : Int)).toNat (by unfold canL; omega))) rfl ?_)
           all_goals refine tl_q (y_assign rfl) rfl ?_
           all_goals refine tl_nil ?_
           all_goals (refine hK13 ?_; try (clear hK13; clear K13))
           all_goals refine tc_ret ?_
           all_goals (repeat (first | refine tk_then_ret ?_ | refine tk_block_ret ?_ | refine tk_scope_ret ?_))
           all_goals first | refine tk_ret rfl rfl (.cons (.tmp rfl) .nil) ?_ | refine tk_retM rfl (by repeat constructor) rfl (.cons (.tmp rfl) .nil) ?_
           all_goals (
            first
            | exact fun w' hw' => ⟨by unfold seenF; rw [if_neg (by omega)]; rfl, hw'.fr (by simp)⟩
            | exact fun w' hw' => ⟨by unfold seenF; rw [if_pos (by omega)]; rfl, hw'.fr (by simp)⟩))))
end Go.Sp
