/-
  What the statements about trials are made of.
-/
import Derived.Test.YtaoohjefbfmhnaaXn
import Derived.Test.YtaoohjefbfmhnaaP
import Derived.Test.YtaoohjefbfmhnaaBg
set_option linter.unusedVariables false
set_option linter.unusedSimpArgs false
set_option linter.deprecated false
namespace Go.Sp
open Go Go.Proofs
theorem CnX.sepN {P : Program} {f : FuncId} {args : Array Value} {w0 w : World} {S : List Nat} {α : Type} {val : α → Value} {q : α → World → Prop} {v : α → Value} {bs : List (World × List Nat)} {H : List (Nat × Obj)}
    (h : CnX P f args w S val (fun x w' => q x w' ∧ NewS w (v x))) (hw : HG bs H w) (hb : (w0, []) ∈ bs) : CnX P f args w S val (fun x w' => (q x w' ∧ NewS w0 (v x)) ∧ sepS (v x) (H.map Prod.fst)) :=
  CnX.of (h.out.mono fun e w' he => by
    obtain ⟨x, he, hf, hq, hn⟩ := he
    refine ⟨x, he, hf, ⟨hq, fun p m c e => Nat.le_trans (hw.fr hb).size (hn p m c e)⟩, fun p m c e hb => ?_⟩
    obtain ⟨a, ha, e2⟩ := List.mem_map.1 hb
    have h1 := hw.lt ha
    have h2 := hn p m c e
    omega)
theorem list9_c (xs : List Int) (hx : xs.length ≤ 1000) (sl : Value) (w : World) (hr : RdI w sl xs) : CnX Try.prog 25 #[sl] w [] (slV xs.length) (fun x w' => RdI w' (slV xs.length x) xs ∧ NewS w (slV xs.length x)) := by
  have hr0 := hr
  obtain ⟨ad, cap, b0, o, rfl, had, hcell⟩ := hr.open
  rcases Nat.eq_zero_or_pos xs.length with h0 | h0
  all_goals refine cnx0 (vs := [_]) Try.func25 rfl rfl ?_
  all_goals refine tc_seq fun K1 hK1 => ?_
  all_goals refine tc_region ?_
  all_goals refine tl_q (y_assign rfl) rfl ?_
  all_goals refine tl_nil ?_
  all_goals (refine hK1 ?_; try (clear hK1; clear K1))
  all_goals refine tc_seq fun K2 hK2 => ?_
  all_goals refine tc_region ?_
  all_goals refine tl_q (y_move rfl) rfl ?_
  all_goals (first | refine tl_e (e_append_nil rfl rfl rfl (fun w' hw' => hr0.fr (hw'.fr (by simp))) (fun u hu => by obtain ⟨_, _, rfl⟩ := List.mem_map.1 hu; rfl) h0 (by omega) rfl) rfl (fun y hy => ?_) | refine tl_e (e_append_nil0 (ad := ad) (cap := cap) rfl rfl (by show some (Value.slice ad xs.length cap) = some (Value.slice ad 0 cap); rw [h0])) rfl (fun y hy => ?_))
  all_goals refine tl_q (y_assign rfl) rfl ?_
  all_goals refine tl_nil ?_
  all_goals (refine hK2 ?_; try (clear hK2; clear K2))
  all_goals refine tc_ret ?_
  all_goals (repeat (first | refine tk_then_ret ?_ | refine tk_block_ret ?_ | refine tk_scope_ret ?_))
  all_goals first | refine tk_ret rfl rfl (.cons (.tmp rfl) .nil) ?_ | refine tk_retM rfl (by repeat constructor) rfl (.cons (.tmp rfl) .nil) ?_
  all_goals (
   first
   | exact fun w' hw' => ⟨(some ⟨y.1, 0, none⟩, y.2.1), rfl, hw'.fr (by simp), RdI.own (xs := xs) (junk := y.2.2) hw' (by repeat constructor), NewS.own hw' (b := y.1) (by repeat constructor) (by simp)⟩
   | exact fun w' hw' => ⟨(none, 0), by unfold slV; rw [h0]; rfl, hw'.fr (by simp), by unfold slV; rw [h0, List.eq_nil_of_length_eq_zero h0]; exact RdI.nil _, NewS.nil _ _ _⟩)
theorem spindleN_c (s : Sn) (hn : s.weights.length ≤ 1000) (sl : Value) (w : World) (hr : RdI w sl s.weights) : CnX Try.prog 9 #[spV s sl] w [] (fun x : Option Addr × Nat => spV s (slV s.weights.length x)) (fun x w' => RdI w' (slV s.weights.length x) s.weights ∧ NewS w (slV s.weights.length x)) := by
  refine cnx0 (vs := [_]) Try.func9 rfl rfl ?_
  all_goals refine tc_seq fun K1 hK1 => ?_
  all_goals refine tc_region ?_
  all_goals refine tl_e (e_box rfl rfl rfl) rfl (fun b1 _ => ?_)
  all_goals refine tl_e (e_allocN rfl) rfl (fun b2 _ => ?_)
  all_goals refine tl_nil ?_
  all_goals (refine hK1 ?_; try (clear hK1; clear K1))
  all_goals refine tc_seq fun K2 hK2 => ?_
  all_goals refine tc_draw (by kernel_rfl) ?_
  all_goals refine tx_p 0 rfl (by kernel_rfl) (y_field rfl) rfl (fun _ _ _ h => h) (fun _ h => h) ?_
  all_goals refine tx_q 1 rfl (by kernel_rfl) (y_load1 rfl (by repeat constructor) (by rfl)) rfl (fun _ _ _ h => h) (fun _ h => h) ?_
  all_goals refine tx_p 2 rfl (by kernel_rfl) (y_field rfl) rfl (fun _ _ _ h => h) (fun _ h => h) ?_
  all_goals refine tx_q 3 rfl (by kernel_rfl) (y_load1 rfl (by repeat constructor) (by rfl)) rfl (fun _ _ _ h => h) (fun _ h => h) ?_
  all_goals refine tx_p 4 rfl (by kernel_rfl) (y_field rfl) rfl (fun _ _ _ h => h) (fun _ h => h) ?_
  all_goals refine tx_q 5 rfl (by kernel_rfl) (y_load1 rfl (by repeat constructor) (by rfl)) rfl (fun _ _ _ h => h) (fun _ h => h) ?_
  all_goals refine tx_p 6 rfl (by kernel_rfl) (y_field rfl) rfl (fun _ _ _ h => h) (fun _ h => h) ?_
  all_goals refine tx_q 7 rfl (by kernel_rfl) (y_load1 rfl (by repeat constructor) (by rfl)) rfl (fun _ _ _ h => h) (fun _ h => h) ?_
  all_goals refine tx_p 8 rfl (by kernel_rfl) (y_field rfl) rfl (fun _ _ _ h => h) (fun _ h => h) ?_
  all_goals refine tx_q 9 rfl (by kernel_rfl) (y_load1 rfl (by repeat constructor) (by rfl)) rfl (fun _ _ _ h => h) (fun _ h => h) ?_
  all_goals refine tx_p 10 rfl (by kernel_rfl) (y_field rfl) rfl (fun _ _ _ h => h) (fun _ h => h) ?_
  all_goals refine tx_q 11 rfl (by kernel_rfl) (y_load1 rfl (by repeat constructor) (by rfl)) rfl (fun _ _ _ h => h) (fun _ h => h) ?_
  all_goals refine tx_e 12 rfl (by kernel_rfl) rfl (e_callX rfl (.cons rfl .nil) (fun w' hw' => (list_c s.weights hn _ w' (hr.fr (hw'.fr (by simp)))).sepN (w0 := w) hw' (by simp))) (.inr fun _ _ h => h.sub (fun _ h => List.mem_cons_of_mem _ h) (List.Sublist.refl _)) (fun y hy => ?_)
  all_goals refine tx_p 13 rfl (by kernel_rfl) (y_build_6 rfl rfl rfl rfl rfl rfl rfl rfl rfl rfl rfl rfl) rfl (fun _ _ _ h => h) (fun _ h => h) ?_
  all_goals refine tx_e 14 rfl (by kernel_rfl) rfl (e_storeW rfl rfl (by repeat constructor) (by rfl) (by rfl) (by simp [Value.oneCell'])) (.inl (by kernel_rfl)) (fun _ _ => ?_)
  all_goals refine tx_done (by kernel_rfl) ?_
  all_goals (refine hK2 ?_; try (clear hK2; clear K2))
  all_goals refine tc_ret ?_
  all_goals (repeat (first | refine tk_then_ret ?_ | refine tk_block_ret ?_ | refine tk_scope_ret ?_))
  all_goals first | refine tk_ret rfl rfl (.cons (.agg inferInstance rfl (by repeat constructor) (by rfl)) .nil) ?_ | refine tk_retM rfl (by repeat constructor) rfl (.cons (.agg inferInstance rfl (by repeat constructor) (by rfl)) .nil) ?_
  all_goals (
   refine fun w' hw' => ⟨y.1, rfl, hw'.fr (w0 := w) (S := []) (by simp), hy.1.1.1.frS (S := [b2, b1]) (hw'.fr (by simp)) hy.1.2, hy.1.1.2⟩)
theorem to9_c (r : Int × Int) (w : World) : CnV Try.prog 26 #[rV r] w (rV r) := by
  refine cnv (vs := [_]) Try.func26 rfl rfl ?_
  all_goals refine tc_seq fun K1 hK1 => ?_
  all_goals refine tc_region ?_
  all_goals refine tl_e (e_box rfl rfl rfl) rfl (fun _ _ => ?_)
  all_goals refine tl_e (e_allocN rfl) rfl (fun _ _ => ?_)
  all_goals refine tl_nil ?_
  all_goals (refine hK1 ?_; try (clear hK1; clear K1))
  all_goals refine tc_seq fun K2 hK2 => ?_
  all_goals refine tc_region ?_
  all_goals refine tl_q (y_field rfl) rfl ?_
  all_goals refine tl_q (y_load1 rfl (by repeat constructor) (by rfl)) rfl ?_
  all_goals refine tl_q (y_field rfl) rfl ?_
  all_goals refine tl_q (y_load1 rfl (by repeat constructor) (by rfl)) rfl ?_
  all_goals refine tl_q (y_build_2 rfl rfl rfl rfl) rfl ?_
  all_goals refine tl_e (e_storeW rfl rfl (by repeat constructor) (by rfl) (by rfl) (by simp [Value.oneCell'])) rfl (fun _ _ => ?_)
  all_goals refine tl_nil ?_
  all_goals (refine hK2 ?_; try (clear hK2; clear K2))
  all_goals refine tc_ret ?_
  all_goals (repeat (first | refine tk_then_ret ?_ | refine tk_block_ret ?_ | refine tk_scope_ret ?_))
  all_goals first | refine tk_ret rfl rfl (.cons (.agg inferInstance rfl (by repeat constructor) (by rfl)) .nil) ?_ | refine tk_retM rfl (by repeat constructor) rfl (.cons (.agg inferInstance rfl (by repeat constructor) (by rfl)) .nil) ?_
  all_goals (
   exact fun w' hw' => ⟨rfl, hw'.fr (by simp)⟩)
end Go.Sp
