/-
  What the statements are made of: readings, words, awake.
-/
import Derived.Test.YtaoohjefbfmhnaaO
set_option linter.unusedVariables false
set_option linter.unusedSimpArgs false
set_option linter.deprecated false
namespace Go.Sp
open Go Go.Proofs
theorem readF_3 {s : Sn} {l : List (Int × Int)} (h : chkF s = 0) (h1 : 6 < (l.length : Int)) : readF s l = 3 := by unfold readF; rw [if_neg (by omega), if_pos h1]
theorem readF_2 {s : Sn} {l : List (Int × Int)} {i : Nat} (h : chkF s = 0) (h1 : (l.length : Int) ≤ 6) (hi : i < l.length) (hb : rdOk s (l.getD i (0, 0)) = false) : readF s l = 2 := by
  unfold readF; rw [if_neg (by omega), if_neg (by omega), if_neg (fun h => ?_)]
  rw [List.getD_eq_getElem?_getD, List.getElem?_eq_getElem hi] at hb
  have := List.all_eq_true.1 h _ (List.getElem_mem hi)
  simp only [Option.getD_some] at hb
  rw [hb] at this; cases this
theorem readF_00 {s : Sn} {l : List (Int × Int)} (h : chkF s = 0) (h1 : (l.length : Int) ≤ 6) (hb : ∀ i : Nat, i < l.length → rdOk s (l.getD i (0, 0)) = true) : readF s l = 0 := by
  unfold readF; rw [if_neg (by omega), if_neg (by omega), if_pos]
  refine List.all_eq_true.2 fun x hx => ?_
  obtain ⟨i, hi, rfl⟩ := List.getElem_of_mem hx
  have := hb i hi
  rw [List.getD_eq_getElem?_getD, List.getElem?_eq_getElem hi] at this
  exact this
theorem flatR_append (l m : List (Int × Int)) : flatR (l ++ m) = flatR l ++ flatR m := by simp [flatR]
theorem flatR_len (l : List (Int × Int)) : (flatR l).length = l.length * 2 := by
  induction l with
  | nil => rfl
  | cons r l ih => simp only [flatR, List.flatMap_cons, List.length_append, List.length_cons, List.length_nil] at ih ⊢; omega
theorem flatR_one (l : List (Int × Int)) : one' (flatR l) := fun u hu => by
  obtain ⟨r, _, h⟩ := List.mem_flatMap.1 hu
  simp at h
  rcases h with rfl | rfl <;> rfl
theorem RdR.nil (w : World) : RdR w (.slice none 0 0) [] := ⟨rfl, none, 0, rfl, fun h => absurd rfl h⟩
theorem RdR.own {bs : List (World × List Nat)} {H : List (Nat × Obj)} {w : World} {b : Nat} {xs : List (Int × Int)} {e : TypeId} {f : Nat × Nat} {cap : Nat} {junk : List Value} (hw : HG bs H w) (hm : HM b (.cells (flatR xs ++ junk).toArray e f) H) : RdR w (.slice (some ⟨b, 0, none⟩) xs.length cap) xs := by
  refine ⟨flatR_len xs, _, _, rfl, fun _ => ⟨b, 0, rfl, ?_⟩⟩
  have := CA_pre (flatR xs) junk e f
  rw [flatR_len] at this
  exact this.cells (hw.heap _ hm.mem)
theorem RdR.own0 {bs : List (World × List Nat)} {H : List (Nat × Obj)} {w : World} {b : Nat} {xs : List (Int × Int)} {e : TypeId} {f : Nat × Nat} {cap : Nat} (hw : HG bs H w) (hm : HM b (.cells (flatR xs).toArray e f) H) : RdR w (.slice (some ⟨b, 0, none⟩) xs.length cap) xs :=
  RdR.own (junk := []) hw (by rw [List.append_nil]; exact hm)
def outOkR : Nat × Option (Nat × Nat × List Value) → Prop
  | (n, none) => n = 0
  | (n, some (_, cap, junk)) => n ≤ cap ∧ junk.length = (cap - n) * 2
theorem take_succ' {l : List (Int × Int)} {n : Nat} (h : n < l.length) : l.take (n + 1) = l.take n ++ [l.getD n (0, 0)] := by
  rw [List.take_add_one, List.getElem?_eq_getElem h, List.getD_eq_getElem?_getD, List.getElem?_eq_getElem h]; rfl
theorem readings_c (l : List (Int × Int)) (hl : l.length ≤ 1000) (lv : Value) (w : World) (hR : RdR w lv l) :
    CnX Try.prog 10 #[lv] w [] (slV l.length) (fun x w' => RdR w' (slV l.length x) l) := by
  obtain ⟨ad, cp, b0, o, rfl, had, hcell⟩ := hR.open
  refine cnx0 (vs := [_]) Try.func10 rfl rfl ?_
  all_goals refine tc_seq fun K1 hK1 => ?_
  all_goals refine tc_region ?_
  all_goals refine tl_q (y_assign rfl) rfl ?_
  all_goals refine tl_nil ?_
  all_goals (refine hK1 ?_; try (clear hK1; clear K1))
  all_goals refine tc_seq fun K2 hK2 => ?_
  all_goals refine tc_region ?_
  all_goals refine tl_q (y_assign rfl) rfl ?_
  all_goals refine tl_nil ?_
  all_goals (refine hK2 ?_; try (clear hK2; clear K2))
  all_goals refine tc_seq fun K3 hK3 => ?_
  all_goals refine tc_seq fun K4 hK4 => ?_
  all_goals refine tc_region ?_
  all_goals refine tl_q (y_assign rfl) rfl ?_
  all_goals refine tl_nil ?_
  all_goals (refine hK4 ?_; try (clear hK4; clear K4))
  all_goals refine tc_block ?_
  all_goals (
   refine tc_loop (fun p : Nat × Option (Nat × Nat × List Value) => p.1 ≤ l.length ∧ outOkR (p.1, p.2)) (fun p => [(0, .slice ad l.length cp), (3, outV' (p.1, p.2)), (4, vi p.1)]) (fun _ => [(w, [])]) (fun p => match p.2 with | none => [] | some (b0, cap, junk) => [(b0, .cells (flatR (l.take p.1) ++ junk).toArray 62 (0, 0))]) (fun p => l.length - p.1) ?_ ?_
   · exact tk_start (0, none) ⟨Nat.zero_le _, rfl⟩ (.cons rfl (.cons rfl (.cons rfl .nil))) (fun _ h => h)
   · rintro ⟨n, oo⟩ ⟨hn, hok⟩
     rcases oo with _ | ⟨bo, cap, junk⟩
     all_goals (dsimp only [outOkR] at hn hok ⊢; dsimp only [outV'])
     all_goals refine tc_seq fun K5 hK5 => ?_
     all_goals refine tc_seq fun K6 hK6 => ?_
     all_goals refine tc_region ?_
     all_goals refine tl_q (y_move rfl) rfl ?_
     all_goals refine tl_q (y_move rfl) rfl ?_
     all_goals refine tl_q (y_len rfl) rfl ?_
     all_goals refine tl_q (y_lss rfl rfl) rfl ?_
     all_goals refine tl_nil ?_
     all_goals (refine hK6 ?_; try (clear hK6; clear K6))
     all_goals (
      refine tc_cond rfl (fun hc => ?_) (fun hc => ?_)
      · try simp only [decide_eq_true_eq, decide_eq_false_iff_not, Int.not_lt, Int.not_le, Bool.not_eq_true', Bool.not_eq_false', Decidable.not_not, not_true_eq_false] at hc
        all_goals first | (exfalso; with_reducible exact bft hc) | (exfalso; with_reducible exact btf hc) | (exfalso; omega) | skip
        all_goals refine tc_skip ?_
        all_goals (refine hK5 ?_; try (clear hK5; clear K5))
        all_goals refine tc_seq fun K7 hK7 => ?_
        all_goals refine tc_block ?_
        all_goals (have had' := had (by omega); have hlen : (flatR (l.take n)).length = n * 2 := by rw [flatR_len, List.length_take]; omega)
        all_goals (have hca : ∀ (bs : List (World × List Nat)) (H : List (Nat × Obj)), (w, []) ∈ bs → ∀ w', HG bs H w' → w'.cell? ⟨b0, o + n * 2, none⟩ = some (vi (l.getD n (0, 0)).1) ∧ w'.cell? ⟨b0, o + n * 2 + 1, none⟩ = some (vi (l.getD n (0, 0)).2) := fun bs H hb w' hw' => ⟨(hcell w' [] (hw'.base _ hb) (by simp) n (by omega)).get 0 _ rfl, (hcell w' [] (hw'.base _ hb) (by simp) n (by omega)).get 1 _ rfl⟩)
        all_goals refine tc_drawS ([]) (by kernel_rfl) ?_
        all_goals refine tx_p 0 rfl (by kernel_rfl) (y_move rfl) rfl (fun _ _ _ h => h) (fun _ h => h.subl (SB.s (by repeat constructor)) (SB.s (by repeat constructor))) ?_
        all_goals refine tx_p 1 rfl (by kernel_rfl) (y_move rfl) rfl (fun _ _ _ h => h) (fun _ h => h.subl (SB.s (by repeat constructor)) (SB.s (by repeat constructor))) ?_
        all_goals refine tx_p 2 rfl (by kernel_rfl) (y_move rfl) rfl (fun _ _ _ h => h) (fun _ h => h.subl (SB.s (by repeat constructor)) (SB.s (by repeat constructor))) ?_
        all_goals (refine tx_p 3 rfl (by kernel_rfl) (y_index rfl rfl (by omega) had') rfl (fun _ _ _ h => h) (fun _ h => h.subl (SB.s (by repeat constructor)) (SB.s (by repeat constructor))) ?_)
        all_goals refine tx_p 4 rfl (by kernel_rfl) (y_field rfl) rfl (fun _ _ _ h => h) (fun _ h => h.subl (SB.s (by repeat constructor)) (SB.s (by repeat constructor))) ?_
        all_goals (refine tx_qS 5 rfl (by kernel_rfl) (y_load1o (v := vi (l.getD n (0, 0)).1) rfl (fun w' hw' => by rw [show o + Int.toNat (n : Int) * 2 + 0 = o + n * 2 from by omega]; exact (hca _ _ (MI.m (by repeat constructor)) w' hw').1)) rfl (fun _ _ _ h => h) (fun _ h => h.subl (SB.s (by repeat constructor)) (SB.s (by repeat constructor))) ?_)
        all_goals refine tx_p 6 rfl (by kernel_rfl) (y_move rfl) rfl (fun _ _ _ h => h) (fun _ h => h.subl (SB.s (by repeat constructor)) (SB.s (by repeat constructor))) ?_
        all_goals refine tx_p 7 rfl (by kernel_rfl) (y_move rfl) rfl (fun _ _ _ h => h) (fun _ h => h.subl (SB.s (by repeat constructor)) (SB.s (by repeat constructor))) ?_
        all_goals (refine tx_p 8 rfl (by kernel_rfl) (y_index rfl rfl (by omega) had') rfl (fun _ _ _ h => h) (fun _ h => h.subl (SB.s (by repeat constructor)) (SB.s (by repeat constructor))) ?_)
        all_goals refine tx_p 9 rfl (by kernel_rfl) (y_field rfl) rfl (fun _ _ _ h => h) (fun _ h => h.subl (SB.s (by repeat constructor)) (SB.s (by repeat constructor))) ?_
        all_goals (refine tx_qS 10 rfl (by kernel_rfl) (y_load1o (v := vi (l.getD n (0, 0)).2) rfl (fun w' hw' => by rw [show o + Int.toNat (n : Int) * 2 + 1 = o + n * 2 + 1 from by omega]; exact (hca _ _ (MI.m (by repeat constructor)) w' hw').2)) rfl (fun _ _ _ h => h) (fun _ h => h.subl (SB.s (by repeat constructor)) (SB.s (by repeat constructor))) ?_)
        all_goals refine tx_p 11 rfl (by kernel_rfl) (y_build_2 rfl rfl rfl rfl) rfl (fun _ _ _ h => h) (fun _ h => h.subl (SB.s (by repeat constructor)) (SB.s (by repeat constructor))) ?_
        all_goals refine tx_single 12 (by kernel_rfl) (to_e rfl rfl (e_bslice rfl (by (repeat (first | exact .nil | apply PV.two rfl)); done) rfl rfl) (.inr ⟨fun _ _ h => h.subl (SB.s (by repeat constructor)) (SB.s (by repeat constructor)), fun _ h => h⟩) (fun _ _ => ?_))
        all_goals (first | refine tx_single 13 (by kernel_rfl) (to_e rfl rfl (e_append_own (old := flatR (l.take n)) (junk := junk) rfl rfl rfl (by repeat constructor) (by rw [hlen]) (by omega) hok.1 (fun w' hw' => RdR.own0 (xs := [l.getD n (0, 0)]) hw' (by repeat constructor)) (flatR_one _) (by simp only [List.length_cons, List.length_nil]; omega) rfl) (.inr ⟨fun _ _ h => h.subl (SB.s (by repeat constructor)) (SB.s (by repeat constructor)), fun _ h => h⟩) (fun y hy => ?_)) | refine tx_single 13 (by kernel_rfl) (to_e rfl rfl (e_append_nil rfl rfl rfl (fun w' hw' => RdR.own0 (xs := [l.getD n (0, 0)]) hw' (by repeat constructor)) (flatR_one _) Nat.zero_lt_one (Nat.le_of_ble_eq_true rfl) rfl) (.inr ⟨fun _ _ h => h.subl (SB.s (by repeat constructor)) (SB.s (by repeat constructor)), fun _ h => h⟩) (fun y hy => ?_)))
        all_goals refine tx_p 14 rfl (by kernel_rfl) (y_assign rfl) rfl (fun _ _ _ h => h) (fun _ h => h.subl (SB.s (by repeat constructor)) (SB.s (by repeat constructor))) ?_
        all_goals refine tx_done (by kernel_rfl) ?_
        all_goals (refine hK7 ?_; try (clear hK7; clear K7))
        all_goals refine tc_region ?_
        all_goals refine tl_q (y_move rfl) rfl ?_
        all_goals refine tl_q (y_add rfl rfl (by omega)) rfl ?_
        all_goals refine tl_q (y_assign rfl) rfl ?_
        all_goals refine tl_nil ?_
        all_goals (
         have hs : flatR (l.take (n + 1)) = flatR (l.take n) ++ flatR [l.getD n (0, 0)] := by rw [take_succ' (by omega), flatR_append]
         refine tk_round (n + 1, some (y.1, y.2.1, y.2.2)) ⟨by omega, ?_⟩ (by omega) (.cons rfl (.cons ?_ (.cons rfl .nil))) (fun _ h => ?_)
         · dsimp only [outOkR]; simp only [List.length_cons, List.length_nil] at hy ⊢; omega
         · dsimp only [outV']; first | rfl | (rw [hok]; rfl)
         · dsimp only; rw [hs]
           first
           | (rw [show l.take n = [] from by rw [hok]; rfl, show flatR [] = [] from rfl, List.nil_append]; exact h.sub (fun _ h => h) (SB.s (by repeat constructor)))
           | exact h.sub (fun _ h => h) (SB.s (by repeat constructor)))
      · try simp only [decide_eq_true_eq, decide_eq_false_iff_not, Int.not_lt, Int.not_le, Bool.not_eq_true', Bool.not_eq_false', Decidable.not_not, not_true_eq_false] at hc
        all_goals first | (exfalso; with_reducible exact bft hc) | (exfalso; with_reducible exact btf hc) | (exfalso; omega) | skip
        all_goals refine tc_exit ?_
        all_goals (refine hK3 ?_; try (clear hK3; clear K3))
        all_goals refine tc_seq fun K8 hK8 => ?_
        all_goals refine tc_region ?_
        all_goals refine tl_q (y_move rfl) rfl ?_
        all_goals refine tl_q (y_assign rfl) rfl ?_
        all_goals refine tl_nil ?_
        all_goals (refine hK8 ?_; try (clear hK8; clear K8))
        all_goals refine tc_ret ?_
        all_goals (repeat (first | refine tk_then_ret ?_))
        all_goals first | refine tk_ret rfl rfl (.cons (.tmp rfl) .nil) ?_ | refine tk_retM rfl (by repeat constructor) rfl (.cons (.tmp rfl) .nil) ?_
        all_goals (
         have hnn : n = l.length := by omega
         subst hnn
         first
         | exact fun w' hw' => ⟨(none, 0), by unfold slV; rw [hok]; rfl, hw'.fr (by simp), by unfold slV; rw [hok, List.eq_nil_of_length_eq_zero hok]; exact RdR.nil _⟩
         | exact fun w' hw' => ⟨(some ⟨bo, 0, none⟩, cap), rfl, hw'.fr (by simp), RdR.own (xs := l) (cap := cap) (junk := junk) (b := bo) hw' (by rw [List.take_length]; exact .head)⟩)))
end Go.Sp
