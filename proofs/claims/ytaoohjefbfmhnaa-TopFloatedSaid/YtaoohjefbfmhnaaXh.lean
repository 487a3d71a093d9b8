/-
  Package trial: all that can be shown, and whether a test is right.
-/
import Derived.Test.YtaoohjefbfmhnaaXg
import Derived.Test.YtaoohjefbfmhnaaO
set_option linter.unusedVariables false
set_option linter.unusedSimpArgs false
set_option linter.deprecated false
namespace Go.Sp
open Go Go.Proofs
/-- A call that turns a block that is known, and returns something of which more is known. -/
theorem e_callUX {P : Program} {N : NN} {F : List (Nat × Value)} {bs : List (World × List Nat)} {H : List (Nat × Obj)} {d : Tmp} {ty : TypeId} {pos : String} {after : Array Edge} {g : Option (Nat × Bool)} {f : FuncId} [GoFn P f] {xs : List Operand} {tys : Array TypeId} {vs : List Value} {α : Type} {val : α → Value} {p : α → World → Prop} {b : Nat} {o : Obj} {ob : α → Obj} {H' : α → List (Nat × Obj)}
    (hd : Nat.blt d N.n = true) (hxs : EA F xs vs) (hc : ∀ w, HG bs H w → CnX P f vs.toArray w [b] val (fun x w' => p x w' ∧ w'.heap[b]? = some (ob x))) (hu : ∀ x, HU b o (ob x) H (H' x)) :
    OpE P ⟨some d, .call ⟨.value (.func f), xs.toArray, tys⟩, ty, pos, after, g⟩ N F bs H (fun y : α × World => p y.1 y.2 ∧ HG bs (H' y.1) y.2) (fun y => (d, val y.1) :: F) (fun y => (y.2, (H' y.1).map Prod.fst) :: bs) (fun y => H' y.1) := by
  unfold OpE
  intro a w ht hw K Q hK
  unfold Oper.wp
  rw [exec_call (x := .func f) rfl hxs ht w]
  simp only [Oper.upon]
  simp only [Array.empty_append, Array.append_empty]
  have hcc := hc w hw
  unfold CnX at hcc
  refine hcc.mono fun e w' he => ?_
  obtain ⟨x, rfl, hf, hp, h1⟩ := he
  have hg := hw.callU hf h1 (hu x)
  exact hK (x, w') _ _ ⟨hp, hg⟩ (ht.put hd _) hg.push
def shownN (t : Tr) (e : Int × Int × Int) (k d : Int) (n : Nat) : List Int := ((List.range n).filter fun (x : Nat) => canF t e k d x).map fun (x : Nat) => (x : Int)
theorem shownN_succ (t : Tr) (e : Int × Int × Int) (k d : Int) (n : Nat) : shownN t e k d (n + 1) = if canF t e k d n = true then shownN t e k d n ++ [(n : Int)] else shownN t e k d n := by
  unfold shownN
  rw [List.range_succ, List.filter_append, List.map_append]
  cases h : canF t e k d n <;> simp [h]
theorem shownN_len (t : Tr) (e : Int × Int × Int) (k d : Int) (n : Nat) : (shownN t e k d n).length ≤ n := by
  unfold shownN
  rw [List.length_map]
  exact Nat.le_trans (List.length_filter_le _ _) (by simp)
def shownL (t : Tr) (e : Int × Int × Int) (k d : Int) : List Int := if (shownN t e k d (t.s.divisions + 1).toNat).length = 0 then [-1] else shownN t e k d (t.s.divisions + 1).toNat
theorem shownL_pos (t : Tr) (e : Int × Int × Int) (k d : Int) : 0 < (shownL t e k d).length := by
  unfold shownL
  split
  · simp
  · omega
theorem shown_c (t : Tr) (hv : VT t) (e : Int × Int × Int) (he : ErB e) (k d : Int) (sl pl ll tl : Value) (w : World) (bw bm : Nat) (es : Array MapEntry) (ck : Nat) (hT : TW w t sl pl ll tl bw bm es ck) :
    CnX Try.prog 68 #[ptr bw, tsV e, .agg #[vi k, vi d]] w [bm] (fun y : (Option Addr × Nat) × Array MapEntry × Nat => slV (shownL t e k d).length y.1) (fun y w' => (RdI w' (slV (shownL t e k d).length y.1) (shownL t e k d) ∧ Cache (readV t.s) y.2.1.toList) ∧ w'.heap[bm]? = some (.map y.2.1 y.2.2)) := by
  have hne := hT.ne
  have hd1 := hv.s.d1
  have hd2 := hv.s.d2
  refine cnxS (vs := [_, _, _]) (S := [bw, bm]) [(bw, wkT t sl pl ll tl bm), (bm, .map es ck)] Try.func68 rfl rfl ⟨by simp [hT.hw, hT.hm], by simp [hne], by simp⟩ ?_
  all_goals refine tc_seq fun K1 hK1 => ?_
  all_goals refine tc_region ?_
  all_goals refine tl_e (e_box rfl rfl rfl) rfl (fun b4 _ => ?_)
  all_goals refine tl_e (e_box rfl rfl rfl) rfl (fun b5 _ => ?_)
  all_goals refine tl_q (y_assign rfl) rfl ?_
  all_goals refine tl_nil ?_
  all_goals (refine hK1 ?_; try (clear hK1; clear K1))
  all_goals refine tc_seq fun K2 hK2 => ?_
  all_goals refine tc_seq fun K3 hK3 => ?_
  all_goals refine tc_region ?_
  all_goals refine tl_q (y_move rfl) rfl ?_
  all_goals refine tl_q (y_nil rfl) rfl ?_
  all_goals refine tl_q (y_field rfl) rfl ?_
  all_goals refine tl_q (y_field rfl) rfl ?_
  all_goals refine tl_q (y_field rfl) rfl ?_
  all_goals refine tl_q (y_load1 rfl (by repeat constructor) (by rfl)) rfl ?_
  all_goals refine tl_q (y_add rfl rfl (by omega)) rfl ?_
  all_goals refine tl_q (y_move rfl) rfl ?_
  all_goals refine tl_nil ?_
  all_goals (refine hK3 ?_; try (clear hK3; clear K3))
  all_goals refine tc_block ?_
  all_goals (
   refine tc_loop (fun p : Nat × Option (Nat × Nat × List Value) × Array MapEntry × Nat => p.1 ≤ (t.s.divisions + 1).toNat ∧ outOk ((shownN t e k d p.1).length, p.2.1) ∧ Cache (readV t.s) p.2.2.1.toList ∧ (p.2.1.isSome = true → 0 < (shownN t e k d p.1).length)) (fun p => [(0, ptr bw), (4, ptr b4), (5, ptr b5), (6, outV' ((shownN t e k d p.1).length, p.2.1)), (14, vi (t.s.divisions + 1)), (15, vi p.1)]) (fun _ => [(w, [bw, bm])]) (fun p => match p.2.1 with | none => [(b5, .cells #[vi k, vi d] 120 (0, 0)), (b4, .cells (tsV e).cells 75 (0, 0)), (bw, wkT t sl pl ll tl bm), (bm, .map p.2.2.1 p.2.2.2)] | some (b0, cap, junk) => [(b0, .cells ((shownN t e k d p.1).map vi ++ junk).toArray 3 (0, 0)), (b5, .cells #[vi k, vi d] 120 (0, 0)), (b4, .cells (tsV e).cells 75 (0, 0)), (bw, wkT t sl pl ll tl bm), (bm, .map p.2.2.1 p.2.2.2)]) (fun p => (t.s.divisions + 1).toNat - p.1) ?_ ?_
   · exact tk_start (0, none, es, ck) ⟨Nat.zero_le _, rfl, hT.hc, fun h => Bool.noConfusion h⟩ (.cons rfl (.cons rfl (.cons rfl (.cons rfl (.cons rfl (.cons rfl .nil)))))) (fun _ h => h.subl (SB.s (by repeat constructor)) (SB.s (by repeat constructor)))
   · rintro ⟨n, oo, es', ck'⟩ ⟨hn, hok, hca, hps⟩
     have hlen := shownN_len t e k d n
     rcases oo with _ | ⟨b0, cap, junk⟩
     all_goals (dsimp only [outOk] at hn hok hca hps ⊢; dsimp only [outV'])
     all_goals refine tc_seq fun K4 hK4 => ?_
     all_goals refine tc_region ?_
     all_goals refine tl_q (y_lss rfl rfl) rfl ?_
     all_goals refine tl_nil ?_
     all_goals (refine hK4 ?_; try (clear hK4; clear K4))
     all_goals refine tc_seq fun K5 hK5 => ?_
     all_goals (
      refine tc_cond rfl (fun hc => ?_) (fun hc => ?_)
      · try simp only [decide_eq_true_eq, decide_eq_false_iff_not, Int.not_lt, Int.not_le, Bool.not_eq_true', Bool.not_eq_false', Decidable.not_not, not_true_eq_false] at hc
        all_goals first | (exfalso; with_reducible exact bft hc) | (exfalso; with_reducible exact btf hc) | (exfalso; omega) | (exfalso; simp at hc; done) | skip
        all_goals refine tc_skip ?_
        all_goals (refine hK5 ?_; try (clear hK5; clear K5))
        all_goals refine tc_seq fun K6 hK6 => ?_
        all_goals refine tc_block ?_
        all_goals refine tc_seq fun K7 hK7 => ?_
        all_goals refine tc_region ?_
        all_goals refine tl_q (y_move rfl) rfl ?_
        all_goals refine tl_q (y_assign rfl) rfl ?_
        all_goals refine tl_nil ?_
        all_goals (refine hK7 ?_; try (clear hK7; clear K7))
        all_goals refine tc_seq fun K8 hK8 => ?_
        all_goals refine tc_region ?_
        all_goals refine tl_q (y_move rfl) rfl ?_
        all_goals (refine tl_q (y_loadW rfl (by repeat constructor) (by rfl)) rfl ?_)
        all_goals (refine tl_q (y_loadW rfl (by repeat constructor) (by rfl)) rfl ?_)
        all_goals refine tl_q (y_move rfl) rfl ?_
        all_goals refine tl_e (e_callU rfl (.cons rfl (.cons rfl (.cons rfl (.cons rfl .nil)))) (fun w' hw' => can_c t hv e he k d (n : Nat) (by omega) (by omega) sl pl ll tl w' bw bm es' ck' (hT.fr2 (hw'.fr (MI.m (by repeat constructor))) (hw'.heap _ (HM.mem (by repeat constructor))) (hw'.heap _ (HM.mem (b := bm) (by repeat constructor))) hca)) (fun _ => (by repeat constructor))) rfl (fun z hz => ?_)
        all_goals refine tl_nil ?_
        all_goals (refine hK8 ?_; try (clear hK8; clear K8))
        all_goals (
         refine tc_cond rfl (fun hc => ?_) (fun hc => ?_)
         · try simp only [decide_eq_true_eq, decide_eq_false_iff_not, Int.not_lt, Int.not_le, Bool.not_eq_true', Bool.not_eq_false', Decidable.not_not, not_true_eq_false] at hc
           all_goals first | (exfalso; with_reducible exact bft hc) | (exfalso; with_reducible exact btf hc) | (exfalso; omega) | (exfalso; simp at hc; done) | skip
           all_goals refine tc_region ?_
           all_goals refine tl_q (y_move rfl) rfl ?_
           all_goals refine tl_q (y_move rfl) rfl ?_
           all_goals refine tl_e (e_bslice rfl (by (repeat (first | exact .nil | apply PV.one rfl rfl)); done) rfl rfl) rfl (fun _ _ => ?_)
           all_goals (first | refine tl_e (e_append_own (old := (shownN t e k d n).map vi) (junk := junk) rfl rfl rfl (by repeat constructor) (by simp) (by omega) hok.1 (fun w' hw' => RdI.own0 (xs := [(n : Int)]) hw' (by repeat constructor)) (fun u hu => by obtain ⟨_, _, rfl⟩ := List.mem_map.1 hu; rfl) (by simp only [List.length_cons, List.length_nil]; omega) rfl) rfl (fun y hy => ?_) | refine tl_e (e_append_nil rfl rfl rfl (fun w' hw' => RdI.own0 (xs := [(n : Int)]) hw' (by repeat constructor)) (fun u hu => by obtain ⟨_, _, rfl⟩ := List.mem_map.1 hu; rfl) Nat.zero_lt_one (Nat.le_of_ble_eq_true rfl) rfl) rfl (fun y hy => ?_))
           all_goals refine tl_q (y_assign rfl) rfl ?_
           all_goals refine tl_nil ?_
           all_goals (refine hK6 ?_; try (clear hK6; clear K6))
           all_goals refine tc_region ?_
           all_goals refine tl_q (y_add rfl rfl (by omega)) rfl ?_
           all_goals refine tl_q (y_move rfl) rfl ?_
           all_goals refine tl_nil ?_
           all_goals (
            first
            | (have hs2 : shownN t e k d (n + 1) = shownN t e k d n ++ [(n : Int)] := by rw [shownN_succ, if_pos hc]
               refine tk_round (n + 1, some (y.1, y.2.1, y.2.2), z.1, z.2) ⟨by omega, ?_, hz, fun _ => by rw [hs2, List.length_append]; simp only [List.length_cons, List.length_nil]; omega⟩ (by omega) (.cons rfl (.cons rfl (.cons rfl (.cons ?_ (.cons rfl (.cons rfl .nil)))))) (fun _ h => ?_)
               · dsimp only [outOk]; rw [hs2, List.length_append]; simp only [List.length_cons, List.length_nil] at hy ⊢; omega
               · dsimp only [outV']; rw [hs2, List.length_append]; first | rfl | (rw [hok]; rfl)
               · dsimp only; rw [hs2, List.map_append]
                 try rw [show shownN t e k d n = [] from List.eq_nil_of_length_eq_zero hok, List.map_nil, List.nil_append]
                 exact h.subl (SB.s (by repeat constructor)) (SB.s (by repeat constructor)))
            | (have hs2 : shownN t e k d (n + 1) = shownN t e k d n := by rw [shownN_succ, if_neg (by rw [hc]; exact Bool.false_ne_true)]
               first
               | (refine tk_round (n + 1, none, z.1, z.2) ⟨by omega, by dsimp only [outOk]; rw [hs2]; exact hok, hz, by rw [hs2]; exact hps⟩ (by omega) (.cons rfl (.cons rfl (.cons rfl (.cons rfl (.cons rfl (.cons rfl .nil)))))) (fun _ h => h.subl (SB.s (by repeat constructor)) (SB.s (by repeat constructor))))
               | (refine tk_round (n + 1, some (b0, cap, junk), z.1, z.2) ⟨by omega, by dsimp only [outOk]; rw [hs2]; exact hok, hz, by rw [hs2]; exact hps⟩ (by omega) (.cons rfl (.cons rfl (.cons rfl (.cons ?_ (.cons rfl (.cons rfl .nil)))))) (fun _ h => ?_)
                  · dsimp only [outV']; rw [hs2]; rfl
                  · dsimp only; rw [hs2]; exact h.subl (SB.s (by repeat constructor)) (SB.s (by repeat constructor)))))
         · try simp only [decide_eq_true_eq, decide_eq_false_iff_not, Int.not_lt, Int.not_le, Bool.not_eq_true', Bool.not_eq_false', Decidable.not_not, not_true_eq_false] at hc
           all_goals first | (exfalso; with_reducible exact bft hc) | (exfalso; with_reducible exact btf hc) | (exfalso; omega) | (exfalso; simp at hc; done) | skip
           all_goals refine tc_skip ?_
           all_goals (refine hK6 ?_; try (clear hK6; clear K6))
           all_goals refine tc_region ?_
           all_goals refine tl_q (y_add rfl rfl (by omega)) rfl ?_
           all_goals refine tl_q (y_move rfl) rfl ?_
           all_goals refine tl_nil ?_
           all_goals (
            first
            | (have hs2 : shownN t e k d (n + 1) = shownN t e k d n ++ [(n : Int)] := by rw [shownN_succ, if_pos hc]
               refine tk_round (n + 1, some (y.1, y.2.1, y.2.2), z.1, z.2) ⟨by omega, ?_, hz, fun _ => by rw [hs2, List.length_append]; simp only [List.length_cons, List.length_nil]; omega⟩ (by omega) (.cons rfl (.cons rfl (.cons rfl (.cons ?_ (.cons rfl (.cons rfl .nil)))))) (fun _ h => ?_)
               · dsimp only [outOk]; rw [hs2, List.length_append]; simp only [List.length_cons, List.length_nil] at hy ⊢; omega
               · dsimp only [outV']; rw [hs2, List.length_append]; first | rfl | (rw [hok]; rfl)
               · dsimp only; rw [hs2, List.map_append]
                 try rw [show shownN t e k d n = [] from List.eq_nil_of_length_eq_zero hok, List.map_nil, List.nil_append]
                 exact h.subl (SB.s (by repeat constructor)) (SB.s (by repeat constructor)))
            | (have hs2 : shownN t e k d (n + 1) = shownN t e k d n := by rw [shownN_succ, if_neg (by rw [hc]; exact Bool.false_ne_true)]
               first
               | (refine tk_round (n + 1, none, z.1, z.2) ⟨by omega, by dsimp only [outOk]; rw [hs2]; exact hok, hz, by rw [hs2]; exact hps⟩ (by omega) (.cons rfl (.cons rfl (.cons rfl (.cons rfl (.cons rfl (.cons rfl .nil)))))) (fun _ h => h.subl (SB.s (by repeat constructor)) (SB.s (by repeat constructor))))
               | (refine tk_round (n + 1, some (b0, cap, junk), z.1, z.2) ⟨by omega, by dsimp only [outOk]; rw [hs2]; exact hok, hz, by rw [hs2]; exact hps⟩ (by omega) (.cons rfl (.cons rfl (.cons rfl (.cons ?_ (.cons rfl (.cons rfl .nil)))))) (fun _ h => ?_)
                  · dsimp only [outV']; rw [hs2]; rfl
                  · dsimp only; rw [hs2]; exact h.subl (SB.s (by repeat constructor)) (SB.s (by repeat constructor))))))
      · try simp only [decide_eq_true_eq, decide_eq_false_iff_not, Int.not_lt, Int.not_le, Bool.not_eq_true', Bool.not_eq_false', Decidable.not_not, not_true_eq_false] at hc
        all_goals first | (exfalso; with_reducible exact bft hc) | (exfalso; with_reducible exact btf hc) | (exfalso; omega) | (exfalso; simp at hc; done) | skip
        all_goals refine tc_exit ?_
        all_goals (refine hK2 ?_; try (clear hK2; clear K2))
        all_goals refine tc_seq fun K9 hK9 => ?_
        all_goals refine tc_seq fun K10 hK10 => ?_
        all_goals (have hnn : n = (t.s.divisions + 1).toNat := by omega)
        all_goals subst hnn
        all_goals refine tc_region ?_
        all_goals refine tl_q (y_move rfl) rfl ?_
        all_goals refine tl_q (y_eql_nil rfl rfl) rfl ?_
        all_goals refine tl_nil ?_
        all_goals (refine hK10 ?_; try (clear hK10; clear K10))
        all_goals (
         refine tc_cond rfl (fun hc => ?_) (fun hc => ?_)
         · try simp only [decide_eq_true_eq, decide_eq_false_iff_not, Int.not_lt, Int.not_le, Bool.not_eq_true', Bool.not_eq_false', Decidable.not_not, not_true_eq_false] at hc
           all_goals first | (exfalso; with_reducible exact bft hc) | (exfalso; with_reducible exact btf hc) | (exfalso; omega) | (exfalso; simp at hc; done) | skip
           all_goals refine tc_seq fun K11 hK11 => ?_
           all_goals refine tc_region ?_
           all_goals refine tl_e (e_bslice rfl (by (repeat (first | exact .nil | apply PV.one rfl rfl)); done) rfl rfl) rfl (fun b30 _ => ?_)
           all_goals refine tl_q (y_assign rfl) rfl ?_
           all_goals refine tl_nil ?_
           all_goals (refine hK11 ?_; try (clear hK11; clear K11))
           all_goals refine tc_ret ?_
           all_goals (repeat (refine tk_then_ret ?_))
           all_goals first | refine tk_ret rfl rfl (.cons (.tmp rfl) .nil) ?_ | refine tk_retM rfl (by repeat constructor) rfl (.cons (.tmp rfl) .nil) ?_
           all_goals (
            refine fun w' hw' => ?_
            have hb2 : Fr [bm] w w' := Fr.but (hw'.fr (S := [bw, bm]) (by simp)) (by rw [hw'.heap (bw, wkT t sl pl ll tl bm) (HM.mem (by repeat constructor)), hT.hw])
            have hb1 := hw'.heap _ (HM.mem (b := bm) (by repeat constructor))
            first
            | (have hsh : shownL t e k d = [-1] := by unfold shownL; rw [if_pos hok]
               rw [hsh]
               exact ⟨((some ⟨b30, 0, none⟩, 1), es', ck'), rfl, hb2, ⟨RdI.own0 (xs := [-1]) hw' (by repeat constructor), hca⟩, hb1⟩)
            | (have hpos := hps rfl
               have hsh : shownL t e k d = shownN t e k d (t.s.divisions + 1).toNat := by unfold shownL; rw [if_neg (by omega)]
               rw [hsh]
               exact ⟨((some ⟨b0, 0, none⟩, cap), es', ck'), rfl, hb2, ⟨RdI.own (xs := shownN t e k d (t.s.divisions + 1).toNat) (cap := cap) (junk := junk) hw' (by repeat constructor), hca⟩, hb1⟩))
         · try simp only [decide_eq_true_eq, decide_eq_false_iff_not, Int.not_lt, Int.not_le, Bool.not_eq_true', Bool.not_eq_false', Decidable.not_not, not_true_eq_false] at hc
           all_goals first | (exfalso; with_reducible exact bft hc) | (exfalso; with_reducible exact btf hc) | (exfalso; omega) | (exfalso; simp at hc; done) | skip
           all_goals refine tc_skip ?_
           all_goals (refine hK9 ?_; try (clear hK9; clear K9))
           all_goals refine tc_seq fun K12 hK12 => ?_
           all_goals refine tc_region ?_
           all_goals refine tl_q (y_move rfl) rfl ?_
           all_goals refine tl_q (y_assign rfl) rfl ?_
           all_goals refine tl_nil ?_
           all_goals (refine hK12 ?_; try (clear hK12; clear K12))
           all_goals refine tc_ret ?_
           all_goals (repeat (first | refine tk_then_ret ?_))
           all_goals first | refine tk_ret rfl rfl (.cons (.tmp rfl) .nil) ?_ | refine tk_retM rfl (by repeat constructor) rfl (.cons (.tmp rfl) .nil) ?_
           all_goals (
            refine fun w' hw' => ?_
            have hb2 : Fr [bm] w w' := Fr.but (hw'.fr (S := [bw, bm]) (by simp)) (by rw [hw'.heap (bw, wkT t sl pl ll tl bm) (HM.mem (by repeat constructor)), hT.hw])
            have hb1 := hw'.heap _ (HM.mem (b := bm) (by repeat constructor))
            first
            | (have hsh : shownL t e k d = [-1] := by unfold shownL; rw [if_pos hok]
               rw [hsh]
               exact ⟨((some ⟨b30, 0, none⟩, 1), es', ck'), rfl, hb2, ⟨RdI.own0 (xs := [-1]) hw' (by repeat constructor), hca⟩, hb1⟩)
            | (have hpos := hps rfl
               have hsh : shownL t e k d = shownN t e k d (t.s.divisions + 1).toNat := by unfold shownL; rw [if_neg (by omega)]
               rw [hsh]
               exact ⟨((some ⟨b0, 0, none⟩, cap), es', ck'), rfl, hb2, ⟨RdI.own (xs := shownN t e k d (t.s.divisions + 1).toNat) (cap := cap) (junk := junk) hw' (by repeat constructor), hca⟩, hb1⟩)))))
end Go.Sp
