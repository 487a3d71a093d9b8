/-
  Package trial: lists of numbers in order, the shortest first.
-/
import Derived.Test.YtaoohjefbfmhnaaXp
set_option linter.unusedVariables false
set_option linter.unusedSimpArgs false
set_option linter.deprecated false
namespace Go.Sp
open Go Go.Proofs
abbrev taddV (bf bp bb ba : Nat) : Value := .func (.func 52) #[] #[ptr bf, ptr bp, ptr bb, ptr ba]
theorem tadd_c (g : FuncId) [GoFn Try.prog g] (cap : Array Value) (p : List Int → Bool) (below : Int) (hbl : 0 ≤ below) (hbl2 : below ≤ 20) (bf bm bp bb ba : Nat) (hnd : [bf, bm, bp, bb, ba].Nodup) (J : Obj → Prop) :
    ∀ (m : Nat) (mi : Int) (l : List Int) (fr : Int) (sl vf : Value) (om : Obj) (w : World), mi = m → l.length + m ≤ 20 → 0 ≤ fr → fr ≤ 30 → vf.oneCell' = true →
    w.heap[bf]? = some (.cells #[vf] 22 (0, 0)) → w.heap[bm]? = some om → J om → w.heap[bp]? = some (.cells #[.func (.func g) #[] cap] 83 (0, 0)) →
    w.heap[bb]? = some (.cells #[vi below] 3 (0, 0)) → w.heap[ba]? = some (.cells #[taddV bf bp bb ba] 104 (0, 0)) →
    SlSt w sl l [bf, bm, bp, bb, ba] → Pass Try.prog g cap p below [bf, bm] bm J w → (∀ x ∈ l, 0 ≤ x ∧ x < below) →
    CnX Try.prog 52 #[sl, vi fr, vi mi, ptr bf, ptr bp, ptr bb, ptr ba] w [bf, bm] (fun _ : Value × Obj => .bool (srch p below m l fr).isSome)
      (fun x w' => (w'.heap[bf]? = some (.cells #[x.1] 22 (0, 0)) ∧ w'.heap[bm]? = some x.2) ∧ J x.2 ∧ x.1.oneCell' = true ∧ ∀ r, srch p below m l fr = some r → RdI w' x.1 r) := by
  intro m
  induction m with
  | zero =>
    intro mi l fr sl vf om w hmi hlen hf0 hf1 hvf h1 h2 hJ h3 h4 h5 hsl hp hle
    have hone : sl.oneCell' = true := by rcases hsl with ⟨_, rfl⟩ | ⟨b, n, c, j, _, rfl, _⟩ <;> rfl
    have hcl : sl.cells = #[sl] := by rcases hsl with ⟨_, rfl⟩ | ⟨b, n, c, j, _, rfl, _⟩ <;> rfl
    have hsep2 : sepS sl [bf, bm] := fun q mm c h => by have := hsl.sep q mm c h; simp at this ⊢; exact ⟨this.1, this.2.1⟩
    refine cnxS (vs := [_, _, _, _, _, _, _]) (S := [ba, bb, bp, bf, bm]) [(bf, .cells #[vf] 22 (0, 0)), (bm, om), (bp, .cells #[.func (.func g) #[] cap] 83 (0, 0)), (bb, .cells #[vi below] 3 (0, 0)), (ba, .cells #[taddV bf bp bb ba] 104 (0, 0))] Try.func52 rfl rfl
      ⟨by simp [h1, h2, h3, h4, h5], by simpa using hnd, by simp⟩ ?_
    have hbut : ∀ w', HG [(w, [ba, bb, bp, bf, bm])] [(bp, .cells #[.func (.func g) #[] cap] 83 (0, 0)), (bb, .cells #[vi below] 3 (0, 0)), (ba, .cells #[taddV bf bp bb ba] 104 (0, 0))] w' → Fr [bf, bm] w w' := fun w' hw' =>
      Fr.but (Fr.but (Fr.but (hw'.fr (S := [ba, bb, bp, bf, bm]) (by simp)) (by rw [hw'.heap (ba, _) (HM.mem (by repeat constructor)), h5])) (by rw [hw'.heap (bb, _) (HM.mem (by repeat constructor)), h4])) (by rw [hw'.heap (bp, _) (HM.mem (by repeat constructor)), h3])
    all_goals refine tc_seq fun K1 hK1 => ?_
    all_goals refine tc_region ?_
    all_goals refine tl_q (y_assign rfl) rfl ?_
    all_goals refine tl_nil ?_
    all_goals (refine hK1 ?_; try (clear hK1; clear K1))
    all_goals refine tc_seq fun K2 hK2 => ?_
    all_goals refine tc_seq fun K3 hK3 => ?_
    all_goals refine tc_region ?_
    all_goals refine tl_q (y_move rfl) rfl ?_
    all_goals refine tl_q (y_eql rfl rfl) rfl ?_
    all_goals refine tl_nil ?_
    all_goals (refine hK3 ?_; try (clear hK3; clear K3))
    all_goals (
     refine tc_cond rfl (fun hc => ?_) (fun hc => ?_)
     · try simp only [decide_eq_true_eq, decide_eq_false_iff_not, Int.not_lt, Int.not_le, Bool.not_eq_true', Bool.not_eq_false', Decidable.not_not, not_true_eq_false] at hc
       all_goals first | (exfalso; with_reducible exact bft hc) | (exfalso; with_reducible exact btf hc) | (exfalso; omega) | skip
       all_goals refine tc_seq fun K4 hK4 => ?_
       all_goals refine tc_region ?_
       all_goals refine tl_q (y_move rfl) rfl ?_
       all_goals (refine tl_e (e_store1 rfl rfl (by repeat constructor) (by repeat constructor) hcl hone) rfl (fun _ _ => ?_))
       all_goals refine tl_nil ?_
       all_goals (refine hK4 ?_; try (clear hK4; clear K4))
       all_goals refine tc_seq fun K5 hK5 => ?_
       all_goals refine tc_region ?_
       all_goals refine tl_q (y_load1 rfl (by repeat constructor) (by rfl)) rfl ?_
       all_goals refine tl_q (y_move rfl) rfl ?_
       all_goals refine tl_e (e_callUf rfl rfl (.cons rfl .nil) (fun w' hw' => hp w' om l sl (hbut w' (hw'.sub (fun _ h => h) (SB.s (by repeat constructor)))) (hw'.heap _ (HM.mem (by repeat constructor))) hJ (hsl.rd.frS (hbut w' (hw'.sub (fun _ h => h) (SB.s (by repeat constructor)))) hsep2) hsep2 hone (by omega) hle) (fun _ => (by repeat constructor))) rfl (fun o' hJ' => ?_)
       all_goals refine tl_q (y_assign rfl) rfl ?_
       all_goals refine tl_nil ?_
       all_goals (refine hK5 ?_; try (clear hK5; clear K5))
       all_goals refine tc_ret ?_
       all_goals (repeat (refine tk_then_ret ?_))
       all_goals first | refine tk_ret rfl rfl (.cons (.tmp rfl) .nil) ?_ | refine tk_retM rfl (by repeat constructor) rfl (.cons (.tmp rfl) .nil) ?_
       all_goals (
        refine fun w' hw' => ⟨(sl, o'), by simp only [outV, srch]; cases p l <;> rfl, hbut w' (hw'.sub (fun _ h => h) (SB.s (by repeat constructor))), ⟨hw'.heap _ (HM.mem (by repeat constructor)), hw'.heap _ (HM.mem (by repeat constructor))⟩, hJ', hone, fun r hr => ?_⟩
        have : l = r := by simp only [srch] at hr; split at hr; exact Option.some.inj hr; cases hr
        subst this
        exact hsl.rd.frS (hbut w' (hw'.sub (fun _ h => h) (SB.s (by repeat constructor)))) hsep2)
     · try simp only [decide_eq_true_eq, decide_eq_false_iff_not, Int.not_lt, Int.not_le, Bool.not_eq_true', Bool.not_eq_false', Decidable.not_not, not_true_eq_false] at hc
       all_goals first | (exfalso; with_reducible exact bft hc) | (exfalso; with_reducible exact btf hc) | (exfalso; omega) | skip
       all_goals refine tc_skip ?_
       all_goals (refine hK2 ?_; try (clear hK2; clear K2))
       all_goals refine tc_seq fun K6 hK6 => ?_
       all_goals refine tc_seq fun K7 hK7 => ?_
       all_goals (exfalso; exact absurd rfl hc)
       all_goals refine tc_region ?_
       all_goals refine tl_q (y_move rfl) rfl ?_
       all_goals refine tl_q (y_assign rfl) rfl ?_
       all_goals refine tl_nil ?_
       all_goals (refine hK7 ?_; try (clear hK7; clear K7))
       all_goals refine tc_block ?_
       all_goals skip)
  | succ m ih =>
    intro mi l fr sl vf om w hmi hlen hf0 hf1 hvf h1 h2 hJ h3 h4 h5 hsl hp hle
    have hone : sl.oneCell' = true := by rcases hsl with ⟨_, rfl⟩ | ⟨b, n, c, j, _, rfl, _⟩ <;> rfl
    have hbut : ∀ w', HG [(w, [ba, bb, bp, bf, bm])] [(bp, .cells #[.func (.func g) #[] cap] 83 (0, 0)), (bb, .cells #[vi below] 3 (0, 0)), (ba, .cells #[taddV bf bp bb ba] 104 (0, 0))] w' → Fr [bf, bm] w w' := fun w' hw' =>
      Fr.but (Fr.but (Fr.but (hw'.fr (S := [ba, bb, bp, bf, bm]) (by simp)) (by rw [hw'.heap (ba, _) (HM.mem (by repeat constructor)), h5])) (by rw [hw'.heap (bb, _) (HM.mem (by repeat constructor)), h4])) (by rw [hw'.heap (bp, _) (HM.mem (by repeat constructor)), h3])
    have hsep2 : sepS sl [bf, bm] := fun q mm c h => by have := hsl.sep q mm c h; simp at this ⊢; exact ⟨this.1, this.2.1⟩
    have hp' : ∀ w', Fr [bf, bm] w w' → Pass Try.prog g cap p below [bf, bm] bm J w' := fun w' f w1 o xs v f1 => hp w1 o xs v (f.trans f1 (fun x hx => .inl hx))
    have hrd : ∀ w', Fr [bf, bm] w w' → RdI w' sl l := fun w' f => hsl.rd.frS f hsep2
    -- the slice that is handed on: of the call's own
    have hst : ∀ (w' : World) (H : List (Nat × Obj)) (b n c : Nat) (x : Int) (junk : List Value), HG [(w, [ba, bb, bp, bf, bm])] ((b, .cells (l.map vi ++ [vi x] ++ junk).toArray 3 (0, 0)) :: H) w' → n = l.length + 1 → (∀ y ∈ [bf, bm, bp, bb, ba], y ∈ H.map Prod.fst) → SlSt w' (.slice (some ⟨b, 0, none⟩) n c) (l ++ [x]) [bf, bm, bp, bb, ba] := fun w' H b n c x junk hw' hn hy =>
      .inr ⟨b, n, c, junk, by simp [hn], rfl, by have := hw'.heap _ (HM.mem (b := b) .head); simpa using this, fun hb => by have hnn := hw'.nodup; simp only [List.map_cons, List.nodup_cons] at hnn; exact hnn.1 (hy b hb)⟩
    have hih : ∀ (w' : World) (H : List (Nat × Obj)) (b n c : Nat) (j : Nat) (junk : List Value) (vf' : Value) (om' : Obj), HG [(w, [ba, bb, bp, bf, bm])] ((b, .cells (l.map vi ++ [vi (fr + (j : Int))] ++ junk).toArray 3 (0, 0)) :: H) w' → n = l.length + 1 → (∀ y ∈ [bf, bm, bp, bb, ba], y ∈ H.map Prod.fst) → vf'.oneCell' = true → J om' → fr + (j : Int) < below →
        HM bf (.cells #[vf'] 22 (0, 0)) H → HM bm om' H → HM bp (.cells #[.func (.func g) #[] cap] 83 (0, 0)) H → HM bb (.cells #[vi below] 3 (0, 0)) H → HM ba (.cells #[taddV bf bp bb ba] 104 (0, 0)) H →
        CnX Try.prog 52 (#[] ++ #[.slice (some ⟨b, 0, none⟩) n c, vi (fr + (j : Int) + 1), vi (mi - 1)] ++ #[ptr bf, ptr bp, ptr bb, ptr ba]) w' [bf, bm] (fun _ : Value × Obj => .bool (srch p below m (l ++ [fr + (j : Int)]) (fr + (j : Int) + 1)).isSome)
          (fun x w2 => (w2.heap[bf]? = some (.cells #[x.1] 22 (0, 0)) ∧ w2.heap[bm]? = some x.2) ∧ J x.2 ∧ x.1.oneCell' = true ∧ ∀ r, srch p below m (l ++ [fr + (j : Int)]) (fr + (j : Int) + 1) = some r → RdI w2 x.1 r) := fun w' H b n c j junk vf' om' hw' hn hy hv hJ' hj2 m1 m2 m3 m4 m5 => by
      rw [show (#[] ++ #[.slice (some ⟨b, 0, none⟩) n c, vi (fr + (j : Int) + 1), vi (mi - 1)] ++ #[ptr bf, ptr bp, ptr bb, ptr ba] : Array Value) = #[.slice (some ⟨b, 0, none⟩) n c, vi (fr + (j : Int) + 1), vi (mi - 1), ptr bf, ptr bp, ptr bb, ptr ba] from by simp]
      exact ih (mi - 1) (l ++ [fr + (j : Int)]) (fr + (j : Int) + 1) _ vf' om' w' (by omega) (by simp; omega) (by omega) (by omega) hv (hw'.heap _ (HM.mem (.tail m1))) (hw'.heap _ (HM.mem (.tail m2))) hJ' (hw'.heap _ (HM.mem (.tail m3))) (hw'.heap _ (HM.mem (.tail m4))) (hw'.heap _ (HM.mem (.tail m5))) (hst w' H b n c _ junk hw' hn hy)
        (hp' w' (hbut w' (hw'.pick _ (fun q hq => by
          rcases (by simpa using hq : q = _ ∨ q = _ ∨ q = _) with rfl | rfl | rfl
          · exact HM.mem (.tail m3)
          · exact HM.mem (.tail m4)
          · exact HM.mem (.tail m5)) (by simp at hnd ⊢; omega)))) (fun x hx => by
          rcases List.mem_append.1 hx with h | h
          · exact hle x h
          · obtain rfl := List.mem_singleton.1 h; omega)
    refine cnxS (vs := [_, _, _, _, _, _, _]) (S := [ba, bb, bp, bf, bm]) [(bf, .cells #[vf] 22 (0, 0)), (bm, om), (bp, .cells #[.func (.func g) #[] cap] 83 (0, 0)), (bb, .cells #[vi below] 3 (0, 0)), (ba, .cells #[taddV bf bp bb ba] 104 (0, 0))] Try.func52 rfl rfl
      ⟨by simp [h1, h2, h3, h4, h5], by simpa using hnd, by simp⟩ ?_
    all_goals refine tc_seq fun K1 hK1 => ?_
    all_goals refine tc_region ?_
    all_goals refine tl_q (y_assign rfl) rfl ?_
    all_goals refine tl_nil ?_
    all_goals (refine hK1 ?_; try (clear hK1; clear K1))
    all_goals refine tc_seq fun K2 hK2 => ?_
    all_goals refine tc_seq fun K3 hK3 => ?_
    all_goals refine tc_region ?_
    all_goals refine tl_q (y_move rfl) rfl ?_
    all_goals refine tl_q (y_eql rfl rfl) rfl ?_
    all_goals refine tl_nil ?_
    all_goals (refine hK3 ?_; try (clear hK3; clear K3))
    all_goals (
     refine tc_cond rfl (fun hc => ?_) (fun hc => ?_)
     · try simp only [decide_eq_true_eq, decide_eq_false_iff_not, Int.not_lt, Int.not_le, Bool.not_eq_true', Bool.not_eq_false', Decidable.not_not, not_true_eq_false] at hc
       all_goals first | (exfalso; with_reducible exact bft hc) | (exfalso; with_reducible exact btf hc) | (exfalso; omega) | skip
       all_goals refine tc_seq fun K4 hK4 => ?_
       all_goals (exfalso; omega)
       all_goals refine tc_region ?_
       all_goals refine tl_q (y_move rfl) rfl ?_
       all_goals refine tl_e (e_store1 rfl rfl (by repeat constructor) (by repeat constructor) (by rfl) (by rfl)) rfl (fun _ _ => ?_)
       all_goals refine tl_nil ?_
       all_goals (refine hK4 ?_; try (clear hK4; clear K4))
       all_goals refine tc_seq fun K5 hK5 => ?_
       all_goals refine tc_region ?_
       all_goals refine tl_q (y_load1 rfl (by repeat constructor) (by rfl)) rfl ?_
       all_goals refine tl_q (y_move rfl) rfl ?_
       all_goals (first | refine tl_e (e_callU2f (val := fun _ => .bool false) (p := fun y : Value × Obj => J y.2 ∧ y.1.oneCell' = true) (ob := fun x : Value × Obj => .cells #[x.1] 22 (0, 0)) (oc := fun x : Value × Obj => x.2) rfl rfl (.cons rfl .nil) (fun w' hw' => CnX.imp (val' := fun _ : Value × Obj => .bool false) (hih w' _ _ _ _ j _ _ _ hw' rfl (by simp) hvf' hJ' (by omega) (by repeat constructor) (by repeat constructor) (by repeat constructor) (by repeat constructor) (by repeat constructor)) id (fun _ => congrArg (fun o : Option (List Int) => Value.bool o.isSome) hsr.symm) (fun _ h => h) (fun x w2 _ hx => ⟨⟨hx.2.1, hx.2.2.1⟩, hx.1⟩)) (fun _ => (by repeat constructor)) (fun _ => (by repeat constructor))) rfl (fun _ _ => ?_))
       all_goals refine tl_q (y_assign rfl) rfl ?_
       all_goals refine tl_nil ?_
       all_goals (refine hK5 ?_; try (clear hK5; clear K5))
       all_goals refine tc_ret ?_
       all_goals (repeat (first | refine tk_then_ret ?_))
       all_goals first | refine tk_ret rfl rfl (.cons (.tmp rfl) .nil) ?_ | refine tk_retM rfl (by repeat constructor) rfl (.cons (.tmp rfl) .nil) ?_
       all_goals (
        first
        | (refine fun w' hw' => ?_
           have f0 : Fr [] y.2.2 w' := hw'.fr (by simp)
           have f1 := hbut y.2.1 (hy.1.sub (fun _ h => h) (SB.s (by repeat constructor)))
           have e1 : srch p below (m + 1) _ fr = some rs := fs_hit (j := j) (by omega) hsr hno
           exact ⟨y.1, by rw [e1]; rfl, (f1.trans hy.2.1 (fun x hx => .inl hx)).trans f0 (by simp), ⟨f0.keep hy.2.2.1.1, f0.keep hy.2.2.1.2⟩, hy.2.2.2.1, hy.2.2.2.2.1, fun r hr => by rw [e1] at hr; cases hr; exact hy.2.2.2.2.2.fr f0⟩)
        | (have e1 : srch p below (m + 1) l fr = none := fs_miss (fun k hk => hno k (by omega))
           exact fun w' hw' => ⟨(vf', om'), by rw [e1]; rfl, hbut w' (hw'.sub (fun _ h => h) (SB.s (by repeat constructor))), ⟨hw'.heap _ (HM.mem (by repeat constructor)), hw'.heap _ (HM.mem (by repeat constructor))⟩, hJ', hvf', fun r hr => by rw [e1] at hr; cases hr⟩))
     · try simp only [decide_eq_true_eq, decide_eq_false_iff_not, Int.not_lt, Int.not_le, Bool.not_eq_true', Bool.not_eq_false', Decidable.not_not, not_true_eq_false] at hc
       all_goals first | (exfalso; with_reducible exact bft hc) | (exfalso; with_reducible exact btf hc) | (exfalso; omega) | skip
       all_goals refine tc_skip ?_
       all_goals (refine hK2 ?_; try (clear hK2; clear K2))
       all_goals refine tc_seq fun K6 hK6 => ?_
       all_goals refine tc_seq fun K7 hK7 => ?_
       all_goals refine tc_region ?_
       all_goals refine tl_q (y_move rfl) rfl ?_
       all_goals refine tl_q (y_assign rfl) rfl ?_
       all_goals refine tl_nil ?_
       all_goals (refine hK7 ?_; try (clear hK7; clear K7))
       all_goals refine tc_block ?_
       all_goals (
        refine tc_loop (fun p' : Nat × Value × Obj => p'.1 ≤ (below - m - fr).toNat ∧ J p'.2.2 ∧ p'.2.1.oneCell' = true ∧ ∀ k : Nat, k < p'.1 → srch p below m (l ++ [fr + (k : Int)]) (fr + (k : Int) + 1) = none) (fun p' => [(0, sl), (2, vi mi), (3, ptr bf), (4, ptr bp), (5, ptr bb), (6, ptr ba), (11, vi (fr + (p'.1 : Int)))]) (fun _ => [(w, [ba, bb, bp, bf, bm])]) (fun p' => [(bf, .cells #[p'.2.1] 22 (0, 0)), (bm, p'.2.2), (bp, .cells #[.func (.func g) #[] cap] 83 (0, 0)), (bb, .cells #[vi below] 3 (0, 0)), (ba, .cells #[taddV bf bp bb ba] 104 (0, 0))]) (fun p' => (below - m - fr).toNat - p'.1) ?_ ?_
        · refine tk_start (0, vf, om) ⟨Nat.zero_le _, hJ, hvf, fun k hk => absurd hk (Nat.not_lt_zero k)⟩ ?_ (fun _ h => h.sub (fun _ h => h) (SB.s (by repeat constructor)))
          dsimp only
          rw [show fr + ((0 : Nat) : Int) = fr from by omega]
          exact .cons rfl (.cons rfl (.cons rfl (.cons rfl (.cons rfl (.cons rfl (.cons rfl .nil))))))
        · rintro ⟨j, vf', om'⟩ ⟨hj, hJ', hvf', hno⟩
          dsimp only at hj hJ' hvf' hno ⊢
          all_goals refine tc_seq fun K8 hK8 => ?_
          all_goals refine tc_seq fun K9 hK9 => ?_
          all_goals refine tc_region ?_
          all_goals refine tl_q (y_move rfl) rfl ?_
          all_goals refine tl_q (y_load1 rfl (by repeat constructor) (by rfl)) rfl ?_
          all_goals refine tl_q (y_move rfl) rfl ?_
          all_goals refine tl_q (y_sub rfl rfl (by omega)) rfl ?_
          all_goals refine tl_q (y_leq rfl rfl) rfl ?_
          all_goals refine tl_nil ?_
          all_goals (refine hK9 ?_; try (clear hK9; clear K9))
          all_goals (
           refine tc_cond rfl (fun hc => ?_) (fun hc => ?_)
           · try simp only [decide_eq_true_eq, decide_eq_false_iff_not, Int.not_lt, Int.not_le, Bool.not_eq_true', Bool.not_eq_false', Decidable.not_not, not_true_eq_false] at hc
             all_goals first | (exfalso; with_reducible exact bft hc) | (exfalso; with_reducible exact btf hc) | (exfalso; omega) | skip
             all_goals refine tc_skip ?_
             all_goals (refine hK8 ?_; try (clear hK8; clear K8))
             all_goals refine tc_seq fun K10 hK10 => ?_
             all_goals refine tc_block ?_
             all_goals refine tc_seq fun K11 hK11 => ?_
             all_goals (rcases hsr : srch p below m (l ++ [fr + (j : Int)]) (fr + (j : Int) + 1) with _ | rs <;> rcases hsl with ⟨rfl, rfl⟩ | ⟨b0, _, c0, j0, rfl, rfl, hh0, hb0⟩)
             all_goals refine tc_draw (by kernel_rfl) ?_
             all_goals refine tx_qS 0 rfl (by kernel_rfl) (y_load1 rfl (by repeat constructor) (by rfl)) rfl (fun _ _ _ h => h) (fun _ h => h.subl (SB.s (by repeat constructor)) (SB.s (by repeat constructor))) ?_
             all_goals refine tx_p 1 rfl (by kernel_rfl) (y_move rfl) rfl (fun _ _ _ h => h) (fun _ h => h.subl (SB.s (by repeat constructor)) (SB.s (by repeat constructor))) ?_
             all_goals refine tx_p 3 rfl (by kernel_rfl) (y_move rfl) rfl (fun _ _ _ h => h) (fun _ h => h.subl (SB.s (by repeat constructor)) (SB.s (by repeat constructor))) ?_
             all_goals refine tx_p 6 rfl (by kernel_rfl) (y_move rfl) rfl (fun _ _ _ h => h) (fun _ h => h.subl (SB.s (by repeat constructor)) (SB.s (by repeat constructor))) ?_
             all_goals refine tx_p 7 rfl (by kernel_rfl) (y_add rfl rfl (by omega)) rfl (fun _ _ _ h => h) (fun _ h => h.subl (SB.s (by repeat constructor)) (SB.s (by repeat constructor))) ?_
             all_goals refine tx_p 8 rfl (by kernel_rfl) (y_move rfl) rfl (fun _ _ _ h => h) (fun _ h => h.subl (SB.s (by repeat constructor)) (SB.s (by repeat constructor))) ?_
             all_goals refine tx_p 9 rfl (by kernel_rfl) (y_sub rfl rfl (by omega)) rfl (fun _ _ _ h => h) (fun _ h => h.subl (SB.s (by repeat constructor)) (SB.s (by repeat constructor))) ?_
             all_goals (
              refine tx_pair 2 4 (by kernel_rfl) ?_ ?_
              rotate_left
              focus (
               (refine to_e rfl rfl (e_bslice rfl (by (repeat (first | exact .nil | apply PV.one rfl rfl)); done) rfl rfl) (.inr ⟨fun _ _ h => h.subl (SB.s (by repeat constructor)) (SB.s (by repeat constructor)), fun _ h => h⟩) (fun _ _ => ?_))
               all_goals (first | refine tx_single 2 (by kernel_rfl) (to_e rfl rfl (e_callB rfl (.cons rfl .nil) (fun w' hw' => clone_own b0 c0 l (by omega) w' (hrd w' (hbut w' (hw'.sub (fun _ h => h) (SB.s (by repeat constructor))))))) (.inr ⟨fun _ _ h => h.subl (SB.s (by repeat constructor)) (SB.s (by repeat constructor)), fun _ h => h⟩) (fun r hr3 => ?_)) | refine tx_single 2 (by kernel_rfl) (to_e rfl rfl (e_callV rfl (.cons rfl .nil) (fun w' _ => clone_nil w')) (.inr ⟨fun _ _ h => h.subl (SB.s (by repeat constructor)) (SB.s (by repeat constructor)), fun _ h => h⟩) (fun r hr3 => ?_)))
               all_goals (first | refine tx_single 5 (by kernel_rfl) (to_e rfl rfl (e_append_own (old := l.map vi) (junk := r.2.2) rfl rfl rfl (by repeat constructor) (by simp) (by omega) hr3.1 (fun w' hw' => RdI.own0 (xs := [fr + (j : Int)]) hw' (by repeat constructor)) (fun u hu => by obtain ⟨_, _, rfl⟩ := List.mem_map.1 hu; rfl) (by simp only [List.length_cons, List.length_nil]; omega) rfl) (.inr ⟨fun _ _ h => h.subl (SB.s (by repeat constructor)) (SB.s (by repeat constructor)), fun _ h => h⟩) (fun q hq => ?_)) | refine tx_single 5 (by kernel_rfl) (to_e rfl rfl (e_append_nil rfl rfl rfl (fun w' hw' => RdI.own0 (xs := [fr + (j : Int)]) hw' (by repeat constructor)) (fun u hu => by obtain ⟨_, _, rfl⟩ := List.mem_map.1 hu; rfl) Nat.zero_lt_one (Nat.le_of_ble_eq_true rfl) rfl) (.inr ⟨fun _ _ h => h.subl (SB.s (by repeat constructor)) (SB.s (by repeat constructor)), fun _ h => h⟩) (fun q hq => ?_)))
               all_goals (first | refine tx_single 10 (by kernel_rfl) (to_e (S' := HG [] []) rfl rfl (e_callU2f (val := fun _ => .bool false) (p := fun y : Value × Obj => J y.2 ∧ y.1.oneCell' = true) (ob := fun x : Value × Obj => .cells #[x.1] 22 (0, 0)) (oc := fun x : Value × Obj => x.2) rfl rfl (.cons rfl (.cons rfl (.cons rfl .nil))) (fun w' hw' => CnX.imp (val' := fun _ : Value × Obj => .bool false) (hih w' _ _ _ _ j _ _ _ hw' rfl (by simp) hvf' hJ' (by omega) (by repeat constructor) (by repeat constructor) (by repeat constructor) (by repeat constructor) (by repeat constructor)) id (fun _ => congrArg (fun o : Option (List Int) => Value.bool o.isSome) hsr.symm) (fun _ h => h) (fun x w2 _ hx => ⟨⟨hx.2.1, hx.2.2.1⟩, hx.1⟩)) (fun _ => (by repeat constructor)) (fun _ => (by repeat constructor))) (.inl (by kernel_rfl)) (fun y hy => ?_)) | refine tx_single 10 (by kernel_rfl) (to_e (S' := HG [] []) rfl rfl (e_callEnd (val := fun _ => .bool true) (p := fun (x : Value × Obj) (w2 : World) => (w2.heap[bf]? = some (.cells #[x.1] 22 (0, 0)) ∧ w2.heap[bm]? = some x.2) ∧ J x.2 ∧ x.1.oneCell' = true ∧ RdI w2 x.1 rs) rfl rfl (.cons rfl (.cons rfl (.cons rfl .nil))) (fun w' hw' => CnX.imp (val' := fun _ : Value × Obj => .bool true) (hih w' _ _ _ _ j _ _ _ hw' rfl (by simp) hvf' hJ' (by omega) (by repeat constructor) (by repeat constructor) (by repeat constructor) (by repeat constructor) (by repeat constructor)) id (fun _ => congrArg (fun o : Option (List Int) => Value.bool o.isSome) hsr.symm) (fun _ h => h) (fun x w2 _ hx => ⟨hx.1, hx.2.1, hx.2.2.1, hx.2.2.2 rs hsr⟩)) (fun w' hw' β hβ x hx => .inl (by obtain rfl := List.mem_singleton.1 hβ; simp only [List.mem_cons, List.not_mem_nil, or_false] at hx ⊢; omega))) (.inl (by kernel_rfl)) (fun y hy => ?_)))
               all_goals refine tx_done (by kernel_rfl) ?_)
              rotate_right
              focus (
               (first | refine to_e rfl rfl (e_callB rfl (.cons rfl .nil) (fun w' hw' => clone_own b0 c0 l (by omega) w' (hrd w' (hbut w' (hw'.sub (fun _ h => h) (SB.s (by repeat constructor))))))) (.inr ⟨fun _ _ h => h.subl (SB.s (by repeat constructor)) (SB.s (by repeat constructor)), fun _ h => h⟩) (fun r hr3 => ?_) | refine to_e rfl rfl (e_callV rfl (.cons rfl .nil) (fun w' _ => clone_nil w')) (.inr ⟨fun _ _ h => h.subl (SB.s (by repeat constructor)) (SB.s (by repeat constructor)), fun _ h => h⟩) (fun r hr3 => ?_))
               all_goals refine tx_single 4 (by kernel_rfl) (to_e rfl rfl (e_bslice rfl (by (repeat (first | exact .nil | apply PV.one rfl rfl)); done) rfl rfl) (.inr ⟨fun _ _ h => h.subl (SB.s (by repeat constructor)) (SB.s (by repeat constructor)), fun _ h => h⟩) (fun _ _ => ?_))
               all_goals (first | refine tx_single 5 (by kernel_rfl) (to_e rfl rfl (e_append_own (old := l.map vi) (junk := r.2.2) rfl rfl rfl (by repeat constructor) (by simp) (by omega) hr3.1 (fun w' hw' => RdI.own0 (xs := [fr + (j : Int)]) hw' (by repeat constructor)) (fun u hu => by obtain ⟨_, _, rfl⟩ := List.mem_map.1 hu; rfl) (by simp only [List.length_cons, List.length_nil]; omega) rfl) (.inr ⟨fun _ _ h => h.subl (SB.s (by repeat constructor)) (SB.s (by repeat constructor)), fun _ h => h⟩) (fun q hq => ?_)) | refine tx_single 5 (by kernel_rfl) (to_e rfl rfl (e_append_nil rfl rfl rfl (fun w' hw' => RdI.own0 (xs := [fr + (j : Int)]) hw' (by repeat constructor)) (fun u hu => by obtain ⟨_, _, rfl⟩ := List.mem_map.1 hu; rfl) Nat.zero_lt_one (Nat.le_of_ble_eq_true rfl) rfl) (.inr ⟨fun _ _ h => h.subl (SB.s (by repeat constructor)) (SB.s (by repeat constructor)), fun _ h => h⟩) (fun q hq => ?_)))
               all_goals (first | refine tx_single 10 (by kernel_rfl) (to_e (S' := HG [] []) rfl rfl (e_callU2f (val := fun _ => .bool false) (p := fun y : Value × Obj => J y.2 ∧ y.1.oneCell' = true) (ob := fun x : Value × Obj => .cells #[x.1] 22 (0, 0)) (oc := fun x : Value × Obj => x.2) rfl rfl (.cons rfl (.cons rfl (.cons rfl .nil))) (fun w' hw' => CnX.imp (val' := fun _ : Value × Obj => .bool false) (hih w' _ _ _ _ j _ _ _ hw' rfl (by simp) hvf' hJ' (by omega) (by repeat constructor) (by repeat constructor) (by repeat constructor) (by repeat constructor) (by repeat constructor)) id (fun _ => congrArg (fun o : Option (List Int) => Value.bool o.isSome) hsr.symm) (fun _ h => h) (fun x w2 _ hx => ⟨⟨hx.2.1, hx.2.2.1⟩, hx.1⟩)) (fun _ => (by repeat constructor)) (fun _ => (by repeat constructor))) (.inl (by kernel_rfl)) (fun y hy => ?_)) | refine tx_single 10 (by kernel_rfl) (to_e (S' := HG [] []) rfl rfl (e_callEnd (val := fun _ => .bool true) (p := fun (x : Value × Obj) (w2 : World) => (w2.heap[bf]? = some (.cells #[x.1] 22 (0, 0)) ∧ w2.heap[bm]? = some x.2) ∧ J x.2 ∧ x.1.oneCell' = true ∧ RdI w2 x.1 rs) rfl rfl (.cons rfl (.cons rfl (.cons rfl .nil))) (fun w' hw' => CnX.imp (val' := fun _ : Value × Obj => .bool true) (hih w' _ _ _ _ j _ _ _ hw' rfl (by simp) hvf' hJ' (by omega) (by repeat constructor) (by repeat constructor) (by repeat constructor) (by repeat constructor) (by repeat constructor)) id (fun _ => congrArg (fun o : Option (List Int) => Value.bool o.isSome) hsr.symm) (fun _ h => h) (fun x w2 _ hx => ⟨hx.1, hx.2.1, hx.2.2.1, hx.2.2.2 rs hsr⟩)) (fun w' hw' β hβ x hx => .inl (by obtain rfl := List.mem_singleton.1 hβ; simp only [List.mem_cons, List.not_mem_nil, or_false] at hx ⊢; omega))) (.inl (by kernel_rfl)) (fun y hy => ?_)))
               all_goals refine tx_done (by kernel_rfl) ?_))
             all_goals (refine hK11 ?_; try (clear hK11; clear K11))
             all_goals (
              refine tc_cond rfl (fun hc => ?_) (fun hc => ?_)
              · try simp only [decide_eq_true_eq, decide_eq_false_iff_not, Int.not_lt, Int.not_le, Bool.not_eq_true', Bool.not_eq_false', Decidable.not_not, not_true_eq_false] at hc
                all_goals first | (exfalso; with_reducible exact bft hc) | (exfalso; with_reducible exact btf hc) | (exfalso; omega) | skip
                all_goals refine tc_seq fun K12 hK12 => ?_
                all_goals refine tc_region ?_
                all_goals refine tl_q (y_assign rfl) rfl ?_
                all_goals refine tl_nil ?_
                all_goals (refine hK12 ?_; try (clear hK12; clear K12))
                all_goals refine tc_ret ?_
                all_goals (repeat (first | refine tk_then_ret ?_ | refine tk_block_ret ?_))
                all_goals first | refine tk_ret rfl rfl (.cons (.tmp rfl) .nil) ?_ | refine tk_retM rfl (by repeat constructor) rfl (.cons (.tmp rfl) .nil) ?_
                all_goals (
                 first
                 | (refine fun w' hw' => ?_
                    have f0 : Fr [] y.2.2 w' := hw'.fr (by simp)
                    have f1 := hbut y.2.1 (hy.1.sub (fun _ h => h) (SB.s (by repeat constructor)))
                    have e1 : srch p below (m + 1) _ fr = some rs := fs_hit (j := j) (by omega) hsr hno
                    exact ⟨y.1, by rw [e1]; rfl, (f1.trans hy.2.1 (fun x hx => .inl hx)).trans f0 (by simp), ⟨f0.keep hy.2.2.1.1, f0.keep hy.2.2.1.2⟩, hy.2.2.2.1, hy.2.2.2.2.1, fun r hr => by rw [e1] at hr; cases hr; exact hy.2.2.2.2.2.fr f0⟩)
                 | (have e1 : srch p below (m + 1) l fr = none := fs_miss (fun k hk => hno k (by omega))
                    exact fun w' hw' => ⟨(vf', om'), by rw [e1]; rfl, hbut w' (hw'.sub (fun _ h => h) (SB.s (by repeat constructor))), ⟨hw'.heap _ (HM.mem (by repeat constructor)), hw'.heap _ (HM.mem (by repeat constructor))⟩, hJ', hvf', fun r hr => by rw [e1] at hr; cases hr⟩))
              · try simp only [decide_eq_true_eq, decide_eq_false_iff_not, Int.not_lt, Int.not_le, Bool.not_eq_true', Bool.not_eq_false', Decidable.not_not, not_true_eq_false] at hc
                all_goals first | (exfalso; with_reducible exact bft hc) | (exfalso; with_reducible exact btf hc) | (exfalso; omega) | skip
                all_goals refine tc_skip ?_
                all_goals (refine hK10 ?_; try (clear hK10; clear K10))
                all_goals refine tc_region ?_
                all_goals refine tl_q (y_move rfl) rfl ?_
                all_goals refine tl_q (y_add rfl rfl (by omega)) rfl ?_
                all_goals refine tl_q (y_assign rfl) rfl ?_
                all_goals refine tl_nil ?_
                all_goals (
                 all_goals refine tk_round (j + 1, y.1, y.2) ⟨by omega, hy.1, hy.2, fun k hk => ?_⟩ (by omega) ?_ (fun _ h => h.sub (fun _ h => h) (SB.s (by repeat constructor)))
                 · rcases Nat.lt_succ_iff_lt_or_eq.1 hk with h | rfl
                   · exact hno k h
                   · exact hsr
                 · dsimp only
                   rw [show fr + ((j + 1 : Nat) : Int) = fr + (j : Int) + 1 from by omega]
                   exact .cons rfl (.cons rfl (.cons rfl (.cons rfl (.cons rfl (.cons rfl (.cons rfl .nil))))))))
           · try simp only [decide_eq_true_eq, decide_eq_false_iff_not, Int.not_lt, Int.not_le, Bool.not_eq_true', Bool.not_eq_false', Decidable.not_not, not_true_eq_false] at hc
             all_goals first | (exfalso; with_reducible exact bft hc) | (exfalso; with_reducible exact btf hc) | (exfalso; omega) | skip
             all_goals refine tc_exit ?_
             all_goals (refine hK6 ?_; try (clear hK6; clear K6))
             all_goals refine tc_seq fun K13 hK13 => ?_
             all_goals refine tc_region ?_
             all_goals refine tl_q (y_assign rfl) rfl ?_
             all_goals refine tl_nil ?_
             all_goals (refine hK13 ?_; try (clear hK13; clear K13))
             all_goals refine tc_ret ?_
             all_goals (repeat (first | refine tk_then_ret ?_))
             all_goals first | refine tk_ret rfl rfl (.cons (.tmp rfl) .nil) ?_ | refine tk_retM rfl (by repeat constructor) rfl (.cons (.tmp rfl) .nil) ?_
             all_goals (
              first
              | (refine fun w' hw' => ?_
                 have f0 : Fr [] y.2.2 w' := hw'.fr (by simp)
                 have f1 := hbut y.2.1 (hy.1.sub (fun _ h => h) (SB.s (by repeat constructor)))
                 have e1 : srch p below (m + 1) _ fr = some rs := fs_hit (j := j) (by omega) hsr hno
                 exact ⟨y.1, by rw [e1]; rfl, (f1.trans hy.2.1 (fun x hx => .inl hx)).trans f0 (by simp), ⟨f0.keep hy.2.2.1.1, f0.keep hy.2.2.1.2⟩, hy.2.2.2.1, hy.2.2.2.2.1, fun r hr => by rw [e1] at hr; cases hr; exact hy.2.2.2.2.2.fr f0⟩)
              | (have e1 : srch p below (m + 1) l fr = none := fs_miss (fun k hk => hno k (by omega))
                 exact fun w' hw' => ⟨(vf', om'), by rw [e1]; rfl, hbut w' (hw'.sub (fun _ h => h) (SB.s (by repeat constructor))), ⟨hw'.heap _ (HM.mem (by repeat constructor)), hw'.heap _ (HM.mem (by repeat constructor))⟩, hJ', hvf', fun r hr => by rw [e1] at hr; cases hr⟩)))))
def searchT (p : List Int → Bool) (below : Nat) : Option (List Int) := (List.range (below + 1)).findSome? fun (k : Nat) => srch p below k [] 0
theorem tlists_c (g : FuncId) [GoFn Try.prog g] (cap : Array Value) (p : List Int → Bool) (below : Nat) (hbl2 : below ≤ 18) (bm : Nat) (om : Obj) (J : Obj → Prop) (w : World) (h2 : w.heap[bm]? = some om) (hJ : J om) (hp : Pass Try.prog g cap p below [bm] bm J w) :
    CnX Try.prog 31 #[vi below, .func (.func g) #[] cap] w [bm] (fun x : Value × Obj => .tuple #[x.1, .bool (searchT p below).isSome])
      (fun x w' => w'.heap[bm]? = some x.2 ∧ J x.2 ∧ x.1.oneCell' = true ∧ ∀ r, searchT p below = some r → RdI w' x.1 r) := by
  have hadd : ∀ (w' : World) (H : List (Nat × Obj)) (bf bp bb ba : Nat) (m : Nat) (vf : Value) (om' : Obj), HG [(w, [bm])] H w' → [bf, bm, bp, bb, ba].Nodup → m ≤ 20 → vf.oneCell' = true → J om' → HM bf (.cells #[vf] 22 (0, 0)) H → HM bm om' H → HM bp (.cells #[.func (.func g) #[] cap] 83 (0, 0)) H → HM bb (.cells #[vi below] 3 (0, 0)) H → HM ba (.cells #[taddV bf bp bb ba] 104 (0, 0)) H →
      CnX Try.prog 52 (#[] ++ #[.slice none 0 0, vi 0, vi m] ++ #[ptr bf, ptr bp, ptr bb, ptr ba]) w' [bf, bm] (fun _ : Value × Obj => .bool (srch p below m [] 0).isSome)
        (fun x w' => (w'.heap[bf]? = some (.cells #[x.1] 22 (0, 0)) ∧ w'.heap[bm]? = some x.2) ∧ J x.2 ∧ x.1.oneCell' = true ∧ ∀ r, srch p below m [] 0 = some r → RdI w' x.1 r) := fun w' H bf bp bb ba m vf om' hw' hnd hm hvf hJ' m1 m2 m3 m4 m5 => by
    rw [show (#[] ++ #[.slice none 0 0, vi 0, vi m] ++ #[ptr bf, ptr bp, ptr bb, ptr ba] : Array Value) = #[.slice none 0 0, vi 0, vi m, ptr bf, ptr bp, ptr bb, ptr ba] from by simp]
    have hbf : w.heap.size ≤ bf := (hw'.own _ (HM.mem m1) (w, [bm]) (by simp)).resolve_left (by simp at hnd ⊢; omega)
    exact tadd_c g cap p below (by omega) (by omega) bf bm bp bb ba hnd J m m [] 0 (.slice none 0 0) vf om' w' rfl (by simpa using hm) (by omega) (by omega) hvf (hw'.heap _ (HM.mem m1)) (hw'.heap _ (HM.mem m2)) hJ' (hw'.heap _ (HM.mem m3)) (hw'.heap _ (HM.mem m4)) (hw'.heap _ (HM.mem m5)) (.inl ⟨rfl, rfl⟩)
      (hp.more (hw'.fr (by simp)) (fun x hx => by rcases (by simpa using hx : x = bf ∨ x = bm) with rfl | rfl; exact .inr hbf; exact .inl (by simp)) (by simp)) (fun x hx => by simp at hx)
  refine cnxS (vs := [_, _]) (S := [bm]) [(bm, om)] Try.func31 rfl rfl ⟨by simp [h2], by simp, by simp⟩ ?_
  all_goals refine tc_seq fun K1 hK1 => ?_
  all_goals refine tc_region ?_
  all_goals refine tl_e (e_box rfl rfl rfl) rfl (fun bb _ => ?_)
  all_goals refine tl_e (e_box rfl rfl rfl) rfl (fun bp _ => ?_)
  all_goals refine tl_q (y_assign rfl) rfl ?_
  all_goals refine tl_q (y_assign rfl) rfl ?_
  all_goals refine tl_nil ?_
  all_goals (refine hK1 ?_; try (clear hK1; clear K1))
  all_goals refine tc_scope ?_
  all_goals refine tc_seq fun K2 hK2 => ?_
  all_goals refine tc_region ?_
  all_goals refine tl_e (e_alloc1 rfl) rfl (fun bf _ => ?_)
  all_goals refine tl_nil ?_
  all_goals (refine hK2 ?_; try (clear hK2; clear K2))
  all_goals refine tc_seq fun K3 hK3 => ?_
  all_goals refine tc_region ?_
  all_goals refine tl_e (e_alloc1 rfl) rfl (fun ba _ => ?_)
  all_goals refine tl_nil ?_
  all_goals (refine hK3 ?_; try (clear hK3; clear K3))
  all_goals refine tc_seq fun K4 hK4 => ?_
  all_goals refine tc_region ?_
  all_goals refine tl_q (y_fn .nil (.cons rfl (.cons rfl (.cons rfl (.cons rfl .nil))))) rfl ?_
  all_goals refine tl_e (e_store1 rfl rfl (by repeat constructor) (by repeat constructor) (by rfl) (by rfl)) rfl (fun _ _ => ?_)
  all_goals refine tl_nil ?_
  all_goals (refine hK4 ?_; try (clear hK4; clear K4))
  all_goals refine tc_seq fun K5 hK5 => ?_
  all_goals refine tc_fact ([bf, bm, bp, bb, ba].Nodup ∧ w.heap.size ≤ bf) (fun w' hw' => ⟨by have := hw'.nodup; simp at this ⊢; omega, ?_⟩) (fun hf => ?_)
  · have := hw'.nodup
    exact (hw'.own (bf, _) (HM.mem (by repeat constructor)) (w, [bm]) (by simp)).resolve_left (by simp at this ⊢; omega)
  have hSx : ∀ x ∈ [bf, bm], x ∈ [bm] ∨ w.heap.size ≤ x := fun x hx => by
    rcases (by simpa using hx : x = bf ∨ x = bm) with rfl | rfl
    · exact .inr hf.2
    · exact .inl (by simp)
  all_goals refine tc_region ?_
  all_goals refine tl_q (y_assign rfl) rfl ?_
  all_goals refine tl_nil ?_
  all_goals (refine hK5 ?_; try (clear hK5; clear K5))
  all_goals refine tc_seq fun K6 hK6 => ?_
  all_goals refine tc_label ?_
  all_goals (refine hK6 ?_; try (clear hK6; clear K6))
  all_goals refine tc_seq fun K7 hK7 => ?_
  all_goals refine tc_seq fun K8 hK8 => ?_
  all_goals refine tc_region ?_
  all_goals (refine tl_q (y_load1 rfl (by repeat constructor) (by rfl)) rfl ?_)
  all_goals refine tl_q (y_add rfl rfl (by omega)) rfl ?_
  all_goals refine tl_q (y_move rfl) rfl ?_
  all_goals refine tl_nil ?_
  all_goals (refine hK8 ?_; try (clear hK8; clear K8))
  all_goals refine tc_block ?_
  all_goals (
   refine tc_loop (fun q : Nat × Value × Obj => q.1 ≤ below + 1 ∧ J q.2.2 ∧ q.2.1.oneCell' = true ∧ ∀ k : Nat, k < q.1 → srch p below k [] 0 = none) (fun q => [(2, ptr bb), (3, ptr bp), (6, ptr bf), (7, ptr ba), (8, .bool false), (12, vi ((below : Int) + 1)), (13, vi q.1)]) (fun _ => [(w, [bm])]) (fun q => [(ba, .cells #[taddV bf bp bb ba] 104 (0, 0)), (bf, .cells #[q.2.1] 22 (0, 0)), (bp, .cells #[.func (.func g) #[] cap] 83 (0, 0)), (bb, .cells #[vi below] 3 (0, 0)), (bm, q.2.2)]) (fun q => below + 1 - q.1) ?_ ?_
   · exact tk_start (0, .slice none 0 0, om) ⟨Nat.zero_le _, hJ, rfl, fun k hk => absurd hk (Nat.not_lt_zero k)⟩ (.cons rfl (.cons rfl (.cons rfl (.cons rfl (.cons rfl (.cons rfl (.cons rfl .nil))))))) (fun _ h => h)
   · rintro ⟨k, vf, om'⟩ ⟨hk, hJ', hvf, hno⟩
     dsimp only at hk hJ' hvf hno ⊢
     all_goals refine tc_seq fun K9 hK9 => ?_
     all_goals refine tc_region ?_
     all_goals refine tl_q (y_lss rfl rfl) rfl ?_
     all_goals refine tl_nil ?_
     all_goals (refine hK9 ?_; try (clear hK9; clear K9))
     all_goals refine tc_seq fun K10 hK10 => ?_
     all_goals (
      refine tc_cond rfl (fun hc => ?_) (fun hc => ?_)
      · try simp only [decide_eq_true_eq, decide_eq_false_iff_not, Int.not_lt, Int.not_le, Bool.not_eq_true', Bool.not_eq_false', Decidable.not_not, not_true_eq_false] at hc
        all_goals first | (exfalso; with_reducible exact bft hc) | (exfalso; with_reducible exact btf hc) | (exfalso; omega) | skip
        all_goals refine tc_skip ?_
        all_goals (refine hK10 ?_; try (clear hK10; clear K10))
        all_goals refine tc_seq fun K11 hK11 => ?_
        all_goals refine tc_block ?_
        all_goals refine tc_seq fun K12 hK12 => ?_
        all_goals refine tc_region ?_
        all_goals refine tl_q (y_move rfl) rfl ?_
        all_goals refine tl_q (y_assign rfl) rfl ?_
        all_goals refine tl_nil ?_
        all_goals (refine hK12 ?_; try (clear hK12; clear K12))
        all_goals refine tc_seq fun K13 hK13 => ?_
        rcases hsr : srch p below k [] 0 with _ | rs
        all_goals refine tc_region ?_
        all_goals (refine tl_q (y_load1 rfl (by repeat constructor) (by rfl)) rfl ?_)
        all_goals refine tl_q (y_move rfl) rfl ?_
        all_goals (first | refine tl_e (e_callU2f (val := fun _ => .bool false) (p := fun y : Value × Obj => J y.2 ∧ y.1.oneCell' = true) (ob := fun x : Value × Obj => .cells #[x.1] 22 (0, 0)) (oc := fun x : Value × Obj => x.2) rfl rfl (.cons rfl (.cons rfl (.cons rfl .nil))) (fun w' hw' => CnX.imp (val' := fun _ : Value × Obj => .bool false) (hadd w' _ bf bp bb ba k _ _ hw' hf.1 (by omega) hvf hJ' (by repeat constructor) (by repeat constructor) (by repeat constructor) (by repeat constructor) (by repeat constructor)) id (fun _ => congrArg (fun o : Option (List Int) => Value.bool o.isSome) hsr.symm) (fun _ h => h) (fun x w2 _ hx => ⟨⟨hx.2.1, hx.2.2.1⟩, hx.1⟩)) (fun _ => (by repeat constructor)) (fun _ => (by repeat constructor))) rfl (fun y hy => ?_) | refine tl_e (e_callEnd (val := fun _ => .bool true) (p := fun (x : Value × Obj) (w2 : World) => (w2.heap[bf]? = some (.cells #[x.1] 22 (0, 0)) ∧ w2.heap[bm]? = some x.2) ∧ J x.2 ∧ x.1.oneCell' = true ∧ RdI w2 x.1 rs) rfl rfl (.cons rfl (.cons rfl (.cons rfl .nil))) (fun w' hw' => CnX.imp (val' := fun _ : Value × Obj => .bool true) (hadd w' _ bf bp bb ba k _ _ hw' hf.1 (by omega) hvf hJ' (by repeat constructor) (by repeat constructor) (by repeat constructor) (by repeat constructor) (by repeat constructor)) id (fun _ => congrArg (fun o : Option (List Int) => Value.bool o.isSome) hsr.symm) (fun _ h => h) (fun x w2 _ hx => ⟨hx.1, hx.2.1, hx.2.2.1, hx.2.2.2 rs hsr⟩)) (fun w' hw' β hβ x hx => by obtain rfl := List.mem_singleton.1 hβ; exact hSx x hx)) rfl (fun y hy => ?_))
        all_goals refine tl_q (y_assign rfl) rfl ?_
        all_goals refine tl_nil ?_
        all_goals (refine hK13 ?_; try (clear hK13; clear K13))
        all_goals refine tc_seq fun K14 hK14 => ?_
        all_goals refine tc_region ?_
        all_goals refine tl_q (y_move rfl) rfl ?_
        all_goals refine tl_nil ?_
        all_goals (refine hK14 ?_; try (clear hK14; clear K14))
        all_goals (
         refine tc_cond rfl (fun hc => ?_) (fun hc => ?_)
         · try simp only [decide_eq_true_eq, decide_eq_false_iff_not, Int.not_lt, Int.not_le, Bool.not_eq_true', Bool.not_eq_false', Decidable.not_not, not_true_eq_false] at hc
           all_goals first | (exfalso; with_reducible exact bft hc) | (exfalso; with_reducible exact btf hc) | (exfalso; omega) | skip
           all_goals refine tc_exit ?_
           all_goals (refine hK7 ?_; try (clear hK7; clear K7))
           all_goals refine tc_seq fun K15 hK15 => ?_
           all_goals refine tc_region ?_
           all_goals (refine tl_q (y_load1o rfl (fun w' hw' => cell0 ((hw'.fr (w0 := y.2.2) (S := []) (by simp)).keep hy.2.2.1.1) rfl)) rfl ?_)
           all_goals refine tl_q (y_move rfl) rfl ?_
           all_goals refine tl_q (y_assign rfl) rfl ?_
           all_goals refine tl_q (y_assign rfl) rfl ?_
           all_goals refine tl_nil ?_
           all_goals (refine hK15 ?_; try (clear hK15; clear K15))
           all_goals refine tc_ret ?_
           all_goals (repeat (refine tk_scope_ret ?_))
           all_goals first | refine tk_ret rfl rfl (.cons (.tmp rfl) (.cons (.tmp rfl) .nil)) ?_ | refine tk_retM rfl (by repeat constructor) rfl (.cons (.tmp rfl) (.cons (.tmp rfl) .nil)) ?_
           all_goals (
            first
            | (have e1 : searchT p below = some rs := by unfold searchT; exact fs_hit (j := k) (by omega) hsr hno
               refine fun w' hw' => ?_
               have f0 : Fr [] y.2.2 w' := hw'.fr (by simp)
               have f1 : Fr [bm] w y.2.1 := hy.1.fr (by simp)
               exact ⟨y.1, by rw [e1]; rfl, (f1.trans hy.2.1 hSx).trans f0 (by simp), f0.keep hy.2.2.1.2, hy.2.2.2.1, hy.2.2.2.2.1, fun r hr => by rw [e1] at hr; cases hr; exact hy.2.2.2.2.2.fr f0⟩)
            | (have e1 : searchT p below = none := by unfold searchT; exact fs_miss (fun q hq => hno q (by omega))
               exact fun w' hw' => ⟨(vf, om'), by rw [e1]; rfl, hw'.fr (by simp), hw'.heap _ (HM.mem (b := bm) (by repeat constructor)), hJ', hvf, fun r hr => by rw [e1] at hr; cases hr⟩))
         · try simp only [decide_eq_true_eq, decide_eq_false_iff_not, Int.not_lt, Int.not_le, Bool.not_eq_true', Bool.not_eq_false', Decidable.not_not, not_true_eq_false] at hc
           all_goals first | (exfalso; with_reducible exact bft hc) | (exfalso; with_reducible exact btf hc) | (exfalso; omega) | skip
           all_goals refine tc_skip ?_
           all_goals (refine hK11 ?_; try (clear hK11; clear K11))
           all_goals refine tc_region ?_
           all_goals refine tl_q (y_add rfl rfl (by omega)) rfl ?_
           all_goals refine tl_q (y_move rfl) rfl ?_
           all_goals refine tl_nil ?_
           all_goals (
            exact tk_round (k + 1, y.1, y.2) ⟨by dsimp only; omega, hy.1, hy.2, fun q hq => by rcases Nat.lt_succ_iff_lt_or_eq.1 hq with h | rfl; exact hno q h; exact hsr⟩ (by dsimp only; omega) (.cons rfl (.cons rfl (.cons rfl (.cons rfl (.cons rfl (.cons rfl (.cons rfl .nil))))))) (fun _ h => h)))
      · try simp only [decide_eq_true_eq, decide_eq_false_iff_not, Int.not_lt, Int.not_le, Bool.not_eq_true', Bool.not_eq_false', Decidable.not_not, not_true_eq_false] at hc
        all_goals first | (exfalso; with_reducible exact bft hc) | (exfalso; with_reducible exact btf hc) | (exfalso; omega) | skip
        all_goals refine tc_exit ?_
        all_goals (refine hK7 ?_; try (clear hK7; clear K7))
        all_goals refine tc_seq fun K16 hK16 => ?_
        all_goals refine tc_region ?_
        all_goals (refine tl_q (y_load1 rfl (by repeat constructor) (by rfl)) rfl ?_)
        all_goals refine tl_q (y_move rfl) rfl ?_
        all_goals refine tl_q (y_assign rfl) rfl ?_
        all_goals refine tl_q (y_assign rfl) rfl ?_
        all_goals refine tl_nil ?_
        all_goals (refine hK16 ?_; try (clear hK16; clear K16))
        all_goals refine tc_ret ?_
        all_goals (repeat (refine tk_scope_ret ?_))
        all_goals first | refine tk_ret rfl rfl (.cons (.tmp rfl) (.cons (.tmp rfl) .nil)) ?_ | refine tk_retM rfl (by repeat constructor) rfl (.cons (.tmp rfl) (.cons (.tmp rfl) .nil)) ?_
        all_goals (
         first
         | (have e1 : searchT p below = some rs := by unfold searchT; exact fs_hit (j := k) (by omega) hsr hno
            refine fun w' hw' => ?_
            have f0 : Fr [] y.2.2 w' := hw'.fr (by simp)
            have f1 : Fr [bm] w y.2.1 := hy.1.fr (by simp)
            exact ⟨y.1, by rw [e1]; rfl, (f1.trans hy.2.1 hSx).trans f0 (by simp), f0.keep hy.2.2.1.2, hy.2.2.2.1, hy.2.2.2.2.1, fun r hr => by rw [e1] at hr; cases hr; exact hy.2.2.2.2.2.fr f0⟩)
         | (have e1 : searchT p below = none := by unfold searchT; exact fs_miss (fun q hq => hno q (by omega))
            exact fun w' hw' => ⟨(vf, om'), by rw [e1]; rfl, hw'.fr (by simp), hw'.heap _ (HM.mem (b := bm) (by repeat constructor)), hJ', hvf, fun r hr => by rw [e1] at hr; cases hr⟩))))
end Go.Sp
