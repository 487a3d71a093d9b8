
/-
  Package trial: lists of numbers in order, the shortest first.
-/
import Derived.Test.YtegojecjmaifdaaGreatM2
import Derived.Lib.SlicesCompact
set_option linter.unusedVariables false
set_option linter.unusedSimpArgs false
set_option linter.deprecated false
namespace Go.Sp
open Go Go.Proofs
abbrev taddV (bf bp bb ba : Nat) : Value := .func (.func 138) #[] #[ptr bf, ptr bp, ptr bb, ptr ba]
theorem tadd_c (g : FuncId) [GoFn Tryz.prog g] (cap : Array Value) (p : List Int → Bool) (below : Int) (hbl : 0 ≤ below) (hbl2 : below ≤ 20) (bf bm bp bb ba : Nat) (hnd : [bf, bm, bp, bb, ba].Nodup) (J : Obj → Prop) :
    ∀ (m : Nat) (mi : Int) (l : List Int) (fr : Int) (sl vf : Value) (om : Obj) (w : World), mi = m → l.length + m ≤ 20 → 0 ≤ fr → fr ≤ 30 → vf.oneCell' = true →
    w.heap[bf]? = some (.cells #[vf] 22 (0, 0)) → w.heap[bm]? = some om → J om → w.heap[bp]? = some (.cells #[.func (.func g) #[] cap] 155 (0, 0)) →
    w.heap[bb]? = some (.cells #[vi below] 3 (0, 0)) → w.heap[ba]? = some (.cells #[taddV bf bp bb ba] 187 (0, 0)) →
    SlSt w sl l [bf, bm, bp, bb, ba] → Pass Tryz.prog g cap p below [bf, bm] bm J w → (∀ x ∈ l, 0 ≤ x ∧ x < below) →
    CnX Tryz.prog 138 #[sl, vi fr, vi mi, ptr bf, ptr bp, ptr bb, ptr ba] w [bf, bm] (fun _ : Value × Obj => .bool (srch p below m l fr).isSome)
      (fun x w' => (w'.heap[bf]? = some (.cells #[x.1] 22 (0, 0)) ∧ w'.heap[bm]? = some x.2) ∧ J x.2 ∧ x.1.oneCell' = true ∧ ∀ r, srch p below m l fr = some r → RdI w' x.1 r) := by
  intro m
  induction m with
  | zero =>
    intro mi l fr sl vf om w hmi hlen hf0 hf1 hvf h1 h2 hJ h3 h4 h5 hsl hp hle
    have hone : sl.oneCell' = true := by rcases hsl with ⟨_, rfl⟩ | ⟨b, n, c, j, _, rfl, _⟩ <;> rfl
    have hcl : sl.cells = #[sl] := by rcases hsl with ⟨_, rfl⟩ | ⟨b, n, c, j, _, rfl, _⟩ <;> rfl
    have hsep2 : sepS sl [bf, bm] := fun q mm c h => by have := hsl.sep q mm c h; simp at this ⊢; exact ⟨this.1, this.2.1⟩
    refine cnxS (vs := [_, _, _, _, _, _, _]) (S := [ba, bb, bp, bf, bm]) [(bf, .cells #[vf] 22 (0, 0)), (bm, om), (bp, .cells #[.func (.func g) #[] cap] 155 (0, 0)), (bb, .cells #[vi below] 3 (0, 0)), (ba, .cells #[taddV bf bp bb ba] 187 (0, 0))] Tryz.func138 rfl rfl
      ⟨by simp [h1, h2, h3, h4, h5], by simpa using hnd, by simp⟩ ?_
    have hbut : ∀ w', HG [(w, [ba, bb, bp, bf, bm])] [(bp, .cells #[.func (.func g) #[] cap] 155 (0, 0)), (bb, .cells #[vi below] 3 (0, 0)), (ba, .cells #[taddV bf bp bb ba] 187 (0, 0))] w' → Fr [bf, bm] w w' := fun w' hw' =>
      Fr.but (Fr.but (Fr.but (hw'.fr (S := [ba, bb, bp, bf, bm]) (by simp)) (by rw [hw'.heap (ba, _) (HM.mem (by repeat constructor)), h5])) (by rw [hw'.heap (bb, _) (HM.mem (by repeat constructor)), h4])) (by rw [hw'.heap (bp, _) (HM.mem (by repeat constructor)), h3])
    all_goals refine tc_seq fun K1 hK1 => ?_
    all_goals refine tc_region ?_
    all_goals refine tl_q (y_assign rfl) rfl ?_
    all_goals refine tl_nil ?_
    all_goals (refine hK1 ?_; try (clear hK1; clear K1))
    all_goals refine tc_seq fun K2 hK2 => ?_
    all_goals refine tc_seq fun K3 hK3 => ?_
    all_goals refine tc_region ?_
    all_goals refine tl_q (y_move rfl) rfl ?_
    all_goals refine tl_q (y_eql rfl rfl) rfl ?_
    all_goals refine tl_nil ?_
    all_goals (refine hK3 ?_; try (clear hK3; clear K3))
    all_goals (
     refine tc_cond rfl (fun hc => ?_) (fun hc => ?_)
     · try simp only [decide_eq_true_eq, decide_eq_false_iff_not, Int.not_lt, Int.not_le, Bool.not_eq_true', Bool.not_eq_false', Decidable.not_not, not_true_eq_false] at hc
       all_goals first | (exfalso; with_reducible exact bft hc) | (exfalso; with_reducible exact btf hc) | (exfalso; omega) | skip
       all_goals refine tc_seq fun K4 hK4 => ?_
       all_goals refine tc_region ?_
       all_goals refine tl_q (y_move rfl) rfl ?_
       all_goals (refine tl_e (e_store1 rfl rfl (by repeat constructor) (by repeat constructor) hcl hone) rfl (fun _ _ => ?_))
       all_goals refine tl_nil ?_
       all_goals (refine hK4 ?_; try (clear hK4; clear K4))
       all_goals refine tc_seq fun K5 hK5 => ?_
       all_goals refine tc_region ?_
       all_goals refine tl_q (y_load1 rfl (by repeat constructor) (by rfl)) rfl ?_
       all_goals refine tl_q (y_move rfl) rfl ?_
       all_goals refine tl_e (e_callUf rfl rfl (.cons rfl .nil) (fun w' hw' => hp w' om l sl (hbut w' (hw'.sub (fun _ h => h) (SB.s (by repeat constructor)))) (hw'.heap _ (HM.mem (by repeat constructor))) hJ (hsl.rd.frS (hbut w' (hw'.sub (fun _ h => h) (SB.s (by repeat constructor)))) hsep2) hsep2 hone (by omega) hle) (fun _ => (by repeat constructor))) rfl (fun o' hJ' => ?_)
       all_goals refine tl_q (y_assign rfl) rfl ?_
       all_goals refine tl_nil ?_
       all_goals (refine hK5 ?_; try (clear hK5; clear K5))
       all_goals refine tc_ret ?_
       all_goals (repeat (refine tk_then_ret ?_))
       all_goals first | refine tk_ret rfl rfl (.cons (.tmp rfl) .nil) ?_ | refine tk_retM rfl (by repeat constructor) rfl (.cons (.tmp rfl) .nil) ?_
       all_goals (
        refine fun w' hw' => ⟨(sl, o'), by simp only [outV, srch]; cases p l <;> rfl, hbut w' (hw'.sub (fun _ h => h) (SB.s (by repeat constructor))), ⟨hw'.heap _ (HM.mem (by repeat constructor)), hw'.heap _ (HM.mem (by repeat constructor))⟩, hJ', hone, fun r hr => ?_⟩
        have : l = r := by simp only [srch] at hr; split at hr; exact Option.some.inj hr; cases hr
        subst this
        exact hsl.rd.frS (hbut w' (hw'.sub (fun _ h => h) (SB.s (by repeat constructor)))) hsep2)
     · try simp only [decide_eq_true_eq, decide_eq_false_iff_not, Int.not_lt, Int.not_le, Bool.not_eq_true', Bool.not_eq_false', Decidable.not_not, not_true_eq_false] at hc
       all_goals first | (exfalso; with_reducible exact bft hc) | (exfalso; with_reducible exact btf hc) | (exfalso; omega) | skip
       all_goals refine tc_skip ?_
       all_goals (refine hK2 ?_; try (clear hK2; clear K2))
       all_goals refine tc_seq fun K6 hK6 => ?_
       all_goals refine tc_seq fun K7 hK7 => ?_
       all_goals (exfalso; exact absurd rfl hc)
       all_goals refine tc_region ?_
       all_goals refine tl_q (y_move rfl) rfl ?_
       all_goals refine tl_q (y_assign rfl) rfl ?_
       all_goals refine tl_nil ?_
       all_goals (refine hK7 ?_; try (clear hK7; clear K7))
       all_goals refine tc_block ?_
       all_goals skip)
  | succ m ih =>
    intro mi l fr sl vf om w hmi hlen hf0 hf1 hvf h1 h2 hJ h3 h4 h5 hsl hp hle
    have hone : sl.oneCell' = true := by rcases hsl with ⟨_, rfl⟩ | ⟨b, n, c, j, _, rfl, _⟩ <;> rfl
    have hbut : ∀ w', HG [(w, [ba, bb, bp, bf, bm])] [(bp, .cells #[.func (.func g) #[] cap] 155 (0, 0)), (bb, .cells #[vi below] 3 (0, 0)), (ba, .cells #[taddV bf bp bb ba] 187 (0, 0))] w' → Fr [bf, bm] w w' := fun w' hw' =>
      Fr.but (Fr.but (Fr.but (hw'.fr (S := [ba, bb, bp, bf, bm]) (by simp)) (by rw [hw'.heap (ba, _) (HM.mem (by repeat constructor)), h5])) (by rw [hw'.heap (bb, _) (HM.mem (by repeat constructor)), h4])) (by rw [hw'.heap (bp, _) (HM.mem (by repeat constructor)), h3])
    have hsep2 : sepS sl [bf, bm] := fun q mm c h => by have := hsl.sep q mm c h; simp at this ⊢; exact ⟨this.1, this.2.1⟩
    have hp' : ∀ w', Fr [bf, bm] w w' → Pass Tryz.prog g cap p below [bf, bm] bm J w' := fun w' f w1 o xs v f1 => hp w1 o xs v (f.trans f1 (fun x hx => .inl hx))
    have hrd : ∀ w', Fr [bf, bm] w w' → RdI w' sl l := fun w' f => hsl.rd.frS f hsep2
    -- the slice that is handed on: of the call's own
    have hst : ∀ (w' : World) (H : List (Nat × Obj)) (b n c : Nat) (x : Int) (junk : List Value), HG [(w, [ba, bb, bp, bf, bm])] ((b, .cells (l.map vi ++ [vi x] ++ junk).toArray 3 (0, 0)) :: H) w' → n = l.length + 1 → (∀ y ∈ [bf, bm, bp, bb, ba], y ∈ H.map Prod.fst) → SlSt w' (.slice (some ⟨b, 0, none⟩) n c) (l ++ [x]) [bf, bm, bp, bb, ba] := fun w' H b n c x junk hw' hn hy =>
      .inr ⟨b, n, c, junk, by simp [hn], rfl, by have := hw'.heap _ (HM.mem (b := b) .head); simpa using this, fun hb => by have hnn := hw'.nodup; simp only [List.map_cons, List.nodup_cons] at hnn; exact hnn.1 (hy b hb)⟩
    have hih : ∀ (w' : World) (H : List (Nat × Obj)) (b n c : Nat) (j : Nat) (junk : List Value) (vf' : Value) (om' : Obj), HG [(w, [ba, bb, bp, bf, bm])] ((b, .cells (l.map vi ++ [vi (fr + (j : Int))] ++ junk).toArray 3 (0, 0)) :: H) w' → n = l.length + 1 → (∀ y ∈ [bf, bm, bp, bb, ba], y ∈ H.map Prod.fst) → vf'.oneCell' = true → J om' → fr + (j : Int) < below →
        HM bf (.cells #[vf'] 22 (0, 0)) H → HM bm om' H → HM bp (.cells #[.func (.func g) #[] cap] 155 (0, 0)) H → HM bb (.cells #[vi below] 3 (0, 0)) H → HM ba (.cells #[taddV bf bp bb ba] 187 (0, 0)) H →
        CnX Tryz.prog 138 (#[] ++ #[.slice (some ⟨b, 0, none⟩) n c, vi (fr + (j : Int) + 1), vi (mi - 1)] ++ #[ptr bf, ptr bp, ptr bb, ptr ba]) w' [bf, bm] (fun _ : Value × Obj => .bool (srch p below m (l ++ [fr + (j : Int)]) (fr + (j : Int) + 1)).isSome)
          (fun x w2 => (w2.heap[bf]? = some (.cells #[x.1] 22 (0, 0)) ∧ w2.heap[bm]? = some x.2) ∧ J x.2 ∧ x.1.oneCell' = true ∧ ∀ r, srch p below m (l ++ [fr + (j : Int)]) (fr + (j : Int) + 1) = some r → RdI w2 x.1 r) := fun w' H b n c j junk vf' om' hw' hn hy hv hJ' hj2 m1 m2 m3 m4 m5 => by
      rw [show (#[] ++ #[.slice (some ⟨b, 0, none⟩) n c, vi (fr + (j : Int) + 1), vi (mi - 1)] ++ #[ptr bf, ptr bp, ptr bb, ptr ba] : Array Value) = #[.slice (some ⟨b, 0, none⟩) n c, vi (fr + (j : Int) + 1), vi (mi - 1), ptr bf, ptr bp, ptr bb, ptr ba] from by simp]
      exact ih (mi - 1) (l ++ [fr + (j : Int)]) (fr + (j : Int) + 1) _ vf' om' w' (by omega) (by simp; omega) (by omega) (by omega) hv (hw'.heap _ (HM.mem (.tail m1))) (hw'.heap _ (HM.mem (.tail m2))) hJ' (hw'.heap _ (HM.mem (.tail m3))) (hw'.heap _ (HM.mem (.tail m4))) (hw'.heap _ (HM.mem (.tail m5))) (hst w' H b n c _ junk hw' hn hy)
        (hp' w' (hbut w' (hw'.pick _ (fun q hq => by
          rcases (by simpa using hq : q = _ ∨ q = _ ∨ q = _) with rfl | rfl | rfl
          · exact HM.mem (.tail m3)
          · exact HM.mem (.tail m4)
          · exact HM.mem (.tail m5)) (by simp at hnd ⊢; omega)))) (fun x hx => by
          rcases List.mem_append.1 hx with h | h
          · exact hle x h
          · obtain rfl := List.mem_singleton.1 h; omega)
    refine cnxS (vs := [_, _, _, _, _, _, _]) (S := [ba, bb, bp, bf, bm]) [(bf, .cells #[vf] 22 (0, 0)), (bm, om), (bp, .cells #[.func (.func g) #[] cap] 155 (0, 0)), (bb, .cells #[vi below] 3 (0, 0)), (ba, .cells #[taddV bf bp bb ba] 187 (0, 0))] Tryz.func138 rfl rfl
      ⟨by simp [h1, h2, h3, h4, h5], by simpa using hnd, by simp⟩ ?_
    all_goals refine tc_seq fun K1 hK1 => ?_
    all_goals refine tc_region ?_
    all_goals refine tl_q (y_assign rfl) rfl ?_
    all_goals refine tl_nil ?_
    all_goals (refine hK1 ?_; try (clear hK1; clear K1))
    all_goals refine tc_seq fun K2 hK2 => ?_
    all_goals refine tc_seq fun K3 hK3 => ?_
    all_goals refine tc_region ?_
    all_goals refine tl_q (y_move rfl) rfl ?_
    all_goals refine tl_q (y_eql rfl rfl) rfl ?_
    all_goals refine tl_nil ?_
    all_goals (refine hK3 ?_; try (clear hK3; clear K3))
    all_goals (
     refine tc_cond rfl (fun hc => ?_) (fun hc => ?_)
     · try simp only [decide_eq_true_eq, decide_eq_false_iff_not, Int.not_lt, Int.not_le, Bool.not_eq_true', Bool.not_eq_false', Decidable.not_not, not_true_eq_false] at hc
       all_goals first | (exfalso; with_reducible exact bft hc) | (exfalso; with_reducible exact btf hc) | (exfalso; omega) | skip
       all_goals refine tc_seq fun K4 hK4 => ?_
       all_goals (exfalso; omega)
       all_goals refine tc_region ?_
       all_goals refine tl_q (y_move rfl) rfl ?_
       all_goals refine tl_e (e_store1 rfl rfl (by repeat constructor) (by repeat constructor) (by rfl) (by rfl)) rfl (fun _ _ => ?_)
       all_goals refine tl_nil ?_
       all_goals (refine hK4 ?_; try (clear hK4; clear K4))
       all_goals refine tc_seq fun K5 hK5 => ?_
       all_goals refine tc_region ?_
       all_goals refine tl_q (y_load1 rfl (by repeat constructor) (by rfl)) rfl ?_
       all_goals refine tl_q (y_move rfl) rfl ?_
       all_goals (first | refine tl_e (e_callU2f (val := fun _ => .bool false) (p := fun y : Value × Obj => J y.2 ∧ y.1.oneCell' = true) (ob := fun x : Value × Obj => .cells #[x.1] 22 (0, 0)) (oc := fun x : Value × Obj => x.2) rfl rfl (.cons rfl .nil) (fun w' hw' => CnX.imp (val' := fun _ : Value × Obj => .bool false) (hih w' _ _ _ _ j _ _ _ hw' rfl (by simp) hvf' hJ' (by omega) (by repeat constructor) (by repeat constructor) (by repeat constructor) (by repeat constructor) (by repeat constructor)) id (fun _ => congrArg (fun o : Option (List Int) => Value.bool o.isSome) hsr.symm) (fun _ h => h) (fun x w2 _ hx => ⟨⟨hx.2.1, hx.2.2.1⟩, hx.1⟩)) (fun _ => (by repeat constructor)) (fun _ => (by repeat constructor))) rfl (fun _ _ => ?_))
       all_goals refine tl_q (y_assign rfl) rfl ?_
       all_goals refine tl_nil ?_
       all_goals (refine hK5 ?_; try (clear hK5; clear K5))
       all_goals refine tc_ret ?_
       all_goals (repeat (first | refine tk_then_ret ?_))
       all_goals first | refine tk_ret rfl rfl (.cons (.tmp rfl) .nil) ?_ | refine tk_retM rfl (by repeat constructor) rfl (.cons (.tmp rfl) .nil) ?_
       all_goals (
        first
        | (refine fun w' hw' => ?_
           have f0 : Fr [] y.2.2 w' := hw'.fr (by simp)
           have f1 := hbut y.2.1 (hy.1.sub (fun _ h => h) (SB.s (by repeat constructor)))
           have e1 : srch p below (m + 1) _ fr = some rs := fs_hit (j := j) (by omega) hsr hno
           exact ⟨y.1, by rw [e1]; rfl, (f1.trans hy.2.1 (fun x hx => .inl hx)).trans f0 (by simp), ⟨f0.keep hy.2.2.1.1, f0.keep hy.2.2.1.2⟩, hy.2.2.2.1, hy.2.2.2.2.1, fun r hr => by rw [e1] at hr; cases hr; exact hy.2.2.2.2.2.fr f0⟩)
        | (have e1 : srch p below (m + 1) l fr = none := fs_miss (fun k hk => hno k (by omega))
           exact fun w' hw' => ⟨(vf', om'), by rw [e1]; rfl, hbut w' (hw'.sub (fun _ h => h) (SB.s (by repeat constructor))), ⟨hw'.heap _ (HM.mem (by repeat constructor)), hw'.heap _ (HM.mem (by repeat constructor))⟩, hJ', hvf', fun r hr => by rw [e1] at hr; cases hr⟩))
     · try simp only [decide_eq_true_eq, decide_eq_false_iff_not, Int.not_lt, Int.not_le, Bool.not_eq_true', Bool.not_eq_false', Decidable.not_not, not_true_eq_false] at hc
       all_goals first | (exfalso; with_reducible exact bft hc) | (exfalso; with_reducible exact btf hc) | (exfalso; omega) | skip
       all_goals refine tc_skip ?_
       all_goals (refine hK2 ?_; try (clear hK2; clear K2))
       all_goals refine tc_seq fun K6 hK6 => ?_
       all_goals refine tc_seq fun K7 hK7 => ?_
       all_goals refine tc_region ?_
       all_goals refine tl_q (y_move rfl) rfl ?_
       all_goals refine tl_q (y_assign rfl) rfl ?_
       all_goals refine tl_nil ?_
       all_goals (refine hK7 ?_; try (clear hK7; clear K7))
       all_goals refine tc_block ?_
       all_goals (
        refine tc_loop (fun p' : Nat × Value × Obj => p'.1 ≤ (below - m - fr).toNat ∧ J p'.2.2 ∧ p'.2.1.oneCell' = true ∧ ∀ k : Nat, k < p'.1 → srch p below m (l ++ [fr + (k : Int)]) (fr + (k : Int) + 1) = none) (fun p' => [(0, sl), (2, vi mi), (3, ptr bf), (4, ptr bp), (5, ptr bb), (6, ptr ba), (11, vi (fr + (p'.1 : Int)))]) (fun _ => [(w, [ba, bb, bp, bf, bm])]) (fun p' => [(bf, .cells #[p'.2.1] 22 (0, 0)), (bm, p'.2.2), (bp, .cells #[.func (.func g) #[] cap] 155 (0, 0)), (bb, .cells #[vi below] 3 (0, 0)), (ba, .cells #[taddV bf bp bb ba] 187 (0, 0))]) (fun p' => (below - m - fr).toNat - p'.1) ?_ ?_
        · refine tk_start (0, vf, om) ⟨Nat.zero_le _, hJ, hvf, fun k hk => absurd hk (Nat.not_lt_zero k)⟩ ?_ (fun _ h => h.sub (fun _ h => h) (SB.s (by repeat constructor)))
          dsimp only
          rw [show fr + ((0 : Nat) : Int) = fr from by omega]
          exact .cons rfl (.cons rfl (.cons rfl (.cons rfl (.cons rfl (.cons rfl (.cons rfl .nil))))))
        · rintro ⟨j, vf', om'⟩ ⟨hj, hJ', hvf', hno⟩
          dsimp only at hj hJ' hvf' hno ⊢
          all_goals refine tc_seq fun K8 hK8 => ?_
          all_goals refine tc_seq fun K9 hK9 => ?_
          all_goals refine tc_region ?_
          all_goals refine tl_q (y_move rfl) rfl ?_
          all_goals refine tl_q (y_load1 rfl (by repeat constructor) (by rfl)) rfl ?_
          all_goals refine tl_q (y_move rfl) rfl ?_
          all_goals refine tl_q (y_sub rfl rfl (by omega)) rfl ?_
          all_goals refine tl_q (y_leq rfl rfl) rfl ?_
          all_goals refine tl_nil ?_
          all_goals (refine hK9 ?_; try (clear hK9; clear K9))
          all_goals (
           refine tc_cond rfl (fun hc => ?_) (fun hc => ?_)
           · try simp only [decide_eq_true_eq, decide_eq_false_iff_not, Int.not_lt, Int.not_le, Bool.not_eq_true', Bool.not_eq_false', Decidable.not_not, not_true_eq_false] at hc
             all_goals first | (exfalso; with_reducible exact bft hc) | (exfalso; with_reducible exact btf hc) | (exfalso; omega) | skip
             all_goals refine tc_skip ?_
             all_goals (refine hK8 ?_; try (clear hK8; clear K8))
             all_goals refine tc_seq fun K10 hK10 => ?_
             all_goals refine tc_block ?_
             all_goals refine tc_seq fun K11 hK11 => ?_
             all_goals (rcases hsr : srch p below m (l ++ [fr + (j : Int)]) (fr + (j : Int) + 1) with _ | rs <;> rcases hsl with ⟨rfl, rfl⟩ | ⟨b0, _, c0, j0, rfl, rfl, hh0, hb0⟩)
             all_goals refine tc_draw (by kernel_rfl) ?_
             all_goals refine tx_qS 0 rfl (by kernel_rfl) (y_load1 rfl (by repeat constructor) (by rfl)) rfl (fun _ _ _ h => h) (fun _ h => h.subl (SB.s (by repeat constructor)) (SB.s (by repeat constructor))) ?_
             all_goals refine tx_p 1 rfl (by kernel_rfl) (y_move rfl) rfl (fun _ _ _ h => h) (fun _ h => h.subl (SB.s (by repeat constructor)) (SB.s (by repeat constructor))) ?_
             all_goals refine tx_p 3 rfl (by kernel_rfl) (y_move rfl) rfl (fun _ _ _ h => h) (fun _ h => h.subl (SB.s (by repeat constructor)) (SB.s (by repeat constructor))) ?_
             all_goals refine tx_p 6 rfl (by kernel_rfl) (y_move rfl) rfl (fun _ _ _ h => h) (fun _ h => h.subl (SB.s (by repeat constructor)) (SB.s (by repeat constructor))) ?_
             all_goals refine tx_p 7 rfl (by kernel_rfl) (y_add rfl rfl (by omega)) rfl (fun _ _ _ h => h) (fun _ h => h.subl (SB.s (by repeat constructor)) (SB.s (by repeat constructor))) ?_
             all_goals refine tx_p 8 rfl (by kernel_rfl) (y_move rfl) rfl (fun _ _ _ h => h) (fun _ h => h.subl (SB.s (by repeat constructor)) (SB.s (by repeat constructor))) ?_
             all_goals refine tx_p 9 rfl (by kernel_rfl) (y_sub rfl rfl (by omega)) rfl (fun _ _ _ h => h) (fun _ h => h.subl (SB.s (by repeat constructor)) (SB.s (by repeat constructor))) ?_
             all_goals (
              refine tx_pair 2 4 (by kernel_rfl) ?_ ?_
              rotate_left
              focus (
               (refine to_e rfl rfl (e_bslice rfl (by (repeat (first | exact .nil | apply PV.one rfl rfl)); done) rfl rfl) (.inr ⟨fun _ _ h => h.subl (SB.s (by repeat constructor)) (SB.s (by repeat constructor)), fun _ h => h⟩) (fun _ _ => ?_))
               all_goals (first | refine tx_single 2 (by kernel_rfl) (to_e rfl rfl (e_callB rfl (.cons rfl .nil) (fun w' hw' => clone_own b0 c0 l (by omega) w' (hrd w' (hbut w' (hw'.sub (fun _ h => h) (SB.s (by repeat constructor))))))) (.inr ⟨fun _ _ h => h.subl (SB.s (by repeat constructor)) (SB.s (by repeat constructor)), fun _ h => h⟩) (fun r hr3 => ?_)) | refine tx_single 2 (by kernel_rfl) (to_e rfl rfl (e_callV rfl (.cons rfl .nil) (fun w' _ => clone_nil w')) (.inr ⟨fun _ _ h => h.subl (SB.s (by repeat constructor)) (SB.s (by repeat constructor)), fun _ h => h⟩) (fun r hr3 => ?_)))
               all_goals (first | refine tx_single 5 (by kernel_rfl) (to_e rfl rfl (e_append_own (old := l.map vi) (junk := r.2.2) rfl rfl rfl (by repeat constructor) (by simp) (by omega) hr3.1 (fun w' hw' => RdI.own0 (xs := [fr + (j : Int)]) hw' (by repeat constructor)) (fun u hu => by obtain ⟨_, _, rfl⟩ := List.mem_map.1 hu; rfl) (by simp only [List.length_cons, List.length_nil]; omega) rfl) (.inr ⟨fun _ _ h => h.subl (SB.s (by repeat constructor)) (SB.s (by repeat constructor)), fun _ h => h⟩) (fun q hq => ?_)) | refine tx_single 5 (by kernel_rfl) (to_e rfl rfl (e_append_nil rfl rfl rfl (fun w' hw' => RdI.own0 (xs := [fr + (j : Int)]) hw' (by repeat constructor)) (fun u hu => by obtain ⟨_, _, rfl⟩ := List.mem_map.1 hu; rfl) Nat.zero_lt_one (Nat.le_of_ble_eq_true rfl) rfl) (.inr ⟨fun _ _ h => h.subl (SB.s (by repeat constructor)) (SB.s (by repeat constructor)), fun _ h => h⟩) (fun q hq => ?_)))
               all_goals (first | refine tx_single 10 (by kernel_rfl) (to_e (S' := HG [] []) rfl rfl (e_callU2f (val := fun _ => .bool false) (p := fun y : Value × Obj => J y.2 ∧ y.1.oneCell' = true) (ob := fun x : Value × Obj => .cells #[x.1] 22 (0, 0)) (oc := fun x : Value × Obj => x.2) rfl rfl (.cons rfl (.cons rfl (.cons rfl .nil))) (fun w' hw' => CnX.imp (val' := fun _ : Value × Obj => .bool false) (hih w' _ _ _ _ j _ _ _ hw' rfl (by simp) hvf' hJ' (by omega) (by repeat constructor) (by repeat constructor) (by repeat constructor) (by repeat constructor) (by repeat constructor)) id (fun _ => congrArg (fun o : Option (List Int) => Value.bool o.isSome) hsr.symm) (fun _ h => h) (fun x w2 _ hx => ⟨⟨hx.2.1, hx.2.2.1⟩, hx.1⟩)) (fun _ => (by repeat constructor)) (fun _ => (by repeat constructor))) (.inl (by kernel_rfl)) (fun y hy => ?_)) | refine tx_single 10 (by kernel_rfl) (to_e (S' := HG [] []) rfl rfl (e_callEnd (val := fun _ => .bool true) (p := fun (x : Value × Obj) (w2 : World) => (w2.heap[bf]? = some (.cells #[x.1] 22 (0, 0)) ∧ w2.heap[bm]? = some x.2) ∧ J x.2 ∧ x.1.oneCell' = true ∧ RdI w2 x.1 rs) rfl rfl (.cons rfl (.cons rfl (.cons rfl .nil))) (fun w' hw' => CnX.imp (val' := fun _ : Value × Obj => .bool true) (hih w' _ _ _ _ j _ _ _ hw' rfl (by simp) hvf' hJ' (by omega) (by repeat constructor) (by repeat constructor) (by repeat constructor) (by repeat constructor) (by repeat constructor)) id (fun _ => congrArg (fun o : Option (List Int) => Value.bool o.isSome) hsr.symm) (fun _ h => h) (fun x w2 _ hx => ⟨hx.1, hx.2.1, hx.2.2.1, hx.2.2.2 rs hsr⟩)) (fun w' hw' β hβ x hx => .inl (by obtain rfl := List.mem_singleton.1 hβ; simp only [List.mem_cons, List.not_mem_nil, or_false] at hx ⊢; omega))) (.inl (by kernel_rfl)) (fun y hy => ?_)))
               all_goals refine tx_done (by kernel_rfl) ?_)
              rotate_right
              focus (
               (first | refine to_e rfl rfl (e_callB rfl (.cons rfl .nil) (fun w' hw' => clone_own b0 c0 l (by omega) w' (hrd w' (hbut w' (hw'.sub (fun _ h => h) (SB.s (by repeat constructor))))))) (.inr ⟨fun _ _ h => h.subl (SB.s (by repeat constructor)) (SB.s (by repeat constructor)), fun _ h => h⟩) (fun r hr3 => ?_) | refine to_e rfl rfl (e_callV rfl (.cons rfl .nil) (fun w' _ => clone_nil w')) (.inr ⟨fun _ _ h => h.subl (SB.s (by repeat constructor)) (SB.s (by repeat constructor)), fun _ h => h⟩) (fun r hr3 => ?_))
               all_goals refine tx_single 4 (by kernel_rfl) (to_e rfl rfl (e_bslice rfl (by (repeat (first | exact .nil | apply PV.one rfl rfl)); done) rfl rfl) (.inr ⟨fun _ _ h => h.subl (SB.s (by repeat constructor)) (SB.s (by repeat constructor)), fun _ h => h⟩) (fun _ _ => ?_))
               all_goals (first | refine tx_single 5 (by kernel_rfl) (to_e rfl rfl (e_append_own (old := l.map vi) (junk := r.2.2) rfl rfl rfl (by repeat constructor) (by simp) (by omega) hr3.1 (fun w' hw' => RdI.own0 (xs := [fr + (j : Int)]) hw' (by repeat constructor)) (fun u hu => by obtain ⟨_, _, rfl⟩ := List.mem_map.1 hu; rfl) (by simp only [List.length_cons, List.length_nil]; omega) rfl) (.inr ⟨fun _ _ h => h.subl (SB.s (by repeat constructor)) (SB.s (by repeat constructor)), fun _ h => h⟩) (fun q hq => ?_)) | refine tx_single 5 (by kernel_rfl) (to_e rfl rfl (e_append_nil rfl rfl rfl (fun w' hw' => RdI.own0 (xs := [fr + (j : Int)]) hw' (by repeat constructor)) (fun u hu => by obtain ⟨_, _, rfl⟩ := List.mem_map.1 hu; rfl) Nat.zero_lt_one (Nat.le_of_ble_eq_true rfl) rfl) (.inr ⟨fun _ _ h => h.subl (SB.s (by repeat constructor)) (SB.s (by repeat constructor)), fun _ h => h⟩) (fun q hq => ?_)))
               all_goals (first | refine tx_single 10 (by kernel_rfl) (to_e (S' := HG [] []) rfl rfl (e_callU2f (val := fun _ => .bool false) (p := fun y : Value × Obj => J y.2 ∧ y.1.oneCell' = true) (ob := fun x : Value × Obj => .cells #[x.1] 22 (0, 0)) (oc := fun x : Value × Obj => x.2) rfl rfl (.cons rfl (.cons rfl (.cons rfl .nil))) (fun w' hw' => CnX.imp (val' := fun _ : Value × Obj => .bool false) (hih w' _ _ _ _ j _ _ _ hw' rfl (by simp) hvf' hJ' (by omega) (by repeat constructor) (by repeat constructor) (by repeat constructor) (by repeat constructor) (by repeat constructor)) id (fun _ => congrArg (fun o : Option (List Int) => Value.bool o.isSome) hsr.symm) (fun _ h => h) (fun x w2 _ hx => ⟨⟨hx.2.1, hx.2.2.1⟩, hx.1⟩)) (fun _ => (by repeat constructor)) (fun _ => (by repeat constructor))) (.inl (by kernel_rfl)) (fun y hy => ?_)) | refine tx_single 10 (by kernel_rfl) (to_e (S' := HG [] []) rfl rfl (e_callEnd (val := fun _ => .bool true) (p := fun (x : Value × Obj) (w2 : World) => (w2.heap[bf]? = some (.cells #[x.1] 22 (0, 0)) ∧ w2.heap[bm]? = some x.2) ∧ J x.2 ∧ x.1.oneCell' = true ∧ RdI w2 x.1 rs) rfl rfl (.cons rfl (.cons rfl (.cons rfl .nil))) (fun w' hw' => CnX.imp (val' := fun _ : Value × Obj => .bool true) (hih w' _ _ _ _ j _ _ _ hw' rfl (by simp) hvf' hJ' (by omega) (by repeat constructor) (by repeat constructor) (by repeat constructor) (by repeat constructor) (by repeat constructor)) id (fun _ => congrArg (fun o : Option (List Int) => Value.bool o.isSome) hsr.symm) (fun _ h => h) (fun x w2 _ hx => ⟨hx.1, hx.2.1, hx.2.2.1, hx.2.2.2 rs hsr⟩)) (fun w' hw' β hβ x hx => .inl (by obtain rfl := List.mem_singleton.1 hβ; simp only [List.mem_cons, List.not_mem_nil, or_false] at hx ⊢; omega))) (.inl (by kernel_rfl)) (fun y hy => ?_)))
               all_goals refine tx_done (by kernel_rfl) ?_))
             all_goals (refine hK11 ?_; try (clear hK11; clear K11))
             all_goals (
              refine tc_cond rfl (fun hc => ?_) (fun hc => ?_)
              · try simp only [decide_eq_true_eq, decide_eq_false_iff_not, Int.not_lt, Int.not_le, Bool.not_eq_true', Bool.not_eq_false', Decidable.not_not, not_true_eq_false] at hc
                all_goals first | (exfalso; with_reducible exact bft hc) | (exfalso; with_reducible exact btf hc) | (exfalso; omega) | skip
                all_goals refine tc_seq fun K12 hK12 => ?_
                all_goals refine tc_region ?_
                all_goals refine tl_q (y_assign rfl) rfl ?_
                all_goals refine tl_nil ?_
                all_goals (refine hK12 ?_; try (clear hK12; clear K12))
                all_goals refine tc_ret ?_
                all_goals (repeat (first | refine tk_then_ret ?_ | refine tk_block_ret ?_))
                all_goals first | refine tk_ret rfl rfl (.cons (.tmp rfl) .nil) ?_ | refine tk_retM rfl (by repeat constructor) rfl (.cons (.tmp rfl) .nil) ?_
                all_goals (
                 first
                 | (refine fun w' hw' => ?_
                    have f0 : Fr [] y.2.2 w' := hw'.fr (by simp)
                    have f1 := hbut y.2.1 (hy.1.sub (fun _ h => h) (SB.s (by repeat constructor)))
                    have e1 : srch p below (m + 1) _ fr = some rs := fs_hit (j := j) (by omega) hsr hno
                    exact ⟨y.1, by rw [e1]; rfl, (f1.trans hy.2.1 (fun x hx => .inl hx)).trans f0 (by simp), ⟨f0.keep hy.2.2.1.1, f0.keep hy.2.2.1.2⟩, hy.2.2.2.1, hy.2.2.2.2.1, fun r hr => by rw [e1] at hr; cases hr; exact hy.2.2.2.2.2.fr f0⟩)
                 | (have e1 : srch p below (m + 1) l fr = none := fs_miss (fun k hk => hno k (by omega))
                    exact fun w' hw' => ⟨(vf', om'), by rw [e1]; rfl, hbut w' (hw'.sub (fun _ h => h) (SB.s (by repeat constructor))), ⟨hw'.heap _ (HM.mem (by repeat constructor)), hw'.heap _ (HM.mem (by repeat constructor))⟩, hJ', hvf', fun r hr => by rw [e1] at hr; cases hr⟩))
              · try simp only [decide_eq_true_eq, decide_eq_false_iff_not, Int.not_lt, Int.not_le, Bool.not_eq_true', Bool.not_eq_false', Decidable.not_not, not_true_eq_false] at hc
                all_goals first | (exfalso; with_reducible exact bft hc) | (exfalso; with_reducible exact btf hc) | (exfalso; omega) | skip
                all_goals refine tc_skip ?_
                all_goals (refine hK10 ?_; try (clear hK10; clear K10))
                all_goals refine tc_region ?_
                all_goals refine tl_q (y_move rfl) rfl ?_
                all_goals refine tl_q (y_add rfl rfl (by omega)) rfl ?_
                all_goals refine tl_q (y_assign rfl) rfl ?_
                all_goals refine tl_nil ?_
                all_goals (
                 all_goals refine tk_round (j + 1, y.1, y.2) ⟨by omega, hy.1, hy.2, fun k hk => ?_⟩ (by omega) ?_ (fun _ h => h.sub (fun _ h => h) (SB.s (by repeat constructor)))
                 · rcases Nat.lt_succ_iff_lt_or_eq.1 hk with h | rfl
                   · exact hno k h
                   · exact hsr
                 · dsimp only
                   rw [show fr + ((j + 1 : Nat) : Int) = fr + (j : Int) + 1 from by omega]
                   exact .cons rfl (.cons rfl (.cons rfl (.cons rfl (.cons rfl (.cons rfl (.cons rfl .nil))))))))
           · try simp only [decide_eq_true_eq, decide_eq_false_iff_not, Int.not_lt, Int.not_le, Bool.not_eq_true', Bool.not_eq_false', Decidable.not_not, not_true_eq_false] at hc
             all_goals first | (exfalso; with_reducible exact bft hc) | (exfalso; with_reducible exact btf hc) | (exfalso; omega) | skip
             all_goals refine tc_exit ?_
             all_goals (refine hK6 ?_; try (clear hK6; clear K6))
             all_goals refine tc_seq fun K13 hK13 => ?_
             all_goals refine tc_region ?_
             all_goals refine tl_q (y_assign rfl) rfl ?_
             all_goals refine tl_nil ?_
             all_goals (refine hK13 ?_; try (clear hK13; clear K13))
             all_goals refine tc_ret ?_
             all_goals (repeat (first | refine tk_then_ret ?_))
             all_goals first | refine tk_ret rfl rfl (.cons (.tmp rfl) .nil) ?_ | refine tk_retM rfl (by repeat constructor) rfl (.cons (.tmp rfl) .nil) ?_
             all_goals (
              first
              | (refine fun w' hw' => ?_
                 have f0 : Fr [] y.2.2 w' := hw'.fr (by simp)
                 have f1 := hbut y.2.1 (hy.1.sub (fun _ h => h) (SB.s (by repeat constructor)))
                 have e1 : srch p below (m + 1) _ fr = some rs := fs_hit (j := j) (by omega) hsr hno
                 exact ⟨y.1, by rw [e1]; rfl, (f1.trans hy.2.1 (fun x hx => .inl hx)).trans f0 (by simp), ⟨f0.keep hy.2.2.1.1, f0.keep hy.2.2.1.2⟩, hy.2.2.2.1, hy.2.2.2.2.1, fun r hr => by rw [e1] at hr; cases hr; exact hy.2.2.2.2.2.fr f0⟩)
              | (have e1 : srch p below (m + 1) l fr = none := fs_miss (fun k hk => hno k (by omega))
                 exact fun w' hw' => ⟨(vf', om'), by rw [e1]; rfl, hbut w' (hw'.sub (fun _ h => h) (SB.s (by repeat constructor))), ⟨hw'.heap _ (HM.mem (by repeat constructor)), hw'.heap _ (HM.mem (by repeat constructor))⟩, hJ', hvf', fun r hr => by rw [e1] at hr; cases hr⟩)))))
def searchT (p : List Int → Bool) (below : Nat) : Option (List Int) := (List.range (below + 1)).findSome? fun (k : Nat) => srch p below k [] 0
theorem tlists_c (g : FuncId) [GoFn Tryz.prog g] (cap : Array Value) (p : List Int → Bool) (below : Nat) (hbl2 : below ≤ 18) (bm : Nat) (om : Obj) (J : Obj → Prop) (w : World) (h2 : w.heap[bm]? = some om) (hJ : J om) (hp : Pass Tryz.prog g cap p below [bm] bm J w) :
    CnX Tryz.prog 88 #[vi below, .func (.func g) #[] cap] w [bm] (fun x : Value × Obj => .tuple #[x.1, .bool (searchT p below).isSome])
      (fun x w' => w'.heap[bm]? = some x.2 ∧ J x.2 ∧ x.1.oneCell' = true ∧ ∀ r, searchT p below = some r → RdI w' x.1 r) := by
  have hadd : ∀ (w' : World) (H : List (Nat × Obj)) (bf bp bb ba : Nat) (m : Nat) (vf : Value) (om' : Obj), HG [(w, [bm])] H w' → [bf, bm, bp, bb, ba].Nodup → m ≤ 20 → vf.oneCell' = true → J om' → HM bf (.cells #[vf] 22 (0, 0)) H → HM bm om' H → HM bp (.cells #[.func (.func g) #[] cap] 155 (0, 0)) H → HM bb (.cells #[vi below] 3 (0, 0)) H → HM ba (.cells #[taddV bf bp bb ba] 187 (0, 0)) H →
      CnX Tryz.prog 138 (#[] ++ #[.slice none 0 0, vi 0, vi m] ++ #[ptr bf, ptr bp, ptr bb, ptr ba]) w' [bf, bm] (fun _ : Value × Obj => .bool (srch p below m [] 0).isSome)
        (fun x w' => (w'.heap[bf]? = some (.cells #[x.1] 22 (0, 0)) ∧ w'.heap[bm]? = some x.2) ∧ J x.2 ∧ x.1.oneCell' = true ∧ ∀ r, srch p below m [] 0 = some r → RdI w' x.1 r) := fun w' H bf bp bb ba m vf om' hw' hnd hm hvf hJ' m1 m2 m3 m4 m5 => by
    rw [show (#[] ++ #[.slice none 0 0, vi 0, vi m] ++ #[ptr bf, ptr bp, ptr bb, ptr ba] : Array Value) = #[.slice none 0 0, vi 0, vi m, ptr bf, ptr bp, ptr bb, ptr ba] from by simp]
    have hbf : w.heap.size ≤ bf := (hw'.own _ (HM.mem m1) (w, [bm]) (by simp)).resolve_left (by simp at hnd ⊢; omega)
    exact tadd_c g cap p below (by omega) (by omega) bf bm bp bb ba hnd J m m [] 0 (.slice none 0 0) vf om' w' rfl (by simpa using hm) (by omega) (by omega) hvf (hw'.heap _ (HM.mem m1)) (hw'.heap _ (HM.mem m2)) hJ' (hw'.heap _ (HM.mem m3)) (hw'.heap _ (HM.mem m4)) (hw'.heap _ (HM.mem m5)) (.inl ⟨rfl, rfl⟩)
      (hp.more (hw'.fr (by simp)) (fun x hx => by rcases (by simpa using hx : x = bf ∨ x = bm) with rfl | rfl; exact .inr hbf; exact .inl (by simp)) (by simp)) (fun x hx => by simp at hx)
  refine cnxS (vs := [_, _]) (S := [bm]) [(bm, om)] Tryz.func88 rfl rfl ⟨by simp [h2], by simp, by simp⟩ ?_
  all_goals refine tc_seq fun K1 hK1 => ?_
  all_goals refine tc_region ?_
  all_goals refine tl_e (e_box rfl rfl rfl) rfl (fun bb _ => ?_)
  all_goals refine tl_e (e_box rfl rfl rfl) rfl (fun bp _ => ?_)
  all_goals refine tl_q (y_assign rfl) rfl ?_
  all_goals refine tl_q (y_assign rfl) rfl ?_
  all_goals refine tl_nil ?_
  all_goals (refine hK1 ?_; try (clear hK1; clear K1))
  all_goals refine tc_scope ?_
  all_goals refine tc_seq fun K2 hK2 => ?_
  all_goals refine tc_region ?_
  all_goals refine tl_e (e_alloc1 rfl) rfl (fun bf _ => ?_)
  all_goals refine tl_nil ?_
  all_goals (refine hK2 ?_; try (clear hK2; clear K2))
  all_goals refine tc_seq fun K3 hK3 => ?_
  all_goals refine tc_region ?_
  all_goals refine tl_e (e_alloc1 rfl) rfl (fun ba _ => ?_)
  all_goals refine tl_nil ?_
  all_goals (refine hK3 ?_; try (clear hK3; clear K3))
  all_goals refine tc_seq fun K4 hK4 => ?_
  all_goals refine tc_region ?_
  all_goals refine tl_q (y_fn .nil (.cons rfl (.cons rfl (.cons rfl (.cons rfl .nil))))) rfl ?_
  all_goals refine tl_e (e_store1 rfl rfl (by repeat constructor) (by repeat constructor) (by rfl) (by rfl)) rfl (fun _ _ => ?_)
  all_goals refine tl_nil ?_
  all_goals (refine hK4 ?_; try (clear hK4; clear K4))
  all_goals refine tc_seq fun K5 hK5 => ?_
  all_goals refine tc_fact ([bf, bm, bp, bb, ba].Nodup ∧ w.heap.size ≤ bf) (fun w' hw' => ⟨by have := hw'.nodup; simp at this ⊢; omega, ?_⟩) (fun hf => ?_)
  · have := hw'.nodup
    exact (hw'.own (bf, _) (HM.mem (by repeat constructor)) (w, [bm]) (by simp)).resolve_left (by simp at this ⊢; omega)
  have hSx : ∀ x ∈ [bf, bm], x ∈ [bm] ∨ w.heap.size ≤ x := fun x hx => by
    rcases (by simpa using hx : x = bf ∨ x = bm) with rfl | rfl
    · exact .inr hf.2
    · exact .inl (by simp)
  all_goals refine tc_region ?_
  all_goals refine tl_q (y_assign rfl) rfl ?_
  all_goals refine tl_nil ?_
  all_goals (refine hK5 ?_; try (clear hK5; clear K5))
  all_goals refine tc_seq fun K6 hK6 => ?_
  all_goals refine tc_label ?_
  all_goals (refine hK6 ?_; try (clear hK6; clear K6))
  all_goals refine tc_seq fun K7 hK7 => ?_
  all_goals refine tc_seq fun K8 hK8 => ?_
  all_goals refine tc_region ?_
  all_goals (refine tl_q (y_load1 rfl (by repeat constructor) (by rfl)) rfl ?_)
  all_goals refine tl_q (y_add rfl rfl (by omega)) rfl ?_
  all_goals refine tl_q (y_move rfl) rfl ?_
  all_goals refine tl_nil ?_
  all_goals (refine hK8 ?_; try (clear hK8; clear K8))
  all_goals refine tc_block ?_
  all_goals (
   refine tc_loop (fun q : Nat × Value × Obj => q.1 ≤ below + 1 ∧ J q.2.2 ∧ q.2.1.oneCell' = true ∧ ∀ k : Nat, k < q.1 → srch p below k [] 0 = none) (fun q => [(2, ptr bb), (3, ptr bp), (6, ptr bf), (7, ptr ba), (8, .bool false), (12, vi ((below : Int) + 1)), (13, vi q.1)]) (fun _ => [(w, [bm])]) (fun q => [(ba, .cells #[taddV bf bp bb ba] 187 (0, 0)), (bf, .cells #[q.2.1] 22 (0, 0)), (bp, .cells #[.func (.func g) #[] cap] 155 (0, 0)), (bb, .cells #[vi below] 3 (0, 0)), (bm, q.2.2)]) (fun q => below + 1 - q.1) ?_ ?_
   · exact tk_start (0, .slice none 0 0, om) ⟨Nat.zero_le _, hJ, rfl, fun k hk => absurd hk (Nat.not_lt_zero k)⟩ (.cons rfl (.cons rfl (.cons rfl (.cons rfl (.cons rfl (.cons rfl (.cons rfl .nil))))))) (fun _ h => h)
   · rintro ⟨k, vf, om'⟩ ⟨hk, hJ', hvf, hno⟩
     dsimp only at hk hJ' hvf hno ⊢
     all_goals refine tc_seq fun K9 hK9 => ?_
     all_goals refine tc_region ?_
     all_goals refine tl_q (y_lss rfl rfl) rfl ?_
     all_goals refine tl_nil ?_
     all_goals (refine hK9 ?_; try (clear hK9; clear K9))
     all_goals refine tc_seq fun K10 hK10 => ?_
     all_goals (
      refine tc_cond rfl (fun hc => ?_) (fun hc => ?_)
      · try simp only [decide_eq_true_eq, decide_eq_false_iff_not, Int.not_lt, Int.not_le, Bool.not_eq_true', Bool.not_eq_false', Decidable.not_not, not_true_eq_false] at hc
        all_goals first | (exfalso; with_reducible exact bft hc) | (exfalso; with_reducible exact btf hc) | (exfalso; omega) | skip
        all_goals refine tc_skip ?_
        all_goals (refine hK10 ?_; try (clear hK10; clear K10))
        all_goals refine tc_seq fun K11 hK11 => ?_
        all_goals refine tc_block ?_
        all_goals refine tc_seq fun K12 hK12 => ?_
        all_goals refine tc_region ?_
        all_goals refine tl_q (y_move rfl) rfl ?_
        all_goals refine tl_q (y_assign rfl) rfl ?_
        all_goals refine tl_nil ?_
        all_goals (refine hK12 ?_; try (clear hK12; clear K12))
        all_goals refine tc_seq fun K13 hK13 => ?_
        rcases hsr : srch p below k [] 0 with _ | rs
        all_goals refine tc_region ?_
        all_goals (refine tl_q (y_load1 rfl (by repeat constructor) (by rfl)) rfl ?_)
        all_goals refine tl_q (y_move rfl) rfl ?_
        all_goals (first | refine tl_e (e_callU2f (val := fun _ => .bool false) (p := fun y : Value × Obj => J y.2 ∧ y.1.oneCell' = true) (ob := fun x : Value × Obj => .cells #[x.1] 22 (0, 0)) (oc := fun x : Value × Obj => x.2) rfl rfl (.cons rfl (.cons rfl (.cons rfl .nil))) (fun w' hw' => CnX.imp (val' := fun _ : Value × Obj => .bool false) (hadd w' _ bf bp bb ba k _ _ hw' hf.1 (by omega) hvf hJ' (by repeat constructor) (by repeat constructor) (by repeat constructor) (by repeat constructor) (by repeat constructor)) id (fun _ => congrArg (fun o : Option (List Int) => Value.bool o.isSome) hsr.symm) (fun _ h => h) (fun x w2 _ hx => ⟨⟨hx.2.1, hx.2.2.1⟩, hx.1⟩)) (fun _ => (by repeat constructor)) (fun _ => (by repeat constructor))) rfl (fun y hy => ?_) | refine tl_e (e_callEnd (val := fun _ => .bool true) (p := fun (x : Value × Obj) (w2 : World) => (w2.heap[bf]? = some (.cells #[x.1] 22 (0, 0)) ∧ w2.heap[bm]? = some x.2) ∧ J x.2 ∧ x.1.oneCell' = true ∧ RdI w2 x.1 rs) rfl rfl (.cons rfl (.cons rfl (.cons rfl .nil))) (fun w' hw' => CnX.imp (val' := fun _ : Value × Obj => .bool true) (hadd w' _ bf bp bb ba k _ _ hw' hf.1 (by omega) hvf hJ' (by repeat constructor) (by repeat constructor) (by repeat constructor) (by repeat constructor) (by repeat constructor)) id (fun _ => congrArg (fun o : Option (List Int) => Value.bool o.isSome) hsr.symm) (fun _ h => h) (fun x w2 _ hx => ⟨hx.1, hx.2.1, hx.2.2.1, hx.2.2.2 rs hsr⟩)) (fun w' hw' β hβ x hx => by obtain rfl := List.mem_singleton.1 hβ; exact hSx x hx)) rfl (fun y hy => ?_))
        all_goals refine tl_q (y_assign rfl) rfl ?_
        all_goals refine tl_nil ?_
        all_goals (refine hK13 ?_; try (clear hK13; clear K13))
        all_goals refine tc_seq fun K14 hK14 => ?_
        all_goals refine tc_region ?_
        all_goals refine tl_q (y_move rfl) rfl ?_
        all_goals refine tl_nil ?_
        all_goals (refine hK14 ?_; try (clear hK14; clear K14))
        all_goals (
         refine tc_cond rfl (fun hc => ?_) (fun hc => ?_)
         · try simp only [decide_eq_true_eq, decide_eq_false_iff_not, Int.not_lt, Int.not_le, Bool.not_eq_true', Bool.not_eq_false', Decidable.not_not, not_true_eq_false] at hc
           all_goals first | (exfalso; with_reducible exact bft hc) | (exfalso; with_reducible exact btf hc) | (exfalso; omega) | skip
           all_goals refine tc_exit ?_
           all_goals (refine hK7 ?_; try (clear hK7; clear K7))
           all_goals refine tc_seq fun K15 hK15 => ?_
           all_goals refine tc_region ?_
           all_goals (refine tl_q (y_load1o rfl (fun w' hw' => cell0 ((hw'.fr (w0 := y.2.2) (S := []) (by simp)).keep hy.2.2.1.1) rfl)) rfl ?_)
           all_goals refine tl_q (y_move rfl) rfl ?_
           all_goals refine tl_q (y_assign rfl) rfl ?_
           all_goals refine tl_q (y_assign rfl) rfl ?_
           all_goals refine tl_nil ?_
           all_goals (refine hK15 ?_; try (clear hK15; clear K15))
           all_goals refine tc_ret ?_
           all_goals (repeat (refine tk_scope_ret ?_))
           all_goals first | refine tk_ret rfl rfl (.cons (.tmp rfl) (.cons (.tmp rfl) .nil)) ?_ | refine tk_retM rfl (by repeat constructor) rfl (.cons (.tmp rfl) (.cons (.tmp rfl) .nil)) ?_
           all_goals (
            first
            | (have e1 : searchT p below = some rs := by unfold searchT; exact fs_hit (j := k) (by omega) hsr hno
               refine fun w' hw' => ?_
               have f0 : Fr [] y.2.2 w' := hw'.fr (by simp)
               have f1 : Fr [bm] w y.2.1 := hy.1.fr (by simp)
               exact ⟨y.1, by rw [e1]; rfl, (f1.trans hy.2.1 hSx).trans f0 (by simp), f0.keep hy.2.2.1.2, hy.2.2.2.1, hy.2.2.2.2.1, fun r hr => by rw [e1] at hr; cases hr; exact hy.2.2.2.2.2.fr f0⟩)
            | (have e1 : searchT p below = none := by unfold searchT; exact fs_miss (fun q hq => hno q (by omega))
               exact fun w' hw' => ⟨(vf, om'), by rw [e1]; rfl, hw'.fr (by simp), hw'.heap _ (HM.mem (b := bm) (by repeat constructor)), hJ', hvf, fun r hr => by rw [e1] at hr; cases hr⟩))
         · try simp only [decide_eq_true_eq, decide_eq_false_iff_not, Int.not_lt, Int.not_le, Bool.not_eq_true', Bool.not_eq_false', Decidable.not_not, not_true_eq_false] at hc
           all_goals first | (exfalso; with_reducible exact bft hc) | (exfalso; with_reducible exact btf hc) | (exfalso; omega) | skip
           all_goals refine tc_skip ?_
           all_goals (refine hK11 ?_; try (clear hK11; clear K11))
           all_goals refine tc_region ?_
           all_goals refine tl_q (y_add rfl rfl (by omega)) rfl ?_
           all_goals refine tl_q (y_move rfl) rfl ?_
           all_goals refine tl_nil ?_
           all_goals (
            exact tk_round (k + 1, y.1, y.2) ⟨by dsimp only; omega, hy.1, hy.2, fun q hq => by rcases Nat.lt_succ_iff_lt_or_eq.1 hq with h | rfl; exact hno q h; exact hsr⟩ (by dsimp only; omega) (.cons rfl (.cons rfl (.cons rfl (.cons rfl (.cons rfl (.cons rfl (.cons rfl .nil))))))) (fun _ h => h)))
      · try simp only [decide_eq_true_eq, decide_eq_false_iff_not, Int.not_lt, Int.not_le, Bool.not_eq_true', Bool.not_eq_false', Decidable.not_not, not_true_eq_false] at hc
        all_goals first | (exfalso; with_reducible exact bft hc) | (exfalso; with_reducible exact btf hc) | (exfalso; omega) | skip
        all_goals refine tc_exit ?_
        all_goals (refine hK7 ?_; try (clear hK7; clear K7))
        all_goals refine tc_seq fun K16 hK16 => ?_
        all_goals refine tc_region ?_
        all_goals (refine tl_q (y_load1 rfl (by repeat constructor) (by rfl)) rfl ?_)
        all_goals refine tl_q (y_move rfl) rfl ?_
        all_goals refine tl_q (y_assign rfl) rfl ?_
        all_goals refine tl_q (y_assign rfl) rfl ?_
        all_goals refine tl_nil ?_
        all_goals (refine hK16 ?_; try (clear hK16; clear K16))
        all_goals refine tc_ret ?_
        all_goals (repeat (refine tk_scope_ret ?_))
        all_goals first | refine tk_ret rfl rfl (.cons (.tmp rfl) (.cons (.tmp rfl) .nil)) ?_ | refine tk_retM rfl (by repeat constructor) rfl (.cons (.tmp rfl) (.cons (.tmp rfl) .nil)) ?_
        all_goals (
         first
         | (have e1 : searchT p below = some rs := by unfold searchT; exact fs_hit (j := k) (by omega) hsr hno
            refine fun w' hw' => ?_
            have f0 : Fr [] y.2.2 w' := hw'.fr (by simp)
            have f1 : Fr [bm] w y.2.1 := hy.1.fr (by simp)
            exact ⟨y.1, by rw [e1]; rfl, (f1.trans hy.2.1 hSx).trans f0 (by simp), f0.keep hy.2.2.1.2, hy.2.2.2.1, hy.2.2.2.2.1, fun r hr => by rw [e1] at hr; cases hr; exact hy.2.2.2.2.2.fr f0⟩)
         | (have e1 : searchT p below = none := by unfold searchT; exact fs_miss (fun q hq => hno q (by omega))
            exact fun w' hw' => ⟨(vf, om'), by rw [e1]; rfl, hw'.fr (by simp), hw'.heap _ (HM.mem (b := bm) (by repeat constructor)), hJ', hvf, fun r hr => by rw [e1] at hr; cases hr⟩))))
end Go.Sp
/-
  The smallest list that passes: in order of length, then lexicographic; found by search, and by all bits.
-/
namespace Go.Sp
open Go Go.Proofs
/-- An increasing list of numbers from lo on, below N. -/
def Inc (lo N : Int) (t : List Int) : Prop := t.Pairwise (· < ·) ∧ ∀ x ∈ t, lo ≤ x ∧ x < N
theorem Inc.nil {lo N : Int} : Inc lo N [] := ⟨.nil, by simp⟩
theorem Inc.cons_iff {lo N x : Int} {t : List Int} : Inc lo N (x :: t) ↔ lo ≤ x ∧ x < N ∧ Inc (x + 1) N t := by
  unfold Inc
  rw [List.pairwise_cons]
  constructor
  · rintro ⟨⟨h1, h2⟩, h3⟩
    have hx := h3 x List.mem_cons_self
    exact ⟨hx.1, hx.2, h2, fun y hy => ⟨by have := h1 y hy; omega, (h3 y (List.mem_cons_of_mem _ hy)).2⟩⟩
  · rintro ⟨h1, h2, h3, h4⟩
    refine ⟨⟨fun y hy => by have := h4 y hy; omega, h3⟩, fun y hy => ?_⟩
    rcases List.mem_cons.1 hy with rfl | hy
    · exact ⟨h1, h2⟩
    · have := h4 y hy; omega
theorem Inc.len {N : Int} : ∀ {lo : Int} {t : List Int}, Inc lo N t → lo ≤ N → (t.length : Int) ≤ N - lo
  | lo, [], _, h => by simp; omega
  | lo, x :: t, h, _ => by
    obtain ⟨h1, h2, h3⟩ := Inc.cons_iff.1 h
    have := h3.len (by omega)
    simp only [List.length_cons]; omega
theorem inc_ext : ∀ {a b : List Int}, a.Pairwise (· < ·) → b.Pairwise (· < ·) → (∀ x, x ∈ a ↔ x ∈ b) → a = b
  | [], [], _, _, _ => rfl
  | [], y :: b, _, _, h => absurd ((h y).2 List.mem_cons_self) List.not_mem_nil
  | x :: a, [], _, _, h => absurd ((h x).1 List.mem_cons_self) List.not_mem_nil
  | x :: a, y :: b, ha, hb, h => by
    rw [List.pairwise_cons] at ha hb
    have hxy : x = y := by
      rcases List.mem_cons.1 ((h x).1 List.mem_cons_self) with e | e
      · exact e
      · rcases List.mem_cons.1 ((h y).2 List.mem_cons_self) with e' | e'
        · exact e'.symm
        · have := hb.1 x e; have := ha.1 y e'; omega
    subst hxy
    congr 1
    refine inc_ext ha.2 hb.2 fun z => ?_
    have hz := h z
    constructor
    · intro hm
      rcases List.mem_cons.1 (hz.1 (List.mem_cons_of_mem _ hm)) with e | e
      · have := ha.1 z hm; omega
      · exact e
    · intro hm
      rcases List.mem_cons.1 (hz.2 (List.mem_cons_of_mem _ hm)) with e | e
      · have := hb.1 z hm; omega
      · exact e
theorem srch_some {p : List Int → Bool} {N : Int} : ∀ (m : Nat) (l : List Int) (fr : Int) (r : List Int), srch p N m l fr = some r →
    ∃ t, r = l ++ t ∧ Inc fr N t ∧ t.length = m ∧ p r = true ∧ ∀ t', Inc fr N t' → t'.length = m → p (l ++ t') = true → lexLt t' t = false := by
  intro m
  induction m with
  | zero =>
    intro l fr r h
    unfold srch at h
    split at h
    · rename_i hp
      cases h
      exact ⟨[], by simp, Inc.nil, rfl, hp, fun t' _ ht _ => by rw [List.eq_nil_of_length_eq_zero ht]; rfl⟩
    · cases h
  | succ m ih =>
    intro l fr r h
    unfold srch at h
    obtain ⟨l1, j, l2, e, hj, hno⟩ := List.findSome?_eq_some_iff.1 h
    have hjm : j ∈ List.range (N - m - fr).toNat := by rw [e]; simp
    have hjl := List.mem_range.1 hjm
    have hbefore : ∀ k, k < j → srch p N m (l ++ [fr + (k : Int)]) (fr + (k : Int) + 1) = none := fun k hk => by
      refine hno k ?_
      have hl1 : l1 = List.range l1.length ∧ l1.length = j := by
        have h1 : l1 = (List.range (N - m - fr).toNat).take l1.length := by rw [e]; simp
        have h2 : (List.range (N - m - fr).toNat)[l1.length]? = some j := by rw [e]; simp
        have hlt : l1.length < (N - m - fr).toNat := by
          rcases Nat.lt_or_ge l1.length (N - m - fr).toNat with h | h
          · exact h
          · rw [List.getElem?_eq_none (by simpa using h)] at h2; cases h2
        rw [List.getElem?_range hlt] at h2
        have e2 : l1.length = j := by injection h2
        refine ⟨?_, e2⟩
        rw [h1]
        simp only [List.length_take, List.length_range]
        rw [List.take_range, Nat.min_eq_left (by omega)]
      rw [hl1.1, hl1.2]
      exact List.mem_range.2 hk
    obtain ⟨t, rfl, h1, h2, h3, h4⟩ := ih _ _ _ hj
    refine ⟨(fr + (j : Int)) :: t, by simp, Inc.cons_iff.2 ⟨by omega, by omega, h1⟩, by simp [h2], h3, fun t' ht hl hp => ?_⟩
    match t', hl with
    | x :: t'', hl =>
      obtain ⟨g1, g2, g3⟩ := Inc.cons_iff.1 ht
      have hlen := g3.len (by omega)
      simp only [List.length_cons] at hl
      simp only [lexLt]
      by_cases e2 : x = fr + (j : Int)
      · rw [if_pos e2]
        subst e2
        exact h4 t'' g3 (by omega) (by simpa using hp)
      · rw [if_neg e2]
        refine decide_eq_false fun hlt => ?_
        have hn := hbefore (x - fr).toNat (by omega)
        rw [show fr + ((x - fr).toNat : Int) = x by omega] at hn
        have hk : ∀ (m : Nat) (l : List Int) (fr : Int), srch p N m l fr = none → ∀ t', Inc fr N t' → t'.length = m → p (l ++ t') = false := by
          intro m
          induction m with
          | zero =>
            intro l fr h t' _ hl
            rw [List.eq_nil_of_length_eq_zero hl, List.append_nil]
            unfold srch at h
            split at h
            · cases h
            · simpa using ‹¬ p l = true›
          | succ m ih2 =>
            intro l fr h t' ht hl
            match t', hl with
            | y :: t3, hl =>
              obtain ⟨k1, k2, k3⟩ := Inc.cons_iff.1 ht
              have hl3 := k3.len (by omega)
              simp only [List.length_cons] at hl
              unfold srch at h
              rw [List.findSome?_eq_none_iff] at h
              have := h (y - fr).toNat (List.mem_range.2 (by omega))
              rw [show fr + ((y - fr).toNat : Int) = y by omega] at this
              have := ih2 _ _ this t3 k3 (by omega)
              simpa using this
        have := hk m _ _ hn t'' g3 (by omega)
        rw [List.append_assoc] at this
        simp only [List.cons_append, List.nil_append] at this
        rw [this] at hp
        cases hp
theorem srch_none {p : List Int → Bool} {N : Int} : ∀ (m : Nat) (l : List Int) (fr : Int), srch p N m l fr = none → ∀ t', Inc fr N t' → t'.length = m → p (l ++ t') = false := by
  intro m
  induction m with
  | zero =>
    intro l fr h t' _ hl
    rw [List.eq_nil_of_length_eq_zero hl, List.append_nil]
    unfold srch at h
    split at h
    · cases h
    · simpa using ‹¬ p l = true›
  | succ m ih2 =>
    intro l fr h t' ht hl
    match t', hl with
    | y :: t3, hl =>
      obtain ⟨k1, k2, k3⟩ := Inc.cons_iff.1 ht
      have hl3 := k3.len (by omega)
      simp only [List.length_cons] at hl
      unfold srch at h
      rw [List.findSome?_eq_none_iff] at h
      have := h (y - fr).toNat (List.mem_range.2 (by omega))
      rw [show fr + ((y - fr).toNat : Int) = y by omega] at this
      have := ih2 _ _ this t3 k3 (by omega)
      simpa using this
/-- r is the smallest list below N that passes. -/
structure Least (p : List Int → Bool) (N : Int) (r : List Int) : Prop where
  inc : Inc 0 N r
  ok : p r = true
  least : ∀ t, Inc 0 N t → p t = true → lessF t r = false
theorem search_some {p : List Int → Bool} {N : Nat} {r : List Int} {M : Nat} (hM : N < M) (h : ((List.range M).findSome? fun (k : Nat) => srch p N k [] 0) = some r) : Least p N r := by
  obtain ⟨l1, k, l2, e, hk, hno⟩ := List.findSome?_eq_some_iff.1 h
  obtain ⟨t, h0, h1, h2, h3, h4⟩ := srch_some _ _ _ _ hk
  rw [List.nil_append] at h0
  subst h0
  have hl1 : l1 = List.range k := by
    have h1 : l1 = (List.range M).take l1.length := by rw [e]; simp
    have h2 : (List.range M)[l1.length]? = some k := by rw [e]; simp
    have hlt : l1.length < M := by
      rcases Nat.lt_or_ge l1.length M with h | h
      · exact h
      · rw [List.getElem?_eq_none (by simpa using h)] at h2; cases h2
    rw [List.getElem?_range hlt] at h2
    have e2 : l1.length = k := by injection h2
    rw [h1, List.take_range, e2, Nat.min_eq_left (by omega)]
  refine ⟨h1, h3, fun t' ht hp => ?_⟩
  unfold lessF
  split
  · exact h4 t' ht (by omega) (by simpa using hp)
  · refine decide_eq_false fun hlt => ?_
    have := srch_none _ _ _ (hno t'.length (by rw [hl1]; exact List.mem_range.2 (by omega))) t' ht rfl
    rw [List.nil_append, hp] at this; cases this
theorem search_none {p : List Int → Bool} {N : Nat} {M : Nat} (hM : N < M) (h : ((List.range M).findSome? fun (k : Nat) => srch p N k [] 0) = none) {t : List Int} (ht : Inc 0 N t) : p t = false := by
  have hl := ht.len (by omega)
  rw [List.findSome?_eq_none_iff] at h
  have := srch_none _ _ _ (h t.length (List.mem_range.2 (by omega))) t ht rfl
  simpa using this
theorem bitB_nat (n i : Nat) : bitB n i = n.testBit i := by
  unfold bitB
  rw [Nat.testBit_eq_decide_div_mod_eq]
  exact decide_eq_decide.2 (by
    have : ((n : Int) / 2 ^ i % 2) = ((n / 2 ^ i % 2 : Nat) : Int) := by simp
    rw [this]; omega)
theorem bitsL_sorted (n : Int) : (bitsL n).Pairwise (· < ·) := by
  unfold bitsL bitsN
  rw [List.pairwise_map]
  exact (List.pairwise_lt_range.filter _).imp fun h => by omega
theorem bitsL_inc {n m : Nat} (h : n < 2 ^ m) : Inc 0 m (bitsL n) := ⟨bitsL_sorted _, fun _ hx => bitsL_mem h hx⟩
theorem bitsL_iff {n i : Nat} (hi : i < 16) : (i : Int) ∈ bitsL n ↔ n.testBit i = true := by
  unfold bitsL bitsN
  rw [List.mem_map]
  constructor
  · rintro ⟨j, hj, e⟩
    obtain rfl : j = i := by omega
    rw [← bitB_nat]; exact (List.mem_filter.1 hj).2
  · intro h
    exact ⟨i, List.mem_filter.2 ⟨List.mem_range.2 hi, by rw [bitB_nat]; exact h⟩, rfl⟩
end Go.Sp
/-
  Package trial: the smallest set of tests.
-/
namespace Go.Sp
open Go Go.Proofs
def fitsT (t : Tr) (xs : List Int) : Bool := decide (0 < (truthsL t xs).length)
theorem fits_full {t : Tr} (hv : VT t) {xs : List Int} (h : ∀ i : Nat, i < t.tests.length → (i : Int) ∈ xs) : fitsT t xs = true := by
  have hp : ∀ (e : Int × Int × Int) (i : Nat) (d : Int), passN t e i xs d t.tests.length = true := fun e i d => List.all_eq_true.2 fun j hj => by
    unfold passF
    rw [decide_eq_true (h j (List.mem_range.1 hj)), Bool.true_or, Bool.or_true]
  have hd : ∀ (e : Int × Int × Int) (i : Nat), i < t.liquids.length → 0 < (denseL t e i xs).length := fun e i hi => by
    have hb := hv.lqb hi
    have hc : 0 < lqC t i := by unfold lqC; omega
    have := denseN_get hc (hp e i _)
    exact Nat.lt_of_le_of_lt (Nat.zero_le _) (List.getElem?_eq_some_iff.1 this).1
  have hn : 0 < (everyL t).length := by
    have h1 := hv.p1
    have h3 := hv.p3
    have hw := hv.w
    have := (ini_all ⟨t.worst.toNat, by omega⟩ ⟨t.parts.length, by omega⟩ h1).2.1
    unfold everyL; rw [List.length_map, List.length_range]; exact this
  have ht : truthsL t xs = everyL t := by
    unfold truthsL
    exact List.filter_eq_self.2 fun e _ => denOk_yes fun i hi => hd e i hi
  unfold fitsT
  rw [ht]; exact decide_eq_true hn
theorem leaveT_p (t : Tr) (hv : VT t) (sl pl ll tl : Value) (w : World) (bt bw bm : Nat) (es : Array MapEntry) (ck : Nat) (hbt : w.heap[bt]? = some (.cells #[ptr bw] 130 (0, 0))) (hT : TW w t sl pl ll tl bw bm es ck) :
    Pass Tryz.prog 98 #[ptr bt] (fitsT t) t.tests.length [bm] bm (JMt t) w := by
  intro w1 o xs v f1 h1 hJ hx hsep hone hlen _
  obtain ⟨es1, ck1, rfl, hc1⟩ := hJ
  have hnb : bt ∉ [bm] := fun hb => by
    obtain rfl := List.mem_singleton.1 hb
    rw [hT.hm] at hbt; cases hbt
  have g1 := f1.keepS hnb hbt
  have hT1 := hT.fr f1 h1 hc1
  obtain ⟨adv, cpv, _, _, rfl, _, _⟩ := hx.open
  rw [show (#[] ++ #[.slice adv xs.length cpv] ++ #[ptr bt] : Array Value) = #[.slice adv xs.length cpv, ptr bt] from by simp]
  refine cnxS (vs := [_, _]) (S := [bm]) [(bm, .map es1 ck1)] Tryz.func98 rfl rfl ⟨by simp [h1], by simp, by simp⟩ ?_
  all_goals refine tc_seq fun K1 hK1 => ?_
  all_goals refine tc_region ?_
  all_goals refine tl_q (y_assign rfl) rfl ?_
  all_goals refine tl_nil ?_
  all_goals (refine hK1 ?_; try (clear hK1; clear K1))
  all_goals refine tc_seq fun K2 hK2 => ?_
  all_goals refine tc_region ?_
  all_goals (refine tl_q (y_load1o rfl (fun w' hw' => cell0 ((hw'.fr (w0 := w1) (S := [bm]) (by simp)).keepS hnb g1) rfl)) rfl ?_)
  all_goals refine tl_q (y_move rfl) rfl ?_
  all_goals refine tl_e (e_callU (val := fun y : (Option Addr × Nat) × Array MapEntry × Nat => slV (truthsL t xs).length y.1) (p := fun y => Cache (readV t.s) y.2.1.toList) (ob := fun y => .map y.2.1 y.2.2) rfl (.cons rfl (.cons rfl .nil)) (fun w' hw' => (truths_c t hv xs (by omega) adv cpv sl pl ll tl w' bw bm es1 ck1 (hT1.fr (hw'.fr (by simp)) (hw'.heap _ (HM.mem (by repeat constructor))) hc1) (Reads.frM hx (hw'.fr (S := [bm]) (by simp)) (fun x hx => by obtain rfl := List.mem_singleton.1 hx; exact ⟨_, _, h1⟩))).imp id (fun _ => rfl) (fun _ h => h) (fun y w' _ h => ⟨h.1.2, h.2⟩)) (fun _ => (by repeat constructor))) rfl (fun y hy => ?_)
  all_goals refine tl_q (y_len rfl) rfl ?_
  all_goals refine tl_q (y_gtr rfl rfl) rfl ?_
  all_goals refine tl_q (y_assign rfl) rfl ?_
  all_goals refine tl_nil ?_
  all_goals (refine hK2 ?_; try (clear hK2; clear K2))
  all_goals refine tc_ret ?_
  all_goals (repeat (first | refine tk_then_ret ?_))
  all_goals first | refine tk_ret rfl rfl (.cons (.tmp rfl) .nil) ?_ | refine tk_retM rfl (by repeat constructor) rfl (.cons (.tmp rfl) .nil) ?_
  all_goals (
   refine fun w' hw' => ⟨.map y.2.1 y.2.2, ?_, hw'.fr (by simp), ⟨_, _, rfl, hy⟩, hw'.heap _ (HM.mem (by repeat constructor))⟩
   refine congrArg (fun b => Ending.returned (Value.bool b)) ?_
   unfold fitsT
   exact decide_eq_decide.2 (by omega))
def leaveTL (t : Tr) : List Int := (searchT (fitsT t) t.tests.length).getD []
theorem leaveTL_some {t : Tr} (hv : VT t) : searchT (fitsT t) t.tests.length = some (leaveTL t) ∧ Least (fitsT t) t.tests.length (leaveTL t) := by
  have h6 := hv.t6
  unfold leaveTL
  rcases h : searchT (fitsT t) t.tests.length with _ | r
  · have hn := search_none (N := t.tests.length) (M := t.tests.length + 1) (by omega) h (bitsL_inc (n := 2 ^ t.tests.length - 1) (m := t.tests.length) (by have := Nat.two_pow_pos t.tests.length; omega))
    rw [fits_full hv (fun i hi => by rw [bitsL_iff (by omega), Nat.testBit_two_pow_sub_one]; exact decide_eq_true hi)] at hn
    cases hn
  · exact ⟨rfl, search_some (N := t.tests.length) (M := t.tests.length + 1) (by omega) h⟩
theorem leaveT_ok (t : Tr) (hv : VT t) (sl pl ll tl : Value) (w : World) (hr : RdTr w t sl pl ll tl) :
    CnX Tryz.prog 37 #[trV t sl pl ll tl] w [] (fun y : Value => .tuple #[y, vi 0]) (fun y w' => RdI w' y (leaveTL t)) := by
  have hr0 := hr
  have hn := hv.nt
  have hck := chkT_0.2 hv
  have h6 := hv.t6
  obtain ⟨hls, _⟩ := leaveTL_some hv
  obtain ⟨ad, cp, b0, o0, rfl, _, _⟩ := hr.ts.open
  refine cnx0 (vs := [_]) Tryz.func37 rfl rfl ?_
  all_goals refine tc_seq fun K1 hK1 => ?_
  all_goals refine tc_region ?_
  all_goals refine tl_e (e_box rfl rfl rfl) rfl (fun b1 _ => ?_)
  all_goals refine tl_q (y_assign rfl) rfl ?_
  all_goals refine tl_q (y_assign rfl) rfl ?_
  all_goals refine tl_nil ?_
  all_goals (refine hK1 ?_; try (clear hK1; clear K1))
  all_goals refine tc_seq fun K2 hK2 => ?_
  all_goals refine tc_seq fun K3 hK3 => ?_
  all_goals refine tc_region ?_
  all_goals (refine tl_q (y_loadW rfl (by repeat constructor) (by rfl)) rfl ?_)
  all_goals refine tl_e (e_callV rfl (.cons rfl .nil) (fun w' hw' => checkTrial_c t hn _ _ _ _ w' (hr0.fr (hw'.fr (by simp))))) rfl (fun _ _ => ?_)
  all_goals refine tl_q (y_assign rfl) rfl ?_
  all_goals refine tl_nil ?_
  all_goals (refine hK3 ?_; try (clear hK3; clear K3))
  all_goals refine tc_seq fun K4 hK4 => ?_
  all_goals refine tc_region ?_
  all_goals refine tl_q (y_move rfl) rfl ?_
  all_goals refine tl_q (y_neq rfl rfl) rfl ?_
  all_goals refine tl_nil ?_
  all_goals (refine hK4 ?_; try (clear hK4; clear K4))
  all_goals (
   refine tc_cond rfl (fun hc => ?_) (fun hc => ?_)
   · try simp only [decide_eq_true_eq, decide_eq_false_iff_not, Int.not_lt, Int.not_le, Bool.not_eq_true', Bool.not_eq_false', Decidable.not_not, not_true_eq_false] at hc
     all_goals first | (exfalso; with_reducible exact bft hc) | (exfalso; with_reducible exact btf hc) | (exfalso; omega) | skip
     all_goals refine tc_seq fun K5 hK5 => ?_
     all_goals refine tc_region ?_
     all_goals refine tl_q (y_move rfl) rfl ?_
     all_goals refine tl_q (y_assign rfl) rfl ?_
     all_goals refine tl_q (y_assign rfl) rfl ?_
     all_goals refine tl_nil ?_
     all_goals (refine hK5 ?_; try (clear hK5; clear K5))
     all_goals refine tc_ret ?_
     all_goals (repeat (first | refine tk_then_ret ?_))
     all_goals first | refine tk_ret rfl rfl (.cons (.tmp rfl) (.cons (.tmp rfl) .nil)) ?_ | refine tk_retM rfl (by repeat constructor) rfl (.cons (.tmp rfl) (.cons (.tmp rfl) .nil)) ?_
     all_goals (
      first
      | exact fun w' hw' => ⟨y.1.1, rfl, hw'.fr (by simp), hy.2.2.fr (hw'.fr (by simp))⟩
      | (exfalso; omega))
   · try simp only [decide_eq_true_eq, decide_eq_false_iff_not, Int.not_lt, Int.not_le, Bool.not_eq_true', Bool.not_eq_false', Decidable.not_not, not_true_eq_false] at hc
     all_goals first | (exfalso; with_reducible exact bft hc) | (exfalso; with_reducible exact btf hc) | (exfalso; omega) | skip
     all_goals refine tc_skip ?_
     all_goals (refine hK2 ?_; try (clear hK2; clear K2))
     all_goals refine tc_seq fun K6 hK6 => ?_
     all_goals refine tc_region ?_
     all_goals (refine tl_q (y_loadW rfl (by repeat constructor) (by rfl)) rfl ?_)
     all_goals refine tl_e (e_callN rfl (.cons rfl .nil) (fun w' hw' => twork_c t sl pl ll _ hr0.ws.one hr0.ps.one hr0.ls.one hr0.ts.one w')) rfl (fun x hx => ?_)
     all_goals refine tl_e (e_alloc1 rfl) rfl (fun b5 _ => ?_)
     all_goals refine tl_e (e_store1 rfl rfl (by repeat constructor) (by repeat constructor) (by rfl) (by rfl)) rfl (fun _ _ => ?_)
     all_goals refine tl_nil ?_
     all_goals (refine hK6 ?_; try (clear hK6; clear K6))
     all_goals refine tc_seq fun K7 hK7 => ?_
     all_goals refine tc_region ?_
     all_goals refine tl_q (y_field rfl) rfl ?_
     all_goals refine tl_q (y_load1 rfl (by repeat constructor) (by rfl)) rfl ?_
     all_goals refine tl_q (y_len rfl) rfl ?_
     all_goals refine tl_q (y_fn .nil (.cons rfl .nil)) rfl ?_
     all_goals refine tl_e (e_callEndF (val := fun z : Value × Obj => .tuple #[z.1, .bool true]) (p := fun z w' => RdI w' z.1 (leaveTL t)) (S := [x.2]) rfl (.cons rfl (.cons rfl .nil)) (fun w' hw' => CnX.imp (val' := fun z : Value × Obj => .tuple #[z.1, .bool true]) (tlists_c 98 #[ptr b5] (fitsT t) t.tests.length (by omega) x.2 (.map #[] 0) (JMt t) w' (hw'.heap _ (HM.mem (by repeat constructor))) ⟨_, _, rfl, fun e he => by simp at he⟩ (leaveT_p t hv sl pl ll _ w' b5 x.1 x.2 #[] 0 (hw'.heap _ (HM.mem (by repeat constructor))) (tw0 (hr0.fr (hw'.fr (by simp))) (hw'.heap _ (HM.mem (by repeat constructor))) (hw'.heap _ (HM.mem (b := x.2) (by repeat constructor)))))) id (fun z => by rw [hls]; rfl) (fun _ h => h) (fun z w2 _ hx => hx.2.2.2 _ hls)) (fun w' hw' β hβ q hq => .inr (by obtain rfl := List.mem_singleton.1 hβ; obtain rfl := List.mem_singleton.1 hq; exact (hw'.own (x.2, _) (HM.mem (by repeat constructor)) (w, []) (by simp)).resolve_left (by simp)))) rfl (fun y hy => ?_)
     all_goals refine tl_q (y_move rfl) rfl ?_
     all_goals refine tl_q (y_extract rfl rfl) rfl ?_
     all_goals refine tl_q (y_extract rfl rfl) rfl ?_
     all_goals refine tl_q (y_assign rfl) rfl ?_
     all_goals refine tl_q (y_assign rfl) rfl ?_
     all_goals refine tl_nil ?_
     all_goals (refine hK7 ?_; try (clear hK7; clear K7))
     all_goals refine tc_seq fun K8 hK8 => ?_
     all_goals refine tc_region ?_
     all_goals refine tl_q (y_move rfl) rfl ?_
     all_goals refine tl_q (y_assign rfl) rfl ?_
     all_goals refine tl_q (y_assign rfl) rfl ?_
     all_goals refine tl_nil ?_
     all_goals (refine hK8 ?_; try (clear hK8; clear K8))
     all_goals refine tc_ret ?_
     all_goals (repeat (first | refine tk_then_ret ?_))
     all_goals first | refine tk_ret rfl rfl (.cons (.tmp rfl) (.cons (.tmp rfl) .nil)) ?_ | refine tk_retM rfl (by repeat constructor) rfl (.cons (.tmp rfl) (.cons (.tmp rfl) .nil)) ?_
     all_goals (
      first
      | exact fun w' hw' => ⟨y.1.1, rfl, hw'.fr (by simp), hy.2.2.fr (hw'.fr (by simp))⟩
      | (exfalso; omega)))
end Go.Sp
/-
  Package trial: the reference's error of a trial.
-/
namespace Go.Sp
open Go Go.Proofs
theorem chkT_bad {t : Tr} (h0 : chkF t.s = 0) (h1 : ¬ (3 < t.parts.length ∨ 3 < t.liquids.length ∨ 6 < t.tests.length)) (h : partB t = false ∨ ¬ (0 ≤ t.worst ∧ t.worst ≤ 3) ∨ t.liquids.length = 0 ∨ t.liquids.all lqB = false ∨ t.tests.all (tsB t) = false) : chkT t = 1 := by
  unfold chkT
  rw [if_neg (by omega), if_neg h1, if_neg]
  rintro ⟨g1, g2, g3, g4, g5⟩
  rcases h with h | h | h | h | h
  · rw [g1] at h; cases h
  · exact h g2
  · exact g3 h
  · rw [g4] at h; cases h
  · rw [g5] at h; cases h
theorem all_bad {α : Type} {l : List α} {p : α → Bool} {i : Nat} {x : α} (hi : i < l.length) (h : p (l.getD i x) = false) : l.all p = false := by
  cases hb : l.all p
  · rfl
  · have := List.all_eq_true.1 hb (l.getD i x) (by rw [List.getD_eq_getElem?_getD, List.getElem?_eq_getElem hi]; exact List.getElem_mem hi)
    rw [h] at this; cases this
theorem all_good {α : Type} {l : List α} {p : α → Bool} {x : α} (h : ∀ i : Nat, i < l.length → p (l.getD i x) = true) : l.all p = true := List.all_eq_true.2 fun y hy => by
  obtain ⟨i, hi, rfl⟩ := List.getElem_of_mem hy
  have := h i hi
  rw [List.getD_eq_getElem?_getD, List.getElem?_eq_getElem hi] at this
  exact this
theorem partB_bad {t : Tr} {i : Nat} (hi : i < t.parts.length) (h : okAt (partQ t) (-1) t.parts i = false) : partB t = false := by
  unfold partB
  cases hb : allS (partQ t) (-1) t.parts
  · rw [Bool.and_false]
  · have := List.all_eq_true.1 hb i (List.mem_range.2 hi)
    rw [h] at this; cases this
theorem okAt_i {t : Tr} {i : Nat} (h : 0 < i) : okAt (partQ t) (-1) t.parts i = decide (t.parts.getD (i - 1) 0 < t.parts.getD i 0 ∧ (0 ≤ t.parts.getD i 0 ∧ t.parts.getD i 0 ≤ t.s.divisions)) := by
  unfold okAt lastAt partQ
  rw [if_neg (by omega)]
theorem partB_0 {t : Tr} (h : t.parts.length = 0 ∨ ¬ t.parts.getD 0 0 = 0) : partB t = false := by
  unfold partB; rw [decide_eq_false (by omega), Bool.false_and]
theorem bad7 {t : Tr} (h : t.parts.length = 0 ∨ ¬ t.parts.getD 0 0 = 0 ∨ ¬ (0 ≤ t.worst ∧ t.worst ≤ 3) ∨ t.liquids.length = 0) : partB t = false ∨ ¬ (0 ≤ t.worst ∧ t.worst ≤ 3) ∨ t.liquids.length = 0 ∨ t.liquids.all lqB = false ∨ t.tests.all (tsB t) = false := by
  rcases h with h | h | h | h
  · exact .inl (partB_0 (.inl h))
  · exact .inl (partB_0 (.inr h))
  · exact .inr (.inl h)
  · exact .inr (.inr (.inl h))
theorem partB_yes {t : Tr} (h1 : 1 ≤ t.parts.length) (h0 : t.parts.getD 0 0 = 0) (hd : 1 ≤ t.s.divisions) (h : ∀ j : Nat, 0 < j → j < t.parts.length → okAt (partQ t) (-1) t.parts j = true) : partB t = true := by
  unfold partB
  rw [Bool.and_eq_true]
  refine ⟨decide_eq_true ⟨by omega, h0⟩, List.all_eq_true.2 fun j hj => ?_⟩
  by_cases e : j = 0
  · subst e
    unfold okAt lastAt partQ
    rw [if_pos rfl, h0]; exact decide_eq_true (by omega)
  · exact h j (by omega) (List.mem_range.1 hj)
theorem chkT_good {t : Tr} (h0 : chkF t.s = 0) (h1 : ¬ (3 < t.parts.length ∨ 3 < t.liquids.length ∨ 6 < t.tests.length)) (g1 : partB t = true) (g2 : 0 ≤ t.worst ∧ t.worst ≤ 3) (g3 : ¬ t.liquids.length = 0) (g4 : t.liquids.all lqB = true) (g5 : t.tests.all (tsB t) = true) : chkT t = 0 := by
  unfold chkT
  rw [if_neg (by omega), if_neg h1, if_pos ⟨g1, g2, g3, g4, g5⟩]
set_option maxHeartbeats 1000000 in
theorem faultT_c (t : Tr) (hn : NT t) (sl pl ll tl : Value) (w : World) (hr : RdTr w t sl pl ll tl) : CnV Tryz.prog 41 #[trV t sl pl ll tl] w (vi (chkT t)) := by
  have hr0 := hr
  obtain ⟨ad1, cp1, bp, op, rfl, hadp, hcp⟩ := hr.ps.open
  obtain ⟨ad2, cp2, bl, ol, rfl, hadl, hcl⟩ := hr.ls.open
  obtain ⟨ad3, cp3, bt, ot, rfl, hadt, hct⟩ := hr.ts.open
  obtain ⟨ad0, cp0, b0, o0, rfl, _, _⟩ := hr.ws.open
  refine cnv (vs := [_]) Tryz.func41 rfl rfl ?_
  all_goals refine tc_seq fun K1 hK1 => ?_
  all_goals refine tc_region ?_
  all_goals refine tl_e (e_box rfl rfl rfl) rfl (fun b1 _ => ?_)
  all_goals refine tl_q (y_assign rfl) rfl ?_
  all_goals refine tl_nil ?_
  all_goals (refine hK1 ?_; try (clear hK1; clear K1))
  all_goals refine tc_seq fun K2 hK2 => ?_
  all_goals refine tc_seq fun K3 hK3 => ?_
  all_goals refine tc_region ?_
  all_goals refine tl_q (y_field rfl) rfl ?_
  all_goals (refine tl_q (y_loadN rfl (by repeat constructor) (by (repeat (first | exact .nil | apply CA.cons rfl)); done)) rfl ?_)
  all_goals refine tl_e (e_callV rfl (.cons rfl .nil) (fun w' hw' => fault_c t.s hn.ws _ w' (hr0.ws.fr (hw'.fr (by simp))))) rfl (fun _ _ => ?_)
  all_goals refine tl_q (y_assign rfl) rfl ?_
  all_goals refine tl_nil ?_
  all_goals (refine hK3 ?_; try (clear hK3; clear K3))
  all_goals refine tc_seq fun K4 hK4 => ?_
  all_goals refine tc_region ?_
  all_goals refine tl_q (y_move rfl) rfl ?_
  all_goals refine tl_q (y_neq rfl rfl) rfl ?_
  all_goals refine tl_nil ?_
  all_goals (refine hK4 ?_; try (clear hK4; clear K4))
  all_goals (
   refine tc_cond rfl (fun hc => ?_) (fun hc => ?_)
   · try simp only [decide_eq_true_eq, decide_eq_false_iff_not, Int.not_lt, Int.not_le, Bool.not_eq_true', Bool.not_eq_false', Decidable.not_not, not_true_eq_false] at hc
     all_goals first | (exfalso; with_reducible exact bft hc) | (exfalso; with_reducible exact btf hc) | (exfalso; omega) | skip
     all_goals refine tc_seq fun K5 hK5 => ?_
     all_goals refine tc_region ?_
     all_goals refine tl_q (y_move rfl) rfl ?_
     all_goals refine tl_q (y_assign rfl) rfl ?_
     all_goals refine tl_nil ?_
     all_goals (refine hK5 ?_; try (clear hK5; clear K5))
     all_goals refine tc_ret ?_
     all_goals (repeat (refine tk_then_ret ?_))
     all_goals first | refine tk_ret rfl rfl (.cons (.tmp rfl) .nil) ?_ | refine tk_retM rfl (by repeat constructor) rfl (.cons (.tmp rfl) .nil) ?_
     all_goals (
      refine fun w' hw' => ⟨congrArg (fun n => Ending.returned (Value.int .i64 n)) ?_, hw'.fr (by simp)⟩
      first
      | exact hfin.symm
      | exact (chkT_bad hc0 (by omega) hbad).symm
      | (unfold chkT; rw [if_neg (by omega), if_pos (by omega)])
      | (unfold chkT; rw [if_pos (by omega)]))
   · try simp only [decide_eq_true_eq, decide_eq_false_iff_not, Int.not_lt, Int.not_le, Bool.not_eq_true', Bool.not_eq_false', Decidable.not_not, not_true_eq_false] at hc
     all_goals first | (exfalso; with_reducible exact bft hc) | (exfalso; with_reducible exact btf hc) | (exfalso; omega) | skip
     all_goals refine tc_skip ?_
     all_goals (refine hK2 ?_; try (clear hK2; clear K2))
     all_goals refine tc_seq fun K6 hK6 => ?_
     all_goals refine tc_seq fun K7 hK7 => ?_
     all_goals (have hc0 : chkF t.s = 0 := by omega)
     all_goals (have hvs := chkF_valid.1 hc0; have hd1 := hvs.d1; have hd2 := hvs.d2)
     all_goals refine tc_region ?_
     all_goals refine tl_q (y_field rfl) rfl ?_
     all_goals (refine tl_q (y_load1 rfl (by repeat constructor) (by rfl)) rfl ?_)
     all_goals refine tl_q (y_len rfl) rfl ?_
     all_goals refine tl_q (y_gtr rfl rfl) rfl ?_
     all_goals refine tl_q (y_move rfl) rfl ?_
     all_goals (refine tl_gs rfl rfl (fun hc => ?_) (fun hc => ?_) <;> (try simp only [decide_eq_true_eq, decide_eq_false_iff_not, Int.not_lt, Int.not_le, Bool.not_eq_true', Bool.not_eq_false', Decidable.not_not, not_true_eq_false] at hc) <;> (first | refine tl_sk rfl rfl rfl rfl ?_ | refine tl_qg rfl rfl (y_field rfl) rfl ?_))
     all_goals (first | refine tl_sk rfl rfl rfl rfl ?_ | refine tl_qg rfl rfl (y_load1 rfl (by repeat constructor) (by rfl)) rfl ?_)
     all_goals (first | refine tl_sk rfl rfl rfl rfl ?_ | refine tl_qg rfl rfl (y_len rfl) rfl ?_)
     all_goals (first | refine tl_sk rfl rfl rfl rfl ?_ | refine tl_qg rfl rfl (y_gtr rfl rfl) rfl ?_)
     all_goals (first | refine tl_q (y_pick_t rfl rfl) rfl ?_ | refine tl_q (y_pick_f rfl rfl) rfl ?_)
     all_goals refine tl_q (y_move rfl) rfl ?_
     all_goals (first | refine tl_sk rfl rfl rfl rfl ?_ | (refine tl_gs rfl rfl (fun hc => ?_) (fun hc => ?_) <;> (try simp only [decide_eq_true_eq, decide_eq_false_iff_not, Int.not_lt, Int.not_le, Bool.not_eq_true', Bool.not_eq_false', Decidable.not_not, not_true_eq_false] at hc) <;> (first | refine tl_sk rfl rfl rfl rfl ?_ | refine tl_qg rfl rfl (y_field rfl) rfl ?_)))
     all_goals (first | refine tl_sk rfl rfl rfl rfl ?_ | refine tl_qg rfl rfl (y_load1 rfl (by repeat constructor) (by rfl)) rfl ?_)
     all_goals (first | refine tl_sk rfl rfl rfl rfl ?_ | refine tl_qg rfl rfl (y_len rfl) rfl ?_)
     all_goals (first | refine tl_sk rfl rfl rfl rfl ?_ | refine tl_qg rfl rfl (y_gtr rfl rfl) rfl ?_)
     all_goals (first | refine tl_q (y_pick_t rfl rfl) rfl ?_ | refine tl_q (y_pick_f rfl rfl) rfl ?_)
     all_goals refine tl_nil ?_
     all_goals (refine hK7 ?_; try (clear hK7; clear K7))
     all_goals (
      refine tc_cond rfl (fun hc => ?_) (fun hc => ?_)
      · try simp only [decide_eq_true_eq, decide_eq_false_iff_not, Int.not_lt, Int.not_le, Bool.not_eq_true', Bool.not_eq_false', Decidable.not_not, not_true_eq_false] at hc
        all_goals first | (exfalso; with_reducible exact bft hc) | (exfalso; with_reducible exact btf hc) | (exfalso; omega) | skip
        all_goals refine tc_seq fun K8 hK8 => ?_
        all_goals refine tc_region ?_
        all_goals refine tl_q (y_assign rfl) rfl ?_
        all_goals refine tl_nil ?_
        all_goals (refine hK8 ?_; try (clear hK8; clear K8))
        all_goals refine tc_ret ?_
        all_goals (repeat (refine tk_then_ret ?_))
        all_goals first | refine tk_ret rfl rfl (.cons (.tmp rfl) .nil) ?_ | refine tk_retM rfl (by repeat constructor) rfl (.cons (.tmp rfl) .nil) ?_
        all_goals (
         refine fun w' hw' => ⟨congrArg (fun n => Ending.returned (Value.int .i64 n)) ?_, hw'.fr (by simp)⟩
         first
         | exact hfin.symm
         | exact (chkT_bad hc0 (by omega) hbad).symm
         | (unfold chkT; rw [if_neg (by omega), if_pos (by omega)])
         | (unfold chkT; rw [if_pos (by omega)]))
      · try simp only [decide_eq_true_eq, decide_eq_false_iff_not, Int.not_lt, Int.not_le, Bool.not_eq_true', Bool.not_eq_false', Decidable.not_not, not_true_eq_false] at hc
        all_goals first | (exfalso; with_reducible exact bft hc) | (exfalso; with_reducible exact btf hc) | (exfalso; omega) | skip
        all_goals refine tc_skip ?_
        all_goals (refine hK6 ?_; try (clear hK6; clear K6))
        all_goals refine tc_seq fun K9 hK9 => ?_
        all_goals refine tc_seq fun K10 hK10 => ?_
        all_goals refine tc_region ?_
        all_goals refine tl_q (y_field rfl) rfl ?_
        all_goals (refine tl_q (y_load1 rfl (by repeat constructor) (by rfl)) rfl ?_)
        all_goals refine tl_q (y_len rfl) rfl ?_
        all_goals refine tl_q (y_eql rfl rfl) rfl ?_
        all_goals refine tl_q (y_move rfl) rfl ?_
        all_goals (refine tl_gs rfl rfl (fun hc => ?_) (fun hc => ?_) <;> (try simp only [decide_eq_true_eq, decide_eq_false_iff_not, Int.not_lt, Int.not_le, Bool.not_eq_true', Bool.not_eq_false', Decidable.not_not, not_true_eq_false] at hc) <;> (first | refine tl_sk rfl rfl rfl rfl ?_ | refine tl_qg rfl rfl (y_field rfl) rfl ?_))
        all_goals (first | refine tl_sk rfl rfl rfl rfl ?_ | refine tl_qg rfl rfl (y_load1 rfl (by repeat constructor) (by rfl)) rfl ?_)
        all_goals (first | refine tl_sk rfl rfl rfl rfl ?_ | refine tl_qg rfl rfl (y_index rfl rfl (by omega) (hadp (by omega))) rfl ?_)
        all_goals (first | refine tl_sk rfl rfl rfl rfl ?_ | refine tl_qg rfl rfl (y_load1o (v := vi (t.parts.getD 0 0)) rfl (fun w' hw' => hcp w' (hw'.fr (w0 := w) (S := []) (by simp)) 0 (by omega))) rfl ?_)
        all_goals (first | refine tl_sk rfl rfl rfl rfl ?_ | refine tl_qg rfl rfl (y_neq rfl rfl) rfl ?_)
        all_goals (first | refine tl_q (y_pick_t rfl rfl) rfl ?_ | refine tl_q (y_pick_f rfl rfl) rfl ?_)
        all_goals refine tl_q (y_move rfl) rfl ?_
        all_goals (first | refine tl_sk rfl rfl rfl rfl ?_ | (refine tl_gs rfl rfl (fun hc => ?_) (fun hc => ?_) <;> (try simp only [decide_eq_true_eq, decide_eq_false_iff_not, Int.not_lt, Int.not_le, Bool.not_eq_true', Bool.not_eq_false', Decidable.not_not, not_true_eq_false] at hc) <;> (first | refine tl_sk rfl rfl rfl rfl ?_ | refine tl_qg rfl rfl (y_field rfl) rfl ?_)))
        all_goals (first | refine tl_sk rfl rfl rfl rfl ?_ | refine tl_qg rfl rfl (y_load1 rfl (by repeat constructor) (by rfl)) rfl ?_)
        all_goals (first | refine tl_sk rfl rfl rfl rfl ?_ | refine tl_eg rfl rfl rfl (e_callV rfl (.cons rfl (.cons rfl (.cons rfl .nil))) (fun w' _ => in_c _ _ _ w')) (fun _ _ => ?_))
        all_goals (first | refine tl_sk rfl rfl rfl rfl ?_ | refine tl_qg rfl rfl (y_not_dec rfl) rfl ?_)
        all_goals (first | refine tl_q (y_pick_t rfl rfl) rfl ?_ | refine tl_q (y_pick_f rfl rfl) rfl ?_)
        all_goals refine tl_q (y_move rfl) rfl ?_
        all_goals (first | refine tl_sk rfl rfl rfl rfl ?_ | (refine tl_gs rfl rfl (fun hc => ?_) (fun hc => ?_) <;> (try simp only [decide_eq_true_eq, decide_eq_false_iff_not, Int.not_lt, Int.not_le, Bool.not_eq_true', Bool.not_eq_false', Decidable.not_not, not_true_eq_false] at hc) <;> (first | refine tl_sk rfl rfl rfl rfl ?_ | refine tl_qg rfl rfl (y_field rfl) rfl ?_)))
        all_goals (first | refine tl_sk rfl rfl rfl rfl ?_ | refine tl_qg rfl rfl (y_load1 rfl (by repeat constructor) (by rfl)) rfl ?_)
        all_goals (first | refine tl_sk rfl rfl rfl rfl ?_ | refine tl_qg rfl rfl (y_len rfl) rfl ?_)
        all_goals (first | refine tl_sk rfl rfl rfl rfl ?_ | refine tl_qg rfl rfl (y_eql rfl rfl) rfl ?_)
        all_goals (first | refine tl_q (y_pick_t rfl rfl) rfl ?_ | refine tl_q (y_pick_f rfl rfl) rfl ?_)
        all_goals refine tl_nil ?_
        all_goals (refine hK10 ?_; try (clear hK10; clear K10))
        all_goals (
         refine tc_cond rfl (fun hc => ?_) (fun hc => ?_)
         · try simp only [decide_eq_true_eq, decide_eq_false_iff_not, Int.not_lt, Int.not_le, Bool.not_eq_true', Bool.not_eq_false', Decidable.not_not, not_true_eq_false] at hc
           all_goals first | (exfalso; with_reducible exact bft hc) | (exfalso; with_reducible exact btf hc) | (exfalso; omega) | skip
           all_goals refine tc_seq fun K11 hK11 => ?_
           all_goals (have hbad := bad7 (t := t) (by omega))
           all_goals refine tc_region ?_
           all_goals refine tl_q (y_assign rfl) rfl ?_
           all_goals refine tl_nil ?_
           all_goals (refine hK11 ?_; try (clear hK11; clear K11))
           all_goals refine tc_ret ?_
           all_goals (repeat (refine tk_then_ret ?_))
           all_goals first | refine tk_ret rfl rfl (.cons (.tmp rfl) .nil) ?_ | refine tk_retM rfl (by repeat constructor) rfl (.cons (.tmp rfl) .nil) ?_
           all_goals (
            refine fun w' hw' => ⟨congrArg (fun n => Ending.returned (Value.int .i64 n)) ?_, hw'.fr (by simp)⟩
            first
            | exact hfin.symm
            | exact (chkT_bad hc0 (by omega) hbad).symm
            | (unfold chkT; rw [if_neg (by omega), if_pos (by omega)])
            | (unfold chkT; rw [if_pos (by omega)]))
         · try simp only [decide_eq_true_eq, decide_eq_false_iff_not, Int.not_lt, Int.not_le, Bool.not_eq_true', Bool.not_eq_false', Decidable.not_not, not_true_eq_false] at hc
           all_goals first | (exfalso; with_reducible exact bft hc) | (exfalso; with_reducible exact btf hc) | (exfalso; omega) | skip
           all_goals refine tc_skip ?_
           all_goals (refine hK9 ?_; try (clear hK9; clear K9))
           all_goals refine tc_seq fun K12 hK12 => ?_
           all_goals refine tc_seq fun K13 hK13 => ?_
           all_goals refine tc_region ?_
           all_goals refine tl_q (y_assign rfl) rfl ?_
           all_goals refine tl_nil ?_
           all_goals (refine hK13 ?_; try (clear hK13; clear K13))
           all_goals refine tc_block ?_
           all_goals (
            refine tc_loop (fun i : Nat => 1 ≤ i ∧ i ≤ t.parts.length ∧ (0 ≤ t.parts.getD (i - 1) 0 ∧ t.parts.getD (i - 1) 0 ≤ t.s.divisions) ∧ ∀ j : Nat, 0 < j → j < i → okAt (partQ t) (-1) t.parts j = true) (fun i => [(1, ptr b1), (4, vi i)]) (fun _ => [(w, [])]) (fun i => [(b1, .cells (trV t (.slice ad0 t.s.weights.length cp0) (.slice ad1 t.parts.length cp1) (.slice ad2 t.liquids.length cp2) (.slice ad3 t.tests.length cp3)).cells 28 (0, 0))]) (fun i => t.parts.length - i) ?_ ?_
            · exact tk_start 1 ⟨Nat.le_refl _, by omega, (by omega : 0 ≤ t.parts.getD 0 0 ∧ t.parts.getD 0 0 ≤ t.s.divisions), fun j h1 h2 => absurd h1 (by omega)⟩ (.cons rfl (.cons rfl .nil)) (fun _ h => h)
            · rintro i ⟨hi1, hi, hpi, hI⟩
              all_goals refine tc_seq fun K14 hK14 => ?_
              all_goals refine tc_seq fun K15 hK15 => ?_
              all_goals refine tc_region ?_
              all_goals refine tl_q (y_move rfl) rfl ?_
              all_goals refine tl_q (y_field rfl) rfl ?_
              all_goals (refine tl_q (y_load1 rfl (by repeat constructor) (by rfl)) rfl ?_)
              all_goals refine tl_q (y_len rfl) rfl ?_
              all_goals refine tl_q (y_lss rfl rfl) rfl ?_
              all_goals refine tl_nil ?_
              all_goals (refine hK15 ?_; try (clear hK15; clear K15))
              all_goals (
               refine tc_cond rfl (fun hc => ?_) (fun hc => ?_)
               · try simp only [decide_eq_true_eq, decide_eq_false_iff_not, Int.not_lt, Int.not_le, Bool.not_eq_true', Bool.not_eq_false', Decidable.not_not, not_true_eq_false] at hc
                 all_goals first | (exfalso; with_reducible exact bft hc) | (exfalso; with_reducible exact btf hc) | (exfalso; omega) | skip
                 all_goals refine tc_skip ?_
                 all_goals (refine hK14 ?_; try (clear hK14; clear K14))
                 all_goals refine tc_seq fun K16 hK16 => ?_
                 all_goals refine tc_block ?_
                 all_goals refine tc_seq fun K17 hK17 => ?_
                 all_goals (have hok := okAt_i (t := t) (i := i) (by omega))
                 all_goals refine tc_draw (by kernel_rfl) ?_
                 all_goals refine tx_p 0 rfl (by kernel_rfl) (y_field rfl) rfl (fun _ _ _ h => h) (fun _ h => h) ?_
                 all_goals (refine tx_q 1 rfl (by kernel_rfl) (y_load1 rfl (by repeat constructor) (by rfl)) rfl (fun _ _ _ h => h) (fun _ h => h) ?_)
                 all_goals refine tx_p 2 rfl (by kernel_rfl) (y_move rfl) rfl (fun _ _ _ h => h) (fun _ h => h) ?_
                 all_goals (refine tx_p 3 rfl (by kernel_rfl) (y_index rfl rfl (by omega) (hadp (by omega))) rfl (fun _ _ _ h => h) (fun _ h => h) ?_)
                 all_goals (refine tx_q 4 rfl (by kernel_rfl) (y_load1o (v := vi (t.parts.getD i 0)) rfl (fun w' hw' => by rw [show Int.toNat (i : Int) * 1 = i from by omega]; exact hcp w' (hw'.fr (w0 := w) (S := []) (by simp)) i (by omega))) rfl (fun _ _ _ h => h) (fun _ h => h) ?_)
                 all_goals refine tx_p 5 rfl (by kernel_rfl) (y_field rfl) rfl (fun _ _ _ h => h) (fun _ h => h) ?_
                 all_goals (refine tx_q 6 rfl (by kernel_rfl) (y_load1 rfl (by repeat constructor) (by rfl)) rfl (fun _ _ _ h => h) (fun _ h => h) ?_)
                 all_goals refine tx_p 7 rfl (by kernel_rfl) (y_move rfl) rfl (fun _ _ _ h => h) (fun _ h => h) ?_
                 all_goals refine tx_p 8 rfl (by kernel_rfl) (y_sub rfl rfl (by omega)) rfl (fun _ _ _ h => h) (fun _ h => h) ?_
                 all_goals (refine tx_p 9 rfl (by kernel_rfl) (y_index rfl rfl (by omega) (hadp (by omega))) rfl (fun _ _ _ h => h) (fun _ h => h) ?_)
                 all_goals (refine tx_q 10 rfl (by kernel_rfl) (y_load1o (v := vi (t.parts.getD (i - 1) 0)) rfl (fun w' hw' => by rw [show Int.toNat ((i : Int) - 1) * 1 = i - 1 from by omega]; exact hcp w' (hw'.fr (w0 := w) (S := []) (by simp)) (i - 1) (by omega))) rfl (fun _ _ _ h => h) (fun _ h => h) ?_)
                 all_goals refine tx_p 11 rfl (by kernel_rfl) (y_add rfl rfl (by omega)) rfl (fun _ _ _ h => h) (fun _ h => h) ?_
                 all_goals refine tx_p 12 rfl (by kernel_rfl) (y_field rfl) rfl (fun _ _ _ h => h) (fun _ h => h) ?_
                 all_goals refine tx_p 13 rfl (by kernel_rfl) (y_field rfl) rfl (fun _ _ _ h => h) (fun _ h => h) ?_
                 all_goals (refine tx_q 14 rfl (by kernel_rfl) (y_load1 rfl (by repeat constructor) (by rfl)) rfl (fun _ _ _ h => h) (fun _ h => h) ?_)
                 all_goals refine tx_e 15 rfl (by kernel_rfl) rfl (e_callV rfl (.cons rfl (.cons rfl (.cons rfl .nil))) (fun w' _ => in_c _ _ _ w')) (.inr fun _ _ h => h) (fun _ _ => ?_)
                 all_goals (refine tx_p 16 rfl (by kernel_rfl) (y_not_dec rfl) rfl (fun _ _ _ h => h) (fun _ h => h) ?_)
                 all_goals refine tx_done (by kernel_rfl) ?_
                 all_goals (refine hK17 ?_; try (clear hK17; clear K17))
                 all_goals (
                  refine tc_cond rfl (fun hc => ?_) (fun hc => ?_)
                  · try simp only [decide_eq_true_eq, decide_eq_false_iff_not, Int.not_lt, Int.not_le, Bool.not_eq_true', Bool.not_eq_false', Decidable.not_not, not_true_eq_false] at hc
                    all_goals first | (exfalso; with_reducible exact bft hc) | (exfalso; with_reducible exact btf hc) | (exfalso; omega) | skip
                    all_goals refine tc_seq fun K18 hK18 => ?_
                    all_goals (have hbad : partB t = false ∨ ¬ (0 ≤ t.worst ∧ t.worst ≤ 3) ∨ t.liquids.length = 0 ∨ t.liquids.all lqB = false ∨ t.tests.all (tsB t) = false := .inl (partB_bad (i := i) (by omega) (hok.trans (decide_eq_false (by omega)))))
                    all_goals refine tc_region ?_
                    all_goals refine tl_q (y_assign rfl) rfl ?_
                    all_goals refine tl_nil ?_
                    all_goals (refine hK18 ?_; try (clear hK18; clear K18))
                    all_goals refine tc_ret ?_
                    all_goals (repeat (first | refine tk_then_ret ?_ | refine tk_block_ret ?_))
                    all_goals first | refine tk_ret rfl rfl (.cons (.tmp rfl) .nil) ?_ | refine tk_retM rfl (by repeat constructor) rfl (.cons (.tmp rfl) .nil) ?_
                    all_goals (
                     refine fun w' hw' => ⟨congrArg (fun n => Ending.returned (Value.int .i64 n)) ?_, hw'.fr (by simp)⟩
                     first
                     | exact hfin.symm
                     | exact (chkT_bad hc0 (by omega) hbad).symm
                     | (unfold chkT; rw [if_neg (by omega), if_pos (by omega)])
                     | (unfold chkT; rw [if_pos (by omega)]))
                  · try simp only [decide_eq_true_eq, decide_eq_false_iff_not, Int.not_lt, Int.not_le, Bool.not_eq_true', Bool.not_eq_false', Decidable.not_not, not_true_eq_false] at hc
                    all_goals first | (exfalso; with_reducible exact bft hc) | (exfalso; with_reducible exact btf hc) | (exfalso; omega) | skip
                    all_goals refine tc_skip ?_
                    all_goals (refine hK16 ?_; try (clear hK16; clear K16))
                    all_goals refine tc_region ?_
                    all_goals refine tl_q (y_move rfl) rfl ?_
                    all_goals refine tl_q (y_add rfl rfl (by omega)) rfl ?_
                    all_goals refine tl_q (y_assign rfl) rfl ?_
                    all_goals refine tl_nil ?_
                    all_goals (
                     exact tk_round (i + 1) ⟨by omega, by omega, by rw [Nat.add_sub_cancel]; omega, fun j h1 h2 => by rcases Nat.lt_succ_iff_lt_or_eq.1 h2 with h | rfl; exact hI j h1 h; rw [hok]; exact decide_eq_true (by omega)⟩ (by omega) (.cons rfl (.cons rfl .nil)) (fun _ h => h)))
               · try simp only [decide_eq_true_eq, decide_eq_false_iff_not, Int.not_lt, Int.not_le, Bool.not_eq_true', Bool.not_eq_false', Decidable.not_not, not_true_eq_false] at hc
                 all_goals first | (exfalso; with_reducible exact bft hc) | (exfalso; with_reducible exact btf hc) | (exfalso; omega) | skip
                 all_goals refine tc_exit ?_
                 all_goals (refine hK12 ?_; try (clear hK12; clear K12))
                 all_goals refine tc_seq fun K19 hK19 => ?_
                 all_goals refine tc_seq fun K20 hK20 => ?_
                 all_goals (have hil : i = t.parts.length := by omega)
                 all_goals subst hil
                 all_goals (have hPB := partB_yes (t := t) (by omega) (by omega) hd1 hI)
                 all_goals refine tc_region ?_
                 all_goals refine tl_q (y_assign rfl) rfl ?_
                 all_goals refine tl_nil ?_
                 all_goals (refine hK20 ?_; try (clear hK20; clear K20))
                 all_goals refine tc_block ?_
                 all_goals (
                  refine tc_loop (fun i : Nat => i ≤ t.liquids.length ∧ ∀ j : Nat, j < i → lqB (t.liquids.getD j (0, 0)) = true) (fun i => [(1, ptr b1), (5, vi i)]) (fun _ => [(w, [])]) (fun i => [(b1, .cells (trV t (.slice ad0 t.s.weights.length cp0) (.slice ad1 t.parts.length cp1) (.slice ad2 t.liquids.length cp2) (.slice ad3 t.tests.length cp3)).cells 28 (0, 0))]) (fun i => t.liquids.length - i) ?_ ?_
                  · exact tk_start 0 ⟨Nat.zero_le _, fun j h => absurd h (Nat.not_lt_zero j)⟩ (.cons rfl (.cons rfl .nil)) (fun _ h => h)
                  · rintro i ⟨hi, hI1⟩
                    all_goals refine tc_seq fun K21 hK21 => ?_
                    all_goals refine tc_seq fun K22 hK22 => ?_
                    all_goals refine tc_region ?_
                    all_goals refine tl_q (y_move rfl) rfl ?_
                    all_goals refine tl_q (y_field rfl) rfl ?_
                    all_goals (refine tl_q (y_load1 rfl (by repeat constructor) (by rfl)) rfl ?_)
                    all_goals refine tl_q (y_len rfl) rfl ?_
                    all_goals refine tl_q (y_lss rfl rfl) rfl ?_
                    all_goals refine tl_nil ?_
                    all_goals (refine hK22 ?_; try (clear hK22; clear K22))
                    all_goals (
                     refine tc_cond rfl (fun hc => ?_) (fun hc => ?_)
                     · try simp only [decide_eq_true_eq, decide_eq_false_iff_not, Int.not_lt, Int.not_le, Bool.not_eq_true', Bool.not_eq_false', Decidable.not_not, not_true_eq_false] at hc
                       all_goals first | (exfalso; with_reducible exact bft hc) | (exfalso; with_reducible exact btf hc) | (exfalso; omega) | skip
                       all_goals refine tc_skip ?_
                       all_goals (refine hK21 ?_; try (clear hK21; clear K21))
                       all_goals refine tc_seq fun K23 hK23 => ?_
                       all_goals refine tc_block ?_
                       all_goals refine tc_seq fun K24 hK24 => ?_
                       all_goals refine tc_draw (by kernel_rfl) ?_
                       all_goals refine tx_p 0 rfl (by kernel_rfl) (y_field rfl) rfl (fun _ _ _ h => h) (fun _ h => h) ?_
                       all_goals (refine tx_q 1 rfl (by kernel_rfl) (y_load1 rfl (by repeat constructor) (by rfl)) rfl (fun _ _ _ h => h) (fun _ h => h) ?_)
                       all_goals refine tx_p 2 rfl (by kernel_rfl) (y_move rfl) rfl (fun _ _ _ h => h) (fun _ h => h) ?_
                       all_goals (refine tx_p 3 rfl (by kernel_rfl) (y_index rfl rfl (by omega) (hadl (by omega))) rfl (fun _ _ _ h => h) (fun _ h => h) ?_)
                       all_goals (refine tx_q 4 rfl (by kernel_rfl) (y_loadNo (n := 2) rfl (fun w' hw' => by rw [show Int.toNat (i : Int) * 2 = i * 2 from by omega]; exact hcl w' [] (hw'.fr (w0 := w) (S := []) (by simp)) (by simp) i (by omega))) rfl (fun _ _ _ h => h) (fun _ h => h) ?_)
                       all_goals refine tx_e 5 rfl (by kernel_rfl) rfl (e_callV rfl (.cons rfl .nil) (fun w' _ => dense_c _ w')) (.inr fun _ _ h => h) (fun _ _ => ?_)
                       all_goals (refine tx_p 6 rfl (by kernel_rfl) (y_not_dec rfl) rfl (fun _ _ _ h => h) (fun _ h => h) ?_)
                       all_goals refine tx_p 7 rfl (by kernel_rfl) (y_move rfl) rfl (fun _ _ _ h => h) (fun _ h => h) ?_
                       all_goals (refine tx_gs 91 rfl (fun hc => ?_) (fun hc => ?_) <;> (try simp only [decide_eq_true_eq, decide_eq_false_iff_not, Int.not_lt, Int.not_le, Bool.not_eq_true', Bool.not_eq_false', Decidable.not_not, not_true_eq_false] at hc) <;> (first | refine tx_sk 8 rfl (by kernel_rfl) rfl rfl rfl rfl (fun _ _ _ h => h) (fun _ h => h) ?_ | refine tx_pg 8 rfl (by kernel_rfl) rfl rfl (y_field rfl) rfl (fun _ _ _ h => h) (fun _ h => h) ?_))
                       all_goals (first | refine tx_sk 9 rfl (by kernel_rfl) rfl rfl rfl rfl (fun _ _ _ h => h) (fun _ h => h) ?_ | refine tx_qg 9 rfl (by kernel_rfl) rfl rfl (y_load1 rfl (by repeat constructor) (by rfl)) rfl (fun _ _ _ h => h) (fun _ h => h) ?_)
                       all_goals (first | refine tx_sk 10 rfl (by kernel_rfl) rfl rfl rfl rfl (fun _ _ _ h => h) (fun _ h => h) ?_ | refine tx_pg 10 rfl (by kernel_rfl) rfl rfl (y_move rfl) rfl (fun _ _ _ h => h) (fun _ h => h) ?_)
                       all_goals (first | refine tx_sk 11 rfl (by kernel_rfl) rfl rfl rfl rfl (fun _ _ _ h => h) (fun _ h => h) ?_ | refine tx_pg 11 rfl (by kernel_rfl) rfl rfl (y_index rfl rfl (by omega) (hadl (by omega))) rfl (fun _ _ _ h => h) (fun _ h => h) ?_)
                       all_goals (first | refine tx_sk 12 rfl (by kernel_rfl) rfl rfl rfl rfl (fun _ _ _ h => h) (fun _ h => h) ?_ | refine tx_pg 12 rfl (by kernel_rfl) rfl rfl (y_field rfl) rfl (fun _ _ _ h => h) (fun _ h => h) ?_)
                       all_goals (first | refine tx_sk 13 rfl (by kernel_rfl) rfl rfl rfl rfl (fun _ _ _ h => h) (fun _ h => h) ?_ | refine tx_qg 13 rfl (by kernel_rfl) rfl rfl (y_load1o (v := vi (t.liquids.getD i (0, 0)).2) rfl (fun w' hw' => by rw [show Int.toNat (i : Int) * 2 = i * 2 from by omega]; exact (hcl w' [] (hw'.fr (w0 := w) (S := []) (by simp)) (by simp) i (by omega)).get 1 _ rfl)) rfl (fun _ _ _ h => h) (fun _ h => h) ?_)
                       all_goals (first | refine tx_sk 14 rfl (by kernel_rfl) rfl rfl rfl rfl (fun _ _ _ h => h) (fun _ h => h) ?_ | refine tx_pg 14 rfl (by kernel_rfl) rfl rfl (y_field rfl) rfl (fun _ _ _ h => h) (fun _ h => h) ?_)
                       all_goals (first | refine tx_sk 15 rfl (by kernel_rfl) rfl rfl rfl rfl (fun _ _ _ h => h) (fun _ h => h) ?_ | refine tx_qg 15 rfl (by kernel_rfl) rfl rfl (y_load1 rfl (by repeat constructor) (by rfl)) rfl (fun _ _ _ h => h) (fun _ h => h) ?_)
                       all_goals (first | refine tx_sk 16 rfl (by kernel_rfl) rfl rfl rfl rfl (fun _ _ _ h => h) (fun _ h => h) ?_ | refine tx_pg 16 rfl (by kernel_rfl) rfl rfl (y_move rfl) rfl (fun _ _ _ h => h) (fun _ h => h) ?_)
                       all_goals (first | refine tx_sk 17 rfl (by kernel_rfl) rfl rfl rfl rfl (fun _ _ _ h => h) (fun _ h => h) ?_ | refine tx_pg 17 rfl (by kernel_rfl) rfl rfl (y_index rfl rfl (by omega) (hadl (by omega))) rfl (fun _ _ _ h => h) (fun _ h => h) ?_)
                       all_goals (first | refine tx_sk 18 rfl (by kernel_rfl) rfl rfl rfl rfl (fun _ _ _ h => h) (fun _ h => h) ?_ | refine tx_pg 18 rfl (by kernel_rfl) rfl rfl (y_field rfl) rfl (fun _ _ _ h => h) (fun _ h => h) ?_)
                       all_goals (first | refine tx_sk 19 rfl (by kernel_rfl) rfl rfl rfl rfl (fun _ _ _ h => h) (fun _ h => h) ?_ | refine tx_qg 19 rfl (by kernel_rfl) rfl rfl (y_load1o (v := vi (t.liquids.getD i (0, 0)).1) rfl (fun w' hw' => by rw [show Int.toNat (i : Int) * 2 = i * 2 from by omega]; exact (hcl w' [] (hw'.fr (w0 := w) (S := []) (by simp)) (by simp) i (by omega)).get 0 _ rfl)) rfl (fun _ _ _ h => h) (fun _ h => h) ?_)
                       all_goals (first | refine tx_sk 20 rfl (by kernel_rfl) rfl rfl rfl rfl (fun _ _ _ h => h) (fun _ h => h) ?_ | refine tx_pg 20 rfl (by kernel_rfl) rfl rfl (y_sub rfl rfl (by omega)) rfl (fun _ _ _ h => h) (fun _ h => h) ?_)
                       all_goals (first | refine tx_sk 21 rfl (by kernel_rfl) rfl rfl rfl rfl (fun _ _ _ h => h) (fun _ h => h) ?_ | refine tx_pg 21 rfl (by kernel_rfl) rfl rfl (y_gtr rfl rfl) rfl (fun _ _ _ h => h) (fun _ h => h) ?_)
                       all_goals (first | refine tx_p 22 rfl (by kernel_rfl) (y_pick_t rfl rfl) rfl (fun _ _ _ h => h) (fun _ h => h) ?_ | refine tx_p 22 rfl (by kernel_rfl) (y_pick_f rfl rfl) rfl (fun _ _ _ h => h) (fun _ h => h) ?_)
                       all_goals refine tx_done (by kernel_rfl) ?_
                       all_goals (refine hK24 ?_; try (clear hK24; clear K24))
                       all_goals (
                        refine tc_cond rfl (fun hc => ?_) (fun hc => ?_)
                        · try simp only [decide_eq_true_eq, decide_eq_false_iff_not, Int.not_lt, Int.not_le, Bool.not_eq_true', Bool.not_eq_false', Decidable.not_not, not_true_eq_false] at hc
                          all_goals first | (exfalso; with_reducible exact bft hc) | (exfalso; with_reducible exact btf hc) | (exfalso; omega) | skip
                          all_goals refine tc_seq fun K25 hK25 => ?_
                          all_goals (have hl0 : lqB (t.liquids.getD i (0, 0)) = false := decide_eq_false (by omega))
                          all_goals (have hbad : partB t = false ∨ ¬ (0 ≤ t.worst ∧ t.worst ≤ 3) ∨ t.liquids.length = 0 ∨ t.liquids.all lqB = false ∨ t.tests.all (tsB t) = false := .inr (.inr (.inr (.inl (all_bad (i := i) (x := (0, 0)) (by omega) hl0)))))
                          all_goals refine tc_region ?_
                          all_goals refine tl_q (y_assign rfl) rfl ?_
                          all_goals refine tl_nil ?_
                          all_goals (refine hK25 ?_; try (clear hK25; clear K25))
                          all_goals refine tc_ret ?_
                          all_goals (repeat (first | refine tk_then_ret ?_ | refine tk_block_ret ?_))
                          all_goals first | refine tk_ret rfl rfl (.cons (.tmp rfl) .nil) ?_ | refine tk_retM rfl (by repeat constructor) rfl (.cons (.tmp rfl) .nil) ?_
                          all_goals (
                           refine fun w' hw' => ⟨congrArg (fun n => Ending.returned (Value.int .i64 n)) ?_, hw'.fr (by simp)⟩
                           first
                           | exact hfin.symm
                           | exact (chkT_bad hc0 (by omega) hbad).symm
                           | (unfold chkT; rw [if_neg (by omega), if_pos (by omega)])
                           | (unfold chkT; rw [if_pos (by omega)]))
                        · try simp only [decide_eq_true_eq, decide_eq_false_iff_not, Int.not_lt, Int.not_le, Bool.not_eq_true', Bool.not_eq_false', Decidable.not_not, not_true_eq_false] at hc
                          all_goals first | (exfalso; with_reducible exact bft hc) | (exfalso; with_reducible exact btf hc) | (exfalso; omega) | skip
                          all_goals refine tc_skip ?_
                          all_goals (refine hK23 ?_; try (clear hK23; clear K23))
                          all_goals refine tc_region ?_
                          all_goals refine tl_q (y_move rfl) rfl ?_
                          all_goals refine tl_q (y_add rfl rfl (by omega)) rfl ?_
                          all_goals refine tl_q (y_assign rfl) rfl ?_
                          all_goals refine tl_nil ?_
                          all_goals (
                           have hl0 : lqB (t.liquids.getD i (0, 0)) = true := decide_eq_true (by omega)
                           exact tk_round (i + 1) ⟨by omega, fun j h2 => by rcases Nat.lt_succ_iff_lt_or_eq.1 h2 with h | rfl; exact hI1 j h; exact hl0⟩ (by omega) (.cons rfl (.cons rfl .nil)) (fun _ h => h)))
                     · try simp only [decide_eq_true_eq, decide_eq_false_iff_not, Int.not_lt, Int.not_le, Bool.not_eq_true', Bool.not_eq_false', Decidable.not_not, not_true_eq_false] at hc
                       all_goals first | (exfalso; with_reducible exact bft hc) | (exfalso; with_reducible exact btf hc) | (exfalso; omega) | skip
                       all_goals refine tc_exit ?_
                       all_goals (refine hK19 ?_; try (clear hK19; clear K19))
                       all_goals refine tc_seq fun K26 hK26 => ?_
                       all_goals refine tc_seq fun K27 hK27 => ?_
                       all_goals (have hil : i = t.liquids.length := by omega)
                       all_goals subst hil
                       all_goals (have hLQ : t.liquids.all lqB = true := all_good (x := (0, 0)) hI1)
                       all_goals refine tc_region ?_
                       all_goals refine tl_q (y_assign rfl) rfl ?_
                       all_goals refine tl_nil ?_
                       all_goals (refine hK27 ?_; try (clear hK27; clear K27))
                       all_goals refine tc_block ?_
                       all_goals (
                        refine tc_loop (fun i : Nat => i ≤ t.tests.length ∧ ∀ j : Nat, j < i → tsB t (t.tests.getD j (0, 0, 0)) = true) (fun i => [(1, ptr b1), (6, vi i)]) (fun _ => [(w, [])]) (fun i => [(b1, .cells (trV t (.slice ad0 t.s.weights.length cp0) (.slice ad1 t.parts.length cp1) (.slice ad2 t.liquids.length cp2) (.slice ad3 t.tests.length cp3)).cells 28 (0, 0))]) (fun i => t.tests.length - i) ?_ ?_
                        · exact tk_start 0 ⟨Nat.zero_le _, fun j h => absurd h (Nat.not_lt_zero j)⟩ (.cons rfl (.cons rfl .nil)) (fun _ h => h)
                        · rintro i ⟨hi, hI2⟩
                          all_goals refine tc_seq fun K28 hK28 => ?_
                          all_goals refine tc_seq fun K29 hK29 => ?_
                          all_goals refine tc_region ?_
                          all_goals refine tl_q (y_move rfl) rfl ?_
                          all_goals refine tl_q (y_field rfl) rfl ?_
                          all_goals (refine tl_q (y_load1 rfl (by repeat constructor) (by rfl)) rfl ?_)
                          all_goals refine tl_q (y_len rfl) rfl ?_
                          all_goals refine tl_q (y_lss rfl rfl) rfl ?_
                          all_goals refine tl_nil ?_
                          all_goals (refine hK29 ?_; try (clear hK29; clear K29))
                          all_goals (
                           refine tc_cond rfl (fun hc => ?_) (fun hc => ?_)
                           · try simp only [decide_eq_true_eq, decide_eq_false_iff_not, Int.not_lt, Int.not_le, Bool.not_eq_true', Bool.not_eq_false', Decidable.not_not, not_true_eq_false] at hc
                             all_goals first | (exfalso; with_reducible exact bft hc) | (exfalso; with_reducible exact btf hc) | (exfalso; omega) | skip
                             all_goals refine tc_skip ?_
                             all_goals (refine hK28 ?_; try (clear hK28; clear K28))
                             all_goals refine tc_seq fun K30 hK30 => ?_
                             all_goals refine tc_block ?_
                             all_goals refine tc_seq fun K31 hK31 => ?_
                             all_goals refine tc_region ?_
                             all_goals refine tl_q (y_field rfl) rfl ?_
                             all_goals (refine tl_q (y_load1 rfl (by repeat constructor) (by rfl)) rfl ?_)
                             all_goals refine tl_q (y_move rfl) rfl ?_
                             all_goals (refine tl_q (y_index rfl rfl (by omega) (hadt (by omega))) rfl ?_)
                             all_goals (refine tl_q (y_loadNo (n := 3) rfl (fun w' hw' => by rw [show Int.toNat (i : Int) * 3 = i * 3 from by omega]; exact hct w' [] (hw'.fr (w0 := w) (S := []) (by simp)) (by simp) i (by omega))) rfl ?_)
                             all_goals refine tl_e (e_allocN rfl) rfl (fun b7 _ => ?_)
                             all_goals refine tl_e (e_storeW rfl rfl (by repeat constructor) (by rfl) (by rfl) (by simp [Value.oneCell'])) rfl (fun _ _ => ?_)
                             all_goals refine tl_nil ?_
                             all_goals (refine hK31 ?_; try (clear hK31; clear K31))
                             all_goals refine tc_seq fun K32 hK32 => ?_
                             all_goals refine tc_region ?_
                             all_goals refine tl_q (y_field rfl) rfl ?_
                             all_goals (refine tl_q (y_load1 rfl (by repeat constructor) (by rfl)) rfl ?_)
                             all_goals refine tl_q (y_field rfl) rfl ?_
                             all_goals (refine tl_q (y_load1 rfl (by repeat constructor) (by rfl)) rfl ?_)
                             all_goals refine tl_q (y_len rfl) rfl ?_
                             all_goals refine tl_q (y_sub rfl rfl (by omega)) rfl ?_
                             all_goals refine tl_e (e_callV rfl (.cons rfl (.cons rfl (.cons rfl .nil))) (fun w' _ => in_c _ _ _ w')) rfl (fun _ _ => ?_)
                             all_goals (refine tl_q (y_not_dec rfl) rfl ?_)
                             all_goals refine tl_q (y_move rfl) rfl ?_
                             all_goals (refine tl_gs rfl rfl (fun hc => ?_) (fun hc => ?_) <;> (try simp only [decide_eq_true_eq, decide_eq_false_iff_not, Int.not_lt, Int.not_le, Bool.not_eq_true', Bool.not_eq_false', Decidable.not_not, not_true_eq_false] at hc) <;> (first | refine tl_sk rfl rfl rfl rfl ?_ | refine tl_qg rfl rfl (y_field rfl) rfl ?_))
                             all_goals (first | refine tl_sk rfl rfl rfl rfl ?_ | refine tl_qg rfl rfl (y_load1 rfl (by repeat constructor) (by rfl)) rfl ?_)
                             all_goals (first | refine tl_sk rfl rfl rfl rfl ?_ | refine tl_qg rfl rfl (y_field rfl) rfl ?_)
                             all_goals (first | refine tl_sk rfl rfl rfl rfl ?_ | refine tl_qg rfl rfl (y_field rfl) rfl ?_)
                             all_goals (first | refine tl_sk rfl rfl rfl rfl ?_ | refine tl_qg rfl rfl (y_load1 rfl (by repeat constructor) (by rfl)) rfl ?_)
                             all_goals (first | refine tl_sk rfl rfl rfl rfl ?_ | refine tl_qg rfl rfl (y_len rfl) rfl ?_)
                             all_goals (first | refine tl_sk rfl rfl rfl rfl ?_ | refine tl_eg rfl rfl rfl (e_callV rfl (.cons rfl (.cons rfl (.cons rfl .nil))) (fun w' _ => in_c _ _ _ w')) (fun _ _ => ?_))
                             all_goals (first | refine tl_sk rfl rfl rfl rfl ?_ | refine tl_qg rfl rfl (y_not_dec rfl) rfl ?_)
                             all_goals (first | refine tl_q (y_pick_t rfl rfl) rfl ?_ | refine tl_q (y_pick_f rfl rfl) rfl ?_)
                             all_goals refine tl_q (y_move rfl) rfl ?_
                             all_goals (first | refine tl_sk rfl rfl rfl rfl ?_ | (refine tl_gs rfl rfl (fun hc => ?_) (fun hc => ?_) <;> (try simp only [decide_eq_true_eq, decide_eq_false_iff_not, Int.not_lt, Int.not_le, Bool.not_eq_true', Bool.not_eq_false', Decidable.not_not, not_true_eq_false] at hc) <;> (first | refine tl_sk rfl rfl rfl rfl ?_ | refine tl_qg rfl rfl (y_field rfl) rfl ?_)))
                             all_goals (first | refine tl_sk rfl rfl rfl rfl ?_ | refine tl_qg rfl rfl (y_load1 rfl (by repeat constructor) (by rfl)) rfl ?_)
                             all_goals (first | refine tl_sk rfl rfl rfl rfl ?_ | refine tl_qg rfl rfl (y_field rfl) rfl ?_)
                             all_goals (first | refine tl_sk rfl rfl rfl rfl ?_ | refine tl_qg rfl rfl (y_field rfl) rfl ?_)
                             all_goals (first | refine tl_sk rfl rfl rfl rfl ?_ | refine tl_qg rfl rfl (y_load1 rfl (by repeat constructor) (by rfl)) rfl ?_)
                             all_goals (first | refine tl_sk rfl rfl rfl rfl ?_ | refine tl_eg rfl rfl rfl (e_callV rfl (.cons rfl (.cons rfl (.cons rfl .nil))) (fun w' _ => in_c _ _ _ w')) (fun _ _ => ?_))
                             all_goals (first | refine tl_sk rfl rfl rfl rfl ?_ | refine tl_qg rfl rfl (y_not_dec rfl) rfl ?_)
                             all_goals (first | refine tl_q (y_pick_t rfl rfl) rfl ?_ | refine tl_q (y_pick_f rfl rfl) rfl ?_)
                             all_goals refine tl_nil ?_
                             all_goals (refine hK32 ?_; try (clear hK32; clear K32))
                             all_goals (
                              refine tc_cond rfl (fun hc => ?_) (fun hc => ?_)
                              · try simp only [decide_eq_true_eq, decide_eq_false_iff_not, Int.not_lt, Int.not_le, Bool.not_eq_true', Bool.not_eq_false', Decidable.not_not, not_true_eq_false] at hc
                                all_goals first | (exfalso; with_reducible exact bft hc) | (exfalso; with_reducible exact btf hc) | (exfalso; omega) | skip
                                all_goals refine tc_seq fun K33 hK33 => ?_
                                all_goals (have hl0 : tsB t (t.tests.getD i (0, 0, 0)) = false := decide_eq_false (by omega))
                                all_goals (have hbad : partB t = false ∨ ¬ (0 ≤ t.worst ∧ t.worst ≤ 3) ∨ t.liquids.length = 0 ∨ t.liquids.all lqB = false ∨ t.tests.all (tsB t) = false := .inr (.inr (.inr (.inr (all_bad (i := i) (x := (0, 0, 0)) (by omega) hl0)))))
                                all_goals refine tc_region ?_
                                all_goals refine tl_q (y_assign rfl) rfl ?_
                                all_goals refine tl_nil ?_
                                all_goals (refine hK33 ?_; try (clear hK33; clear K33))
                                all_goals refine tc_ret ?_
                                all_goals (repeat (first | refine tk_then_ret ?_ | refine tk_block_ret ?_))
                                all_goals first | refine tk_ret rfl rfl (.cons (.tmp rfl) .nil) ?_ | refine tk_retM rfl (by repeat constructor) rfl (.cons (.tmp rfl) .nil) ?_
                                all_goals (
                                 refine fun w' hw' => ⟨congrArg (fun n => Ending.returned (Value.int .i64 n)) ?_, hw'.fr (by simp)⟩
                                 first
                                 | exact hfin.symm
                                 | exact (chkT_bad hc0 (by omega) hbad).symm
                                 | (unfold chkT; rw [if_neg (by omega), if_pos (by omega)])
                                 | (unfold chkT; rw [if_pos (by omega)]))
                              · try simp only [decide_eq_true_eq, decide_eq_false_iff_not, Int.not_lt, Int.not_le, Bool.not_eq_true', Bool.not_eq_false', Decidable.not_not, not_true_eq_false] at hc
                                all_goals first | (exfalso; with_reducible exact bft hc) | (exfalso; with_reducible exact btf hc) | (exfalso; omega) | skip
                                all_goals refine tc_skip ?_
                                all_goals (refine hK30 ?_; try (clear hK30; clear K30))
                                all_goals refine tc_region ?_
                                all_goals refine tl_q (y_move rfl) rfl ?_
                                all_goals refine tl_q (y_add rfl rfl (by omega)) rfl ?_
                                all_goals refine tl_q (y_assign rfl) rfl ?_
                                all_goals refine tl_nil ?_
                                all_goals (
                                 have hl0 : tsB t (t.tests.getD i (0, 0, 0)) = true := decide_eq_true (by omega)
                                 exact tk_round (i + 1) ⟨by omega, fun j h2 => by rcases Nat.lt_succ_iff_lt_or_eq.1 h2 with h | rfl; exact hI2 j h; exact hl0⟩ (by omega) (.cons rfl (.cons rfl .nil)) (fun _ h => h.subl (SB.s (by repeat constructor)) (SB.s (by repeat constructor)))))
                           · try simp only [decide_eq_true_eq, decide_eq_false_iff_not, Int.not_lt, Int.not_le, Bool.not_eq_true', Bool.not_eq_false', Decidable.not_not, not_true_eq_false] at hc
                             all_goals first | (exfalso; with_reducible exact bft hc) | (exfalso; with_reducible exact btf hc) | (exfalso; omega) | skip
                             all_goals refine tc_exit ?_
                             all_goals (refine hK26 ?_; try (clear hK26; clear K26))
                             all_goals refine tc_seq fun K34 hK34 => ?_
                             all_goals (have hil : i = t.tests.length := by omega)
                             all_goals subst hil
                             all_goals (have hTS : t.tests.all (tsB t) = true := all_good (x := (0, 0, 0)) hI2)
                             all_goals (have hfin := chkT_good hc0 (by omega) hPB (by omega) (by omega) hLQ hTS)
                             all_goals refine tc_region ?_
                             all_goals refine tl_q (y_assign rfl) rfl ?_
                             all_goals refine tl_nil ?_
                             all_goals (refine hK34 ?_; try (clear hK34; clear K34))
                             all_goals refine tc_ret ?_
                             all_goals (repeat (first | refine tk_then_ret ?_))
                             all_goals first | refine tk_ret rfl rfl (.cons (.tmp rfl) .nil) ?_ | refine tk_retM rfl (by repeat constructor) rfl (.cons (.tmp rfl) .nil) ?_
                             all_goals (
                              refine fun w' hw' => ⟨congrArg (fun n => Ending.returned (Value.int .i64 n)) ?_, hw'.fr (by simp)⟩
                              first
                              | exact hfin.symm
                              | exact (chkT_bad hc0 (by omega) hbad).symm
                              | (unfold chkT; rw [if_neg (by omega), if_pos (by omega)])
                              | (unfold chkT; rw [if_pos (by omega)])))))))))))
end Go.Sp
/-
  Literals of structs, whatever fields are named: their laws lie in the frame.
-/
namespace Go.Sp
open Go Go.Proofs
end Go.Sp
/-
  What the statements about trials are made of.
-/
namespace Go.Sp
open Go Go.Proofs
theorem CnX.sepN {P : Program} {f : FuncId} {args : Array Value} {w0 w : World} {S : List Nat} {α : Type} {val : α → Value} {q : α → World → Prop} {v : α → Value} {bs : List (World × List Nat)} {H : List (Nat × Obj)}
    (h : CnX P f args w S val (fun x w' => q x w' ∧ NewS w (v x))) (hw : HG bs H w) (hb : (w0, []) ∈ bs) : CnX P f args w S val (fun x w' => (q x w' ∧ NewS w0 (v x)) ∧ sepS (v x) (H.map Prod.fst)) :=
  CnX.of (h.out.mono fun e w' he => by
    obtain ⟨x, he, hf, hq, hn⟩ := he
    refine ⟨x, he, hf, ⟨hq, fun p m c e => Nat.le_trans (hw.fr hb).size (hn p m c e)⟩, fun p m c e hb => ?_⟩
    obtain ⟨a, ha, e2⟩ := List.mem_map.1 hb
    have h1 := hw.lt ha
    have h2 := hn p m c e
    omega)
theorem list9_c (xs : List Int) (hx : xs.length ≤ 1000) (sl : Value) (w : World) (hr : RdI w sl xs) : CnX Tryz.prog 19 #[sl] w [] (slV xs.length) (fun x w' => RdI w' (slV xs.length x) xs ∧ NewS w (slV xs.length x)) := by
  have hr0 := hr
  obtain ⟨ad, cap, b0, o, rfl, had, hcell⟩ := hr.open
  rcases Nat.eq_zero_or_pos xs.length with h0 | h0
  all_goals refine cnx0 (vs := [_]) Tryz.func19 rfl rfl ?_
  all_goals refine tc_seq fun K1 hK1 => ?_
  all_goals refine tc_region ?_
  all_goals refine tl_q (y_assign rfl) rfl ?_
  all_goals refine tl_nil ?_
  all_goals (refine hK1 ?_; try (clear hK1; clear K1))
  all_goals refine tc_seq fun K2 hK2 => ?_
  all_goals refine tc_region ?_
  all_goals refine tl_q (y_move rfl) rfl ?_
  all_goals (first | refine tl_e (e_append_nil rfl rfl rfl (fun w' hw' => hr0.fr (hw'.fr (by simp))) (fun u hu => by obtain ⟨_, _, rfl⟩ := List.mem_map.1 hu; rfl) h0 (by omega) rfl) rfl (fun y hy => ?_) | refine tl_e (e_append_nil0 (ad := ad) (cap := cap) rfl rfl (by show some (Value.slice ad xs.length cap) = some (Value.slice ad 0 cap); rw [h0])) rfl (fun y hy => ?_))
  all_goals refine tl_q (y_assign rfl) rfl ?_
  all_goals refine tl_nil ?_
  all_goals (refine hK2 ?_; try (clear hK2; clear K2))
  all_goals refine tc_ret ?_
  all_goals (repeat (first | refine tk_then_ret ?_))
  all_goals first | refine tk_ret rfl rfl (.cons (.tmp rfl) .nil) ?_ | refine tk_retM rfl (by repeat constructor) rfl (.cons (.tmp rfl) .nil) ?_
  all_goals (
   first
   | exact fun w' hw' => ⟨(some ⟨y.1, 0, none⟩, y.2.1), rfl, hw'.fr (by simp), RdI.own (xs := xs) (junk := y.2.2) hw' (by repeat constructor), NewS.own hw' (b := y.1) (by repeat constructor) (by simp)⟩
   | exact fun w' hw' => ⟨(none, 0), by unfold slV; rw [h0]; rfl, hw'.fr (by simp), by unfold slV; rw [h0, List.eq_nil_of_length_eq_zero h0]; exact RdI.nil _, NewS.nil _ _ _⟩)
theorem spindleN_c (s : Sn) (hn : s.weights.length ≤ 1000) (sl : Value) (w : World) (hr : RdI w sl s.weights) : CnX Tryz.prog 40 #[spV s sl] w [] (fun x : Option Addr × Nat => spV s (slV s.weights.length x)) (fun x w' => RdI w' (slV s.weights.length x) s.weights ∧ NewS w (slV s.weights.length x)) := by
  refine cnx0 (vs := [_]) Tryz.func40 rfl rfl ?_
  all_goals refine tc_seq fun K1 hK1 => ?_
  all_goals refine tc_region ?_
  all_goals refine tl_e (e_box rfl rfl rfl) rfl (fun b1 _ => ?_)
  all_goals refine tl_e (e_allocN rfl) rfl (fun b2 _ => ?_)
  all_goals refine tl_nil ?_
  all_goals (refine hK1 ?_; try (clear hK1; clear K1))
  all_goals refine tc_seq fun K2 hK2 => ?_
  all_goals refine tc_draw (by kernel_rfl) ?_
  all_goals refine tx_p 0 rfl (by kernel_rfl) (y_field rfl) rfl (fun _ _ _ h => h) (fun _ h => h) ?_
  all_goals refine tx_q 1 rfl (by kernel_rfl) (y_load1 rfl (by repeat constructor) (by rfl)) rfl (fun _ _ _ h => h) (fun _ h => h) ?_
  all_goals refine tx_p 2 rfl (by kernel_rfl) (y_field rfl) rfl (fun _ _ _ h => h) (fun _ h => h) ?_
  all_goals refine tx_q 3 rfl (by kernel_rfl) (y_load1 rfl (by repeat constructor) (by rfl)) rfl (fun _ _ _ h => h) (fun _ h => h) ?_
  all_goals refine tx_p 4 rfl (by kernel_rfl) (y_field rfl) rfl (fun _ _ _ h => h) (fun _ h => h) ?_
  all_goals refine tx_q 5 rfl (by kernel_rfl) (y_load1 rfl (by repeat constructor) (by rfl)) rfl (fun _ _ _ h => h) (fun _ h => h) ?_
  all_goals refine tx_p 6 rfl (by kernel_rfl) (y_field rfl) rfl (fun _ _ _ h => h) (fun _ h => h) ?_
  all_goals refine tx_q 7 rfl (by kernel_rfl) (y_load1 rfl (by repeat constructor) (by rfl)) rfl (fun _ _ _ h => h) (fun _ h => h) ?_
  all_goals refine tx_p 8 rfl (by kernel_rfl) (y_field rfl) rfl (fun _ _ _ h => h) (fun _ h => h) ?_
  all_goals refine tx_q 9 rfl (by kernel_rfl) (y_load1 rfl (by repeat constructor) (by rfl)) rfl (fun _ _ _ h => h) (fun _ h => h) ?_
  all_goals refine tx_p 10 rfl (by kernel_rfl) (y_field rfl) rfl (fun _ _ _ h => h) (fun _ h => h) ?_
  all_goals refine tx_q 11 rfl (by kernel_rfl) (y_load1 rfl (by repeat constructor) (by rfl)) rfl (fun _ _ _ h => h) (fun _ h => h) ?_
  all_goals refine tx_e 12 rfl (by kernel_rfl) rfl (e_callX rfl (.cons rfl .nil) (fun w' hw' => (list_c s.weights hn _ w' (hr.fr (hw'.fr (by simp)))).sepN (w0 := w) hw' (by simp))) (.inr fun _ _ h => h.sub (fun _ h => List.mem_cons_of_mem _ h) (List.Sublist.refl _)) (fun y hy => ?_)
  all_goals refine tx_p 13 rfl (by kernel_rfl) (y_build_6 rfl rfl rfl rfl rfl rfl rfl rfl rfl rfl rfl rfl) rfl (fun _ _ _ h => h) (fun _ h => h) ?_
  all_goals refine tx_e 14 rfl (by kernel_rfl) rfl (e_storeW rfl rfl (by repeat constructor) (by rfl) (by rfl) (by simp [Value.oneCell'])) (.inl (by kernel_rfl)) (fun _ _ => ?_)
  all_goals refine tx_done (by kernel_rfl) ?_
  all_goals (refine hK2 ?_; try (clear hK2; clear K2))
  all_goals refine tc_ret ?_
  all_goals (repeat (first | refine tk_then_ret ?_))
  all_goals first | refine tk_ret rfl rfl (.cons (.agg inferInstance rfl (by repeat constructor) (by rfl)) .nil) ?_ | refine tk_retM rfl (by repeat constructor) rfl (.cons (.agg inferInstance rfl (by repeat constructor) (by rfl)) .nil) ?_
  all_goals (
   refine fun w' hw' => ⟨y.1, rfl, hw'.fr (w0 := w) (S := []) (by simp), hy.1.1.1.frS (S := [b2, b1]) (hw'.fr (by simp)) hy.1.2, hy.1.1.2⟩)
theorem to9_c (r : Int × Int) (w : World) : CnV Tryz.prog 30 #[rV r] w (rV r) := by
  refine cnv (vs := [_]) Tryz.func30 rfl rfl ?_
  all_goals refine tc_seq fun K1 hK1 => ?_
  all_goals refine tc_region ?_
  all_goals refine tl_e (e_box rfl rfl rfl) rfl (fun _ _ => ?_)
  all_goals refine tl_e (e_allocN rfl) rfl (fun _ _ => ?_)
  all_goals refine tl_nil ?_
  all_goals (refine hK1 ?_; try (clear hK1; clear K1))
  all_goals refine tc_seq fun K2 hK2 => ?_
  all_goals refine tc_region ?_
  all_goals refine tl_q (y_field rfl) rfl ?_
  all_goals refine tl_q (y_load1 rfl (by repeat constructor) (by rfl)) rfl ?_
  all_goals refine tl_q (y_field rfl) rfl ?_
  all_goals refine tl_q (y_load1 rfl (by repeat constructor) (by rfl)) rfl ?_
  all_goals refine tl_q (y_build_2 rfl rfl rfl rfl) rfl ?_
  all_goals refine tl_e (e_storeW rfl rfl (by repeat constructor) (by rfl) (by rfl) (by simp [Value.oneCell'])) rfl (fun _ _ => ?_)
  all_goals refine tl_nil ?_
  all_goals (refine hK2 ?_; try (clear hK2; clear K2))
  all_goals refine tc_ret ?_
  all_goals (repeat (first | refine tk_then_ret ?_))
  all_goals first | refine tk_ret rfl rfl (.cons (.agg inferInstance rfl (by repeat constructor) (by rfl)) .nil) ?_ | refine tk_retM rfl (by repeat constructor) rfl (.cons (.agg inferInstance rfl (by repeat constructor) (by rfl)) .nil) ?_
  all_goals (
   exact fun w' hw' => ⟨rfl, hw'.fr (by simp)⟩)
end Go.Sp
/-
  Package trial: errors of a list; what can be shown.
-/
namespace Go.Sp
open Go Go.Proofs
/-- A list as errors. -/
def er3 (l : List Int) : Int × Int × Int := (l.getD 0 0, l.getD 1 0, l.getD 2 0)
def errB (t : Tr) (l : List Int) : Bool := decide (l.length = t.parts.length) && l.all fun n => decide (-t.worst ≤ n ∧ n ≤ t.worst)
def errE (t : Tr) (l : List Int) : (Int × Int × Int) × Bool := if errB t l = true then (er3 l, true) else ((0, 0, 0), false)
theorem errors1_c (t : Tr) (hw0 : 0 ≤ t.worst ∧ t.worst ≤ 3) (sl pl ll tl : Value) (n : Int) (bt : Nat) (w : World) (hbt : w.heap[bt]? = some (.cells (trV t sl pl ll tl).cells 38 (0, 0))) :
    CnV Tryz.prog 118 #[vi n, ptr bt] w (.bool (decide (-t.worst ≤ n ∧ n ≤ t.worst))) := by
  refine cnv (vs := [_, _]) Tryz.func118 rfl rfl ?_
  all_goals refine tc_seq fun K1 hK1 => ?_
  all_goals refine tc_region ?_
  all_goals refine tl_q (y_assign rfl) rfl ?_
  all_goals refine tl_nil ?_
  all_goals (refine hK1 ?_; try (clear hK1; clear K1))
  all_goals refine tc_seq fun K2 hK2 => ?_
  all_goals refine tc_region ?_
  all_goals refine tl_q (y_move rfl) rfl ?_
  all_goals refine tl_q (y_field rfl) rfl ?_
  all_goals (refine tl_q (y_load1o (v := vi t.worst) rfl (fun w' hw' => cell0 ((hw'.fr (w0 := w) (S := []) (by simp)).keep hbt) rfl)) rfl ?_)
  all_goals refine tl_q (y_neg rfl (by omega)) rfl ?_
  all_goals refine tl_q (y_field rfl) rfl ?_
  all_goals (refine tl_q (y_load1o (v := vi t.worst) rfl (fun w' hw' => cell0 ((hw'.fr (w0 := w) (S := []) (by simp)).keep hbt) rfl)) rfl ?_)
  all_goals refine tl_e (e_callV rfl (.cons rfl (.cons rfl (.cons rfl .nil))) (fun w' _ => twithin_c _ _ _ w')) rfl (fun _ _ => ?_)
  all_goals refine tl_q (y_assign rfl) rfl ?_
  all_goals refine tl_nil ?_
  all_goals (refine hK2 ?_; try (clear hK2; clear K2))
  all_goals refine tc_ret ?_
  all_goals (repeat (first | refine tk_then_ret ?_))
  all_goals first | refine tk_ret rfl rfl (.cons (.tmp rfl) .nil) ?_ | refine tk_retM rfl (by repeat constructor) rfl (.cons (.tmp rfl) .nil) ?_
  all_goals (
   exact fun w' hw' => ⟨rfl, hw'.fr (by simp)⟩)
theorem errorsOf_c (t : Tr) (hv : VT t) (l : List Int) (hl : (l.length : Int) ≤ 9000000000000000000) (sl pl ll tl lv : Value) (w : World) (hp : RdI w pl t.parts) (hr : RdI w lv l) :
    CnV Tryz.prog 63 #[trV t sl pl ll tl, lv] w (.tuple #[tsV (errE t l).1, .bool (errE t l).2]) := by
  have hr0 := hr
  have h1 := hv.p1
  have h3 := hv.p3
  have hw0 := hv.w
  obtain ⟨ad, cp, b0, o, rfl, _, _⟩ := hp.open
  obtain ⟨ad2, cp2, b2', o2, rfl, _, _⟩ := hr.open
  refine cnv (vs := [_, _]) Tryz.func63 rfl rfl ?_
  all_goals refine tc_seq fun K1 hK1 => ?_
  all_goals refine tc_region ?_
  all_goals refine tl_e (e_box rfl rfl rfl) rfl (fun b2 _ => ?_)
  all_goals refine tl_e (e_allocN rfl) rfl (fun b4 _ => ?_)
  all_goals refine tl_q (y_assign rfl) rfl ?_
  all_goals refine tl_nil ?_
  all_goals (refine hK1 ?_; try (clear hK1; clear K1))
  all_goals refine tc_seq fun K2 hK2 => ?_
  all_goals refine tc_seq fun K3 hK3 => ?_
  all_goals refine tc_region ?_
  all_goals refine tl_q (y_move rfl) rfl ?_
  all_goals refine tl_q (y_len rfl) rfl ?_
  all_goals refine tl_q (y_field rfl) rfl ?_
  all_goals refine tl_q (y_load1 rfl (by repeat constructor) (by rfl)) rfl ?_
  all_goals refine tl_q (y_len rfl) rfl ?_
  all_goals refine tl_q (y_neq rfl rfl) rfl ?_
  all_goals refine tl_q (y_move rfl) rfl ?_
  all_goals (refine tl_gs rfl rfl (fun hc => ?_) (fun hc => ?_) <;> (try simp only [decide_eq_true_eq, decide_eq_false_iff_not, Int.not_lt, Int.not_le, Bool.not_eq_true', Bool.not_eq_false', Decidable.not_not, not_true_eq_false] at hc) <;> (first | refine tl_sk rfl rfl rfl rfl ?_ | refine tl_qg rfl rfl (y_move rfl) rfl ?_))
  all_goals (first | refine tl_sk rfl rfl rfl rfl ?_ | refine tl_qg rfl rfl (y_fn .nil (.cons rfl .nil)) rfl ?_)
  all_goals (first | refine tl_sk rfl rfl rfl rfl ?_ | refine tl_eg rfl rfl rfl (e_callV rfl (.cons rfl (.cons rfl .nil)) (fun w' hw' => allI_c 118 #[] #[ptr b2] (fun n => decide (-t.worst ≤ n ∧ n ≤ t.worst)) l hl _ w' (hr0.fr (hw'.fr (by simp))) (fun x w2 f => by simpa using errors1_c t hw0 sl _ ll tl x b2 w2 (f.keep (hw'.heap _ (HM.mem (b := b2) (by repeat constructor))))))) (fun _ _ => ?_))
  all_goals (first | refine tl_sk rfl rfl rfl rfl ?_ | refine tl_qg rfl rfl (y_not rfl) rfl ?_)
  all_goals (first | refine tl_q (y_pick_t rfl rfl) rfl ?_ | refine tl_q (y_pick_f rfl rfl) rfl ?_)
  all_goals refine tl_nil ?_
  all_goals (refine hK3 ?_; try (clear hK3; clear K3))
  all_goals (
   refine tc_cond rfl (fun hc => ?_) (fun hc => ?_)
   · try simp only [decide_eq_true_eq, decide_eq_false_iff_not, Int.not_lt, Int.not_le, Bool.not_eq_true', Bool.not_eq_false', Decidable.not_not, not_true_eq_false] at hc
     all_goals first | (exfalso; with_reducible exact bft hc) | (exfalso; with_reducible exact btf hc) | (exfalso; omega) | skip
     all_goals refine tc_seq fun K4 hK4 => ?_
     all_goals refine tc_region ?_
     all_goals (refine tl_q (y_loadW rfl (by repeat constructor) (by rfl)) rfl ?_)
     all_goals refine tl_e (e_storeW rfl rfl (by repeat constructor) (by rfl) (by rfl) (by simp [Value.oneCell'])) rfl (fun _ _ => ?_)
     all_goals refine tl_q (y_assign rfl) rfl ?_
     all_goals refine tl_nil ?_
     all_goals (refine hK4 ?_; try (clear hK4; clear K4))
     all_goals refine tc_ret ?_
     all_goals (repeat (refine tk_then_ret ?_))
     all_goals first | refine tk_ret rfl rfl (.cons (.agg inferInstance rfl (by repeat constructor) (by rfl)) (.cons (.tmp rfl) .nil)) ?_ | refine tk_retM rfl (by repeat constructor) rfl (.cons (.agg inferInstance rfl (by repeat constructor) (by rfl)) (.cons (.tmp rfl) .nil)) ?_
     all_goals (
      refine fun w' hw' => ⟨?_, hw'.fr (by simp)⟩
      first
      | (have e : errE t _ = (er3 _, true) := if_pos hall
         rw [e]; rfl)
      | (have hb : errB t l = false := by unfold errB; first | rw [decide_eq_false (by omega), Bool.false_and] | rw [hc, Bool.and_false]
         have e : errE t l = ((0, 0, 0), false) := by unfold errE; rw [hb]; rfl
         rw [e]; rfl))
   · try simp only [decide_eq_true_eq, decide_eq_false_iff_not, Int.not_lt, Int.not_le, Bool.not_eq_true', Bool.not_eq_false', Decidable.not_not, not_true_eq_false] at hc
     all_goals first | (exfalso; with_reducible exact bft hc) | (exfalso; with_reducible exact btf hc) | (exfalso; omega) | skip
     all_goals refine tc_skip ?_
     all_goals (refine hK2 ?_; try (clear hK2; clear K2))
     all_goals refine tc_seq fun K5 hK5 => ?_
     all_goals refine tc_region ?_
     all_goals (refine tl_q (y_sliceA rfl) rfl ?_)
     all_goals refine tl_q (y_move rfl) rfl ?_
     all_goals refine tl_e (e_copy (vs := l.map vi) (n := l.length) (l := [vi 0, vi 0, vi 0]) rfl rfl rfl (fun w' hw' => hr0.fr (hw'.fr (by simp))) (fun u hu => by obtain ⟨_, _, rfl⟩ := List.mem_map.1 hu; rfl) (by omega) (by simp; omega) (by repeat constructor)) rfl (fun _ _ => ?_)
     all_goals refine tl_nil ?_
     all_goals (refine hK5 ?_; try (clear hK5; clear K5))
     all_goals refine tc_seq fun K6 hK6 => ?_
     all_goals (have hall : errB t l = true := by unfold errB; rw [decide_eq_true (by omega), hc]; rfl)
     all_goals (have hll : l.length = 1 ∨ l.length = 2 ∨ l.length = 3 := by omega)
     all_goals (clear hc; rcases l with _ | ⟨x0, _ | ⟨x1, _ | ⟨x2, _ | ⟨x3, l⟩⟩⟩⟩)
     all_goals first | (exfalso; simp only [List.length_cons, List.length_nil] at hll; omega) | skip
     all_goals refine tc_region ?_
     all_goals (refine tl_q (y_loadW rfl (by repeat constructor) (by rfl)) rfl ?_)
     all_goals refine tl_e (e_storeW rfl rfl (by repeat constructor) (by rfl) (by rfl) (by simp [Value.oneCell'])) rfl (fun _ _ => ?_)
     all_goals refine tl_q (y_assign rfl) rfl ?_
     all_goals refine tl_nil ?_
     all_goals (refine hK6 ?_; try (clear hK6; clear K6))
     all_goals refine tc_ret ?_
     all_goals (repeat (first | refine tk_then_ret ?_))
     all_goals first | refine tk_ret rfl rfl (.cons (.agg inferInstance rfl (by repeat constructor) (by rfl)) (.cons (.tmp rfl) .nil)) ?_ | refine tk_retM rfl (by repeat constructor) rfl (.cons (.agg inferInstance rfl (by repeat constructor) (by rfl)) (.cons (.tmp rfl) .nil)) ?_
     all_goals (
      refine fun w' hw' => ⟨?_, hw'.fr (by simp)⟩
      first
      | (have e : errE t _ = (er3 _, true) := if_pos hall
         rw [e]; rfl)
      | (have hb : errB t l = false := by unfold errB; first | rw [decide_eq_false (by omega), Bool.false_and] | rw [hc, Bool.and_false]
         have e : errE t l = ((0, 0, 0), false) := by unfold errE; rw [hb]; rfl
         rw [e]; rfl)))
theorem errE_bd {t : Tr} (hv : VT t) (l : List Int) : ErB (errE t l).1 := by
  have hw := hv.w
  unfold errE
  split
  · rename_i h
    unfold errB at h
    rw [Bool.and_eq_true] at h
    have hb : ∀ i, -3 ≤ l.getD i 0 ∧ l.getD i 0 ≤ 3 := fun i => by
      rcases Nat.lt_or_ge i l.length with hi | hi
      · have := of_decide_eq_true (List.all_eq_true.1 h.2 (l.getD i 0) (by rw [List.getD_eq_getElem?_getD, List.getElem?_eq_getElem hi]; exact List.getElem_mem hi))
        omega
      · rw [List.getD_eq_getElem?_getD, List.getElem?_eq_none hi]; simp
    exact ⟨hb 0, hb 1, hb 2⟩
  · exact ⟨by dsimp only; omega, by dsimp only; omega, by dsimp only; omega⟩
def shownE (t : Tr) (l : List Int) (k d : Int) : List Int × Int :=
  if ¬ chkT t = 0 then ([], chkT t) else if errB t l = false ∨ ¬ (0 ≤ k ∧ k ≤ t.s.weights.length) ∨ ¬ (1 ≤ d ∧ d ≤ 2000) then ([], 2) else (shownL t (er3 l) k d, 0)
theorem shown_no (t : Tr) (hn : NT t) (l : List Int) (hl : (l.length : Int) ≤ 9000000000000000000) (k d : Int) {e : Int} (he : ¬ e = 0) (hE : shownE t l k d = ([], e)) (sl pl ll tl lv : Value) (w : World) (hr : RdTr w t sl pl ll tl) (hl2 : RdI w lv l) :
    CnV Tryz.prog 17 #[trV t sl pl ll tl, lv, vi k, vi d] w (.tuple #[.slice none 0 0, vi e]) := by
  have hr0 := hr
  refine cnv (vs := [_, _, _, _]) Tryz.func17 rfl rfl ?_
  all_goals refine tc_seq fun K1 hK1 => ?_
  all_goals refine tc_region ?_
  all_goals refine tl_e (e_box rfl rfl rfl) rfl (fun b4 _ => ?_)
  all_goals refine tl_q (y_assign rfl) rfl ?_
  all_goals refine tl_q (y_assign rfl) rfl ?_
  all_goals refine tl_nil ?_
  all_goals (refine hK1 ?_; try (clear hK1; clear K1))
  all_goals refine tc_seq fun K2 hK2 => ?_
  all_goals refine tc_seq fun K3 hK3 => ?_
  all_goals refine tc_region ?_
  all_goals (refine tl_q (y_loadW rfl (by repeat constructor) (by rfl)) rfl ?_)
  all_goals refine tl_e (e_callV rfl (.cons rfl .nil) (fun w' hw' => checkTrial_c t hn sl pl ll tl w' (hr0.fr (hw'.fr (by simp))))) rfl (fun _ _ => ?_)
  all_goals refine tl_q (y_assign rfl) rfl ?_
  all_goals refine tl_nil ?_
  all_goals (refine hK3 ?_; try (clear hK3; clear K3))
  all_goals refine tc_seq fun K4 hK4 => ?_
  all_goals refine tc_region ?_
  all_goals refine tl_q (y_move rfl) rfl ?_
  all_goals refine tl_q (y_neq rfl rfl) rfl ?_
  all_goals refine tl_nil ?_
  all_goals (refine hK4 ?_; try (clear hK4; clear K4))
  all_goals (
   refine tc_cond rfl (fun hc => ?_) (fun hc => ?_)
   · try simp only [decide_eq_true_eq, decide_eq_false_iff_not, Int.not_lt, Int.not_le, Bool.not_eq_true', Bool.not_eq_false', Decidable.not_not, not_true_eq_false] at hc
     all_goals first | (exfalso; with_reducible exact bft hc) | (exfalso; with_reducible exact btf hc) | (exfalso; omega) | skip
     all_goals refine tc_seq fun K5 hK5 => ?_
     all_goals refine tc_region ?_
     all_goals refine tl_q (y_move rfl) rfl ?_
     all_goals refine tl_q (y_assign rfl) rfl ?_
     all_goals refine tl_q (y_assign rfl) rfl ?_
     all_goals refine tl_nil ?_
     all_goals (refine hK5 ?_; try (clear hK5; clear K5))
     all_goals refine tc_ret ?_
     all_goals (repeat (refine tk_then_ret ?_))
     all_goals first | refine tk_ret rfl rfl (.cons (.tmp rfl) (.cons (.tmp rfl) .nil)) ?_ | refine tk_retM rfl (by repeat constructor) rfl (.cons (.tmp rfl) (.cons (.tmp rfl) .nil)) ?_
     all_goals (
      refine fun w' hw' => ⟨?_, hw'.fr (by simp)⟩
      unfold shownE at hE
      first
      | (rw [if_pos (by omega)] at hE; rw [(Prod.mk.inj hE).2]; rfl)
      | (rw [if_neg (by omega), if_pos (by rw [← hb]; simp_all)] at hE; rw [← (Prod.mk.inj hE).2]; rfl)
      | (rw [if_neg (by omega), if_pos (by omega)] at hE; rw [← (Prod.mk.inj hE).2]; rfl))
   · try simp only [decide_eq_true_eq, decide_eq_false_iff_not, Int.not_lt, Int.not_le, Bool.not_eq_true', Bool.not_eq_false', Decidable.not_not, not_true_eq_false] at hc
     all_goals first | (exfalso; with_reducible exact bft hc) | (exfalso; with_reducible exact btf hc) | (exfalso; omega) | skip
     all_goals refine tc_skip ?_
     all_goals (refine hK2 ?_; try (clear hK2; clear K2))
     all_goals refine tc_seq fun K6 hK6 => ?_
     all_goals (have hv := chkT_0.1 (show chkT t = 0 by omega))
     all_goals refine tc_region ?_
     all_goals (refine tl_q (y_loadW rfl (by repeat constructor) (by rfl)) rfl ?_)
     all_goals refine tl_q (y_move rfl) rfl ?_
     all_goals refine tl_e (e_callV rfl (.cons rfl (.cons rfl .nil)) (fun w' hw' => errorsOf_c t hv l hl sl pl ll tl lv w' (hr0.ps.fr (hw'.fr (by simp))) (hl2.fr (hw'.fr (by simp))))) rfl (fun _ _ => ?_)
     all_goals refine tl_q (y_move rfl) rfl ?_
     all_goals refine tl_q (y_extract rfl rfl) rfl ?_
     all_goals refine tl_q (y_extract rfl rfl) rfl ?_
     all_goals refine tl_e (e_allocN rfl) rfl (fun b11 _ => ?_)
     all_goals refine tl_e (e_storeW rfl rfl (by repeat constructor) (by rfl) (by rfl) (by simp [Value.oneCell'])) rfl (fun _ _ => ?_)
     all_goals refine tl_q (y_assign rfl) rfl ?_
     all_goals refine tl_nil ?_
     all_goals (refine hK6 ?_; try (clear hK6; clear K6))
     all_goals refine tc_seq fun K7 hK7 => ?_
     all_goals refine tc_seq fun K8 hK8 => ?_
     all_goals (have hb : (errE t l).2 = errB t l := by unfold errE; split <;> simp_all)
     all_goals refine tc_region ?_
     all_goals refine tl_q (y_move rfl) rfl ?_
     all_goals (refine tl_q (y_not rfl) rfl ?_)
     all_goals refine tl_q (y_move rfl) rfl ?_
     all_goals (refine tl_gs rfl rfl (fun hc => ?_) (fun hc => ?_) <;> (try simp only [decide_eq_true_eq, decide_eq_false_iff_not, Int.not_lt, Int.not_le, Bool.not_eq_true', Bool.not_eq_false', Decidable.not_not, not_true_eq_false] at hc) <;> (first | refine tl_sk rfl rfl rfl rfl ?_ | refine tl_qg rfl rfl (y_loadW rfl (by repeat constructor) (by rfl)) rfl ?_))
     all_goals (first | refine tl_sk rfl rfl rfl rfl ?_ | refine tl_qg rfl rfl (y_move rfl) rfl ?_)
     all_goals (first | refine tl_sk rfl rfl rfl rfl ?_ | refine tl_eg rfl rfl rfl (e_callV rfl (.cons rfl (.cons rfl .nil)) (fun w' hw' => tload_c t k sl pl ll tl w' (hr0.ws.fr (hw'.fr (by simp))))) (fun _ _ => ?_))
     all_goals (first | refine tl_sk rfl rfl rfl rfl ?_ | refine tl_qg rfl rfl (y_not_dec rfl) rfl ?_)
     all_goals (first | refine tl_q (y_pick_t rfl rfl) rfl ?_ | refine tl_q (y_pick_f rfl rfl) rfl ?_)
     all_goals refine tl_q (y_move rfl) rfl ?_
     all_goals (first | refine tl_sk rfl rfl rfl rfl ?_ | (refine tl_gs rfl rfl (fun hc => ?_) (fun hc => ?_) <;> (try simp only [decide_eq_true_eq, decide_eq_false_iff_not, Int.not_lt, Int.not_le, Bool.not_eq_true', Bool.not_eq_false', Decidable.not_not, not_true_eq_false] at hc) <;> (first | refine tl_sk rfl rfl rfl rfl ?_ | refine tl_qg rfl rfl (y_move rfl) rfl ?_)))
     all_goals (first | refine tl_sk rfl rfl rfl rfl ?_ | refine tl_eg rfl rfl rfl (e_callV rfl (.cons rfl (.cons rfl (.cons rfl .nil))) (fun w' _ => twithin_c _ _ _ w')) (fun _ _ => ?_))
     all_goals (first | refine tl_sk rfl rfl rfl rfl ?_ | refine tl_qg rfl rfl (y_not_dec rfl) rfl ?_)
     all_goals (first | refine tl_q (y_pick_t rfl rfl) rfl ?_ | refine tl_q (y_pick_f rfl rfl) rfl ?_)
     all_goals refine tl_nil ?_
     all_goals (refine hK8 ?_; try (clear hK8; clear K8))
     all_goals (
      refine tc_cond rfl (fun hc => ?_) (fun hc => ?_)
      · try simp only [decide_eq_true_eq, decide_eq_false_iff_not, Int.not_lt, Int.not_le, Bool.not_eq_true', Bool.not_eq_false', Decidable.not_not, not_true_eq_false] at hc
        all_goals first | (exfalso; with_reducible exact bft hc) | (exfalso; with_reducible exact btf hc) | (exfalso; omega) | skip
        all_goals refine tc_seq fun K9 hK9 => ?_
        all_goals refine tc_region ?_
        all_goals refine tl_q (y_assign rfl) rfl ?_
        all_goals refine tl_q (y_assign rfl) rfl ?_
        all_goals refine tl_nil ?_
        all_goals (refine hK9 ?_; try (clear hK9; clear K9))
        all_goals refine tc_ret ?_
        all_goals (repeat (refine tk_then_ret ?_))
        all_goals first | refine tk_ret rfl rfl (.cons (.tmp rfl) (.cons (.tmp rfl) .nil)) ?_ | refine tk_retM rfl (by repeat constructor) rfl (.cons (.tmp rfl) (.cons (.tmp rfl) .nil)) ?_
        all_goals (
         refine fun w' hw' => ⟨?_, hw'.fr (by simp)⟩
         unfold shownE at hE
         first
         | (rw [if_pos (by omega)] at hE; rw [(Prod.mk.inj hE).2]; rfl)
         | (rw [if_neg (by omega), if_pos (by rw [← hb]; simp_all)] at hE; rw [← (Prod.mk.inj hE).2]; rfl)
         | (rw [if_neg (by omega), if_pos (by omega)] at hE; rw [← (Prod.mk.inj hE).2]; rfl))
      · try simp only [decide_eq_true_eq, decide_eq_false_iff_not, Int.not_lt, Int.not_le, Bool.not_eq_true', Bool.not_eq_false', Decidable.not_not, not_true_eq_false] at hc
        all_goals first | (exfalso; with_reducible exact bft hc) | (exfalso; with_reducible exact btf hc) | (exfalso; omega) | skip
        all_goals refine tc_skip ?_
        all_goals (refine hK7 ?_; try (clear hK7; clear K7))
        all_goals refine tc_seq fun K10 hK10 => ?_
        all_goals (exfalso; unfold shownE at hE; rw [if_neg (by omega), if_neg (by rw [← hb]; simp_all)] at hE; exact he (Prod.mk.inj hE).2.symm)
        all_goals refine tc_draw (by kernel_rfl) ?_
        all_goals (first | refine tx_q 0 rfl (by kernel_rfl) (y_loadW rfl (by repeat constructor) (by rfl)) rfl (fun _ _ _ h => h) (fun _ h => h) ?_)
        all_goals (first | refine tx_q 2 rfl (by kernel_rfl) (y_loadW rfl (by repeat constructor) (by rfl)) rfl (fun _ _ _ h => h) (fun _ h => h) ?_)
        all_goals refine tx_p 3 rfl (by kernel_rfl) (y_move rfl) rfl (fun _ _ _ h => h) (fun _ h => h) ?_
        all_goals refine tx_p 4 rfl (by kernel_rfl) (y_move rfl) rfl (fun _ _ _ h => h) (fun _ h => h) ?_
        all_goals refine tx_p 5 rfl (by kernel_rfl) (y_build_2 rfl rfl rfl rfl) rfl (fun _ _ _ h => h) (fun _ h => h) ?_
        all_goals refine tx_e 1 rfl (by kernel_rfl) rfl (e_noContractFor66) _ (fun _ _ => ?_)
        all_goals refine tx_e 6 rfl (by kernel_rfl) rfl (e_noContractFor67) _ (fun _ _ => ?_)
        all_goals refine tx_p 7 rfl (by kernel_rfl) (y_assign rfl) rfl (fun _ _ _ h => h) (fun _ h => h) ?_
        all_goals refine tx_p 8 rfl (by kernel_rfl) (y_assign rfl) rfl (fun _ _ _ h => h) (fun _ h => h) ?_
        all_goals refine tx_done (by kernel_rfl) ?_
        all_goals (refine hK10 ?_; try (clear hK10; clear K10))
        all_goals refine tc_ret ?_
        all_goals (repeat (first | refine tk_then_ret ?_))
        all_goals first | refine tk_ret rfl rfl (.cons (.tmp rfl) (.cons (.tmp rfl) .nil)) ?_ | refine tk_retM rfl (by repeat constructor) rfl (.cons (.tmp rfl) (.cons (.tmp rfl) .nil)) ?_
        all_goals (
         refine fun w' hw' => ⟨?_, hw'.fr (by simp)⟩
         unfold shownE at hE
         first
         | (rw [if_pos (by omega)] at hE; rw [(Prod.mk.inj hE).2]; rfl)
         | (rw [if_neg (by omega), if_pos (by rw [← hb]; simp_all)] at hE; rw [← (Prod.mk.inj hE).2]; rfl)
         | (rw [if_neg (by omega), if_pos (by omega)] at hE; rw [← (Prod.mk.inj hE).2]; rfl))))
theorem shownE_0 {t : Tr} {l : List Int} {k d : Int} (h : (shownE t l k d).2 = 0) : VT t ∧ errB t l = true ∧ (0 ≤ k ∧ k ≤ t.s.weights.length) ∧ (1 ≤ d ∧ d ≤ 2000) ∧ (shownE t l k d).1 = shownL t (er3 l) k d := by
  unfold shownE at h ⊢
  split at h
  · rename_i h1; exact absurd h h1
  · rename_i h1
    split at h
    · cases h
    · rename_i h2
      rw [if_neg h1, if_neg h2]
      simp only [not_or, Bool.not_eq_false, Decidable.not_not] at h2
      exact ⟨chkT_0.1 (by omega), h2.1, h2.2.1, h2.2.2, rfl⟩
theorem shown_ok (t : Tr) (hn : NT t) (l : List Int) (hl : (l.length : Int) ≤ 9000000000000000000) (k d : Int) (hE : (shownE t l k d).2 = 0) (sl pl ll tl lv : Value) (w : World) (hr : RdTr w t sl pl ll tl) (hl2 : RdI w lv l) :
    CnX Tryz.prog 17 #[trV t sl pl ll tl, lv, vi k, vi d] w [] (fun y : Option Addr × Nat => .tuple #[slV (shownL t (er3 l) k d).length y, vi 0]) (fun y w' => RdI w' (slV (shownL t (er3 l) k d).length y) (shownL t (er3 l) k d)) := by
  have hr0 := hr
  obtain ⟨hv, heb, hk, hd, _⟩ := shownE_0 hE
  have hck := chkT_0.2 hv
  have hee : errE t l = (er3 l, true) := if_pos heb
  have hbd := errE_bd hv l
  rw [hee] at hbd
  refine cnx0 (vs := [_, _, _, _]) Tryz.func17 rfl rfl ?_
  all_goals refine tc_seq fun K1 hK1 => ?_
  all_goals refine tc_region ?_
  all_goals refine tl_e (e_box rfl rfl rfl) rfl (fun b4 _ => ?_)
  all_goals refine tl_q (y_assign rfl) rfl ?_
  all_goals refine tl_q (y_assign rfl) rfl ?_
  all_goals refine tl_nil ?_
  all_goals (refine hK1 ?_; try (clear hK1; clear K1))
  all_goals refine tc_seq fun K2 hK2 => ?_
  all_goals refine tc_seq fun K3 hK3 => ?_
  all_goals refine tc_region ?_
  all_goals (refine tl_q (y_loadW rfl (by repeat constructor) (by rfl)) rfl ?_)
  all_goals refine tl_e (e_callV rfl (.cons rfl .nil) (fun w' hw' => checkTrial_c t hn sl pl ll tl w' (hr0.fr (hw'.fr (by simp))))) rfl (fun _ _ => ?_)
  all_goals refine tl_q (y_assign rfl) rfl ?_
  all_goals refine tl_nil ?_
  all_goals (refine hK3 ?_; try (clear hK3; clear K3))
  all_goals refine tc_seq fun K4 hK4 => ?_
  all_goals refine tc_region ?_
  all_goals refine tl_q (y_move rfl) rfl ?_
  all_goals refine tl_q (y_neq rfl rfl) rfl ?_
  all_goals refine tl_nil ?_
  all_goals (refine hK4 ?_; try (clear hK4; clear K4))
  all_goals (
   refine tc_cond rfl (fun hc => ?_) (fun hc => ?_)
   · try simp only [decide_eq_true_eq, decide_eq_false_iff_not, Int.not_lt, Int.not_le, Bool.not_eq_true', Bool.not_eq_false', Decidable.not_not, not_true_eq_false] at hc
     all_goals first | (exfalso; with_reducible exact bft hc) | (exfalso; with_reducible exact btf hc) | (exfalso; omega) | skip
     all_goals refine tc_seq fun K5 hK5 => ?_
     all_goals refine tc_region ?_
     all_goals refine tl_q (y_move rfl) rfl ?_
     all_goals refine tl_q (y_assign rfl) rfl ?_
     all_goals refine tl_q (y_assign rfl) rfl ?_
     all_goals refine tl_nil ?_
     all_goals (refine hK5 ?_; try (clear hK5; clear K5))
     all_goals refine tc_ret ?_
     all_goals (repeat (first | refine tk_then_ret ?_))
     all_goals first | refine tk_ret rfl rfl (.cons (.tmp rfl) (.cons (.tmp rfl) .nil)) ?_ | refine tk_retM rfl (by repeat constructor) rfl (.cons (.tmp rfl) (.cons (.tmp rfl) .nil)) ?_
     all_goals (
      first
      | (exfalso; omega)
      | exact fun w' hw' => ⟨y.1.1, rfl, hw'.fr (by simp), hy.1.1.fr (hw'.calm hy.2 (by simp) (List.Sublist.refl _))⟩)
   · try simp only [decide_eq_true_eq, decide_eq_false_iff_not, Int.not_lt, Int.not_le, Bool.not_eq_true', Bool.not_eq_false', Decidable.not_not, not_true_eq_false] at hc
     all_goals first | (exfalso; with_reducible exact bft hc) | (exfalso; with_reducible exact btf hc) | (exfalso; omega) | skip
     all_goals refine tc_skip ?_
     all_goals (refine hK2 ?_; try (clear hK2; clear K2))
     all_goals refine tc_seq fun K6 hK6 => ?_
     all_goals refine tc_region ?_
     all_goals (refine tl_q (y_loadW rfl (by repeat constructor) (by rfl)) rfl ?_)
     all_goals refine tl_q (y_move rfl) rfl ?_
     all_goals refine tl_e (e_callV rfl (.cons rfl (.cons rfl .nil)) (fun w' hw' => by have h := errorsOf_c t hv l hl sl pl ll tl lv w' (hr0.ps.fr (hw'.fr (by simp))) (hl2.fr (hw'.fr (by simp))); rw [hee] at h; exact h)) rfl (fun _ _ => ?_)
     all_goals refine tl_q (y_move rfl) rfl ?_
     all_goals refine tl_q (y_extract rfl rfl) rfl ?_
     all_goals refine tl_q (y_extract rfl rfl) rfl ?_
     all_goals refine tl_e (e_allocN rfl) rfl (fun b11 _ => ?_)
     all_goals refine tl_e (e_storeW rfl rfl (by repeat constructor) (by rfl) (by rfl) (by simp [Value.oneCell'])) rfl (fun _ _ => ?_)
     all_goals refine tl_q (y_assign rfl) rfl ?_
     all_goals refine tl_nil ?_
     all_goals (refine hK6 ?_; try (clear hK6; clear K6))
     all_goals refine tc_seq fun K7 hK7 => ?_
     all_goals refine tc_seq fun K8 hK8 => ?_
     all_goals refine tc_region ?_
     all_goals refine tl_q (y_move rfl) rfl ?_
     all_goals (refine tl_q (y_not rfl) rfl ?_)
     all_goals refine tl_q (y_move rfl) rfl ?_
     all_goals (refine tl_qg rfl rfl (y_loadW rfl (by repeat constructor) (by rfl)) rfl ?_)
     all_goals (refine tl_qg rfl rfl (y_move rfl) rfl ?_)
     all_goals (refine tl_eg rfl rfl rfl (e_callV rfl (.cons rfl (.cons rfl .nil)) (fun w' hw' => tload_c t k sl pl ll tl w' (hr0.ws.fr (hw'.fr (by simp))))) (fun _ _ => ?_))
     all_goals (refine tl_qg rfl rfl (y_not_dec rfl) rfl ?_)
     all_goals (refine tl_q (y_pick_f rfl rfl) rfl ?_)
     all_goals refine tl_q (y_move rfl) rfl ?_
     all_goals (refine tl_gs rfl rfl (fun hc => ?_) (fun hc => ?_) <;> (try simp only [decide_eq_true_eq, decide_eq_false_iff_not, Int.not_lt, Int.not_le, Bool.not_eq_true', Bool.not_eq_false', Decidable.not_not, not_true_eq_false] at hc) <;> (first | (exfalso; omega) | refine tl_qg rfl rfl (y_move rfl) rfl ?_))
     all_goals (refine tl_eg rfl rfl rfl (e_callV rfl (.cons rfl (.cons rfl (.cons rfl .nil))) (fun w' _ => twithin_c _ _ _ w')) (fun _ _ => ?_))
     all_goals (refine tl_qg rfl rfl (y_not_dec rfl) rfl ?_)
     all_goals (refine tl_q (y_pick_f rfl rfl) rfl ?_)
     all_goals refine tl_nil ?_
     all_goals (refine hK8 ?_; try (clear hK8; clear K8))
     all_goals (
      refine tc_cond rfl (fun hc => ?_) (fun hc => ?_)
      · try simp only [decide_eq_true_eq, decide_eq_false_iff_not, Int.not_lt, Int.not_le, Bool.not_eq_true', Bool.not_eq_false', Decidable.not_not, not_true_eq_false] at hc
        all_goals first | (exfalso; with_reducible exact bft hc) | (exfalso; with_reducible exact btf hc) | (exfalso; omega) | skip
        all_goals refine tc_seq fun K9 hK9 => ?_
        all_goals refine tc_region ?_
        all_goals refine tl_q (y_assign rfl) rfl ?_
        all_goals refine tl_q (y_assign rfl) rfl ?_
        all_goals refine tl_nil ?_
        all_goals (refine hK9 ?_; try (clear hK9; clear K9))
        all_goals refine tc_ret ?_
        all_goals (repeat (first | refine tk_then_ret ?_))
        all_goals first | refine tk_ret rfl rfl (.cons (.tmp rfl) (.cons (.tmp rfl) .nil)) ?_ | refine tk_retM rfl (by repeat constructor) rfl (.cons (.tmp rfl) (.cons (.tmp rfl) .nil)) ?_
        all_goals (
         first
         | (exfalso; omega)
         | exact fun w' hw' => ⟨y.1.1, rfl, hw'.fr (by simp), hy.1.1.fr (hw'.calm hy.2 (by simp) (List.Sublist.refl _))⟩)
      · try simp only [decide_eq_true_eq, decide_eq_false_iff_not, Int.not_lt, Int.not_le, Bool.not_eq_true', Bool.not_eq_false', Decidable.not_not, not_true_eq_false] at hc
        all_goals first | (exfalso; with_reducible exact bft hc) | (exfalso; with_reducible exact btf hc) | (exfalso; omega) | skip
        all_goals refine tc_skip ?_
        all_goals (refine hK7 ?_; try (clear hK7; clear K7))
        all_goals refine tc_seq fun K10 hK10 => ?_
        all_goals refine tc_drawS ([(b11, .cells #[vi (er3 l).1, vi (er3 l).2.1, vi (er3 l).2.2] 126 (0, 0)), (b4, .cells (trV t sl pl ll tl).cells 38 (0, 0))]) (by kernel_rfl) ?_
        all_goals (refine tx_qS 0 rfl (by kernel_rfl) (y_loadW rfl (by repeat constructor) (by rfl)) rfl (fun _ _ _ h => h) (fun _ h => h.subl (SB.s (by repeat constructor)) (SB.s (by repeat constructor))) ?_)
        all_goals (refine tx_qS 2 rfl (by kernel_rfl) (y_loadW rfl (by repeat constructor) (by rfl)) rfl (fun _ _ _ h => h) (fun _ h => h.subl (SB.s (by repeat constructor)) (SB.s (by repeat constructor))) ?_)
        all_goals refine tx_p 3 rfl (by kernel_rfl) (y_move rfl) rfl (fun _ _ _ h => h) (fun _ h => h.subl (SB.s (by repeat constructor)) (SB.s (by repeat constructor))) ?_
        all_goals refine tx_p 4 rfl (by kernel_rfl) (y_move rfl) rfl (fun _ _ _ h => h) (fun _ h => h.subl (SB.s (by repeat constructor)) (SB.s (by repeat constructor))) ?_
        all_goals refine tx_p 5 rfl (by kernel_rfl) (y_build_2 rfl rfl rfl rfl) rfl (fun _ _ _ h => h) (fun _ h => h.subl (SB.s (by repeat constructor)) (SB.s (by repeat constructor))) ?_
        all_goals refine tx_single 1 (by kernel_rfl) (to_e rfl rfl (e_callN rfl (.cons rfl .nil) (fun w' hw' => twork_c t sl pl ll tl hr0.ws.one hr0.ps.one hr0.ls.one hr0.ts.one w')) (.inr ⟨fun _ _ h => h.subl (SB.s (by repeat constructor)) (SB.s (by repeat constructor)), fun _ h => h⟩) (fun x hx => ?_))
        all_goals refine tx_single 6 (by kernel_rfl) (to_e rfl rfl (e_callUX rfl (.cons rfl (.cons rfl (.cons rfl .nil))) (fun w' hw' => shown_c t hv (er3 l) hbd k d sl pl ll tl w' x.1 x.2 #[] 0 (tw0 (hr0.fr (hw'.fr (by simp))) (hw'.heap _ (HM.mem (by repeat constructor))) (hw'.heap _ (HM.mem (b := x.2) (by repeat constructor))))) (fun _ => (by repeat constructor))) (.inr ⟨fun _ _ h => h.subl (SB.s (by repeat constructor)) (SB.s (by repeat constructor)), fun _ h => h⟩) (fun y hy => ?_))
        all_goals refine tx_p 7 rfl (by kernel_rfl) (y_assign rfl) rfl (fun _ _ _ h => h) (fun _ h => h.subl (SB.s (by repeat constructor)) (SB.s (by repeat constructor))) ?_
        all_goals refine tx_p 8 rfl (by kernel_rfl) (y_assign rfl) rfl (fun _ _ _ h => h) (fun _ h => h.subl (SB.s (by repeat constructor)) (SB.s (by repeat constructor))) ?_
        all_goals refine tx_done (by kernel_rfl) ?_
        all_goals (refine hK10 ?_; try (clear hK10; clear K10))
        all_goals refine tc_ret ?_
        all_goals (repeat (first | refine tk_then_ret ?_))
        all_goals first | refine tk_ret rfl rfl (.cons (.tmp rfl) (.cons (.tmp rfl) .nil)) ?_ | refine tk_retM rfl (by repeat constructor) rfl (.cons (.tmp rfl) (.cons (.tmp rfl) .nil)) ?_
        all_goals (
         first
         | (exfalso; omega)
         | exact fun w' hw' => ⟨y.1.1, rfl, hw'.fr (by simp), hy.1.1.fr (hw'.calm hy.2 (by simp) (List.Sublist.refl _))⟩)))
end Go.Sp
/-
  Slices of slices; what sorting and compacting leave.
-/
namespace Go.Sp
open Go Go.Proofs
/-- A slice of values of one cell, laid open. -/
theorem Reads.openV {w : World} {v : Value} {n : Nat} {vs : List Value} (h : Reads w v 1 n vs) : ∃ ad cap b o, v = .slice ad n cap ∧ (0 < n → ad = some ⟨b, o, none⟩) ∧ ∀ w' S, Fr S w w' → b ∉ S → ∀ i, i < n → w'.cell? ⟨b, o + i, none⟩ = some (vs.getD i (.slice none 0 0)) := by
  by_cases hn : n = 0
  · obtain ⟨_, ad, cap, h2, _⟩ := h
    exact ⟨ad, cap, 0, 0, h2, fun h => by omega, fun _ _ _ _ i hi => by omega⟩
  · obtain ⟨h1, ad, cap, h2, h3⟩ := h
    obtain ⟨b, o, h4, h5⟩ := h3 hn
    refine ⟨ad, cap, b, o, h2, fun _ => h4, fun w' S f hb i hi => ?_⟩
    have hl : i < vs.length := by omega
    have := h5.get i (vs.getD i (.slice none 0 0)) (by rw [List.getD_eq_getElem?_getD, List.getElem?_eq_getElem hl]; rfl)
    exact f.cell (p := ⟨b, o + i, none⟩) hb this
/-- A slice that reads as lists. -/
def RdLL (w : World) (v : Value) (ls : List (List Int)) : Prop := ∃ vs : List Value, Reads w v 1 ls.length vs ∧ ∀ i, i < ls.length → RdI w (vs.getD i (.slice none 0 0)) (ls.getD i [])
theorem RdLL.fr {w w' : World} {v : Value} {ls : List (List Int)} (h : RdLL w v ls) (f : Fr [] w w') : RdLL w' v ls := by
  obtain ⟨vs, h1, h2⟩ := h
  exact ⟨vs, Reads.frS h1 f (by simp), fun i hi => (h2 i hi).fr f⟩
theorem RdLL.nil (w : World) : RdLL w (.slice none 0 0) [] := ⟨[], ⟨rfl, none, 0, rfl, fun h => absurd rfl h⟩, fun i hi => absurd hi (Nat.not_lt_zero i)⟩
theorem RdLL.open {w : World} {v : Value} {ls : List (List Int)} (h : RdLL w v ls) : ∃ ad cap b o, ∃ vs : List Value, v = .slice ad ls.length cap ∧ (0 < ls.length → ad = some ⟨b, o, none⟩) ∧
    (∀ w', Fr [] w w' → ∀ i, i < ls.length → w'.cell? ⟨b, o + i, none⟩ = some (vs.getD i (.slice none 0 0))) ∧ ∀ w', Fr [] w w' → ∀ i, i < ls.length → RdI w' (vs.getD i (.slice none 0 0)) (ls.getD i []) := by
  obtain ⟨vs, h1, h2⟩ := h
  obtain ⟨ad, cap, b, o, e, had, hc⟩ := h1.openV
  exact ⟨ad, cap, b, o, vs, e, had, fun w' f i hi => hc w' [] f (by simp) i hi, fun w' f i hi => (h2 i hi).fr f⟩
/-- What is asked of a function value that tests a list. -/
def TestsLL (P : Program) (g : FuncId) (first cap : Array Value) (p : List Int → Bool) (ls : List (List Int)) (w : World) : Prop := ∀ (v : Value) (l : List Int) (w' : World), Fr [] w w' → l ∈ ls → RdI w' v l → CnV P g (first ++ #[v] ++ cap) w' (.bool (p l))
theorem TestsLL.fr {P : Program} {g : FuncId} {first cap : Array Value} {p : List Int → Bool} {ls : List (List Int)} {w w1 : World} (h : TestsLL P g first cap p ls w) (f : Fr [] w w1) : TestsLL P g first cap p ls w1 := fun v l w' f' hm hr => h v l w' (f.trans f' (by simp)) hm hr
theorem getD_memL {xs : List (List Int)} {k : Nat} (h : k < xs.length) : xs.getD k [] ∈ xs := by rw [List.getD_eq_getElem?_getD, List.getElem?_eq_getElem h]; exact List.getElem_mem h
def idxLL (xs : List (List Int)) (p : List Int → Bool) : Int := if xs.any p then (xs.findIdx p : Int) else -1
theorem idxLL_hit {xs : List (List Int)} {p : List Int → Bool} {k : Nat} (hk : k < xs.length) (hp : p (xs.getD k []) = true) (hn : ∀ j, j < k → p (xs.getD j []) = false) : idxLL xs p = k := by
  rw [List.getD_eq_getElem?_getD, List.getElem?_eq_getElem hk] at hp
  simp only [Option.getD_some] at hp
  have h1 : xs.any p = true := List.any_eq_true.2 ⟨_, List.getElem_mem hk, hp⟩
  unfold idxLL
  rw [if_pos h1]
  have : xs.findIdx p = k := by
    apply (List.findIdx_eq hk).2
    refine ⟨hp, fun j hj => ?_⟩
    have := hn j hj
    rw [List.getD_eq_getElem?_getD, List.getElem?_eq_getElem (Nat.lt_trans hj hk)] at this
    simpa using this
  rw [this]
theorem idxLL_miss {xs : List (List Int)} {p : List Int → Bool} (hn : ∀ j, j < xs.length → p (xs.getD j []) = false) : idxLL xs p = -1 := by
  unfold idxLL
  rw [if_neg]
  intro h
  obtain ⟨x, hx, hp⟩ := List.any_eq_true.1 h
  obtain ⟨j, hj, rfl⟩ := List.getElem_of_mem hx
  have := hn j hj
  rw [List.getD_eq_getElem?_getD, List.getElem?_eq_getElem hj] at this
  simp only [Option.getD_some] at this
  rw [this] at hp; cases hp
theorem idxLL_any (xs : List (List Int)) (p : List Int → Bool) : decide (0 ≤ idxLL xs p) = xs.any p := by
  unfold idxLL
  cases h : xs.any p
  · simp
  · simp
theorem indexFuncLL_c (g : FuncId) [GoFn Tryz.prog g] (first cap : Array Value) (p : List Int → Bool) (xs : List (List Int)) (hx : (xs.length : Int) ≤ 9000000000000000000) (sl : Value) (w : World) (hr : RdLL w sl xs) (ht : TestsLL Tryz.prog g first cap p xs w) :
    CnV Tryz.prog 165 #[sl, .func (.func g) first cap] w (vi (idxLL xs p)) := by
  obtain ⟨ad, cp, b0, o, vs, rfl, had, hcell, hin⟩ := hr.open
  refine cnv (vs := [_, _]) Tryz.func165 rfl rfl ?_
  all_goals refine tc_seq fun K1 hK1 => ?_
  all_goals refine tc_region ?_
  all_goals refine tl_q (y_assign rfl) rfl ?_
  all_goals refine tl_nil ?_
  all_goals (refine hK1 ?_; try (clear hK1; clear K1))
  all_goals refine tc_seq fun K2 hK2 => ?_
  all_goals refine tc_seq fun K3 hK3 => ?_
  all_goals refine tc_region ?_
  all_goals refine tl_q (y_move rfl) rfl ?_
  all_goals refine tl_q (y_len rfl) rfl ?_
  all_goals refine tl_q (y_move rfl) rfl ?_
  all_goals refine tl_nil ?_
  all_goals (refine hK3 ?_; try (clear hK3; clear K3))
  all_goals refine tc_block ?_
  all_goals (
   refine tc_loop (fun k : Nat => k ≤ xs.length ∧ ∀ j, j < k → p (xs.getD j []) = false) (fun k => [(0, .slice ad xs.length cp), (1, .func (.func g) first cap), (7, vi xs.length), (8, vi k)]) (fun _ => [(w, [])]) (fun _ => []) (fun k => xs.length - k) ?_ ?_
   · exact tk_start 0 ⟨Nat.zero_le _, fun j hj => absurd hj (Nat.not_lt_zero j)⟩ (.cons rfl (.cons rfl (.cons rfl (.cons rfl .nil)))) (fun _ h => h)
   · rintro k ⟨hk, hj⟩
     all_goals refine tc_seq fun K4 hK4 => ?_
     all_goals refine tc_region ?_
     all_goals refine tl_q (y_lss rfl rfl) rfl ?_
     all_goals refine tl_nil ?_
     all_goals (refine hK4 ?_; try (clear hK4; clear K4))
     all_goals refine tc_seq fun K5 hK5 => ?_
     all_goals (
      refine tc_cond rfl (fun hc => ?_) (fun hc => ?_)
      · try simp only [decide_eq_true_eq, decide_eq_false_iff_not, Int.not_lt, Int.not_le, Bool.not_eq_true', Bool.not_eq_false', Decidable.not_not, not_true_eq_false] at hc
        all_goals first | (exfalso; with_reducible exact bft hc) | (exfalso; with_reducible exact btf hc) | (exfalso; omega) | skip
        all_goals refine tc_skip ?_
        all_goals (refine hK5 ?_; try (clear hK5; clear K5))
        all_goals refine tc_seq fun K6 hK6 => ?_
        all_goals refine tc_block ?_
        all_goals refine tc_seq fun K7 hK7 => ?_
        all_goals refine tc_region ?_
        all_goals refine tl_q (y_move rfl) rfl ?_
        all_goals refine tl_q (y_assign rfl) rfl ?_
        all_goals refine tl_nil ?_
        all_goals (refine hK7 ?_; try (clear hK7; clear K7))
        all_goals refine tc_seq fun K8 hK8 => ?_
        have had' := had (by omega)
        all_goals refine tc_region ?_
        all_goals refine tl_q (y_move rfl) rfl ?_
        all_goals refine tl_q (y_move rfl) rfl ?_
        all_goals refine tl_q (y_move rfl) rfl ?_
        all_goals (first | refine tl_q (y_index rfl rfl (by omega) had') rfl ?_ | refine tl_q (y_index rfl rfl (by omega) rfl) rfl ?_ | refine tl_q (y_indexA rfl rfl (by omega)) rfl ?_)
        all_goals (first | refine tl_q (y_load1 rfl (by repeat constructor) (by rfl)) rfl ?_ | refine tl_q (y_load1o (v := vs.getD k (.slice none 0 0)) rfl (fun w' hw' => by rw [show Int.toNat (k : Int) * 1 = k from by omega]; exact hcell w' (hw'.fr (by simp)) k (by omega))) rfl ?_)
        all_goals refine tl_e (e_callVf rfl rfl (.cons rfl .nil) (fun w' hw' => ht _ (xs.getD k []) w' (hw'.fr (by simp)) (getD_memL (by omega)) (hin w' (hw'.fr (by simp)) k (by omega)))) rfl (fun _ _ => ?_)
        all_goals refine tl_nil ?_
        all_goals (refine hK8 ?_; try (clear hK8; clear K8))
        all_goals (
         refine tc_cond rfl (fun hc => ?_) (fun hc => ?_)
         · try simp only [decide_eq_true_eq, decide_eq_false_iff_not, Int.not_lt, Int.not_le, Bool.not_eq_true', Bool.not_eq_false', Decidable.not_not, not_true_eq_false] at hc
           all_goals first | (exfalso; with_reducible exact bft hc) | (exfalso; with_reducible exact btf hc) | (exfalso; omega) | skip
           all_goals refine tc_seq fun K9 hK9 => ?_
           all_goals refine tc_region ?_
           all_goals refine tl_q (y_move rfl) rfl ?_
           all_goals refine tl_q (y_assign rfl) rfl ?_
           all_goals refine tl_nil ?_
           all_goals (refine hK9 ?_; try (clear hK9; clear K9))
           all_goals refine tc_ret ?_
           all_goals (repeat (first | refine tk_then_ret ?_ | refine tk_block_ret ?_ | refine tk_scope_ret ?_))
           all_goals first | refine tk_ret rfl rfl (.cons (.tmp rfl) .nil) ?_ | refine tk_retM rfl (by repeat constructor) rfl (.cons (.tmp rfl) .nil) ?_
           all_goals (
            first | exact fun w' hw' => ⟨by rw [idxLL_hit (k := k) (by omega) (by simpa using hc) hj]; rfl, hw'.fr (by simp)⟩ | exact fun w' hw' => ⟨by rw [idxLL_miss (fun j hjj => hj j (by omega))]; rfl, hw'.fr (by simp)⟩)
         · try simp only [decide_eq_true_eq, decide_eq_false_iff_not, Int.not_lt, Int.not_le, Bool.not_eq_true', Bool.not_eq_false', Decidable.not_not, not_true_eq_false] at hc
           all_goals first | (exfalso; with_reducible exact bft hc) | (exfalso; with_reducible exact btf hc) | (exfalso; omega) | skip
           all_goals refine tc_skip ?_
           all_goals (refine hK6 ?_; try (clear hK6; clear K6))
           all_goals refine tc_region ?_
           all_goals refine tl_q (y_add rfl rfl (by omega)) rfl ?_
           all_goals refine tl_q (y_move rfl) rfl ?_
           all_goals refine tl_nil ?_
           all_goals (
            exact tk_round (k + 1) ⟨by omega, fun j hj' => by rcases Nat.lt_succ_iff_lt_or_eq.1 hj' with h | rfl; exact hj j h; simpa using hc⟩ (by omega) (.cons rfl (.cons rfl (.cons rfl (.cons rfl .nil)))) (fun _ h => h)))
      · try simp only [decide_eq_true_eq, decide_eq_false_iff_not, Int.not_lt, Int.not_le, Bool.not_eq_true', Bool.not_eq_false', Decidable.not_not, not_true_eq_false] at hc
        all_goals first | (exfalso; with_reducible exact bft hc) | (exfalso; with_reducible exact btf hc) | (exfalso; omega) | skip
        all_goals refine tc_exit ?_
        all_goals (refine hK2 ?_; try (clear hK2; clear K2))
        all_goals refine tc_seq fun K10 hK10 => ?_
        all_goals refine tc_region ?_
        all_goals refine tl_q (y_assign rfl) rfl ?_
        all_goals refine tl_nil ?_
        all_goals (refine hK10 ?_; try (clear hK10; clear K10))
        all_goals refine tc_ret ?_
        all_goals (repeat (first | refine tk_then_ret ?_ | refine tk_block_ret ?_ | refine tk_scope_ret ?_))
        all_goals first | refine tk_ret rfl rfl (.cons (.tmp rfl) .nil) ?_ | refine tk_retM rfl (by repeat constructor) rfl (.cons (.tmp rfl) .nil) ?_
        all_goals (
         first | exact fun w' hw' => ⟨by rw [idxLL_hit (k := k) (by omega) (by simpa using hc) hj]; rfl, hw'.fr (by simp)⟩ | exact fun w' hw' => ⟨by rw [idxLL_miss (fun j hjj => hj j (by omega))]; rfl, hw'.fr (by simp)⟩)))
theorem containsFuncLL_c (g : FuncId) [GoFn Tryz.prog g] (first cap : Array Value) (p : List Int → Bool) (xs : List (List Int)) (hx : (xs.length : Int) ≤ 9000000000000000000) (sl : Value) (w : World) (hr : RdLL w sl xs) (ht : TestsLL Tryz.prog g first cap p xs w) :
    CnV Tryz.prog 139 #[sl, .func (.func g) first cap] w (.bool (xs.any p)) := by
  refine cnv (vs := [_, _]) Tryz.func139 rfl rfl ?_
  all_goals refine tc_seq fun K1 hK1 => ?_
  all_goals refine tc_region ?_
  all_goals refine tl_q (y_assign rfl) rfl ?_
  all_goals refine tl_nil ?_
  all_goals (refine hK1 ?_; try (clear hK1; clear K1))
  all_goals refine tc_seq fun K2 hK2 => ?_
  all_goals refine tc_region ?_
  all_goals refine tl_q (y_move rfl) rfl ?_
  all_goals refine tl_q (y_move rfl) rfl ?_
  all_goals refine tl_e (e_callV rfl (.cons rfl (.cons rfl .nil)) (fun w' hw' => indexFuncLL_c g first cap p xs hx _ w' (hr.fr (hw'.fr (by simp))) (ht.fr (hw'.fr (by simp))))) rfl (fun _ _ => ?_)
  all_goals refine tl_q (y_geq rfl rfl) rfl ?_
  all_goals refine tl_q (y_assign rfl) rfl ?_
  all_goals refine tl_nil ?_
  all_goals (refine hK2 ?_; try (clear hK2; clear K2))
  all_goals refine tc_ret ?_
  all_goals (repeat (first | refine tk_then_ret ?_ | refine tk_block_ret ?_ | refine tk_scope_ret ?_))
  all_goals first | refine tk_ret rfl rfl (.cons (.tmp rfl) .nil) ?_ | refine tk_retM rfl (by repeat constructor) rfl (.cons (.tmp rfl) .nil) ?_
  all_goals (
   exact fun w' hw' => ⟨by rw [← idxLL_any]; rfl, hw'.fr (by simp)⟩)
theorem allLL1_c (g : FuncId) [GoFn Tryz.prog g] (first cap : Array Value) (p : List Int → Bool) (v : Value) (l : List Int) (b : Nat) (w : World) (hv : RdI w v l) (hb : w.cell? ⟨b, 0, none⟩ = some (.func (.func g) first cap)) (xs : List (List Int)) (hm : l ∈ xs) (ht : TestsLL Tryz.prog g first cap p xs w) :
    CnV Tryz.prog 140 #[v, .pointer (some ⟨b, 0, none⟩)] w (.bool (!(p l))) := by
  refine cnv (vs := [_, _]) Tryz.func140 rfl rfl ?_
  all_goals refine tc_seq fun K1 hK1 => ?_
  all_goals refine tc_region ?_
  all_goals refine tl_q (y_assign rfl) rfl ?_
  all_goals refine tl_nil ?_
  all_goals (refine hK1 ?_; try (clear hK1; clear K1))
  all_goals refine tc_seq fun K2 hK2 => ?_
  all_goals refine tc_region ?_
  all_goals (first | refine tl_q (y_load1 rfl (by repeat constructor) (by rfl)) rfl ?_ | refine tl_q (y_load1o rfl (fun w' hw' => (hw'.fr (S := []) (w0 := w) (by simp)).cell (by simp) hb)) rfl ?_)
  all_goals refine tl_q (y_move rfl) rfl ?_
  all_goals refine tl_e (e_callVf rfl rfl (.cons rfl .nil) (fun w' hw' => ht v l w' (hw'.fr (by simp)) hm (hv.fr (hw'.fr (by simp))))) rfl (fun _ _ => ?_)
  all_goals (first | refine tl_q (y_not_dec rfl) rfl ?_ | refine tl_q (y_not rfl) rfl ?_)
  all_goals refine tl_q (y_assign rfl) rfl ?_
  all_goals refine tl_nil ?_
  all_goals (refine hK2 ?_; try (clear hK2; clear K2))
  all_goals refine tc_ret ?_
  all_goals (repeat (first | refine tk_then_ret ?_ | refine tk_block_ret ?_ | refine tk_scope_ret ?_))
  all_goals first | refine tk_ret rfl rfl (.cons (.tmp rfl) .nil) ?_ | refine tk_retM rfl (by repeat constructor) rfl (.cons (.tmp rfl) .nil) ?_
  all_goals (
   exact fun w' hw' => ⟨rfl, hw'.fr (by simp)⟩)
theorem allLL_c (g : FuncId) [GoFn Tryz.prog g] (first cap : Array Value) (p : List Int → Bool) (xs : List (List Int)) (hx : (xs.length : Int) ≤ 9000000000000000000) (sl : Value) (w : World) (hr : RdLL w sl xs) (ht : TestsLL Tryz.prog g first cap p xs w) :
    CnV Tryz.prog 90 #[sl, .func (.func g) first cap] w (.bool (xs.all p)) := by
  refine cnv (vs := [_, _]) Tryz.func90 rfl rfl ?_
  all_goals refine tc_seq fun K1 hK1 => ?_
  all_goals refine tc_region ?_
  all_goals refine tl_e (e_box rfl rfl rfl) rfl (fun b _ => ?_)
  all_goals refine tl_q (y_assign rfl) rfl ?_
  all_goals refine tl_nil ?_
  all_goals (refine hK1 ?_; try (clear hK1; clear K1))
  all_goals refine tc_seq fun K2 hK2 => ?_
  all_goals refine tc_region ?_
  all_goals refine tl_q (y_move rfl) rfl ?_
  all_goals refine tl_q (y_fn .nil (.cons rfl .nil)) rfl ?_
  all_goals refine tl_e (e_callV rfl (.cons rfl (.cons rfl .nil)) (fun w' hw' => containsFuncLL_c 140 #[] #[.pointer (some ⟨b, 0, none⟩)] (fun x => !(p x)) xs hx _ w' (hr.fr (hw'.fr (by simp))) (fun v x w2 f hm hv => by simpa using allLL1_c g first cap p v x b w2 hv (f.cell (by simp) (cellAt_cell? (hw'.heap _ (HM.mem (by repeat constructor))) rfl)) xs hm ((ht.fr (hw'.fr (by simp))).fr f)))) rfl (fun _ _ => ?_)
  all_goals (first | refine tl_q (y_not_dec rfl) rfl ?_ | refine tl_q (y_not rfl) rfl ?_)
  all_goals refine tl_q (y_assign rfl) rfl ?_
  all_goals refine tl_nil ?_
  all_goals (refine hK2 ?_; try (clear hK2; clear K2))
  all_goals refine tc_ret ?_
  all_goals (repeat (first | refine tk_then_ret ?_ | refine tk_block_ret ?_ | refine tk_scope_ret ?_))
  all_goals first | refine tk_ret rfl rfl (.cons (.tmp rfl) .nil) ?_ | refine tk_retM rfl (by repeat constructor) rfl (.cons (.tmp rfl) .nil) ?_
  all_goals (
   exact fun w' hw' => ⟨by simp [outV, List.all_eq_not_any_not], hw'.fr (by simp)⟩)
def uniqS (L : List Int) : List Int := Lib.compact (L.mergeSort fun x y => decide (x ≤ y))
theorem sortedS (L : List Int) : (L.mergeSort fun x y => decide (x ≤ y)).Pairwise (· ≤ ·) := by
  have := List.pairwise_mergeSort (le := fun x y : Int => decide (x ≤ y)) (fun a b c h1 h2 => decide_eq_true (by have := of_decide_eq_true h1; have := of_decide_eq_true h2; omega)) (fun a b => by rw [Bool.or_eq_true, decide_eq_true_eq, decide_eq_true_eq]; omega) L
  exact this.imp fun h => of_decide_eq_true h
theorem compact_sorted {zs : List Int} (h : zs.Pairwise (· ≤ ·)) : (Lib.compact zs).Pairwise (· < ·) ∧ ∀ x, x ∈ Lib.compact zs ↔ x ∈ zs := by
  have hget : ∀ i, i < zs.length → zs.toArray[i]! = zs.getD i 0 := fun i hi => by
    rw [List.getD_eq_getElem?_getD, List.getElem?_eq_getElem hi]
    simp [hi]
  have hle : ∀ i j, i ≤ j → j < zs.length → zs.getD i 0 ≤ zs.getD j 0 := fun i j hij hj => by
    rcases Nat.lt_or_eq_of_le hij with hlt | rfl
    · rw [List.getD_eq_getElem?_getD, List.getD_eq_getElem?_getD, List.getElem?_eq_getElem hj, List.getElem?_eq_getElem (by omega)]
      exact List.pairwise_iff_getElem.1 h i j (by omega) hj hlt
    · exact Int.le_refl _
  have hk : ∀ j, j < zs.length → (Lib.keeps zs.toArray j = true ↔ (j = 0 ∨ zs.getD j 0 ≠ zs.getD (j - 1) 0)) := fun j hj => by
    unfold Lib.keeps
    rw [decide_eq_true_eq, hget j hj, hget (j - 1) (by omega)]
  unfold Lib.compact Lib.compactUpTo
  constructor
  · rw [List.pairwise_map]
    refine (List.pairwise_lt_range.filter _).imp_of_mem fun {i j} hi hj hij => ?_
    have hi1 := List.mem_range.1 (List.mem_filter.1 hi).1
    have hj1 := List.mem_range.1 (List.mem_filter.1 hj).1
    have hj2 := (hk j hj1).1 (List.mem_filter.1 hj).2
    rw [hget i hi1, hget j hj1]
    have h1 := hle i (j - 1) (by omega) (by omega)
    have h2 := hle (j - 1) j (by omega) hj1
    rcases hj2 with e | e
    · omega
    · omega
  · intro x
    constructor
    · intro hx
      obtain ⟨i, hi, rfl⟩ := List.mem_map.1 hx
      have hi1 := List.mem_range.1 (List.mem_filter.1 hi).1
      rw [hget i hi1, List.getD_eq_getElem?_getD, List.getElem?_eq_getElem hi1]
      exact List.getElem_mem hi1
    · intro hx
      obtain ⟨i, hi, rfl⟩ := List.getElem_of_mem hx
      have hex : ∃ j, j < zs.length ∧ zs.getD j 0 = zs[i] := ⟨i, hi, by rw [List.getD_eq_getElem?_getD, List.getElem?_eq_getElem hi]; rfl⟩
      have key : ∀ n j, j ≤ n → j < zs.length → zs.getD j 0 = zs[i] → ∃ k, k < zs.length ∧ zs.getD k 0 = zs[i] ∧ (k = 0 ∨ zs.getD k 0 ≠ zs.getD (k - 1) 0) := by
        intro n
        induction n with
        | zero => intro j hj hjl he; exact ⟨j, hjl, he, .inl (by omega)⟩
        | succ n ih =>
          intro j hj hjl he
          by_cases h0 : j = 0
          · exact ⟨j, hjl, he, .inl h0⟩
          · by_cases h1 : zs.getD j 0 = zs.getD (j - 1) 0
            · exact ih (j - 1) (by omega) (by omega) (by rw [← h1]; exact he)
            · exact ⟨j, hjl, he, .inr h1⟩
      obtain ⟨j, hj, he⟩ := hex
      obtain ⟨k, hk1, hk2, hk3⟩ := key j j (Nat.le_refl _) hj he
      exact List.mem_map.2 ⟨k, List.mem_filter.2 ⟨List.mem_range.2 hk1, (hk k hk1).2 hk3⟩, by rw [hget k hk1, hk2]⟩
theorem uniqS_inc (L : List Int) : (uniqS L).Pairwise (· < ·) := (compact_sorted (sortedS L)).1
theorem uniqS_mem (L : List Int) (x : Int) : x ∈ uniqS L ↔ x ∈ L := by
  unfold uniqS
  rw [(compact_sorted (sortedS L)).2 x]
  exact (List.mergeSort_perm L _).mem_iff
theorem uniqS_eq {L M : List Int} (hM : M.Pairwise (· < ·)) (h : ∀ x, x ∈ M ↔ x ∈ L) : uniqS L = M := inc_ext (uniqS_inc L) hM fun x => by rw [uniqS_mem, h x]
end Go.Sp
/-
  What the statements are made of: two readings, ranges, what is seen.
-/
namespace Go.Sp
open Go Go.Proofs
abbrev v16 (n : Int) : Value := .int .u16 n
abbrev v8 (n : Int) : Value := .int .u8 n
end Go.Sp
/-
  The plain laws: what the program computes is what the reference says.
-/
namespace Go.Sp
open Go Go.Proofs
theorem from_le {m v d : Int} (hv : 0 < v) : fromF m v ≤ d ↔ 1000 * m ≤ d * v := by
  unfold fromF
  have h : (1000 * m + v - 1) / v < d + 1 ↔ 1000 * m + v - 1 < (d + 1) * v := Int.ediv_lt_iff_lt_mul hv
  have e : (d + 1) * v = d * v + v := by rw [Int.add_mul, Int.one_mul]
  omega
theorem le_below {m v d : Int} (hv : 0 < v) : d ≤ belowF m v ↔ d * v ≤ 1000 * m := Int.le_ediv_iff_mul_le hv
theorem fl_mem {s : Sn} (hs : VS s) {k d : Int} (h1 : 1 ≤ d) (h2 : d ≤ 2000) : ((floF s k).1 ≤ d ∧ d ≤ (floF s k).2) ↔ rFlo s k d = 0 := by
  have hds := ds_bd hs
  have hv1 := hs.v1
  have a1 := from_le (m := massF s k) (v := s.volume + s.divisions * s.step) (d := d) (by omega)
  have a2 := le_below (m := massF s k) (v := s.volume) (d := d) (by omega)
  have e : d * (s.volume + s.divisions * s.step) = d * s.volume + d * (s.divisions * s.step) := Int.mul_add ..
  unfold floF rFlo
  dsimp only
  split
  · omega
  · split
    · omega
    · omega
theorem flo_cases (s : Sn) (k d : Int) : rFlo s k d = 0 ∨ rFlo s k d = -1 ∨ rFlo s k d = -2 := by
  unfold rFlo; split; exact .inr (.inr rfl); split; exact .inr (.inl rfl); exact .inl rfl
theorem mean_mem {s : Sn} (hs : VS s) {k seen d : Int} (hk0 : 0 ≤ k) (hk1 : k ≤ s.weights.length) (h0 : -2 ≤ seen) (h3 : seen ≤ s.divisions) (h1 : 1 ≤ d) (h2 : d ≤ 2000) : ((meanF s k seen).1 ≤ d ∧ d ≤ (meanF s k seen).2) ↔ rFit s (k, seen) d = true := by
  have hds := ds_bd hs
  have hv1 := hs.v1
  have hw1 := hs.w1
  have a1 := from_le (m := massF s k) (v := s.volume + s.divisions * s.step) (d := d) (by omega)
  have a2 := le_below (m := massF s k) (v := s.volume) (d := d) (by omega)
  have e : d * (s.volume + s.divisions * s.step) = d * s.volume + d * (s.divisions * s.step) := Int.mul_add ..
  have e2 : 0 ≤ d * (s.divisions * s.step) := Int.mul_nonneg (by omega) (by omega)
  have hf := fl_mem hs (k := k) h1 h2
  unfold meanF rFit
  dsimp only
  by_cases c1 : seen = -1
  · subst c1
    rw [if_pos rfl, if_pos (by omega), decide_eq_true_eq]
    unfold rFlo meetF
    dsimp only
    split
    · omega
    · split <;> omega
  · rw [if_neg c1]
    by_cases c2 : seen = -2
    · subst c2
      rw [if_pos rfl, if_pos (by omega), decide_eq_true_eq]
      unfold rFlo meetF
      dsimp only
      split
      · omega
      · split <;> omega
    · rw [if_neg c2]
      have hdv := dv_bd hs (n := seen) (by omega) h3
      have b1 := from_le (m := massF s k) (v := s.volume + seen * s.step + s.width) (d := d) (by omega)
      have hc := flo_cases s k d
      have b4 := massF_bd hs hk0 hk1
      have b3 : s.volume + seen * s.step - s.width ≤ 0 → d * (s.volume + seen * s.step - s.width) ≤ 0 := fun h => Int.mul_nonpos_of_nonneg_of_nonpos (by omega) h
      by_cases c4 : s.width < s.volume + seen * s.step
      · rw [if_pos c4]
        have b2 := le_below (m := massF s k) (v := s.volume + seen * s.step - s.width) (d := d) (by omega)
        by_cases c3 : rFlo s k d < 0
        · rw [if_pos (.inr c3), decide_eq_true_eq]
          simp only [meetF]; omega
        · rw [if_neg (by omega), decide_eq_true_eq]
          simp only [meetF]; omega
      · rw [if_neg c4]
        have b3' := b3 (by omega)
        by_cases c3 : rFlo s k d < 0
        · rw [if_pos (.inr c3), decide_eq_true_eq]
          simp only [meetF]; omega
        · rw [if_neg (by omega), decide_eq_true_eq]
          simp only [meetF]; omega
end Go.Sp
/-
  The plain laws: what loads cover, what is seen.
-/
namespace Go.Sp
open Go Go.Proofs
theorem at_eq {s : Sn} (hs : VS s) {k d : Int} (h1 : 1 ≤ d) (h2 : d ≤ 2000) : atF s k d = rFlo s k d := by
  have hm := fl_mem hs (k := k) h1 h2
  have e : d * (s.volume + s.divisions * s.step) = d * s.volume + d * (s.divisions * s.step) := Int.mul_add ..
  have hds := ds_bd hs
  have e2 : 0 ≤ d * (s.divisions * s.step) := Int.mul_nonneg (by omega) (by omega)
  unfold atF
  by_cases h : rFlo s k d = 0
  · rw [if_pos (hm.2 h), h]
  · rw [if_neg (fun hh => h (hm.1 hh))]
    unfold rFlo at h ⊢
    split
    · rfl
    · rw [if_neg ‹_›] at h
      split
      · rfl
      · rw [if_neg ‹_›] at h; exact absurd rfl h
/-- If it floats, some division can be read. -/
theorem some_div {s : Sn} (hs : VS s) {k d : Int} (h1 : 1 ≤ d) (hf : rFlo s k d = 0) : ∃ i : Nat, (i : Int) ≤ s.divisions ∧ rFit s (k, (i : Int)) d = true := by
  have hw1 := hs.w1
  have hw2 := hs.w2
  have hw3 := hs.w3
  have hs1 := hs.s1
  have hd1 := hs.d1
  have hfl : d * s.volume ≤ 1000 * massF s k ∧ 1000 * massF s k ≤ d * (s.volume + s.divisions * s.step) := by
    unfold rFlo at hf
    split at hf
    · cases hf
    · split at hf
      · cases hf
      · omega
  have hsd : 0 < s.step * d := Int.mul_pos (by omega) (by omega)
  have eD : d * (s.volume + s.divisions * s.step) = d * s.volume + s.divisions * (s.step * d) := by
    rw [Int.mul_add, Int.mul_comm d (s.divisions * s.step), Int.mul_assoc]
  have eA : ∀ n : Int, d * (s.volume + n * s.step - s.width) = d * s.volume + n * (s.step * d) - s.width * d := fun n => by
    rw [Int.mul_sub, Int.mul_add, Int.mul_comm d (n * s.step), Int.mul_assoc, Int.mul_comm d s.width]
  have eB : ∀ n : Int, d * (s.volume + n * s.step + s.width) = d * s.volume + n * (s.step * d) + s.width * d := fun n => by
    rw [Int.mul_add, Int.mul_add, Int.mul_comm d (n * s.step), Int.mul_assoc, Int.mul_comm d s.width]
  have hW : s.step * d ≤ 2 * (s.width * d) := by
    have := Int.mul_le_mul_of_nonneg_right hw3 (show 0 ≤ d by omega)
    rw [Int.mul_assoc] at this
    exact this
  have hWp : 0 < s.width * d := Int.mul_pos (by omega) (by omega)
  obtain ⟨q, hq⟩ : ∃ q, q = 1000 * massF s k - d * s.volume := ⟨_, rfl⟩
  have hq0 : 0 ≤ q := by omega
  have hdm := Int.mul_ediv_add_emod q (s.step * d)
  have hr0 := Int.emod_nonneg q (show s.step * d ≠ 0 by omega)
  have hr1 := Int.emod_lt_of_pos q hsd
  have hi0 : 0 ≤ q / (s.step * d) := Int.ediv_nonneg hq0 (by omega)
  have hiD : q / (s.step * d) ≤ s.divisions := by
    have : q / (s.step * d) ≤ (s.divisions * (s.step * d)) / (s.step * d) := Int.ediv_le_ediv hsd (by omega)
    rwa [Int.mul_ediv_cancel _ (by omega)] at this
  rw [Int.mul_comm] at hdm
  have hfit : ∀ n : Int, 0 ≤ n → n * (s.step * d) - s.width * d ≤ q → q ≤ n * (s.step * d) + s.width * d → rFit s (k, n) d = true := fun n hn g1 g2 => by
    unfold rFit
    rw [if_neg (by dsimp only; omega), decide_eq_true_eq]
    dsimp only
    rw [eA, eB]
    omega
  by_cases hc : q % (s.step * d) ≤ s.width * d
  · refine ⟨(q / (s.step * d)).toNat, by omega, ?_⟩
    rw [show ((q / (s.step * d)).toNat : Int) = q / (s.step * d) by omega]
    exact hfit _ hi0 (by omega) (by omega)
  · have hlt : q / (s.step * d) < s.divisions := by
      rcases Int.lt_or_eq_of_le hiD with h | h
      · exact h
      · rw [h] at hdm; omega
    refine ⟨(q / (s.step * d) + 1).toNat, by omega, ?_⟩
    rw [show ((q / (s.step * d) + 1).toNat : Int) = q / (s.step * d) + 1 by omega]
    have e1 : (q / (s.step * d) + 1) * (s.step * d) = q / (s.step * d) * (s.step * d) + s.step * d := by rw [Int.add_mul, Int.one_mul]
    exact hfit _ (by omega) (by omega) (by omega)
end Go.Sp
/-
  The document's examples hold.
-/
namespace Go.Sp
open Go Go.Proofs
end Go.Sp
/-
  Contracts with known values.
-/
namespace Go.Sp
open Go Go.Proofs
end Go.Sp
/-
  What See returns is what the reference says.
-/
namespace Go.Sp
open Go Go.Proofs
def refStep (s : Sn) (k d : Int) (r : Int × Int) (x : Nat) : Int × Int := if rFit s (k, (x : Int)) d = true then (min r.1 x, max r.2 x) else r
def refAcc (s : Sn) (k d : Int) (n : Nat) : Int × Int := (List.range n).foldl (refStep s k d) (99, -1)
theorem refAcc_succ (s : Sn) (k d : Int) (n : Nat) : refAcc s k d (n + 1) = refStep s k d (refAcc s k d n) n := by simp [refAcc, List.range_succ]
theorem see_ref {s : Sn} (hs : VS s) {k d : Int} (hk0 : 0 ≤ k) (hk1 : k ≤ s.weights.length) (h1 : 1 ≤ d) (h2 : d ≤ 2000) : ∀ n : Nat, n ≤ (s.divisions + 1).toNat →
    ((∀ i : Nat, i < n → rFit s (k, (i : Int)) d = false) ∧ seeAcc s k d n = (s.divisions, 0) ∧ refAcc s k d n = (99, -1)) ∨ seeAcc s k d n = refAcc s k d n := by
  intro n
  have hd1 := hs.d1
  have hd2 := hs.d2
  induction n with
  | zero => intro _; exact .inl ⟨fun i hi => absurd hi (Nat.not_lt_zero i), rfl, rfl⟩
  | succ n ih =>
    intro hn
    have hm := mean_mem hs hk0 hk1 (seen := (n : Int)) (by omega) (by omega) h1 h2
    rw [seeAcc_succ, refAcc_succ]
    unfold seeStep refStep
    cases hf : rFit s (k, (n : Int)) d
    · rw [hf] at hm
      rw [if_neg (fun h => absurd (hm.1 h) Bool.false_ne_true), if_neg Bool.false_ne_true]
      rcases ih (by omega) with ⟨g1, g2, g3⟩ | g
      · exact .inl ⟨fun i hi => by
          rcases Nat.lt_succ_iff_lt_or_eq.1 hi with h | rfl
          · exact g1 i h
          · exact hf, g2, g3⟩
      · exact .inr g
    · rw [hf] at hm
      rw [if_pos (hm.2 rfl), if_pos rfl]
      rcases ih (by omega) with ⟨_, g2, g3⟩ | g
      · rw [g2, g3]
        right
        dsimp only
        rw [show min s.divisions (n : Int) = n by omega, show max (0 : Int) (n : Int) = n by omega, show min (99 : Int) (n : Int) = n by omega, show max (-1 : Int) (n : Int) = n by omega]
      · rw [g]; exact .inr rfl
theorem see_eq {s : Sn} (hs : VS s) {k d : Int} (hk0 : 0 ≤ k) (hk1 : k ≤ s.weights.length) (h1 : 1 ≤ d) (h2 : d ≤ 2000) (hf : rFlo s k d = 0) : seeAcc s k d (s.divisions.toNat + 1) = refAcc s k d (s.divisions + 1).toNat := by
  have hd1 := hs.d1
  rw [show s.divisions.toNat + 1 = (s.divisions + 1).toNat by omega]
  rcases see_ref hs hk0 hk1 h1 h2 (s.divisions + 1).toNat (Nat.le_refl _) with ⟨g, _, _⟩ | g
  · obtain ⟨i, hi, hfit⟩ := some_div hs h1 hf
    rw [g i (by omega)] at hfit; cases hfit
  · exact g
theorem see_v (s : Sn) (hn : NB s) (k d : Int) {r : Int × Int} {e : Int} (hE : seeF s k d = (r, e)) (sl : Value) (w : World) (hr : RdI w sl s.weights) : CnV Tryz.prog 39 #[spV s sl, vi k, vi d] w (.tuple #[rV r, vi e]) := by
  have h := see_c s hn k d sl w hr
  rw [hE] at h; exact h
end Go.Sp
/-
  What See and Mean return.
-/
namespace Go.Sp
open Go Go.Proofs
theorem refAcc_spec (s : Sn) (k d : Int) : ∀ n : Nat, n ≤ 30 → ((∀ i : Nat, i < n → rFit s (k, (i : Int)) d = false) ∧ refAcc s k d n = (99, -1)) ∨
    ∃ a b : Nat, a < n ∧ b < n ∧ rFit s (k, (a : Int)) d = true ∧ rFit s (k, (b : Int)) d = true ∧ refAcc s k d n = ((a : Int), (b : Int)) ∧ ∀ i : Nat, i < n → rFit s (k, (i : Int)) d = true → a ≤ i ∧ i ≤ b := by
  intro n
  induction n with
  | zero => intro _; exact .inl ⟨fun i hi => absurd hi (Nat.not_lt_zero i), rfl⟩
  | succ n ih =>
    intro hn
    rw [refAcc_succ]
    unfold refStep
    cases hf : rFit s (k, (n : Int)) d
    · rw [if_neg Bool.false_ne_true]
      rcases ih (by omega) with ⟨g1, g2⟩ | ⟨a, b, h1, h2, h3, h4, h5, h6⟩
      · exact .inl ⟨fun i hi => by
          rcases Nat.lt_succ_iff_lt_or_eq.1 hi with h | rfl
          · exact g1 i h
          · exact hf, g2⟩
      · exact .inr ⟨a, b, by omega, by omega, h3, h4, h5, fun i hi hfi => by
          rcases Nat.lt_succ_iff_lt_or_eq.1 hi with h | rfl
          · exact h6 i h hfi
          · rw [hf] at hfi; cases hfi⟩
    · rw [if_pos rfl]
      rcases ih (by omega) with ⟨g1, g2⟩ | ⟨a, b, h1, h2, h3, h4, h5, h6⟩
      · refine .inr ⟨n, n, by omega, by omega, hf, hf, ?_, fun i hi hfi => ?_⟩
        · rw [g2]; dsimp only; rw [show min (99 : Int) (n : Int) = n by omega, show max (-1 : Int) (n : Int) = n by omega]
        · rcases Nat.lt_succ_iff_lt_or_eq.1 hi with h | rfl
          · rw [g1 i h] at hfi; cases hfi
          · exact ⟨Nat.le_refl _, Nat.le_refl _⟩
      · refine .inr ⟨a, n, by omega, by omega, h3, hf, ?_, fun i hi hfi => ?_⟩
        · rw [h5]; dsimp only; rw [show min (a : Int) (n : Int) = a by omega, show max (b : Int) (n : Int) = n by omega]
        · rcases Nat.lt_succ_iff_lt_or_eq.1 hi with h | rfl
          · have := h6 i h hfi; omega
          · omega
theorem fit_div {s : Sn} {k d i : Int} (hi : 0 ≤ i) : rFit s (k, i) d = true ↔ rFlo s k d = 0 ∧ d * (s.volume + i * s.step - s.width) ≤ 1000 * massF s k ∧ 1000 * massF s k ≤ d * (s.volume + i * s.step + s.width) := by
  have hc := flo_cases s k d
  unfold rFit
  by_cases c : rFlo s k d < 0
  · rw [if_pos (.inr c), decide_eq_true_eq]; dsimp only; omega
  · rw [if_neg (by dsimp only; omega), decide_eq_true_eq]; dsimp only; omega
theorem fit_between {s : Sn} (hs : VS s) {k d i x j : Int} (hd : 1 ≤ d) (hi : 0 ≤ i) (hix : i ≤ x) (hxj : x ≤ j) (h1 : rFit s (k, i) d = true) (h2 : rFit s (k, j) d = true) : rFit s (k, x) d = true := by
  have hs1 := hs.s1
  obtain ⟨a0, a1, a2⟩ := (fit_div hi).1 h1
  obtain ⟨_, b1, b2⟩ := (fit_div (by omega)).1 h2
  have e1 : i * s.step ≤ x * s.step := Int.mul_le_mul_of_nonneg_right hix (by omega)
  have e2 : x * s.step ≤ j * s.step := Int.mul_le_mul_of_nonneg_right hxj (by omega)
  have e3 := Int.mul_le_mul_of_nonneg_left (show s.volume + x * s.step - s.width ≤ s.volume + j * s.step - s.width by omega) (show 0 ≤ d by omega)
  have e4 := Int.mul_le_mul_of_nonneg_left (show s.volume + i * s.step + s.width ≤ s.volume + x * s.step + s.width by omega) (show 0 ≤ d by omega)
  exact (fit_div (by omega)).2 ⟨a0, by omega, by omega⟩
theorem fit_three {s : Sn} (hs : VS s) {k d i j : Int} (hd : 1 ≤ d) (hi : 0 ≤ i) (hij : i ≤ j) (h1 : rFit s (k, i) d = true) (h2 : rFit s (k, j) d = true) : j ≤ i + 2 := by
  have hs1 := hs.s1
  have hw2 := hs.w2
  obtain ⟨a0, a1, a2⟩ := (fit_div hi).1 h1
  obtain ⟨_, b1, b2⟩ := (fit_div (by omega)).1 h2
  have e1 : s.volume + j * s.step - s.width ≤ s.volume + i * s.step + s.width := by
    rcases Int.lt_or_le (s.volume + i * s.step + s.width) (s.volume + j * s.step - s.width) with h | h
    · have := Int.mul_lt_mul_of_pos_left h (show 0 < d by omega)
      omega
    · exact h
  rcases Int.lt_or_le (i + 2) j with h | h
  · have e2 : (i + 3) * s.step ≤ j * s.step := Int.mul_le_mul_of_nonneg_right (by omega) (by omega)
    rw [Int.add_mul] at e2
    omega
  · exact h
/-- What See returns. -/
theorem see_spec {s : Sn} (hs : VS s) {k d : Int} (hk0 : 0 ≤ k) (hk1 : k ≤ s.weights.length) (h1 : 1 ≤ d) (h2 : d ≤ 2000) {r1 r2 e : Int} (h : seeF s k d = ((r1, r2), e)) :
    (rFlo s k d = 0 ∧ e = 0 ∧ 0 ≤ r1 ∧ r1 ≤ r2 ∧ r2 ≤ s.divisions ∧ r2 ≤ r1 + 2 ∧ ∀ i : Int, 0 ≤ i → i ≤ s.divisions → (rFit s (k, i) d = true ↔ r1 ≤ i ∧ i ≤ r2)) ∨ (¬ rFlo s k d = 0 ∧ e = 10 ∧ r1 = 0 ∧ r2 = 0) := by
  have hd1 := hs.d1
  have hd2 := hs.d2
  have ha : askF s k d = 0 := by
    unfold askF
    rw [if_neg (by rw [chkF_valid.2 hs]; exact fun h => h rfl), if_pos ⟨⟨hk0, hk1⟩, h1, h2⟩]
  unfold seeF at h
  rw [if_neg (by omega), at_eq hs h1 h2] at h
  by_cases hf : rFlo s k d = 0
  · rw [if_neg (by omega), see_eq hs hk0 hk1 h1 h2 hf] at h
    left
    rcases refAcc_spec s k d (s.divisions + 1).toNat (by omega) with ⟨g, _⟩ | ⟨a, b, g1, g2, g3, g4, g5, g6⟩
    · obtain ⟨i, hi, hfit⟩ := some_div hs h1 hf
      rw [g i (by omega)] at hfit; cases hfit
    · rw [g5] at h
      cases h
      have hab := g6 a (by omega) g3
      refine ⟨hf, rfl, by omega, by omega, by omega, fit_three hs h1 (by omega) (by omega) g3 g4, fun i hi0 hiD => ⟨fun hfit => ?_, fun hh => fit_between hs h1 (by omega) hh.1 hh.2 g3 g4⟩⟩
      have := g6 i.toNat (by omega) (by rw [show (i.toNat : Int) = i by omega]; exact hfit)
      omega
  · rw [if_pos hf] at h
    cases h
    exact .inr ⟨hf, rfl, rfl, rfl⟩
end Go.Sp
/-
  Trials, plainly: judging; what more tests, wider liquids and other tolerances do.
-/
namespace Go.Sp
open Go Go.Proofs
def possL (t : Tr) (i : Nat) : List Int := ([-3, -2, -1, 0, 1, 2, 3] : List Int).filter fun x => (truthsL t []).any fun e => decide (get3 e i = x)
def possLL (t : Tr) (n : Nat) : List (List Int) := (List.range n).map (possL t)
theorem possLL_succ (t : Tr) (n : Nat) : possLL t (n + 1) = possLL t n ++ [possL t n] := by simp [possLL, List.range_succ]
theorem possLL_len (t : Tr) (n : Nat) : (possLL t n).length = n := by simp [possLL]
theorem mem_truths {t : Tr} {out : List Int} {e : Int × Int × Int} : e ∈ truthsL t out ↔ e ∈ everyL t ∧ denOk t e out = true := List.mem_filter
theorem truths_bd {t : Tr} (hv : VT t) {out : List Int} {e : Int × Int × Int} (h : e ∈ truthsL t out) : ErB e := every_bd hv (mem_truths.1 h).1
theorem poss_mem {t : Tr} (hv : VT t) {i : Nat} {x : Int} : x ∈ possL t i ↔ ∃ e ∈ truthsL t [], get3 e i = x := by
  unfold possL
  rw [List.mem_filter, List.any_eq_true]
  constructor
  · rintro ⟨_, e, he, h⟩
    exact ⟨e, he, of_decide_eq_true h⟩
  · rintro ⟨e, he, rfl⟩
    have := (truths_bd hv he).get i
    refine ⟨?_, e, he, decide_eq_true rfl⟩
    simp only [List.mem_cons, List.not_mem_nil, or_false]
    omega
def goodB (t : Tr) (tol : Int) (e : Int × Int × Int) : Bool := (List.range t.parts.length).all fun i => decide (get3 e i ≤ tol) && decide (-get3 e i ≤ tol)
def judgeJ (t : Tr) (tol : Int) : Int := if (truthsL t []).all (goodB t tol) = true then 1 else if (truthsL t []).any (goodB t tol) = false then 2 else 3
def judgeE (t : Tr) (tol : Int) : Int × Int := if ¬ chkT t = 0 then (0, chkT t) else if tol < 0 then (0, 2) else if ¬ askedE t = 0 then (0, askedE t) else (judgeJ t tol, 0)
theorem judgeJ_1 {t : Tr} {tol : Int} : judgeJ t tol = 1 ↔ ∀ e ∈ truthsL t [], goodB t tol e = true := by
  unfold judgeJ
  split
  · rename_i h; exact ⟨fun _ => List.all_eq_true.1 h, fun _ => rfl⟩
  · rename_i h
    constructor
    · intro g; split at g <;> omega
    · intro g; exact absurd (List.all_eq_true.2 g) h
theorem judgeJ_2 {t : Tr} {tol : Int} (hne : 0 < (truthsL t []).length) : judgeJ t tol = 2 ↔ ∀ e ∈ truthsL t [], goodB t tol e = false := by
  obtain ⟨e0, he0⟩ := List.exists_mem_of_length_pos hne
  unfold judgeJ
  split
  · rename_i h
    constructor
    · intro g; omega
    · intro g
      have := List.all_eq_true.1 h e0 he0
      rw [g e0 he0] at this; cases this
  · split
    · rename_i h
      refine ⟨fun _ e he => ?_, fun _ => rfl⟩
      cases hg : goodB t tol e
      · rfl
      · rw [List.any_eq_true.2 ⟨e, he, hg⟩] at h; cases h
    · rename_i h
      constructor
      · intro g; omega
      · intro g
        exfalso; apply h
        cases ha : (truthsL t []).any (goodB t tol)
        · rfl
        · obtain ⟨e, he, hg⟩ := List.any_eq_true.1 ha
          rw [g e he] at hg; cases hg
theorem good_mono {t : Tr} {a b : Int} (h : a ≤ b) {e : Int × Int × Int} (hg : goodB t a e = true) : goodB t b e = true := by
  unfold goodB at hg ⊢
  rw [List.all_eq_true] at hg ⊢
  intro i hi
  have := hg i hi
  rw [Bool.and_eq_true, decide_eq_true_eq, decide_eq_true_eq] at this ⊢
  omega
theorem asked_v {t : Tr} (hv : VT t) : (askedE t = 0 ∧ 0 < (truthsL t []).length) ∨ (askedE t = 11 ∧ (truthsL t []).length = 0) := by
  unfold askedE
  have h0 := chkT_0.2 hv
  rw [if_neg (by omega)]
  split
  · exact .inr ⟨rfl, by assumption⟩
  · exact .inl ⟨rfl, by omega⟩
theorem judgeE_v {t : Tr} (hv : VT t) {tol : Int} (h : 0 ≤ tol) : judgeE t tol = if askedE t = 0 then (judgeJ t tol, 0) else (0, 11) := by
  unfold judgeE
  have h0 := chkT_0.2 hv
  rw [if_neg (by omega), if_neg (by omega)]
  rcases asked_v hv with ⟨g, _⟩ | ⟨g, _⟩
  · rw [if_neg (by omega), if_pos g]
  · rw [if_pos (by omega), if_neg (by omega), g]
/-- A greater tolerance. -/
theorem judge_tol {t : Tr} (hv : VT t) {a b : Int} (ha : 0 ≤ a) (hab : a ≤ b) {i j e f : Int} (hi : judgeE t a = (i, e)) (hj : judgeE t b = (j, f)) : e = f ∧ (e = 0 ∨ e = 11) ∧ (i = 1 → j = 1) ∧ (j = 2 → i = 2) := by
  rw [judgeE_v hv ha] at hi
  rw [judgeE_v hv (by omega)] at hj
  rcases asked_v hv with ⟨g, hp⟩ | ⟨g, _⟩
  · rw [if_pos g] at hi hj
    cases hi; cases hj
    refine ⟨rfl, .inl rfl, fun h => ?_, fun h => ?_⟩
    · rw [judgeJ_1] at h ⊢
      exact fun e he => good_mono hab (h e he)
    · rw [judgeJ_2 hp] at h ⊢
      intro e he
      cases hg : goodB t a e
      · rfl
      · have := h e he; rw [good_mono hab hg] at this; cases this
  · rw [if_neg (by omega)] at hi hj
    cases hi; cases hj
    exact ⟨rfl, .inr rfl, fun h => by omega, fun h => by omega⟩
theorem nth_in {W n k : Nat} : (-(W : Int) ≤ (nth3 W n k).1 ∧ (nth3 W n k).1 ≤ W) ∧ (-(W : Int) ≤ (nth3 W n k).2.1 ∧ (nth3 W n k).2.1 ≤ W) ∧ (-(W : Int) ≤ (nth3 W n k).2.2 ∧ (nth3 W n k).2.2 ≤ W) ∧ (n < 2 → (nth3 W n k).2.1 = 0) ∧ (n < 3 → (nth3 W n k).2.2 = 0) := by
  unfold nth3
  dsimp only
  have h1 := Nat.mod_lt k (show 0 < 2 * W + 1 by omega)
  have h2 := Nat.mod_lt (k / (2 * W + 1)) (show 0 < 2 * W + 1 by omega)
  have h3 := Nat.mod_lt (k / (2 * W + 1) / (2 * W + 1)) (show 0 < 2 * W + 1 by omega)
  generalize k % (2 * W + 1) = a at h1 ⊢
  generalize k / (2 * W + 1) % (2 * W + 1) = b at h2 ⊢
  generalize k / (2 * W + 1) / (2 * W + 1) % (2 * W + 1) = c at h3 ⊢
  refine ⟨by omega, ?_, ?_, fun h => ?_, fun h => ?_⟩
  · split <;> omega
  · split <;> omega
  · rw [if_neg (by omega)]
  · rw [if_neg (by omega)]
theorem every_in {t : Tr} (hv : VT t) {e : Int × Int × Int} (h : e ∈ everyL t) : (-t.worst ≤ e.1 ∧ e.1 ≤ t.worst) ∧ (-t.worst ≤ e.2.1 ∧ e.2.1 ≤ t.worst) ∧ (-t.worst ≤ e.2.2 ∧ e.2.2 ≤ t.worst) ∧ (t.parts.length < 2 → e.2.1 = 0) ∧ (t.parts.length < 3 → e.2.2 = 0) := by
  have hw := hv.w
  unfold everyL at h
  obtain ⟨k, _, rfl⟩ := List.mem_map.1 h
  have := nth_in (W := t.worst.toNat) (n := t.parts.length) (k := k)
  rw [show ((t.worst.toNat : Nat) : Int) = t.worst from by omega] at this
  exact this
/-- With no errors that can be. -/
theorem VT.w0 {t : Tr} (hv : VT t) : VT { t with worst := 0 } := { hv with w := ⟨Int.le_refl _, by show (0 : Int) ≤ 3; omega⟩ }
theorem judge_w0 {t : Tr} (hv : VT t) {n c g : Int} (hn : 0 ≤ n) (h : judgeE { t with worst := 0 } n = (c, g)) : (g = 0 ∨ g = 11) ∧ (g = 0 → c = 1) := by
  have hv0 := hv.w0
  rw [judgeE_v hv0 hn] at h
  rcases asked_v hv0 with ⟨e, hp⟩ | ⟨e, _⟩
  · rw [if_pos e] at h
    cases h
    refine ⟨.inl rfl, fun _ => judgeJ_1.2 fun e he => ?_⟩
    have hb := every_in hv0 (mem_truths.1 he).1
    dsimp only at hb
    unfold goodB
    refine List.all_eq_true.2 fun i _ => ?_
    rw [Bool.and_eq_true, decide_eq_true_eq, decide_eq_true_eq]
    unfold get3
    split
    · omega
    · split <;> omega
  · rw [if_neg (by omega)] at h
    cases h
    exact ⟨.inr rfl, fun h => by omega⟩
/-- What can be shown without errors is what the spindle reads. -/
theorem shown_w0 {t : Tr} (hv : VT t) {k d : Int} (hk0 : 0 ≤ k) (hk1 : k ≤ t.s.weights.length) (h1 : 1 ≤ d) (h2 : d ≤ 2000) {r1 r2 e : Int} (h : seeF t.s k d = ((r1, r2), e)) :
    (e = 10 ∧ shownL t (0, 0, 0) k d = [-1]) ∨ (e = 0 ∧ r1 ≤ r2 ∧ shownL t (0, 0, 0) k d = (List.range (r2 - r1 + 1).toNat).map fun (m : Nat) => r1 + (m : Int)) := by
  have hd1 := hv.s.d1
  have h0 : ∀ x : Int, ofF t (0, 0, 0) x = 0 := fun x => by
    unfold ofF get3
    split
    · rfl
    · split <;> rfl
  have hc : ∀ x : Int, canF t (0, 0, 0) k d x = decide ((readT t.s k d).1 ≤ x ∧ x ≤ (readT t.s k d).2) := fun x => by
    unfold canF
    rw [h0, Int.sub_zero]
  have hi0 : (shownN t (0, 0, 0) k d (t.s.divisions + 1).toNat).Pairwise (· < ·) := by
    unfold shownN
    rw [List.pairwise_map]
    exact (List.pairwise_lt_range.filter _).imp fun hh => by omega
  have hm : ∀ x : Int, x ∈ shownN t (0, 0, 0) k d (t.s.divisions + 1).toNat ↔ (0 ≤ x ∧ x ≤ t.s.divisions) ∧ (readT t.s k d).1 ≤ x ∧ x ≤ (readT t.s k d).2 := fun x => by
    unfold shownN
    rw [List.mem_map]
    constructor
    · rintro ⟨a, ha, rfl⟩
      rw [List.mem_filter, List.mem_range, hc, decide_eq_true_eq] at ha
      omega
    · rintro ⟨g1, g2⟩
      exact ⟨x.toNat, by rw [List.mem_filter, List.mem_range, hc, decide_eq_true_eq]; omega, by omega⟩
  rcases see_spec hv.s hk0 hk1 h1 h2 h with ⟨_, rfl, hr0, hr1, hr2, _, _⟩ | ⟨_, rfl, _, _⟩
  · right
    have hrd : readT t.s k d = (r1, r2) := by unfold readT; rw [h]; rfl
    rw [hrd] at hm
    dsimp only at hm
    have e1 : shownN t (0, 0, 0) k d (t.s.divisions + 1).toNat = (List.range (r2 - r1 + 1).toNat).map fun (m : Nat) => r1 + (m : Int) := by
      refine inc_ext hi0 ?_ fun x => ?_
      · rw [List.pairwise_map]
        exact List.pairwise_lt_range.imp fun hh => by omega
      · rw [hm, List.mem_map]
        constructor
        · rintro ⟨g1, g2⟩
          exact ⟨(x - r1).toNat, List.mem_range.2 (by omega), by omega⟩
        · rintro ⟨a, ha, rfl⟩
          have := List.mem_range.1 ha
          omega
    refine ⟨rfl, by omega, ?_⟩
    unfold shownL
    rw [e1, if_neg (by rw [List.length_map, List.length_range]; omega)]
  · left
    have hrd : readT t.s k d = (0, -1) := by unfold readT; rw [h]; rfl
    rw [hrd] at hm
    have e1 : shownN t (0, 0, 0) k d (t.s.divisions + 1).toNat = [] := List.eq_nil_iff_forall_not_mem.2 fun x hx => by have := (hm x).1 hx; dsimp only at this; omega
    refine ⟨rfl, ?_⟩
    unfold shownL
    rw [e1]; rfl
theorem pass_iffT {t : Tr} {e : Int × Int × Int} {i : Nat} {out : List Int} {d : Int} {n : Nat} : passN t e i out d n = true ↔ ∀ j : Nat, j < n → ¬ (t.tests.getD j (0, 0, 0)).1 = i ∨ (j : Int) ∈ out ∨ rightF t e (t.tests.getD j (0, 0, 0)) d = true := by
  unfold passN passF
  simp only [List.all_eq_true, List.mem_range, Bool.or_eq_true, decide_eq_true_eq]
theorem dense_memT {t : Tr} {e : Int × Int × Int} {i : Nat} {out : List Int} {d : Int} : d ∈ denseL t e i out ↔ ((lqAt t i).1 ≤ d ∧ d ≤ (lqAt t i).2) ∧ passN t e i out d t.tests.length = true := by
  unfold denseL denseN lqC
  rw [List.mem_map]
  constructor
  · rintro ⟨j, hj, rfl⟩
    rw [List.mem_filter, List.mem_range] at hj
    exact ⟨by omega, hj.2⟩
  · rintro ⟨h1, h2⟩
    refine ⟨(d - (lqAt t i).1).toNat, ?_, by omega⟩
    rw [List.mem_filter, List.mem_range]
    refine ⟨by omega, ?_⟩
    rw [show (lqAt t i).1 + ((d - (lqAt t i).1).toNat : Int) = d from by omega]
    exact h2
theorem denOk_iff {t : Tr} {e : Int × Int × Int} {out : List Int} : denOk t e out = true ↔ ∀ i : Nat, i < t.liquids.length → ∃ d, d ∈ denseL t e i out := by
  constructor
  · intro h i hi
    rcases Nat.eq_zero_or_pos (denseL t e i out).length with g | g
    · rw [denOk_no hi g] at h; cases h
    · exact List.exists_mem_of_length_pos g
  · intro h
    exact denOk_yes fun i hi => by
      obtain ⟨d, hd⟩ := h i hi
      exact List.length_pos_of_mem hd
theorem fitsT_iffT {t : Tr} {out : List Int} : fitsT t out = true ↔ ∃ e, e ∈ truthsL t out := by
  unfold fitsT
  rw [decide_eq_true_eq]
  exact ⟨List.exists_mem_of_length_pos, fun ⟨e, he⟩ => List.length_pos_of_mem he⟩
theorem leave_fits {t : Tr} (hv : VT t) {xs : List Int} (hx : Inc 0 t.tests.length xs) (h : fitsT t xs = true) : (leaveTL t).length ≤ xs.length := by
  have hl := (leaveTL_some hv).2.least xs hx h
  rcases Nat.lt_or_ge xs.length (leaveTL t).length with g | g
  · unfold lessF at hl
    rw [if_neg (by omega), decide_eq_false_iff_not] at hl
    omega
  · exact g
end Go.Sp
/-
  Trials, plainly: wider liquids, and one more test.
-/
namespace Go.Sp
open Go Go.Proofs
theorem rightF_eq {t u : Tr} (hs : u.s = t.s) (hp : u.parts = t.parts) (e x : Int × Int × Int) (d : Int) : rightF u e x d = rightF t e x d := by
  have hc : ∀ k y : Int, canF u e k d y = canF t e k d y := fun k y => by unfold canF ofF; rw [hs, hp]
  have hsh : ∀ k : Int, shownL u e k d = shownL t e k d := fun k => by
    have : ∀ n, shownN u e k d n = shownN t e k d n := fun n => by
      unfold shownN
      congr 1
      exact List.filter_congr fun x _ => hc k x
    unfold shownL
    rw [this, hs]
  unfold rightF
  rw [hsh, hc]
theorem every_eq {t u : Tr} (hw : u.worst = t.worst) (hp : u.parts = t.parts) : everyL u = everyL t := by unfold everyL; rw [hw, hp]
/-- What fits in one trial fits in the other, with other tests left out. -/
theorem truths_sub {t u : Tr} (hs : u.s = t.s) (hp : u.parts = t.parts) (hw : u.worst = t.worst) {out out2 : List Int}
    (hd : ∀ e i, i < u.liquids.length → (∃ d, d ∈ denseL t e i out) → ∃ d, d ∈ denseL u e i out2) (hl : u.liquids.length = t.liquids.length) {e : Int × Int × Int} (h : e ∈ truthsL t out) : e ∈ truthsL u out2 := by
  rw [mem_truths] at h ⊢
  rw [every_eq hw hp]
  refine ⟨h.1, denOk_iff.2 fun i hi => hd e i hi ?_⟩
  exact denOk_iff.1 h.2 i (by omega)
theorem poss_sub {t u : Tr} (hv : VT t) (hu : VT u) (h : ∀ e, e ∈ truthsL t [] → e ∈ truthsL u []) (i : Nat) {x : Int} (hx : x ∈ possL t i) : x ∈ possL u i := by
  rw [poss_mem hv] at hx
  rw [poss_mem hu]
  obtain ⟨e, he, hg⟩ := hx
  exact ⟨e, h e he, hg⟩
theorem asked_sub {t u : Tr} (hv : VT t) (hu : VT u) (h : ∀ e, e ∈ truthsL t [] → e ∈ truthsL u []) (ha : askedE t = 0) : askedE u = 0 := by
  obtain ⟨e, he⟩ := List.exists_mem_of_length_pos (askedE_0 ha).2
  rcases asked_v hu with ⟨g, _⟩ | ⟨_, g⟩
  · exact g
  · have := List.length_pos_of_mem (h e he); omega
/-- Wider liquids. -/
structure Wid (t u : Tr) : Prop where
  s : u.s = t.s
  p : u.parts = t.parts
  w : u.worst = t.worst
  ts : u.tests = t.tests
  l : u.liquids.length = t.liquids.length
  lq : ∀ i : Nat, i < t.liquids.length → (lqAt u i).1 ≤ (lqAt t i).1 ∧ (lqAt t i).2 ≤ (lqAt u i).2
theorem Wid.truths {t u : Tr} (h : Wid t u) {out : List Int} {e : Int × Int × Int} (he : e ∈ truthsL t out) : e ∈ truthsL u out :=
  truths_sub h.s h.p h.w (fun e i hi ⟨d, hd⟩ => ⟨d, by
    rw [dense_memT, pass_iffT] at hd ⊢
    have := h.lq i (by have := h.l; omega)
    refine ⟨by omega, fun j hj => ?_⟩
    rw [h.ts] at hj ⊢
    rw [rightF_eq h.s h.p]
    exact hd.2 j hj⟩) h.l he
theorem Wid.leave {t u : Tr} (hv : VT t) (hu : VT u) (h : Wid t u) : (leaveTL u).length ≤ (leaveTL t).length := by
  have hl := (leaveTL_some hv).2
  refine leave_fits hu (by rw [h.ts]; exact hl.inc) ?_
  obtain ⟨e, he⟩ := fitsT_iffT.1 hl.ok
  exact fitsT_iffT.2 ⟨e, h.truths he⟩
theorem poss_ne {t : Tr} (hv : VT t) (ha : askedE t = 0) (i : Nat) : 0 < (possL t i).length := by
  obtain ⟨e, he⟩ := List.exists_mem_of_length_pos (askedE_0 ha).2
  exact List.length_pos_of_mem ((poss_mem hv).2 ⟨e, he, rfl⟩)
end Go.Sp
/-
  Package trial: judging.
-/
namespace Go.Sp
open Go Go.Proofs
inductive PVG (F : List (Nat × Value)) : Nat → Nat → List (Nat × Operand) → List Value → Prop
  | nil {sz k : Nat} : PVG F sz k [] []
  | agg {sz k : Nat} {x : Operand} {cs : List Value} {rest : List (Nat × Operand)} {out : List Value} : evalO F x = some (.agg cs.toArray) → cs.length = sz → PVG F sz (k + 1) rest out → PVG F sz k ((k, x) :: rest) (cs ++ out)
theorem foldlSet (o : Nat) : ∀ (cs : List Value) (n : Nat) (pre old junk : List Value), pre.length = o + n → old.length = cs.length →
    (cs.zipIdx n).foldl (fun (a : Array Value) (p : Value × Nat) => a.setIfInBounds (o + p.2) p.1) (pre ++ old ++ junk).toArray = (pre ++ cs ++ junk).toArray := by
  intro cs
  induction cs with
  | nil => intro n pre old junk _ ho; obtain rfl : old = [] := by simpa using ho
           simp
  | cons c cs ih =>
    intro n pre old junk hp ho
    match old, ho with
    | z :: old, ho =>
      rw [List.zipIdx_cons, List.foldl_cons]
      have e : ((pre ++ z :: old ++ junk).toArray : Array Value).setIfInBounds (o + n) c = ((pre ++ [c]) ++ old ++ junk).toArray := by
        rw [List.setIfInBounds_toArray]
        congr 1
        rw [← hp]
        simp
      dsimp only
      rw [e, ih (n + 1) (pre ++ [c]) old junk (by simp [hp]; omega) (by simpa using ho)]
      simp
theorem PVG.fill {F : List (Nat × Value)} {sz k : Nat} {ps : List (Nat × Operand)} {out : List Value} (h : PVG F sz k ps out) {N : NN} {a : Act} (ht : TF N F a) : ∀ (pre junk : List Value), pre.length = k * sz → junk.length = ps.length * sz →
    Instr.fill (fun i => some (i * sz, sz)) (pre ++ junk).toArray (ps.map fun (i, x) => (i, a.eval x)) = some (pre ++ out).toArray := by
  induction h with
  | nil => intro pre junk _ hj; obtain rfl : junk = [] := by simpa using hj
           rfl
  | @agg k x cs rest out hx hl _ ih =>
    intro pre junk hp hj
    simp only [List.length_cons, Nat.add_mul, Nat.one_mul] at hj
    have hsp : junk = junk.take sz ++ junk.drop sz := (List.take_append_drop _ _).symm
    have := ih (pre ++ cs) (junk.drop sz) (by rw [List.length_append, hp, hl, Nat.add_mul]; omega) (by simp; omega)
    simp only [List.map_cons, ht.eval hx]
    refine fill_cons (o := k * sz) (sz := sz) (c := cs.toArray) rfl rfl (by simpa using hl) (by simp; omega) ?_
    have e := foldlSet (k * sz) cs 0 pre (junk.take sz) (junk.drop sz) (by simpa using hp) (by simp; omega)
    rw [List.append_assoc, ← hsp] at e
    rw [Array.zipIdx_toArray, List.foldl_toArray]
    refine Eq.trans (congrArg (fun z => Instr.fill _ z _) ?_) (this.trans (by rw [List.append_assoc]))
    rw [← e]
theorem e_bsliceG {P : Program} {N : NN} {F : List (Nat × Value)} {bs : List (World × List Nat)} {H : List (Nat × Obj)} {ty : TypeId} {pos : String} {after : Array Edge} {g : Option (Nat × Bool)} {dd : Tmp} {t e : TypeId} {sz by_ len : Nat} {ps : List (Nat × Operand)} {out : List Value} [hs : TySlice P t e sz] [hi : TyElem P e sz by_] (hd : Nat.blt dd N.n = true) (hp : PVG F sz 0 ps out) (hl : ps.length = len) (hb : Nat.ble (len * sz) 16777216 = true) :
    OpE P ⟨some dd, .buildSlice t len ps.toArray, ty, pos, after, g⟩ N F bs H (fun _ : Nat => True) (fun b => (dd, .slice (some ⟨b, 0, none⟩) len len) :: F) (fun _ => bs) (fun b => (b, .cells out.toArray e (0, 0)) :: H) := by
  unfold OpE
  intro a w ht hw K Q hK
  obtain ⟨i, z, h1, h2, h3, h4, h5⟩ := hi.info
  have hb' : ¬ len * sz > 2 ^ 24 := by have := Nat.le_of_ble_eq_true hb; omega
  subst hl
  have hmap : (ps.toArray.map fun (i, x) => (i, a.eval x)).toList = ps.map fun (i, x) => (i, a.eval x) := by simp
  have key : ∀ zero : Array Value, Instr.fill (fun i => some (i * sz, sz)) ((Array.range (ps.length * sz)).map (zero[· % zero.size]!)) (ps.map fun (i, x) => (i, a.eval x)) = some out.toArray := fun zero => by
    have := hp.fill ht [] ((Array.range (ps.length * sz)).map (zero[· % zero.size]!)).toList (by simp) (by simp)
    rw [List.nil_append, Array.toArray_toList] at this
    exact this
  have hrun : (Instr.buildSlice t ps.length (ps.toArray.map fun (i, x) => (i, a.eval x))).run P w = .ok (.slice (some ⟨w.heap.size, 0, none⟩) ps.length ps.length) (w.alloc (.cells out.toArray e)) := by
    unfold Instr.buildSlice
    simp only [Sem.run_bind, underlying_run hs.ty, Result.andThen, sizeOf_run hs.info, hb', if_false]
    split
    · simp only [Sem.run_bind, Sem.run_pure, Result.andThen, hmap, key, newRow, run_newObj]; rfl
    · simp only [Sem.run_bind, zeroValue_run h1 h2, Sem.run_pure, Result.andThen, hmap, key, newRow, run_newObj]; rfl
  unfold Oper.wp
  simp only [execOp, Sem.run_bind, hrun, Result.andThen, Sem.run_pure, Oper.upon]
  exact hK w.heap.size _ _ trivial (ht.put hd _) (hw.alloc _)
def tolE (t : Tr) (tol : Int) : Int := if ¬ chkT t = 0 then chkT t else if tol < 0 then 2 else 0
theorem tolerant_c (t : Tr) (hn : NT t) (tol : Int) (sl pl ll tl : Value) (w : World) (hr : RdTr w t sl pl ll tl) : CnV Tryz.prog 83 #[trV t sl pl ll tl, vi tol] w (vi (tolE t tol)) := by
  have hr0 := hr
  refine cnv (vs := [_, _]) Tryz.func83 rfl rfl ?_
  all_goals refine tc_seq fun K1 hK1 => ?_
  all_goals refine tc_region ?_
  all_goals refine tl_e (e_box rfl rfl rfl) rfl (fun b2 _ => ?_)
  all_goals refine tl_q (y_assign rfl) rfl ?_
  all_goals refine tl_nil ?_
  all_goals (refine hK1 ?_; try (clear hK1; clear K1))
  all_goals refine tc_seq fun K2 hK2 => ?_
  all_goals refine tc_seq fun K3 hK3 => ?_
  all_goals refine tc_region ?_
  all_goals (refine tl_q (y_loadW rfl (by repeat constructor) (by rfl)) rfl ?_)
  all_goals refine tl_e (e_callV rfl (.cons rfl .nil) (fun w' hw' => checkTrial_c t hn sl pl ll tl w' (hr0.fr (hw'.fr (by simp))))) rfl (fun _ _ => ?_)
  all_goals refine tl_q (y_assign rfl) rfl ?_
  all_goals refine tl_nil ?_
  all_goals (refine hK3 ?_; try (clear hK3; clear K3))
  all_goals refine tc_seq fun K4 hK4 => ?_
  all_goals refine tc_region ?_
  all_goals refine tl_q (y_move rfl) rfl ?_
  all_goals refine tl_q (y_neq rfl rfl) rfl ?_
  all_goals refine tl_nil ?_
  all_goals (refine hK4 ?_; try (clear hK4; clear K4))
  all_goals (
   refine tc_cond rfl (fun hc => ?_) (fun hc => ?_)
   · try simp only [decide_eq_true_eq, decide_eq_false_iff_not, Int.not_lt, Int.not_le, Bool.not_eq_true', Bool.not_eq_false', Decidable.not_not, not_true_eq_false] at hc
     all_goals first | (exfalso; with_reducible exact bft hc) | (exfalso; with_reducible exact btf hc) | (exfalso; omega) | skip
     all_goals refine tc_seq fun K5 hK5 => ?_
     all_goals refine tc_region ?_
     all_goals refine tl_q (y_move rfl) rfl ?_
     all_goals refine tl_q (y_assign rfl) rfl ?_
     all_goals refine tl_nil ?_
     all_goals (refine hK5 ?_; try (clear hK5; clear K5))
     all_goals refine tc_ret ?_
     all_goals (repeat (refine tk_then_ret ?_))
     all_goals first | refine tk_ret rfl rfl (.cons (.tmp rfl) .nil) ?_ | refine tk_retM rfl (by repeat constructor) rfl (.cons (.tmp rfl) .nil) ?_
     all_goals (
      refine fun w' hw' => ⟨?_, hw'.fr (by simp)⟩
      unfold tolE
      first
      | (rw [if_pos (by omega)]; rfl)
      | (rw [if_neg (by omega), if_pos (by omega)]; rfl)
      | (rw [if_neg (by omega), if_neg (by omega)]; rfl))
   · try simp only [decide_eq_true_eq, decide_eq_false_iff_not, Int.not_lt, Int.not_le, Bool.not_eq_true', Bool.not_eq_false', Decidable.not_not, not_true_eq_false] at hc
     all_goals first | (exfalso; with_reducible exact bft hc) | (exfalso; with_reducible exact btf hc) | (exfalso; omega) | skip
     all_goals refine tc_skip ?_
     all_goals (refine hK2 ?_; try (clear hK2; clear K2))
     all_goals refine tc_seq fun K6 hK6 => ?_
     all_goals refine tc_seq fun K7 hK7 => ?_
     all_goals refine tc_region ?_
     all_goals refine tl_q (y_move rfl) rfl ?_
     all_goals refine tl_q (y_lss rfl rfl) rfl ?_
     all_goals refine tl_nil ?_
     all_goals (refine hK7 ?_; try (clear hK7; clear K7))
     all_goals (
      refine tc_cond rfl (fun hc => ?_) (fun hc => ?_)
      · try simp only [decide_eq_true_eq, decide_eq_false_iff_not, Int.not_lt, Int.not_le, Bool.not_eq_true', Bool.not_eq_false', Decidable.not_not, not_true_eq_false] at hc
        all_goals first | (exfalso; with_reducible exact bft hc) | (exfalso; with_reducible exact btf hc) | (exfalso; omega) | skip
        all_goals refine tc_seq fun K8 hK8 => ?_
        all_goals refine tc_region ?_
        all_goals refine tl_q (y_assign rfl) rfl ?_
        all_goals refine tl_nil ?_
        all_goals (refine hK8 ?_; try (clear hK8; clear K8))
        all_goals refine tc_ret ?_
        all_goals (repeat (refine tk_then_ret ?_))
        all_goals first | refine tk_ret rfl rfl (.cons (.tmp rfl) .nil) ?_ | refine tk_retM rfl (by repeat constructor) rfl (.cons (.tmp rfl) .nil) ?_
        all_goals (
         refine fun w' hw' => ⟨?_, hw'.fr (by simp)⟩
         unfold tolE
         first
         | (rw [if_pos (by omega)]; rfl)
         | (rw [if_neg (by omega), if_pos (by omega)]; rfl)
         | (rw [if_neg (by omega), if_neg (by omega)]; rfl))
      · try simp only [decide_eq_true_eq, decide_eq_false_iff_not, Int.not_lt, Int.not_le, Bool.not_eq_true', Bool.not_eq_false', Decidable.not_not, not_true_eq_false] at hc
        all_goals first | (exfalso; with_reducible exact bft hc) | (exfalso; with_reducible exact btf hc) | (exfalso; omega) | skip
        all_goals refine tc_skip ?_
        all_goals (refine hK6 ?_; try (clear hK6; clear K6))
        all_goals refine tc_seq fun K9 hK9 => ?_
        all_goals refine tc_region ?_
        all_goals refine tl_q (y_assign rfl) rfl ?_
        all_goals refine tl_nil ?_
        all_goals (refine hK9 ?_; try (clear hK9; clear K9))
        all_goals refine tc_ret ?_
        all_goals (repeat (first | refine tk_then_ret ?_))
        all_goals first | refine tk_ret rfl rfl (.cons (.tmp rfl) .nil) ?_ | refine tk_retM rfl (by repeat constructor) rfl (.cons (.tmp rfl) .nil) ?_
        all_goals (
         refine fun w' hw' => ⟨?_, hw'.fr (by simp)⟩
         unfold tolE
         first
         | (rw [if_pos (by omega)]; rfl)
         | (rw [if_neg (by omega), if_pos (by omega)]; rfl)
         | (rw [if_neg (by omega), if_neg (by omega)]; rfl))))
theorem spanAbove_c (n tol : Int) (hn : -3 ≤ n ∧ n ≤ 3) (ht : 0 ≤ tol ∧ tol ≤ 1000) (w : World) : CnV Tryz.prog 163 #[.agg #[vi n, vi tol]] w (vi (n - tol)) := by
  refine cnv (vs := [_]) Tryz.func163 rfl rfl ?_
  all_goals refine tc_seq fun K1 hK1 => ?_
  all_goals refine tc_region ?_
  all_goals refine tl_e (e_box rfl rfl rfl) rfl (fun _ _ => ?_)
  all_goals refine tl_q (y_assign rfl) rfl ?_
  all_goals refine tl_nil ?_
  all_goals (refine hK1 ?_; try (clear hK1; clear K1))
  all_goals refine tc_seq fun K2 hK2 => ?_
  all_goals refine tc_region ?_
  all_goals refine tl_q (y_field rfl) rfl ?_
  all_goals refine tl_q (y_load1 rfl (by repeat constructor) (by rfl)) rfl ?_
  all_goals refine tl_q (y_field rfl) rfl ?_
  all_goals refine tl_q (y_load1 rfl (by repeat constructor) (by rfl)) rfl ?_
  all_goals refine tl_q (y_sub rfl rfl (by omega)) rfl ?_
  all_goals refine tl_q (y_assign rfl) rfl ?_
  all_goals refine tl_nil ?_
  all_goals (refine hK2 ?_; try (clear hK2; clear K2))
  all_goals refine tc_ret ?_
  all_goals (repeat (first | refine tk_then_ret ?_))
  all_goals first | refine tk_ret rfl rfl (.cons (.tmp rfl) .nil) ?_ | refine tk_retM rfl (by repeat constructor) rfl (.cons (.tmp rfl) .nil) ?_
  all_goals (
   exact fun w' hw' => ⟨rfl, hw'.fr (by simp)⟩)
theorem spanBelow_c (n tol : Int) (hn : -3 ≤ n ∧ n ≤ 3) (ht : 0 ≤ tol ∧ tol ≤ 1000) (w : World) : CnV Tryz.prog 164 #[.agg #[vi n, vi tol]] w (vi (-n - tol)) := by
  refine cnv (vs := [_]) Tryz.func164 rfl rfl ?_
  all_goals refine tc_seq fun K1 hK1 => ?_
  all_goals refine tc_region ?_
  all_goals refine tl_e (e_box rfl rfl rfl) rfl (fun _ _ => ?_)
  all_goals refine tl_q (y_assign rfl) rfl ?_
  all_goals refine tl_nil ?_
  all_goals (refine hK1 ?_; try (clear hK1; clear K1))
  all_goals refine tc_seq fun K2 hK2 => ?_
  all_goals refine tc_region ?_
  all_goals refine tl_q (y_field rfl) rfl ?_
  all_goals refine tl_q (y_load1 rfl (by repeat constructor) (by rfl)) rfl ?_
  all_goals refine tl_q (y_neg rfl (by omega)) rfl ?_
  all_goals refine tl_q (y_field rfl) rfl ?_
  all_goals refine tl_q (y_load1 rfl (by repeat constructor) (by rfl)) rfl ?_
  all_goals refine tl_q (y_sub rfl rfl (by omega)) rfl ?_
  all_goals refine tl_q (y_assign rfl) rfl ?_
  all_goals refine tl_nil ?_
  all_goals (refine hK2 ?_; try (clear hK2; clear K2))
  all_goals refine tc_ret ?_
  all_goals (repeat (first | refine tk_then_ret ?_))
  all_goals first | refine tk_ret rfl rfl (.cons (.tmp rfl) .nil) ?_ | refine tk_retM rfl (by repeat constructor) rfl (.cons (.tmp rfl) .nil) ?_
  all_goals (
   exact fun w' hw' => ⟨rfl, hw'.fr (by simp)⟩)
theorem goodN_no {t : Tr} {tol : Int} {e : Int × Int × Int} {i : Nat} (hi : i < t.parts.length) (h : tol < get3 e i ∨ tol < -get3 e i) : goodB t tol e = false := by
  cases hg : goodB t tol e
  · rfl
  · have := List.all_eq_true.1 hg i (List.mem_range.2 hi)
    rw [Bool.and_eq_true, decide_eq_true_eq, decide_eq_true_eq] at this
    omega
theorem goodN_yes {t : Tr} {tol : Int} {e : Int × Int × Int} (h : ∀ i : Nat, i < t.parts.length → get3 e i ≤ tol ∧ -get3 e i ≤ tol) : goodB t tol e = true :=
  List.all_eq_true.2 fun i hi => by
    have := h i (List.mem_range.1 hi)
    rw [Bool.and_eq_true, decide_eq_true_eq, decide_eq_true_eq]
    exact this
set_option maxHeartbeats 1000000 in
theorem good_c (t : Tr) (hv : VT t) (e : Int × Int × Int) (he : ErB e) (tol : Int) (ht : 0 ≤ tol ∧ tol ≤ 1000) (sl pl ll tl : Value) (w : World) (hp : RdI w pl t.parts) : CnV Tryz.prog 136 #[trV t sl pl ll tl, tsV e, vi tol] w (.bool (goodB t tol e)) := by
  have hp1 := hv.p1
  have hp3 := hv.p3
  obtain ⟨ad, cp, b0, o0, rfl, _, _⟩ := hp.open
  refine cnv (vs := [_, _, _]) Tryz.func136 rfl rfl ?_
  all_goals refine tc_seq fun K1 hK1 => ?_
  all_goals refine tc_region ?_
  all_goals refine tl_e (e_box rfl rfl rfl) rfl (fun b3 _ => ?_)
  all_goals refine tl_e (e_box rfl rfl rfl) rfl (fun b4 _ => ?_)
  all_goals refine tl_q (y_assign rfl) rfl ?_
  all_goals refine tl_nil ?_
  all_goals (refine hK1 ?_; try (clear hK1; clear K1))
  all_goals refine tc_seq fun K2 hK2 => ?_
  all_goals refine tc_seq fun K3 hK3 => ?_
  all_goals refine tc_region ?_
  all_goals refine tl_q (y_field rfl) rfl ?_
  all_goals (refine tl_q (y_load1 rfl (by repeat constructor) (by rfl)) rfl ?_)
  all_goals refine tl_q (y_len rfl) rfl ?_
  all_goals (refine tl_q (y_sliceAT rfl rfl (by omega)) rfl ?_)
  all_goals refine tl_q (y_len rfl) rfl ?_
  all_goals refine tl_q (y_move rfl) rfl ?_
  all_goals refine tl_nil ?_
  all_goals (refine hK3 ?_; try (clear hK3; clear K3))
  all_goals refine tc_block ?_
  all_goals (
   refine tc_loop (fun k : Nat => k ≤ t.parts.length ∧ ∀ i : Nat, i < k → get3 e i ≤ tol ∧ -get3 e i ≤ tol) (fun k => [(2, vi tol), (14, .slice (some ⟨b4, 0, none⟩) t.parts.length 3), (15, vi t.parts.length), (16, vi k)]) (fun _ => [(w, [])]) (fun _ => [(b4, .cells (tsV e).cells 126 (0, 0))]) (fun k => t.parts.length - k) ?_ ?_
   · exact tk_start 0 ⟨Nat.zero_le _, fun i hi => absurd hi (Nat.not_lt_zero i)⟩ (.cons rfl (.cons rfl (.cons rfl (.cons rfl .nil)))) (fun _ h => h.subl (SB.s (by repeat constructor)) (SB.s (by repeat constructor)))
   · rintro k ⟨hk, hg⟩
     all_goals refine tc_seq fun K4 hK4 => ?_
     all_goals refine tc_region ?_
     all_goals refine tl_q (y_lss rfl rfl) rfl ?_
     all_goals refine tl_nil ?_
     all_goals (refine hK4 ?_; try (clear hK4; clear K4))
     all_goals refine tc_seq fun K5 hK5 => ?_
     all_goals (
      refine tc_cond rfl (fun hc => ?_) (fun hc => ?_)
      · try simp only [decide_eq_true_eq, decide_eq_false_iff_not, Int.not_lt, Int.not_le, Bool.not_eq_true', Bool.not_eq_false', Decidable.not_not, not_true_eq_false] at hc
        all_goals first | (exfalso; with_reducible exact bft hc) | (exfalso; with_reducible exact btf hc) | (exfalso; omega) | skip
        all_goals refine tc_skip ?_
        all_goals (refine hK5 ?_; try (clear hK5; clear K5))
        all_goals refine tc_seq fun K6 hK6 => ?_
        all_goals refine tc_block ?_
        all_goals refine tc_seq fun K7 hK7 => ?_
        all_goals refine tc_region ?_
        all_goals (refine tl_q (y_index rfl rfl (by omega) rfl) rfl ?_)
        all_goals (refine tl_q (y_load1 (v := vi (get3 e k)) rfl (by repeat constructor) (by rcases (by omega : k = 0 ∨ k = 1 ∨ k = 2) with rfl | rfl | rfl <;> rfl)) rfl ?_)
        all_goals refine tl_q (y_assign rfl) rfl ?_
        all_goals refine tl_nil ?_
        all_goals (refine hK7 ?_; try (clear hK7; clear K7))
        all_goals refine tc_seq fun K8 hK8 => ?_
        all_goals refine tc_region ?_
        all_goals (refine tl_q (y_build_g (by repeat constructor)) rfl ?_)
        all_goals (refine tl_q (y_build_g (by repeat constructor)) rfl ?_)
        all_goals refine tl_e (e_bsliceG rfl (.agg rfl rfl (.agg rfl rfl .nil)) rfl rfl) rfl (fun b22 _ => ?_)
        all_goals refine tl_q (y_len rfl) rfl ?_
        all_goals refine tl_q (y_move rfl) rfl ?_
        all_goals refine tl_nil ?_
        all_goals (refine hK8 ?_; try (clear hK8; clear K8))
        all_goals refine tc_block ?_
        all_goals (
         refine tc_loop (fun j : Nat => j ≤ 2 ∧ (0 < j → get3 e k ≤ tol) ∧ (1 < j → -get3 e k ≤ tol)) (fun j => [(2, vi tol), (8, vi (get3 e k)), (14, .slice (some ⟨b4, 0, none⟩) t.parts.length 3), (15, vi t.parts.length), (16, vi k), (22, .slice (some ⟨b22, 0, none⟩) 2 2), (23, vi 2), (24, vi j)]) (fun _ => [(w, [])]) (fun _ => [(b22, .cells #[.func (.func 163) #[] #[], .func (.func 164) #[] #[]] 215 (0, 0)), (b4, .cells (tsV e).cells 126 (0, 0))]) (fun j => 2 - j) ?_ ?_
         · exact tk_start 0 ⟨by omega, fun h => by omega, fun h => by omega⟩ (.cons rfl (.cons rfl (.cons rfl (.cons rfl (.cons rfl (.cons rfl (.cons rfl (.cons rfl .nil)))))))) (fun _ h => h.subl (SB.s (by repeat constructor)) (SB.s (by repeat constructor)))
         · rintro j ⟨hj, hj0, hj1⟩
           rcases (by omega : j = 0 ∨ j = 1 ∨ j = 2) with rfl | rfl | rfl
           all_goals refine tc_seq fun K9 hK9 => ?_
           all_goals refine tc_region ?_
           all_goals refine tl_q (y_lss rfl rfl) rfl ?_
           all_goals refine tl_nil ?_
           all_goals (refine hK9 ?_; try (clear hK9; clear K9))
           all_goals refine tc_seq fun K10 hK10 => ?_
           all_goals (
            refine tc_cond rfl (fun hc => ?_) (fun hc => ?_)
            · try simp only [decide_eq_true_eq, decide_eq_false_iff_not, Int.not_lt, Int.not_le, Bool.not_eq_true', Bool.not_eq_false', Decidable.not_not, not_true_eq_false] at hc
              all_goals first | (exfalso; with_reducible exact bft hc) | (exfalso; with_reducible exact btf hc) | (exfalso; omega) | skip
              all_goals refine tc_skip ?_
              all_goals (refine hK10 ?_; try (clear hK10; clear K10))
              all_goals refine tc_seq fun K11 hK11 => ?_
              all_goals refine tc_block ?_
              all_goals refine tc_seq fun K12 hK12 => ?_
              all_goals refine tc_region ?_
              all_goals (refine tl_q (y_index rfl rfl (by omega) rfl) rfl ?_)
              all_goals (refine tl_q (y_loadN rfl (by repeat constructor) (by (repeat (first | exact .nil | apply CA.cons rfl)); done)) rfl ?_)
              all_goals refine tl_e (e_allocN rfl) rfl (fun _ _ => ?_)
              all_goals refine tl_e (e_storeW rfl rfl (by repeat constructor) (by rfl) (by rfl) (by simp [Value.oneCell'])) rfl (fun _ _ => ?_)
              all_goals refine tl_nil ?_
              all_goals (refine hK12 ?_; try (clear hK12; clear K12))
              all_goals refine tc_seq fun K13 hK13 => ?_
              all_goals refine tc_region ?_
              all_goals refine tl_q (y_field rfl) rfl ?_
              all_goals (refine tl_q (y_load1 rfl (by repeat constructor) (by rfl)) rfl ?_)
              all_goals refine tl_q (y_move rfl) rfl ?_
              all_goals refine tl_q (y_move rfl) rfl ?_
              all_goals (refine tl_q (y_build_g (by repeat constructor)) rfl ?_)
              all_goals (first | refine tl_e (e_callVf rfl rfl (.cons rfl .nil) (fun w' hw' => spanAbove_c (get3 e k) tol (he.get k) ht w')) rfl (fun _ _ => ?_) | refine tl_e (e_callVf rfl rfl (.cons rfl .nil) (fun w' hw' => spanBelow_c (get3 e k) tol (he.get k) ht w')) rfl (fun _ _ => ?_))
              all_goals refine tl_q (y_gtr rfl rfl) rfl ?_
              all_goals refine tl_nil ?_
              all_goals (refine hK13 ?_; try (clear hK13; clear K13))
              all_goals (
               refine tc_cond rfl (fun hc => ?_) (fun hc => ?_)
               · try simp only [decide_eq_true_eq, decide_eq_false_iff_not, Int.not_lt, Int.not_le, Bool.not_eq_true', Bool.not_eq_false', Decidable.not_not, not_true_eq_false] at hc
                 all_goals first | (exfalso; with_reducible exact bft hc) | (exfalso; with_reducible exact btf hc) | (exfalso; omega) | skip
                 all_goals refine tc_seq fun K14 hK14 => ?_
                 all_goals refine tc_region ?_
                 all_goals refine tl_q (y_assign rfl) rfl ?_
                 all_goals refine tl_nil ?_
                 all_goals (refine hK14 ?_; try (clear hK14; clear K14))
                 all_goals refine tc_ret ?_
                 all_goals (repeat (first | refine tk_then_ret ?_ | refine tk_block_ret ?_))
                 all_goals first | refine tk_ret rfl rfl (.cons (.tmp rfl) .nil) ?_ | refine tk_retM rfl (by repeat constructor) rfl (.cons (.tmp rfl) .nil) ?_
                 all_goals (
                  first
                  | exact fun w' hw' => ⟨by rw [goodN_no (t := t) (i := k) (by omega) (by omega)]; rfl, hw'.fr (by simp)⟩
                  | exact fun w' hw' => ⟨by rw [goodN_yes (t := t) (fun i hi => hg i (by omega))]; rfl, hw'.fr (by simp)⟩)
               · try simp only [decide_eq_true_eq, decide_eq_false_iff_not, Int.not_lt, Int.not_le, Bool.not_eq_true', Bool.not_eq_false', Decidable.not_not, not_true_eq_false] at hc
                 all_goals first | (exfalso; with_reducible exact bft hc) | (exfalso; with_reducible exact btf hc) | (exfalso; omega) | skip
                 all_goals refine tc_skip ?_
                 all_goals (refine hK11 ?_; try (clear hK11; clear K11))
                 all_goals refine tc_region ?_
                 all_goals refine tl_q (y_add rfl rfl (by omega)) rfl ?_
                 all_goals refine tl_q (y_move rfl) rfl ?_
                 all_goals refine tl_nil ?_
                 all_goals (
                  first
                  | exact tk_round 1 ⟨by omega, fun _ => by omega, fun h => by omega⟩ (by omega) (.cons rfl (.cons rfl (.cons rfl (.cons rfl (.cons rfl (.cons rfl (.cons rfl (.cons rfl .nil)))))))) (fun _ h => h.subl (SB.s (by repeat constructor)) (SB.s (by repeat constructor)))
                  | exact tk_round 2 ⟨by omega, fun _ => by omega, fun h => by omega⟩ (by omega) (.cons rfl (.cons rfl (.cons rfl (.cons rfl (.cons rfl (.cons rfl (.cons rfl (.cons rfl .nil)))))))) (fun _ h => h.subl (SB.s (by repeat constructor)) (SB.s (by repeat constructor)))))
            · try simp only [decide_eq_true_eq, decide_eq_false_iff_not, Int.not_lt, Int.not_le, Bool.not_eq_true', Bool.not_eq_false', Decidable.not_not, not_true_eq_false] at hc
              all_goals first | (exfalso; with_reducible exact bft hc) | (exfalso; with_reducible exact btf hc) | (exfalso; omega) | skip
              all_goals refine tc_exit ?_
              all_goals (refine hK6 ?_; try (clear hK6; clear K6))
              all_goals refine tc_region ?_
              all_goals refine tl_q (y_add rfl rfl (by omega)) rfl ?_
              all_goals refine tl_q (y_move rfl) rfl ?_
              all_goals refine tl_nil ?_
              all_goals (
               exact tk_round (k + 1) ⟨by omega, fun i hi => by rcases Nat.lt_succ_iff_lt_or_eq.1 hi with g | rfl; exact hg i g; exact ⟨hj0 (by omega), hj1 (by omega)⟩⟩ (by omega) (.cons rfl (.cons rfl (.cons rfl (.cons rfl .nil)))) (fun _ h => h.subl (SB.s (by repeat constructor)) (SB.s (by repeat constructor))))))
      · try simp only [decide_eq_true_eq, decide_eq_false_iff_not, Int.not_lt, Int.not_le, Bool.not_eq_true', Bool.not_eq_false', Decidable.not_not, not_true_eq_false] at hc
        all_goals first | (exfalso; with_reducible exact bft hc) | (exfalso; with_reducible exact btf hc) | (exfalso; omega) | skip
        all_goals refine tc_exit ?_
        all_goals (refine hK2 ?_; try (clear hK2; clear K2))
        all_goals refine tc_seq fun K15 hK15 => ?_
        all_goals refine tc_region ?_
        all_goals refine tl_q (y_assign rfl) rfl ?_
        all_goals refine tl_nil ?_
        all_goals (refine hK15 ?_; try (clear hK15; clear K15))
        all_goals refine tc_ret ?_
        all_goals (repeat (first | refine tk_then_ret ?_))
        all_goals first | refine tk_ret rfl rfl (.cons (.tmp rfl) .nil) ?_ | refine tk_retM rfl (by repeat constructor) rfl (.cons (.tmp rfl) .nil) ?_
        all_goals (
         first
         | exact fun w' hw' => ⟨by rw [goodN_no (t := t) (i := k) (by omega) (by omega)]; rfl, hw'.fr (by simp)⟩
         | exact fun w' hw' => ⟨by rw [goodN_yes (t := t) (fun i hi => hg i (by omega))]; rfl, hw'.fr (by simp)⟩)))
end Go.Sp
/-
  What the statements about trials are made of: a trial.
-/
namespace Go.Sp
open Go Go.Proofs
abbrev tr9O (t : Tr) (sl pl ll tl : Value) : Obj := .cells #[vi t.s.mass, vi t.s.volume, vi t.s.step, vi t.s.divisions, vi t.s.width, sl, pl, vi t.worst, ll, tl] 38 (0, 0)
abbrev zr9O : Obj := .cells #[vi 0, vi 0, vi 0, vi 0, vi 0, .slice none 0 0, .slice none 0 0, vi 0, .slice none 0 0, .slice none 0 0] 38 (0, 0)
def outOkT : Nat × Option (Nat × Nat × List Value) → Prop
  | (n, none) => n = 0
  | (n, some (_, cap, junk)) => n ≤ cap ∧ junk.length = (cap - n) * 3
theorem takeT_succ {l : List (Int × Int × Int)} {n : Nat} (h : n < l.length) : l.take (n + 1) = l.take n ++ [l.getD n (0, 0, 0)] := by
  rw [List.take_add_one, List.getElem?_eq_getElem h, List.getD_eq_getElem?_getD, List.getElem?_eq_getElem h]; rfl
theorem trial9_c (t : Tr) (hn1 : t.s.weights.length ≤ 1000) (hn2 : t.parts.length ≤ 1000) (hn3 : t.liquids.length ≤ 1000) (hn4 : t.tests.length ≤ 1000) (sl pl ll tl : Value) (w : World) (hr : RdTr w t sl pl ll tl) :
    CnX Tryz.prog 18 #[trV t sl pl ll tl] w [] (fun x : (Option Addr × Nat) × (Option Addr × Nat) × (Option Addr × Nat) × (Option Addr × Nat) => trV t (slV t.s.weights.length x.1) (slV t.parts.length x.2.1) (slV t.liquids.length x.2.2.1) (slV t.tests.length x.2.2.2))
      (fun x w' => RdTr w' t (slV t.s.weights.length x.1) (slV t.parts.length x.2.1) (slV t.liquids.length x.2.2.1) (slV t.tests.length x.2.2.2)) := by
  have hr0 := hr
  obtain ⟨ad1, cp1, c1, o1, rfl, had1, hcell1⟩ := hr.ls.open
  obtain ⟨ad2, cp2, c2, o2, rfl, had2, hcell2⟩ := hr.ts.open
  refine cnx0 (vs := [_]) Tryz.func18 rfl rfl ?_
  all_goals refine tc_seq fun K1 hK1 => ?_
  all_goals refine tc_region ?_
  all_goals refine tl_e (e_box rfl rfl rfl) rfl (fun b1 _ => ?_)
  all_goals refine tl_e (e_allocN rfl) rfl (fun b2 _ => ?_)
  all_goals refine tl_nil ?_
  all_goals (refine hK1 ?_; try (clear hK1; clear K1))
  all_goals (
   refine tc_join (fun z : (World × Nat) × (Option Addr × Nat) × (Option Addr × Nat) => (∀ w', Fr [z.1.2, b2] z.1.1 w' → RdI w' (slV t.s.weights.length z.2.1) t.s.weights) ∧ (∀ w', Fr [z.1.2, b2] z.1.1 w' → RdI w' (slV t.parts.length z.2.2) t.parts) ∧ z.1.1.heap[b1]? = some (.cells (trV t sl pl (.slice ad1 t.liquids.length cp1) (.slice ad2 t.tests.length cp2)).cells 28 (0, 0)) ∧ b1 ∉ [z.1.2, b2]) (fun z => [(1, ptr b1), (2, ptr b2), (3, ptr z.1.2)]) (fun z => [(z.1.1, [z.1.2, b2]), (w, [])]) (fun z => [(z.1.2, tr9O t (slV t.s.weights.length z.2.1) (slV t.parts.length z.2.2) (.slice none 0 0) (.slice none 0 0)), (b2, zr9O)]) ?_ ?_
   · skip
     all_goals refine tc_draw (by kernel_rfl) ?_
     all_goals refine tx_p 0 rfl (by kernel_rfl) (y_field rfl) rfl (fun _ _ _ h => h) (fun _ h => h.subl (SB.s (by repeat constructor)) (SB.s (by repeat constructor))) ?_
     all_goals (refine tx_qS 1 rfl (by kernel_rfl) (y_loadN rfl (by repeat constructor) (by (repeat (first | exact .nil | apply CA.cons rfl)); done)) rfl (fun _ _ _ h => h) (fun _ h => h.subl (SB.s (by repeat constructor)) (SB.s (by repeat constructor))) ?_)
     all_goals refine tx_p 3 rfl (by kernel_rfl) (y_field rfl) rfl (fun _ _ _ h => h) (fun _ h => h.subl (SB.s (by repeat constructor)) (SB.s (by repeat constructor))) ?_
     all_goals (refine tx_qS 4 rfl (by kernel_rfl) (y_load1 rfl (by repeat constructor) (by rfl)) rfl (fun _ _ _ h => h) (fun _ h => h.subl (SB.s (by repeat constructor)) (SB.s (by repeat constructor))) ?_)
     all_goals refine tx_p 6 rfl (by kernel_rfl) (y_field rfl) rfl (fun _ _ _ h => h) (fun _ h => h.subl (SB.s (by repeat constructor)) (SB.s (by repeat constructor))) ?_
     all_goals (refine tx_qS 7 rfl (by kernel_rfl) (y_load1 rfl (by repeat constructor) (by rfl)) rfl (fun _ _ _ h => h) (fun _ h => h.subl (SB.s (by repeat constructor)) (SB.s (by repeat constructor))) ?_)
     all_goals (
      refine tx_pair 2 9 (by kernel_rfl) ?_ ?_
      rotate_left
      focus (
       (refine to_e rfl rfl (e_allocN rfl) (.inr ⟨fun _ _ h => h.subl (SB.s (by repeat constructor)) (SB.s (by repeat constructor)), fun _ h => h⟩) (fun b3 _ => ?_))
       all_goals refine tx_single 2 (by kernel_rfl) (to_e rfl rfl (e_callX rfl (.cons rfl .nil) (fun w' hw' => (spindleN_c t.s hn1 _ w' (hr0.ws.fr (hw'.fr (by simp)))).sep hw')) (.inr ⟨fun _ _ h => h.subl (SB.s (by repeat constructor)) (SB.s (by repeat constructor)), fun _ h => h⟩) (fun y hy => ?_))
       all_goals refine tx_single 5 (by kernel_rfl) (to_e rfl rfl (e_callX rfl (.cons rfl .nil) (fun w' hw' => (list9_c t.parts hn2 _ w' (hr0.ps.fr (hw'.fr (w0 := w) (S := []) (MI.m (by repeat constructor))))).sep hw')) (.inr ⟨fun _ _ h => h.subl (SB.s (by repeat constructor)) (SB.s (by repeat constructor)), fun _ h => h⟩) (fun z hz => ?_))
       all_goals refine tx_p 8 rfl (by kernel_rfl) (y_build_g (by repeat constructor)) rfl (fun _ _ _ h => h) (fun _ h => h.subl (SB.s (by repeat constructor)) (SB.s (by repeat constructor))) ?_
       all_goals refine tx_single 10 (by kernel_rfl) (to_e (S' := HG [] []) rfl rfl (e_storeW rfl rfl (by repeat constructor) (by rfl) (by rfl) (by simp [Value.oneCell'])) (.inl (by kernel_rfl)) (fun _ _ => ?_))
       all_goals refine tx_done (by kernel_rfl) ?_)
      rotate_right
      focus (
       (refine to_e rfl rfl (e_callX rfl (.cons rfl .nil) (fun w' hw' => (spindleN_c t.s hn1 _ w' (hr0.ws.fr (hw'.fr (by simp)))).sep hw')) (.inr ⟨fun _ _ h => h.subl (SB.s (by repeat constructor)) (SB.s (by repeat constructor)), fun _ h => h⟩) (fun y hy => ?_))
       all_goals (
        refine tx_pair 5 9 (by kernel_rfl) ?_ ?_
        rotate_left
        focus (
         (refine to_e rfl rfl (e_allocN rfl) (.inr ⟨fun _ _ h => h.subl (SB.s (by repeat constructor)) (SB.s (by repeat constructor)), fun _ h => h⟩) (fun b3 _ => ?_))
         all_goals refine tx_single 5 (by kernel_rfl) (to_e rfl rfl (e_callX rfl (.cons rfl .nil) (fun w' hw' => (list9_c t.parts hn2 _ w' (hr0.ps.fr (hw'.fr (w0 := w) (S := []) (MI.m (by repeat constructor))))).sep hw')) (.inr ⟨fun _ _ h => h.subl (SB.s (by repeat constructor)) (SB.s (by repeat constructor)), fun _ h => h⟩) (fun z hz => ?_))
         all_goals refine tx_p 8 rfl (by kernel_rfl) (y_build_g (by repeat constructor)) rfl (fun _ _ _ h => h) (fun _ h => h.subl (SB.s (by repeat constructor)) (SB.s (by repeat constructor))) ?_
         all_goals refine tx_single 10 (by kernel_rfl) (to_e (S' := HG [] []) rfl rfl (e_storeW rfl rfl (by repeat constructor) (by rfl) (by rfl) (by simp [Value.oneCell'])) (.inl (by kernel_rfl)) (fun _ _ => ?_))
         all_goals refine tx_done (by kernel_rfl) ?_)
        rotate_right
        focus (
         (refine to_e rfl rfl (e_callX rfl (.cons rfl .nil) (fun w' hw' => (list9_c t.parts hn2 _ w' (hr0.ps.fr (hw'.fr (w0 := w) (S := []) (MI.m (by repeat constructor))))).sep hw')) (.inr ⟨fun _ _ h => h.subl (SB.s (by repeat constructor)) (SB.s (by repeat constructor)), fun _ h => h⟩) (fun z hz => ?_))
         all_goals refine tx_p 8 rfl (by kernel_rfl) (y_build_g (by repeat constructor)) rfl (fun _ _ _ h => h) (fun _ h => h.subl (SB.s (by repeat constructor)) (SB.s (by repeat constructor))) ?_
         all_goals refine tx_single 9 (by kernel_rfl) (to_e rfl rfl (e_allocN rfl) (.inr ⟨fun _ _ h => h.subl (SB.s (by repeat constructor)) (SB.s (by repeat constructor)), fun _ h => h⟩) (fun b3 _ => ?_))
         all_goals refine tx_single 10 (by kernel_rfl) (to_e (S' := HG [] []) rfl rfl (e_storeW rfl rfl (by repeat constructor) (by rfl) (by rfl) (by simp [Value.oneCell'])) (.inl (by kernel_rfl)) (fun _ _ => ?_))
         all_goals refine tx_done (by kernel_rfl) ?_))))
     all_goals (
      refine tk_lay [(b3, tr9O t (slV t.s.weights.length y.1) (slV t.parts.length z.1) (.slice none 0 0) (.slice none 0 0)), (b2, zr9O)] (SB.s (by repeat constructor)) (fun w1 h1 => ?_)
      refine tk_start ((w1, b3), y.1, z.1) ⟨?_, ?_, ?_, ?_⟩ (.cons rfl (.cons rfl (.cons rfl .nil))) (fun _ h => h.subl (SB.s (by repeat constructor)) (SB.s (by repeat constructor)))
      · refine fun w' f => hy.1.1.frS ((h1.fr (w0 := y.2) (MI.m (by repeat constructor))).trans f (fun x hx => ?_)) hy.1.2
        rcases (by simpa using hx : x = b3 ∨ x = b2) with h | h
        · rw [h]; exact h1.own (b3, _) (HM.mem (by repeat constructor)) (y.2, _) (MI.m (by repeat constructor))
        · rw [h]; exact h1.own (b2, _) (HM.mem (by repeat constructor)) (y.2, _) (MI.m (by repeat constructor))
      · refine fun w' f => hz.1.1.frS ((h1.fr (w0 := z.2) (MI.m (by repeat constructor))).trans f (fun x hx => ?_)) hz.1.2
        rcases (by simpa using hx : x = b3 ∨ x = b2) with h | h
        · rw [h]; exact h1.own (b3, _) (HM.mem (by repeat constructor)) (z.2, _) (MI.m (by repeat constructor))
        · rw [h]; exact h1.own (b2, _) (HM.mem (by repeat constructor)) (z.2, _) (MI.m (by repeat constructor))
      · exact h1.heap _ (HM.mem (b := b1) (by repeat constructor))
      · have := h1.nodup; simp at this ⊢; omega)
   · rintro ⟨⟨w1, b3⟩, x1, x2⟩ ⟨hs1, hs2, hb1, hne⟩
     dsimp only at hs1 hs2 hb1 hne ⊢
     all_goals (
      refine tc_join (fun z : World × (Option Addr × Nat) => ∀ w', Fr [b3, b2] z.1 w' → RdR w' (slV t.liquids.length z.2) t.liquids) (fun z => [(1, ptr b1), (2, ptr b2), (3, ptr b3)]) (fun z => [(z.1, [b3, b2]), (w1, [b3, b2]), (w, [])]) (fun z => [(b3, tr9O t (slV t.s.weights.length x1) (slV t.parts.length x2) (slV t.liquids.length z.2) (.slice none 0 0)), (b2, zr9O)]) ?_ ?_
      · skip
        all_goals refine tc_seq fun K2 hK2 => ?_
        all_goals refine tc_region ?_
        all_goals refine tl_q (y_assign rfl) rfl ?_
        all_goals refine tl_nil ?_
        all_goals (refine hK2 ?_; try (clear hK2; clear K2))
        all_goals refine tc_block ?_
        all_goals (
         refine tc_loop (fun p : Nat × Option (Nat × Nat × List Value) => p.1 ≤ t.liquids.length ∧ outOkR (p.1, p.2)) (fun p => [(1, ptr b1), (2, ptr b2), (3, ptr b3), (4, vi p.1)]) (fun _ => [(w1, [b3, b2]), (w, [])]) (fun p => match p.2 with | none => [(b3, tr9O t (slV t.s.weights.length x1) (slV t.parts.length x2) (.slice none 0 0) (.slice none 0 0)), (b2, zr9O)] | some (bo, cap, junk) => [(bo, .cells (flatR (t.liquids.take p.1) ++ junk).toArray 50 (0, 0)), (b3, tr9O t (slV t.s.weights.length x1) (slV t.parts.length x2) (.slice (some ⟨bo, 0, none⟩) p.1 cap) (.slice none 0 0)), (b2, zr9O)]) (fun p => t.liquids.length - p.1) ?_ ?_
         · exact tk_start (0, none) ⟨Nat.zero_le _, rfl⟩ (.cons rfl (.cons rfl (.cons rfl (.cons rfl .nil)))) (fun _ h => h)
         · rintro ⟨n, oo⟩ ⟨hn, hok⟩
           rcases oo with _ | ⟨bo, cap, junk⟩
           all_goals dsimp only [outOkR] at hn hok ⊢
           all_goals refine tc_seq fun K3 hK3 => ?_
           all_goals refine tc_seq fun K4 hK4 => ?_
           all_goals refine tc_region ?_
           all_goals refine tl_q (y_move rfl) rfl ?_
           all_goals refine tl_q (y_field rfl) rfl ?_
           all_goals (refine tl_q (y_load1o rfl (fun w' hw' => cellAt_cell? ((hw'.fr (w0 := w1) (S := [b3, b2]) (MI.m (by repeat constructor))).keeps hne hb1) rfl)) rfl ?_)
           all_goals refine tl_q (y_len rfl) rfl ?_
           all_goals refine tl_q (y_lss rfl rfl) rfl ?_
           all_goals refine tl_nil ?_
           all_goals (refine hK4 ?_; try (clear hK4; clear K4))
           all_goals (
            refine tc_cond rfl (fun hc => ?_) (fun hc => ?_)
            · try simp only [decide_eq_true_eq, decide_eq_false_iff_not, Int.not_lt, Int.not_le, Bool.not_eq_true', Bool.not_eq_false', Decidable.not_not, not_true_eq_false] at hc
              all_goals first | (exfalso; with_reducible exact bft hc) | (exfalso; with_reducible exact btf hc) | (exfalso; omega) | skip
              all_goals refine tc_skip ?_
              all_goals (refine hK3 ?_; try (clear hK3; clear K3))
              all_goals refine tc_seq fun K5 hK5 => ?_
              all_goals refine tc_block ?_
              all_goals (have had1' := had1 (by omega); have hlen : (flatR (t.liquids.take n)).length = n * 2 := by rw [flatR_len, List.length_take]; omega)
              all_goals refine tc_drawS (by first | exact [(b3, tr9O t (slV t.s.weights.length x1) (slV t.parts.length x2) (.slice (some ⟨bo, 0, none⟩) n cap) (.slice none 0 0))] | exact [(b3, tr9O t (slV t.s.weights.length x1) (slV t.parts.length x2) (.slice none 0 0) (.slice none 0 0))]) (by kernel_rfl) ?_
              all_goals refine tx_p 0 rfl (by kernel_rfl) (y_field rfl) rfl (fun _ _ _ h => h) (fun _ h => h.subl (SB.s (by repeat constructor)) (SB.s (by repeat constructor))) ?_
              all_goals (refine tx_qS 1 rfl (by kernel_rfl) (y_load1 rfl (by repeat constructor) (by rfl)) rfl (fun _ _ _ h => h) (fun _ h => h.subl (SB.s (by repeat constructor)) (SB.s (by repeat constructor))) ?_)
              all_goals refine tx_p 2 rfl (by kernel_rfl) (y_field rfl) rfl (fun _ _ _ h => h) (fun _ h => h.subl (SB.s (by repeat constructor)) (SB.s (by repeat constructor))) ?_
              all_goals (refine tx_qS 3 rfl (by kernel_rfl) (y_load1o rfl (fun w' hw' => cellAt_cell? ((hw'.fr (w0 := w1) (S := [b3, b2]) (MI.m (by repeat constructor))).keeps hne hb1) rfl)) rfl (fun _ _ _ h => h) (fun _ h => h.subl (SB.s (by repeat constructor)) (SB.s (by repeat constructor))) ?_)
              all_goals refine tx_p 4 rfl (by kernel_rfl) (y_move rfl) rfl (fun _ _ _ h => h) (fun _ h => h.subl (SB.s (by repeat constructor)) (SB.s (by repeat constructor))) ?_
              all_goals (refine tx_p 5 rfl (by kernel_rfl) (y_index rfl rfl (by omega) had1') rfl (fun _ _ _ h => h) (fun _ h => h.subl (SB.s (by repeat constructor)) (SB.s (by repeat constructor))) ?_)
              all_goals (refine tx_qS 6 rfl (by kernel_rfl) (y_loadNo rfl (fun w' hw' => hcell1 w' [] (hw'.fr (w0 := w) (S := []) (MI.m (by repeat constructor))) (by simp) (Int.toNat n) (by omega))) rfl (fun _ _ _ h => h) (fun _ h => h.subl (SB.s (by repeat constructor)) (SB.s (by repeat constructor))) ?_)
              all_goals refine tx_single 7 (by kernel_rfl) (to_e rfl rfl (e_callV rfl (.cons rfl .nil) (fun w' _ => to9_c (t.liquids.getD n (0, 0)) w')) (.inr ⟨fun _ _ h => h.subl (SB.s (by repeat constructor)) (SB.s (by repeat constructor)), fun _ h => h⟩) (fun _ _ => ?_))
              all_goals (refine tx_single 8 (by kernel_rfl) (to_e rfl rfl (e_bslice rfl (by (repeat (first | exact .nil | apply PV.two rfl)); done) rfl rfl) (.inr ⟨fun _ _ h => h.subl (SB.s (by repeat constructor)) (SB.s (by repeat constructor)), fun _ h => h⟩) (fun _ _ => ?_)))
              all_goals (first | refine tx_single 9 (by kernel_rfl) (to_e rfl rfl (e_append_own (old := flatR (t.liquids.take n)) (junk := junk) rfl rfl rfl (by repeat constructor) (by rw [hlen]) (by omega) hok.1 (fun w' hw' => RdR.own0 (xs := [t.liquids.getD n (0, 0)]) hw' (by repeat constructor)) (flatR_one _) (by simp only [List.length_cons, List.length_nil]; omega) rfl) (.inr ⟨fun _ _ h => h.subl (SB.s (by repeat constructor)) (SB.s (by repeat constructor)), fun _ h => h⟩) (fun y hy => ?_)) | refine tx_single 9 (by kernel_rfl) (to_e rfl rfl (e_append_nil rfl rfl rfl (fun w' hw' => RdR.own0 (xs := [t.liquids.getD n (0, 0)]) hw' (by repeat constructor)) (flatR_one _) Nat.zero_lt_one (Nat.le_of_ble_eq_true rfl) rfl) (.inr ⟨fun _ _ h => h.subl (SB.s (by repeat constructor)) (SB.s (by repeat constructor)), fun _ h => h⟩) (fun y hy => ?_)))
              all_goals refine tx_p 10 rfl (by kernel_rfl) (y_field rfl) rfl (fun _ _ _ h => h) (fun _ h => h.subl (SB.s (by repeat constructor)) (SB.s (by repeat constructor))) ?_
              all_goals refine tx_single 11 (by kernel_rfl) (to_e (S' := HG [] []) rfl rfl (e_store1 rfl rfl (by repeat constructor) (by repeat constructor) (by rfl) (by rfl)) (.inl (by kernel_rfl)) (fun _ _ => ?_))
              all_goals refine tx_done (by kernel_rfl) ?_
              all_goals (refine hK5 ?_; try (clear hK5; clear K5))
              all_goals refine tc_region ?_
              all_goals refine tl_q (y_move rfl) rfl ?_
              all_goals refine tl_q (y_add rfl rfl (by omega)) rfl ?_
              all_goals refine tl_q (y_assign rfl) rfl ?_
              all_goals refine tl_nil ?_
              all_goals (
               have hs : flatR (t.liquids.take (n + 1)) = flatR (t.liquids.take n) ++ flatR [t.liquids.getD n (0, 0)] := by rw [take_succ' (by omega), flatR_append]
               refine tk_round (n + 1, some (y.1, y.2.1, y.2.2)) ⟨by dsimp only; omega, ?_⟩ (by dsimp only; omega) (.cons rfl (.cons rfl (.cons rfl (.cons rfl .nil)))) (fun _ h => ?_)
               · dsimp only [outOkR]; simp only [List.length_cons, List.length_nil] at hy ⊢; omega
               · dsimp only; rw [hs]
                 first
                 | (rw [show t.liquids.take n = [] from by rw [hok]; rfl, show flatR [] = [] from rfl, List.nil_append, show n + 1 = ([t.liquids.getD n (0, 0)] : List (Int × Int)).length from by simp only [List.length_cons, List.length_nil]; omega]; exact h.subl (SB.s (by repeat constructor)) (SB.s (by repeat constructor)))
                 | exact h.subl (SB.s (by repeat constructor)) (SB.s (by repeat constructor)))
            · try simp only [decide_eq_true_eq, decide_eq_false_iff_not, Int.not_lt, Int.not_le, Bool.not_eq_true', Bool.not_eq_false', Decidable.not_not, not_true_eq_false] at hc
              all_goals first | (exfalso; with_reducible exact bft hc) | (exfalso; with_reducible exact btf hc) | (exfalso; omega) | skip
              all_goals refine tc_exit ?_
              all_goals (
               have e : n = t.liquids.length := by omega
               subst e
               first
               | (refine tk_lay [(b3, tr9O t (slV t.s.weights.length x1) (slV t.parts.length x2) (.slice (some ⟨bo, 0, none⟩) t.liquids.length cap) (.slice none 0 0)), (b2, zr9O)] (SB.s (by repeat constructor)) (fun w2 h2 => ?_)
                  refine tk_start (w2, some ⟨bo, 0, none⟩, cap) (fun w' f => ?_) (.cons rfl (.cons rfl (.cons rfl .nil))) (fun _ h => h.subl (SB.s (by repeat constructor)) (SB.s (by repeat constructor)))
                  refine Reads.frS (RdR.own (xs := t.liquids) (cap := cap) (junk := junk) (b := bo) h2 (by rw [List.take_length]; exact .head)) f (fun p m c hp => ?_)
                  cases hp
                  have := h2.nodup
                  simp at this ⊢
                  omega)
               | (refine tk_lay [(b3, tr9O t (slV t.s.weights.length x1) (slV t.parts.length x2) (.slice none 0 0) (.slice none 0 0)), (b2, zr9O)] (SB.s (by repeat constructor)) (fun w2 h2 => ?_)
                  refine tk_start (w2, none, 0) (fun w' f => ?_) (.cons rfl (.cons rfl (.cons rfl .nil))) (fun _ h => by unfold slV; dsimp only; rw [hok]; exact h.subl (SB.s (by repeat constructor)) (SB.s (by repeat constructor)))
                  unfold slV
                  rw [hok, List.eq_nil_of_length_eq_zero hok]
                  exact RdR.nil _))))
      · rintro ⟨w2, x3⟩ hs3
        dsimp only at hs3 ⊢
        all_goals refine tc_seq fun K6 hK6 => ?_
        all_goals refine tc_seq fun K7 hK7 => ?_
        all_goals refine tc_region ?_
        all_goals refine tl_q (y_assign rfl) rfl ?_
        all_goals refine tl_nil ?_
        all_goals (refine hK7 ?_; try (clear hK7; clear K7))
        all_goals refine tc_block ?_
        all_goals (
         refine tc_loop (fun p : Nat × Option (Nat × Nat × List Value) => p.1 ≤ t.tests.length ∧ outOkT (p.1, p.2)) (fun p => [(1, ptr b1), (2, ptr b2), (3, ptr b3), (5, vi p.1)]) (fun _ => [(w2, [b3, b2]), (w1, [b3, b2]), (w, [])]) (fun p => match p.2 with | none => [(b3, tr9O t (slV t.s.weights.length x1) (slV t.parts.length x2) (slV t.liquids.length x3) (.slice none 0 0)), (b2, zr9O)] | some (bo, cap, junk) => [(bo, .cells (flatT (t.tests.take p.1) ++ junk).toArray 121 (0, 0)), (b3, tr9O t (slV t.s.weights.length x1) (slV t.parts.length x2) (slV t.liquids.length x3) (.slice (some ⟨bo, 0, none⟩) p.1 cap)), (b2, zr9O)]) (fun p => t.tests.length - p.1) ?_ ?_
         · exact tk_start (0, none) ⟨Nat.zero_le _, rfl⟩ (.cons rfl (.cons rfl (.cons rfl (.cons rfl .nil)))) (fun _ h => h)
         · rintro ⟨n, oo⟩ ⟨hn, hok⟩
           rcases oo with _ | ⟨bo, cap, junk⟩
           all_goals dsimp only [outOkT] at hn hok ⊢
           all_goals refine tc_seq fun K8 hK8 => ?_
           all_goals refine tc_seq fun K9 hK9 => ?_
           all_goals refine tc_region ?_
           all_goals refine tl_q (y_move rfl) rfl ?_
           all_goals refine tl_q (y_field rfl) rfl ?_
           all_goals (refine tl_q (y_load1o rfl (fun w' hw' => cellAt_cell? ((hw'.fr (w0 := w1) (S := [b3, b2]) (MI.m (by repeat constructor))).keeps hne hb1) rfl)) rfl ?_)
           all_goals refine tl_q (y_len rfl) rfl ?_
           all_goals refine tl_q (y_lss rfl rfl) rfl ?_
           all_goals refine tl_nil ?_
           all_goals (refine hK9 ?_; try (clear hK9; clear K9))
           all_goals (
            refine tc_cond rfl (fun hc => ?_) (fun hc => ?_)
            · try simp only [decide_eq_true_eq, decide_eq_false_iff_not, Int.not_lt, Int.not_le, Bool.not_eq_true', Bool.not_eq_false', Decidable.not_not, not_true_eq_false] at hc
              all_goals first | (exfalso; with_reducible exact bft hc) | (exfalso; with_reducible exact btf hc) | (exfalso; omega) | skip
              all_goals refine tc_skip ?_
              all_goals (refine hK8 ?_; try (clear hK8; clear K8))
              all_goals refine tc_seq fun K10 hK10 => ?_
              all_goals refine tc_block ?_
              all_goals (have had2' := had2 (by omega); have hlen : (flatT (t.tests.take n)).length = n * 3 := by rw [flatT_len, List.length_take]; omega)
              all_goals (have hca : ∀ w', Fr [] w w' → w'.cell? ⟨c2, o2 + n * 3, none⟩ = some (vi (t.tests.getD n (0, 0, 0)).1) ∧ w'.cell? ⟨c2, o2 + n * 3 + 1, none⟩ = some (vi (t.tests.getD n (0, 0, 0)).2.1) ∧ w'.cell? ⟨c2, o2 + n * 3 + 2, none⟩ = some (vi (t.tests.getD n (0, 0, 0)).2.2) := fun w' f => ⟨(hcell2 w' [] f (by simp) n (by omega)).get 0 _ rfl, (hcell2 w' [] f (by simp) n (by omega)).get 1 _ rfl, (hcell2 w' [] f (by simp) n (by omega)).get 2 _ rfl⟩)
              all_goals refine tc_drawS (by first | exact [(b3, tr9O t (slV t.s.weights.length x1) (slV t.parts.length x2) (slV t.liquids.length x3) (.slice (some ⟨bo, 0, none⟩) n cap))] | exact [(b3, tr9O t (slV t.s.weights.length x1) (slV t.parts.length x2) (slV t.liquids.length x3) (.slice none 0 0))]) (by kernel_rfl) ?_
              all_goals refine tx_p 0 rfl (by kernel_rfl) (y_field rfl) rfl (fun _ _ _ h => h) (fun _ h => h.subl (SB.s (by repeat constructor)) (SB.s (by repeat constructor))) ?_
              all_goals (refine tx_qS 1 rfl (by kernel_rfl) (y_load1 rfl (by repeat constructor) (by rfl)) rfl (fun _ _ _ h => h) (fun _ h => h.subl (SB.s (by repeat constructor)) (SB.s (by repeat constructor))) ?_)
              all_goals refine tx_p 2 rfl (by kernel_rfl) (y_field rfl) rfl (fun _ _ _ h => h) (fun _ h => h.subl (SB.s (by repeat constructor)) (SB.s (by repeat constructor))) ?_
              all_goals (refine tx_qS 3 rfl (by kernel_rfl) (y_load1o rfl (fun w' hw' => cellAt_cell? ((hw'.fr (w0 := w1) (S := [b3, b2]) (MI.m (by repeat constructor))).keeps hne hb1) rfl)) rfl (fun _ _ _ h => h) (fun _ h => h.subl (SB.s (by repeat constructor)) (SB.s (by repeat constructor))) ?_)
              all_goals refine tx_p 4 rfl (by kernel_rfl) (y_move rfl) rfl (fun _ _ _ h => h) (fun _ h => h.subl (SB.s (by repeat constructor)) (SB.s (by repeat constructor))) ?_
              all_goals (refine tx_p 5 rfl (by kernel_rfl) (y_index rfl rfl (by omega) had2') rfl (fun _ _ _ h => h) (fun _ h => h.subl (SB.s (by repeat constructor)) (SB.s (by repeat constructor))) ?_)
              all_goals refine tx_p 6 rfl (by kernel_rfl) (y_field rfl) rfl (fun _ _ _ h => h) (fun _ h => h.subl (SB.s (by repeat constructor)) (SB.s (by repeat constructor))) ?_
              all_goals (refine tx_qS 7 rfl (by kernel_rfl) (y_load1o (v := vi (t.tests.getD n (0, 0, 0)).1) rfl (fun w' hw' => by rw [show o2 + Int.toNat (n : Int) * 3 + 0 = o2 + n * 3 from by omega]; exact (hca w' (hw'.fr (w0 := w) (S := []) (MI.m (by repeat constructor)))).1)) rfl (fun _ _ _ h => h) (fun _ h => h.subl (SB.s (by repeat constructor)) (SB.s (by repeat constructor))) ?_)
              all_goals refine tx_p 8 rfl (by kernel_rfl) (y_field rfl) rfl (fun _ _ _ h => h) (fun _ h => h.subl (SB.s (by repeat constructor)) (SB.s (by repeat constructor))) ?_
              all_goals (refine tx_qS 9 rfl (by kernel_rfl) (y_load1o rfl (fun w' hw' => cellAt_cell? ((hw'.fr (w0 := w1) (S := [b3, b2]) (MI.m (by repeat constructor))).keeps hne hb1) rfl)) rfl (fun _ _ _ h => h) (fun _ h => h.subl (SB.s (by repeat constructor)) (SB.s (by repeat constructor))) ?_)
              all_goals refine tx_p 10 rfl (by kernel_rfl) (y_move rfl) rfl (fun _ _ _ h => h) (fun _ h => h.subl (SB.s (by repeat constructor)) (SB.s (by repeat constructor))) ?_
              all_goals (refine tx_p 11 rfl (by kernel_rfl) (y_index rfl rfl (by omega) had2') rfl (fun _ _ _ h => h) (fun _ h => h.subl (SB.s (by repeat constructor)) (SB.s (by repeat constructor))) ?_)
              all_goals refine tx_p 12 rfl (by kernel_rfl) (y_field rfl) rfl (fun _ _ _ h => h) (fun _ h => h.subl (SB.s (by repeat constructor)) (SB.s (by repeat constructor))) ?_
              all_goals (refine tx_qS 13 rfl (by kernel_rfl) (y_load1o (v := vi (t.tests.getD n (0, 0, 0)).2.1) rfl (fun w' hw' => by rw [show o2 + Int.toNat (n : Int) * 3 + 1 = o2 + n * 3 + 1 from by omega]; exact (hca w' (hw'.fr (w0 := w) (S := []) (MI.m (by repeat constructor)))).2.1)) rfl (fun _ _ _ h => h) (fun _ h => h.subl (SB.s (by repeat constructor)) (SB.s (by repeat constructor))) ?_)
              all_goals refine tx_p 14 rfl (by kernel_rfl) (y_field rfl) rfl (fun _ _ _ h => h) (fun _ h => h.subl (SB.s (by repeat constructor)) (SB.s (by repeat constructor))) ?_
              all_goals (refine tx_qS 15 rfl (by kernel_rfl) (y_load1o rfl (fun w' hw' => cellAt_cell? ((hw'.fr (w0 := w1) (S := [b3, b2]) (MI.m (by repeat constructor))).keeps hne hb1) rfl)) rfl (fun _ _ _ h => h) (fun _ h => h.subl (SB.s (by repeat constructor)) (SB.s (by repeat constructor))) ?_)
              all_goals refine tx_p 16 rfl (by kernel_rfl) (y_move rfl) rfl (fun _ _ _ h => h) (fun _ h => h.subl (SB.s (by repeat constructor)) (SB.s (by repeat constructor))) ?_
              all_goals (refine tx_p 17 rfl (by kernel_rfl) (y_index rfl rfl (by omega) had2') rfl (fun _ _ _ h => h) (fun _ h => h.subl (SB.s (by repeat constructor)) (SB.s (by repeat constructor))) ?_)
              all_goals refine tx_p 18 rfl (by kernel_rfl) (y_field rfl) rfl (fun _ _ _ h => h) (fun _ h => h.subl (SB.s (by repeat constructor)) (SB.s (by repeat constructor))) ?_
              all_goals (refine tx_qS 19 rfl (by kernel_rfl) (y_load1o (v := vi (t.tests.getD n (0, 0, 0)).2.2) rfl (fun w' hw' => by rw [show o2 + Int.toNat (n : Int) * 3 + 2 = o2 + n * 3 + 2 from by omega]; exact (hca w' (hw'.fr (w0 := w) (S := []) (MI.m (by repeat constructor)))).2.2)) rfl (fun _ _ _ h => h) (fun _ h => h.subl (SB.s (by repeat constructor)) (SB.s (by repeat constructor))) ?_)
              all_goals refine tx_p 20 rfl (by kernel_rfl) (y_build_g (by repeat constructor)) rfl (fun _ _ _ h => h) (fun _ h => h.subl (SB.s (by repeat constructor)) (SB.s (by repeat constructor))) ?_
              all_goals (refine tx_single 21 (by kernel_rfl) (to_e rfl rfl (e_bslice31 rfl rfl) (.inr ⟨fun _ _ h => h.subl (SB.s (by repeat constructor)) (SB.s (by repeat constructor)), fun _ h => h⟩) (fun _ _ => ?_)))
              all_goals (first | refine tx_single 22 (by kernel_rfl) (to_e rfl rfl (e_append_own (old := flatT (t.tests.take n)) (junk := junk) rfl rfl rfl (by repeat constructor) (by rw [hlen]) (by omega) hok.1 (fun w' hw' => RdT.own0 (xs := [t.tests.getD n (0, 0, 0)]) hw' (by repeat constructor)) (flatT_one _) (by simp only [List.length_cons, List.length_nil]; omega) rfl) (.inr ⟨fun _ _ h => h.subl (SB.s (by repeat constructor)) (SB.s (by repeat constructor)), fun _ h => h⟩) (fun y hy => ?_)) | refine tx_single 22 (by kernel_rfl) (to_e rfl rfl (e_append_nil rfl rfl rfl (fun w' hw' => RdT.own0 (xs := [t.tests.getD n (0, 0, 0)]) hw' (by repeat constructor)) (flatT_one _) Nat.zero_lt_one (Nat.le_of_ble_eq_true rfl) rfl) (.inr ⟨fun _ _ h => h.subl (SB.s (by repeat constructor)) (SB.s (by repeat constructor)), fun _ h => h⟩) (fun y hy => ?_)))
              all_goals refine tx_p 23 rfl (by kernel_rfl) (y_field rfl) rfl (fun _ _ _ h => h) (fun _ h => h.subl (SB.s (by repeat constructor)) (SB.s (by repeat constructor))) ?_
              all_goals refine tx_single 24 (by kernel_rfl) (to_e (S' := HG [] []) rfl rfl (e_store1 rfl rfl (by repeat constructor) (by repeat constructor) (by rfl) (by rfl)) (.inl (by kernel_rfl)) (fun _ _ => ?_))
              all_goals refine tx_done (by kernel_rfl) ?_
              all_goals (refine hK10 ?_; try (clear hK10; clear K10))
              all_goals refine tc_region ?_
              all_goals refine tl_q (y_move rfl) rfl ?_
              all_goals refine tl_q (y_add rfl rfl (by omega)) rfl ?_
              all_goals refine tl_q (y_assign rfl) rfl ?_
              all_goals refine tl_nil ?_
              all_goals (
               have hs : flatT (t.tests.take (n + 1)) = flatT (t.tests.take n) ++ flatT [t.tests.getD n (0, 0, 0)] := by rw [takeT_succ (by omega), flatT_append]
               refine tk_round (n + 1, some (y.1, y.2.1, y.2.2)) ⟨by dsimp only; omega, ?_⟩ (by dsimp only; omega) (.cons rfl (.cons rfl (.cons rfl (.cons rfl .nil)))) (fun _ h => ?_)
               · dsimp only [outOkT]; simp only [List.length_cons, List.length_nil] at hy ⊢; omega
               · dsimp only; rw [hs]
                 first
                 | (rw [show t.tests.take n = [] from by rw [hok]; rfl, show flatT [] = [] from rfl, List.nil_append, show n + 1 = ([t.tests.getD n (0, 0, 0)] : List (Int × Int × Int)).length from by simp only [List.length_cons, List.length_nil]; omega]; exact h.subl (SB.s (by repeat constructor)) (SB.s (by repeat constructor)))
                 | exact h.subl (SB.s (by repeat constructor)) (SB.s (by repeat constructor)))
            · try simp only [decide_eq_true_eq, decide_eq_false_iff_not, Int.not_lt, Int.not_le, Bool.not_eq_true', Bool.not_eq_false', Decidable.not_not, not_true_eq_false] at hc
              all_goals first | (exfalso; with_reducible exact bft hc) | (exfalso; with_reducible exact btf hc) | (exfalso; omega) | skip
              all_goals refine tc_exit ?_
              all_goals (refine hK6 ?_; try (clear hK6; clear K6))
              all_goals refine tc_seq fun K11 hK11 => ?_
              all_goals (have e : n = t.tests.length := by omega)
              all_goals subst e
              all_goals refine tc_region ?_
              all_goals (refine tl_q (y_loadW rfl (by repeat constructor) (by rfl)) rfl ?_)
              all_goals refine tl_e (e_storeW rfl rfl (by repeat constructor) (by rfl) (by rfl) (by simp [Value.oneCell'])) rfl (fun _ _ => ?_)
              all_goals refine tl_nil ?_
              all_goals (refine hK11 ?_; try (clear hK11; clear K11))
              all_goals refine tc_ret ?_
              all_goals (repeat (first | refine tk_then_ret ?_))
              all_goals first | refine tk_ret rfl rfl (.cons (.agg inferInstance rfl (by repeat constructor) (by rfl)) .nil) ?_ | refine tk_retM rfl (by repeat constructor) rfl (.cons (.agg inferInstance rfl (by repeat constructor) (by rfl)) .nil) ?_
              all_goals (
               first
               | exact fun w' hw' => ⟨(x1, x2, x3, some ⟨bo, 0, none⟩, cap), rfl, hw'.fr (w0 := w) (S := []) (MI.m (by repeat constructor)), hs1 w' (hw'.fr (MI.m (by repeat constructor))), hs2 w' (hw'.fr (MI.m (by repeat constructor))), hs3 w' (hw'.fr (MI.m (by repeat constructor))), RdT.own (xs := t.tests) (cap := cap) (junk := junk) (b := bo) hw' (by rw [List.take_length]; repeat constructor)⟩
               | exact fun w' hw' => ⟨(x1, x2, x3, none, 0), by unfold slV; rw [hok]; rfl, hw'.fr (w0 := w) (S := []) (MI.m (by repeat constructor)), hs1 w' (hw'.fr (MI.m (by repeat constructor))), hs2 w' (hw'.fr (MI.m (by repeat constructor))), hs3 w' (hw'.fr (MI.m (by repeat constructor))), by unfold slV; rw [hok, List.eq_nil_of_length_eq_zero hok]; exact RdT.nil _⟩)))))
end Go.Sp
