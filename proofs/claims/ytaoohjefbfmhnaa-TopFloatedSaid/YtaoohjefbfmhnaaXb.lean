/-
  Package trial: a test that keeps a number, over a list; the parts of a stem.
-/
import Derived.Test.YtaoohjefbfmhnaaXa
import Derived.Test.YtaoohjefbfmhnaaF
set_option linter.unusedVariables false
set_option linter.unusedSimpArgs false
set_option linter.deprecated false
namespace Go.Sp
open Go Go.Proofs
/-- The number that is kept before the k-th test. -/
def lastAt (l0 : Int) (xs : List Int) (k : Nat) : Int := if k = 0 then l0 else xs.getD (k - 1) 0
theorem lastAt_succ (l0 : Int) (xs : List Int) (k : Nat) : lastAt l0 xs (k + 1) = xs.getD k 0 := by simp [lastAt]
def okAt (q : Int → Int → Bool) (l0 : Int) (xs : List Int) (k : Nat) : Bool := q (lastAt l0 xs k) (xs.getD k 0)
def idxS (q : Int → Int → Bool) (l0 : Int) (xs : List Int) : Int := ((List.range xs.length).find? (okAt q l0 xs)).elim (-1) (fun (k : Nat) => (k : Int))
theorem idxS_hit {q : Int → Int → Bool} {l0 : Int} {xs : List Int} {k : Nat} (hk : k < xs.length) (hp : okAt q l0 xs k = true) (hn : ∀ j, j < k → okAt q l0 xs j = false) : idxS q l0 xs = k := by
  have : (List.range xs.length).find? (okAt q l0 xs) = some k := by
    rw [List.find?_range_eq_some]
    exact ⟨hp, List.mem_range.2 hk, fun j hj => by simp [hn j hj]⟩
  unfold idxS
  rw [this]; rfl
theorem idxS_miss {q : Int → Int → Bool} {l0 : Int} {xs : List Int} (hn : ∀ j, j < xs.length → okAt q l0 xs j = false) : idxS q l0 xs = -1 := by
  have : (List.range xs.length).find? (okAt q l0 xs) = none := by
    rw [List.find?_eq_none]
    intro j hj; simp [hn j (List.mem_range.1 hj)]
  unfold idxS
  rw [this]; rfl
theorem idxS_any (q : Int → Int → Bool) (l0 : Int) (xs : List Int) : decide (0 ≤ idxS q l0 xs) = (List.range xs.length).any (okAt q l0 xs) := by
  unfold idxS
  cases h : (List.range xs.length).find? (okAt q l0 xs) with
  | none =>
    rw [List.find?_eq_none] at h
    symm
    simp only [Option.elim]
    rw [List.any_eq_false.2 (fun x hx => h x hx)]
    rfl
  | some k =>
    have h1 := List.find?_some h
    have h2 := List.mem_of_find?_eq_some h
    rw [List.any_eq_true.2 ⟨k, h2, h1⟩]
    simp [Option.elim]
theorem RdI.at {w : World} {b o cp : Nat} {xs : List Int} (h : RdI w (.slice (some ⟨b, o, none⟩) xs.length cp) xs) {i : Nat} (hi : i < xs.length) : w.cell? ⟨b, o + i, none⟩ = some (vi (xs.getD i 0)) := by
  obtain ⟨_, _, _, _, e, had, hcell⟩ := h.open
  cases e
  cases had (by omega)
  exact hcell w (Fr.refl _ _) i hi
/-- What is asked of a function value that tests a number, and keeps one at b. -/
def TestsS (P : Program) (g : FuncId) (first cap : Array Value) (b : Nat) (q : Int → Int → Bool) (w : World) : Prop :=
  ∀ (x l : Int) (w' : World), Fr [b] w w' → w'.heap[b]? = some (.cells #[vi l] 3 (0, 0)) → CnX P g (first ++ #[vi x] ++ cap) w' [b] (fun _ : Unit => .bool (q l x)) (fun _ w2 => True ∧ w2.heap[b]? = some (.cells #[vi x] 3 (0, 0)))
theorem TestsS.fr {P : Program} {g : FuncId} {first cap : Array Value} {b : Nat} {q : Int → Int → Bool} {w w1 : World} (h : TestsS P g first cap b q w) (f : Fr [b] w w1) : TestsS P g first cap b q w1 := fun x l w' f' hl => h x l w' (f.trans f' (fun x hx => .inl hx)) hl
theorem indexFuncS_c (g : FuncId) [GoFn Try.prog g] (first cap : Array Value) (b : Nat) (q : Int → Int → Bool) (xs : List Int) (hx : (xs.length : Int) ≤ 9000000000000000000) (sl : Value) (w : World) (l0 : Int) (hl : w.heap[b]? = some (.cells #[vi l0] 3 (0, 0))) (hrd : ∀ w', Fr [b] w w' → RdI w' sl xs) (ht : TestsS Try.prog g first cap b q w) :
    CnX Try.prog 88 #[sl, .func (.func g) first cap] w [b] (fun _ : Int => vi (idxS q l0 xs)) (fun z w2 => True ∧ w2.heap[b]? = some (.cells #[vi z] 3 (0, 0))) := by
  obtain ⟨ad, cp, b0, o, rfl, had, _⟩ := (hrd w (Fr.refl _ _)).open
  refine cnxS (vs := [_, _]) (S := [b]) [(b, .cells #[vi l0] 3 (0, 0))] Try.func88 rfl rfl ⟨by simp [hl], by simp, by simp⟩ ?_
  all_goals refine tc_seq fun K1 hK1 => ?_
  all_goals refine tc_region ?_
  all_goals refine tl_q (y_assign rfl) rfl ?_
  all_goals refine tl_nil ?_
  all_goals (refine hK1 ?_; try (clear hK1; clear K1))
  all_goals refine tc_seq fun K2 hK2 => ?_
  all_goals refine tc_seq fun K3 hK3 => ?_
  all_goals refine tc_region ?_
  all_goals refine tl_q (y_move rfl) rfl ?_
  all_goals refine tl_q (y_len rfl) rfl ?_
  all_goals refine tl_q (y_move rfl) rfl ?_
  all_goals refine tl_nil ?_
  all_goals (refine hK3 ?_; try (clear hK3; clear K3))
  all_goals refine tc_block ?_
  all_goals (
   refine tc_loop (fun k : Nat => k ≤ xs.length ∧ ∀ j, j < k → okAt q l0 xs j = false) (fun k => [(0, .slice ad xs.length cp), (1, .func (.func g) first cap), (7, vi xs.length), (8, vi k)]) (fun _ => [(w, [b])]) (fun k => [(b, .cells #[vi (lastAt l0 xs k)] 3 (0, 0))]) (fun k => xs.length - k) ?_ ?_
   · exact tk_start 0 ⟨Nat.zero_le _, fun j hj => absurd hj (Nat.not_lt_zero j)⟩ (.cons rfl (.cons rfl (.cons rfl (.cons rfl .nil)))) (fun _ h => h)
   · rintro k ⟨hk, hj⟩
     all_goals refine tc_seq fun K4 hK4 => ?_
     all_goals refine tc_region ?_
     all_goals refine tl_q (y_lss rfl rfl) rfl ?_
     all_goals refine tl_nil ?_
     all_goals (refine hK4 ?_; try (clear hK4; clear K4))
     all_goals refine tc_seq fun K5 hK5 => ?_
     all_goals (
      refine tc_cond rfl (fun hc => ?_) (fun hc => ?_)
      · try simp only [decide_eq_true_eq, decide_eq_false_iff_not, Int.not_lt, Int.not_le, Bool.not_eq_true', Bool.not_eq_false', Decidable.not_not, not_true_eq_false] at hc
        all_goals first | (exfalso; with_reducible exact bft hc) | (exfalso; with_reducible exact btf hc) | (exfalso; omega) | skip
        all_goals refine tc_skip ?_
        all_goals (refine hK5 ?_; try (clear hK5; clear K5))
        all_goals refine tc_seq fun K6 hK6 => ?_
        all_goals refine tc_block ?_
        all_goals refine tc_seq fun K7 hK7 => ?_
        all_goals refine tc_region ?_
        all_goals refine tl_q (y_move rfl) rfl ?_
        all_goals refine tl_q (y_assign rfl) rfl ?_
        all_goals refine tl_nil ?_
        all_goals (refine hK7 ?_; try (clear hK7; clear K7))
        all_goals refine tc_seq fun K8 hK8 => ?_
        have had' := had (by omega)
        subst had'
        all_goals refine tc_region ?_
        all_goals refine tl_q (y_move rfl) rfl ?_
        all_goals refine tl_q (y_move rfl) rfl ?_
        all_goals refine tl_q (y_move rfl) rfl ?_
        all_goals (refine tl_q (y_index rfl rfl (by omega) rfl) rfl ?_)
        all_goals (refine tl_q (y_load1o (v := vi (xs.getD k 0)) rfl (fun w' hw' => by rw [show Int.toNat (k : Int) * 1 = k from by omega]; exact (hrd w' (hw'.fr (by simp))).at (by omega))) rfl ?_)
        all_goals refine tl_e (e_callUf (val := fun _ : Unit => .bool (okAt q l0 xs k)) (p := fun _ => True) (b := b) (ob := fun _ => .cells #[vi (xs.getD k 0)] 3 (0, 0)) rfl rfl (.cons rfl .nil) (fun w' hw' => ht (xs.getD k 0) _ w' (hw'.fr (by simp)) (hw'.heap _ (HM.mem (by repeat constructor)))) (fun _ => (by repeat constructor))) rfl (fun _ _ => ?_)
        all_goals refine tl_nil ?_
        all_goals (refine hK8 ?_; try (clear hK8; clear K8))
        all_goals (
         refine tc_cond rfl (fun hc => ?_) (fun hc => ?_)
         · try simp only [decide_eq_true_eq, decide_eq_false_iff_not, Int.not_lt, Int.not_le, Bool.not_eq_true', Bool.not_eq_false', Decidable.not_not, not_true_eq_false] at hc
           all_goals first | (exfalso; with_reducible exact bft hc) | (exfalso; with_reducible exact btf hc) | (exfalso; omega) | skip
           all_goals refine tc_seq fun K9 hK9 => ?_
           all_goals refine tc_region ?_
           all_goals refine tl_q (y_move rfl) rfl ?_
           all_goals refine tl_q (y_assign rfl) rfl ?_
           all_goals refine tl_nil ?_
           all_goals (refine hK9 ?_; try (clear hK9; clear K9))
           all_goals refine tc_ret ?_
           all_goals (repeat (first | refine tk_then_ret ?_ | refine tk_block_ret ?_))
           all_goals first | refine tk_ret rfl rfl (.cons (.tmp rfl) .nil) ?_ | refine tk_retM rfl (by repeat constructor) rfl (.cons (.tmp rfl) .nil) ?_
           all_goals (
            first
            | exact fun w' hw' => ⟨xs.getD k 0, by rw [idxS_hit (k := k) (by omega) (by simpa using hc) hj]; rfl, hw'.fr (by simp), trivial, hw'.heap _ (HM.mem (by repeat constructor))⟩
            | exact fun w' hw' => ⟨lastAt l0 xs k, by rw [idxS_miss (fun j hjj => hj j (by omega))]; rfl, hw'.fr (by simp), trivial, hw'.heap _ (HM.mem (by repeat constructor))⟩)
         · try simp only [decide_eq_true_eq, decide_eq_false_iff_not, Int.not_lt, Int.not_le, Bool.not_eq_true', Bool.not_eq_false', Decidable.not_not, not_true_eq_false] at hc
           all_goals first | (exfalso; with_reducible exact bft hc) | (exfalso; with_reducible exact btf hc) | (exfalso; omega) | skip
           all_goals refine tc_skip ?_
           all_goals (refine hK6 ?_; try (clear hK6; clear K6))
           all_goals refine tc_region ?_
           all_goals refine tl_q (y_add rfl rfl (by omega)) rfl ?_
           all_goals refine tl_q (y_move rfl) rfl ?_
           all_goals refine tl_nil ?_
           all_goals (
            exact tk_round (k + 1) ⟨by omega, fun j hj' => by rcases Nat.lt_succ_iff_lt_or_eq.1 hj' with h | rfl; exact hj j h; simpa using hc⟩ (by omega) (.cons rfl (.cons rfl (.cons rfl (.cons rfl .nil)))) (fun _ h => by rw [lastAt_succ]; exact h)))
      · try simp only [decide_eq_true_eq, decide_eq_false_iff_not, Int.not_lt, Int.not_le, Bool.not_eq_true', Bool.not_eq_false', Decidable.not_not, not_true_eq_false] at hc
        all_goals first | (exfalso; with_reducible exact bft hc) | (exfalso; with_reducible exact btf hc) | (exfalso; omega) | skip
        all_goals refine tc_exit ?_
        all_goals (refine hK2 ?_; try (clear hK2; clear K2))
        all_goals refine tc_seq fun K10 hK10 => ?_
        all_goals refine tc_region ?_
        all_goals refine tl_q (y_assign rfl) rfl ?_
        all_goals refine tl_nil ?_
        all_goals (refine hK10 ?_; try (clear hK10; clear K10))
        all_goals refine tc_ret ?_
        all_goals (repeat (first | refine tk_then_ret ?_))
        all_goals first | refine tk_ret rfl rfl (.cons (.tmp rfl) .nil) ?_ | refine tk_retM rfl (by repeat constructor) rfl (.cons (.tmp rfl) .nil) ?_
        all_goals (
         first
         | exact fun w' hw' => ⟨xs.getD k 0, by rw [idxS_hit (k := k) (by omega) (by simpa using hc) hj]; rfl, hw'.fr (by simp), trivial, hw'.heap _ (HM.mem (by repeat constructor))⟩
         | exact fun w' hw' => ⟨lastAt l0 xs k, by rw [idxS_miss (fun j hjj => hj j (by omega))]; rfl, hw'.fr (by simp), trivial, hw'.heap _ (HM.mem (by repeat constructor))⟩)))
theorem containsFuncS_c (g : FuncId) [GoFn Try.prog g] (first cap : Array Value) (b : Nat) (q : Int → Int → Bool) (xs : List Int) (hx : (xs.length : Int) ≤ 9000000000000000000) (sl : Value) (w : World) (l0 : Int) (hl : w.heap[b]? = some (.cells #[vi l0] 3 (0, 0))) (hrd : ∀ w', Fr [b] w w' → RdI w' sl xs) (ht : TestsS Try.prog g first cap b q w) :
    CnX Try.prog 80 #[sl, .func (.func g) first cap] w [b] (fun _ : Int => .bool ((List.range xs.length).any (okAt q l0 xs))) (fun z w2 => True ∧ w2.heap[b]? = some (.cells #[vi z] 3 (0, 0))) := by
  refine cnxS (vs := [_, _]) (S := [b]) [(b, .cells #[vi l0] 3 (0, 0))] Try.func80 rfl rfl ⟨by simp [hl], by simp, by simp⟩ ?_
  all_goals refine tc_seq fun K1 hK1 => ?_
  all_goals refine tc_region ?_
  all_goals refine tl_q (y_assign rfl) rfl ?_
  all_goals refine tl_nil ?_
  all_goals (refine hK1 ?_; try (clear hK1; clear K1))
  all_goals refine tc_seq fun K2 hK2 => ?_
  all_goals refine tc_region ?_
  all_goals refine tl_q (y_move rfl) rfl ?_
  all_goals refine tl_q (y_move rfl) rfl ?_
  all_goals refine tl_e (e_callU (ob := fun z : Int => .cells #[vi z] 3 (0, 0)) rfl (.cons rfl (.cons rfl .nil)) (fun w' hw' => indexFuncS_c g first cap b q xs hx _ w' l0 (hw'.heap _ (HM.mem (by repeat constructor))) (fun w2 f => hrd w2 ((hw'.fr (w0 := w) (S := [b]) (by simp)).trans f (fun x hx => .inl hx))) (ht.fr (hw'.fr (by simp)))) (fun _ => (by repeat constructor))) rfl (fun z hz => ?_)
  all_goals refine tl_q (y_geq rfl rfl) rfl ?_
  all_goals refine tl_q (y_assign rfl) rfl ?_
  all_goals refine tl_nil ?_
  all_goals (refine hK2 ?_; try (clear hK2; clear K2))
  all_goals refine tc_ret ?_
  all_goals (repeat (first | refine tk_then_ret ?_))
  all_goals first | refine tk_ret rfl rfl (.cons (.tmp rfl) .nil) ?_ | refine tk_retM rfl (by repeat constructor) rfl (.cons (.tmp rfl) .nil) ?_
  all_goals (
   exact fun w' hw' => ⟨z, by rw [← idxS_any]; rfl, hw'.fr (by simp), trivial, hw'.heap _ (HM.mem (by repeat constructor))⟩)
theorem allS1_c (g : FuncId) [GoFn Try.prog g] (first cap : Array Value) (b bp : Nat) (hne : bp ≠ b) (q : Int → Int → Bool) (w : World) (hb : w.heap[bp]? = some (.cells #[.func (.func g) first cap] 98 (0, 0))) (ht : TestsS Try.prog g first cap b q w) :
    TestsS Try.prog 85 #[] #[ptr bp] b (fun l x => !(q l x)) w := by
  intro x l w1 f1 hl
  have hb1 := f1.keepS (by simpa using hne) hb
  rw [show (#[] ++ #[vi x] ++ #[ptr bp] : Array Value) = #[vi x, ptr bp] from by simp]
  refine cnxS (vs := [_, _]) (S := [b]) [(b, .cells #[vi l] 3 (0, 0))] Try.func85 rfl rfl ⟨by simp [hl], by simp, by simp⟩ ?_
  all_goals refine tc_seq fun K1 hK1 => ?_
  all_goals refine tc_region ?_
  all_goals refine tl_q (y_assign rfl) rfl ?_
  all_goals refine tl_nil ?_
  all_goals (refine hK1 ?_; try (clear hK1; clear K1))
  all_goals refine tc_seq fun K2 hK2 => ?_
  all_goals refine tc_region ?_
  all_goals (refine tl_q (y_load1o rfl (fun w' hw' => cell0 ((hw'.fr (w0 := w1) (S := [b]) (by simp)).keepS (by simpa using hne) hb1) rfl)) rfl ?_)
  all_goals refine tl_q (y_move rfl) rfl ?_
  all_goals refine tl_e (e_callUf (val := fun _ : Unit => .bool (q l x)) (p := fun _ => True) (b := b) (ob := fun _ => .cells #[vi x] 3 (0, 0)) rfl rfl (.cons rfl .nil) (fun w' hw' => ht x l w' (f1.trans (hw'.fr (w0 := w1) (S := [b]) (by simp)) (fun x hx => .inl hx)) (hw'.heap _ (HM.mem (by repeat constructor)))) (fun _ => (by repeat constructor))) rfl (fun _ _ => ?_)
  all_goals (refine tl_q (y_not rfl) rfl ?_)
  all_goals refine tl_q (y_assign rfl) rfl ?_
  all_goals refine tl_nil ?_
  all_goals (refine hK2 ?_; try (clear hK2; clear K2))
  all_goals refine tc_ret ?_
  all_goals (repeat (first | refine tk_then_ret ?_))
  all_goals first | refine tk_ret rfl rfl (.cons (.tmp rfl) .nil) ?_ | refine tk_retM rfl (by repeat constructor) rfl (.cons (.tmp rfl) .nil) ?_
  all_goals (
   exact fun w' hw' => ⟨(), rfl, hw'.fr (by simp), trivial, hw'.heap _ (HM.mem (by repeat constructor))⟩)
def allS (q : Int → Int → Bool) (l0 : Int) (xs : List Int) : Bool := (List.range xs.length).all (okAt q l0 xs)
theorem allS_c (g : FuncId) [GoFn Try.prog g] (first cap : Array Value) (b : Nat) (q : Int → Int → Bool) (xs : List Int) (hx : (xs.length : Int) ≤ 9000000000000000000) (sl : Value) (w : World) (l0 : Int) (hl : w.heap[b]? = some (.cells #[vi l0] 3 (0, 0))) (hrd : ∀ w', Fr [b] w w' → RdI w' sl xs) (ht : TestsS Try.prog g first cap b q w) :
    CnX Try.prog 73 #[sl, .func (.func g) first cap] w [b] (fun _ : Int => .bool (allS q l0 xs)) (fun z w2 => True ∧ w2.heap[b]? = some (.cells #[vi z] 3 (0, 0))) := by
  refine cnxS (vs := [_, _]) (S := [b]) [(b, .cells #[vi l0] 3 (0, 0))] Try.func73 rfl rfl ⟨by simp [hl], by simp, by simp⟩ ?_
  all_goals refine tc_seq fun K1 hK1 => ?_
  all_goals refine tc_region ?_
  all_goals refine tl_e (e_box rfl rfl rfl) rfl (fun bp _ => ?_)
  all_goals refine tl_q (y_assign rfl) rfl ?_
  all_goals refine tl_nil ?_
  all_goals (refine hK1 ?_; try (clear hK1; clear K1))
  all_goals refine tc_seq fun K2 hK2 => ?_
  all_goals refine tc_region ?_
  all_goals refine tl_q (y_move rfl) rfl ?_
  all_goals refine tl_q (y_fn .nil (.cons rfl .nil)) rfl ?_
  all_goals refine tl_e (e_callU (ob := fun z : Int => .cells #[vi z] 3 (0, 0)) rfl (.cons rfl (.cons rfl .nil)) (fun w' hw' => containsFuncS_c 85 #[] #[ptr bp] b (fun l x => !(q l x)) xs hx _ w' l0 (hw'.heap _ (HM.mem (by repeat constructor))) (fun w2 f => hrd w2 ((hw'.fr (w0 := w) (S := [b]) (by simp)).trans f (fun x hx => .inl hx))) (allS1_c g first cap b bp (by have := hw'.nodup; simp at this; omega) q w' (hw'.heap _ (HM.mem (by repeat constructor))) (ht.fr (hw'.fr (by simp))))) (fun _ => (by repeat constructor))) rfl (fun z hz => ?_)
  all_goals (refine tl_q (y_not rfl) rfl ?_)
  all_goals refine tl_q (y_assign rfl) rfl ?_
  all_goals refine tl_nil ?_
  all_goals (refine hK2 ?_; try (clear hK2; clear K2))
  all_goals refine tc_ret ?_
  all_goals (repeat (first | refine tk_then_ret ?_))
  all_goals first | refine tk_ret rfl rfl (.cons (.tmp rfl) .nil) ?_ | refine tk_retM rfl (by repeat constructor) rfl (.cons (.tmp rfl) .nil) ?_
  all_goals (
   exact fun w' hw' => ⟨z, by unfold allS; rw [List.all_eq_not_any_not]; rfl, hw'.fr (by simp), trivial, hw'.heap _ (HM.mem (by repeat constructor))⟩)
end Go.Sp
