/-
  Readings: what is valid, and what they narrow.
-/
import Derived.Test.YtaoohjefbfmhnaaD
set_option linter.unusedVariables false
set_option linter.unusedSimpArgs false
set_option linter.deprecated false
namespace Go.Sp
open Go Go.Proofs

abbrev rdV (r : Int × Int) : Value := .agg #[vi r.1, vi r.2]
def flatR (l : List (Int × Int)) : List Value := l.flatMap fun r => [vi r.1, vi r.2]
/-- A slice that reads as readings. -/
def RdR (w : World) (v : Value) (l : List (Int × Int)) : Prop := Reads w v 2 l.length (flatR l)
theorem Reads.frS {w w' : World} {v : Value} {sz n : Nat} {vs : List Value} {S : List Nat} (h : Reads w v sz n vs) (f : Fr S w w') (hS : ∀ p m c, v = .slice (some p) m c → p.block ∉ S) : Reads w' v sz n vs := by
  obtain ⟨h1, ad, cap, h2, h3⟩ := h
  refine ⟨h1, ad, cap, h2, fun hn => ?_⟩
  obtain ⟨b, o, h4, h5⟩ := h3 hn
  refine ⟨b, o, h4, ?_⟩
  have hb : b ∉ S := hS ⟨b, o, none⟩ n cap (by rw [h2, h4])
  clear h1 h2 h3 h4 hn
  generalize n * sz = q at h5
  induction h5 with
  | nil => exact .nil
  | cons hv _ ih => exact .cons (f.cell (p := ⟨b, _, none⟩) hb hv) ih
theorem RdR.fr {w w' : World} {v : Value} {l : List (Int × Int)} (h : RdR w v l) (f : Fr [] w w') : RdR w' v l := Reads.frS h f (by simp)
theorem RdR.one {w : World} {v : Value} {l : List (Int × Int)} (h : RdR w v l) : v.oneCell' = true := by obtain ⟨_, ad, cap, rfl, _⟩ := h; rfl
theorem flatR_get (l : List (Int × Int)) : ∀ (i : Nat), i < l.length → (flatR l)[2 * i]? = some (vi (l.getD i (0, 0)).1) ∧ (flatR l)[2 * i + 1]? = some (vi (l.getD i (0, 0)).2) := by
  induction l with
  | nil => intro i hi; simp at hi
  | cons r l ih =>
    intro i hi
    cases i with
    | zero => simp [flatR]
    | succ i =>
      have := ih i (by simpa using hi)
      have e1 : 2 * (i + 1) = 2 * i + 1 + 1 := by omega
      simp only [flatR, List.flatMap_cons, List.cons_append, List.nil_append, e1, List.getElem?_cons_succ, List.getD_cons_succ]
      exact this
/-- A slice of readings, laid open. -/
theorem RdR.open {w : World} {v : Value} {l : List (Int × Int)} (h : RdR w v l) : ∃ ad cap b o, v = .slice ad l.length cap ∧ (0 < l.length → ad = some ⟨b, o, none⟩) ∧ ∀ w' S, Fr S w w' → b ∉ S → ∀ i, i < l.length → CA (fun k => w'.cell? ⟨b, k, none⟩) (o + i * 2) 2 [vi (l.getD i (0, 0)).1, vi (l.getD i (0, 0)).2] := by
  by_cases hn : l.length = 0
  · obtain ⟨_, ad, cap, h2, _⟩ := h
    exact ⟨ad, cap, 0, 0, h2, fun h => by omega, fun _ _ _ _ i hi => by omega⟩
  · obtain ⟨_, ad, cap, h2, h3⟩ := h
    obtain ⟨b, o, h4, h5⟩ := h3 hn
    refine ⟨ad, cap, b, o, h2, fun _ => h4, fun w' S f hb i hi => ?_⟩
    obtain ⟨g1, g2⟩ := flatR_get l i hi
    have c1 := h5.get _ _ g1
    have c2 := h5.get _ _ g2
    refine .cons (f.cell (p := ⟨b, o + i * 2, none⟩) hb (by rw [show o + i * 2 = o + 2 * i by omega]; exact c1)) (.cons (f.cell (p := ⟨b, o + i * 2 + 1, none⟩) hb (by rw [show o + i * 2 + 1 = o + (2 * i + 1) by omega]; exact c2)) .nil)
def idxR (xs : List (Int × Int)) (p : Int × Int → Bool) : Int := if xs.any p then (xs.findIdx p : Int) else -1
theorem idxR_hit {xs : List (Int × Int)} {p : Int × Int → Bool} {k : Nat} (hk : k < xs.length) (hp : p (xs.getD k (0, 0)) = true) (hn : ∀ j, j < k → p (xs.getD j (0, 0)) = false) : idxR xs p = k := by
  rw [List.getD_eq_getElem?_getD, List.getElem?_eq_getElem hk] at hp
  simp only [Option.getD_some] at hp
  have h1 : xs.any p = true := List.any_eq_true.2 ⟨_, List.getElem_mem hk, hp⟩
  unfold idxR
  rw [if_pos h1]
  have : xs.findIdx p = k := by
    apply (List.findIdx_eq hk).2
    refine ⟨hp, fun j hj => ?_⟩
    have := hn j hj
    rw [List.getD_eq_getElem?_getD, List.getElem?_eq_getElem (Nat.lt_trans hj hk)] at this
    simpa using this
  rw [this]
theorem idxR_miss {xs : List (Int × Int)} {p : Int × Int → Bool} (hn : ∀ j, j < xs.length → p (xs.getD j (0, 0)) = false) : idxR xs p = -1 := by
  unfold idxR
  rw [if_neg]
  intro h
  obtain ⟨x, hx, hp⟩ := List.any_eq_true.1 h
  obtain ⟨j, hj, rfl⟩ := List.getElem_of_mem hx
  have := hn j hj
  rw [List.getD_eq_getElem?_getD, List.getElem?_eq_getElem hj] at this
  simp only [Option.getD_some] at this
  rw [this] at hp; cases hp
theorem idxR_any (xs : List (Int × Int)) (p : Int × Int → Bool) : decide (0 ≤ idxR xs p) = xs.any p := by
  unfold idxR
  cases h : xs.any p
  · simp
  · simp
def TestsR (P : Program) (g : FuncId) (first cap : Array Value) (p : Int × Int → Bool) (w : World) : Prop := ∀ (x : Int × Int) (w' : World), Fr [] w w' → CnV P g (first ++ #[rdV x] ++ cap) w' (.bool (p x))
theorem TestsR.fr {P : Program} {g : FuncId} {first cap : Array Value} {p : Int × Int → Bool} {w w1 : World} (h : TestsR P g first cap p w) (f : Fr [] w w1) : TestsR P g first cap p w1 := fun x w' f' => h x w' (f.trans f' (by simp))
theorem indexFuncR_c (g : FuncId) [GoFn Try.prog g] (first cap : Array Value) (p : Int × Int → Bool) (xs : List (Int × Int)) (hx : (xs.length : Int) ≤ 9000000000000000000) (sl : Value) (w : World) (hr : RdR w sl xs) (ht : TestsR Try.prog g first cap p w) :
    CnV Try.prog 82 #[sl, .func (.func g) first cap] w (vi (idxR xs p)) := by
  obtain ⟨ad, cp, b0, o, rfl, had, hcell⟩ := hr.open
  refine cnv (vs := [_, _]) Try.func82 rfl rfl ?_
  all_goals refine tc_seq fun K1 hK1 => ?_
  all_goals refine tc_region ?_
  all_goals refine tl_q (y_assign rfl) rfl ?_
  all_goals refine tl_nil ?_
  all_goals (refine hK1 ?_; try (clear hK1; clear K1))
  all_goals refine tc_seq fun K2 hK2 => ?_
  all_goals refine tc_seq fun K3 hK3 => ?_
  all_goals refine tc_region ?_
  all_goals refine tl_q (y_move rfl) rfl ?_
  all_goals refine tl_q (y_len rfl) rfl ?_
  all_goals refine tl_q (y_move rfl) rfl ?_
  all_goals refine tl_nil ?_
  all_goals (refine hK3 ?_; try (clear hK3; clear K3))
  all_goals refine tc_block ?_
  all_goals (
   refine tc_loop (fun k : Nat => k ≤ xs.length ∧ ∀ j, j < k → p (xs.getD j (0, 0)) = false) (fun k => [(0, .slice ad xs.length cp), (1, .func (.func g) first cap), (7, vi xs.length), (8, vi k)]) (fun _ => [(w, [])]) (fun _ => []) (fun k => xs.length - k) ?_ ?_
   · exact tk_start 0 ⟨Nat.zero_le _, fun j hj => absurd hj (Nat.not_lt_zero j)⟩ (.cons rfl (.cons rfl (.cons rfl (.cons rfl .nil)))) (fun _ h => h)
   · rintro k ⟨hk, hj⟩
     all_goals refine tc_seq fun K4 hK4 => ?_
     all_goals refine tc_region ?_
     all_goals refine tl_q (y_lss rfl rfl) rfl ?_
     all_goals refine tl_nil ?_
     all_goals (refine hK4 ?_; try (clear hK4; clear K4))
     all_goals refine tc_seq fun K5 hK5 => ?_
     all_goals (
      refine tc_cond rfl (fun hc => ?_) (fun hc => ?_)
      · try simp only [decide_eq_true_eq, decide_eq_false_iff_not, Int.not_lt, Int.not_le, Bool.not_eq_true', Bool.not_eq_false', Decidable.not_not, not_true_eq_false] at hc
        all_goals first | (exfalso; with_reducible exact bft hc) | (exfalso; with_reducible exact btf hc) | (exfalso; omega) | skip
        all_goals refine tc_skip ?_
        all_goals (refine hK5 ?_; try (clear hK5; clear K5))
        all_goals refine tc_seq fun K6 hK6 => ?_
        all_goals refine tc_block ?_
        all_goals refine tc_seq fun K7 hK7 => ?_
        all_goals refine tc_region ?_
        all_goals refine tl_q (y_move rfl) rfl ?_
        all_goals refine tl_q (y_assign rfl) rfl ?_
        all_goals refine tl_nil ?_
        all_goals (refine hK7 ?_; try (clear hK7; clear K7))
        all_goals refine tc_seq fun K8 hK8 => ?_
        have had' := had (by omega)
        all_goals refine tc_region ?_
        all_goals refine tl_q (y_move rfl) rfl ?_
        all_goals refine tl_q (y_move rfl) rfl ?_
        all_goals refine tl_q (y_move rfl) rfl ?_
        all_goals (refine tl_q (y_index rfl rfl (by omega) had') rfl ?_)
        all_goals (refine tl_q (y_loadNo rfl (fun w' hw' => hcell w' [] (hw'.fr (by simp)) (by simp) (Int.toNat k) (by omega))) rfl ?_)
        all_goals refine tl_e (e_callVf rfl rfl (.cons rfl .nil) (fun w' hw' => ht (xs.getD (Int.toNat k) (0, 0)) w' (hw'.fr (by simp)))) rfl (fun _ _ => ?_)
        all_goals refine tl_nil ?_
        all_goals (refine hK8 ?_; try (clear hK8; clear K8))
        all_goals (
         refine tc_cond rfl (fun hc => ?_) (fun hc => ?_)
         · try simp only [decide_eq_true_eq, decide_eq_false_iff_not, Int.not_lt, Int.not_le, Bool.not_eq_true', Bool.not_eq_false', Decidable.not_not, not_true_eq_false] at hc
           all_goals first | (exfalso; with_reducible exact bft hc) | (exfalso; with_reducible exact btf hc) | (exfalso; omega) | skip
           all_goals refine tc_seq fun K9 hK9 => ?_
           all_goals refine tc_region ?_
           all_goals refine tl_q (y_move rfl) rfl ?_
           all_goals refine tl_q (y_assign rfl) rfl ?_
           all_goals refine tl_nil ?_
           all_goals (refine hK9 ?_; try (clear hK9; clear K9))
           all_goals refine tc_ret ?_
           all_goals (repeat (first | refine tk_then_ret ?_ | refine tk_block_ret ?_))
           all_goals first | refine tk_ret rfl rfl (.cons (.tmp rfl) .nil) ?_ | refine tk_retM rfl (by repeat constructor) rfl (.cons (.tmp rfl) .nil) ?_
           all_goals (
            first | exact fun w' hw' => ⟨by rw [idxR_hit (k := k) (by omega) (by simpa using hc) hj]; rfl, hw'.fr (by simp)⟩ | exact fun w' hw' => ⟨by rw [idxR_miss (fun j hjj => hj j (by omega))]; rfl, hw'.fr (by simp)⟩)
         · try simp only [decide_eq_true_eq, decide_eq_false_iff_not, Int.not_lt, Int.not_le, Bool.not_eq_true', Bool.not_eq_false', Decidable.not_not, not_true_eq_false] at hc
           all_goals first | (exfalso; with_reducible exact bft hc) | (exfalso; with_reducible exact btf hc) | (exfalso; omega) | skip
           all_goals refine tc_skip ?_
           all_goals (refine hK6 ?_; try (clear hK6; clear K6))
           all_goals refine tc_region ?_
           all_goals refine tl_q (y_add rfl rfl (by omega)) rfl ?_
           all_goals refine tl_q (y_move rfl) rfl ?_
           all_goals refine tl_nil ?_
           all_goals (
            exact tk_round (k + 1) ⟨by omega, fun j hj' => by rcases Nat.lt_succ_iff_lt_or_eq.1 hj' with h | rfl; exact hj j h; simpa using hc⟩ (by omega) (.cons rfl (.cons rfl (.cons rfl (.cons rfl .nil)))) (fun _ h => h)))
      · try simp only [decide_eq_true_eq, decide_eq_false_iff_not, Int.not_lt, Int.not_le, Bool.not_eq_true', Bool.not_eq_false', Decidable.not_not, not_true_eq_false] at hc
        all_goals first | (exfalso; with_reducible exact bft hc) | (exfalso; with_reducible exact btf hc) | (exfalso; omega) | skip
        all_goals refine tc_exit ?_
        all_goals (refine hK2 ?_; try (clear hK2; clear K2))
        all_goals refine tc_seq fun K10 hK10 => ?_
        all_goals refine tc_region ?_
        all_goals refine tl_q (y_assign rfl) rfl ?_
        all_goals refine tl_nil ?_
        all_goals (refine hK10 ?_; try (clear hK10; clear K10))
        all_goals refine tc_ret ?_
        all_goals (repeat (first | refine tk_then_ret ?_))
        all_goals first | refine tk_ret rfl rfl (.cons (.tmp rfl) .nil) ?_ | refine tk_retM rfl (by repeat constructor) rfl (.cons (.tmp rfl) .nil) ?_
        all_goals (
         first | exact fun w' hw' => ⟨by rw [idxR_hit (k := k) (by omega) (by simpa using hc) hj]; rfl, hw'.fr (by simp)⟩ | exact fun w' hw' => ⟨by rw [idxR_miss (fun j hjj => hj j (by omega))]; rfl, hw'.fr (by simp)⟩)))
theorem containsFuncR_c (g : FuncId) [GoFn Try.prog g] (first cap : Array Value) (p : Int × Int → Bool) (xs : List (Int × Int)) (hx : (xs.length : Int) ≤ 9000000000000000000) (sl : Value) (w : World) (hr : RdR w sl xs) (ht : TestsR Try.prog g first cap p w) :
    CnV Try.prog 60 #[sl, .func (.func g) first cap] w (.bool (xs.any p)) := by
  refine cnv (vs := [_, _]) Try.func60 rfl rfl ?_
  all_goals refine tc_seq fun K1 hK1 => ?_
  all_goals refine tc_region ?_
  all_goals refine tl_q (y_assign rfl) rfl ?_
  all_goals refine tl_nil ?_
  all_goals (refine hK1 ?_; try (clear hK1; clear K1))
  all_goals refine tc_seq fun K2 hK2 => ?_
  all_goals refine tc_region ?_
  all_goals refine tl_q (y_move rfl) rfl ?_
  all_goals refine tl_q (y_move rfl) rfl ?_
  all_goals refine tl_e (e_callV rfl (.cons rfl (.cons rfl .nil)) (fun w' hw' => indexFuncR_c g first cap p xs hx _ w' (hr.fr (hw'.fr (by simp))) (ht.fr (hw'.fr (by simp))))) rfl (fun _ _ => ?_)
  all_goals refine tl_q (y_geq rfl rfl) rfl ?_
  all_goals refine tl_q (y_assign rfl) rfl ?_
  all_goals refine tl_nil ?_
  all_goals (refine hK2 ?_; try (clear hK2; clear K2))
  all_goals refine tc_ret ?_
  all_goals (repeat (first | refine tk_then_ret ?_))
  all_goals first | refine tk_ret rfl rfl (.cons (.tmp rfl) .nil) ?_ | refine tk_retM rfl (by repeat constructor) rfl (.cons (.tmp rfl) .nil) ?_
  all_goals (
   exact fun w' hw' => ⟨by rw [← idxR_any]; rfl, hw'.fr (by simp)⟩)
theorem allR1_c (g : FuncId) [GoFn Try.prog g] (first cap : Array Value) (p : Int × Int → Bool) (x : Int × Int) (b : Nat) (w : World) (hb : w.cell? ⟨b, 0, none⟩ = some (.func (.func g) first cap)) (ht : TestsR Try.prog g first cap p w) :
    CnV Try.prog 61 #[rdV x, .pointer (some ⟨b, 0, none⟩)] w (.bool (!(p x))) := by
  refine cnv (vs := [_, _]) Try.func61 rfl rfl ?_
  all_goals refine tc_seq fun K1 hK1 => ?_
  all_goals refine tc_region ?_
  all_goals refine tl_e (e_box rfl rfl rfl) rfl (fun _ _ => ?_)
  all_goals refine tl_q (y_assign rfl) rfl ?_
  all_goals refine tl_nil ?_
  all_goals (refine hK1 ?_; try (clear hK1; clear K1))
  all_goals refine tc_seq fun K2 hK2 => ?_
  all_goals refine tc_region ?_
  all_goals (refine tl_q (y_load1o rfl (fun w' hw' => (hw'.fr (S := []) (w0 := w) (by simp)).cell (by simp) hb)) rfl ?_)
  all_goals (refine tl_q (y_loadW rfl (by repeat constructor) (by rfl)) rfl ?_)
  all_goals refine tl_e (e_callVf rfl rfl (.cons rfl .nil) (fun w' hw' => ht x w' (hw'.fr (by simp)))) rfl (fun _ _ => ?_)
  all_goals (refine tl_q (y_not rfl) rfl ?_)
  all_goals refine tl_q (y_assign rfl) rfl ?_
  all_goals refine tl_nil ?_
  all_goals (refine hK2 ?_; try (clear hK2; clear K2))
  all_goals refine tc_ret ?_
  all_goals (repeat (first | refine tk_then_ret ?_))
  all_goals first | refine tk_ret rfl rfl (.cons (.tmp rfl) .nil) ?_ | refine tk_retM rfl (by repeat constructor) rfl (.cons (.tmp rfl) .nil) ?_
  all_goals (
   exact fun w' hw' => ⟨rfl, hw'.fr (by simp)⟩)
theorem allR_c (g : FuncId) [GoFn Try.prog g] (first cap : Array Value) (p : Int × Int → Bool) (xs : List (Int × Int)) (hx : (xs.length : Int) ≤ 9000000000000000000) (sl : Value) (w : World) (hr : RdR w sl xs) (ht : TestsR Try.prog g first cap p w) :
    CnV Try.prog 36 #[sl, .func (.func g) first cap] w (.bool (xs.all p)) := by
  refine cnv (vs := [_, _]) Try.func36 rfl rfl ?_
  all_goals refine tc_seq fun K1 hK1 => ?_
  all_goals refine tc_region ?_
  all_goals refine tl_e (e_box rfl rfl rfl) rfl (fun b _ => ?_)
  all_goals refine tl_q (y_assign rfl) rfl ?_
  all_goals refine tl_nil ?_
  all_goals (refine hK1 ?_; try (clear hK1; clear K1))
  all_goals refine tc_seq fun K2 hK2 => ?_
  all_goals refine tc_region ?_
  all_goals refine tl_q (y_move rfl) rfl ?_
  all_goals refine tl_q (y_fn .nil (.cons rfl .nil)) rfl ?_
  all_goals refine tl_e (e_callV rfl (.cons rfl (.cons rfl .nil)) (fun w' hw' => containsFuncR_c 61 #[] #[.pointer (some ⟨b, 0, none⟩)] (fun x => !(p x)) xs hx _ w' (hr.fr (hw'.fr (by simp))) (fun x w2 f => by simpa using allR1_c g first cap p x b w2 (f.cell (by simp) (cellAt_cell? (hw'.heap _ (HM.mem (by repeat constructor))) rfl)) ((ht.fr (hw'.fr (by simp))).fr f)))) rfl (fun _ _ => ?_)
  all_goals (refine tl_q (y_not rfl) rfl ?_)
  all_goals refine tl_q (y_assign rfl) rfl ?_
  all_goals refine tl_nil ?_
  all_goals (refine hK2 ?_; try (clear hK2; clear K2))
  all_goals refine tc_ret ?_
  all_goals (repeat (first | refine tk_then_ret ?_))
  all_goals first | refine tk_ret rfl rfl (.cons (.tmp rfl) .nil) ?_ | refine tk_retM rfl (by repeat constructor) rfl (.cons (.tmp rfl) .nil) ?_
  all_goals (
   exact fun w' hw' => ⟨by simp [outV, List.all_eq_not_any_not], hw'.fr (by simp)⟩)
/-- A reading is one of the spindle. -/
def rdOk (s : Sn) (r : Int × Int) : Bool := decide ((0 ≤ r.1 ∧ r.1 ≤ s.weights.length) ∧ (-2 ≤ r.2 ∧ r.2 ≤ s.divisions))
theorem reading_c (s : Sn) (r : Int × Int) (sl : Value) (w : World) (hr : RdI w sl s.weights) : CnV Try.prog 35 #[spV s sl, rdV r] w (.bool (rdOk s r)) := by
  refine cnv (vs := [_, _]) Try.func35 rfl rfl ?_
  all_goals refine tc_seq fun K1 hK1 => ?_
  all_goals refine tc_region ?_
  all_goals refine tl_e (e_box rfl rfl rfl) rfl (fun _ _ => ?_)
  all_goals refine tl_e (e_box rfl rfl rfl) rfl (fun _ _ => ?_)
  all_goals refine tl_q (y_assign rfl) rfl ?_
  all_goals refine tl_nil ?_
  all_goals (refine hK1 ?_; try (clear hK1; clear K1))
  all_goals refine tc_seq fun K2 hK2 => ?_
  all_goals refine tc_region ?_
  all_goals (refine tl_q (y_loadW rfl (by repeat constructor) (by rfl)) rfl ?_)
  all_goals refine tl_q (y_field rfl) rfl ?_
  all_goals refine tl_q (y_load1 rfl (by repeat constructor) (by rfl)) rfl ?_
  all_goals refine tl_e (e_callV rfl (.cons rfl (.cons rfl .nil)) (fun w' hw' => load_c s _ _ w' (hr.fr (hw'.fr (by simp))))) rfl (fun _ _ => ?_)
  all_goals refine tl_q (y_move rfl) rfl ?_
  all_goals (refine tl_gs rfl rfl (fun hc => ?_) (fun hc => ?_) <;> (skip) <;> (first | refine tl_sk rfl rfl rfl rfl ?_ | refine tl_qg rfl rfl (y_loadW rfl (by repeat constructor) (by rfl)) rfl ?_))
  all_goals (first | refine tl_sk rfl rfl rfl rfl ?_ | refine tl_qg rfl rfl (y_field rfl) rfl ?_)
  all_goals (first | refine tl_sk rfl rfl rfl rfl ?_ | refine tl_qg rfl rfl (y_load1 rfl (by repeat constructor) (by rfl)) rfl ?_)
  all_goals (first | refine tl_sk rfl rfl rfl rfl ?_ | refine tl_eg rfl rfl rfl (e_callV rfl (.cons rfl (.cons rfl .nil)) (fun w' hw' => seen_c s _ _ w')) (fun _ _ => ?_))
  all_goals (first | refine tl_q (y_pick_t rfl rfl) rfl ?_ | refine tl_q (y_pick_f rfl rfl) rfl ?_)
  all_goals refine tl_q (y_assign rfl) rfl ?_
  all_goals refine tl_nil ?_
  all_goals (refine hK2 ?_; try (clear hK2; clear K2))
  all_goals refine tc_ret ?_
  all_goals (repeat (first | refine tk_then_ret ?_))
  all_goals first | refine tk_ret rfl rfl (.cons (.tmp rfl) .nil) ?_ | refine tk_retM rfl (by repeat constructor) rfl (.cons (.tmp rfl) .nil) ?_
  all_goals (
   refine fun w' hw' => ⟨?_, hw'.fr (by simp)⟩
   unfold rdOk
   simp only [outV, decide_eq_true_eq, decide_eq_false_iff_not] at *
   simp [hc])
/-- The error of readings. -/
def readF (s : Sn) (l : List (Int × Int)) : Int := if ¬ chkF s = 0 then chkF s else if 6 < (l.length : Int) then 3 else if l.all (rdOk s) then 0 else 2
theorem read_c (s : Sn) (hn : NB s) (l : List (Int × Int)) (hl : (l.length : Int) ≤ 9000000000000000000) (sl lv : Value) (w : World) (hr : RdI w sl s.weights) (hR : RdR w lv l) : CnV Try.prog 17 #[spV s sl, lv] w (vi (readF s l)) := by
  have hR0 := hR
  obtain ⟨ad, cp, b0, o, rfl, had, hcell⟩ := hR.open
  refine cnv (vs := [_, _]) Try.func17 rfl rfl ?_
  all_goals refine tc_seq fun K1 hK1 => ?_
  all_goals refine tc_region ?_
  all_goals refine tl_e (e_box rfl rfl rfl) rfl (fun _ _ => ?_)
  all_goals refine tl_q (y_assign rfl) rfl ?_
  all_goals refine tl_nil ?_
  all_goals (refine hK1 ?_; try (clear hK1; clear K1))
  all_goals refine tc_seq fun K2 hK2 => ?_
  all_goals refine tc_seq fun K3 hK3 => ?_
  all_goals refine tc_region ?_
  all_goals (refine tl_q (y_loadW rfl (by repeat constructor) (by rfl)) rfl ?_)
  all_goals refine tl_e (e_callV rfl (.cons rfl .nil) (fun w' hw' => chk_c s hn _ w' (hr.fr (hw'.fr (by simp))))) rfl (fun _ _ => ?_)
  all_goals refine tl_q (y_assign rfl) rfl ?_
  all_goals refine tl_nil ?_
  all_goals (refine hK3 ?_; try (clear hK3; clear K3))
  all_goals refine tc_seq fun K4 hK4 => ?_
  all_goals refine tc_region ?_
  all_goals refine tl_q (y_move rfl) rfl ?_
  all_goals refine tl_q (y_neq rfl rfl) rfl ?_
  all_goals refine tl_nil ?_
  all_goals (refine hK4 ?_; try (clear hK4; clear K4))
  all_goals (
   refine tc_cond rfl (fun hc => ?_) (fun hc => ?_)
   · try simp only [decide_eq_true_eq, decide_eq_false_iff_not, Int.not_lt, Int.not_le, Bool.not_eq_true', Bool.not_eq_false', Decidable.not_not, not_true_eq_false] at hc
     all_goals first | (exfalso; with_reducible exact bft hc) | (exfalso; with_reducible exact btf hc) | (exfalso; omega) | skip
     all_goals refine tc_seq fun K5 hK5 => ?_
     all_goals refine tc_region ?_
     all_goals refine tl_q (y_move rfl) rfl ?_
     all_goals refine tl_q (y_assign rfl) rfl ?_
     all_goals refine tl_nil ?_
     all_goals (refine hK5 ?_; try (clear hK5; clear K5))
     all_goals refine tc_ret ?_
     all_goals (repeat (refine tk_then_ret ?_))
     all_goals first | refine tk_ret rfl rfl (.cons (.tmp rfl) .nil) ?_ | refine tk_retM rfl (by repeat constructor) rfl (.cons (.tmp rfl) .nil) ?_
     all_goals (
      refine fun w' hw' => ⟨congrArg (fun n => Ending.returned (vi n)) ?_, hw'.fr (by simp)⟩
      unfold readF
      first
      | rw [if_pos (by omega)]
      | rw [if_neg (by omega), if_pos (by omega)]
      | rw [if_neg (by omega), if_neg (by omega), if_pos hc]
      | rw [if_neg (by omega), if_neg (by omega), if_neg (by rw [hc]; exact Bool.false_ne_true)])
   · try simp only [decide_eq_true_eq, decide_eq_false_iff_not, Int.not_lt, Int.not_le, Bool.not_eq_true', Bool.not_eq_false', Decidable.not_not, not_true_eq_false] at hc
     all_goals first | (exfalso; with_reducible exact bft hc) | (exfalso; with_reducible exact btf hc) | (exfalso; omega) | skip
     all_goals refine tc_skip ?_
     all_goals (refine hK2 ?_; try (clear hK2; clear K2))
     all_goals refine tc_seq fun K6 hK6 => ?_
     all_goals refine tc_region ?_
     all_goals (refine tl_q (y_loadW rfl (by repeat constructor) (by rfl)) rfl ?_)
     all_goals refine tl_q (y_fn (.cons rfl .nil) .nil) rfl ?_
     all_goals refine tl_q (y_assign rfl) rfl ?_
     all_goals refine tl_nil ?_
     all_goals (refine hK6 ?_; try (clear hK6; clear K6))
     all_goals refine tc_seq fun K7 hK7 => ?_
     all_goals refine tc_block ?_
     all_goals refine tc_seq fun K8 hK8 => ?_
     all_goals refine tc_region ?_
     all_goals refine tl_q (y_move rfl) rfl ?_
     all_goals refine tl_q (y_len rfl) rfl ?_
     all_goals refine tl_q (y_gtr rfl rfl) rfl ?_
     all_goals refine tl_q (y_assign rfl) rfl ?_
     all_goals refine tl_nil ?_
     all_goals (refine hK8 ?_; try (clear hK8; clear K8))
     all_goals (
      refine tc_cond rfl (fun hc => ?_) (fun hc => ?_)
      · try simp only [decide_eq_true_eq, decide_eq_false_iff_not, Int.not_lt, Int.not_le, Bool.not_eq_true', Bool.not_eq_false', Decidable.not_not, not_true_eq_false] at hc
        all_goals first | (exfalso; with_reducible exact bft hc) | (exfalso; with_reducible exact btf hc) | (exfalso; omega) | skip
        all_goals refine tc_seq fun K9 hK9 => ?_
        all_goals refine tc_region ?_
        all_goals refine tl_q (y_assign rfl) rfl ?_
        all_goals refine tl_nil ?_
        all_goals (refine hK9 ?_; try (clear hK9; clear K9))
        all_goals refine tc_ret ?_
        all_goals (repeat (first | refine tk_then_ret ?_ | refine tk_block_ret ?_))
        all_goals first | refine tk_ret rfl rfl (.cons (.tmp rfl) .nil) ?_ | refine tk_retM rfl (by repeat constructor) rfl (.cons (.tmp rfl) .nil) ?_
        all_goals (
         refine fun w' hw' => ⟨congrArg (fun n => Ending.returned (vi n)) ?_, hw'.fr (by simp)⟩
         unfold readF
         first
         | rw [if_pos (by omega)]
         | rw [if_neg (by omega), if_pos (by omega)]
         | rw [if_neg (by omega), if_neg (by omega), if_pos hc]
         | rw [if_neg (by omega), if_neg (by omega), if_neg (by rw [hc]; exact Bool.false_ne_true)])
      · try simp only [decide_eq_true_eq, decide_eq_false_iff_not, Int.not_lt, Int.not_le, Bool.not_eq_true', Bool.not_eq_false', Decidable.not_not, not_true_eq_false] at hc
        all_goals first | (exfalso; with_reducible exact bft hc) | (exfalso; with_reducible exact btf hc) | (exfalso; omega) | skip
        all_goals refine tc_seq fun K10 hK10 => ?_
        all_goals refine tc_region ?_
        all_goals refine tl_q (y_move rfl) rfl ?_
        all_goals refine tl_q (y_move rfl) rfl ?_
        all_goals refine tl_e (e_callV rfl (.cons rfl (.cons rfl .nil)) (fun w' hw' => allR_c 35 #[spV s sl] #[] (rdOk s) l hl _ w' (hR0.fr (hw'.fr (by simp))) (fun x w2 f => by simpa using reading_c s x sl w2 ((hr.fr (hw'.fr (by simp))).fr f)))) rfl (fun _ _ => ?_)
        all_goals (refine tl_q (y_not rfl) rfl ?_)
        all_goals refine tl_q (y_assign rfl) rfl ?_
        all_goals refine tl_nil ?_
        all_goals (refine hK10 ?_; try (clear hK10; clear K10))
        all_goals (
         refine tc_cond rfl (fun hc => ?_) (fun hc => ?_)
         · try simp only [decide_eq_true_eq, decide_eq_false_iff_not, Int.not_lt, Int.not_le, Bool.not_eq_true', Bool.not_eq_false', Decidable.not_not, not_true_eq_false] at hc
           all_goals first | (exfalso; with_reducible exact bft hc) | (exfalso; with_reducible exact btf hc) | (exfalso; omega) | skip
           all_goals refine tc_seq fun K11 hK11 => ?_
           all_goals refine tc_region ?_
           all_goals refine tl_q (y_assign rfl) rfl ?_
           all_goals refine tl_nil ?_
           all_goals (refine hK11 ?_; try (clear hK11; clear K11))
           all_goals refine tc_ret ?_
           all_goals (repeat (first | refine tk_then_ret ?_ | refine tk_block_ret ?_))
           all_goals first | refine tk_ret rfl rfl (.cons (.tmp rfl) .nil) ?_ | refine tk_retM rfl (by repeat constructor) rfl (.cons (.tmp rfl) .nil) ?_
           all_goals (
            refine fun w' hw' => ⟨congrArg (fun n => Ending.returned (vi n)) ?_, hw'.fr (by simp)⟩
            unfold readF
            first
            | rw [if_pos (by omega)]
            | rw [if_neg (by omega), if_pos (by omega)]
            | rw [if_neg (by omega), if_neg (by omega), if_pos hc]
            | rw [if_neg (by omega), if_neg (by omega), if_neg (by rw [hc]; exact Bool.false_ne_true)])
         · try simp only [decide_eq_true_eq, decide_eq_false_iff_not, Int.not_lt, Int.not_le, Bool.not_eq_true', Bool.not_eq_false', Decidable.not_not, not_true_eq_false] at hc
           all_goals first | (exfalso; with_reducible exact bft hc) | (exfalso; with_reducible exact btf hc) | (exfalso; omega) | skip
           all_goals refine tc_skip ?_
           all_goals (refine hK7 ?_; try (clear hK7; clear K7))
           all_goals refine tc_seq fun K12 hK12 => ?_
           all_goals refine tc_region ?_
           all_goals refine tl_q (y_assign rfl) rfl ?_
           all_goals refine tl_nil ?_
           all_goals (refine hK12 ?_; try (clear hK12; clear K12))
           all_goals refine tc_ret ?_
           all_goals (repeat (first | refine tk_then_ret ?_))
           all_goals first | refine tk_ret rfl rfl (.cons (.tmp rfl) .nil) ?_ | refine tk_retM rfl (by repeat constructor) rfl (.cons (.tmp rfl) .nil) ?_
           all_goals (
            refine fun w' hw' => ⟨congrArg (fun n => Ending.returned (vi n)) ?_, hw'.fr (by simp)⟩
            unfold readF
            first
            | rw [if_pos (by omega)]
            | rw [if_neg (by omega), if_pos (by omega)]
            | rw [if_neg (by omega), if_neg (by omega), if_pos hc]
            | rw [if_neg (by omega), if_neg (by omega), if_neg (by rw [hc]; exact Bool.false_ne_true)]))))
theorem index_c (xs : List Int) (hx : (xs.length : Int) ≤ 9000000000000000000) (v : Int) (sl : Value) (w : World) (hr : RdI w sl xs) : CnV Try.prog 62 #[sl, vi v] w (vi (idxF xs (fun x => decide (v = x)))) := by
  obtain ⟨ad, cp, b0, o, rfl, had, hcell⟩ := hr.open
  refine cnv (vs := [_, _]) Try.func62 rfl rfl ?_
  all_goals refine tc_seq fun K1 hK1 => ?_
  all_goals refine tc_region ?_
  all_goals refine tl_q (y_assign rfl) rfl ?_
  all_goals refine tl_nil ?_
  all_goals (refine hK1 ?_; try (clear hK1; clear K1))
  all_goals refine tc_seq fun K2 hK2 => ?_
  all_goals refine tc_seq fun K3 hK3 => ?_
  all_goals refine tc_region ?_
  all_goals refine tl_q (y_move rfl) rfl ?_
  all_goals refine tl_q (y_len rfl) rfl ?_
  all_goals refine tl_q (y_move rfl) rfl ?_
  all_goals refine tl_nil ?_
  all_goals (refine hK3 ?_; try (clear hK3; clear K3))
  all_goals refine tc_block ?_
  all_goals (
   refine tc_loop (fun k : Nat => k ≤ xs.length ∧ ∀ j, j < k → decide (v = xs.getD j 0) = false) (fun k => [(0, .slice ad xs.length cp), (1, vi v), (7, vi xs.length), (8, vi k)]) (fun _ => [(w, [])]) (fun _ => []) (fun k => xs.length - k) ?_ ?_
   · exact tk_start 0 ⟨Nat.zero_le _, fun j hj => absurd hj (Nat.not_lt_zero j)⟩ (.cons rfl (.cons rfl (.cons rfl (.cons rfl .nil)))) (fun _ h => h)
   · rintro k ⟨hk, hj⟩
     all_goals refine tc_seq fun K4 hK4 => ?_
     all_goals refine tc_region ?_
     all_goals refine tl_q (y_lss rfl rfl) rfl ?_
     all_goals refine tl_nil ?_
     all_goals (refine hK4 ?_; try (clear hK4; clear K4))
     all_goals refine tc_seq fun K5 hK5 => ?_
     all_goals (
      refine tc_cond rfl (fun hc => ?_) (fun hc => ?_)
      · try simp only [decide_eq_true_eq, decide_eq_false_iff_not, Int.not_lt, Int.not_le, Bool.not_eq_true', Bool.not_eq_false', Decidable.not_not, not_true_eq_false] at hc
        all_goals first | (exfalso; with_reducible exact bft hc) | (exfalso; with_reducible exact btf hc) | (exfalso; omega) | skip
        all_goals refine tc_skip ?_
        all_goals (refine hK5 ?_; try (clear hK5; clear K5))
        all_goals refine tc_seq fun K6 hK6 => ?_
        all_goals refine tc_block ?_
        all_goals refine tc_seq fun K7 hK7 => ?_
        all_goals refine tc_region ?_
        all_goals refine tl_q (y_move rfl) rfl ?_
        all_goals refine tl_q (y_assign rfl) rfl ?_
        all_goals refine tl_nil ?_
        all_goals (refine hK7 ?_; try (clear hK7; clear K7))
        all_goals refine tc_seq fun K8 hK8 => ?_
        have had' := had (by omega)
        all_goals refine tc_region ?_
        all_goals refine tl_q (y_move rfl) rfl ?_
        all_goals refine tl_q (y_move rfl) rfl ?_
        all_goals refine tl_q (y_move rfl) rfl ?_
        all_goals (refine tl_q (y_index rfl rfl (by omega) had') rfl ?_)
        all_goals (refine tl_q (y_load1o rfl (fun w' hw' => hcell w' (hw'.fr (by simp)) (Int.toNat k * 1) (by omega))) rfl ?_)
        all_goals refine tl_q (y_eql rfl rfl) rfl ?_
        all_goals refine tl_nil ?_
        all_goals (refine hK8 ?_; try (clear hK8; clear K8))
        all_goals (
         refine tc_cond rfl (fun hc => ?_) (fun hc => ?_)
         · try simp only [decide_eq_true_eq, decide_eq_false_iff_not, Int.not_lt, Int.not_le, Bool.not_eq_true', Bool.not_eq_false', Decidable.not_not, not_true_eq_false] at hc
           all_goals first | (exfalso; with_reducible exact bft hc) | (exfalso; with_reducible exact btf hc) | (exfalso; omega) | skip
           all_goals refine tc_seq fun K9 hK9 => ?_
           all_goals refine tc_region ?_
           all_goals refine tl_q (y_move rfl) rfl ?_
           all_goals refine tl_q (y_assign rfl) rfl ?_
           all_goals refine tl_nil ?_
           all_goals (refine hK9 ?_; try (clear hK9; clear K9))
           all_goals refine tc_ret ?_
           all_goals (repeat (first | refine tk_then_ret ?_ | refine tk_block_ret ?_))
           all_goals first | refine tk_ret rfl rfl (.cons (.tmp rfl) .nil) ?_ | refine tk_retM rfl (by repeat constructor) rfl (.cons (.tmp rfl) .nil) ?_
           all_goals (
            first | exact fun w' hw' => ⟨by rw [idxF_hit (k := k) (by omega) (by simpa using hc) hj]; rfl, hw'.fr (by simp)⟩ | exact fun w' hw' => ⟨by rw [idxF_miss (fun j hjj => hj j (by omega))]; rfl, hw'.fr (by simp)⟩)
         · try simp only [decide_eq_true_eq, decide_eq_false_iff_not, Int.not_lt, Int.not_le, Bool.not_eq_true', Bool.not_eq_false', Decidable.not_not, not_true_eq_false] at hc
           all_goals first | (exfalso; with_reducible exact bft hc) | (exfalso; with_reducible exact btf hc) | (exfalso; omega) | skip
           all_goals refine tc_skip ?_
           all_goals (refine hK6 ?_; try (clear hK6; clear K6))
           all_goals refine tc_region ?_
           all_goals refine tl_q (y_add rfl rfl (by omega)) rfl ?_
           all_goals refine tl_q (y_move rfl) rfl ?_
           all_goals refine tl_nil ?_
           all_goals (
            exact tk_round (k + 1) ⟨by omega, fun j hj' => by rcases Nat.lt_succ_iff_lt_or_eq.1 hj' with h | rfl; exact hj j h; simpa using hc⟩ (by omega) (.cons rfl (.cons rfl (.cons rfl (.cons rfl .nil)))) (fun _ h => h)))
      · try simp only [decide_eq_true_eq, decide_eq_false_iff_not, Int.not_lt, Int.not_le, Bool.not_eq_true', Bool.not_eq_false', Decidable.not_not, not_true_eq_false] at hc
        all_goals first | (exfalso; with_reducible exact bft hc) | (exfalso; with_reducible exact btf hc) | (exfalso; omega) | skip
        all_goals refine tc_exit ?_
        all_goals (refine hK2 ?_; try (clear hK2; clear K2))
        all_goals refine tc_seq fun K10 hK10 => ?_
        all_goals refine tc_region ?_
        all_goals refine tl_q (y_assign rfl) rfl ?_
        all_goals refine tl_nil ?_
        all_goals (refine hK10 ?_; try (clear hK10; clear K10))
        all_goals refine tc_ret ?_
        all_goals (repeat (first | refine tk_then_ret ?_))
        all_goals first | refine tk_ret rfl rfl (.cons (.tmp rfl) .nil) ?_ | refine tk_retM rfl (by repeat constructor) rfl (.cons (.tmp rfl) .nil) ?_
        all_goals (
         first | exact fun w' hw' => ⟨by rw [idxF_hit (k := k) (by omega) (by simpa using hc) hj]; rfl, hw'.fr (by simp)⟩ | exact fun w' hw' => ⟨by rw [idxF_miss (fun j hjj => hj j (by omega))]; rfl, hw'.fr (by simp)⟩)))
theorem contains_c (xs : List Int) (hx : (xs.length : Int) ≤ 9000000000000000000) (v : Int) (sl : Value) (w : World) (hr : RdI w sl xs) : CnV Try.prog 38 #[sl, vi v] w (.bool (decide (v ∈ xs))) := by
  refine cnv (vs := [_, _]) Try.func38 rfl rfl ?_
  all_goals refine tc_seq fun K1 hK1 => ?_
  all_goals refine tc_region ?_
  all_goals refine tl_q (y_assign rfl) rfl ?_
  all_goals refine tl_nil ?_
  all_goals (refine hK1 ?_; try (clear hK1; clear K1))
  all_goals refine tc_seq fun K2 hK2 => ?_
  all_goals refine tc_region ?_
  all_goals refine tl_q (y_move rfl) rfl ?_
  all_goals refine tl_q (y_move rfl) rfl ?_
  all_goals refine tl_e (e_callV rfl (.cons rfl (.cons rfl .nil)) (fun w' hw' => index_c xs hx v _ w' (hr.fr (hw'.fr (by simp))))) rfl (fun _ _ => ?_)
  all_goals refine tl_q (y_geq rfl rfl) rfl ?_
  all_goals refine tl_q (y_assign rfl) rfl ?_
  all_goals refine tl_nil ?_
  all_goals (refine hK2 ?_; try (clear hK2; clear K2))
  all_goals refine tc_ret ?_
  all_goals (repeat (first | refine tk_then_ret ?_))
  all_goals first | refine tk_ret rfl rfl (.cons (.tmp rfl) .nil) ?_ | refine tk_retM rfl (by repeat constructor) rfl (.cons (.tmp rfl) .nil) ?_
  all_goals (
   exact fun w' hw' => ⟨by simp only [outV, idxF_any]; congr 2; rw [Bool.eq_iff_iff]; simp, hw'.fr (by simp)⟩)
/-- The densities that fit the first n readings but some. -/
def narStep (s : Sn) (l : List (Int × Int)) (out : List Int) (r : Int × Int) (i : Nat) : Int × Int := if (i : Int) ∈ out then r else meetF r (meanF s (l.getD i (0, 0)).1 (l.getD i (0, 0)).2)
def narF (s : Sn) (l : List (Int × Int)) (out : List Int) (n : Nat) : Int × Int := (List.range n).foldl (narStep s l out) (1, 2000)
theorem narF_succ (s : Sn) (l : List (Int × Int)) (out : List Int) (n : Nat) : narF s l out (n + 1) = narStep s l out (narF s l out n) n := by simp [narF, List.range_succ]
def sepS (v : Value) (S : List Nat) : Prop := ∀ p m c, v = .slice (some p) m c → p.block ∉ S
theorem narrow_c (s : Sn) (hs : VS s) (l : List (Int × Int)) (hl : (l.length : Int) ≤ 6) (hok : l.all (rdOk s) = true) (out : List Int) (ho : (out.length : Int) ≤ 9000000000000000000) (sl lv ov : Value) (hsl : sl.oneCell' = true) (w : World) (bw bm : Nat) (es : Array MapEntry) (ck : Nat)
    (hr : RdI w sl s.weights) (hR : RdR w lv l) (hO : RdI w ov out) (hbw : w.heap[bw]? = some (wkO s sl bm)) (hbm : w.heap[bm]? = some (.map es ck)) (hc0 : Cache (meanV s) es.toList) :
    CnX Try.prog 19 #[ptr bw, lv, ov] w [bm] (fun _ : Array MapEntry × Nat => rV (narF s l out l.length)) (fun x w' => Cache (meanV s) x.1.toList ∧ w'.heap[bm]? = some (.map x.1 x.2)) := by
  have hne : bw ≠ bm := by rintro rfl; rw [hbw] at hbm; simp at hbm
  have hM : ∀ x ∈ [bm], ∃ es ck, w.heap[x]? = some (.map es ck) := fun x hx => by
    obtain rfl : x = bm := by simpa using hx
    exact ⟨es, ck, hbm⟩
  have hbt : ∀ w', Fr [bw, bm] w w' → w'.heap[bw]? = some (wkO s sl bm) → Fr [bm] w w' := fun w' f hb => Fr.but f (by rw [hb, hbw])
  have hcap : ∀ (b : Nat) (o : Nat) (v : Value), w.cell? ⟨b, o, none⟩ = some v → b ∉ [bm] := fun b o v h hb => by
    obtain rfl : b = bm := by simpa using hb
    simp [World.cell?, hbm] at h
  obtain ⟨ad, cp, b0, o, rfl, had, hcell⟩ := hR.open
  refine cnxS (vs := [_, _, _]) (S := [bw, bm]) [(bw, wkO s sl bm), (bm, .map es ck)] Try.func19 rfl rfl ⟨by simp [hbw, hbm], by simp [hne], by simp⟩ ?_
  all_goals refine tc_seq fun K1 hK1 => ?_
  all_goals refine tc_region ?_
  all_goals refine tl_e (e_allocN rfl) rfl (fun b6 _ => ?_)
  all_goals refine tl_nil ?_
  all_goals (refine hK1 ?_; try (clear hK1; clear K1))
  all_goals refine tc_seq fun K2 hK2 => ?_
  all_goals refine tc_region ?_
  all_goals refine tl_e (e_callV rfl .nil (fun w' _ => every_c w')) rfl (fun _ _ => ?_)
  all_goals refine tl_e (e_allocN rfl) rfl (fun b7 _ => ?_)
  all_goals refine tl_e (e_storeW rfl rfl (by repeat constructor) (by rfl) (by rfl) (by simp [Value.oneCell'])) rfl (fun _ _ => ?_)
  all_goals refine tl_nil ?_
  all_goals (refine hK2 ?_; try (clear hK2; clear K2))
  all_goals refine tc_seq fun K3 hK3 => ?_
  all_goals refine tc_seq fun K4 hK4 => ?_
  all_goals refine tc_region ?_
  all_goals refine tl_q (y_move rfl) rfl ?_
  all_goals refine tl_q (y_len rfl) rfl ?_
  all_goals refine tl_q (y_move rfl) rfl ?_
  all_goals refine tl_nil ?_
  all_goals (refine hK4 ?_; try (clear hK4; clear K4))
  all_goals refine tc_block ?_
  all_goals (
   refine tc_loop (fun p : Nat × Array MapEntry × Nat => p.1 ≤ l.length ∧ Cache (meanV s) p.2.1.toList) (fun p => [(0, ptr bw), (1, .slice ad l.length cp), (2, ov), (6, ptr b6), (7, ptr b7), (11, .slice ad l.length cp), (12, vi l.length), (13, vi p.1)]) (fun _ => [(w, [bw, bm])]) (fun p => [(b7, .cells #[vi (narF s l out p.1).1, vi (narF s l out p.1).2] 41 (0, 0)), (b6, .cells #[vi 0, vi 0] 41 (0, 0)), (bw, wkO s sl bm), (bm, .map p.2.1 p.2.2)]) (fun p => l.length - p.1) ?_ ?_
   · exact tk_start (0, es, ck) ⟨Nat.zero_le _, hc0⟩ (.cons rfl (.cons rfl (.cons rfl (.cons rfl (.cons rfl (.cons rfl (.cons rfl (.cons rfl .nil)))))))) (fun _ h => h.sub (fun _ h => h) (SB.s (by repeat constructor)))
   · rintro ⟨i, es', ck'⟩ ⟨hi, hcache⟩
     dsimp only at hi hcache ⊢
     all_goals refine tc_seq fun K5 hK5 => ?_
     all_goals refine tc_region ?_
     all_goals refine tl_q (y_lss rfl rfl) rfl ?_
     all_goals refine tl_nil ?_
     all_goals (refine hK5 ?_; try (clear hK5; clear K5))
     all_goals refine tc_seq fun K6 hK6 => ?_
     all_goals (
      refine tc_cond rfl (fun hc => ?_) (fun hc => ?_)
      · try simp only [decide_eq_true_eq, decide_eq_false_iff_not, Int.not_lt, Int.not_le, Bool.not_eq_true', Bool.not_eq_false', Decidable.not_not, not_true_eq_false] at hc
        all_goals first | (exfalso; with_reducible exact bft hc) | (exfalso; with_reducible exact btf hc) | (exfalso; omega) | skip
        all_goals refine tc_skip ?_
        all_goals (refine hK6 ?_; try (clear hK6; clear K6))
        all_goals refine tc_seq fun K7 hK7 => ?_
        all_goals refine tc_block ?_
        all_goals refine tc_seq fun K8 hK8 => ?_
        have had' := had (by omega)
        have hrd := List.all_eq_true.1 hok (l.getD i (0, 0)) (by rw [List.getD_eq_getElem?_getD, List.getElem?_eq_getElem (by omega)]; exact List.getElem_mem (by omega))
        have hq := of_decide_eq_true hrd
        have hb0 : b0 ∉ [bm] := by
          have hca := hcell w [] (Fr.refl _ _) (by simp) i (by omega)
          exact hcap b0 _ _ (hca.get 0 _ rfl)
        all_goals refine tc_region ?_
        all_goals refine tl_q (y_move rfl) rfl ?_
        all_goals (refine tl_q (y_index rfl rfl (by omega) had') rfl ?_)
        all_goals (refine tl_q (y_loadNo rfl (fun w' hw' => hcell w' [bm] (hbt w' (hw'.fr (by simp)) (hw'.heap _ (HM.mem (by repeat constructor)))) hb0 (Int.toNat i) (by omega))) rfl ?_)
        all_goals refine tl_e (e_allocN rfl) rfl (fun b9 _ => ?_)
        all_goals refine tl_q (y_assign rfl) rfl ?_
        all_goals refine tl_e (e_storeW rfl rfl (by repeat constructor) (by rfl) (by rfl) (by simp [Value.oneCell'])) rfl (fun _ _ => ?_)
        all_goals refine tl_nil ?_
        all_goals (refine hK8 ?_; try (clear hK8; clear K8))
        all_goals refine tc_seq fun K9 hK9 => ?_
        all_goals refine tc_region ?_
        all_goals refine tl_q (y_move rfl) rfl ?_
        all_goals refine tl_q (y_move rfl) rfl ?_
        all_goals refine tl_e (e_callV rfl (.cons rfl (.cons rfl .nil)) (fun w' hw' => contains_c out ho _ _ w' (RdI.frM (bm := bm) (es := es) (ck := ck) hO (hbt w' (hw'.fr (by simp)) (hw'.heap _ (HM.mem (by repeat constructor)))) hM))) rfl (fun _ _ => ?_)
        all_goals (refine tl_q (y_not_dec rfl) rfl ?_)
        all_goals refine tl_nil ?_
        all_goals (refine hK9 ?_; try (clear hK9; clear K9))
        all_goals (
         refine tc_cond rfl (fun hc => ?_) (fun hc => ?_)
         · try simp only [decide_eq_true_eq, decide_eq_false_iff_not, Int.not_lt, Int.not_le, Bool.not_eq_true', Bool.not_eq_false', Decidable.not_not, not_true_eq_false] at hc
           all_goals first | (exfalso; with_reducible exact bft hc) | (exfalso; with_reducible exact btf hc) | (exfalso; omega) | skip
           all_goals refine tc_drawS ([(b9, .cells #[vi (l.getD i (0, 0)).1, vi (l.getD i (0, 0)).2] 62 (0, 0)), (b7, .cells #[vi (narF s l out i).1, vi (narF s l out i).2] 41 (0, 0))]) (by kernel_rfl) ?_
           all_goals (refine tx_qS 0 rfl (by kernel_rfl) (y_loadW rfl (by repeat constructor) (by rfl)) rfl (fun _ _ _ h => h) (fun _ h => h.subl (SB.s (by repeat constructor)) (SB.s (by repeat constructor))) ?_)
           all_goals refine tx_p 1 rfl (by kernel_rfl) (y_move rfl) rfl (fun _ _ _ h => h) (fun _ h => h.subl (SB.s (by repeat constructor)) (SB.s (by repeat constructor))) ?_
           all_goals (refine tx_qS 2 rfl (by kernel_rfl) (y_loadW rfl (by repeat constructor) (by rfl)) rfl (fun _ _ _ h => h) (fun _ h => h.subl (SB.s (by repeat constructor)) (SB.s (by repeat constructor))) ?_)
           all_goals refine tx_single 3 (by kernel_rfl) (to_e rfl rfl (e_callU rfl (.cons rfl (.cons rfl .nil)) (fun w' hw' => mean_c s hs _ _ hq.1.1 hq.1.2 hq.2.1 hq.2.2 sl hsl w' (RdI.frM (bm := bm) (es := es) (ck := ck) hr (hbt w' (hw'.fr (by simp)) (hw'.heap _ (HM.mem (by repeat constructor)))) hM) bw bm es' ck' (hw'.heap _ (HM.mem (by repeat constructor))) (hw'.heap _ (HM.mem (by repeat constructor))) hcache) (fun _ => (by repeat constructor))) (.inr ⟨fun _ _ h => h.subl (SB.s (by repeat constructor)) (SB.s (by repeat constructor)), fun _ h => h⟩) (fun y hy => ?_))
           all_goals refine tx_single 4 (by kernel_rfl) (to_e rfl rfl (e_callV rfl (.cons rfl (.cons rfl .nil)) (fun w' _ => meet_c _ _ _ _ w')) (.inr ⟨fun _ _ h => h.subl (SB.s (by repeat constructor)) (SB.s (by repeat constructor)), fun _ h => h⟩) (fun _ _ => ?_))
           all_goals refine tx_single 5 (by kernel_rfl) (to_e (S' := HG [] []) rfl rfl (e_storeW rfl rfl (by repeat constructor) (by rfl) (by rfl) (by simp [Value.oneCell'])) (.inl (by kernel_rfl)) (fun _ _ => ?_))
           all_goals refine tx_done (by kernel_rfl) ?_
           all_goals (refine hK7 ?_; try (clear hK7; clear K7))
           all_goals refine tc_region ?_
           all_goals refine tl_q (y_add rfl rfl (by omega)) rfl ?_
           all_goals refine tl_q (y_move rfl) rfl ?_
           all_goals refine tl_nil ?_
           all_goals (
            have hstep := narF_succ s l out i
            first
            | (rw [show narStep s l out (narF s l out i) i = meetF (narF s l out i) (meanF s (l.getD i (0, 0)).1 (l.getD i (0, 0)).2) from by unfold narStep; rw [if_neg (by simpa using hc)]] at hstep
               refine tk_round (i + 1, y.1, y.2) ⟨by omega, hy⟩ (by omega) (.cons rfl (.cons rfl (.cons rfl (.cons rfl (.cons rfl (.cons rfl (.cons rfl (.cons rfl .nil)))))))) (fun _ h => ?_)
               dsimp only
               rw [hstep]
               exact h.sub (fun _ h => h) (SB.s (by repeat constructor)))
            | (rw [show narStep s l out (narF s l out i) i = narF s l out i from by unfold narStep; rw [if_pos (by simpa using hc)]] at hstep
               refine tk_round (i + 1, es', ck') ⟨by omega, hcache⟩ (by omega) (.cons rfl (.cons rfl (.cons rfl (.cons rfl (.cons rfl (.cons rfl (.cons rfl (.cons rfl .nil)))))))) (fun _ h => ?_)
               dsimp only
               rw [hstep]
               exact h.sub (fun _ h => h) (SB.s (by repeat constructor))))
         · try simp only [decide_eq_true_eq, decide_eq_false_iff_not, Int.not_lt, Int.not_le, Bool.not_eq_true', Bool.not_eq_false', Decidable.not_not, not_true_eq_false] at hc
           all_goals first | (exfalso; with_reducible exact bft hc) | (exfalso; with_reducible exact btf hc) | (exfalso; omega) | skip
           all_goals refine tc_skip ?_
           all_goals (refine hK7 ?_; try (clear hK7; clear K7))
           all_goals refine tc_region ?_
           all_goals refine tl_q (y_add rfl rfl (by omega)) rfl ?_
           all_goals refine tl_q (y_move rfl) rfl ?_
           all_goals refine tl_nil ?_
           all_goals (
            have hstep := narF_succ s l out i
            first
            | (rw [show narStep s l out (narF s l out i) i = meetF (narF s l out i) (meanF s (l.getD i (0, 0)).1 (l.getD i (0, 0)).2) from by unfold narStep; rw [if_neg (by simpa using hc)]] at hstep
               refine tk_round (i + 1, y.1, y.2) ⟨by omega, hy⟩ (by omega) (.cons rfl (.cons rfl (.cons rfl (.cons rfl (.cons rfl (.cons rfl (.cons rfl (.cons rfl .nil)))))))) (fun _ h => ?_)
               dsimp only
               rw [hstep]
               exact h.sub (fun _ h => h) (SB.s (by repeat constructor)))
            | (rw [show narStep s l out (narF s l out i) i = narF s l out i from by unfold narStep; rw [if_pos (by simpa using hc)]] at hstep
               refine tk_round (i + 1, es', ck') ⟨by omega, hcache⟩ (by omega) (.cons rfl (.cons rfl (.cons rfl (.cons rfl (.cons rfl (.cons rfl (.cons rfl (.cons rfl .nil)))))))) (fun _ h => ?_)
               dsimp only
               rw [hstep]
               exact h.sub (fun _ h => h) (SB.s (by repeat constructor)))))
      · try simp only [decide_eq_true_eq, decide_eq_false_iff_not, Int.not_lt, Int.not_le, Bool.not_eq_true', Bool.not_eq_false', Decidable.not_not, not_true_eq_false] at hc
        all_goals first | (exfalso; with_reducible exact bft hc) | (exfalso; with_reducible exact btf hc) | (exfalso; omega) | skip
        all_goals refine tc_exit ?_
        all_goals (refine hK3 ?_; try (clear hK3; clear K3))
        all_goals refine tc_seq fun K10 hK10 => ?_
        all_goals refine tc_region ?_
        all_goals (refine tl_q (y_loadW rfl (by repeat constructor) (by rfl)) rfl ?_)
        all_goals refine tl_e (e_storeW rfl rfl (by repeat constructor) (by rfl) (by rfl) (by simp [Value.oneCell'])) rfl (fun _ _ => ?_)
        all_goals refine tl_nil ?_
        all_goals (refine hK10 ?_; try (clear hK10; clear K10))
        all_goals refine tc_ret ?_
        all_goals (repeat (first | refine tk_then_ret ?_))
        all_goals first | refine tk_ret rfl rfl (.cons (.agg inferInstance rfl (by repeat constructor) (by rfl)) .nil) ?_ | refine tk_retM rfl (by repeat constructor) rfl (.cons (.agg inferInstance rfl (by repeat constructor) (by rfl)) .nil) ?_
        all_goals (
         refine fun w' hw' => ?_
         have hb2 := hw'.heap (bw, wkO s sl bm) (HM.mem (by repeat constructor))
         have hii : i = l.length := by omega
         exact ⟨(es', ck'), by rw [← hii]; rfl, hbt w' (hw'.fr (by simp)) hb2, hcache, hw'.heap _ (HM.mem (by repeat constructor))⟩)))
end Go.Sp
