/-
  The small functions of package spindle: what each returns.
-/
import Derived.Test.YtaoohjefbfmhnaaTy
set_option linter.unusedVariables false
set_option linter.unusedSimpArgs false
set_option linter.deprecated false
namespace Go.Sp
open Go Go.Proofs

abbrev vi (n : Int) : Value := .int .i64 n
/-- A spindle's numbers. -/
structure Sn where
  mass : Int
  volume : Int
  step : Int
  divisions : Int
  width : Int
  weights : List Int
/-- A spindle as a value. -/
abbrev spV (s : Sn) (sl : Value) : Value := .agg #[vi s.mass, vi s.volume, vi s.step, vi s.divisions, vi s.width, sl]
/-- A slice that reads as integers. -/
def RdI (w : World) (sl : Value) (xs : List Int) : Prop := Reads w sl 1 xs.length (xs.map vi)
/-- Valid spindles. -/
structure VS (s : Sn) : Prop where
  m1 : 1 ≤ s.mass
  m2 : s.mass ≤ 5000
  v1 : 1 ≤ s.volume
  v2 : s.volume ≤ 5000
  s1 : 1 ≤ s.step
  s2 : s.step ≤ 100
  d1 : 1 ≤ s.divisions
  d2 : s.divisions ≤ 20
  w1 : 1 ≤ s.width
  w2 : s.width ≤ s.step
  w3 : s.step ≤ 2 * s.width
  n : s.weights.length ≤ 6
  ws : ∀ x ∈ s.weights, 1 ≤ x ∧ x ≤ 1000
def massF (s : Sn) (k : Int) : Int := if k = 0 then s.mass else s.mass + s.weights.getD (k - 1).toNat 0
def fromF (m v : Int) : Int := (1000 * m + v - 1) / v
def belowF (m v : Int) : Int := 1000 * m / v
def floF (s : Sn) (k : Int) : Int × Int := (max 1 (fromF (massF s k) (s.volume + s.divisions * s.step)), min 2000 (belowF (massF s k) s.volume))
theorem massF_bd {s : Sn} (h : VS s) {k : Int} (h0 : 0 ≤ k) (h1 : k ≤ s.weights.length) : 1 ≤ massF s k ∧ massF s k ≤ 6000 := by
  have := h.m1; have := h.m2
  unfold massF
  split
  · omega
  · have hlt : (k - 1).toNat < s.weights.length := by omega
    have := h.ws (s.weights[(k - 1).toNat]) (List.getElem_mem hlt)
    rw [List.getD_eq_getElem?_getD, List.getElem?_eq_getElem hlt]
    simp only [Option.getD_some]
    omega
theorem ds_bd {s : Sn} (h : VS s) : 1 ≤ s.divisions * s.step ∧ s.divisions * s.step ≤ 2000 := by
  have := h.s1; have := h.s2; have := h.d1; have := h.d2
  constructor
  · have := Int.mul_le_mul (a := 1) (c := s.divisions) (b := 1) (d := s.step) (by omega) (by omega) (by omega) (by omega); omega
  · have := Int.mul_le_mul (a := s.divisions) (c := 20) (b := s.step) (d := 100) (by omega) (by omega) (by omega) (by omega); omega

theorem within_c (n lo hi : Int) (w : World) : CnV Try.prog 56 #[vi n, vi lo, vi hi] w (.bool (decide (lo ≤ n ∧ n ≤ hi))) := by
  refine cnv (vs := [_, _, _]) Try.func56 rfl rfl ?_
  all_goals refine tc_seq fun K1 hK1 => ?_
  all_goals refine tc_region ?_
  all_goals refine tl_q (y_assign rfl) rfl ?_
  all_goals refine tl_nil ?_
  all_goals (refine hK1 ?_; try (clear hK1; clear K1))
  all_goals refine tc_seq fun K2 hK2 => ?_
  all_goals refine tc_region ?_
  all_goals refine tl_q (y_move rfl) rfl ?_
  all_goals refine tl_q (y_move rfl) rfl ?_
  all_goals refine tl_q (y_leq rfl rfl) rfl ?_
  all_goals refine tl_q (y_move rfl) rfl ?_
  all_goals (refine tl_gs rfl rfl (fun hc => ?_) (fun hc => ?_) <;> (skip) <;> (first | refine tl_sk rfl rfl rfl rfl ?_ | refine tl_qg rfl rfl (y_move rfl) rfl ?_))
  all_goals (first | refine tl_sk rfl rfl rfl rfl ?_ | refine tl_qg rfl rfl (y_move rfl) rfl ?_)
  all_goals (first | refine tl_sk rfl rfl rfl rfl ?_ | refine tl_qg rfl rfl (y_leq rfl rfl) rfl ?_)
  all_goals (first | refine tl_q (y_pick_t rfl rfl) rfl ?_ | refine tl_q (y_pick_f rfl rfl) rfl ?_)
  all_goals refine tl_q (y_assign rfl) rfl ?_
  all_goals refine tl_nil ?_
  all_goals (refine hK2 ?_; try (clear hK2; clear K2))
  all_goals refine tc_ret ?_
  all_goals (repeat (first | refine tk_then_ret ?_))
  all_goals first | refine tk_ret rfl rfl (.cons (.tmp rfl) .nil) ?_ | refine tk_retM rfl (by repeat constructor) rfl (.cons (.tmp rfl) .nil) ?_
  all_goals (
   refine fun w' hw' => ⟨?_, hw'.fr (by simp)⟩; simp only [outV, decide_eq_true_eq, decide_eq_false_iff_not] at *; simp [hc])
theorem density_c (n : Int) (w : World) : CnV Try.prog 92 #[vi n] w (.bool (decide (1 ≤ n ∧ n ≤ 2000))) := by
  refine cnv (vs := [_]) Try.func92 rfl rfl ?_
  all_goals refine tc_seq fun K1 hK1 => ?_
  all_goals refine tc_region ?_
  all_goals refine tl_q (y_assign rfl) rfl ?_
  all_goals refine tl_nil ?_
  all_goals (refine hK1 ?_; try (clear hK1; clear K1))
  all_goals refine tc_seq fun K2 hK2 => ?_
  all_goals refine tc_region ?_
  all_goals refine tl_q (y_move rfl) rfl ?_
  all_goals refine tl_e (e_callV rfl (.cons rfl (.cons rfl (.cons rfl .nil))) (fun w hw => within_c _ _ _ w)) rfl (fun _ _ => ?_)
  all_goals refine tl_q (y_assign rfl) rfl ?_
  all_goals refine tl_nil ?_
  all_goals (refine hK2 ?_; try (clear hK2; clear K2))
  all_goals refine tc_ret ?_
  all_goals (repeat (first | refine tk_then_ret ?_))
  all_goals first | refine tk_ret rfl rfl (.cons (.tmp rfl) .nil) ?_ | refine tk_retM rfl (by repeat constructor) rfl (.cons (.tmp rfl) .nil) ?_
  all_goals (
   exact fun w' hw' => ⟨rfl, hw'.fr (by simp)⟩)
theorem empty_c (a b : Int) (w : World) : CnV Try.prog 20 #[.agg #[vi a, vi b]] w (.bool (decide (b < a))) := by
  refine cnv (vs := [_]) Try.func20 rfl rfl ?_
  all_goals refine tc_seq fun K1 hK1 => ?_
  all_goals refine tc_region ?_
  all_goals refine tl_e (e_box rfl rfl rfl) rfl (fun _ _ => ?_)
  all_goals refine tl_q (y_assign rfl) rfl ?_
  all_goals refine tl_nil ?_
  all_goals (refine hK1 ?_; try (clear hK1; clear K1))
  all_goals refine tc_seq fun K2 hK2 => ?_
  all_goals refine tc_region ?_
  all_goals refine tl_q (y_field rfl) rfl ?_
  all_goals refine tl_q (y_load1 rfl (by repeat constructor) (by rfl)) rfl ?_
  all_goals refine tl_q (y_field rfl) rfl ?_
  all_goals refine tl_q (y_load1 rfl (by repeat constructor) (by rfl)) rfl ?_
  all_goals refine tl_q (y_gtr rfl rfl) rfl ?_
  all_goals refine tl_q (y_assign rfl) rfl ?_
  all_goals refine tl_nil ?_
  all_goals (refine hK2 ?_; try (clear hK2; clear K2))
  all_goals refine tc_ret ?_
  all_goals (repeat (first | refine tk_then_ret ?_))
  all_goals first | refine tk_ret rfl rfl (.cons (.tmp rfl) .nil) ?_ | refine tk_retM rfl (by repeat constructor) rfl (.cons (.tmp rfl) .nil) ?_
  all_goals (
   exact fun w' hw' => ⟨rfl, hw'.fr (by simp)⟩)
theorem every_c (w : World) : CnV Try.prog 37 #[] w (.agg #[vi 1, vi 2000]) := by
  refine cnv (vs := []) Try.func37 rfl rfl ?_
  all_goals refine tc_seq fun K1 hK1 => ?_
  all_goals refine tc_region ?_
  all_goals refine tl_e (e_allocN rfl) rfl (fun _ _ => ?_)
  all_goals refine tl_nil ?_
  all_goals (refine hK1 ?_; try (clear hK1; clear K1))
  all_goals refine tc_seq fun K2 hK2 => ?_
  all_goals refine tc_region ?_
  all_goals refine tl_q (y_build_2 rfl rfl rfl rfl) rfl ?_
  all_goals refine tl_e (e_storeW rfl rfl (by repeat constructor) (by rfl) (by rfl) (by simp [Value.oneCell'])) rfl (fun _ _ => ?_)
  all_goals refine tl_nil ?_
  all_goals (refine hK2 ?_; try (clear hK2; clear K2))
  all_goals refine tc_ret ?_
  all_goals (repeat (first | refine tk_then_ret ?_))
  all_goals first | refine tk_ret rfl rfl (.cons (.agg inferInstance rfl (by repeat constructor) (by rfl)) .nil) ?_ | refine tk_retM rfl (by repeat constructor) rfl (.cons (.agg inferInstance rfl (by repeat constructor) (by rfl)) .nil) ?_
  all_goals (
   exact fun w' hw' => ⟨rfl, hw'.fr (by simp)⟩)
theorem from_c (m v : Int) (h1 : 1 ≤ m) (h2 : m ≤ 6000) (h3 : 1 ≤ v) (h4 : v ≤ 10000) (w : World) : CnV Try.prog 65 #[vi m, vi v] w (vi (fromF m v)) := by
  refine cnv (vs := [_, _]) Try.func65 rfl rfl ?_
  all_goals refine tc_seq fun K1 hK1 => ?_
  all_goals refine tc_region ?_
  all_goals refine tl_q (y_assign rfl) rfl ?_
  all_goals refine tl_nil ?_
  all_goals (refine hK1 ?_; try (clear hK1; clear K1))
  all_goals refine tc_seq fun K2 hK2 => ?_
  all_goals refine tc_region ?_
  all_goals refine tl_q (y_move rfl) rfl ?_
  all_goals refine tl_q (y_mul rfl rfl (by omega)) rfl ?_
  all_goals refine tl_q (y_move rfl) rfl ?_
  all_goals refine tl_q (y_add rfl rfl (by omega)) rfl ?_
  all_goals refine tl_q (y_sub rfl rfl (by omega)) rfl ?_
  all_goals refine tl_q (y_move rfl) rfl ?_
  all_goals refine tl_q (y_quo rfl rfl (by omega) (by omega)) rfl ?_
  all_goals refine tl_q (y_assign rfl) rfl ?_
  all_goals refine tl_nil ?_
  all_goals (refine hK2 ?_; try (clear hK2; clear K2))
  all_goals refine tc_ret ?_
  all_goals (repeat (first | refine tk_then_ret ?_))
  all_goals first | refine tk_ret rfl rfl (.cons (.tmp rfl) .nil) ?_ | refine tk_retM rfl (by repeat constructor) rfl (.cons (.tmp rfl) .nil) ?_
  all_goals (
   exact fun w' hw' => ⟨rfl, hw'.fr (by simp)⟩)
theorem below_c (m v : Int) (h1 : 1 ≤ m) (h2 : m ≤ 6000) (h3 : 1 ≤ v) (h4 : v ≤ 10000) (w : World) : CnV Try.prog 66 #[vi m, vi v] w (vi (belowF m v)) := by
  refine cnv (vs := [_, _]) Try.func66 rfl rfl ?_
  all_goals refine tc_seq fun K1 hK1 => ?_
  all_goals refine tc_region ?_
  all_goals refine tl_q (y_assign rfl) rfl ?_
  all_goals refine tl_nil ?_
  all_goals (refine hK1 ?_; try (clear hK1; clear K1))
  all_goals refine tc_seq fun K2 hK2 => ?_
  all_goals refine tc_region ?_
  all_goals refine tl_q (y_move rfl) rfl ?_
  all_goals refine tl_q (y_mul rfl rfl (by omega)) rfl ?_
  all_goals refine tl_q (y_move rfl) rfl ?_
  all_goals refine tl_q (y_quo rfl rfl (by omega) (by omega)) rfl ?_
  all_goals refine tl_q (y_assign rfl) rfl ?_
  all_goals refine tl_nil ?_
  all_goals (refine hK2 ?_; try (clear hK2; clear K2))
  all_goals refine tc_ret ?_
  all_goals (repeat (first | refine tk_then_ret ?_))
  all_goals first | refine tk_ret rfl rfl (.cons (.tmp rfl) .nil) ?_ | refine tk_retM rfl (by repeat constructor) rfl (.cons (.tmp rfl) .nil) ?_
  all_goals (
   exact fun w' hw' => ⟨rfl, hw'.fr (by simp)⟩)
theorem RdI.fr {w w' : World} {sl : Value} {xs : List Int} (h : RdI w sl xs) (f : Fr [] w w') : RdI w' sl xs := by
  obtain ⟨h1, ad, cap, h2, h3⟩ := h
  refine ⟨h1, ad, cap, h2, fun hn => ?_⟩
  obtain ⟨b, o, h4, h5⟩ := h3 hn
  refine ⟨b, o, h4, ?_⟩
  clear h1 h2 h3 h4 hn
  generalize xs.map vi = vs at h5
  generalize xs.length * 1 = n at h5
  induction h5 with
  | nil => exact .nil
  | cons hv _ ih => exact .cons (f.cell (p := ⟨b, _, none⟩) (by simp) hv) ih
theorem CA.get {f : Nat → Option Value} {o n : Nat} {vs : List Value} (h : CA f o n vs) : ∀ (i : Nat) (v : Value), vs[i]? = some v → f (o + i) = some v := by
  induction h with
  | nil => intro i v hv; simp at hv
  | @cons o n v vs hv _ ih =>
    intro i u hu
    cases i with
    | zero => simp at hu; subst hu; exact hv
    | succ i => have := ih i u (by simpa using hu); rw [← this]; congr 1; omega
/-- A slice of integers, laid open. -/
theorem RdI.open {w : World} {sl : Value} {xs : List Int} (h : RdI w sl xs) : ∃ ad cap b o, sl = .slice ad xs.length cap ∧ (0 < xs.length → ad = some ⟨b, o, none⟩) ∧ ∀ w', Fr [] w w' → ∀ i, i < xs.length → w'.cell? ⟨b, o + i, none⟩ = some (vi (xs.getD i 0)) := by
  by_cases hn : xs.length = 0
  · obtain ⟨_, ad, cap, h2, _⟩ := h
    exact ⟨ad, cap, 0, 0, h2, fun h => by omega, fun _ _ i hi => by omega⟩
  · have h' := h
    obtain ⟨_, ad, cap, h2, h3⟩ := h
    obtain ⟨b, o, h4, h5⟩ := h3 hn
    refine ⟨ad, cap, b, o, h2, fun _ => h4, fun w' f i hi => ?_⟩
    obtain ⟨_, ad', cap', h2', h3'⟩ := h'.fr f
    obtain ⟨b', o', h4', h5'⟩ := h3' hn
    have e : ad' = ad := by rw [h2] at h2'; injection h2' with e1 e2 e3; exact e1.symm
    rw [e, h4] at h4'
    injection h4' with e1
    injection e1 with e2 e3
    subst e2; subst e3
    refine h5'.get i _ ?_
    rw [List.getElem?_map, List.getElem?_eq_getElem hi, List.getD_eq_getElem?_getD, List.getElem?_eq_getElem hi]
    rfl

/-- The minimum of two. -/
theorem min_c (a b : Int) (sl : Value) (w : World) (hr : RdI w sl [a, b]) : CnV Try.prog 70 #[sl] w (vi (min a b)) := by
  obtain ⟨ad, cap, b0, o, rfl, had, hcell⟩ := hr.open
  have had' := had (by simp)
  refine cnv (vs := [_]) Try.func70 rfl rfl ?_
  all_goals refine tc_seq fun K1 hK1 => ?_
  all_goals refine tc_region ?_
  all_goals refine tl_q (y_assign rfl) rfl ?_
  all_goals refine tl_nil ?_
  all_goals (refine hK1 ?_; try (clear hK1; clear K1))
  all_goals refine tc_seq fun K2 hK2 => ?_
  all_goals refine tc_seq fun K3 hK3 => ?_
  have hl2 : ([a, b].length : Int) = 2 := rfl
  all_goals refine tc_region ?_
  all_goals refine tl_q (y_move rfl) rfl ?_
  all_goals refine tl_q (y_len rfl) rfl ?_
  all_goals refine tl_q (y_lss rfl rfl) rfl ?_
  all_goals refine tl_nil ?_
  all_goals (refine hK3 ?_; try (clear hK3; clear K3))
  all_goals (
   refine tc_cond rfl (fun hc => ?_) (fun hc => ?_)
   · try simp only [decide_eq_true_eq, decide_eq_false_iff_not, Int.not_lt, Int.not_le, Bool.not_eq_true', Bool.not_eq_false', Decidable.not_not, not_true_eq_false] at hc
     all_goals first | (exfalso; with_reducible exact bft hc) | (exfalso; with_reducible exact btf hc) | (exfalso; omega) | skip
     all_goals (exfalso; first | omega | simp_all | contradiction)
   · try simp only [decide_eq_true_eq, decide_eq_false_iff_not, Int.not_lt, Int.not_le, Bool.not_eq_true', Bool.not_eq_false', Decidable.not_not, not_true_eq_false] at hc
     all_goals first | (exfalso; with_reducible exact bft hc) | (exfalso; with_reducible exact btf hc) | (exfalso; omega) | skip
     all_goals refine tc_skip ?_
     all_goals (refine hK2 ?_; try (clear hK2; clear K2))
     all_goals refine tc_seq fun K4 hK4 => ?_
     all_goals refine tc_region ?_
     all_goals refine tl_q (y_move rfl) rfl ?_
     all_goals (refine tl_q (y_index rfl rfl (by omega) had') rfl ?_)
     all_goals (refine tl_q (y_load1o rfl (fun w' hw' => hcell w' (hw'.fr (by simp)) _ (by omega))) rfl ?_)
     all_goals refine tl_q (y_assign rfl) rfl ?_
     all_goals refine tl_nil ?_
     all_goals (refine hK4 ?_; try (clear hK4; clear K4))
     all_goals refine tc_seq fun K5 hK5 => ?_
     all_goals refine tc_seq fun K6 hK6 => ?_
     all_goals refine tc_region ?_
     all_goals refine tl_q (y_assign rfl) rfl ?_
     all_goals refine tl_nil ?_
     all_goals (refine hK6 ?_; try (clear hK6; clear K6))
     all_goals refine tc_block ?_
     all_goals (
      refine tc_loop (fun p : Int × Int => (p.1 = a ∧ p.2 = 1) ∨ (p.1 = min a b ∧ p.2 = 2)) (fun p => [(0, .slice ad [a, b].length cap), (3, vi p.1), (4, vi p.2)]) (fun _ => [(w, [])]) (fun _ => []) (fun p => (2 - p.2).toNat) ?_ ?_
      · exact tk_start (a, 1) (.inl ⟨rfl, rfl⟩) (.cons rfl (.cons rfl (.cons rfl .nil))) (fun _ h => h)
      · rintro ⟨m, i⟩ hI
        dsimp only at hI ⊢
        all_goals refine tc_seq fun K7 hK7 => ?_
        all_goals refine tc_seq fun K8 hK8 => ?_
        all_goals refine tc_region ?_
        all_goals refine tl_q (y_move rfl) rfl ?_
        all_goals refine tl_q (y_move rfl) rfl ?_
        all_goals refine tl_q (y_len rfl) rfl ?_
        all_goals refine tl_q (y_lss rfl rfl) rfl ?_
        all_goals refine tl_nil ?_
        all_goals (refine hK8 ?_; try (clear hK8; clear K8))
        all_goals (
         refine tc_cond rfl (fun hc => ?_) (fun hc => ?_)
         · try simp only [decide_eq_true_eq, decide_eq_false_iff_not, Int.not_lt, Int.not_le, Bool.not_eq_true', Bool.not_eq_false', Decidable.not_not, not_true_eq_false] at hc
           all_goals first | (exfalso; with_reducible exact bft hc) | (exfalso; with_reducible exact btf hc) | (exfalso; omega) | skip
           all_goals refine tc_skip ?_
           all_goals (refine hK7 ?_; try (clear hK7; clear K7))
           all_goals refine tc_seq fun K9 hK9 => ?_
           all_goals refine tc_block ?_
           all_goals refine tc_region ?_
           all_goals refine tl_q (y_move rfl) rfl ?_
           all_goals refine tl_q (y_move rfl) rfl ?_
           all_goals refine tl_q (y_move rfl) rfl ?_
           all_goals (refine tl_q (y_index rfl rfl (by omega) had') rfl ?_)
           all_goals (refine tl_q (y_load1o rfl (fun w' hw' => hcell w' (hw'.fr (by simp)) _ (by omega))) rfl ?_)
           all_goals refine tl_q (y_min rfl rfl) rfl ?_
           all_goals refine tl_q (y_assign rfl) rfl ?_
           all_goals refine tl_nil ?_
           all_goals (refine hK9 ?_; try (clear hK9; clear K9))
           all_goals refine tc_region ?_
           all_goals refine tl_q (y_move rfl) rfl ?_
           all_goals refine tl_q (y_add rfl rfl (by omega)) rfl ?_
           all_goals refine tl_q (y_assign rfl) rfl ?_
           all_goals refine tl_nil ?_
           all_goals (
            obtain ⟨rfl, rfl⟩ : m = a ∧ i = 1 := by omega
            exact tk_round (min m b, 2) (.inr ⟨rfl, rfl⟩) (by simp) (.cons rfl (.cons rfl (.cons rfl .nil))) (fun _ h => h))
         · try simp only [decide_eq_true_eq, decide_eq_false_iff_not, Int.not_lt, Int.not_le, Bool.not_eq_true', Bool.not_eq_false', Decidable.not_not, not_true_eq_false] at hc
           all_goals first | (exfalso; with_reducible exact bft hc) | (exfalso; with_reducible exact btf hc) | (exfalso; omega) | skip
           all_goals refine tc_exit ?_
           all_goals (refine hK5 ?_; try (clear hK5; clear K5))
           all_goals refine tc_seq fun K10 hK10 => ?_
           all_goals refine tc_region ?_
           all_goals refine tl_q (y_move rfl) rfl ?_
           all_goals refine tl_q (y_assign rfl) rfl ?_
           all_goals refine tl_nil ?_
           all_goals (refine hK10 ?_; try (clear hK10; clear K10))
           all_goals refine tc_ret ?_
           all_goals (repeat (first | refine tk_then_ret ?_))
           all_goals first | refine tk_ret rfl rfl (.cons (.tmp rfl) .nil) ?_ | refine tk_retM rfl (by repeat constructor) rfl (.cons (.tmp rfl) .nil) ?_
           all_goals (
            have hm : m = min a b := by omega
            exact fun w' hw' => ⟨by rw [hm]; rfl, hw'.fr (by simp)⟩))))
theorem RdI.own {bs : List (World × List Nat)} {H : List (Nat × Obj)} {w : World} {b : Nat} {xs : List Int} {e : TypeId} {f : Nat × Nat} {cap : Nat} {junk : List Value} (hw : HG bs H w) (hm : HM b (.cells (xs.map vi ++ junk).toArray e f) H) : RdI w (.slice (some ⟨b, 0, none⟩) xs.length cap) xs := by
  refine ⟨by simp, _, _, rfl, fun _ => ⟨b, 0, rfl, ?_⟩⟩
  have := CA_pre (xs.map vi) junk e f
  rw [List.length_map] at this
  rw [Nat.mul_one]
  exact this.cells (hw.heap _ hm.mem)
theorem RdI.own0 {bs : List (World × List Nat)} {H : List (Nat × Obj)} {w : World} {b : Nat} {xs : List Int} {e : TypeId} {f : Nat × Nat} {cap : Nat} (hw : HG bs H w) (hm : HM b (.cells (xs.map vi).toArray e f) H) : RdI w (.slice (some ⟨b, 0, none⟩) xs.length cap) xs :=
  RdI.own (junk := []) hw (by rw [List.append_nil]; exact hm)
theorem minimum_c (a b : Int) (sl : Value) (w : World) (hr : RdI w sl [a, b]) : CnV Try.prog 63 #[sl] w (vi (min a b)) := by
  refine cnv (vs := [_]) Try.func63 rfl rfl ?_
  all_goals refine tc_seq fun K1 hK1 => ?_
  all_goals refine tc_region ?_
  all_goals refine tl_q (y_assign rfl) rfl ?_
  all_goals refine tl_nil ?_
  all_goals (refine hK1 ?_; try (clear hK1; clear K1))
  all_goals refine tc_seq fun K2 hK2 => ?_
  all_goals refine tc_region ?_
  all_goals refine tl_q (y_move rfl) rfl ?_
  all_goals refine tl_e (e_callV rfl (.cons rfl .nil) (fun w' hw' => min_c _ _ _ w' (hr.fr (hw'.fr (by simp))))) rfl (fun _ _ => ?_)
  all_goals refine tl_q (y_assign rfl) rfl ?_
  all_goals refine tl_nil ?_
  all_goals (refine hK2 ?_; try (clear hK2; clear K2))
  all_goals refine tc_ret ?_
  all_goals (repeat (first | refine tk_then_ret ?_))
  all_goals first | refine tk_ret rfl rfl (.cons (.tmp rfl) .nil) ?_ | refine tk_retM rfl (by repeat constructor) rfl (.cons (.tmp rfl) .nil) ?_
  all_goals (
   exact fun w' hw' => ⟨rfl, hw'.fr (by simp)⟩)
theorem meet_c (a b c d : Int) (w : World) : CnV Try.prog 39 #[.agg #[vi a, vi b], .agg #[vi c, vi d]] w (.agg #[vi (max a c), vi (min b d)]) := by
  refine cnv (vs := [_, _]) Try.func39 rfl rfl ?_
  all_goals refine tc_seq fun K1 hK1 => ?_
  all_goals refine tc_region ?_
  all_goals refine tl_e (e_box rfl rfl rfl) rfl (fun _ _ => ?_)
  all_goals refine tl_e (e_box rfl rfl rfl) rfl (fun _ _ => ?_)
  all_goals refine tl_e (e_allocN rfl) rfl (fun _ _ => ?_)
  all_goals refine tl_nil ?_
  all_goals (refine hK1 ?_; try (clear hK1; clear K1))
  all_goals refine tc_seq fun K2 hK2 => ?_
  all_goals refine tc_draw (by kernel_rfl) ?_
  all_goals refine tx_p 0 rfl (by kernel_rfl) (y_field rfl) rfl (fun _ _ _ h => h) (fun _ h => h) ?_
  all_goals refine tx_q 1 rfl (by kernel_rfl) (y_load1 rfl (by repeat constructor) (by rfl)) rfl (fun _ _ _ h => h) (fun _ h => h) ?_
  all_goals refine tx_p 2 rfl (by kernel_rfl) (y_field rfl) rfl (fun _ _ _ h => h) (fun _ h => h) ?_
  all_goals refine tx_q 3 rfl (by kernel_rfl) (y_load1 rfl (by repeat constructor) (by rfl)) rfl (fun _ _ _ h => h) (fun _ h => h) ?_
  all_goals refine tx_p 4 rfl (by kernel_rfl) (y_max rfl rfl) rfl (fun _ _ _ h => h) (fun _ h => h) ?_
  all_goals refine tx_p 5 rfl (by kernel_rfl) (y_field rfl) rfl (fun _ _ _ h => h) (fun _ h => h) ?_
  all_goals refine tx_q 6 rfl (by kernel_rfl) (y_load1 rfl (by repeat constructor) (by rfl)) rfl (fun _ _ _ h => h) (fun _ h => h) ?_
  all_goals refine tx_p 7 rfl (by kernel_rfl) (y_field rfl) rfl (fun _ _ _ h => h) (fun _ h => h) ?_
  all_goals refine tx_q 8 rfl (by kernel_rfl) (y_load1 rfl (by repeat constructor) (by rfl)) rfl (fun _ _ _ h => h) (fun _ h => h) ?_
  all_goals refine tx_e 9 rfl (by kernel_rfl) rfl (e_bslice rfl (by (repeat (first | exact .nil | apply PV.one rfl rfl)); done) rfl rfl) (.inr qq1) (fun _ _ => ?_)
  all_goals refine tx_e 10 rfl (by kernel_rfl) rfl (e_callV rfl (.cons rfl .nil) (fun w' hw' => minimum_c b d _ w' (RdI.own0 (xs := [b, d]) hw' (by repeat constructor)))) (.inr fun _ _ h => h) (fun _ _ => ?_)
  all_goals refine tx_p 11 rfl (by kernel_rfl) (y_build_2 rfl rfl rfl rfl) rfl (fun _ _ _ h => h) (fun _ h => h) ?_
  all_goals refine tx_e 12 rfl (by kernel_rfl) rfl (e_storeW rfl rfl (by repeat constructor) (by rfl) (by rfl) (by simp [Value.oneCell'])) (.inl (by kernel_rfl)) (fun _ _ => ?_)
  all_goals refine tx_done (by kernel_rfl) ?_
  all_goals (refine hK2 ?_; try (clear hK2; clear K2))
  all_goals refine tc_ret ?_
  all_goals (repeat (first | refine tk_then_ret ?_))
  all_goals first | refine tk_ret rfl rfl (.cons (.agg inferInstance rfl (by repeat constructor) (by rfl)) .nil) ?_ | refine tk_retM rfl (by repeat constructor) rfl (.cons (.agg inferInstance rfl (by repeat constructor) (by rfl)) .nil) ?_
  all_goals (
   exact fun w' hw' => ⟨rfl, hw'.fr (by simp)⟩)
theorem mass_c (s : Sn) (hs : VS s) (k : Int) (h0 : 0 ≤ k) (h1 : k ≤ s.weights.length) (sl : Value) (w : World) (hr : RdI w sl s.weights) : CnV Try.prog 64 #[spV s sl, vi k] w (vi (massF s k)) := by
  have hbd := massF_bd hs h0 h1
  obtain ⟨ad, cap, b0, o, rfl, had, hcell⟩ := hr.open
  refine cnv (vs := [_, _]) Try.func64 rfl rfl ?_
  all_goals refine tc_seq fun K1 hK1 => ?_
  all_goals refine tc_region ?_
  all_goals refine tl_e (e_box rfl rfl rfl) rfl (fun _ _ => ?_)
  all_goals refine tl_q (y_assign rfl) rfl ?_
  all_goals refine tl_nil ?_
  all_goals (refine hK1 ?_; try (clear hK1; clear K1))
  all_goals refine tc_seq fun K2 hK2 => ?_
  all_goals refine tc_seq fun K3 hK3 => ?_
  all_goals refine tc_region ?_
  all_goals refine tl_q (y_move rfl) rfl ?_
  all_goals refine tl_q (y_eql rfl rfl) rfl ?_
  all_goals refine tl_nil ?_
  all_goals (refine hK3 ?_; try (clear hK3; clear K3))
  all_goals (
   refine tc_cond rfl (fun hc => ?_) (fun hc => ?_)
   · try simp only [decide_eq_true_eq, decide_eq_false_iff_not, Int.not_lt, Int.not_le, Bool.not_eq_true', Bool.not_eq_false', Decidable.not_not, not_true_eq_false] at hc
     all_goals first | (exfalso; with_reducible exact bft hc) | (exfalso; with_reducible exact btf hc) | (exfalso; omega) | skip
     all_goals refine tc_seq fun K4 hK4 => ?_
     all_goals refine tc_region ?_
     all_goals refine tl_q (y_field rfl) rfl ?_
     all_goals (refine tl_q (y_load1 rfl (by repeat constructor) (by rfl)) rfl ?_)
     all_goals refine tl_q (y_assign rfl) rfl ?_
     all_goals refine tl_nil ?_
     all_goals (refine hK4 ?_; try (clear hK4; clear K4))
     all_goals refine tc_ret ?_
     all_goals (repeat (refine tk_then_ret ?_))
     all_goals first | refine tk_ret rfl rfl (.cons (.tmp rfl) .nil) ?_ | refine tk_retM rfl (by repeat constructor) rfl (.cons (.tmp rfl) .nil) ?_
     all_goals (
      first | exact fun w' hw' => ⟨by unfold massF; rw [if_pos (by omega)]; rfl, hw'.fr (by simp)⟩ | exact fun w' hw' => ⟨by rw [hm, Nat.mul_one]; rfl, hw'.fr (by simp)⟩)
   · try simp only [decide_eq_true_eq, decide_eq_false_iff_not, Int.not_lt, Int.not_le, Bool.not_eq_true', Bool.not_eq_false', Decidable.not_not, not_true_eq_false] at hc
     all_goals first | (exfalso; with_reducible exact bft hc) | (exfalso; with_reducible exact btf hc) | (exfalso; omega) | skip
     all_goals refine tc_skip ?_
     all_goals (refine hK2 ?_; try (clear hK2; clear K2))
     all_goals refine tc_seq fun K5 hK5 => ?_
     have had' := had (by omega)
     have hm : massF s k = s.mass + s.weights.getD (k - 1).toNat 0 := by unfold massF; rw [if_neg (by omega)]
     have hm1 := hs.m1
     have hn6 := hs.n
     have hm2 := hs.m2
     all_goals refine tc_draw (by kernel_rfl) ?_
     all_goals refine tx_p 0 rfl (by kernel_rfl) (y_field rfl) rfl (fun _ _ _ h => h) (fun _ h => h) ?_
     all_goals (refine tx_q 1 rfl (by kernel_rfl) (y_load1 rfl (by repeat constructor) (by rfl)) rfl (fun _ _ _ h => h) (fun _ h => h) ?_)
     all_goals refine tx_p 2 rfl (by kernel_rfl) (y_field rfl) rfl (fun _ _ _ h => h) (fun _ h => h) ?_
     all_goals (refine tx_q 3 rfl (by kernel_rfl) (y_load1 rfl (by repeat constructor) (by rfl)) rfl (fun _ _ _ h => h) (fun _ h => h) ?_)
     all_goals refine tx_p 4 rfl (by kernel_rfl) (y_move rfl) rfl (fun _ _ _ h => h) (fun _ h => h) ?_
     all_goals (refine tx_p 5 rfl (by kernel_rfl) (y_sub rfl rfl (by omega)) rfl (fun _ _ _ h => h) (fun _ h => h) ?_)
     all_goals (refine tx_p 6 rfl (by kernel_rfl) (y_index rfl rfl (by omega) had') rfl (fun _ _ _ h => h) (fun _ h => h) ?_)
     all_goals (refine tx_q 7 rfl (by kernel_rfl) (y_load1o rfl (fun w' hw' => hcell w' (hw'.fr (by simp)) ((k - 1).toNat * 1) (by omega))) rfl (fun _ _ _ h => h) (fun _ h => h) ?_)
     all_goals (refine tx_p 8 rfl (by kernel_rfl) (y_add rfl rfl (by rw [Nat.mul_one]; omega)) rfl (fun _ _ _ h => h) (fun _ h => h) ?_)
     all_goals refine tx_p 9 rfl (by kernel_rfl) (y_assign rfl) rfl (fun _ _ _ h => h) (fun _ h => h) ?_
     all_goals refine tx_done (by kernel_rfl) ?_
     all_goals (refine hK5 ?_; try (clear hK5; clear K5))
     all_goals refine tc_ret ?_
     all_goals (repeat (first | refine tk_then_ret ?_))
     all_goals first | refine tk_ret rfl rfl (.cons (.tmp rfl) .nil) ?_ | refine tk_retM rfl (by repeat constructor) rfl (.cons (.tmp rfl) .nil) ?_
     all_goals (
      first | exact fun w' hw' => ⟨by unfold massF; rw [if_pos (by omega)]; rfl, hw'.fr (by simp)⟩ | exact fun w' hw' => ⟨by rw [hm, Nat.mul_one]; rfl, hw'.fr (by simp)⟩))
theorem load_c (s : Sn) (n : Int) (sl : Value) (w : World) (hr : RdI w sl s.weights) : CnV Try.prog 58 #[spV s sl, vi n] w (.bool (decide (0 ≤ n ∧ n ≤ s.weights.length))) := by
  obtain ⟨ad, cap, b0, o, rfl, had, hcell⟩ := hr.open
  refine cnv (vs := [_, _]) Try.func58 rfl rfl ?_
  all_goals refine tc_seq fun K1 hK1 => ?_
  all_goals refine tc_region ?_
  all_goals refine tl_e (e_box rfl rfl rfl) rfl (fun _ _ => ?_)
  all_goals refine tl_q (y_assign rfl) rfl ?_
  all_goals refine tl_nil ?_
  all_goals (refine hK1 ?_; try (clear hK1; clear K1))
  all_goals refine tc_seq fun K2 hK2 => ?_
  all_goals refine tc_region ?_
  all_goals refine tl_q (y_move rfl) rfl ?_
  all_goals refine tl_q (y_field rfl) rfl ?_
  all_goals refine tl_q (y_load1 rfl (by repeat constructor) (by rfl)) rfl ?_
  all_goals refine tl_q (y_len rfl) rfl ?_
  all_goals refine tl_e (e_callV rfl (.cons rfl (.cons rfl (.cons rfl .nil))) (fun w hw => within_c _ _ _ w)) rfl (fun _ _ => ?_)
  all_goals refine tl_q (y_assign rfl) rfl ?_
  all_goals refine tl_nil ?_
  all_goals (refine hK2 ?_; try (clear hK2; clear K2))
  all_goals refine tc_ret ?_
  all_goals (repeat (first | refine tk_then_ret ?_))
  all_goals first | refine tk_ret rfl rfl (.cons (.tmp rfl) .nil) ?_ | refine tk_retM rfl (by repeat constructor) rfl (.cons (.tmp rfl) .nil) ?_
  all_goals (
   exact fun w' hw' => ⟨rfl, hw'.fr (by simp)⟩)
theorem seen_c (s : Sn) (n : Int) (sl : Value) (w : World) : CnV Try.prog 59 #[spV s sl, vi n] w (.bool (decide (-2 ≤ n ∧ n ≤ s.divisions))) := by
  refine cnv (vs := [_, _]) Try.func59 rfl rfl ?_
  all_goals refine tc_seq fun K1 hK1 => ?_
  all_goals refine tc_region ?_
  all_goals refine tl_e (e_box rfl rfl rfl) rfl (fun _ _ => ?_)
  all_goals refine tl_q (y_assign rfl) rfl ?_
  all_goals refine tl_nil ?_
  all_goals (refine hK1 ?_; try (clear hK1; clear K1))
  all_goals refine tc_seq fun K2 hK2 => ?_
  all_goals refine tc_region ?_
  all_goals refine tl_q (y_move rfl) rfl ?_
  all_goals refine tl_q (y_field rfl) rfl ?_
  all_goals refine tl_q (y_load1 rfl (by repeat constructor) (by rfl)) rfl ?_
  all_goals refine tl_e (e_callV rfl (.cons rfl (.cons rfl (.cons rfl .nil))) (fun w hw => within_c _ _ _ w)) rfl (fun _ _ => ?_)
  all_goals refine tl_q (y_assign rfl) rfl ?_
  all_goals refine tl_nil ?_
  all_goals (refine hK2 ?_; try (clear hK2; clear K2))
  all_goals refine tc_ret ?_
  all_goals (repeat (first | refine tk_then_ret ?_))
  all_goals first | refine tk_ret rfl rfl (.cons (.tmp rfl) .nil) ?_ | refine tk_retM rfl (by repeat constructor) rfl (.cons (.tmp rfl) .nil) ?_
  all_goals (
   exact fun w' hw' => ⟨rfl, hw'.fr (by simp)⟩)
theorem floating_c (s : Sn) (hs : VS s) (k : Int) (h0 : 0 ≤ k) (h1 : k ≤ s.weights.length) (sl : Value) (w : World) (hr : RdI w sl s.weights) : CnV Try.prog 67 #[spV s sl, vi k] w (.agg #[vi (floF s k).1, vi (floF s k).2]) := by
  have hbd := massF_bd hs h0 h1
  have hds := ds_bd hs
  have := hs.v1
  have := hs.v2
  refine cnv (vs := [_, _]) Try.func67 rfl rfl ?_
  all_goals refine tc_seq fun K1 hK1 => ?_
  all_goals refine tc_region ?_
  all_goals refine tl_e (e_box rfl rfl rfl) rfl (fun _ _ => ?_)
  all_goals refine tl_e (e_allocN rfl) rfl (fun _ _ => ?_)
  all_goals refine tl_nil ?_
  all_goals (refine hK1 ?_; try (clear hK1; clear K1))
  all_goals refine tc_seq fun K2 hK2 => ?_
  all_goals refine tc_region ?_
  all_goals (refine tl_q (y_loadW rfl (by repeat constructor) (by rfl)) rfl ?_)
  all_goals refine tl_q (y_move rfl) rfl ?_
  all_goals refine tl_e (e_callV rfl (.cons rfl (.cons rfl .nil)) (fun w' hw' => mass_c s hs k h0 h1 _ w' (hr.fr (hw'.fr (by simp))))) rfl (fun _ _ => ?_)
  all_goals refine tl_q (y_assign rfl) rfl ?_
  all_goals refine tl_nil ?_
  all_goals (refine hK2 ?_; try (clear hK2; clear K2))
  all_goals refine tc_seq fun K3 hK3 => ?_
  all_goals refine tc_draw (by kernel_rfl) ?_
  all_goals refine tx_p 1 rfl (by kernel_rfl) (y_move rfl) rfl (fun _ _ _ h => h) (fun _ h => h) ?_
  all_goals refine tx_p 2 rfl (by kernel_rfl) (y_field rfl) rfl (fun _ _ _ h => h) (fun _ h => h) ?_
  all_goals refine tx_q 3 rfl (by kernel_rfl) (y_load1 rfl (by repeat constructor) (by rfl)) rfl (fun _ _ _ h => h) (fun _ h => h) ?_
  all_goals refine tx_p 4 rfl (by kernel_rfl) (y_field rfl) rfl (fun _ _ _ h => h) (fun _ h => h) ?_
  all_goals refine tx_q 5 rfl (by kernel_rfl) (y_load1 rfl (by repeat constructor) (by rfl)) rfl (fun _ _ _ h => h) (fun _ h => h) ?_
  all_goals refine tx_p 6 rfl (by kernel_rfl) (y_field rfl) rfl (fun _ _ _ h => h) (fun _ h => h) ?_
  all_goals refine tx_q 7 rfl (by kernel_rfl) (y_load1 rfl (by repeat constructor) (by rfl)) rfl (fun _ _ _ h => h) (fun _ h => h) ?_
  all_goals refine tx_p 8 rfl (by kernel_rfl) (y_mul rfl rfl (by omega)) rfl (fun _ _ _ h => h) (fun _ h => h) ?_
  all_goals refine tx_p 9 rfl (by kernel_rfl) (y_add rfl rfl (by omega)) rfl (fun _ _ _ h => h) (fun _ h => h) ?_
  all_goals refine tx_p 11 rfl (by kernel_rfl) (y_move rfl) rfl (fun _ _ _ h => h) (fun _ h => h) ?_
  all_goals refine tx_p 12 rfl (by kernel_rfl) (y_field rfl) rfl (fun _ _ _ h => h) (fun _ h => h) ?_
  all_goals refine tx_q 13 rfl (by kernel_rfl) (y_load1 rfl (by repeat constructor) (by rfl)) rfl (fun _ _ _ h => h) (fun _ h => h) ?_
  all_goals refine tx_e 0 rfl (by kernel_rfl) rfl (e_callV rfl .nil (fun w' _ => every_c w')) (.inr fun _ _ h => h) (fun _ _ => ?_)
  all_goals refine tx_e 10 rfl (by kernel_rfl) rfl (e_callV rfl (.cons rfl (.cons rfl .nil)) (fun w' _ => from_c _ _ (by omega) (by omega) (by omega) (by omega) w')) (.inr fun _ _ h => h) (fun _ _ => ?_)
  all_goals refine tx_e 14 rfl (by kernel_rfl) rfl (e_callV rfl (.cons rfl (.cons rfl .nil)) (fun w' _ => below_c _ _ (by omega) (by omega) (by omega) (by omega) w')) (.inr fun _ _ h => h) (fun _ _ => ?_)
  all_goals refine tx_p 15 rfl (by kernel_rfl) (y_build_2 rfl rfl rfl rfl) rfl (fun _ _ _ h => h) (fun _ h => h) ?_
  all_goals refine tx_e 16 rfl (by kernel_rfl) rfl (e_callV rfl (.cons rfl (.cons rfl .nil)) (fun w' _ => meet_c _ _ _ _ w')) (.inr fun _ _ h => h) (fun _ _ => ?_)
  all_goals refine tx_e 17 rfl (by kernel_rfl) rfl (e_storeW rfl rfl (by repeat constructor) (by rfl) (by rfl) (by simp [Value.oneCell'])) (.inl (by kernel_rfl)) (fun _ _ => ?_)
  all_goals refine tx_done (by kernel_rfl) ?_
  all_goals (refine hK3 ?_; try (clear hK3; clear K3))
  all_goals refine tc_ret ?_
  all_goals (repeat (first | refine tk_then_ret ?_))
  all_goals first | refine tk_ret rfl rfl (.cons (.agg inferInstance rfl (by repeat constructor) (by rfl)) .nil) ?_ | refine tk_retM rfl (by repeat constructor) rfl (.cons (.agg inferInstance rfl (by repeat constructor) (by rfl)) .nil) ?_
  all_goals (
   exact fun w' hw' => ⟨rfl, hw'.fr (by simp)⟩)
end Go.Sp
