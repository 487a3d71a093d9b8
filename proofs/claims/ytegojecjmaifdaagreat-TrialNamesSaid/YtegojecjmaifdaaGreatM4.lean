
/-
  Package trial: whether a truth is one of a trial.
-/
import Derived.Test.YtegojecjmaifdaaGreatM3
import Derived.Laws.AppendOwn
import Derived.Test.YtegojecjmaifdaaGreatRows
import Derived.ProofKit
import Derived.OpenShut
import Derived.Carry
import Derived.Deep.Fields
set_option linter.unusedVariables false
set_option linter.unusedSimpArgs false
set_option linter.deprecated false
namespace Go.Sp
open Go Go.Proofs
/-- What is asked of a function value that tests a test of a trial, and keeps something at bm. -/
def TestsTM (P : Program) (g : FuncId) (first cap : Array Value) (bm : Nat) (J : Obj → Prop) (p : E3 → Bool) (xs : List E3) (w : World) : Prop :=
  ∀ (x : E3) (o : Obj) (w' : World), Fr [bm] w w' → w'.heap[bm]? = some o → J o → x ∈ xs → CnX P g (first ++ #[tsV x] ++ cap) w' [bm] (fun _ : Obj => .bool (p x)) (fun o' w2 => J o' ∧ w2.heap[bm]? = some o')
theorem TestsTM.fr {P : Program} {g : FuncId} {first cap : Array Value} {bm : Nat} {J : Obj → Prop} {p : E3 → Bool} {xs : List E3} {w w1 : World} (h : TestsTM P g first cap bm J p xs w) (f : Fr [bm] w w1) : TestsTM P g first cap bm J p xs w1 := fun x o w' f' hl hj hx => h x o w' (f.trans f' (fun x hx => .inl hx)) hl hj hx
theorem indexFuncTM_c (g : FuncId) [GoFn Tryz.prog g] (first cap : Array Value) (bm : Nat) (J : Obj → Prop) (p : E3 → Bool) (xs : List E3) (hx : (xs.length : Int) ≤ 9000000000000000000) (sl : Value) (w : World) (o0 : Obj) (hl : w.heap[bm]? = some o0) (hJ : J o0) (hrd : ∀ w', Fr [bm] w w' → RdT w' sl xs) (ht : TestsTM Tryz.prog g first cap bm J p xs w) :
    CnX Tryz.prog 159 #[sl, .func (.func g) first cap] w [bm] (fun _ : Obj => vi (idxT xs p)) (fun o' w2 => J o' ∧ w2.heap[bm]? = some o') := by
  obtain ⟨ad, cp, b0, o, rfl, had, _⟩ := (hrd w (Fr.refl _ _)).open
  refine cnxS (vs := [_, _]) (S := [bm]) [(bm, o0)] Tryz.func159 rfl rfl ⟨by simp [hl], by simp, by simp⟩ ?_
  all_goals refine tc_seq fun K1 hK1 => ?_; refine tc_region ?_; refine tl_q (y_assign rfl) rfl ?_; refine tl_nil ?_; ((refine hK1 ?_; try (clear hK1; clear K1)))
  all_goals refine tc_seq fun K2 hK2 => ?_; refine tc_seq fun K3 hK3 => ?_; refine tc_region ?_; refine tl_q (y_move rfl) rfl ?_; refine tl_q (y_len rfl) rfl ?_; refine tl_q (y_move rfl) rfl ?_; refine tl_nil ?_; ((refine hK3 ?_; try (clear hK3; clear K3)))
  all_goals refine tc_block ?_
  all_goals (
   refine tc_loop (fun q : Nat × Obj => (q.1 ≤ xs.length ∧ ∀ j, j < q.1 → p (xs.getD j (0, 0, 0)) = false) ∧ J q.2) (fun q => [(0, .slice ad xs.length cp), (1, .func (.func g) first cap), (7, vi xs.length), (8, vi q.1)]) (fun _ => [(w, [bm])]) (fun q => [(bm, q.2)]) (fun q => xs.length - q.1) ?_ ?_
   · exact tk_start (0, o0) ⟨⟨Nat.zero_le _, fun j hj => absurd hj (Nat.not_lt_zero j)⟩, hJ⟩ (.cons rfl (.cons rfl (.cons rfl (.cons rfl .nil)))) (fun _ h => h)
   · rintro ⟨k, o1⟩ ⟨⟨hk, hj⟩, hJ1⟩
     dsimp only at hk hj hJ1 ⊢
     all_goals refine tc_seq fun K4 hK4 => ?_; refine tc_region ?_; refine tl_q (y_lss rfl rfl) rfl ?_; refine tl_nil ?_; ((refine hK4 ?_; try (clear hK4; clear K4)))
     all_goals refine tc_seq fun K5 hK5 => ?_
     all_goals (
      refine tc_cond rfl (fun hc => ?_) (fun hc => ?_)
      · try simp only [qn1, qn2, qn3, qn4, qn5, qn6, qn7, qn8] at hc
        all_goals refine tc_skip ?_; ((refine hK5 ?_; try (clear hK5; clear K5)))
        all_goals refine tc_seq fun K6 hK6 => ?_; refine tc_block ?_; refine tc_seq fun K7 hK7 => ?_; refine tc_region ?_; refine tl_q (y_move rfl) rfl ?_; refine tl_q (y_assign rfl) rfl ?_; refine tl_nil ?_; ((refine hK7 ?_; try (clear hK7; clear K7)))
        all_goals refine tc_seq fun K8 hK8 => ?_
        have had' := had (by omega)
        subst had'
        all_goals refine tc_region ?_; refine tl_q (y_move rfl) rfl ?_; refine tl_q (y_move rfl) rfl ?_; refine tl_q (y_move rfl) rfl ?_; refine tl_q (y_index rfl rfl (by omega) rfl) rfl ?_; ((refine tl_q (y_loadNo rfl (fun w' hw' => by rw [show Int.toNat (k : Int) * 3 = k * 3 from by omega]; exact (hrd w' (hw'.fr (w0 := w) (S := [bm]) MI.m)).at (by omega))) rfl ?_))
        all_goals refine tl_e (e_callUf (val := fun _ : Obj => .bool (p (xs.getD k (0, 0, 0)))) (p := J) (b := bm) (ob := fun o => o) rfl rfl (.cons rfl .nil) (fun w' hw' => ht (xs.getD k (0, 0, 0)) o1 w' (hw'.fr (w0 := w) (S := [bm]) MI.m) (hw'.heap _ (HM.mem (by repeat constructor))) hJ1 (getD_memE (by omega))) (fun _ => (by repeat constructor))) rfl (fun z hz => ?_); refine tl_nil ?_; ((refine hK8 ?_; try (clear hK8; clear K8)))
        all_goals (
         refine tc_cond rfl (fun hc => ?_) (fun hc => ?_)
         · all_goals (skip)
           all_goals refine tc_seq fun K9 hK9 => ?_; refine tc_region ?_; refine tl_q (y_move rfl) rfl ?_; refine tl_q (y_assign rfl) rfl ?_; refine tl_nil ?_; ((refine hK9 ?_; try (clear hK9; clear K9)))
           all_goals refine tc_ret ?_; (repeat (first | refine tk_then_ret ?_ | refine tk_block_ret ?_))
           all_goals (refine tk_ret rfl rfl (.cons (.tmp rfl) .nil) ?_)
           all_goals (
            first
            | exact fun w' hw' => ⟨z, by rw [idxT_hit (k := k) (by omega) (by simpa using hc) hj]; rfl, hw'.fr (by simp), hz, hw'.heap _ (HM.mem (by repeat constructor))⟩
            | exact fun w' hw' => ⟨o1, by rw [idxT_miss (fun j hjj => hj j (by omega))]; rfl, hw'.fr (by simp), hJ1, hw'.heap _ (HM.mem (by repeat constructor))⟩)
         · all_goals (skip)
           all_goals refine tc_skip ?_; ((refine hK6 ?_; try (clear hK6; clear K6)))
           all_goals refine tc_region ?_; refine tl_q (y_add rfl rfl (by omega)) rfl ?_; refine tl_q (y_move rfl) rfl ?_; refine tl_nil ?_
           all_goals (
            exact tk_round (k + 1, z) ⟨⟨by dsimp only; omega, fun j hj' => by rcases Nat.lt_succ_iff_lt_or_eq.1 hj' with h | rfl; exact hj j h; simpa using hc⟩, hz⟩ (by dsimp only; omega) (.cons rfl (.cons rfl (.cons rfl (.cons rfl .nil)))) (fun _ h => h.subl SB.s SB.s)))
      · try simp only [qn1, qn2, qn3, qn4, qn5, qn6, qn7, qn8] at hc
        all_goals refine tc_exit ?_; ((refine hK2 ?_; try (clear hK2; clear K2)))
        all_goals refine tc_seq fun K10 hK10 => ?_; refine tc_region ?_; refine tl_q (y_assign rfl) rfl ?_; refine tl_nil ?_; ((refine hK10 ?_; try (clear hK10; clear K10)))
        all_goals refine tc_ret ?_; (repeat (first | refine tk_then_ret ?_))
        all_goals (refine tk_ret rfl rfl (.cons (.tmp rfl) .nil) ?_)
        all_goals (
         first
         | exact fun w' hw' => ⟨z, by rw [idxT_hit (k := k) (by omega) (by simpa using hc) hj]; rfl, hw'.fr (by simp), hz, hw'.heap _ (HM.mem (by repeat constructor))⟩
         | exact fun w' hw' => ⟨o1, by rw [idxT_miss (fun j hjj => hj j (by omega))]; rfl, hw'.fr (by simp), hJ1, hw'.heap _ (HM.mem (by repeat constructor))⟩)))
theorem containsFuncTM_c (g : FuncId) [GoFn Tryz.prog g] (first cap : Array Value) (bm : Nat) (J : Obj → Prop) (p : E3 → Bool) (xs : List E3) (hx : (xs.length : Int) ≤ 9000000000000000000) (sl : Value) (w : World) (o0 : Obj) (hl : w.heap[bm]? = some o0) (hJ : J o0) (hrd : ∀ w', Fr [bm] w w' → RdT w' sl xs) (ht : TestsTM Tryz.prog g first cap bm J p xs w) :
    CnX Tryz.prog 125 #[sl, .func (.func g) first cap] w [bm] (fun _ : Obj => .bool (xs.any p)) (fun o' w2 => J o' ∧ w2.heap[bm]? = some o') := by
  refine cnxS (vs := [_, _]) (S := [bm]) [(bm, o0)] Tryz.func125 rfl rfl ⟨by simp [hl], by simp, by simp⟩ ?_
  all_goals refine tc_seq fun K1 hK1 => ?_; refine tc_region ?_; refine tl_q (y_assign rfl) rfl ?_; refine tl_nil ?_; ((refine hK1 ?_; try (clear hK1; clear K1)))
  all_goals refine tc_seq fun K2 hK2 => ?_; refine tc_region ?_; refine tl_q (y_move rfl) rfl ?_; refine tl_q (y_move rfl) rfl ?_; refine tl_e (e_callU (ob := fun o => o) rfl (.cons rfl (.cons rfl .nil)) (fun w' hw' => indexFuncTM_c g first cap bm J p xs hx _ w' o0 (hw'.heap _ (HM.mem (by repeat constructor))) hJ (fun w2 f => hrd w2 ((hw'.fr (w0 := w) (S := [bm]) (by simp)).trans f (fun x hx => .inl hx))) (ht.fr (hw'.fr (by simp)))) (fun _ => (by repeat constructor))) rfl (fun z hz => ?_); refine tl_q (y_geq rfl rfl) rfl ?_; refine tl_q (y_assign rfl) rfl ?_; refine tl_nil ?_; ((refine hK2 ?_; try (clear hK2; clear K2)))
  all_goals refine tc_ret ?_; (repeat (first | refine tk_then_ret ?_))
  all_goals (refine tk_ret rfl rfl (.cons (.tmp rfl) .nil) ?_)
  all_goals (
   exact fun w' hw' => ⟨z, by rw [← idxT_any]; rfl, hw'.fr (by simp), hz, hw'.heap _ (HM.mem (by repeat constructor))⟩)
theorem allTM1_c (g : FuncId) [GoFn Tryz.prog g] (first cap : Array Value) (bm bp : Nat) (hne : bp ≠ bm) (J : Obj → Prop) (p : E3 → Bool) (xs : List E3) (w : World) (hb : w.heap[bp]? = some (.cells #[.func (.func g) first cap] 134 (0, 0))) (ht : TestsTM Tryz.prog g first cap bm J p xs w) :
    TestsTM Tryz.prog 126 #[] #[ptr bp] bm J (fun x => !(p x)) xs w := by
  intro x o w1 f1 hl hJ hx
  have hb1 := f1.keepS (by simpa using hne) hb
  rw [show (#[] ++ #[tsV x] ++ #[ptr bp] : Array Value) = #[tsV x, ptr bp] from by simp]
  refine cnxS (vs := [_, _]) (S := [bm]) [(bm, o)] Tryz.func126 rfl rfl ⟨by simp [hl], by simp, by simp⟩ ?_
  all_goals refine tc_seq fun K1 hK1 => ?_; refine tc_region ?_; refine tl_e (e_box rfl rfl rfl) rfl (fun _ _ => ?_); refine tl_q (y_assign rfl) rfl ?_; refine tl_nil ?_; ((refine hK1 ?_; try (clear hK1; clear K1)))
  all_goals refine tc_seq fun K2 hK2 => ?_; refine tc_region ?_; refine tl_q (y_load1o rfl (fun w' hw' => cell0 ((hw'.fr (w0 := w1) (S := [bm]) (by simp)).keepS (by simpa using hne) hb1) rfl)) rfl ?_; refine tl_q (y_loadW rfl (by repeat constructor) (by rfl)) rfl ?_; refine tl_e (e_callUf (val := fun _ : Obj => .bool (p x)) (p := J) (b := bm) (ob := fun o => o) rfl rfl (.cons rfl .nil) (fun w' hw' => ht x o w' (f1.trans (hw'.fr (w0 := w1) (S := [bm]) (by simp)) (fun x hx => .inl hx)) (hw'.heap _ (HM.mem (by repeat constructor))) hJ hx) (fun _ => (by repeat constructor))) rfl (fun z hz => ?_); refine tl_q (y_not rfl) rfl ?_; refine tl_q (y_assign rfl) rfl ?_; refine tl_nil ?_; ((refine hK2 ?_; try (clear hK2; clear K2)))
  all_goals refine tc_ret ?_; (repeat (first | refine tk_then_ret ?_))
  all_goals (refine tk_ret rfl rfl (.cons (.tmp rfl) .nil) ?_)
  all_goals (
   exact fun w' hw' => ⟨z, rfl, hw'.fr (by simp), hz, hw'.heap _ (HM.mem (by repeat constructor))⟩)
theorem allTM_c (g : FuncId) [GoFn Tryz.prog g] (first cap : Array Value) (bm : Nat) (J : Obj → Prop) (p : E3 → Bool) (xs : List E3) (hx : (xs.length : Int) ≤ 9000000000000000000) (sl : Value) (w : World) (o0 : Obj) (hl : w.heap[bm]? = some o0) (hJ : J o0) (hrd : ∀ w', Fr [bm] w w' → RdT w' sl xs) (ht : TestsTM Tryz.prog g first cap bm J p xs w) :
    CnX Tryz.prog 73 #[sl, .func (.func g) first cap] w [bm] (fun _ : Obj => .bool (xs.all p)) (fun o' w2 => J o' ∧ w2.heap[bm]? = some o') := by
  refine cnxS (vs := [_, _]) (S := [bm]) [(bm, o0)] Tryz.func73 rfl rfl ⟨by simp [hl], by simp, by simp⟩ ?_
  all_goals refine tc_seq fun K1 hK1 => ?_; refine tc_region ?_; refine tl_e (e_box rfl rfl rfl) rfl (fun bp _ => ?_); refine tl_q (y_assign rfl) rfl ?_; refine tl_nil ?_; ((refine hK1 ?_; try (clear hK1; clear K1)))
  all_goals refine tc_seq fun K2 hK2 => ?_; refine tc_region ?_; refine tl_q (y_move rfl) rfl ?_; refine tl_q (y_fn .nil (.cons rfl .nil)) rfl ?_; (refine tl_e (e_callU (ob := fun o => o) rfl (.cons rfl (.cons rfl .nil)) (fun w' hw' => containsFuncTM_c 126 #[] #[ptr bp] bm J (fun x => !(p x)) xs hx _ w' o0 (hw'.heap _ (HM.mem (by repeat constructor))) hJ (fun w2 f => hrd w2 ((hw'.fr (w0 := w) (S := [bm]) (by simp)).trans f (fun x hx => .inl hx))) (allTM1_c g first cap bm bp (by have := hw'.nodup; simp at this; omega) J p xs w' (hw'.heap _ (HM.mem (by repeat constructor))) (ht.fr (hw'.fr (by simp))))) (fun _ => (by repeat constructor))) rfl (fun z hz => ?_))
  all_goals (refine tl_q (y_not rfl) rfl ?_); refine tl_q (y_assign rfl) rfl ?_; refine tl_nil ?_; ((refine hK2 ?_; try (clear hK2; clear K2)))
  all_goals refine tc_ret ?_; (repeat (first | refine tk_then_ret ?_))
  all_goals (refine tk_ret rfl rfl (.cons (.tmp rfl) .nil) ?_)
  all_goals (
   exact fun w' hw' => ⟨z, by rw [List.all_eq_not_any_not]; rfl, hw'.fr (by simp), hz, hw'.heap _ (HM.mem (by repeat constructor))⟩)
end Go.Sp
/-
  Package trial: the truth that is shown.
-/
namespace Go.Sp
open Go Go.Proofs
theorem Reads.frI {w w' : World} {v : Value} {sz n : Nat} {vs : List Value} {S : List Nat} (h : Reads w v sz n vs) (f : Fr S w w') (hS : ∀ u ∈ vs, ∀ x ∈ S, ∀ k : Nat, w.cell? ⟨x, k, none⟩ ≠ some u) : Reads w' v sz n vs := by
  obtain ⟨h1, ad, cap, h2, h3⟩ := h
  refine ⟨h1, ad, cap, h2, fun hn => ?_⟩
  obtain ⟨b, o, h4, h5⟩ := h3 hn
  refine ⟨b, o, h4, ?_⟩
  clear h1 h2 h3 h4 hn
  generalize n * sz = q at h5
  induction h5 with
  | nil => exact .nil
  | @cons o n v vs hv _ ih =>
    exact .cons (f.cell (p := ⟨b, o, none⟩) (fun hb => hS v List.mem_cons_self b hb o hv) hv) (ih (fun u hu => hS u (List.mem_cons_of_mem _ hu)))
theorem RdI.frI {w w' : World} {v : Value} {xs : List Int} {b : Nat} (h : RdI w v xs) (f : Fr [b] w w') (hn : ∀ (k : Nat) (n : Int), w.cell? ⟨b, k, none⟩ ≠ some (vi n)) : RdI w' v xs :=
  Reads.frI h f (fun u hu x hx k => by
    obtain ⟨n, _, rfl⟩ := List.mem_map.1 hu
    rw [List.mem_singleton.1 hx]
    exact hn k n)
theorem no_int2 {w : World} {b : Nat} {e : TypeId} {f : Nat × Nat} (h : w.heap[b]? = some (.cells #[.slice none 0 0, .slice none 0 0] e f)) (k : Nat) (n : Int) : w.cell? ⟨b, k, none⟩ ≠ some (vi n) := by
  intro hc
  simp only [World.cell?, h] at hc
  rcases k with _ | _ | k
  · simp at hc
  · simp at hc
  · simp at hc
def errL (t : Tr) (e : E3) : List Int := (List.range t.parts.length).map (get3 e)
theorem errL_len (t : Tr) (e : E3) : (errL t e).length = t.parts.length := by simp [errL]
theorem cloneG_c (xs : List Int) (h0 : 0 < xs.length) (hx : xs.length ≤ 1000) (sl : Value) (w : World) (hr : RdI w sl xs) :
    CnX Tryz.prog 113 #[sl] w [] (slV xs.length) (fun x w' => RdI w' (slV xs.length x) xs) := by
  have hr0 := hr
  obtain ⟨ad, cap, b0, o, rfl, had, hcell⟩ := hr.open
  have had' := had h0
  subst had'
  refine cnx0 (vs := [_]) Tryz.func113 rfl rfl ?_
  all_goals refine tc_seq fun K1 hK1 => ?_; refine tc_region ?_; refine tl_q (y_assign rfl) rfl ?_; refine tl_nil ?_; ((refine hK1 ?_; try (clear hK1; clear K1)))
  all_goals refine tc_seq fun K2 hK2 => ?_; refine tc_seq fun K3 hK3 => ?_; refine tc_region ?_; refine tl_q (y_move rfl) rfl ?_; refine tl_q (y_eql_nil rfl rfl) rfl ?_; refine tl_nil ?_; ((refine hK3 ?_; try (clear hK3; clear K3)))
  all_goals (
   refine tc_cond rfl (fun hc => ?_) (fun hc => ?_)
   · all_goals (skip)
     all_goals refine tc_seq fun K4 hK4 => ?_; refine tc_region ?_; refine tl_q (y_assign rfl) rfl ?_; refine tl_nil ?_; ((refine hK4 ?_; try (clear hK4; clear K4)))
     all_goals refine tc_ret ?_; (repeat (refine tk_then_ret ?_))
     all_goals (refine tk_ret rfl rfl (.cons (.tmp rfl) .nil) ?_)
     all_goals (
      first
      | (refine fun w' hw' => ⟨(some ⟨z.1, 0, none⟩, z.2.1), ?_, hw'.fr (by simp), ?_⟩
         · unfold slV; rw [Nat.zero_add]; rfl
         · exact RdI.own (xs := xs) (cap := z.2.1) (junk := z.2.2) hw' (b := z.1) (by repeat constructor))
      | (exfalso; simp at hc))
   · all_goals (skip)
     all_goals refine tc_skip ?_; ((refine hK2 ?_; try (clear hK2; clear K2)))
     all_goals refine tc_seq fun K5 hK5 => ?_; refine tc_region ?_; (refine tl_e (e_bslice rfl (by (repeat (exact .nil)); done) rfl rfl) rfl (fun _ _ => ?_))
     all_goals refine tl_q (y_move rfl) rfl ?_; (refine tl_e (e_append_own (old := []) (junk := []) rfl rfl rfl (by repeat constructor) (by rfl) (by rfl) (Nat.le_refl _) (fun w' hw' => hr0.fr (hw'.fr (w0 := w) (S := []) MI.m)) (fun u hu => by obtain ⟨_, _, rfl⟩ := List.mem_map.1 hu; rfl) (by omega) rfl) rfl (fun z hz => ?_))
     all_goals refine tl_q (y_assign rfl) rfl ?_; refine tl_nil ?_; ((refine hK5 ?_; try (clear hK5; clear K5)))
     all_goals refine tc_ret ?_; (repeat (first | refine tk_then_ret ?_))
     all_goals (refine tk_ret rfl rfl (.cons (.tmp rfl) .nil) ?_)
     all_goals (
      first
      | (refine fun w' hw' => ⟨(some ⟨z.1, 0, none⟩, z.2.1), ?_, hw'.fr (by simp), ?_⟩
         · unfold slV; rw [Nat.zero_add]; rfl
         · exact RdI.own (xs := xs) (cap := z.2.1) (junk := z.2.2) hw' (b := z.1) (by repeat constructor))
      | (exfalso; simp at hc)))
def e0L (t : Tr) : E3 := (truthsL t []).getD 0 (0, 0, 0)
theorem e0_mem {t : Tr} (h : 0 < (truthsL t []).length) : e0L t ∈ truthsL t [] := getD_memE h
theorem errs_rd {w : World} {b o : Nat} {e : E3} {t : Tr} (hv : VT t) (h : CA (fun k => w.cell? ⟨b, k, none⟩) o 3 [vi e.1, vi e.2.1, vi e.2.2]) : RdI w (.slice (some ⟨b, o, none⟩) t.parts.length 3) (errL t e) := by
  have h1 := hv.p1
  have h3 := hv.p3
  have g0 := h.get 0 _ rfl
  have g1 := h.get 1 _ rfl
  have g2 := h.get 2 _ rfl
  unfold errL
  rcases (by omega : t.parts.length = 1 ∨ t.parts.length = 2 ∨ t.parts.length = 3) with h | h | h <;> rw [h]
  · exact ⟨rfl, _, _, rfl, fun _ => ⟨b, o, rfl, .cons g0 .nil⟩⟩
  · exact ⟨rfl, _, _, rfl, fun _ => ⟨b, o, rfl, .cons g0 (.cons g1 .nil)⟩⟩
  · exact ⟨rfl, _, _, rfl, fun _ => ⟨b, o, rfl, .cons g0 (.cons g1 (.cons g2 .nil))⟩⟩
theorem show_ok (t : Tr) (hn : NT t) (he : askedE t = 0) (sl pl ll tl : Value) (w : World) (hr : RdTr w t sl pl ll tl) :
    CnX Tryz.prog 51 #[trV t sl pl ll tl] w [] (fun y : (Option Addr × Nat) × Value => .tuple #[.agg #[slV t.parts.length y.1, y.2], vi 0]) (fun y w' => RdI w' (slV t.parts.length y.1) (errL t (e0L t)) ∧ RdI w' y.2 (dlN t (e0L t) [] t.liquids.length)) := by
  have hr0 := hr
  obtain ⟨hv, hpos⟩ := askedE_0 he
  have hp1 := hv.p1
  have hp3 := hv.p3
  have hmem := e0_mem hpos
  have heb := truths_bd hv hmem
  have hok := (mem_truths.1 hmem).2
  have hdd : denD t (e0L t) [] = dlN t (e0L t) [] t.liquids.length := if_pos hok
  obtain ⟨ap, cp, _, _, rfl, _, _⟩ := hr.ps.open
  refine cnx0 (vs := [_]) Tryz.func51 rfl rfl ?_
  all_goals refine tc_seq fun K1 hK1 => ?_; refine tc_region ?_; refine tl_e (e_box rfl rfl rfl) rfl (fun b1 _ => ?_); refine tl_e (e_allocN rfl) rfl (fun b2 _ => ?_); refine tl_q (y_assign rfl) rfl ?_; refine tl_nil ?_; ((refine hK1 ?_; try (clear hK1; clear K1)))
  all_goals refine tc_seq fun K2 hK2 => ?_; refine tc_region ?_; refine tl_q (y_loadW rfl (by repeat constructor) (by rfl)) rfl ?_; refine tl_e (e_callBX (bk := fun y : (Nat × Nat) × (Option Addr × Nat) × Array MapEntry × Nat => y.1.2) (ob := fun y => .map y.2.2.1 y.2.2.2) rfl (.cons rfl .nil) (fun w' hw' => asked_ok t hn he _ _ _ _ w' (hr0.fr (hw'.fr (w0 := w) (S := []) MI.m)))) rfl (fun y hy => ?_); refine tl_q (y_move rfl) rfl ?_; refine tl_q (y_extract rfl rfl) rfl ?_; refine tl_q (y_extract rfl rfl) rfl ?_; refine tl_q (y_extract rfl rfl) rfl ?_; refine tl_q (y_assign rfl) rfl ?_; refine tl_q (y_assign rfl) rfl ?_; refine tl_q (y_assign rfl) rfl ?_; refine tl_nil ?_; ((refine hK2 ?_; try (clear hK2; clear K2)))
  all_goals refine tc_seq fun K3 hK3 => ?_; refine tc_seq fun K4 hK4 => ?_; refine tc_region ?_; refine tl_q (y_move rfl) rfl ?_; refine tl_q (y_neq rfl rfl) rfl ?_; refine tl_nil ?_; ((refine hK4 ?_; try (clear hK4; clear K4)))
  all_goals (
   refine tc_cond rfl (fun hc => ?_) (fun hc => ?_)
   · try simp only [qn1, qn2, qn3, qn4, qn5, qn6, qn7, qn8] at hc
   · try simp only [qn1, qn2, qn3, qn4, qn5, qn6, qn7, qn8] at hc
     all_goals refine tc_skip ?_; ((refine hK3 ?_; try (clear hK3; clear K3)))
     all_goals refine tc_seq fun K6 hK6 => ?_; ((obtain ⟨bT, oT, hadT⟩ := hy.1.1.opens1; have hadT' := hadT hpos))
     all_goals refine tc_region ?_; refine tl_q (y_move rfl) rfl ?_; refine tl_q (y_move rfl) rfl ?_; refine tl_q (y_index rfl rfl (by omega) hadT') rfl ?_; refine tl_q (y_loadNo (n := 3) (vs := [vi (e0L t).1, vi (e0L t).2.1, vi (e0L t).2.2]) rfl (fun w' hw' => by exact ((hy.1.1.fr (hw'.calm hy.2 MI.m SB.s)).at1 hadT' hpos))) rfl ?_; (refine tl_e (e_callUX rfl (.cons rfl (.cons rfl (.cons rfl .nil))) (fun w' hw' => by have h := densities_c t hv (e0L t) heb [] (by simp) none 0 sl (.slice ap t.parts.length cp) ll tl w' y.1.1.1 y.1.1.2 y.1.2.2.1 y.1.2.2.2 ⟨hr0.fr (hw'.fr (w0 := w) (S := []) MI.m), (hw'.calm hy.2 MI.m SB.s).keep hy.1.2.2.1, hw'.heap _ (HM.mem (by repeat constructor)), hy.1.2.1, hr0.ws.one, hr0.ps.one, hr0.ls.one, hr0.ts.one⟩ (RdI.nil w'); rw [hdd, hok] at h; exact h) (fun _ => (by repeat constructor))) rfl (fun z hz => ?_))
     all_goals refine tl_q (y_move rfl) rfl ?_; refine tl_q (y_extract rfl rfl) rfl ?_; refine tl_q (y_extract rfl rfl) rfl ?_; refine tl_q (y_assign rfl) rfl ?_; refine tl_q (y_assign rfl) rfl ?_; refine tl_nil ?_; ((obtain ⟨ad9, cp9, _, _, hz9, _, _⟩ := hz.1.1.open; rw [hz9]))
     all_goals ((refine hK6 ?_; try (clear hK6; clear K6)))
     all_goals refine tc_seq fun K7 hK7 => ?_; ((have hrdT : ∀ w', Fr [y.1.1.2] y.2 w' → RdT w' (slV (truthsL t []).length y.1.2.1) (truthsL t []) := fun w' f => Reads.frM hy.1.1 f (fun z hz => by obtain rfl := List.mem_singleton.1 hz; exact ⟨_, _, hy.2.heap _ (HM.mem .head)⟩)))
     all_goals refine tc_draw (by kernel_rfl) ?_; refine tx_p 0 rfl (by kernel_rfl) (y_move rfl) rfl (fun _ _ _ h => h) (fun _ h => h) ?_; refine tx_p 1 rfl (by kernel_rfl) (y_index rfl rfl (by omega) hadT') rfl (fun _ _ _ h => h) (fun _ h => h) ?_; refine tx_p 2 rfl (by kernel_rfl) (y_field rfl) rfl (fun _ _ _ h => h) (fun _ h => h) ?_; refine tx_q 3 rfl (by kernel_rfl) (y_load1 rfl (by repeat constructor) (by rfl)) rfl (fun _ _ _ h => h) (fun _ h => h) ?_; refine tx_q 4 rfl (by kernel_rfl) (y_len rfl) rfl (fun _ _ _ h => h) (fun _ h => h) ?_; refine tx_q 5 rfl (by kernel_rfl) (y_sliceAT rfl rfl (by omega)) rfl (fun _ _ _ h => h) (fun _ h => h) ?_; refine tx_p 7 rfl (by kernel_rfl) (y_move rfl) rfl (fun _ _ _ h => h) (fun _ h => h) ?_; (refine tx_e 6 rfl (by kernel_rfl) rfl (e_callX rfl (.cons rfl .nil) (fun w' hw' => by have h := cloneG_c (errL t (e0L t)) (by rw [errL_len]; omega) (by rw [errL_len]; omega) (.slice (some ⟨bT, oT + 0 * 3, none⟩) t.parts.length 3) w' (errs_rd hv ((hrdT w' (hw'.calmM hy.2 (bm := y.1.1.2) MI.m (by (repeat (first | exact .nil | (refine AB.old ?_ ?_; (focus ((repeat constructor); done))) | refine AB.but ?_)); done))).at1 hadT' hpos)); rw [errL_len] at h; exact h)) (.inr fun _ _ h => h.sub (fun _ h => List.mem_cons_of_mem _ h) (List.Sublist.refl _)) (fun x hx => ?_))
     all_goals (refine tx_p 8 rfl (by kernel_rfl) (y_build_g (by repeat constructor)) rfl (fun _ _ _ h => h) (fun _ h => h) ?_); ((refine tx_e 9 rfl (by kernel_rfl) rfl (e_storeW (cs := #[slV t.parts.length x.1, .slice ad9 (dlN t (e0L t) [] t.liquids.length).length cp9]) rfl rfl (by repeat constructor) (by rfl) (by rfl) (by intro v hv; simp at hv; rcases hv with rfl | rfl <;> rfl)) (.inl (by kernel_rfl)) (fun _ _ => ?_)))
     all_goals refine tx_p 10 rfl (by kernel_rfl) (y_assign rfl) rfl (fun _ _ _ h => h) (fun _ h => h) ?_; refine tx_done (by kernel_rfl) ?_; ((refine hK7 ?_; try (clear hK7; clear K7)))
     all_goals refine tc_ret ?_; (repeat (first | refine tk_then_ret ?_))
     all_goals (refine tk_ret rfl rfl (.cons (.agg inferInstance rfl (by repeat constructor) (by rfl)) (.cons (.tmp rfl) .nil)) ?_)
     all_goals (
      refine fun w' hw' => ⟨(x.1, .slice ad9 (dlN t (e0L t) [] t.liquids.length).length cp9), rfl, hw'.fr (w0 := w) (S := []) MI.m, hx.1.frI (hw'.calmM hx.2 (bm := b2) MI.m (by (repeat (first | exact .nil | (refine AB.old ?_ ?_; (focus ((repeat constructor); done))) | refine AB.but ?_)); done)) (no_int2 (hx.2.heap (b2, _) (HM.mem (by repeat constructor)))), ?_⟩
      have h9 := hz.1.1
      rw [hz9] at h9
      exact h9.frI (hw'.calmM hz.2 (bm := b2) MI.m (by (repeat (first | exact .nil | (refine AB.old ?_ ?_; (focus ((repeat constructor); done))) | refine AB.but ?_)); done)) (no_int2 (hz.2.heap (b2, _) (HM.mem (by repeat constructor))))))
end Go.Sp
/-
  Package trial: whether a truth is one of a trial, walked.
-/
namespace Go.Sp
open Go Go.Proofs
def inN (t : Tr) (xd : List Int) (n : Nat) : Bool := (List.range n).all fun i => decide ((lqAt t i).1 ≤ xd.getD i 0 ∧ xd.getD i 0 ≤ (lqAt t i).2)
theorem inN_succ (t : Tr) (xd : List Int) (n : Nat) : inN t xd (n + 1) = (inN t xd n && decide ((lqAt t n).1 ≤ xd.getD n 0 ∧ xd.getD n 0 ≤ (lqAt t n).2)) := by simp [inN, List.range_succ, List.all_append]
def prP (t : Tr) (e : E3) (xd : List Int) (x : E3) : Bool := rightF t e x (xd.getD x.1.toNat 0)
def proveB (t : Tr) (xe xd : List Int) : Bool := decide (chkT t = 0) && (decide (xd.length = t.liquids.length) && ((errB t xe && inN t xd t.liquids.length) && t.tests.all (prP t (er3 xe) xd)))
theorem errE_of {t : Tr} {l : List Int} {b : Bool} (h : (errB t l && b) = true) : errE t l = (er3 l, true) := by
  rw [Bool.and_eq_true] at h
  exact if_pos h.1
theorem prove1_c (t : Tr) (hv : VT t) (e : E3) (he : ErB e) (xd : List Int) (hxd : xd.length = t.liquids.length) (ev dv sl pl ll tl : Value) (w : World) (b9 b5 b3 bw bm : Nat) (es : Array MapEntry) (ck : Nat) (hT : TW w t sl pl ll tl bw bm es ck)
    (h9 : w.heap[b9]? = some (.cells #[ptr bw] 130 (0, 0))) (h5 : w.heap[b5]? = some (.cells #[vi e.1, vi e.2.1, vi e.2.2] 126 (0, 0))) (h3 : w.heap[b3]? = some (.cells #[ev, dv] 106 (0, 0))) (hd : RdI w dv xd) :
    TestsTM Tryz.prog 114 #[] #[ptr b9, ptr b5, ptr b3] bm (JMt t) (prP t e xd) t.tests w := by
  intro x o w1 f1 hl hJ hx
  obtain ⟨es1, ck1, rfl, hc1⟩ := hJ
  have hmm : ∀ b : Nat, (∃ c tt f, w.heap[b]? = some (.cells c tt f)) → b ∉ [bm] := fun b hb hm => by
    obtain rfl := List.mem_singleton.1 hm
    obtain ⟨c, tt, f, hb⟩ := hb
    rw [hT.hm] at hb; cases hb
  have n9 := hmm b9 ⟨_, _, _, h9⟩
  have n5 := hmm b5 ⟨_, _, _, h5⟩
  have n3 := hmm b3 ⟨_, _, _, h3⟩
  have g9 := f1.keepS n9 h9
  have g5 := f1.keepS n5 h5
  have g3 := f1.keepS n3 h3
  have hT1 := hT.fr f1 hl hc1
  have hd1 : RdI w1 dv xd := Reads.frM hd f1 (fun q hq => by rw [List.mem_singleton.1 hq]; exact ⟨_, _, hT.hm⟩)
  have hx1 := List.all_eq_true.1 hv.ts x hx
  have hx2 := of_decide_eq_true hx1
  obtain ⟨ad, cp, bD, oD, rfl, hadD, _⟩ := hd1.open
  have hadD' := hadD (by omega)
  subst hadD'
  rw [show (#[] ++ #[tsV x] ++ #[ptr b9, ptr b5, ptr b3] : Array Value) = #[tsV x, ptr b9, ptr b5, ptr b3] from by simp]
  refine cnxS (vs := [_, _, _, _]) (S := [bm]) [(bm, .map es1 ck1)] Tryz.func114 rfl rfl ⟨by simp [hl], by simp, by simp⟩ ?_
  all_goals refine tc_seq fun K1 hK1 => ?_; refine tc_region ?_; refine tl_e (e_box rfl rfl rfl) rfl (fun b4 _ => ?_); refine tl_q (y_assign rfl) rfl ?_; refine tl_nil ?_; ((refine hK1 ?_; try (clear hK1; clear K1)))
  all_goals refine tc_seq fun K2 hK2 => ?_; refine tc_drawS ([(b4, .cells (tsV x).cells 121 (0, 0))]) (by kernel_rfl) ?_; refine tx_qS 0 rfl (by kernel_rfl) (y_load1o (v := ptr bw) rfl (fun w' hw' => cell0 ((hw'.fr (w0 := w1) (S := [bm]) MI.m).keepS n9 g9) rfl)) rfl (fun _ _ _ h => h) (fun _ h => h.subl SB.s SB.s) ?_; refine tx_qS 1 rfl (by kernel_rfl) (y_loadNo (n := 3) (vs := [vi e.1, vi e.2.1, vi e.2.2]) rfl (fun w' hw' => (CA_whole (c := #[vi e.1, vi e.2.1, vi e.2.2]) (t := 126) (f := (0, 0)) rfl).cells ((hw'.fr (w0 := w1) (S := [bm]) MI.m).keepS n5 g5))) rfl (fun _ _ _ h => h) (fun _ h => h.subl SB.s SB.s) ?_; refine tx_qS 2 rfl (by kernel_rfl) (y_loadW rfl (by repeat constructor) (by rfl)) rfl (fun _ _ _ h => h) (fun _ h => h.subl SB.s SB.s) ?_; refine tx_p 3 rfl (by kernel_rfl) (y_field rfl) rfl (fun _ _ _ h => h) (fun _ h => h.subl SB.s SB.s) ?_; refine tx_qS 4 rfl (by kernel_rfl) (y_load1o (v := .slice (some ⟨bD, oD, none⟩) xd.length cp) rfl (fun w' hw' => cell0 ((hw'.fr (w0 := w1) (S := [bm]) MI.m).keepS n3 g3) rfl)) rfl (fun _ _ _ h => h) (fun _ h => h.subl SB.s SB.s) ?_; refine tx_p 5 rfl (by kernel_rfl) (y_field rfl) rfl (fun _ _ _ h => h) (fun _ h => h.subl SB.s SB.s) ?_; refine tx_qS 6 rfl (by kernel_rfl) (y_load1 rfl (by repeat constructor) (by rfl)) rfl (fun _ _ _ h => h) (fun _ h => h.subl SB.s SB.s) ?_; refine tx_p 7 rfl (by kernel_rfl) (y_index rfl rfl (by omega) rfl) rfl (fun _ _ _ h => h) (fun _ h => h.subl SB.s SB.s) ?_; ((refine tx_qS 8 rfl (by kernel_rfl) (y_load1o (v := vi (xd.getD x.1.toNat 0)) rfl (fun w' hw' => by rw [show x.1.toNat * 1 = x.1.toNat from by omega]; have hh : RdI w' (.slice (some ⟨bD, oD, none⟩) xd.length cp) xd := Reads.frM hd1 (hw'.fr (w0 := w1) (S := [bm]) MI.m) (fun q hq => by rw [List.mem_singleton.1 hq]; exact ⟨_, _, hl⟩); exact RdI.at hh (by omega))) rfl (fun _ _ _ h => h) (fun _ h => h.subl SB.s SB.s) ?_))
  all_goals refine tx_single 9 (by kernel_rfl) (to_e rfl rfl (e_callU rfl (.cons rfl (.cons rfl (.cons rfl (.cons rfl .nil)))) (fun w' hw' => right_c t hv e he x hx1 (xd.getD x.1.toNat 0) sl pl ll tl w' bw bm es1 ck1 (hT1.fr (hw'.fr (w0 := w1) (S := [bm]) MI.m) (hw'.heap _ (HM.mem (by repeat constructor))) hc1)) (fun _ => (by repeat constructor))) (.inr ⟨fun _ _ h => h.subl SB.s SB.s, fun _ h => h⟩) (fun z hz => ?_)); refine tx_p 10 rfl (by kernel_rfl) (y_assign rfl) rfl (fun _ _ _ h => h) (fun _ h => h.subl SB.s SB.s) ?_; refine tx_done (by kernel_rfl) ?_; ((refine hK2 ?_; try (clear hK2; clear K2)))
  all_goals refine tc_ret ?_; (repeat (first | refine tk_then_ret ?_))
  all_goals (refine tk_ret rfl rfl (.cons (.tmp rfl) .nil) ?_)
  all_goals (
   exact fun w' hw' => ⟨.map z.1 z.2, rfl, hw'.fr (by simp), ⟨_, _, rfl, hz⟩, hw'.heap _ (HM.mem (by repeat constructor))⟩)
set_option maxHeartbeats 1000000 in
theorem prove_c (t : Tr) (hn : NT t) (xe xd : List Int) (hxe : (xe.length : Int) ≤ 9000000000000000000) (ev dv sl pl ll tl : Value) (w : World) (hr : RdTr w t sl pl ll tl) (hE : RdI w ev xe) (hD : RdI w dv xd) :
    CnV Tryz.prog 52 #[trV t sl pl ll tl, .agg #[ev, dv]] w (.bool (proveB t xe xd)) := by
  have hr0 := hr
  have hD0 := hD
  have hE0 := hE
  obtain ⟨aE, cE, _, _, rfl, _, _⟩ := hE.open
  obtain ⟨aD, cD, bD, oD, rfl, hadD, hcD⟩ := hD.open
  obtain ⟨aL, cL, bL, oL, rfl, hadL, hcL⟩ := hr.ls.open
  obtain ⟨aT, cT, _, _, rfl, _, _⟩ := hr.ts.open
  refine cnv (vs := [_, _]) Tryz.func52 rfl rfl ?_
  all_goals refine tc_seq fun K1 hK1 => ?_; refine tc_region ?_; refine tl_e (e_box rfl rfl rfl) rfl (fun b2 _ => ?_); refine tl_e (e_box rfl rfl rfl) rfl (fun b3 _ => ?_); refine tl_q (y_assign rfl) rfl ?_; refine tl_nil ?_; ((refine hK1 ?_; try (clear hK1; clear K1)))
  all_goals refine tc_seq fun K2 hK2 => ?_; refine tc_seq fun K3 hK3 => ?_; refine tc_region ?_; refine tl_q (y_loadW rfl (by repeat constructor) (by rfl)) rfl ?_; refine tl_e (e_callV rfl (.cons rfl .nil) (fun w' hw' => checkTrial_c t hn _ _ _ _ w' (hr0.fr (hw'.fr (w0 := w) (S := []) MI.m)))) rfl (fun _ _ => ?_); refine tl_q (y_neq rfl rfl) rfl ?_; refine tl_q (y_move rfl) rfl ?_; ((refine tl_gs rfl rfl (fun hc => ?_) (fun hc => ?_) <;> (try simp only [qn1, qn2, qn3, qn4, qn5, qn6, qn7, qn8] at hc) <;> (first | refine tl_sk rfl rfl rfl rfl ?_ | refine tl_qg rfl rfl (y_field rfl) rfl ?_)))
  all_goals (first | refine tl_sk rfl rfl rfl rfl ?_ | refine tl_qg rfl rfl (y_load1 rfl (by repeat constructor) (by rfl)) rfl ?_); (first | refine tl_sk rfl rfl rfl rfl ?_ | refine tl_qg rfl rfl (y_len rfl) rfl ?_); (first | refine tl_sk rfl rfl rfl rfl ?_ | refine tl_qg rfl rfl (y_field rfl) rfl ?_); (first | refine tl_sk rfl rfl rfl rfl ?_ | refine tl_qg rfl rfl (y_load1 rfl (by repeat constructor) (by rfl)) rfl ?_); (first | refine tl_sk rfl rfl rfl rfl ?_ | refine tl_qg rfl rfl (y_len rfl) rfl ?_); (first | refine tl_sk rfl rfl rfl rfl ?_ | refine tl_qg rfl rfl (y_neq rfl rfl) rfl ?_); (first | refine tl_q (y_pick_t rfl rfl) rfl ?_ | refine tl_q (y_pick_f rfl rfl) rfl ?_); refine tl_nil ?_; ((refine hK3 ?_; try (clear hK3; clear K3)))
  all_goals (
   refine tc_cond rfl (fun hc => ?_) (fun hc => ?_)
   · try simp only [qn1, qn2, qn3, qn4, qn5, qn6, qn7, qn8] at hc
     all_goals refine tc_seq fun K4 hK4 => ?_; refine tc_region ?_; refine tl_q (y_assign rfl) rfl ?_; refine tl_nil ?_; ((refine hK4 ?_; try (clear hK4; clear K4)))
     all_goals refine tc_ret ?_; (repeat (refine tk_then_ret ?_))
     all_goals (refine tk_ret rfl rfl (.cons (.tmp rfl) .nil) ?_)
     all_goals (
      refine fun w' hw' => ⟨congrArg (fun b => Ending.returned (Value.bool b)) ?_, hw'.fr (w0 := w) (S := []) MI.m⟩
      symm
      unfold proveB
      first
      | (rw [decide_eq_true (show chkT t = 0 by omega), Bool.true_and, decide_eq_true (by assumption : xd.length = t.liquids.length), Bool.true_and, hbn, Bool.false_and])
      | (rw [decide_eq_true (show chkT t = 0 by omega), Bool.true_and, decide_eq_true (by assumption : xd.length = t.liquids.length), Bool.true_and, hbn, Bool.true_and])
      | (rw [decide_eq_false (show ¬ chkT t = 0 by omega), Bool.false_and])
      | (rw [decide_eq_true (show chkT t = 0 by omega), Bool.true_and, decide_eq_false (show ¬ xd.length = t.liquids.length by omega), Bool.false_and]))
   · try simp only [qn1, qn2, qn3, qn4, qn5, qn6, qn7, qn8] at hc
     all_goals ((first | (exfalso; with_reducible exact btf hc) | skip))
     all_goals refine tc_skip ?_; ((refine hK2 ?_; try (clear hK2; clear K2)))
     all_goals refine tc_seq fun K5 hK5 => ?_; ((have hv := chkT_0.1 (show chkT t = 0 by omega); have hl3 := hv.l3; have hl1 := hv.l1))
     all_goals (have hDl : xd.length = t.liquids.length := by omega)
     all_goals refine tc_region ?_; refine tl_q (y_loadW rfl (by repeat constructor) (by rfl)) rfl ?_; refine tl_q (y_field rfl) rfl ?_; refine tl_q (y_load1 rfl (by repeat constructor) (by rfl)) rfl ?_; refine tl_e (e_callV rfl (.cons rfl (.cons rfl .nil)) (fun w' hw' => errorsOf_c t hv xe hxe _ _ _ _ _ w' (hr0.fr (hw'.fr (w0 := w) (S := []) MI.m)).ps (hE0.fr (hw'.fr (w0 := w) (S := []) MI.m)))) rfl (fun _ _ => ?_); refine tl_q (y_move rfl) rfl ?_; refine tl_q (y_extract rfl rfl) rfl ?_; refine tl_q (y_extract rfl rfl) rfl ?_; refine tl_e (e_allocN rfl) rfl (fun b5 _ => ?_); refine tl_e (e_storeW rfl rfl (by repeat constructor) (by rfl) (by rfl) (by simp [Value.oneCell'])) rfl (fun _ _ => ?_); refine tl_q (y_assign rfl) rfl ?_; refine tl_nil ?_; ((refine hK5 ?_; try (clear hK5; clear K5)))
     all_goals refine tc_seq fun K6 hK6 => ?_; refine tc_seq fun K7 hK7 => ?_; ((have hbb : (errE t xe).2 = errB t xe := by unfold errE; split <;> simp_all))
     all_goals rw [hbb]
     all_goals refine tc_region ?_; refine tl_q (y_field rfl) rfl ?_; refine tl_q (y_load1 rfl (by repeat constructor) (by rfl)) rfl ?_; refine tl_q (y_len rfl) rfl ?_; refine tl_q (y_move rfl) rfl ?_; refine tl_nil ?_; ((refine hK7 ?_; try (clear hK7; clear K7)))
     all_goals refine tc_block ?_
     all_goals (
      refine tc_loop (fun n : Nat => n ≤ t.liquids.length) (fun n => [(2, ptr b2), (3, ptr b3), (5, ptr b5), (6, .bool (errB t xe && inN t xd n)), (30, .slice aL t.liquids.length cL), (31, vi t.liquids.length), (32, vi n)]) (fun _ => [(w, [])]) (fun _ => [(b5, .cells #[vi (errE t xe).1.1, vi (errE t xe).1.2.1, vi (errE t xe).1.2.2] 126 (0, 0)), (b3, .cells #[.slice aE xe.length cE, .slice aD xd.length cD] 106 (0, 0)), (b2, .cells (trV t sl pl (.slice aL t.liquids.length cL) (.slice aT t.tests.length cT)).cells 38 (0, 0))]) (fun n => t.liquids.length - n) ?_ ?_
      · refine tk_start 0 (Nat.zero_le _) (.cons rfl (.cons rfl (.cons rfl (.cons ?_ (.cons rfl (.cons rfl (.cons rfl .nil))))))) (fun _ h => h.subl SB.s SB.s)
        rw [show inN t xd 0 = true from rfl, Bool.and_true]; rfl
      · rintro n hn'
        all_goals refine tc_seq fun K8 hK8 => ?_; refine tc_region ?_; refine tl_q (y_lss rfl rfl) rfl ?_; refine tl_nil ?_; ((refine hK8 ?_; try (clear hK8; clear K8)))
        all_goals refine tc_seq fun K9 hK9 => ?_
        all_goals (
         refine tc_cond rfl (fun hc => ?_) (fun hc => ?_)
         · try simp only [qn1, qn2, qn3, qn4, qn5, qn6, qn7, qn8] at hc
           all_goals refine tc_skip ?_; ((refine hK9 ?_; try (clear hK9; clear K9)))
           all_goals refine tc_seq fun K10 hK10 => ?_; refine tc_block ?_; refine tc_seq fun K11 hK11 => ?_; ((have hadL' := hadL (by omega); have hadD' := hadD (by omega)))
           all_goals refine tc_region ?_; refine tl_q (y_move rfl) rfl ?_; refine tl_q (y_index rfl rfl (by omega) hadL') rfl ?_; ((refine tl_q (y_loadNo (n := 2) (vs := [vi (lqAt t n).1, vi (lqAt t n).2]) rfl (fun w' hw' => by rw [show Int.toNat (n : Int) * 2 = n * 2 from by omega]; exact hcL w' [] (hw'.fr (w0 := w) (S := []) MI.m) (by simp) n (by omega))) rfl ?_))
           all_goals refine tl_e (e_allocN rfl) rfl (fun b8 _ => ?_); refine tl_q (y_assign rfl) rfl ?_; refine tl_e (e_storeW rfl rfl (by repeat constructor) (by rfl) (by rfl) (by simp [Value.oneCell'])) rfl (fun _ _ => ?_); refine tl_nil ?_; ((refine hK11 ?_; try (clear hK11; clear K11)))
           all_goals (have hsu := inN_succ t xd n)
           all_goals rcases hbn : (errB t xe && inN t xd n)
           all_goals refine tc_draw (by kernel_rfl) ?_; refine tx_p 0 rfl (by kernel_rfl) (y_move rfl) rfl (fun _ _ _ h => h) (fun _ h => h) ?_; refine tx_p 1 rfl (by kernel_rfl) (y_move rfl) rfl (fun _ _ _ h => h) (fun _ h => h) ?_; (first | refine tx_sk 2 rfl (by kernel_rfl) rfl rfl rfl rfl (fun _ _ _ h => h) (fun _ h => h) ?_ | refine tx_pg 2 rfl (by kernel_rfl) rfl rfl (y_field rfl) rfl (fun _ _ _ h => h) (fun _ h => h) ?_); (first | refine tx_sk 3 rfl (by kernel_rfl) rfl rfl rfl rfl (fun _ _ _ h => h) (fun _ h => h) ?_ | refine tx_qg 3 rfl (by kernel_rfl) rfl rfl (y_load1 rfl (by repeat constructor) (by rfl)) rfl (fun _ _ _ h => h) (fun _ h => h) ?_); (first | refine tx_sk 4 rfl (by kernel_rfl) rfl rfl rfl rfl (fun _ _ _ h => h) (fun _ h => h) ?_ | refine tx_pg 4 rfl (by kernel_rfl) rfl rfl (y_move rfl) rfl (fun _ _ _ h => h) (fun _ h => h) ?_); (first | refine tx_sk 5 rfl (by kernel_rfl) rfl rfl rfl rfl (fun _ _ _ h => h) (fun _ h => h) ?_ | refine tx_pg 5 rfl (by kernel_rfl) rfl rfl (y_index rfl rfl (by omega) hadD') rfl (fun _ _ _ h => h) (fun _ h => h) ?_); ((first | refine tx_sk 6 rfl (by kernel_rfl) rfl rfl rfl rfl (fun _ _ _ h => h) (fun _ h => h) ?_ | refine tx_qg 6 rfl (by kernel_rfl) rfl rfl (y_load1o (v := vi (xd.getD n 0)) rfl (fun w' hw' => by rw [show Int.toNat (n : Int) * 1 = n from by omega]; exact hcD w' (hw'.fr (w0 := w) (S := []) MI.m) n (by omega))) rfl (fun _ _ _ h => h) (fun _ h => h) ?_))
           all_goals (first | refine tx_sk 7 rfl (by kernel_rfl) rfl rfl rfl rfl (fun _ _ _ h => h) (fun _ h => h) ?_ | refine tx_pg 7 rfl (by kernel_rfl) rfl rfl (y_field rfl) rfl (fun _ _ _ h => h) (fun _ h => h) ?_); (first | refine tx_sk 8 rfl (by kernel_rfl) rfl rfl rfl rfl (fun _ _ _ h => h) (fun _ h => h) ?_ | refine tx_qg 8 rfl (by kernel_rfl) rfl rfl (y_load1 rfl (by repeat constructor) (by rfl)) rfl (fun _ _ _ h => h) (fun _ h => h) ?_); (first | refine tx_sk 9 rfl (by kernel_rfl) rfl rfl rfl rfl (fun _ _ _ h => h) (fun _ h => h) ?_ | refine tx_pg 9 rfl (by kernel_rfl) rfl rfl (y_field rfl) rfl (fun _ _ _ h => h) (fun _ h => h) ?_); (first | refine tx_sk 10 rfl (by kernel_rfl) rfl rfl rfl rfl (fun _ _ _ h => h) (fun _ h => h) ?_ | refine tx_qg 10 rfl (by kernel_rfl) rfl rfl (y_load1 rfl (by repeat constructor) (by rfl)) rfl (fun _ _ _ h => h) (fun _ h => h) ?_); (first | refine tx_sk 11 rfl (by kernel_rfl) rfl rfl rfl rfl (fun _ _ _ h => h) (fun _ h => h) ?_ | refine tx_eg 11 rfl (by kernel_rfl) rfl rfl rfl (e_callV rfl (.cons rfl (.cons rfl (.cons rfl .nil))) (fun w' _ => twithin_c _ _ _ w')) (.inr fun _ _ h => h) (fun _ _ => ?_)); (first | refine tx_p 12 rfl (by kernel_rfl) (y_pick_t rfl rfl) rfl (fun _ _ _ h => h) (fun _ h => h) ?_ | refine tx_p 12 rfl (by kernel_rfl) (y_pick_f rfl rfl) rfl (fun _ _ _ h => h) (fun _ h => h) ?_); refine tx_p 13 rfl (by kernel_rfl) (y_assign rfl) rfl (fun _ _ _ h => h) (fun _ h => h) ?_; refine tx_done (by kernel_rfl) ?_; ((refine hK10 ?_; try (clear hK10; clear K10)))
           all_goals refine tc_region ?_; refine tl_q (y_add rfl rfl (by omega)) rfl ?_; refine tl_q (y_move rfl) rfl ?_; refine tl_nil ?_
           all_goals (
            refine tk_round (n + 1) (by omega) (by omega) (.cons rfl (.cons rfl (.cons rfl (.cons ?_ (.cons rfl (.cons rfl (.cons rfl .nil))))))) (fun _ h => h.subl SB.s SB.s)
            rw [hsu, ← Bool.and_assoc, hbn]
            first | rfl | (rw [Bool.false_and]; rfl) | (rw [Bool.true_and]; rfl))
         · try simp only [qn1, qn2, qn3, qn4, qn5, qn6, qn7, qn8] at hc
           all_goals refine tc_exit ?_; ((refine hK6 ?_; try (clear hK6; clear K6)))
           all_goals refine tc_seq fun K12 hK12 => ?_; (have hnl : n = t.liquids.length := by omega)
           all_goals subst hnl
           all_goals refine tc_region ?_; refine tl_q (y_loadW rfl (by repeat constructor) (by rfl)) rfl ?_; refine tl_e (e_callN rfl (.cons rfl .nil) (fun w' hw' => twork_c t _ _ _ _ hr0.ws.one hr0.ps.one hr0.ls.one hr0.ts.one w')) rfl (fun x hx => ?_); refine tl_e (e_alloc1 rfl) rfl (fun b9 _ => ?_); refine tl_e (e_store1 rfl rfl (by repeat constructor) (by repeat constructor) (by rfl) (by rfl)) rfl (fun _ _ => ?_); refine tl_nil ?_; ((refine hK12 ?_; try (clear hK12; clear K12)))
           all_goals refine tc_seq fun K13 hK13 => ?_; rcases hbn : (errB t xe && inN t xd t.liquids.length)
           all_goals (have ht6 := hv.t6)
           all_goals ((first | (have hee := errE_of hbn; have hebd := errE_bd hv xe; rw [hee] at hebd; rw [hee]) | skip))
           all_goals refine tc_region ?_; refine tl_q (y_move rfl) rfl ?_; refine tl_q (y_move rfl) rfl ?_; (first | refine tl_sk rfl rfl rfl rfl ?_ | refine tl_qg rfl rfl (y_field rfl) rfl ?_); (first | refine tl_sk rfl rfl rfl rfl ?_ | refine tl_qg rfl rfl (y_load1 rfl (by repeat constructor) (by rfl)) rfl ?_); (first | refine tl_sk rfl rfl rfl rfl ?_ | refine tl_qg rfl rfl (y_fn .nil (.cons rfl (.cons rfl (.cons rfl .nil)))) rfl ?_); ((first | refine tl_sk rfl rfl rfl rfl ?_ | refine tl_eg rfl rfl rfl (e_callEndF (val := fun _ : Obj => .bool (t.tests.all (prP t (er3 xe) xd))) (p := fun _ _ => True) (S := [x.2]) rfl (.cons rfl (.cons rfl .nil)) (fun w' hw' => CnX.imp (val' := fun _ : Obj => .bool (t.tests.all (prP t (er3 xe) xd))) (allTM_c 114 #[] #[ptr b9, ptr b5, ptr b3] x.2 (JMt t) (prP t (er3 xe) xd) t.tests (by omega) _ w' (.map #[] 0) (hw'.heap _ (HM.mem (by repeat constructor))) ⟨_, _, rfl, fun e he => by simp at he⟩ (fun w2 f => Reads.frM (hr0.fr (hw'.fr (w0 := w) (S := []) MI.m)).ts f (fun q hq => by rw [List.mem_singleton.1 hq]; exact ⟨_, _, hw'.heap _ (HM.mem (b := x.2) (by repeat constructor))⟩)) (prove1_c t hv (er3 xe) hebd xd hDl (.slice aE xe.length cE) (.slice aD xd.length cD) sl pl _ _ w' b9 b5 b3 x.1 x.2 #[] 0 (tw0 (hr0.fr (hw'.fr (w0 := w) (S := []) MI.m)) (hw'.heap _ (HM.mem (by repeat constructor))) (hw'.heap _ (HM.mem (b := x.2) (by repeat constructor)))) (hw'.heap (b9, _) (HM.mem (by repeat constructor))) (hw'.heap (b5, _) (HM.mem (by repeat constructor))) (hw'.heap (b3, _) (HM.mem (by repeat constructor))) (hD0.fr (hw'.fr (w0 := w) (S := []) MI.m)))) id (fun _ => rfl) (fun _ h => h) (fun _ _ _ _ => trivial)) (fun w' hw' β hβ q hq => .inr (by obtain rfl := List.mem_singleton.1 hβ; obtain rfl := List.mem_singleton.1 hq; exact (hw'.own (x.2, _) (HM.mem (by repeat constructor)) (w, []) (by simp)).resolve_left (by simp)))) (fun z hz => ?_)))
           all_goals (first | refine tl_q (y_pick_t rfl rfl) rfl ?_ | refine tl_q (y_pick_f rfl rfl) rfl ?_); refine tl_q (y_assign rfl) rfl ?_; refine tl_nil ?_; ((refine hK13 ?_; try (clear hK13; clear K13)))
           all_goals refine tc_ret ?_; (repeat (first | refine tk_then_ret ?_))
           all_goals (refine tk_ret rfl rfl (.cons (.tmp rfl) .nil) ?_)
           all_goals (
            refine fun w' hw' => ⟨congrArg (fun b => Ending.returned (Value.bool b)) ?_, hw'.fr (w0 := w) (S := []) MI.m⟩
            symm
            unfold proveB
            first
            | (rw [decide_eq_true (show chkT t = 0 by omega), Bool.true_and, decide_eq_true (by assumption : xd.length = t.liquids.length), Bool.true_and, hbn, Bool.false_and])
            | (rw [decide_eq_true (show chkT t = 0 by omega), Bool.true_and, decide_eq_true (by assumption : xd.length = t.liquids.length), Bool.true_and, hbn, Bool.true_and])
            | (rw [decide_eq_false (show ¬ chkT t = 0 by omega), Bool.false_and])
            | (rw [decide_eq_true (show chkT t = 0 by omega), Bool.true_and, decide_eq_false (show ¬ xd.length = t.liquids.length by omega), Bool.false_and])))))
end Go.Sp
/-
  The chapter's trial: what TrialNames asks of it, computed.
-/
namespace Go.Sp
open Go Go.Proofs
set_option maxRecDepth 100000
theorem tn1 : shownE (twoT []) [-2, 1] 0 1100 = ([-1], 0) := by kernel_rfl
theorem tn2 : shownL (twoT []) (er3 [-2, 1]) 0 1100 = [-1] := by kernel_rfl
theorem tn3 : judgeE (twoT []) 0 = (2, 0) := by kernel_rfl
theorem tn4 : judgeE (twoT []) 2 = (1, 0) := by kernel_rfl
theorem tn5 : correctE (twoT []) 0 3 = ((990, 1111), 0) := by kernel_rfl
theorem tn6 : densR (twoT []) 2 = [(1000, 1000), (915, 925)] := by kernel_rfl
theorem tn7 : fewestE (twoT []) 2 [] = ([], 0) := by kernel_rfl
theorem tn8 : proveB (twoT []) (errL (twoT []) (e0L (twoT []))) (dlN (twoT []) (e0L (twoT [])) [] 2) = true := by kernel_rfl
theorem tn9 : leaveTL (twoT []) = [] := by kernel_rfl
theorem tn10 : proveB (twoT []) [0, 1] [1000, 920] = true := by kernel_rfl
theorem tn11 : proveB (twoT []) [0, 0] [1000, 920] = false := by kernel_rfl
theorem tn12 : shownE (twoT []) [0, 3] 0 1000 = ([], 2) := by kernel_rfl
theorem tn13 : shownE (twoT []) [0, 1] 3 1000 = ([], 2) := by kernel_rfl
theorem tn14 : judgeE (twoT [(0, 0, 8)]) (-1) = (0, 2) := by kernel_rfl
theorem tn15 : askedE (twoT [(0, 0, 8)]) = 11 := by kernel_rfl
theorem tn16 : correctE (twoT []) 0 11 = ((0, 0), 2) := by kernel_rfl
theorem tn17 : fewestE (twoT []) 1 [(0, 1000)] = ([], 9) := by kernel_rfl
theorem tn18 : fewestE (twoT []) 1 [(0, 0), (0, 0), (0, 0), (0, 0), (0, 0)] = ([], 3) := by kernel_rfl
theorem tn19 : fewestE (twoT []) 1 [(3, 1000)] = ([], 2) := by kernel_rfl
abbrev heavyT : Tr := ⟨⟨5000, 100, 20, 10, 10, [100, 200]⟩, [0, 6], 2, [(1000, 1000), (915, 925)], []⟩
theorem tn20 : correctE heavyT 0 5 = ((0, 0), 7) := by kernel_rfl
theorem tn21 : chkT ⟨twoS, [0, 11], 2, [(1000, 1000), (915, 925)], [(0, 0, 6), (1, 0, 10)]⟩ = 1 := by kernel_rfl
theorem tn22 : chkT ⟨twoS, [1, 6], 2, [(1000, 1000), (915, 925)], [(0, 0, 6), (1, 0, 10)]⟩ = 1 := by kernel_rfl
theorem tn23 : chkT ⟨twoS, [0, 6], 4, [(1000, 1000), (915, 925)], [(0, 0, 6), (1, 0, 10)]⟩ = 1 := by kernel_rfl
theorem tn24 : chkT ⟨twoS, [0, 6], 2, [(1000, 1041), (915, 925)], [(0, 0, 6), (1, 0, 10)]⟩ = 1 := by kernel_rfl
theorem tn25 : chkT ⟨twoS, [0, 6], 2, [(1000, 1000), (915, 925)], [(0, 0, -2), (1, 0, 10)]⟩ = 1 := by kernel_rfl
theorem tn26 : chkT ⟨twoS, [0, 6], 2, [(1000, 1000), (915, 925)], [(0, 0, 0), (0, 0, 0), (0, 0, 0), (0, 0, 0), (0, 0, 0), (0, 0, 0), (0, 0, 0)]⟩ = 3 := by kernel_rfl
theorem tn27 : chkT ⟨⟨900, 800, 20, 10, 0, [100, 200]⟩, [0, 6], 2, [(1000, 1000), (915, 925)], [(0, 0, 6), (1, 0, 10)]⟩ = 1 := by kernel_rfl
theorem tn28 : chkT ⟨⟨0, 0, 0, 0, 0, []⟩, [], 0, [], []⟩ = 1 := by kernel_rfl
theorem nt_small (t : Tr) (h1 : t.s.weights.length ≤ 10) (h2 : t.parts.length ≤ 10) (h3 : t.liquids.length ≤ 10) (h4 : t.tests.length ≤ 10) : NT t := ⟨by omega, by omega, by omega, by omega⟩
end Go.Sp
/-
  What Leave returns is what the reference says.
-/
namespace Go.Sp
open Go Go.Proofs
end Go.Sp
/-
  The smallest set of readings: what is kept fits, and without any smaller list nothing does.
-/
namespace Go.Sp
open Go Go.Proofs
end Go.Sp
/-
  Trials, plainly: tests left out; the truth that is shown.
-/
namespace Go.Sp
open Go Go.Proofs
end Go.Sp
/-
  The chapter's trial, with its blocks known; what TrialNames asks of it.
-/
namespace Go.Sp
open Go Go.Proofs
/-- A value of several cells, stored in the middle of a block. -/
theorem e_storeP {P : Program} {N : NN} {F : List (Nat × Value)} {bs : List (World × List Nat)} {H : List (Nat × Obj)} {ty : TypeId} {pos : String} {after : Array Edge} {g : Option (Nat × Bool)} {t : TypeId} {n : Nat} {zs : Array Value} [h : TyAgg P t n zs] {x y : Operand} {b o : Nat} {cs l l' : List Value} {e : TypeId} {H' : List (Nat × Obj)}
    (hx : evalO F x = some (.pointer (some ⟨b, o, none⟩))) (hy : evalO F y = some (.agg cs.toArray)) (hu : HU b (.cells l.toArray e (0, 0)) (.cells l'.toArray e (0, 0)) H H')
    (hn : cs.length = n) (hl : l' = l.take o ++ (cs ++ l.drop (o + cs.length))) (hlt : o + cs.length ≤ l.length) (ho : ∀ v ∈ cs, v.oneCell' = true) :
    OpE P ⟨none, .store t x y, ty, pos, after, g⟩ N F bs H (fun _ : Unit => True) (fun _ => F) (fun _ => bs) (fun _ => H') := by
  unfold OpE
  intro a w ht hw K Q hK
  obtain ⟨i, hi, hs, _⟩ := h.info
  have hb := hw.heap _ hu.mem
  have hz : (sizeOf t).run P w = .ok n w := sizeOf_run (by simp [hi, hs]) w
  obtain ⟨w', c', h1, h2, h3, h4, h5, h6, h7⟩ := storeCells_at (P := P) (b := b) (o := o) (e := e) cs 0 w l.toArray hb (by simp; omega) ho
  have hcc : c' = l'.toArray := by
    apply Array.ext_getElem?
    intro k
    rw [h7 k, hl, List.getElem?_toArray, List.getElem?_toArray]
    have hlo : (l.take o).length = o := by rw [List.length_take]; omega
    by_cases hk : o + 0 ≤ k ∧ k < o + 0 + cs.length
    · rw [if_pos hk, List.getElem?_append_right (by omega), hlo, List.getElem?_append_left (by omega)]; rfl
    · rw [if_neg hk]
      by_cases hk2 : k < o
      · rw [List.getElem?_append_left (by omega), List.getElem?_take_of_lt hk2]
      · rw [List.getElem?_append_right (by omega), hlo, List.getElem?_append_right (by omega), List.getElem?_drop]
        congr 1; omega
  subst hcc
  unfold Oper.wp
  simp only [execOp, Instr.storeAt, Instr.sureAddr, Sem.run_bind, ht.eval hx, ht.eval hy, Result.andThen, Sem.run_pure, storeVar, hz, Value.cells, List.size_toArray, hn, ne_eq, not_true, if_false, h1, Oper.upon]
  exact hK () _ _ trivial ht (hw.set hu ⟨h2, h3, h4, h5⟩)
theorem HG.add3 {bs : List (World × List Nat)} {H : List (Nat × Obj)} {w w' : World} (h : HG bs H w) (f : Fr [] w w') {L : List (Nat × Obj)} (hn : (L.map Prod.fst).Nodup) (hL : ∀ q ∈ L, w.heap.size ≤ q.1 ∧ w'.heap[q.1]? = some q.2) : HG bs (L ++ H) w' := by
  have h' := h.call f
  refine ⟨h'.base, fun p hp => ?_, ?_, fun p hp β hβ => ?_⟩
  · rcases List.mem_append.1 hp with hp | hp
    · exact (hL p hp).2
    · exact h'.heap p hp
  · rw [List.map_append, List.nodup_append]
    refine ⟨hn, h.nodup, fun a ha b hb e => ?_⟩
    subst e
    obtain ⟨p, hp, e1⟩ := List.mem_map.1 ha
    obtain ⟨q, hq, e2⟩ := List.mem_map.1 hb
    have h1 := (hL p hp).1
    have h2 := h.lt hq
    omega
  · rcases List.mem_append.1 hp with hp | hp
    · exact .inr (Nat.le_trans (h.base β hβ).size (hL p hp).1)
    · exact h.own p hp β hβ
/-- A call whose four blocks are known. -/
theorem e_callB4 {P : Program} {N : NN} {F : List (Nat × Value)} {bs : List (World × List Nat)} {H : List (Nat × Obj)} {d : Tmp} {ty : TypeId} {pos : String} {after : Array Edge} {g : Option (Nat × Bool)} {f : FuncId} [GoFn P f] {xs : List Operand} {tys : Array TypeId} {vs : List Value} {α : Type} {val : α → Value} {b1 b2 b3 b4 : α → Nat} {o1 o2 o3 o4 : α → Obj}
    (hd : Nat.blt d N.n = true) (hxs : EA F xs vs) (hc : ∀ w, HG bs H w → CnX P f vs.toArray w [] val (fun x w' => ([b1 x, b2 x, b3 x, b4 x] : List Nat).Nodup ∧ ∀ q ∈ [(b1 x, o1 x), (b2 x, o2 x), (b3 x, o3 x), (b4 x, o4 x)], w.heap.size ≤ q.1 ∧ w'.heap[q.1]? = some q.2)) :
    OpE P ⟨some d, .call ⟨.value (.func f), xs.toArray, tys⟩, ty, pos, after, g⟩ N F bs H (fun _ : α => True) (fun y => (d, val y) :: F) (fun _ => bs) (fun y => (b1 y, o1 y) :: (b2 y, o2 y) :: (b3 y, o3 y) :: (b4 y, o4 y) :: H) := by
  unfold OpE
  intro a w ht hw K Q hK
  unfold Oper.wp
  rw [exec_call (x := .func f) rfl hxs ht w]
  simp only [Oper.upon]
  simp only [Array.empty_append, Array.append_empty]
  have hcc := hc w hw
  unfold CnX at hcc
  refine hcc.mono fun e w' he => ?_
  obtain ⟨x, rfl, hf, hn, hL⟩ := he
  have hg := hw.add3 hf (L := [(b1 x, o1 x), (b2 x, o2 x), (b3 x, o3 x), (b4 x, o4 x)]) hn hL
  exact hK x _ _ trivial (ht.put hd _) hg
/-- What two makes: the blocks, the room of the tests. -/
abbrev TwB : Type := Nat × Nat × Nat × Nat × Nat × List Value
abbrev twV (y : TwB) : Value := trV (twoT []) (.slice (some ⟨y.1, 0, none⟩) 2 2) (.slice (some ⟨y.2.1, 0, none⟩) 2 2) (.slice (some ⟨y.2.2.1, 0, none⟩) 2 2) (.slice (some ⟨y.2.2.2.1, 0, none⟩) 2 y.2.2.2.2.1)
set_option maxHeartbeats 1000000 in
theorem twoK_c (w : World) :
    CnX Tryz.prog 59 #[.slice none 0 0] w [] twV
      (fun y w' => ([y.1, y.2.1, y.2.2.1, y.2.2.2.1] : List Nat).Nodup ∧ ∀ q ∈ [(y.1, Obj.cells [vi 100, vi 200].toArray 3 (0, 0)), (y.2.1, Obj.cells [vi 0, vi 6].toArray 3 (0, 0)), (y.2.2.1, Obj.cells [vi 1000, vi 1000, vi 915, vi 925].toArray 50 (0, 0)), (y.2.2.2.1, Obj.cells (vi 0 :: vi 0 :: vi 6 :: vi 1 :: vi 0 :: vi 10 :: y.2.2.2.2.2).toArray 121 (0, 0))], w.heap.size ≤ q.1 ∧ w'.heap[q.1]? = some q.2) := by
  refine cnx0 (vs := [_]) Tryz.func59 rfl rfl ?_
  all_goals refine tc_seq fun K1 hK1 => ?_; refine tc_region ?_; refine tl_e (e_allocN rfl) rfl (fun b2 _ => ?_); refine tl_nil ?_; ((refine hK1 ?_; try (clear hK1; clear K1)))
  all_goals refine tc_seq fun K2 hK2 => ?_; refine tc_region ?_; ((refine tl_e (e_bslice rfl (by (repeat (first | exact .nil | apply PV.one rfl rfl)); done) rfl rfl) rfl (fun b3 _ => ?_)))
  all_goals (refine tl_q (y_build_g (by repeat constructor)) rfl ?_); ((refine tl_e (e_bslice rfl (by (repeat (first | exact .nil | apply PV.one rfl rfl)); done) rfl rfl) rfl (fun b5 _ => ?_)))
  all_goals refine tl_e (e_callV rfl (.cons rfl (.cons rfl .nil)) (fun w' _ => between9_c _ _ w')) rfl (fun _ _ => ?_); refine tl_e (e_callV rfl (.cons rfl (.cons rfl .nil)) (fun w' _ => between9_c _ _ w')) rfl (fun _ _ => ?_); refine tl_e (e_bsliceG rfl (.agg rfl rfl (.agg rfl rfl .nil)) rfl rfl) rfl (fun b8 _ => ?_); refine tl_q (y_build_g (by repeat constructor)) rfl ?_; refine tl_q (y_build_g (by repeat constructor)) rfl ?_; refine tl_e (e_bsliceG rfl (.agg rfl rfl (.agg rfl rfl .nil)) rfl rfl) rfl (fun b11 _ => ?_); refine tl_q (y_move rfl) rfl ?_; refine tl_e (e_append_own (old := flatT [(0, 0, 6), (1, 0, 10)]) (junk := []) (vs := []) (n := 0) rfl rfl rfl (by repeat constructor) rfl rfl (Nat.le_refl 2) (fun w' hw' => RdT.nil w') (fun u hu => by cases hu) (by omega) rfl) rfl (fun r hq => ?_); refine tl_q (y_build_g (by repeat constructor)) rfl ?_; refine tl_e (e_storeW rfl rfl (by repeat constructor) (by rfl) (by rfl) (by simp [Value.oneCell'])) rfl (fun _ _ => ?_); refine tl_nil ?_; ((refine hK2 ?_; try (clear hK2; clear K2)))
  all_goals refine tc_ret ?_; (repeat (first | refine tk_then_ret ?_))
  all_goals (refine tk_ret rfl rfl (.cons (.agg inferInstance rfl (by repeat constructor) (by rfl)) .nil) ?_)
  all_goals (
   refine fun w' hw' => ⟨(b3, b5, b8, r.1, r.2.1, r.2.2), rfl, hw'.fr (w0 := w) (S := []) MI.m, ?_, ?_⟩
   · have hh := hw'.nodup
     simp only [List.map_cons, List.map_nil, List.nodup_cons, List.mem_cons, not_or, List.not_mem_nil, not_false_eq_true, and_true, List.nodup_nil] at hh ⊢
     omega
   · intro q hq2
     rcases List.mem_cons.1 hq2 with rfl | hq2
     · exact ⟨(hw'.own _ (HM.mem (b := b3) (by repeat constructor)) (w, []) MI.m).resolve_left (by simp), hw'.heap _ (HM.mem (b := b3) (by repeat constructor))⟩
     · rcases List.mem_cons.1 hq2 with rfl | hq2
       · exact ⟨(hw'.own _ (HM.mem (b := b5) (by repeat constructor)) (w, []) MI.m).resolve_left (by simp), hw'.heap _ (HM.mem (b := b5) (by repeat constructor))⟩
       · rcases List.mem_cons.1 hq2 with rfl | hq2
         · exact ⟨(hw'.own _ (HM.mem (b := b8) (by repeat constructor)) (w, []) MI.m).resolve_left (by simp), hw'.heap _ (HM.mem (b := b8) (by repeat constructor))⟩
         · obtain rfl := List.mem_singleton.1 hq2
           exact ⟨(hw'.own _ (HM.mem (b := r.1) (by repeat constructor)) (w, []) MI.m).resolve_left (by simp), hw'.heap _ (HM.mem (b := r.1) (by repeat constructor))⟩)
theorem slicedX2 {P : Program} {f : FuncId} {args : Array Value} {w : World} {g : Value → Value} {xs : List Int} (h : CnX P f args w [] g (fun v w' => RdI w' v xs)) :
    CnX P f args w [] (fun x : Option Addr × Nat => g (slV xs.length x)) (fun x w' => RdI w' (slV xs.length x) xs) :=
  CnX.of (h.out.mono fun e w' he => by
    obtain ⟨v, rfl, hf, hr⟩ := he
    obtain ⟨hl, ad, cap, rfl, h2⟩ := hr
    exact ⟨(ad, cap), rfl, hf, ⟨hl, ad, cap, rfl, h2⟩⟩)
theorem leaveT_sx2 (t : Tr) (hv : VT t) (sl pl ll tl : Value) (w : World) (hr : RdTr w t sl pl ll tl) :
    CnX Tryz.prog 37 #[trV t sl pl ll tl] w [] (fun x : Option Addr × Nat => .tuple #[slV (leaveTL t).length x, vi 0]) (fun x w' => RdI w' (slV (leaveTL t).length x) (leaveTL t)) :=
  slicedX2 (leaveT_ok t hv sl pl ll tl w hr)
theorem show_sl2 (t : Tr) (hn : NT t) (he : askedE t = 0) (sl pl ll tl : Value) (w : World) (hr : RdTr w t sl pl ll tl) :
    CnX Tryz.prog 51 #[trV t sl pl ll tl] w [] (fun y : (Option Addr × Nat) × (Option Addr × Nat) => .tuple #[.agg #[slV t.parts.length y.1, slV t.liquids.length y.2], vi 0]) (fun y w' => RdI w' (slV t.parts.length y.1) (errL t (e0L t)) ∧ RdI w' (slV t.liquids.length y.2) (dlN t (e0L t) [] t.liquids.length)) :=
  CnX.of ((show_ok t hn he sl pl ll tl w hr).out.mono fun e w' he => by
    obtain ⟨⟨y1, y2⟩, rfl, hf, h1, h2⟩ := he
    have h2' := h2
    obtain ⟨_, ad, cap, e2, _⟩ := h2
    rw [dlN_len] at e2
    dsimp only at e2 h1 h2' ⊢
    rw [e2] at h2' ⊢
    exact ⟨(y1, (ad, cap)), rfl, hf, h1, h2'⟩)
theorem n_shown (sl pl ll tl lv : Value) (w : World) (hr : RdTr w (twoT []) sl pl ll tl) (hl : RdI w lv [-2, 1]) :
    CnX Tryz.prog 17 #[trV (twoT []) sl pl ll tl, lv, vi 0, vi 1100] w [] (fun y : Option Addr × Nat => .tuple #[slV 1 y, vi 0]) (fun y w' => RdI w' (slV 1 y) [-1]) := by
  have h := shown_ok (twoT []) (twoT_nt [] (by decide)) [-2, 1] (by decide) 0 1100 (by rw [tn1]) sl pl ll tl lv w hr hl
  rw [tn2] at h
  exact h
theorem judgeN_v {t : Tr} {n a e : Int} (hE : judgeE t n = (a, e)) (hn : NT t) (ht : n ≤ 1000) (sl pl ll tl : Value) (w : World) (hr : RdTr w t sl pl ll tl) : CnV Tryz.prog 36 #[trV t sl pl ll tl, vi n] w (.tuple #[vi a, vi e]) := by
  have h := judge_c t hn n ht sl pl ll tl w hr
  rw [hE] at h
  exact h
theorem correctN_v {t : Tr} {k n e : Int} {r : Int × Int} (hE : correctE t k n = (r, e)) (hn : NT t) (sl pl ll tl : Value) (w : World) (hr : RdTr w t sl pl ll tl) : CnV Tryz.prog 27 #[trV t sl pl ll tl, vi k, vi n] w (.tuple #[rV r, vi e]) := by
  have h := correct_c t hn k n sl pl ll tl w hr
  rw [hE] at h
  exact h
theorem checkN_v {t : Tr} {e : Int} (hE : chkT t = e) (hn : NT t) (sl pl ll tl : Value) (w : World) (hr : RdTr w t sl pl ll tl) : CnV Tryz.prog 21 #[trV t sl pl ll tl] w (vi e) := by
  have h := checkTrial_c t hn sl pl ll tl w hr
  rw [hE] at h
  exact h
theorem n_den (sl pl ll tl : Value) (w : World) (hr : RdTr w (twoT []) sl pl ll tl) :
    CnX Tryz.prog 46 #[trV (twoT []) sl pl ll tl] w [] (fun y : Option Addr × Nat => .tuple #[slV 2 y, vi 0]) (fun y w' => RdR w' (slV 2 y) [(1000, 1000), (915, 925)]) := by
  have h := densities_ok (twoT []) (twoT_nt [] (by decide)) ta2 sl pl ll tl w hr
  rw [show densR (twoT []) (twoT []).liquids.length = [(1000, 1000), (915, 925)] from tn6] at h
  exact h
theorem n_few {tol e : Int} {l : List (Int × Int)} {L : List Int} (hE : fewestE (twoT []) tol l = (L, e)) (ht : tol ≤ 1000) (hl : (l.length : Int) ≤ 9000000000000000000) (sl pl ll tl lv : Value) (w : World) (hr : RdTr w (twoT []) sl pl ll tl) (hlv : RdR w lv l) :
    CnX Tryz.prog 31 #[trV (twoT []) sl pl ll tl, vi tol, lv] w [] (fun y : Option Addr × Nat => .tuple #[slV L.length y, vi e]) (fun y w' => RdI w' (slV L.length y) L) := by
  have h := fewest_c (twoT []) (twoT_nt [] (by decide)) tol ht l hl sl pl ll tl lv w hr hlv
  rw [hE] at h
  exact slicedX2 (g := fun v => .tuple #[v, vi e]) h
theorem n_leave (sl pl ll tl : Value) (w : World) (hr : RdTr w (twoT []) sl pl ll tl) :
    CnX Tryz.prog 37 #[trV (twoT []) sl pl ll tl] w [] (fun y : Option Addr × Nat => .tuple #[slV 0 y, vi 0]) (fun y w' => RdI w' (slV 0 y) []) := by
  have h := leaveT_sx2 (twoT []) (askedE_0 ta2).1 sl pl ll tl w hr
  rw [tn9] at h
  exact h
theorem n_show (sl pl ll tl : Value) (w : World) (hr : RdTr w (twoT []) sl pl ll tl) :
    CnX Tryz.prog 51 #[trV (twoT []) sl pl ll tl] w [] (fun y : (Option Addr × Nat) × (Option Addr × Nat) => .tuple #[.agg #[slV 2 y.1, slV 2 y.2], vi 0]) (fun y w' => RdI w' (slV 2 y.1) (errL (twoT []) (e0L (twoT []))) ∧ RdI w' (slV 2 y.2) (dlN (twoT []) (e0L (twoT [])) [] 2)) :=
  show_sl2 (twoT []) (twoT_nt [] (by decide)) ta2 sl pl ll tl w hr
theorem n_prove {xe xd : List Int} {b : Bool} (hE : proveB (twoT []) xe xd = b) (hl : (xe.length : Int) ≤ 9000000000000000000) (ev dv sl pl ll tl : Value) (w : World) (hr : RdTr w (twoT []) sl pl ll tl) (h1 : RdI w ev xe) (h2 : RdI w dv xd) :
    CnV Tryz.prog 52 #[trV (twoT []) sl pl ll tl, .agg #[ev, dv]] w (.bool b) := by
  have h := prove_c (twoT []) (twoT_nt [] (by decide)) xe xd hl ev dv sl pl ll tl w hr h1 h2
  rw [hE] at h
  exact h
theorem offK_c (w : World) : CnX Tryz.prog 61 #[] w [] (fun b : Nat => .slice (some ⟨b, 0, none⟩) 2 2) (fun b w' => RdR w' (.slice (some ⟨b, 0, none⟩) 1 2) [(0, 1000)]) := by
  refine cnx0 (vs := []) Tryz.func61 rfl rfl ?_
  all_goals refine tc_seq fun K1 hK1 => ?_; refine tc_region ?_; refine tl_q (y_assign rfl) rfl ?_; refine tl_nil ?_; ((refine hK1 ?_; try (clear hK1; clear K1)))
  all_goals refine tc_seq fun K2 hK2 => ?_; refine tc_region ?_; refine tl_q (y_build_2 rfl rfl rfl rfl) rfl ?_; refine tl_q (y_build_2 rfl rfl rfl rfl) rfl ?_; (refine tl_e (e_bslice rfl (by (repeat (first | exact .nil | apply PV.two rfl)); done) rfl rfl) rfl (fun b3 _ => ?_))
  all_goals refine tl_q (y_assign rfl) rfl ?_; refine tl_nil ?_; ((refine hK2 ?_; try (clear hK2; clear K2)))
  all_goals refine tc_ret ?_; (repeat (first | refine tk_then_ret ?_))
  all_goals (refine tk_ret rfl rfl (.cons (.tmp rfl) .nil) ?_)
  all_goals (
   exact fun w' hw' => ⟨b3, rfl, hw'.fr (by simp), RdR.own (xs := [(0, 1000)]) (cap := 2) (junk := [vi 0, vi 1100]) (b := b3) hw' (by repeat constructor)⟩)
theorem n_shown2 (sl pl ll tl lv : Value) (w : World) (hr : RdTr w (twoT []) sl pl ll tl) (hl : RdI w lv [0, 3]) :
    CnV Tryz.prog 17 #[trV (twoT []) sl pl ll tl, lv, vi 0, vi 1000] w (.tuple #[.slice none 0 0, vi 2]) :=
  shown_no (twoT []) (twoT_nt [] (by decide)) [0, 3] (by decide) 0 1000 (by decide) tn12 sl pl ll tl lv w hr hl
theorem n_shown3 (sl pl ll tl lv : Value) (w : World) (hr : RdTr w (twoT []) sl pl ll tl) (hl : RdI w lv [0, 1]) :
    CnV Tryz.prog 17 #[trV (twoT []) sl pl ll tl, lv, vi 3, vi 1000] w (.tuple #[.slice none 0 0, vi 2]) :=
  shown_no (twoT []) (twoT_nt [] (by decide)) [0, 1] (by decide) 3 1000 (by decide) tn13 sl pl ll tl lv w hr hl
theorem n_err (sl pl ll tl : Value) (w : World) (hr : RdTr w (twoT [(0, 0, 8)]) sl pl ll tl) : CnV Tryz.prog 35 #[trV (twoT [(0, 0, 8)]) sl pl ll tl] w (.tuple #[.slice none 0 0, vi 11]) := by
  have h := errors_no (twoT [(0, 0, 8)]) (twoT_nt _ (by decide)) (by rw [tn15]; decide) sl pl ll tl w hr
  rw [tn15] at h
  exact h
theorem n_cert (sl pl ll tl : Value) (w : World) (hr : RdTr w (twoT [(0, 0, 8)]) sl pl ll tl) : CnV Tryz.prog 47 #[trV (twoT [(0, 0, 8)]) sl pl ll tl] w (.tuple #[.slice none 0 0, vi 11]) := by
  have h := certificate_no (twoT [(0, 0, 8)]) (twoT_nt _ (by decide)) (by rw [tn15]; decide) sl pl ll tl w hr
  rw [tn15] at h
  exact h
abbrev partT : Tr := ⟨twoS, [0, 11], 2, [(1000, 1000), (915, 925)], [(0, 0, 6), (1, 0, 10)]⟩
abbrev frstT : Tr := ⟨twoS, [1, 6], 2, [(1000, 1000), (915, 925)], [(0, 0, 6), (1, 0, 10)]⟩
abbrev worsT : Tr := ⟨twoS, [0, 6], 4, [(1000, 1000), (915, 925)], [(0, 0, 6), (1, 0, 10)]⟩
abbrev wideT : Tr := ⟨twoS, [0, 6], 2, [(1000, 1041), (915, 925)], [(0, 0, 6), (1, 0, 10)]⟩
abbrev testT : Tr := ⟨twoS, [0, 6], 2, [(1000, 1000), (915, 925)], [(0, 0, -2), (1, 0, 10)]⟩
abbrev manyT : Tr := ⟨twoS, [0, 6], 2, [(1000, 1000), (915, 925)], [(0, 0, 0), (0, 0, 0), (0, 0, 0), (0, 0, 0), (0, 0, 0), (0, 0, 0), (0, 0, 0)]⟩
abbrev badT : Tr := ⟨⟨900, 800, 20, 10, 0, [100, 200]⟩, [0, 6], 2, [(1000, 1000), (915, 925)], [(0, 0, 6), (1, 0, 10)]⟩
abbrev zeroT : Tr := ⟨⟨0, 0, 0, 0, 0, []⟩, [], 0, [], []⟩
end Go.Sp
/-
  Trials, plainly: what a truth is; what was tried in one.
-/
namespace Go.Sp
open Go Go.Proofs
end Go.Sp
/-
  Trials, plainly: offers that are tried decide.
-/
namespace Go.Sp
open Go Go.Proofs
end Go.Sp
/-
  The reference of trials: what can be shown.
-/
namespace Go.Sp
open Go Go.Proofs
end Go.Sp
/-
  The reference of trials: all that can be shown.
-/
namespace Go.Sp
open Go Go.Proofs
end Go.Sp
/-
  Helpers of the statements about trials: what is picked and tried, by words.
-/
namespace Go.Sp
open Go Go.Proofs
end Go.Sp
/-
  What several statements about trials use: answers as slices; appending to slices that may be long.
-/
namespace Go.Sp
open Go Go.Proofs
end Go.Sp
/-
  Helpers of the statements about trials: what is tried, by words.
-/
namespace Go.Sp
open Go Go.Proofs
theorem RdTr.tests {w : World} {t : Tr} {sl pl ll tl tl2 : Value} {ts : List E3} (h : RdTr w t sl pl ll tl) (h2 : RdT w tl2 ts) : RdTr w { t with tests := ts } sl pl ll tl2 := ⟨h.ws, h.ps, h.ls, h2⟩
end Go.Sp
/-
  TrialTruth: the law's function returns true.
-/
namespace Go.Sp
open Go Go.Proofs
end Go.Sp
/-
  TrialDecided: offers as the program takes them; three draws ready at once.
-/
namespace Go.Sp
open Go Go.Proofs
section
variable {r : Option Nat} {P : Program} {ops : Array Oper} {Q : Exit → Act → World → Prop} {N : NN} {F : List (Nat × Value)} {bs : List (World × List Nat)} {H : List (Nat × Obj)}
theorem tx_three {fuel : Nat} {S : World → Prop} {listed : Array Bool} (i j k : Nat) (hr : Region.ready .any ops listed = [i, j, k]) (h1 : TOne r P ops Q fuel S listed i N F bs H) (h2 : TOne r P ops Q fuel S listed j N F bs H) (h3 : TOne r P ops Q fuel S listed k N F bs H) : TX r P ops Q (fuel + 1) S listed N F bs H := by
  unfold TOne at h1 h2 h3
  unfold TX
  exact fun a w ht hw =>
    ⟨fun h0 => (by rw [h0] at hr; cases hr), fun q hq => by
      rw [hr] at hq
      rcases (by simpa using hq : q = i ∨ q = j ∨ q = k) with rfl | rfl | rfl
      · exact h1 a w ht hw
      · exact h2 a w ht hw
      · exact h3 a w ht hw⟩
end
end Go.Sp
/-
  TrialNames.
-/
namespace Go.Sp
open Go Go.Proofs
set_option maxRecDepth 1000000 in
set_option maxHeartbeats 16000000 in
theorem tnames_c (w : World) : CnV Tryz.prog 14 #[] w (.bool true) := by
  refine cnv (vs := []) Tryz.func14 rfl rfl ?_
  all_goals refine tc_seq fun K1 hK1 => ?_; refine tc_region ?_; refine tl_q (y_assign rfl) rfl ?_; refine tl_nil ?_; ((refine hK1 ?_; try (clear hK1; clear K1)))
  all_goals refine tc_seq fun K2 hK2 => ?_; refine tc_lay ([]) (SB.s .nil) (fun wl1 hl1 => ?_); refine tc_region ?_; refine tl_e (e_callX rfl (.cons rfl .nil) (fun w' _ => two9_c [] (by decide) _ w' (RdT.nil w'))) rfl (fun x1 hx1 => ?_); ((refine tl_e (e_bslice rfl (by (repeat (first | exact .nil | apply PV.one rfl rfl)); done) rfl rfl) rfl (fun b1 _ => ?_)))
  all_goals (refine tl_e (e_callX rfl (.cons rfl (.cons rfl (.cons rfl (.cons rfl .nil)))) (fun w' hw' => n_shown _ _ _ _ _ w' (hx1.1.fr (hw'.calm hx1.2 MI.m SB.s)) (RdI.own0 (xs := [-2, 1]) hw' (by repeat constructor)))) rfl (fun y1 hy1 => ?_)); refine tl_q (y_move rfl) rfl ?_; refine tl_q (y_extract rfl rfl) rfl ?_; refine tl_q (y_extract rfl rfl) rfl ?_; refine tl_q (y_assign rfl) rfl ?_; refine tl_q (y_assign rfl) rfl ?_; refine tl_nil ?_; ((refine hK2 ?_; try (clear hK2; clear K2)))
  all_goals refine tc_seq fun K3 hK3 => ?_; refine tc_lay ([]) (SB.s .nil) (fun wl2 hl2 => ?_)
  have r1 := hy1.1.fr (hl2.calm hy1.2 MI.m SB.s)
  all_goals refine tc_region ?_; refine tl_e (e_callX rfl (.cons rfl .nil) (fun w' _ => two9_c [] (by decide) _ w' (RdT.nil w'))) rfl (fun x2 hx2 => ?_); refine tl_e (e_callV rfl (.cons rfl (.cons rfl .nil)) (fun w' hw' => judgeN_v tn3 (twoT_nt [] (by decide)) (by decide) _ _ _ _ w' (hx2.1.fr (hw'.calm hx2.2 MI.m (List.Sublist.refl _))))) rfl (fun _ _ => ?_); refine tl_q (y_move rfl) rfl ?_; refine tl_q (y_extract rfl rfl) rfl ?_; refine tl_q (y_extract rfl rfl) rfl ?_; refine tl_q (y_assign rfl) rfl ?_; refine tl_q (y_assign rfl) rfl ?_; refine tl_nil ?_; ((refine hK3 ?_; try (clear hK3; clear K3)))
  all_goals refine tc_seq fun K4 hK4 => ?_; refine tc_lay ([]) (SB.s .nil) (fun wl3 hl3 => ?_); refine tc_region ?_; refine tl_e (e_callX rfl (.cons rfl .nil) (fun w' _ => two9_c [] (by decide) _ w' (RdT.nil w'))) rfl (fun x3 hx3 => ?_); refine tl_e (e_callV rfl (.cons rfl (.cons rfl .nil)) (fun w' hw' => judgeN_v tn4 (twoT_nt [] (by decide)) (by decide) _ _ _ _ w' (hx3.1.fr (hw'.calm hx3.2 MI.m (List.Sublist.refl _))))) rfl (fun _ _ => ?_); refine tl_q (y_move rfl) rfl ?_; refine tl_q (y_extract rfl rfl) rfl ?_; refine tl_q (y_extract rfl rfl) rfl ?_; refine tl_q (y_assign rfl) rfl ?_; refine tl_q (y_assign rfl) rfl ?_; refine tl_nil ?_; ((refine hK4 ?_; try (clear hK4; clear K4)))
  all_goals refine tc_seq fun K5 hK5 => ?_; refine tc_lay ([]) (SB.s .nil) (fun wl4 hl4 => ?_); refine tc_region ?_; refine tl_e (e_callX rfl (.cons rfl .nil) (fun w' _ => two9_c [] (by decide) _ w' (RdT.nil w'))) rfl (fun x4 hx4 => ?_); refine tl_e (e_callV rfl (.cons rfl (.cons rfl (.cons rfl .nil))) (fun w' hw' => correctN_v tn5 (twoT_nt [] (by decide)) _ _ _ _ w' (hx4.1.fr (hw'.calm hx4.2 MI.m (List.Sublist.refl _))))) rfl (fun _ _ => ?_); refine tl_q (y_move rfl) rfl ?_; refine tl_q (y_extract rfl rfl) rfl ?_; refine tl_q (y_extract rfl rfl) rfl ?_; refine tl_e (e_allocN rfl) rfl (fun b4 _ => ?_); refine tl_e (e_storeW rfl rfl (by repeat constructor) (by rfl) (by rfl) (by simp [slV, rV, Value.oneCell'])) rfl (fun _ _ => ?_); refine tl_q (y_assign rfl) rfl ?_; refine tl_nil ?_; ((refine hK5 ?_; try (clear hK5; clear K5)))
  all_goals refine tc_seq fun K6 hK6 => ?_; refine tc_lay ([]) (SB.s .nil) (fun wl5 hl5 => ?_); refine tc_region ?_; refine tl_e (e_callX rfl (.cons rfl .nil) (fun w' _ => two9_c [] (by decide) _ w' (RdT.nil w'))) rfl (fun x5 hx5 => ?_); refine tl_e (e_callX rfl (.cons rfl .nil) (fun w' hw' => n_den _ _ _ _ w' (hx5.1.fr (hw'.calm hx5.2 MI.m (List.Sublist.refl _))))) rfl (fun y5 hy5 => ?_); refine tl_q (y_move rfl) rfl ?_; refine tl_q (y_extract rfl rfl) rfl ?_; refine tl_q (y_extract rfl rfl) rfl ?_; refine tl_q (y_assign rfl) rfl ?_; refine tl_q (y_assign rfl) rfl ?_; refine tl_nil ?_; ((refine hK6 ?_; try (clear hK6; clear K6)))
  all_goals refine tc_seq fun K7 hK7 => ?_; refine tc_lay ([]) (SB.s .nil) (fun wl6 hl6 => ?_); refine tc_region ?_; refine tl_e (e_callX rfl (.cons rfl .nil) (fun w' _ => two9_c [] (by decide) _ w' (RdT.nil w'))) rfl (fun x6 hx6 => ?_); refine tl_e (e_callX rfl (.cons rfl (.cons rfl (.cons rfl .nil))) (fun w' hw' => n_few tn7 (by decide) (by decide) _ _ _ _ _ w' (hx6.1.fr (hw'.calm hx6.2 MI.m (List.Sublist.refl _))) (RdR.nil w'))) rfl (fun y6 hy6 => ?_); refine tl_q (y_move rfl) rfl ?_; refine tl_q (y_extract rfl rfl) rfl ?_; refine tl_q (y_extract rfl rfl) rfl ?_; refine tl_q (y_assign rfl) rfl ?_; refine tl_q (y_assign rfl) rfl ?_; refine tl_nil ?_; ((refine hK7 ?_; try (clear hK7; clear K7)))
  all_goals refine tc_seq fun K8 hK8 => ?_; refine tc_lay ([]) (SB.s .nil) (fun wl7 hl7 => ?_); refine tc_region ?_; refine tl_e (e_callX rfl (.cons rfl .nil) (fun w' _ => two9_c [] (by decide) _ w' (RdT.nil w'))) rfl (fun x7 hx7 => ?_); refine tl_e (e_callX rfl (.cons rfl .nil) (fun w' hw' => n_show _ _ _ _ w' (hx7.1.fr (hw'.calm hx7.2 MI.m (List.Sublist.refl _))))) rfl (fun y7 hy7 => ?_); refine tl_q (y_move rfl) rfl ?_; refine tl_q (y_extract rfl rfl) rfl ?_; refine tl_q (y_extract rfl rfl) rfl ?_; refine tl_e (e_allocN rfl) rfl (fun b7 _ => ?_); refine tl_e (e_storeW rfl rfl (by repeat constructor) (by rfl) (by rfl) (by simp [slV, rV, Value.oneCell'])) rfl (fun _ _ => ?_); refine tl_q (y_assign rfl) rfl ?_; refine tl_nil ?_; ((refine hK8 ?_; try (clear hK8; clear K8)))
  all_goals refine tc_seq fun K9 hK9 => ?_; refine tc_lay ([]) (SB.s .nil) (fun wl8 hl8 => ?_); refine tc_region ?_; refine tl_e (e_callX rfl (.cons rfl .nil) (fun w' _ => two9_c [] (by decide) _ w' (RdT.nil w'))) rfl (fun x8 hx8 => ?_); refine tl_e (e_callX rfl (.cons rfl .nil) (fun w' hw' => n_leave _ _ _ _ w' (hx8.1.fr (hw'.calm hx8.2 MI.m (List.Sublist.refl _))))) rfl (fun y8 hy8 => ?_); refine tl_q (y_move rfl) rfl ?_; refine tl_q (y_extract rfl rfl) rfl ?_; refine tl_q (y_extract rfl rfl) rfl ?_; refine tl_q (y_assign rfl) rfl ?_; refine tl_q (y_assign rfl) rfl ?_; refine tl_nil ?_; ((refine hK9 ?_; try (clear hK9; clear K9)))
  all_goals refine tc_seq fun K10 hK10 => ?_
  all_goals (
   refine tc_join (fun _ : Unit => True) (fun _ => [(169, .bool false)]) (fun _ => [(w, [])]) (fun _ => []) ?_ ?_
   · as_aux_lemma =>
     all_goals refine tc_lay ([]) (SB.s .nil) (fun wl9 hl9 => ?_); ((obtain ⟨adD, cpD, bD, oD, eD, hadD, hcD⟩ := hy5.1.open; have hadD' := hadD (by decide)))
     all_goals refine tc_drawS ([]) (by kernel_rfl) ?_; refine tx_p 0 rfl (by kernel_rfl) (y_move rfl) rfl (fun _ _ _ h => h) (fun _ h => h.subl SB.s SB.s) ?_; refine tx_p 1 rfl (by kernel_rfl) (y_neq rfl rfl) rfl (fun _ _ _ h => h) (fun _ h => h.subl SB.s SB.s) ?_; refine tx_p 2 rfl (by kernel_rfl) (y_move rfl) rfl (fun _ _ _ h => h) (fun _ h => h.subl SB.s SB.s) ?_; refine tx_pg 3 rfl (by kernel_rfl) rfl rfl (y_move rfl) rfl (fun _ _ _ h => h) (fun _ h => h.subl SB.s SB.s) ?_; ((refine tx_single 4 (by kernel_rfl) (to_eg rfl rfl rfl rfl (e_bslice rfl (by (repeat (first | exact .nil | apply PV.one rfl rfl)); done) rfl rfl) (.inr ⟨fun _ _ h => h.subl SB.s SB.s, fun _ h => h⟩) (fun c1 _ => ?_))))
     all_goals (refine tx_single 5 (by kernel_rfl) (to_eg rfl rfl rfl rfl (e_callV rfl (.cons rfl (.cons rfl .nil)) (fun w' hw' => ints9_t [-1] (by decide) _ _ w' (r1.fr (hw'.fr (w0 := wl2) (S := []) MI.m)) (RdI.own0 (xs := [-1]) hw' (by repeat constructor)))) (.inr ⟨fun _ _ h => h.subl SB.s SB.s, fun _ h => h⟩) (fun _ _ => ?_))); refine tx_norm (L' := [true, true, true, true, true, true, false, false, false, false, false, false, false, false, false, false, false, false, false, false, false, false, false, false, false, false, false, false, false, false, false, false, false, false, false, false, false, false, false, false, false, false, false, false, false, false, false, false, false, false, false, false, false, false, false, false, false, false, false, false, false, false, false, false, false, false, false, false, false, false, false, false, false, false, false, false, false, false, false, false, false, false, false, false, false, false, false, false, false, false, false, false, false, false, false, false, false, false, false]) (by kernel_rfl) ?_; refine tx_pg 6 rfl (by kernel_rfl) rfl rfl (y_not rfl) rfl (fun _ _ _ h => h) (fun _ h => h.subl SB.s SB.s) ?_; refine tx_p 7 rfl (by kernel_rfl) (y_pick_f rfl rfl) rfl (fun _ _ _ h => h) (fun _ h => h.subl SB.s SB.s) ?_; refine tx_p 8 rfl (by kernel_rfl) (y_move rfl) rfl (fun _ _ _ h => h) (fun _ h => h.subl SB.s SB.s) ?_; refine tx_pg 9 rfl (by kernel_rfl) rfl rfl (y_move rfl) rfl (fun _ _ _ h => h) (fun _ h => h.subl SB.s SB.s) ?_; refine tx_pg 10 rfl (by kernel_rfl) rfl rfl (y_neq rfl rfl) rfl (fun _ _ _ h => h) (fun _ h => h.subl SB.s SB.s) ?_; refine tx_p 11 rfl (by kernel_rfl) (y_pick_f rfl rfl) rfl (fun _ _ _ h => h) (fun _ h => h.subl SB.s SB.s) ?_; refine tx_norm (L' := [true, true, true, true, true, true, true, true, true, true, true, true, false, false, false, false, false, false, false, false, false, false, false, false, false, false, false, false, false, false, false, false, false, false, false, false, false, false, false, false, false, false, false, false, false, false, false, false, false, false, false, false, false, false, false, false, false, false, false, false, false, false, false, false, false, false, false, false, false, false, false, false, false, false, false, false, false, false, false, false, false, false, false, false, false, false, false, false, false, false, false, false, false, false, false, false, false, false, false]) (by kernel_rfl) ?_
     all_goals as_aux_lemma =>
      all_goals refine tx_p 12 rfl (by kernel_rfl) (y_move rfl) rfl (fun _ _ _ h => h) (fun _ h => h.subl SB.s SB.s) ?_; refine tx_pg 13 rfl (by kernel_rfl) rfl rfl (y_move rfl) rfl (fun _ _ _ h => h) (fun _ h => h.subl SB.s SB.s) ?_; refine tx_pg 14 rfl (by kernel_rfl) rfl rfl (y_neq rfl rfl) rfl (fun _ _ _ h => h) (fun _ h => h.subl SB.s SB.s) ?_; refine tx_p 15 rfl (by kernel_rfl) (y_pick_f rfl rfl) rfl (fun _ _ _ h => h) (fun _ h => h.subl SB.s SB.s) ?_; refine tx_p 16 rfl (by kernel_rfl) (y_move rfl) rfl (fun _ _ _ h => h) (fun _ h => h.subl SB.s SB.s) ?_; refine tx_pg 17 rfl (by kernel_rfl) rfl rfl (y_move rfl) rfl (fun _ _ _ h => h) (fun _ h => h.subl SB.s SB.s) ?_; refine tx_norm (L' := [true, true, true, true, true, true, true, true, true, true, true, true, true, true, true, true, true, true, false, false, false, false, false, false, false, false, false, false, false, false, false, false, false, false, false, false, false, false, false, false, false, false, false, false, false, false, false, false, false, false, false, false, false, false, false, false, false, false, false, false, false, false, false, false, false, false, false, false, false, false, false, false, false, false, false, false, false, false, false, false, false, false, false, false, false, false, false, false, false, false, false, false, false, false, false, false, false, false, false]) (by kernel_rfl) ?_; refine tx_pg 18 rfl (by kernel_rfl) rfl rfl (y_neq rfl rfl) rfl (fun _ _ _ h => h) (fun _ h => h.subl SB.s SB.s) ?_; refine tx_p 19 rfl (by kernel_rfl) (y_pick_f rfl rfl) rfl (fun _ _ _ h => h) (fun _ h => h.subl SB.s SB.s) ?_; refine tx_p 20 rfl (by kernel_rfl) (y_move rfl) rfl (fun _ _ _ h => h) (fun _ h => h.subl SB.s SB.s) ?_; refine tx_pg 21 rfl (by kernel_rfl) rfl rfl (y_move rfl) rfl (fun _ _ _ h => h) (fun _ h => h.subl SB.s SB.s) ?_; refine tx_pg 22 rfl (by kernel_rfl) rfl rfl (y_neq rfl rfl) rfl (fun _ _ _ h => h) (fun _ h => h.subl SB.s SB.s) ?_; refine tx_p 23 rfl (by kernel_rfl) (y_pick_f rfl rfl) rfl (fun _ _ _ h => h) (fun _ h => h.subl SB.s SB.s) ?_; refine tx_norm (L' := [true, true, true, true, true, true, true, true, true, true, true, true, true, true, true, true, true, true, true, true, true, true, true, true, false, false, false, false, false, false, false, false, false, false, false, false, false, false, false, false, false, false, false, false, false, false, false, false, false, false, false, false, false, false, false, false, false, false, false, false, false, false, false, false, false, false, false, false, false, false, false, false, false, false, false, false, false, false, false, false, false, false, false, false, false, false, false, false, false, false, false, false, false, false, false, false, false, false, false]) (by kernel_rfl) ?_
      all_goals as_aux_lemma =>
       all_goals refine tx_p 24 rfl (by kernel_rfl) (y_move rfl) rfl (fun _ _ _ h => h) (fun _ h => h.subl SB.s SB.s) ?_; refine tx_pg 25 rfl (by kernel_rfl) rfl rfl (y_move rfl) rfl (fun _ _ _ h => h) (fun _ h => h.subl SB.s SB.s) ?_; refine tx_pg 26 rfl (by kernel_rfl) rfl rfl (y_neq rfl rfl) rfl (fun _ _ _ h => h) (fun _ h => h.subl SB.s SB.s) ?_; refine tx_p 27 rfl (by kernel_rfl) (y_pick_f rfl rfl) rfl (fun _ _ _ h => h) (fun _ h => h.subl SB.s SB.s) ?_; refine tx_p 28 rfl (by kernel_rfl) (y_move rfl) rfl (fun _ _ _ h => h) (fun _ h => h.subl SB.s SB.s) ?_; refine tx_qg 29 rfl (by kernel_rfl) rfl rfl (y_loadWf rfl (hl5.at (by repeat constructor)) MI.m (by simp) (by rfl)) rfl (fun _ _ _ h => h) (fun _ h => h.subl SB.s SB.s) ?_; refine tx_norm (L' := [true, true, true, true, true, true, true, true, true, true, true, true, true, true, true, true, true, true, true, true, true, true, true, true, true, true, true, true, true, true, false, false, false, false, false, false, false, false, false, false, false, false, false, false, false, false, false, false, false, false, false, false, false, false, false, false, false, false, false, false, false, false, false, false, false, false, false, false, false, false, false, false, false, false, false, false, false, false, false, false, false, false, false, false, false, false, false, false, false, false, false, false, false, false, false, false, false, false, false]) (by kernel_rfl) ?_; refine tx_single 30 (by kernel_rfl) (to_eg rfl rfl rfl rfl (e_callV rfl (.cons rfl (.cons rfl .nil)) (fun w' _ => between9_c _ _ w')) (.inr ⟨fun _ _ h => h.subl SB.s SB.s, fun _ h => h⟩) (fun _ _ => ?_)); refine tx_pg 31 rfl (by kernel_rfl) rfl rfl (y_neq2 rfl rfl) rfl (fun _ _ _ h => h) (fun _ h => h.subl SB.s SB.s) ?_; refine tx_p 32 rfl (by kernel_rfl) (y_pick_f rfl rfl) rfl (fun _ _ _ h => h) (fun _ h => h.subl SB.s SB.s) ?_
       all_goals as_aux_lemma =>
        all_goals refine tx_p 33 rfl (by kernel_rfl) (y_move rfl) rfl (fun _ _ _ h => h) (fun _ h => h.subl SB.s SB.s) ?_; refine tx_pg 34 rfl (by kernel_rfl) rfl rfl (y_move rfl) rfl (fun _ _ _ h => h) (fun _ h => h.subl SB.s SB.s) ?_; refine tx_pg 35 rfl (by kernel_rfl) rfl rfl (y_neq rfl rfl) rfl (fun _ _ _ h => h) (fun _ h => h.subl SB.s SB.s) ?_; refine tx_norm (L' := [true, true, true, true, true, true, true, true, true, true, true, true, true, true, true, true, true, true, true, true, true, true, true, true, true, true, true, true, true, true, true, true, true, true, true, true, false, false, false, false, false, false, false, false, false, false, false, false, false, false, false, false, false, false, false, false, false, false, false, false, false, false, false, false, false, false, false, false, false, false, false, false, false, false, false, false, false, false, false, false, false, false, false, false, false, false, false, false, false, false, false, false, false, false, false, false, false, false, false]) (by kernel_rfl) ?_; refine tx_p 36 rfl (by kernel_rfl) (y_pick_f rfl rfl) rfl (fun _ _ _ h => h) (fun _ h => h.subl SB.s SB.s) ?_; refine tx_p 37 rfl (by kernel_rfl) (y_move rfl) rfl (fun _ _ _ h => h) (fun _ h => h.subl SB.s SB.s) ?_; refine tx_pg 38 rfl (by kernel_rfl) rfl rfl (y_move rfl) rfl (fun _ _ _ h => h) (fun _ h => h.subl SB.s SB.s) ?_; refine tx_qg 39 rfl (by kernel_rfl) rfl rfl (y_len rfl) rfl (fun _ _ _ h => h) (fun _ h => h.subl SB.s SB.s) ?_; refine tx_pg 40 rfl (by kernel_rfl) rfl rfl (y_neq rfl rfl) rfl (fun _ _ _ h => h) (fun _ h => h.subl SB.s SB.s) ?_; refine tx_p 41 rfl (by kernel_rfl) (y_pick_f rfl rfl) rfl (fun _ _ _ h => h) (fun _ h => h.subl SB.s SB.s) ?_; refine tx_norm (L' := [true, true, true, true, true, true, true, true, true, true, true, true, true, true, true, true, true, true, true, true, true, true, true, true, true, true, true, true, true, true, true, true, true, true, true, true, true, true, true, true, true, true, false, false, false, false, false, false, false, false, false, false, false, false, false, false, false, false, false, false, false, false, false, false, false, false, false, false, false, false, false, false, false, false, false, false, false, false, false, false, false, false, false, false, false, false, false, false, false, false, false, false, false, false, false, false, false, false, false]) (by kernel_rfl) ?_
        all_goals as_aux_lemma =>
         all_goals refine tx_p 42 rfl (by kernel_rfl) (y_move rfl) rfl (fun _ _ _ h => h) (fun _ h => h.subl SB.s SB.s) ?_; refine tx_pg 43 rfl (by kernel_rfl) rfl rfl (y_move rfl) rfl (fun _ _ _ h => h) (fun _ h => h.subl SB.s SB.s) ?_; ((refine tx_pg 44 rfl (by kernel_rfl) rfl rfl (y_index rfl rfl (by omega) (by injection eD with e1; exact e1.trans hadD')) rfl (fun _ _ _ h => h) (fun _ h => h.subl SB.s SB.s) ?_))
         all_goals (refine tx_qg 45 rfl (by kernel_rfl) rfl rfl (y_loadNo (n := 2) (vs := [vi 1000, vi 1000]) rfl (fun w' hw' => hcD w' [] (hw'.fr (w0 := y5.2) (S := []) MI.m) (by simp) 0 (by decide))) rfl (fun _ _ _ h => h) (fun _ h => h.subl SB.s SB.s) ?_); refine tx_single 46 (by kernel_rfl) (to_eg rfl rfl rfl rfl (e_callV rfl (.cons rfl (.cons rfl .nil)) (fun w' _ => between9_c _ _ w')) (.inr ⟨fun _ _ h => h.subl SB.s SB.s, fun _ h => h⟩) (fun _ _ => ?_)); refine tx_pg 47 rfl (by kernel_rfl) rfl rfl (y_neq2 rfl rfl) rfl (fun _ _ _ h => h) (fun _ h => h.subl SB.s SB.s) ?_; refine tx_norm (L' := [true, true, true, true, true, true, true, true, true, true, true, true, true, true, true, true, true, true, true, true, true, true, true, true, true, true, true, true, true, true, true, true, true, true, true, true, true, true, true, true, true, true, true, true, true, true, true, true, false, false, false, false, false, false, false, false, false, false, false, false, false, false, false, false, false, false, false, false, false, false, false, false, false, false, false, false, false, false, false, false, false, false, false, false, false, false, false, false, false, false, false, false, false, false, false, false, false, false, false]) (by kernel_rfl) ?_; refine tx_p 48 rfl (by kernel_rfl) (y_pick_f rfl rfl) rfl (fun _ _ _ h => h) (fun _ h => h.subl SB.s SB.s) ?_
         all_goals as_aux_lemma =>
          all_goals refine tx_p 49 rfl (by kernel_rfl) (y_move rfl) rfl (fun _ _ _ h => h) (fun _ h => h.subl SB.s SB.s) ?_; refine tx_pg 50 rfl (by kernel_rfl) rfl rfl (y_move rfl) rfl (fun _ _ _ h => h) (fun _ h => h.subl SB.s SB.s) ?_; ((refine tx_pg 51 rfl (by kernel_rfl) rfl rfl (y_index rfl rfl (by omega) (by injection eD with e1; exact e1.trans hadD')) rfl (fun _ _ _ h => h) (fun _ h => h.subl SB.s SB.s) ?_))
          all_goals (refine tx_qg 52 rfl (by kernel_rfl) rfl rfl (y_loadNo (n := 2) (vs := [vi 915, vi 925]) rfl (fun w' hw' => hcD w' [] (hw'.fr (w0 := y5.2) (S := []) MI.m) (by simp) 1 (by decide))) rfl (fun _ _ _ h => h) (fun _ h => h.subl SB.s SB.s) ?_); refine tx_single 53 (by kernel_rfl) (to_eg rfl rfl rfl rfl (e_callV rfl (.cons rfl (.cons rfl .nil)) (fun w' _ => between9_c _ _ w')) (.inr ⟨fun _ _ h => h.subl SB.s SB.s, fun _ h => h⟩) (fun _ _ => ?_)); refine tx_norm (L' := [true, true, true, true, true, true, true, true, true, true, true, true, true, true, true, true, true, true, true, true, true, true, true, true, true, true, true, true, true, true, true, true, true, true, true, true, true, true, true, true, true, true, true, true, true, true, true, true, true, true, true, true, true, true, false, false, false, false, false, false, false, false, false, false, false, false, false, false, false, false, false, false, false, false, false, false, false, false, false, false, false, false, false, false, false, false, false, false, false, false, false, false, false, false, false, false, false, false, false]) (by kernel_rfl) ?_; refine tx_pg 54 rfl (by kernel_rfl) rfl rfl (y_neq2 rfl rfl) rfl (fun _ _ _ h => h) (fun _ h => h.subl SB.s SB.s) ?_; refine tx_p 55 rfl (by kernel_rfl) (y_pick_f rfl rfl) rfl (fun _ _ _ h => h) (fun _ h => h.subl SB.s SB.s) ?_; refine tx_p 56 rfl (by kernel_rfl) (y_move rfl) rfl (fun _ _ _ h => h) (fun _ h => h.subl SB.s SB.s) ?_; refine tx_pg 57 rfl (by kernel_rfl) rfl rfl (y_move rfl) rfl (fun _ _ _ h => h) (fun _ h => h.subl SB.s SB.s) ?_; refine tx_pg 58 rfl (by kernel_rfl) rfl rfl (y_neq rfl rfl) rfl (fun _ _ _ h => h) (fun _ h => h.subl SB.s SB.s) ?_; refine tx_p 59 rfl (by kernel_rfl) (y_pick_f rfl rfl) rfl (fun _ _ _ h => h) (fun _ h => h.subl SB.s SB.s) ?_; refine tx_norm (L' := [true, true, true, true, true, true, true, true, true, true, true, true, true, true, true, true, true, true, true, true, true, true, true, true, true, true, true, true, true, true, true, true, true, true, true, true, true, true, true, true, true, true, true, true, true, true, true, true, true, true, true, true, true, true, true, true, true, true, true, true, false, false, false, false, false, false, false, false, false, false, false, false, false, false, false, false, false, false, false, false, false, false, false, false, false, false, false, false, false, false, false, false, false, false, false, false, false, false, false]) (by kernel_rfl) ?_
          all_goals as_aux_lemma =>
           all_goals refine tx_p 60 rfl (by kernel_rfl) (y_move rfl) rfl (fun _ _ _ h => h) (fun _ h => h.subl SB.s SB.s) ?_; refine tx_pg 61 rfl (by kernel_rfl) rfl rfl (y_move rfl) rfl (fun _ _ _ h => h) (fun _ h => h.subl SB.s SB.s) ?_; refine tx_qg 62 rfl (by kernel_rfl) rfl rfl (y_len rfl) rfl (fun _ _ _ h => h) (fun _ h => h.subl SB.s SB.s) ?_; refine tx_pg 63 rfl (by kernel_rfl) rfl rfl (y_neq rfl rfl) rfl (fun _ _ _ h => h) (fun _ h => h.subl SB.s SB.s) ?_; refine tx_p 64 rfl (by kernel_rfl) (y_pick_f rfl rfl) rfl (fun _ _ _ h => h) (fun _ h => h.subl SB.s SB.s) ?_; refine tx_p 65 rfl (by kernel_rfl) (y_move rfl) rfl (fun _ _ _ h => h) (fun _ h => h.subl SB.s SB.s) ?_; refine tx_norm (L' := [true, true, true, true, true, true, true, true, true, true, true, true, true, true, true, true, true, true, true, true, true, true, true, true, true, true, true, true, true, true, true, true, true, true, true, true, true, true, true, true, true, true, true, true, true, true, true, true, true, true, true, true, true, true, true, true, true, true, true, true, true, true, true, true, true, true, false, false, false, false, false, false, false, false, false, false, false, false, false, false, false, false, false, false, false, false, false, false, false, false, false, false, false, false, false, false, false, false, false]) (by kernel_rfl) ?_; refine tx_pg 66 rfl (by kernel_rfl) rfl rfl (y_move rfl) rfl (fun _ _ _ h => h) (fun _ h => h.subl SB.s SB.s) ?_; refine tx_pg 67 rfl (by kernel_rfl) rfl rfl (y_neq rfl rfl) rfl (fun _ _ _ h => h) (fun _ h => h.subl SB.s SB.s) ?_; refine tx_p 68 rfl (by kernel_rfl) (y_pick_f rfl rfl) rfl (fun _ _ _ h => h) (fun _ h => h.subl SB.s SB.s) ?_
           all_goals as_aux_lemma =>
            all_goals refine tx_p 69 rfl (by kernel_rfl) (y_move rfl) rfl (fun _ _ _ h => h) (fun _ h => h.subl SB.s SB.s) ?_; refine tx_qg 71 rfl (by kernel_rfl) rfl rfl (y_loadWf rfl (hl8.at (by repeat constructor)) MI.m (by simp) (by rfl)) rfl (fun _ _ _ h => h) (fun _ h => h.subl SB.s SB.s) ?_; refine tx_single 70 (by kernel_rfl) (to_eg rfl rfl rfl rfl (e_callX rfl (.cons rfl .nil) (fun w' _ => two9_c [] (by decide) _ w' (RdT.nil w'))) (.inr ⟨fun _ _ h => h.subl SB.s SB.s, fun _ h => h⟩) (fun z1 hz1 => ?_)); refine tx_norm (L' := [true, true, true, true, true, true, true, true, true, true, true, true, true, true, true, true, true, true, true, true, true, true, true, true, true, true, true, true, true, true, true, true, true, true, true, true, true, true, true, true, true, true, true, true, true, true, true, true, true, true, true, true, true, true, true, true, true, true, true, true, true, true, true, true, true, true, true, true, true, true, true, true, false, false, false, false, false, false, false, false, false, false, false, false, false, false, false, false, false, false, false, false, false, false, false, false, false, false, false]) (by kernel_rfl) ?_; refine tx_single 72 (by kernel_rfl) (to_eg rfl rfl rfl rfl (e_callV rfl (.cons rfl (.cons rfl .nil)) (fun w' hw' => n_prove tn8 (by decide) _ _ _ _ _ _ w' (hz1.1.fr (hw'.calm hz1.2 MI.m SB.s)) (hy7.1.1.fr (hw'.calm hy7.2 MI.m SB.s)) (hy7.1.2.fr (hw'.calm hy7.2 MI.m SB.s)))) (.inr ⟨fun _ _ h => h.subl SB.s SB.s, fun _ h => h⟩) (fun _ _ => ?_)); refine tx_pg 73 rfl (by kernel_rfl) rfl rfl (y_not rfl) rfl (fun _ _ _ h => h) (fun _ h => h.subl SB.s SB.s) ?_; refine tx_p 74 rfl (by kernel_rfl) (y_pick_f rfl rfl) rfl (fun _ _ _ h => h) (fun _ h => h.subl SB.s SB.s) ?_; refine tx_p 75 rfl (by kernel_rfl) (y_move rfl) rfl (fun _ _ _ h => h) (fun _ h => h.subl SB.s SB.s) ?_; refine tx_pg 76 rfl (by kernel_rfl) rfl rfl (y_move rfl) rfl (fun _ _ _ h => h) (fun _ h => h.subl SB.s SB.s) ?_; refine tx_pg 77 rfl (by kernel_rfl) rfl rfl (y_neq rfl rfl) rfl (fun _ _ _ h => h) (fun _ h => h.subl SB.s SB.s) ?_; refine tx_norm (L' := [true, true, true, true, true, true, true, true, true, true, true, true, true, true, true, true, true, true, true, true, true, true, true, true, true, true, true, true, true, true, true, true, true, true, true, true, true, true, true, true, true, true, true, true, true, true, true, true, true, true, true, true, true, true, true, true, true, true, true, true, true, true, true, true, true, true, true, true, true, true, true, true, true, true, true, true, true, true, false, false, false, false, false, false, false, false, false, false, false, false, false, false, false, false, false, false, false, false, false]) (by kernel_rfl) ?_; refine tx_p 78 rfl (by kernel_rfl) (y_pick_f rfl rfl) rfl (fun _ _ _ h => h) (fun _ h => h.subl SB.s SB.s) ?_
            all_goals as_aux_lemma =>
             all_goals refine tx_p 79 rfl (by kernel_rfl) (y_move rfl) rfl (fun _ _ _ h => h) (fun _ h => h.subl SB.s SB.s) ?_; refine tx_pg 80 rfl (by kernel_rfl) rfl rfl (y_move rfl) rfl (fun _ _ _ h => h) (fun _ h => h.subl SB.s SB.s) ?_; refine tx_qg 81 rfl (by kernel_rfl) rfl rfl (y_len rfl) rfl (fun _ _ _ h => h) (fun _ h => h.subl SB.s SB.s) ?_; refine tx_pg 82 rfl (by kernel_rfl) rfl rfl (y_neq rfl rfl) rfl (fun _ _ _ h => h) (fun _ h => h.subl SB.s SB.s) ?_; refine tx_p 83 rfl (by kernel_rfl) (y_pick_f rfl rfl) rfl (fun _ _ _ h => h) (fun _ h => h.subl SB.s SB.s) ?_; refine tx_norm (L' := [true, true, true, true, true, true, true, true, true, true, true, true, true, true, true, true, true, true, true, true, true, true, true, true, true, true, true, true, true, true, true, true, true, true, true, true, true, true, true, true, true, true, true, true, true, true, true, true, true, true, true, true, true, true, true, true, true, true, true, true, true, true, true, true, true, true, true, true, true, true, true, true, true, true, true, true, true, true, true, true, true, true, true, true, false, false, false, false, false, false, false, false, false, false, false, false, false, false, false]) (by kernel_rfl) ?_; refine tx_p 84 rfl (by kernel_rfl) (y_move rfl) rfl (fun _ _ _ h => h) (fun _ h => h.subl SB.s SB.s) ?_; refine tx_cut (n' := 6) (L' := [true, true, true, true, true, true, true, true, true, true, true, true, true, true, true, true, true, true, true, true, true, true, true, true, true, true, true, true, true, true, true, true, true, true, true, true, true, true, true, true, true, true, true, true, true, true, true, true, true, true, true, true, true, true, true, true, true, true, true, true, true, true, true, true, true, true, true, true, true, true, true, true, true, true, true, true, true, true, true, true, true, true, true, true, true, true, true, true, true, true, true, true, true, false, false, false, false, false, false]) ([(163, .bool false)]) ?_ (fun hT => ?_)
             rotate_left 1
             focus (as_aux_lemma => (
              all_goals (
               refine tx_three 85 86 87 (by kernel_rfl) ?_ ?_ ?_
               rotate_left 2
               focus (
                (refine to_eg rfl rfl rfl rfl (e_bslice rfl (by (repeat (first | exact .nil | apply PV.one rfl rfl)); done) rfl rfl) (.inr ⟨fun _ _ h => h.subl SB.s SB.s, fun _ h => h⟩) (fun c3 _ => ?_))
                all_goals (
                 refine tx_pair 85 86 (by kernel_rfl) ?_ ?_
                 rotate_left
                 focus (
                  (refine to_eg rfl rfl rfl rfl (e_bslice rfl (by (repeat (first | exact .nil | apply PV.one rfl rfl)); done) rfl rfl) (.inr ⟨fun _ _ h => h.subl SB.s SB.s, fun _ h => h⟩) (fun c2 _ => ?_))
                  all_goals (refine tx_pg 88 rfl (by kernel_rfl) rfl rfl (y_build_g (by repeat constructor)) rfl (fun _ _ _ h => h) (fun _ h => h.subl SB.s SB.s) ?_); refine tx_single 85 (by kernel_rfl) (to_eg rfl rfl rfl rfl (e_callX rfl (.cons rfl .nil) (fun w' _ => two9_c [] (by decide) _ w' (RdT.nil w'))) (.inr ⟨fun _ _ h => h.subl SB.s SB.s, fun _ h => h⟩) (fun z2 hz2 => ?_)); refine tx_single 89 (by kernel_rfl) (to_eg rfl rfl rfl rfl (e_callV rfl (.cons rfl (.cons rfl .nil)) (fun w' hw' => n_prove tn10 (by decide) _ _ _ _ _ _ w' (hz2.1.fr (hw'.calm hz2.2 MI.m SB.s)) (RdI.own0 (xs := [0, 1]) hw' (b := c2) (by repeat constructor)) (RdI.own0 (xs := [1000, 920]) hw' (b := c3) (by repeat constructor)))) (.inr ⟨fun _ _ h => h.subl SB.s SB.s, fun _ h => h⟩) (fun _ _ => ?_)); refine tx_norm (L' := [true, true, true, true, true, true, true, true, true, true, true, true, true, true, true, true, true, true, true, true, true, true, true, true, true, true, true, true, true, true, true, true, true, true, true, true, true, true, true, true, true, true, true, true, true, true, true, true, true, true, true, true, true, true, true, true, true, true, true, true, true, true, true, true, true, true, true, true, true, true, true, true, true, true, true, true, true, true, true, true, true, true, true, true, true, true, true, true, true, true, false, false, false, false, false, false, false, false, false]) (by kernel_rfl) ?_; refine tx_pg 90 rfl (by kernel_rfl) rfl rfl (y_not rfl) rfl (fun _ _ _ h => h) (fun _ h => h.subl SB.s SB.s) ?_; refine tx_p 91 rfl (by kernel_rfl) (y_pick_f rfl rfl) rfl (fun _ _ _ h => h) (fun _ h => h.subl SB.s SB.s) ?_; refine tx_p 92 rfl (by kernel_rfl) (y_move rfl) rfl (fun _ _ _ h => h) (fun _ h => h.subl SB.s SB.s) ?_
                  all_goals exact tx_meet hT (by kernel_rfl) (by kernel_rfl) (.cons rfl .nil) (fun _ h => h.subl SB.s SB.s))
                 rotate_right
                 focus (
                  (refine to_eg rfl rfl rfl rfl (e_callX rfl (.cons rfl .nil) (fun w' _ => two9_c [] (by decide) _ w' (RdT.nil w'))) (.inr ⟨fun _ _ h => h.subl SB.s SB.s, fun _ h => h⟩) (fun z2 hz2 => ?_))
                  all_goals refine tx_norm (L' := [true, true, true, true, true, true, true, true, true, true, true, true, true, true, true, true, true, true, true, true, true, true, true, true, true, true, true, true, true, true, true, true, true, true, true, true, true, true, true, true, true, true, true, true, true, true, true, true, true, true, true, true, true, true, true, true, true, true, true, true, true, true, true, true, true, true, true, true, true, true, true, true, true, true, true, true, true, true, true, true, true, true, true, true, true, true, false, true, false, false, false, false, false, false, false, false, false, false, false]) (by kernel_rfl) ?_; ((refine tx_single 86 (by kernel_rfl) (to_eg rfl rfl rfl rfl (e_bslice rfl (by (repeat (first | exact .nil | apply PV.one rfl rfl)); done) rfl rfl) (.inr ⟨fun _ _ h => h.subl SB.s SB.s, fun _ h => h⟩) (fun c2 _ => ?_))))
                  all_goals (refine tx_pg 88 rfl (by kernel_rfl) rfl rfl (y_build_g (by repeat constructor)) rfl (fun _ _ _ h => h) (fun _ h => h.subl SB.s SB.s) ?_); refine tx_single 89 (by kernel_rfl) (to_eg rfl rfl rfl rfl (e_callV rfl (.cons rfl (.cons rfl .nil)) (fun w' hw' => n_prove tn10 (by decide) _ _ _ _ _ _ w' (hz2.1.fr (hw'.calm hz2.2 MI.m SB.s)) (RdI.own0 (xs := [0, 1]) hw' (b := c2) (by repeat constructor)) (RdI.own0 (xs := [1000, 920]) hw' (b := c3) (by repeat constructor)))) (.inr ⟨fun _ _ h => h.subl SB.s SB.s, fun _ h => h⟩) (fun _ _ => ?_)); refine tx_pg 90 rfl (by kernel_rfl) rfl rfl (y_not rfl) rfl (fun _ _ _ h => h) (fun _ h => h.subl SB.s SB.s) ?_; refine tx_p 91 rfl (by kernel_rfl) (y_pick_f rfl rfl) rfl (fun _ _ _ h => h) (fun _ h => h.subl SB.s SB.s) ?_; refine tx_p 92 rfl (by kernel_rfl) (y_move rfl) rfl (fun _ _ _ h => h) (fun _ h => h.subl SB.s SB.s) ?_
                  all_goals exact tx_meet hT (by kernel_rfl) (by kernel_rfl) (.cons rfl .nil) (fun _ h => h.subl SB.s SB.s))))
               rotate_right
               focus (
                (refine to_eg rfl rfl rfl rfl (e_bslice rfl (by (repeat (first | exact .nil | apply PV.one rfl rfl)); done) rfl rfl) (.inr ⟨fun _ _ h => h.subl SB.s SB.s, fun _ h => h⟩) (fun c2 _ => ?_))
                all_goals (
                 refine tx_pair 85 87 (by kernel_rfl) ?_ ?_
                 rotate_left
                 focus (
                  (refine to_eg rfl rfl rfl rfl (e_bslice rfl (by (repeat (first | exact .nil | apply PV.one rfl rfl)); done) rfl rfl) (.inr ⟨fun _ _ h => h.subl SB.s SB.s, fun _ h => h⟩) (fun c3 _ => ?_))
                  all_goals (refine tx_pg 88 rfl (by kernel_rfl) rfl rfl (y_build_g (by repeat constructor)) rfl (fun _ _ _ h => h) (fun _ h => h.subl SB.s SB.s) ?_); refine tx_single 85 (by kernel_rfl) (to_eg rfl rfl rfl rfl (e_callX rfl (.cons rfl .nil) (fun w' _ => two9_c [] (by decide) _ w' (RdT.nil w'))) (.inr ⟨fun _ _ h => h.subl SB.s SB.s, fun _ h => h⟩) (fun z2 hz2 => ?_)); refine tx_single 89 (by kernel_rfl) (to_eg rfl rfl rfl rfl (e_callV rfl (.cons rfl (.cons rfl .nil)) (fun w' hw' => n_prove tn10 (by decide) _ _ _ _ _ _ w' (hz2.1.fr (hw'.calm hz2.2 MI.m SB.s)) (RdI.own0 (xs := [0, 1]) hw' (b := c2) (by repeat constructor)) (RdI.own0 (xs := [1000, 920]) hw' (b := c3) (by repeat constructor)))) (.inr ⟨fun _ _ h => h.subl SB.s SB.s, fun _ h => h⟩) (fun _ _ => ?_)); refine tx_pg 90 rfl (by kernel_rfl) rfl rfl (y_not rfl) rfl (fun _ _ _ h => h) (fun _ h => h.subl SB.s SB.s) ?_; refine tx_p 91 rfl (by kernel_rfl) (y_pick_f rfl rfl) rfl (fun _ _ _ h => h) (fun _ h => h.subl SB.s SB.s) ?_; refine tx_p 92 rfl (by kernel_rfl) (y_move rfl) rfl (fun _ _ _ h => h) (fun _ h => h.subl SB.s SB.s) ?_
                  all_goals exact tx_meet hT (by kernel_rfl) (by kernel_rfl) (.cons rfl .nil) (fun _ h => h.subl SB.s SB.s))
                 rotate_right
                 focus (
                  (refine to_eg rfl rfl rfl rfl (e_callX rfl (.cons rfl .nil) (fun w' _ => two9_c [] (by decide) _ w' (RdT.nil w'))) (.inr ⟨fun _ _ h => h.subl SB.s SB.s, fun _ h => h⟩) (fun z2 hz2 => ?_))
                  all_goals ((refine tx_single 87 (by kernel_rfl) (to_eg rfl rfl rfl rfl (e_bslice rfl (by (repeat (first | exact .nil | apply PV.one rfl rfl)); done) rfl rfl) (.inr ⟨fun _ _ h => h.subl SB.s SB.s, fun _ h => h⟩) (fun c3 _ => ?_))))
                  all_goals (refine tx_pg 88 rfl (by kernel_rfl) rfl rfl (y_build_g (by repeat constructor)) rfl (fun _ _ _ h => h) (fun _ h => h.subl SB.s SB.s) ?_); refine tx_single 89 (by kernel_rfl) (to_eg rfl rfl rfl rfl (e_callV rfl (.cons rfl (.cons rfl .nil)) (fun w' hw' => n_prove tn10 (by decide) _ _ _ _ _ _ w' (hz2.1.fr (hw'.calm hz2.2 MI.m SB.s)) (RdI.own0 (xs := [0, 1]) hw' (b := c2) (by repeat constructor)) (RdI.own0 (xs := [1000, 920]) hw' (b := c3) (by repeat constructor)))) (.inr ⟨fun _ _ h => h.subl SB.s SB.s, fun _ h => h⟩) (fun _ _ => ?_)); refine tx_pg 90 rfl (by kernel_rfl) rfl rfl (y_not rfl) rfl (fun _ _ _ h => h) (fun _ h => h.subl SB.s SB.s) ?_; refine tx_p 91 rfl (by kernel_rfl) (y_pick_f rfl rfl) rfl (fun _ _ _ h => h) (fun _ h => h.subl SB.s SB.s) ?_; refine tx_p 92 rfl (by kernel_rfl) (y_move rfl) rfl (fun _ _ _ h => h) (fun _ h => h.subl SB.s SB.s) ?_
                  all_goals exact tx_meet hT (by kernel_rfl) (by kernel_rfl) (.cons rfl .nil) (fun _ h => h.subl SB.s SB.s))))
               rotate_right
               focus (
                (refine to_eg rfl rfl rfl rfl (e_callX rfl (.cons rfl .nil) (fun w' _ => two9_c [] (by decide) _ w' (RdT.nil w'))) (.inr ⟨fun _ _ h => h.subl SB.s SB.s, fun _ h => h⟩) (fun z2 hz2 => ?_))
                all_goals (
                 refine tx_pair 86 87 (by kernel_rfl) ?_ ?_
                 rotate_left
                 focus (
                  (refine to_eg rfl rfl rfl rfl (e_bslice rfl (by (repeat (first | exact .nil | apply PV.one rfl rfl)); done) rfl rfl) (.inr ⟨fun _ _ h => h.subl SB.s SB.s, fun _ h => h⟩) (fun c3 _ => ?_))
                  all_goals ((refine tx_single 86 (by kernel_rfl) (to_eg rfl rfl rfl rfl (e_bslice rfl (by (repeat (first | exact .nil | apply PV.one rfl rfl)); done) rfl rfl) (.inr ⟨fun _ _ h => h.subl SB.s SB.s, fun _ h => h⟩) (fun c2 _ => ?_))))
                  all_goals (refine tx_pg 88 rfl (by kernel_rfl) rfl rfl (y_build_g (by repeat constructor)) rfl (fun _ _ _ h => h) (fun _ h => h.subl SB.s SB.s) ?_); refine tx_single 89 (by kernel_rfl) (to_eg rfl rfl rfl rfl (e_callV rfl (.cons rfl (.cons rfl .nil)) (fun w' hw' => n_prove tn10 (by decide) _ _ _ _ _ _ w' (hz2.1.fr (hw'.calm hz2.2 MI.m SB.s)) (RdI.own0 (xs := [0, 1]) hw' (b := c2) (by repeat constructor)) (RdI.own0 (xs := [1000, 920]) hw' (b := c3) (by repeat constructor)))) (.inr ⟨fun _ _ h => h.subl SB.s SB.s, fun _ h => h⟩) (fun _ _ => ?_)); refine tx_pg 90 rfl (by kernel_rfl) rfl rfl (y_not rfl) rfl (fun _ _ _ h => h) (fun _ h => h.subl SB.s SB.s) ?_; refine tx_p 91 rfl (by kernel_rfl) (y_pick_f rfl rfl) rfl (fun _ _ _ h => h) (fun _ h => h.subl SB.s SB.s) ?_; refine tx_p 92 rfl (by kernel_rfl) (y_move rfl) rfl (fun _ _ _ h => h) (fun _ h => h.subl SB.s SB.s) ?_
                  all_goals exact tx_meet hT (by kernel_rfl) (by kernel_rfl) (.cons rfl .nil) (fun _ h => h.subl SB.s SB.s))
                 rotate_right
                 focus (
                  (refine to_eg rfl rfl rfl rfl (e_bslice rfl (by (repeat (first | exact .nil | apply PV.one rfl rfl)); done) rfl rfl) (.inr ⟨fun _ _ h => h.subl SB.s SB.s, fun _ h => h⟩) (fun c2 _ => ?_))
                  all_goals ((refine tx_single 87 (by kernel_rfl) (to_eg rfl rfl rfl rfl (e_bslice rfl (by (repeat (first | exact .nil | apply PV.one rfl rfl)); done) rfl rfl) (.inr ⟨fun _ _ h => h.subl SB.s SB.s, fun _ h => h⟩) (fun c3 _ => ?_))))
                  all_goals (refine tx_pg 88 rfl (by kernel_rfl) rfl rfl (y_build_g (by repeat constructor)) rfl (fun _ _ _ h => h) (fun _ h => h.subl SB.s SB.s) ?_); refine tx_single 89 (by kernel_rfl) (to_eg rfl rfl rfl rfl (e_callV rfl (.cons rfl (.cons rfl .nil)) (fun w' hw' => n_prove tn10 (by decide) _ _ _ _ _ _ w' (hz2.1.fr (hw'.calm hz2.2 MI.m SB.s)) (RdI.own0 (xs := [0, 1]) hw' (b := c2) (by repeat constructor)) (RdI.own0 (xs := [1000, 920]) hw' (b := c3) (by repeat constructor)))) (.inr ⟨fun _ _ h => h.subl SB.s SB.s, fun _ h => h⟩) (fun _ _ => ?_)); refine tx_pg 90 rfl (by kernel_rfl) rfl rfl (y_not rfl) rfl (fun _ _ _ h => h) (fun _ h => h.subl SB.s SB.s) ?_; refine tx_p 91 rfl (by kernel_rfl) (y_pick_f rfl rfl) rfl (fun _ _ _ h => h) (fun _ h => h.subl SB.s SB.s) ?_; refine tx_p 92 rfl (by kernel_rfl) (y_move rfl) rfl (fun _ _ _ h => h) (fun _ h => h.subl SB.s SB.s) ?_
                  all_goals exact tx_meet hT (by kernel_rfl) (by kernel_rfl) (.cons rfl .nil) (fun _ h => h.subl SB.s SB.s)))))))
             all_goals refine tx_cut (n' := 0) (L' := [true, true, true, true, true, true, true, true, true, true, true, true, true, true, true, true, true, true, true, true, true, true, true, true, true, true, true, true, true, true, true, true, true, true, true, true, true, true, true, true, true, true, true, true, true, true, true, true, true, true, true, true, true, true, true, true, true, true, true, true, true, true, true, true, true, true, true, true, true, true, true, true, true, true, true, true, true, true, true, true, true, true, true, true, true, true, true, true, true, true, true, true, true, true, true, true, true, true, true]) ([(169, .bool false)]) ?_ (fun hT => ?_)
             rotate_left 1
             focus (as_aux_lemma => (
              all_goals (
               refine tx_three 93 94 95 (by kernel_rfl) ?_ ?_ ?_
               rotate_left 2
               focus (
                (refine to_eg rfl rfl rfl rfl (e_bslice rfl (by (repeat (first | exact .nil | apply PV.one rfl rfl)); done) rfl rfl) (.inr ⟨fun _ _ h => h.subl SB.s SB.s, fun _ h => h⟩) (fun c5 _ => ?_))
                all_goals (
                 refine tx_pair 93 94 (by kernel_rfl) ?_ ?_
                 rotate_left
                 focus (
                  (refine to_eg rfl rfl rfl rfl (e_bslice rfl (by (repeat (first | exact .nil | apply PV.one rfl rfl)); done) rfl rfl) (.inr ⟨fun _ _ h => h.subl SB.s SB.s, fun _ h => h⟩) (fun c4 _ => ?_))
                  all_goals refine tx_norm (L' := [true, true, true, true, true, true, true, true, true, true, true, true, true, true, true, true, true, true, true, true, true, true, true, true, true, true, true, true, true, true, true, true, true, true, true, true, true, true, true, true, true, true, true, true, true, true, true, true, true, true, true, true, true, true, true, true, true, true, true, true, true, true, true, true, true, true, true, true, true, true, true, true, true, true, true, true, true, true, true, true, true, true, true, true, true, true, true, true, true, true, true, true, true, false, true, true, false, false, false]) (by kernel_rfl) ?_; refine tx_pg 96 rfl (by kernel_rfl) rfl rfl (y_build_g (by repeat constructor)) rfl (fun _ _ _ h => h) (fun _ h => h.subl SB.s SB.s) ?_; refine tx_single 93 (by kernel_rfl) (to_eg rfl rfl rfl rfl (e_callX rfl (.cons rfl .nil) (fun w' _ => two9_c [] (by decide) _ w' (RdT.nil w'))) (.inr ⟨fun _ _ h => h.subl SB.s SB.s, fun _ h => h⟩) (fun z3 hz3 => ?_)); refine tx_single 97 (by kernel_rfl) (to_eg rfl rfl rfl rfl (e_callV rfl (.cons rfl (.cons rfl .nil)) (fun w' hw' => n_prove tn11 (by decide) _ _ _ _ _ _ w' (hz3.1.fr (hw'.calm hz3.2 MI.m SB.s)) (RdI.own0 (xs := [0, 0]) hw' (b := c4) (by repeat constructor)) (RdI.own0 (xs := [1000, 920]) hw' (b := c5) (by repeat constructor)))) (.inr ⟨fun _ _ h => h.subl SB.s SB.s, fun _ h => h⟩) (fun _ _ => ?_)); refine tx_p 98 rfl (by kernel_rfl) (y_pick_f rfl rfl) rfl (fun _ _ _ h => h) (fun _ h => h.subl SB.s SB.s) ?_
                  all_goals exact tx_meet hT (by kernel_rfl) (by kernel_rfl) (.cons rfl .nil) (fun _ h => h.subl SB.s SB.s))
                 rotate_right
                 focus (
                  (refine to_eg rfl rfl rfl rfl (e_callX rfl (.cons rfl .nil) (fun w' _ => two9_c [] (by decide) _ w' (RdT.nil w'))) (.inr ⟨fun _ _ h => h.subl SB.s SB.s, fun _ h => h⟩) (fun z3 hz3 => ?_))
                  all_goals ((refine tx_single 94 (by kernel_rfl) (to_eg rfl rfl rfl rfl (e_bslice rfl (by (repeat (first | exact .nil | apply PV.one rfl rfl)); done) rfl rfl) (.inr ⟨fun _ _ h => h.subl SB.s SB.s, fun _ h => h⟩) (fun c4 _ => ?_))))
                  all_goals (refine tx_pg 96 rfl (by kernel_rfl) rfl rfl (y_build_g (by repeat constructor)) rfl (fun _ _ _ h => h) (fun _ h => h.subl SB.s SB.s) ?_); refine tx_single 97 (by kernel_rfl) (to_eg rfl rfl rfl rfl (e_callV rfl (.cons rfl (.cons rfl .nil)) (fun w' hw' => n_prove tn11 (by decide) _ _ _ _ _ _ w' (hz3.1.fr (hw'.calm hz3.2 MI.m SB.s)) (RdI.own0 (xs := [0, 0]) hw' (b := c4) (by repeat constructor)) (RdI.own0 (xs := [1000, 920]) hw' (b := c5) (by repeat constructor)))) (.inr ⟨fun _ _ h => h.subl SB.s SB.s, fun _ h => h⟩) (fun _ _ => ?_)); refine tx_p 98 rfl (by kernel_rfl) (y_pick_f rfl rfl) rfl (fun _ _ _ h => h) (fun _ h => h.subl SB.s SB.s) ?_
                  all_goals exact tx_meet hT (by kernel_rfl) (by kernel_rfl) (.cons rfl .nil) (fun _ h => h.subl SB.s SB.s))))
               rotate_right
               focus (
                (refine to_eg rfl rfl rfl rfl (e_bslice rfl (by (repeat (first | exact .nil | apply PV.one rfl rfl)); done) rfl rfl) (.inr ⟨fun _ _ h => h.subl SB.s SB.s, fun _ h => h⟩) (fun c4 _ => ?_))
                all_goals (
                 refine tx_pair 93 95 (by kernel_rfl) ?_ ?_
                 rotate_left
                 focus (
                  (refine to_eg rfl rfl rfl rfl (e_bslice rfl (by (repeat (first | exact .nil | apply PV.one rfl rfl)); done) rfl rfl) (.inr ⟨fun _ _ h => h.subl SB.s SB.s, fun _ h => h⟩) (fun c5 _ => ?_))
                  all_goals (refine tx_pg 96 rfl (by kernel_rfl) rfl rfl (y_build_g (by repeat constructor)) rfl (fun _ _ _ h => h) (fun _ h => h.subl SB.s SB.s) ?_); refine tx_single 93 (by kernel_rfl) (to_eg rfl rfl rfl rfl (e_callX rfl (.cons rfl .nil) (fun w' _ => two9_c [] (by decide) _ w' (RdT.nil w'))) (.inr ⟨fun _ _ h => h.subl SB.s SB.s, fun _ h => h⟩) (fun z3 hz3 => ?_)); refine tx_single 97 (by kernel_rfl) (to_eg rfl rfl rfl rfl (e_callV rfl (.cons rfl (.cons rfl .nil)) (fun w' hw' => n_prove tn11 (by decide) _ _ _ _ _ _ w' (hz3.1.fr (hw'.calm hz3.2 MI.m SB.s)) (RdI.own0 (xs := [0, 0]) hw' (b := c4) (by repeat constructor)) (RdI.own0 (xs := [1000, 920]) hw' (b := c5) (by repeat constructor)))) (.inr ⟨fun _ _ h => h.subl SB.s SB.s, fun _ h => h⟩) (fun _ _ => ?_)); refine tx_p 98 rfl (by kernel_rfl) (y_pick_f rfl rfl) rfl (fun _ _ _ h => h) (fun _ h => h.subl SB.s SB.s) ?_
                  all_goals exact tx_meet hT (by kernel_rfl) (by kernel_rfl) (.cons rfl .nil) (fun _ h => h.subl SB.s SB.s))
                 rotate_right
                 focus (
                  (refine to_eg rfl rfl rfl rfl (e_callX rfl (.cons rfl .nil) (fun w' _ => two9_c [] (by decide) _ w' (RdT.nil w'))) (.inr ⟨fun _ _ h => h.subl SB.s SB.s, fun _ h => h⟩) (fun z3 hz3 => ?_))
                  all_goals ((refine tx_single 95 (by kernel_rfl) (to_eg rfl rfl rfl rfl (e_bslice rfl (by (repeat (first | exact .nil | apply PV.one rfl rfl)); done) rfl rfl) (.inr ⟨fun _ _ h => h.subl SB.s SB.s, fun _ h => h⟩) (fun c5 _ => ?_))))
                  all_goals (refine tx_pg 96 rfl (by kernel_rfl) rfl rfl (y_build_g (by repeat constructor)) rfl (fun _ _ _ h => h) (fun _ h => h.subl SB.s SB.s) ?_); refine tx_single 97 (by kernel_rfl) (to_eg rfl rfl rfl rfl (e_callV rfl (.cons rfl (.cons rfl .nil)) (fun w' hw' => n_prove tn11 (by decide) _ _ _ _ _ _ w' (hz3.1.fr (hw'.calm hz3.2 MI.m SB.s)) (RdI.own0 (xs := [0, 0]) hw' (b := c4) (by repeat constructor)) (RdI.own0 (xs := [1000, 920]) hw' (b := c5) (by repeat constructor)))) (.inr ⟨fun _ _ h => h.subl SB.s SB.s, fun _ h => h⟩) (fun _ _ => ?_)); refine tx_p 98 rfl (by kernel_rfl) (y_pick_f rfl rfl) rfl (fun _ _ _ h => h) (fun _ h => h.subl SB.s SB.s) ?_
                  all_goals exact tx_meet hT (by kernel_rfl) (by kernel_rfl) (.cons rfl .nil) (fun _ h => h.subl SB.s SB.s))))
               rotate_right
               focus (
                (refine to_eg rfl rfl rfl rfl (e_callX rfl (.cons rfl .nil) (fun w' _ => two9_c [] (by decide) _ w' (RdT.nil w'))) (.inr ⟨fun _ _ h => h.subl SB.s SB.s, fun _ h => h⟩) (fun z3 hz3 => ?_))
                all_goals (
                 refine tx_pair 94 95 (by kernel_rfl) ?_ ?_
                 rotate_left
                 focus (
                  (refine to_eg rfl rfl rfl rfl (e_bslice rfl (by (repeat (first | exact .nil | apply PV.one rfl rfl)); done) rfl rfl) (.inr ⟨fun _ _ h => h.subl SB.s SB.s, fun _ h => h⟩) (fun c5 _ => ?_))
                  all_goals ((refine tx_single 94 (by kernel_rfl) (to_eg rfl rfl rfl rfl (e_bslice rfl (by (repeat (first | exact .nil | apply PV.one rfl rfl)); done) rfl rfl) (.inr ⟨fun _ _ h => h.subl SB.s SB.s, fun _ h => h⟩) (fun c4 _ => ?_))))
                  all_goals (refine tx_pg 96 rfl (by kernel_rfl) rfl rfl (y_build_g (by repeat constructor)) rfl (fun _ _ _ h => h) (fun _ h => h.subl SB.s SB.s) ?_); refine tx_single 97 (by kernel_rfl) (to_eg rfl rfl rfl rfl (e_callV rfl (.cons rfl (.cons rfl .nil)) (fun w' hw' => n_prove tn11 (by decide) _ _ _ _ _ _ w' (hz3.1.fr (hw'.calm hz3.2 MI.m SB.s)) (RdI.own0 (xs := [0, 0]) hw' (b := c4) (by repeat constructor)) (RdI.own0 (xs := [1000, 920]) hw' (b := c5) (by repeat constructor)))) (.inr ⟨fun _ _ h => h.subl SB.s SB.s, fun _ h => h⟩) (fun _ _ => ?_)); refine tx_p 98 rfl (by kernel_rfl) (y_pick_f rfl rfl) rfl (fun _ _ _ h => h) (fun _ h => h.subl SB.s SB.s) ?_
                  all_goals exact tx_meet hT (by kernel_rfl) (by kernel_rfl) (.cons rfl .nil) (fun _ h => h.subl SB.s SB.s))
                 rotate_right
                 focus (
                  (refine to_eg rfl rfl rfl rfl (e_bslice rfl (by (repeat (first | exact .nil | apply PV.one rfl rfl)); done) rfl rfl) (.inr ⟨fun _ _ h => h.subl SB.s SB.s, fun _ h => h⟩) (fun c4 _ => ?_))
                  all_goals ((refine tx_single 95 (by kernel_rfl) (to_eg rfl rfl rfl rfl (e_bslice rfl (by (repeat (first | exact .nil | apply PV.one rfl rfl)); done) rfl rfl) (.inr ⟨fun _ _ h => h.subl SB.s SB.s, fun _ h => h⟩) (fun c5 _ => ?_))))
                  all_goals (refine tx_pg 96 rfl (by kernel_rfl) rfl rfl (y_build_g (by repeat constructor)) rfl (fun _ _ _ h => h) (fun _ h => h.subl SB.s SB.s) ?_); refine tx_single 97 (by kernel_rfl) (to_eg rfl rfl rfl rfl (e_callV rfl (.cons rfl (.cons rfl .nil)) (fun w' hw' => n_prove tn11 (by decide) _ _ _ _ _ _ w' (hz3.1.fr (hw'.calm hz3.2 MI.m SB.s)) (RdI.own0 (xs := [0, 0]) hw' (b := c4) (by repeat constructor)) (RdI.own0 (xs := [1000, 920]) hw' (b := c5) (by repeat constructor)))) (.inr ⟨fun _ _ h => h.subl SB.s SB.s, fun _ h => h⟩) (fun _ _ => ?_)); refine tx_p 98 rfl (by kernel_rfl) (y_pick_f rfl rfl) rfl (fun _ _ _ h => h) (fun _ h => h.subl SB.s SB.s) ?_
                  all_goals exact tx_meet hT (by kernel_rfl) (by kernel_rfl) (.cons rfl .nil) (fun _ h => h.subl SB.s SB.s)))))))
             all_goals refine tx_done (by kernel_rfl) ?_
             all_goals (
              exact tk_start () trivial (.cons rfl .nil) (fun _ h => h.subl SB.s SB.s))
   · as_aux_lemma =>
     rintro ⟨⟩ -
     all_goals (
      refine tc_cond rfl (fun hc => ?_) (fun hc => ?_)
      · all_goals ((exfalso; with_reducible exact bft hc))
      · try simp only [qn1, qn2, qn3, qn4, qn5, qn6, qn7, qn8] at hc
        all_goals refine tc_skip ?_; ((refine hK10 ?_; try (clear hK10; clear K10)))
        all_goals refine tc_seq fun K12 hK12 => ?_; refine tc_lay ([]) (SB.s .nil) (fun wl11 hl11 => ?_); refine tc_region ?_; refine tl_q (y_build_g (by repeat constructor)) rfl ?_; refine tl_e (e_bsliceG rfl (.agg rfl rfl .nil) rfl rfl) rfl (fun b11 _ => ?_); refine tl_e (e_callX rfl (.cons rfl .nil) (fun w' hw' => two9_c [(0, 0, 8)] (by decide) _ w' (RdT.own0 (xs := [(0, 0, 8)]) hw' (by repeat constructor)))) rfl (fun xa hxa => ?_); refine tl_e (e_allocN rfl) rfl (fun ba _ => ?_); refine tl_e (e_storeW rfl rfl (by repeat constructor) (by rfl) (by rfl) (by simp [slV, rV, Value.oneCell'])) rfl (fun _ _ => ?_); refine tl_nil ?_; ((refine hK12 ?_; try (clear hK12; clear K12)))
        all_goals refine tc_seq fun K13 hK13 => ?_; refine tc_lay ([]) (SB.s .nil) (fun wl12 hl12 => ?_); (have hRx := hxa.1.fr (hl12.calm hxa.2 MI.m SB.s))
        all_goals refine tc_region ?_; refine tl_e (e_callX rfl (.cons rfl .nil) (fun w' _ => two9_c [] (by decide) _ w' (RdT.nil w'))) rfl (fun x12 hx12 => ?_); ((refine tl_e (e_bslice rfl (by (repeat (first | exact .nil | apply PV.one rfl rfl)); done) rfl rfl) rfl (fun b12 _ => ?_)))
        all_goals (refine tl_e (e_callV rfl (.cons rfl (.cons rfl (.cons rfl (.cons rfl .nil)))) (fun w' hw' => n_shown2 _ _ _ _ _ w' (hx12.1.fr (hw'.calm hx12.2 MI.m SB.s)) (RdI.own0 (xs := [0, 3]) hw' (by repeat constructor)))) rfl (fun _ _ => ?_)); refine tl_q (y_move rfl) rfl ?_; refine tl_q (y_extract rfl rfl) rfl ?_; refine tl_q (y_extract rfl rfl) rfl ?_; refine tl_q (y_assign rfl) rfl ?_; refine tl_nil ?_; ((refine hK13 ?_; try (clear hK13; clear K13)))
        all_goals refine tc_seq fun K14 hK14 => ?_; refine tc_lay ([]) (SB.s .nil) (fun wl13 hl13 => ?_); refine tc_region ?_; refine tl_e (e_callX rfl (.cons rfl .nil) (fun w' _ => two9_c [] (by decide) _ w' (RdT.nil w'))) rfl (fun x13 hx13 => ?_); ((refine tl_e (e_bslice rfl (by (repeat (first | exact .nil | apply PV.one rfl rfl)); done) rfl rfl) rfl (fun b13 _ => ?_)))
        all_goals (refine tl_e (e_callV rfl (.cons rfl (.cons rfl (.cons rfl (.cons rfl .nil)))) (fun w' hw' => n_shown3 _ _ _ _ _ w' (hx13.1.fr (hw'.calm hx13.2 MI.m SB.s)) (RdI.own0 (xs := [0, 1]) hw' (by repeat constructor)))) rfl (fun _ _ => ?_)); refine tl_q (y_move rfl) rfl ?_; refine tl_q (y_extract rfl rfl) rfl ?_; refine tl_q (y_extract rfl rfl) rfl ?_; refine tl_q (y_assign rfl) rfl ?_; refine tl_nil ?_; ((refine hK14 ?_; try (clear hK14; clear K14)))
        all_goals refine tc_seq fun K15 hK15 => ?_; refine tc_lay ([]) (SB.s .nil) (fun wl14 hl14 => ?_); refine tc_region ?_; refine tl_q (y_loadWf rfl (hl12.at (by repeat constructor)) MI.m (by simp) (by rfl)) rfl ?_; refine tl_e (e_callV rfl (.cons rfl (.cons rfl .nil)) (fun w' hw' => judgeN_v tn14 (twoT_nt _ (by decide)) (by decide) _ _ _ _ w' (hRx.fr (hw'.fr (w0 := wl12) (S := []) MI.m)))) rfl (fun _ _ => ?_); refine tl_q (y_move rfl) rfl ?_; refine tl_q (y_extract rfl rfl) rfl ?_; refine tl_q (y_extract rfl rfl) rfl ?_; refine tl_q (y_assign rfl) rfl ?_; refine tl_nil ?_; ((refine hK15 ?_; try (clear hK15; clear K15)))
        all_goals refine tc_seq fun K16 hK16 => ?_; refine tc_lay ([]) (SB.s .nil) (fun wl15 hl15 => ?_); refine tc_region ?_; refine tl_q (y_loadWf rfl (hl12.at (by repeat constructor)) MI.m (by simp) (by rfl)) rfl ?_; refine tl_e (e_callV rfl (.cons rfl .nil) (fun w' hw' => n_err _ _ _ _ w' (hRx.fr (hw'.fr (w0 := wl12) (S := []) MI.m)))) rfl (fun _ _ => ?_); refine tl_q (y_move rfl) rfl ?_; refine tl_q (y_extract rfl rfl) rfl ?_; refine tl_q (y_extract rfl rfl) rfl ?_; refine tl_q (y_assign rfl) rfl ?_; refine tl_nil ?_; ((refine hK16 ?_; try (clear hK16; clear K16)))
        all_goals refine tc_seq fun K17 hK17 => ?_; refine tc_lay ([]) (SB.s .nil) (fun wl16 hl16 => ?_); refine tc_region ?_; refine tl_e (e_callX rfl (.cons rfl .nil) (fun w' _ => two9_c [] (by decide) _ w' (RdT.nil w'))) rfl (fun x16 hx16 => ?_); refine tl_e (e_callV rfl (.cons rfl (.cons rfl (.cons rfl .nil))) (fun w' hw' => correctN_v tn16 (twoT_nt [] (by decide)) _ _ _ _ w' (hx16.1.fr (hw'.calm hx16.2 MI.m (List.Sublist.refl _))))) rfl (fun _ _ => ?_); refine tl_q (y_move rfl) rfl ?_; refine tl_q (y_extract rfl rfl) rfl ?_; refine tl_q (y_extract rfl rfl) rfl ?_; refine tl_q (y_assign rfl) rfl ?_; refine tl_nil ?_; ((refine hK17 ?_; try (clear hK17; clear K17)))
        all_goals refine tc_seq fun K18 hK18 => ?_; refine tc_lay ([]) (SB.s .nil) (fun wl17 hl17 => ?_); refine tc_region ?_; refine tl_e (e_callX rfl (.cons rfl .nil) (fun w' _ => two9_c [] (by decide) _ w' (RdT.nil w'))) rfl (fun x17 hx17 => ?_); refine tl_e (e_callX rfl .nil (fun w' _ => offK_c w')) rfl (fun o17 ho17 => ?_); refine tl_q (y_sliceTo (len := 2) (cap := 2) (n := 1) rfl rfl (by decide)) rfl ?_; refine tl_e (e_callX rfl (.cons rfl (.cons rfl (.cons rfl .nil))) (fun w' hw' => n_few tn17 (by decide) (by decide) _ _ _ _ _ w' (hx17.1.fr (hw'.calm hx17.2 MI.m SB.s)) (ho17.1.fr (hw'.calm ho17.2 MI.m (List.Sublist.refl _))))) rfl (fun y17 hy17 => ?_); refine tl_q (y_move rfl) rfl ?_; refine tl_q (y_extract rfl rfl) rfl ?_; refine tl_q (y_extract rfl rfl) rfl ?_; refine tl_q (y_assign rfl) rfl ?_; refine tl_nil ?_; ((refine hK18 ?_; try (clear hK18; clear K18)))
        all_goals (
         refine tc_join (fun _ : Unit => True) (fun _ => [(2, vi 2), (4, vi 2), (6, vi 2), (8, vi 11), (10, vi 2), (12, vi 9), (14, vi 3), (17, ptr ba)]) (fun _ => [(wl12, []), (w, [])]) (fun _ => []) ?_ ?_
         · as_aux_lemma =>
           all_goals refine tc_lay ([]) (SB.s .nil) (fun wl18 hl18 => ?_); refine tc_drawS ([]) (by kernel_rfl) ?_
           all_goals (
            refine tx_pair 0 1 (by kernel_rfl) ?_ ?_
            rotate_left
            focus (
             (refine to_e rfl rfl (e_mkS (sz := 2) (z := .agg #[vi 0, vi 0]) (by_ := 16) (n := 5) (out := List.replicate 10 (vi 0)) (by kernel_rfl) rfl rfl rfl (by decide) (by decide) (by decide) (by kernel_rfl)) (.inr ⟨fun _ _ h => h.subl SB.s SB.s, fun _ h => h⟩) (fun b18 _ => ?_))
             all_goals (refine tx_single 0 (by kernel_rfl) (to_e rfl rfl (e_callX rfl (.cons rfl .nil) (fun w' _ => two9_c [] (by decide) _ w' (RdT.nil w'))) (.inr ⟨fun _ _ h => h.subl SB.s SB.s, fun _ h => h⟩) (fun x18 hx18 => ?_))); refine tx_single 2 (by kernel_rfl) (to_e rfl rfl (e_callX rfl (.cons rfl (.cons rfl (.cons rfl .nil))) (fun w' hw' => n_few tn18 (by decide) (by decide) _ _ _ _ _ w' (hx18.1.fr (hw'.calm hx18.2 MI.m SB.s)) (RdR.own0 (xs := [(0, 0), (0, 0), (0, 0), (0, 0), (0, 0)]) hw' (by repeat constructor)))) (.inr ⟨fun _ _ h => h.subl SB.s SB.s, fun _ h => h⟩) (fun y18 hy18 => ?_)); refine tx_p 3 rfl (by kernel_rfl) (y_move rfl) rfl (fun _ _ _ h => h) (fun _ h => h.subl SB.s SB.s) ?_; refine tx_p 4 rfl (by kernel_rfl) (y_extract rfl rfl) rfl (fun _ _ _ h => h) (fun _ h => h.subl SB.s SB.s) ?_; refine tx_p 5 rfl (by kernel_rfl) (y_extract rfl rfl) rfl (fun _ _ _ h => h) (fun _ h => h.subl SB.s SB.s) ?_; refine tx_p 6 rfl (by kernel_rfl) (y_assign rfl) rfl (fun _ _ _ h => h) (fun _ h => h.subl SB.s SB.s) ?_
             all_goals refine tx_done (by kernel_rfl) ?_)
            rotate_right
            focus (
             (refine to_e rfl rfl (e_callX rfl (.cons rfl .nil) (fun w' _ => two9_c [] (by decide) _ w' (RdT.nil w'))) (.inr ⟨fun _ _ h => h.subl SB.s SB.s, fun _ h => h⟩) (fun x18 hx18 => ?_))
             all_goals (refine tx_single 1 (by kernel_rfl) (to_e rfl rfl (e_mkS (sz := 2) (z := .agg #[vi 0, vi 0]) (by_ := 16) (n := 5) (out := List.replicate 10 (vi 0)) (by kernel_rfl) rfl rfl rfl (by decide) (by decide) (by decide) (by kernel_rfl)) (.inr ⟨fun _ _ h => h.subl SB.s SB.s, fun _ h => h⟩) (fun b18 _ => ?_))); refine tx_single 2 (by kernel_rfl) (to_e rfl rfl (e_callX rfl (.cons rfl (.cons rfl (.cons rfl .nil))) (fun w' hw' => n_few tn18 (by decide) (by decide) _ _ _ _ _ w' (hx18.1.fr (hw'.calm hx18.2 MI.m SB.s)) (RdR.own0 (xs := [(0, 0), (0, 0), (0, 0), (0, 0), (0, 0)]) hw' (by repeat constructor)))) (.inr ⟨fun _ _ h => h.subl SB.s SB.s, fun _ h => h⟩) (fun y18 hy18 => ?_)); refine tx_p 3 rfl (by kernel_rfl) (y_move rfl) rfl (fun _ _ _ h => h) (fun _ h => h.subl SB.s SB.s) ?_; refine tx_p 4 rfl (by kernel_rfl) (y_extract rfl rfl) rfl (fun _ _ _ h => h) (fun _ h => h.subl SB.s SB.s) ?_; refine tx_p 5 rfl (by kernel_rfl) (y_extract rfl rfl) rfl (fun _ _ _ h => h) (fun _ h => h.subl SB.s SB.s) ?_; refine tx_p 6 rfl (by kernel_rfl) (y_assign rfl) rfl (fun _ _ _ h => h) (fun _ h => h.subl SB.s SB.s) ?_
             all_goals refine tx_done (by kernel_rfl) ?_))
           all_goals (
            exact tk_start () trivial (.cons rfl (.cons rfl (.cons rfl (.cons rfl (.cons rfl (.cons rfl (.cons rfl (.cons rfl .nil)))))))) (fun _ h => h.subl SB.s SB.s))
         · as_aux_lemma =>
           rintro ⟨⟩ -
           all_goals refine tc_seq fun K19 hK19 => ?_; refine tc_lay ([]) (SB.s .nil) (fun wl19 hl19 => ?_); refine tc_region ?_; refine tl_e (e_callX rfl (.cons rfl .nil) (fun w' _ => two9_c [] (by decide) _ w' (RdT.nil w'))) rfl (fun x19 hx19 => ?_); refine tl_q (y_build_g (by repeat constructor)) rfl ?_; ((refine tl_e (e_bslice rfl (by (repeat (first | exact .nil | apply PV.two rfl)); done) rfl rfl) rfl (fun b19 _ => ?_)))
           all_goals (refine tl_e (e_callX rfl (.cons rfl (.cons rfl (.cons rfl .nil))) (fun w' hw' => n_few tn19 (by decide) (by decide) _ _ _ _ _ w' (hx19.1.fr (hw'.calm hx19.2 MI.m SB.s)) (RdR.own0 (xs := [(3, 1000)]) hw' (by repeat constructor)))) rfl (fun y19 hy19 => ?_)); refine tl_q (y_move rfl) rfl ?_; refine tl_q (y_extract rfl rfl) rfl ?_; refine tl_q (y_extract rfl rfl) rfl ?_; refine tl_q (y_assign rfl) rfl ?_; refine tl_nil ?_; ((refine hK19 ?_; try (clear hK19; clear K19)))
           all_goals refine tc_seq fun K20 hK20 => ?_; refine tc_lay ([]) (SB.s .nil) (fun wl20 hl20 => ?_); refine tc_region ?_; refine tl_q (y_loadWf rfl (hl12.at (by repeat constructor)) MI.m (by simp) (by rfl)) rfl ?_; refine tl_e (e_callV rfl (.cons rfl .nil) (fun w' hw' => n_cert _ _ _ _ w' (hRx.fr (hw'.fr (w0 := wl12) (S := []) MI.m)))) rfl (fun _ _ => ?_); refine tl_q (y_move rfl) rfl ?_; refine tl_q (y_extract rfl rfl) rfl ?_; refine tl_q (y_extract rfl rfl) rfl ?_; refine tl_q (y_assign rfl) rfl ?_; refine tl_q (y_assign rfl) rfl ?_; refine tl_nil ?_; ((refine hK20 ?_; try (clear hK20; clear K20)))
           all_goals refine tc_seq fun K21 hK21 => ?_; refine tc_lay ([]) (SB.s .nil) (fun wl21 hl21 => ?_); refine tc_region ?_; refine tl_e (e_callX rfl (.cons rfl .nil) (fun w' _ => two9_c [] (by decide) _ w' (RdT.nil w'))) rfl (fun x21 hx21 => ?_); refine tl_e (e_allocN rfl) rfl (fun b21 _ => ?_); refine tl_e (e_storeW rfl rfl (by repeat constructor) (by rfl) (by rfl) (by simp [slV, rV, Value.oneCell'])) rfl (fun _ _ => ?_); refine tl_nil ?_; ((refine hK21 ?_; try (clear hK21; clear K21)))
           all_goals refine tc_seq fun K22 hK22 => ?_; refine tc_region ?_; refine tl_q (y_field rfl) rfl ?_; refine tl_q (y_field rfl) rfl ?_; refine tl_e (e_store1 rfl rfl (by repeat constructor) (by repeat constructor) (by rfl) (by rfl)) rfl (fun _ _ => ?_); refine tl_q (y_field rfl) rfl ?_; refine tl_q (y_field rfl) rfl ?_; refine tl_e (e_store1 rfl rfl (by repeat constructor) (by repeat constructor) (by rfl) (by rfl)) rfl (fun _ _ => ?_); refine tl_q (y_field rfl) rfl ?_; refine tl_e (e_store1 rfl rfl (by repeat constructor) (by repeat constructor) (by rfl) (by rfl)) rfl (fun _ _ => ?_); refine tl_nil ?_; ((refine hK22 ?_; try (clear hK22; clear K22)))
           all_goals refine tc_seq fun K23 hK23 => ?_; refine tc_region ?_; refine tl_q (y_loadW rfl (by repeat constructor) (by rfl)) rfl ?_; refine tl_e (e_callV rfl (.cons rfl (.cons rfl (.cons rfl .nil))) (fun w' hw' => correctN_v (t := heavyT) tn20 (nt_small heavyT (by decide) (by decide) (by decide) (by decide)) _ _ _ (.slice none 0 0) w' ⟨(hx21.1.fr (hw'.calm hx21.2 MI.m SB.s)).ws, (hx21.1.fr (hw'.calm hx21.2 MI.m SB.s)).ps, (hx21.1.fr (hw'.calm hx21.2 MI.m SB.s)).ls, RdT.nil w'⟩)) rfl (fun _ _ => ?_); refine tl_q (y_move rfl) rfl ?_; refine tl_q (y_extract rfl rfl) rfl ?_; refine tl_q (y_extract rfl rfl) rfl ?_; refine tl_e (e_allocN rfl) rfl (fun b23 _ => ?_); refine tl_e (e_storeW rfl rfl (by repeat constructor) (by rfl) (by rfl) (by simp [slV, rV, Value.oneCell'])) rfl (fun _ _ => ?_); refine tl_q (y_assign rfl) rfl ?_; refine tl_nil ?_; ((refine hK23 ?_; try (clear hK23; clear K23)))
           all_goals refine tc_seq fun K24 hK24 => ?_; refine tc_lay ([]) (SB.s .nil) (fun wl24 hl24 => ?_); refine tc_region ?_; refine tl_e (e_callB4 (val := twV) (b1 := fun y => y.1) (b2 := fun y => y.2.1) (b3 := fun y => y.2.2.1) (b4 := fun y => y.2.2.2.1) (o1 := fun _ => .cells [vi 100, vi 200].toArray 3 (0, 0)) (o2 := fun _ => .cells [vi 0, vi 6].toArray 3 (0, 0)) (o3 := fun _ => .cells [vi 1000, vi 1000, vi 915, vi 925].toArray 50 (0, 0)) (o4 := fun y => .cells (vi 0 :: vi 0 :: vi 6 :: vi 1 :: vi 0 :: vi 10 :: y.2.2.2.2.2).toArray 121 (0, 0)) rfl (.cons rfl .nil) (fun w' _ => twoK_c w')) rfl (fun q0 _ => ?_); refine tl_e (e_callB4 (val := twV) (b1 := fun y => y.1) (b2 := fun y => y.2.1) (b3 := fun y => y.2.2.1) (b4 := fun y => y.2.2.2.1) (o1 := fun _ => .cells [vi 100, vi 200].toArray 3 (0, 0)) (o2 := fun _ => .cells [vi 0, vi 6].toArray 3 (0, 0)) (o3 := fun _ => .cells [vi 1000, vi 1000, vi 915, vi 925].toArray 50 (0, 0)) (o4 := fun y => .cells (vi 0 :: vi 0 :: vi 6 :: vi 1 :: vi 0 :: vi 10 :: y.2.2.2.2.2).toArray 121 (0, 0)) rfl (.cons rfl .nil) (fun w' _ => twoK_c w')) rfl (fun q1 _ => ?_); refine tl_e (e_callB4 (val := twV) (b1 := fun y => y.1) (b2 := fun y => y.2.1) (b3 := fun y => y.2.2.1) (b4 := fun y => y.2.2.2.1) (o1 := fun _ => .cells [vi 100, vi 200].toArray 3 (0, 0)) (o2 := fun _ => .cells [vi 0, vi 6].toArray 3 (0, 0)) (o3 := fun _ => .cells [vi 1000, vi 1000, vi 915, vi 925].toArray 50 (0, 0)) (o4 := fun y => .cells (vi 0 :: vi 0 :: vi 6 :: vi 1 :: vi 0 :: vi 10 :: y.2.2.2.2.2).toArray 121 (0, 0)) rfl (.cons rfl .nil) (fun w' _ => twoK_c w')) rfl (fun q2 _ => ?_); refine tl_e (e_callB4 (val := twV) (b1 := fun y => y.1) (b2 := fun y => y.2.1) (b3 := fun y => y.2.2.1) (b4 := fun y => y.2.2.2.1) (o1 := fun _ => .cells [vi 100, vi 200].toArray 3 (0, 0)) (o2 := fun _ => .cells [vi 0, vi 6].toArray 3 (0, 0)) (o3 := fun _ => .cells [vi 1000, vi 1000, vi 915, vi 925].toArray 50 (0, 0)) (o4 := fun y => .cells (vi 0 :: vi 0 :: vi 6 :: vi 1 :: vi 0 :: vi 10 :: y.2.2.2.2.2).toArray 121 (0, 0)) rfl (.cons rfl .nil) (fun w' _ => twoK_c w')) rfl (fun q3 _ => ?_); refine tl_e (e_callB4 (val := twV) (b1 := fun y => y.1) (b2 := fun y => y.2.1) (b3 := fun y => y.2.2.1) (b4 := fun y => y.2.2.2.1) (o1 := fun _ => .cells [vi 100, vi 200].toArray 3 (0, 0)) (o2 := fun _ => .cells [vi 0, vi 6].toArray 3 (0, 0)) (o3 := fun _ => .cells [vi 1000, vi 1000, vi 915, vi 925].toArray 50 (0, 0)) (o4 := fun y => .cells (vi 0 :: vi 0 :: vi 6 :: vi 1 :: vi 0 :: vi 10 :: y.2.2.2.2.2).toArray 121 (0, 0)) rfl (.cons rfl .nil) (fun w' _ => twoK_c w')) rfl (fun q4 _ => ?_); refine tl_e (e_callB4 (val := twV) (b1 := fun y => y.1) (b2 := fun y => y.2.1) (b3 := fun y => y.2.2.1) (b4 := fun y => y.2.2.2.1) (o1 := fun _ => .cells [vi 100, vi 200].toArray 3 (0, 0)) (o2 := fun _ => .cells [vi 0, vi 6].toArray 3 (0, 0)) (o3 := fun _ => .cells [vi 1000, vi 1000, vi 915, vi 925].toArray 50 (0, 0)) (o4 := fun y => .cells (vi 0 :: vi 0 :: vi 6 :: vi 1 :: vi 0 :: vi 10 :: y.2.2.2.2.2).toArray 121 (0, 0)) rfl (.cons rfl .nil) (fun w' _ => twoK_c w')) rfl (fun q5 _ => ?_); refine tl_e (e_callB4 (val := twV) (b1 := fun y => y.1) (b2 := fun y => y.2.1) (b3 := fun y => y.2.2.1) (b4 := fun y => y.2.2.2.1) (o1 := fun _ => .cells [vi 100, vi 200].toArray 3 (0, 0)) (o2 := fun _ => .cells [vi 0, vi 6].toArray 3 (0, 0)) (o3 := fun _ => .cells [vi 1000, vi 1000, vi 915, vi 925].toArray 50 (0, 0)) (o4 := fun y => .cells (vi 0 :: vi 0 :: vi 6 :: vi 1 :: vi 0 :: vi 10 :: y.2.2.2.2.2).toArray 121 (0, 0)) rfl (.cons rfl .nil) (fun w' _ => twoK_c w')) rfl (fun q6 _ => ?_); refine tl_e (e_allocN rfl) rfl (fun b24 _ => ?_); refine tl_e (e_allocN rfl) rfl (fun b25 _ => ?_); refine tl_e (e_allocN rfl) rfl (fun b26 _ => ?_); refine tl_e (e_allocN rfl) rfl (fun b27 _ => ?_); refine tl_e (e_allocN rfl) rfl (fun b28 _ => ?_); refine tl_e (e_allocN rfl) rfl (fun b29 _ => ?_); refine tl_e (e_allocN rfl) rfl (fun b30 _ => ?_); refine tl_e (e_storeW rfl rfl (by repeat constructor) (by rfl) (by rfl) (by simp [slV, rV, Value.oneCell'])) rfl (fun _ _ => ?_); refine tl_e (e_storeW rfl rfl (by repeat constructor) (by rfl) (by rfl) (by simp [slV, rV, Value.oneCell'])) rfl (fun _ _ => ?_); refine tl_e (e_storeW rfl rfl (by repeat constructor) (by rfl) (by rfl) (by simp [slV, rV, Value.oneCell'])) rfl (fun _ _ => ?_); refine tl_e (e_storeW rfl rfl (by repeat constructor) (by rfl) (by rfl) (by simp [slV, rV, Value.oneCell'])) rfl (fun _ _ => ?_); refine tl_e (e_storeW rfl rfl (by repeat constructor) (by rfl) (by rfl) (by simp [slV, rV, Value.oneCell'])) rfl (fun _ _ => ?_); refine tl_e (e_storeW rfl rfl (by repeat constructor) (by rfl) (by rfl) (by simp [slV, rV, Value.oneCell'])) rfl (fun _ _ => ?_); refine tl_e (e_storeW rfl rfl (by repeat constructor) (by rfl) (by rfl) (by simp [slV, rV, Value.oneCell'])) rfl (fun _ _ => ?_); refine tl_nil ?_; ((refine hK24 ?_; try (clear hK24; clear K24)))
           all_goals refine tc_seq fun K25 hK25 => ?_; refine tc_region ?_; refine tl_q (y_field rfl) rfl ?_; refine tl_q (y_load1 rfl (by repeat constructor) (by rfl)) rfl ?_; refine tl_q (y_index rfl rfl (by decide) rfl) rfl ?_; refine tl_e (e_store1 rfl rfl (by repeat constructor) (by repeat constructor) (by rfl) (by rfl)) rfl (fun _ _ => ?_); refine tl_nil ?_; ((refine hK25 ?_; try (clear hK25; clear K25)))
           all_goals refine tc_seq fun K26 hK26 => ?_; refine tc_region ?_; refine tl_q (y_field rfl) rfl ?_; refine tl_q (y_load1 rfl (by repeat constructor) (by rfl)) rfl ?_; refine tl_q (y_index rfl rfl (by decide) rfl) rfl ?_; refine tl_e (e_store1 rfl rfl (by repeat constructor) (by repeat constructor) (by rfl) (by rfl)) rfl (fun _ _ => ?_); refine tl_nil ?_; ((refine hK26 ?_; try (clear hK26; clear K26)))
           all_goals refine tc_seq fun K27 hK27 => ?_; refine tc_region ?_; refine tl_q (y_field rfl) rfl ?_; refine tl_e (e_store1 rfl rfl (by repeat constructor) (by repeat constructor) (by rfl) (by rfl)) rfl (fun _ _ => ?_); refine tl_nil ?_; ((refine hK27 ?_; try (clear hK27; clear K27)))
           all_goals refine tc_seq fun K28 hK28 => ?_; refine tc_drawS ([(b27, .cells #[vi (twoT []).s.mass, vi (twoT []).s.volume, vi (twoT []).s.step, vi (twoT []).s.divisions, vi (twoT []).s.width, .slice (some ⟨q3.1, 0, none⟩) 2 2, .slice (some ⟨q3.2.1, 0, none⟩) 2 2, vi (twoT []).worst, .slice (some ⟨q3.2.2.1, 0, none⟩) 2 2, .slice (some ⟨q3.2.2.2.1, 0, none⟩) 2 q3.2.2.2.2.1] 38 (0, 0))]) (by kernel_rfl) ?_; refine tx_p 0 rfl (by kernel_rfl) (y_field rfl) rfl (fun _ _ _ h => h) (fun _ h => h.subl SB.s SB.s) ?_; refine tx_qS 1 rfl (by kernel_rfl) (y_load1 rfl (by repeat constructor) (by rfl)) rfl (fun _ _ _ h => h) (fun _ h => h.subl SB.s SB.s) ?_; refine tx_single 2 (by kernel_rfl) (to_e rfl rfl (e_callV rfl (.cons rfl (.cons rfl .nil)) (fun w' _ => between9_c _ _ w')) (.inr ⟨fun _ _ h => h.subl SB.s SB.s, fun _ h => h⟩) (fun _ _ => ?_)); refine tx_p 3 rfl (by kernel_rfl) (y_index rfl rfl (by decide) rfl) rfl (fun _ _ _ h => h) (fun _ h => h.subl SB.s SB.s) ?_; refine tx_single 4 (by kernel_rfl) (to_e (S' := HG [] []) rfl rfl (e_storeP (l := [vi 1000, vi 1000, vi 915, vi 925]) (l' := [vi 1000, vi 1041, vi 915, vi 925]) (cs := [vi 1000, vi 1041]) rfl rfl (by repeat constructor) rfl rfl (by decide) (by simp [Value.oneCell'])) (.inl (by kernel_rfl)) (fun _ _ => ?_)); refine tx_done (by kernel_rfl) ?_; ((refine hK28 ?_; try (clear hK28; clear K28)))
           all_goals refine tc_seq fun K29 hK29 => ?_; refine tc_region ?_; refine tl_q (y_field rfl) rfl ?_; refine tl_q (y_load1 rfl (by repeat constructor) (by rfl)) rfl ?_; refine tl_q (y_index rfl rfl (by decide) rfl) rfl ?_; refine tl_q (y_field rfl) rfl ?_; refine tl_e (e_store1 rfl rfl (by repeat constructor) (by repeat constructor) (by rfl) (by rfl)) rfl (fun _ _ => ?_); refine tl_nil ?_; ((refine hK29 ?_; try (clear hK29; clear K29)))
           all_goals refine tc_seq fun K30 hK30 => ?_; refine tc_region ?_; refine tl_e (e_mkS (sz := 3) (z := .agg #[vi 0, vi 0, vi 0]) (by_ := 24) (n := 7) (out := List.replicate 21 (vi 0)) (by kernel_rfl) rfl rfl rfl (by decide) (by decide) (by decide) (by kernel_rfl)) rfl (fun bm _ => ?_); refine tl_q (y_field rfl) rfl ?_; refine tl_e (e_store1 rfl rfl (by repeat constructor) (by repeat constructor) (by rfl) (by rfl)) rfl (fun _ _ => ?_); refine tl_nil ?_; ((refine hK30 ?_; try (clear hK30; clear K30)))
           all_goals refine tc_seq fun K31 hK31 => ?_; refine tc_region ?_; refine tl_q (y_field rfl) rfl ?_; refine tl_q (y_field rfl) rfl ?_; refine tl_e (e_store1 rfl rfl (by repeat constructor) (by repeat constructor) (by rfl) (by rfl)) rfl (fun _ _ => ?_); refine tl_nil ?_; ((refine hK31 ?_; try (clear hK31; clear K31)))
           all_goals refine tc_seq fun K32 hK32 => ?_; refine tc_region ?_; refine tl_q (y_move rfl) rfl ?_; refine tl_q (y_eql rfl rfl) rfl ?_; refine tl_q (y_move rfl) rfl ?_; refine tl_qg rfl rfl (y_move rfl) rfl ?_; refine tl_qg rfl rfl (y_eql rfl rfl) rfl ?_; refine tl_q (y_pick_t rfl rfl) rfl ?_; refine tl_q (y_move rfl) rfl ?_; refine tl_qg rfl rfl (y_move rfl) rfl ?_; refine tl_qg rfl rfl (y_eql rfl rfl) rfl ?_; refine tl_q (y_pick_t rfl rfl) rfl ?_; refine tl_q (y_move rfl) rfl ?_; refine tl_qg rfl rfl (y_move rfl) rfl ?_; refine tl_qg rfl rfl (y_eql rfl rfl) rfl ?_; refine tl_q (y_pick_t rfl rfl) rfl ?_; refine tl_q (y_move rfl) rfl ?_; refine tl_qg rfl rfl (y_move rfl) rfl ?_; refine tl_qg rfl rfl (y_eql rfl rfl) rfl ?_; refine tl_q (y_pick_t rfl rfl) rfl ?_; refine tl_q (y_move rfl) rfl ?_; refine tl_qg rfl rfl (y_move rfl) rfl ?_; refine tl_qg rfl rfl (y_eql rfl rfl) rfl ?_; refine tl_q (y_pick_t rfl rfl) rfl ?_; refine tl_q (y_move rfl) rfl ?_; refine tl_qg rfl rfl (y_move rfl) rfl ?_; refine tl_qg rfl rfl (y_eql rfl rfl) rfl ?_; refine tl_q (y_pick_t rfl rfl) rfl ?_; refine tl_q (y_move rfl) rfl ?_; refine tl_qg rfl rfl (y_move rfl) rfl ?_; refine tl_qg rfl rfl (y_eql rfl rfl) rfl ?_; refine tl_q (y_pick_t rfl rfl) rfl ?_; refine tl_q (y_move rfl) rfl ?_; refine tl_qg rfl rfl (y_move rfl) rfl ?_; refine tl_qg rfl rfl (y_eql rfl rfl) rfl ?_; refine tl_q (y_pick_t rfl rfl) rfl ?_; refine tl_q (y_move rfl) rfl ?_; refine tl_qg rfl rfl (y_move rfl) rfl ?_; refine tl_qg rfl rfl (y_eql rfl rfl) rfl ?_; refine tl_q (y_pick_t rfl rfl) rfl ?_; refine tl_q (y_move rfl) rfl ?_; refine tl_qg rfl rfl (y_loadW rfl (by repeat constructor) (by rfl)) rfl ?_; refine tl_eg rfl rfl rfl (e_callV rfl (.cons rfl .nil) (fun w' hw' => checkN_v (t := partT) tn21 (nt_small partT (by decide) (by decide) (by decide) (by decide)) (.slice (some ⟨q0.1, 0, none⟩) 2 2) (.slice (some ⟨q0.2.1, 0, none⟩) 2 2) (.slice (some ⟨q0.2.2.1, 0, none⟩) 2 2) (.slice (some ⟨q0.2.2.2.1, 0, none⟩) 2 q0.2.2.2.2.1) w' ⟨RdI.own (xs := [100, 200]) (cap := 2) (junk := []) (b := q0.1) hw' (by repeat constructor), RdI.own (xs := [0, 11]) (cap := 2) (junk := []) (b := q0.2.1) hw' (by repeat constructor), RdR.own (xs := [(1000, 1000), (915, 925)]) (cap := 2) (junk := []) (b := q0.2.2.1) hw' (by repeat constructor), RdT.own (xs := [(0, 0, 6), (1, 0, 10)]) (cap := q0.2.2.2.2.1) (junk := q0.2.2.2.2.2) (b := q0.2.2.2.1) hw' (by repeat constructor)⟩)) (fun _ _ => ?_); refine tl_qg rfl rfl (y_eql rfl rfl) rfl ?_; refine tl_q (y_pick_t rfl rfl) rfl ?_; refine tl_q (y_move rfl) rfl ?_; refine tl_qg rfl rfl (y_loadW rfl (by repeat constructor) (by rfl)) rfl ?_; refine tl_eg rfl rfl rfl (e_callV rfl (.cons rfl .nil) (fun w' hw' => checkN_v (t := frstT) tn22 (nt_small frstT (by decide) (by decide) (by decide) (by decide)) (.slice (some ⟨q1.1, 0, none⟩) 2 2) (.slice (some ⟨q1.2.1, 0, none⟩) 2 2) (.slice (some ⟨q1.2.2.1, 0, none⟩) 2 2) (.slice (some ⟨q1.2.2.2.1, 0, none⟩) 2 q1.2.2.2.2.1) w' ⟨RdI.own (xs := [100, 200]) (cap := 2) (junk := []) (b := q1.1) hw' (by repeat constructor), RdI.own (xs := [1, 6]) (cap := 2) (junk := []) (b := q1.2.1) hw' (by repeat constructor), RdR.own (xs := [(1000, 1000), (915, 925)]) (cap := 2) (junk := []) (b := q1.2.2.1) hw' (by repeat constructor), RdT.own (xs := [(0, 0, 6), (1, 0, 10)]) (cap := q1.2.2.2.2.1) (junk := q1.2.2.2.2.2) (b := q1.2.2.2.1) hw' (by repeat constructor)⟩)) (fun _ _ => ?_); refine tl_qg rfl rfl (y_eql rfl rfl) rfl ?_; refine tl_q (y_pick_t rfl rfl) rfl ?_; refine tl_q (y_move rfl) rfl ?_; refine tl_qg rfl rfl (y_loadW rfl (by repeat constructor) (by rfl)) rfl ?_; refine tl_eg rfl rfl rfl (e_callV rfl (.cons rfl .nil) (fun w' hw' => checkN_v (t := worsT) tn23 (nt_small worsT (by decide) (by decide) (by decide) (by decide)) (.slice (some ⟨q2.1, 0, none⟩) 2 2) (.slice (some ⟨q2.2.1, 0, none⟩) 2 2) (.slice (some ⟨q2.2.2.1, 0, none⟩) 2 2) (.slice (some ⟨q2.2.2.2.1, 0, none⟩) 2 q2.2.2.2.2.1) w' ⟨RdI.own (xs := [100, 200]) (cap := 2) (junk := []) (b := q2.1) hw' (by repeat constructor), RdI.own (xs := [0, 6]) (cap := 2) (junk := []) (b := q2.2.1) hw' (by repeat constructor), RdR.own (xs := [(1000, 1000), (915, 925)]) (cap := 2) (junk := []) (b := q2.2.2.1) hw' (by repeat constructor), RdT.own (xs := [(0, 0, 6), (1, 0, 10)]) (cap := q2.2.2.2.2.1) (junk := q2.2.2.2.2.2) (b := q2.2.2.2.1) hw' (by repeat constructor)⟩)) (fun _ _ => ?_); refine tl_qg rfl rfl (y_eql rfl rfl) rfl ?_; refine tl_q (y_pick_t rfl rfl) rfl ?_; refine tl_q (y_move rfl) rfl ?_; refine tl_qg rfl rfl (y_loadW rfl (by repeat constructor) (by rfl)) rfl ?_; refine tl_eg rfl rfl rfl (e_callV rfl (.cons rfl .nil) (fun w' hw' => checkN_v (t := wideT) tn24 (nt_small wideT (by decide) (by decide) (by decide) (by decide)) (.slice (some ⟨q3.1, 0, none⟩) 2 2) (.slice (some ⟨q3.2.1, 0, none⟩) 2 2) (.slice (some ⟨q3.2.2.1, 0, none⟩) 2 2) (.slice (some ⟨q3.2.2.2.1, 0, none⟩) 2 q3.2.2.2.2.1) w' ⟨RdI.own (xs := [100, 200]) (cap := 2) (junk := []) (b := q3.1) hw' (by repeat constructor), RdI.own (xs := [0, 6]) (cap := 2) (junk := []) (b := q3.2.1) hw' (by repeat constructor), RdR.own (xs := [(1000, 1041), (915, 925)]) (cap := 2) (junk := []) (b := q3.2.2.1) hw' (by repeat constructor), RdT.own (xs := [(0, 0, 6), (1, 0, 10)]) (cap := q3.2.2.2.2.1) (junk := q3.2.2.2.2.2) (b := q3.2.2.2.1) hw' (by repeat constructor)⟩)) (fun _ _ => ?_); refine tl_qg rfl rfl (y_eql rfl rfl) rfl ?_; refine tl_q (y_pick_t rfl rfl) rfl ?_; refine tl_q (y_move rfl) rfl ?_; refine tl_qg rfl rfl (y_loadW rfl (by repeat constructor) (by rfl)) rfl ?_; refine tl_eg rfl rfl rfl (e_callV rfl (.cons rfl .nil) (fun w' hw' => checkN_v (t := testT) tn25 (nt_small testT (by decide) (by decide) (by decide) (by decide)) (.slice (some ⟨q4.1, 0, none⟩) 2 2) (.slice (some ⟨q4.2.1, 0, none⟩) 2 2) (.slice (some ⟨q4.2.2.1, 0, none⟩) 2 2) (.slice (some ⟨q4.2.2.2.1, 0, none⟩) 2 q4.2.2.2.2.1) w' ⟨RdI.own (xs := [100, 200]) (cap := 2) (junk := []) (b := q4.1) hw' (by repeat constructor), RdI.own (xs := [0, 6]) (cap := 2) (junk := []) (b := q4.2.1) hw' (by repeat constructor), RdR.own (xs := [(1000, 1000), (915, 925)]) (cap := 2) (junk := []) (b := q4.2.2.1) hw' (by repeat constructor), RdT.own (xs := [(0, 0, -2), (1, 0, 10)]) (cap := q4.2.2.2.2.1) (junk := q4.2.2.2.2.2) (b := q4.2.2.2.1) hw' (by repeat constructor)⟩)) (fun _ _ => ?_); refine tl_qg rfl rfl (y_eql rfl rfl) rfl ?_; refine tl_q (y_pick_t rfl rfl) rfl ?_; refine tl_q (y_move rfl) rfl ?_; refine tl_qg rfl rfl (y_loadW rfl (by repeat constructor) (by rfl)) rfl ?_; refine tl_eg rfl rfl rfl (e_callV rfl (.cons rfl .nil) (fun w' hw' => checkN_v (t := manyT) tn26 (nt_small manyT (by decide) (by decide) (by decide) (by decide)) (.slice (some ⟨q5.1, 0, none⟩) 2 2) (.slice (some ⟨q5.2.1, 0, none⟩) 2 2) (.slice (some ⟨q5.2.2.1, 0, none⟩) 2 2) (.slice (some ⟨bm, 0, none⟩) 7 7) w' ⟨RdI.own (xs := [100, 200]) (cap := 2) (junk := []) (b := q5.1) hw' (by repeat constructor), RdI.own (xs := [0, 6]) (cap := 2) (junk := []) (b := q5.2.1) hw' (by repeat constructor), RdR.own (xs := [(1000, 1000), (915, 925)]) (cap := 2) (junk := []) (b := q5.2.2.1) hw' (by repeat constructor), RdT.own0 (xs := manyT.tests) hw' (b := bm) (by repeat constructor)⟩)) (fun _ _ => ?_); refine tl_qg rfl rfl (y_eql rfl rfl) rfl ?_; refine tl_q (y_pick_t rfl rfl) rfl ?_; refine tl_q (y_move rfl) rfl ?_; refine tl_qg rfl rfl (y_loadW rfl (by repeat constructor) (by rfl)) rfl ?_; refine tl_eg rfl rfl rfl (e_callV rfl (.cons rfl .nil) (fun w' hw' => checkN_v (t := badT) tn27 (nt_small badT (by decide) (by decide) (by decide) (by decide)) (.slice (some ⟨q6.1, 0, none⟩) 2 2) (.slice (some ⟨q6.2.1, 0, none⟩) 2 2) (.slice (some ⟨q6.2.2.1, 0, none⟩) 2 2) (.slice (some ⟨q6.2.2.2.1, 0, none⟩) 2 q6.2.2.2.2.1) w' ⟨RdI.own (xs := [100, 200]) (cap := 2) (junk := []) (b := q6.1) hw' (by repeat constructor), RdI.own (xs := [0, 6]) (cap := 2) (junk := []) (b := q6.2.1) hw' (by repeat constructor), RdR.own (xs := [(1000, 1000), (915, 925)]) (cap := 2) (junk := []) (b := q6.2.2.1) hw' (by repeat constructor), RdT.own (xs := [(0, 0, 6), (1, 0, 10)]) (cap := q6.2.2.2.2.1) (junk := q6.2.2.2.2.2) (b := q6.2.2.2.1) hw' (by repeat constructor)⟩)) (fun _ _ => ?_); refine tl_qg rfl rfl (y_eql rfl rfl) rfl ?_; refine tl_q (y_pick_t rfl rfl) rfl ?_; refine tl_q (y_move rfl) rfl ?_; refine tl_qg rfl rfl (y_build_g (by repeat constructor)) rfl ?_; refine tl_eg rfl rfl rfl (e_callV rfl (.cons rfl .nil) (fun w' hw' => checkN_v (t := zeroT) tn28 (nt_small zeroT (by decide) (by decide) (by decide) (by decide)) (.slice none 0 0) (.slice none 0 0) (.slice none 0 0) (.slice none 0 0) w' ⟨RdI.nil w', RdI.nil w', RdR.nil w', RdT.nil w'⟩)) (fun _ _ => ?_); refine tl_qg rfl rfl (y_eql rfl rfl) rfl ?_; refine tl_q (y_pick_t rfl rfl) rfl ?_; refine tl_q (y_move rfl) rfl ?_; refine tl_eg rfl rfl rfl (e_callV rfl .nil (fun w' _ => awake9_c w')) (fun _ _ => ?_); refine tl_q (y_pick_t rfl rfl) rfl ?_; refine tl_q (y_assign rfl) rfl ?_; refine tl_nil ?_; ((refine hK32 ?_; try (clear hK32; clear K32)))
           all_goals refine tc_ret ?_; (repeat (first | refine tk_then_ret ?_))
           all_goals (refine tk_ret rfl rfl (.cons (.tmp rfl) .nil) ?_)
           all_goals (
            exact fun w' hw' => ⟨rfl, hw'.fr (w0 := w) (S := []) MI.m⟩))))
end Go.Sp
/-
  From a contract of a law's function to its row: what the arguments read as, and that they read so afterwards.
-/
namespace Go.Sp
open Go Go.Proofs Go.ChangeShapes Go.WideShapes Go.RowKit
section
variable {H : Type} {enc : TypeId × Value → H} {P : Program} {w : World} {base : Nat} {spare : Nat → Bool} {held : Bool}
theorem Fr.kept {W W' : World} (h : Fr [] W W') (p : MemPlace → Prop) : W.keptBut W' p :=
  ⟨h.os, h.output, fun i hi => by
    have e := h.block i hi (by simp)
    rw [e]
    cases hb : W.heap[i]? with
    | none => trivial
    | some o => cases o <;> simp⟩
/-- What is left of a post without 'again'. -/
theorem post_na {f : Func} {s : ChangeSpec} {apart fresh handsOn : Bool} {W W' : World} {args : Array Value} {v : Value} {ds gs : List (DataW H)} {before pa pv : List MemPlace}
    (hW : DataW.Whole enc P f.params.toList s.vars apart W args.toList ds gs before)
    (hres : ∀ (b : Nat) (sp : Nat → Bool) (hd : Bool), DataW.TrodAll enc P W' b sp hd f.resultTypes.toList (v.resultList f.resultTypes.size) (s.fn H (ds ++ gs)).results [])
    (hargs : ∀ sp : Nat → Bool, (∀ p ∈ before, sp p.block = true) → DataW.TrodAll enc P W' 0 sp true f.params.toList args.toList (s.fn H (ds ++ gs)).args pa)
    (hvars : ∀ sp : Nat → Bool, (∀ p ∈ before, sp p.block = true) → DataW.TrodVars enc P W' sp s.vars (s.fn H (ds ++ gs)).vars pv)
    (hps : before = pa ++ pv) (hk : W.keptBut W' (· ∈ before)) : s.post enc P f apart fresh handsOn false W args v W' := by
  have hold : ∀ p ∈ before, (fun b => decide (b < W.heap.size)) p.block = true := fun p hp => by simpa using hW.lt p hp
  refine ⟨ds, gs, before, [], pa, pv, hW, hres _ _ _, hargs _ hold, hvars _ hold, World.keptBut_mono (fun p hp => ⟨hp, ?_⟩) hk, fun h => by cases h⟩
  rw [hps, List.mem_append] at hp
  exact Or.inr hp
theorem all_stays (hl : laidOutB P = true) {W W' : World} {sp : Nat → Bool} (hb : Below W.heap.size W W') : ∀ {ts : List TypeId} {vs : List Value} {ds : List (DataW H)} {ps : List MemPlace}, (ts.all fun t => P.readableRec t && decide (t < P.types.size)) = true →
    DataW.TrodAll enc P W 0 (fun _ => true) true ts vs ds ps → (∀ p ∈ ps, sp p.block = true) → DataW.TrodAll enc P W' 0 sp true ts vs ds ps := by
  intro ts
  induction ts with
  | nil => intro vs ds ps _ h _; cases vs <;> cases ds <;> simp [DataW.TrodAll] at h ⊢; exact h
  | cons t ts ih =>
    intro vs ds ps ht h hs
    have hlt := h.lt
    obtain ⟨v, vs', d, ds', p, q, rfl, rfl, rfl, h1, h2⟩ := trodAll_cons h
    simp only [List.all_cons, Bool.and_eq_true, decide_eq_true_eq] at ht
    exact ⟨p, q, WideElems.Trod_stays hl ht.1.1 ht.1.2 h1 (fun x hx => hb.same (hlt x (List.mem_append_left _ hx))) (fun x hx => hs x (List.mem_append_left _ hx)),
      ih (by simpa using ht.2) h2 (fun x hx => hs x (List.mem_append_right _ hx)), rfl⟩
end
end Go.Sp
/-
  What the arguments of this seat's laws read as.
-/
namespace Go.Sp
open Go Go.Proofs Go.ChangeShapes Go.WideShapes Go.RowKit
theorem laidTryz : laidOutB Tryz.prog = true := by kernel_rfl
section
variable {H : Type} {enc : TypeId × Value → H} {w : World} {base : Nat} {spare : Nat → Bool} {held : Bool}
end
end Go.Sp
