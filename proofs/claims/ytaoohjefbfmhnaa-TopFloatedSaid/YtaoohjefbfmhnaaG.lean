/-
  Narrow, Leave.
-/
import Derived.Test.YtaoohjefbfmhnaaF
set_option linter.unusedVariables false
set_option linter.unusedSimpArgs false
set_option linter.deprecated false
namespace Go.Sp
open Go Go.Proofs
def emptyF (r : Int × Int) : Bool := decide (r.2 < r.1)
def narrowE (s : Sn) (l : List (Int × Int)) : (Int × Int) × Int :=
  if ¬ readF s l = 0 then ((0, 0), readF s l) else if emptyF (narF s l [] l.length) = true then ((0, 0), 11) else (narF s l [] l.length, 0)
theorem readF_0 {s : Sn} {l : List (Int × Int)} (h : readF s l = 0) : VS s ∧ (l.length : Int) ≤ 6 ∧ l.all (rdOk s) = true := by
  unfold readF at h
  split at h
  · exact absurd h ‹_›
  · rename_i h1
    split at h
    · cases h
    · split at h
      · rename_i h2 h3
        exact ⟨chkF_valid.1 (by omega), by omega, h3⟩
      · cases h
theorem RdI.nil (w : World) : RdI w (.slice none 0 0) [] := ⟨rfl, none, 0, rfl, fun h => absurd rfl h⟩
theorem narrow_e (s : Sn) (hn : NB s) (l : List (Int × Int)) (hl : (l.length : Int) ≤ 9000000000000000000) (sl lv : Value) (w : World) (hr : RdI w sl s.weights) (hR : RdR w lv l) :
    CnV Try.prog 8 #[spV s sl, lv] w (.tuple #[rV (narrowE s l).1, vi (narrowE s l).2]) := by
  refine cnv (vs := [_, _]) Try.func8 rfl rfl ?_
  all_goals refine tc_seq fun K1 hK1 => ?_
  all_goals refine tc_region ?_
  all_goals refine tl_e (e_box rfl rfl rfl) rfl (fun _ _ => ?_)
  all_goals refine tl_e (e_allocN rfl) rfl (fun _ _ => ?_)
  all_goals refine tl_q (y_assign rfl) rfl ?_
  all_goals refine tl_nil ?_
  all_goals (refine hK1 ?_; try (clear hK1; clear K1))
  all_goals refine tc_seq fun K2 hK2 => ?_
  all_goals refine tc_seq fun K3 hK3 => ?_
  all_goals refine tc_region ?_
  all_goals (refine tl_q (y_loadW rfl (by repeat constructor) (by rfl)) rfl ?_)
  all_goals refine tl_q (y_move rfl) rfl ?_
  all_goals refine tl_e (e_callV rfl (.cons rfl (.cons rfl .nil)) (fun w' hw' => read_c s hn l hl _ _ w' (hr.fr (hw'.fr (by simp))) (hR.fr (hw'.fr (by simp))))) rfl (fun _ _ => ?_)
  all_goals refine tl_q (y_assign rfl) rfl ?_
  all_goals refine tl_nil ?_
  all_goals (refine hK3 ?_; try (clear hK3; clear K3))
  all_goals refine tc_seq fun K4 hK4 => ?_
  all_goals refine tc_region ?_
  all_goals refine tl_q (y_move rfl) rfl ?_
  all_goals refine tl_q (y_neq rfl rfl) rfl ?_
  all_goals refine tl_nil ?_
  all_goals (refine hK4 ?_; try (clear hK4; clear K4))
  all_goals (
   refine tc_cond rfl (fun hc => ?_) (fun hc => ?_)
   · try simp only [decide_eq_true_eq, decide_eq_false_iff_not, Int.not_lt, Int.not_le, Bool.not_eq_true', Bool.not_eq_false', Decidable.not_not, not_true_eq_false] at hc
     all_goals first | (exfalso; with_reducible exact bft hc) | (exfalso; with_reducible exact btf hc) | (exfalso; omega) | skip
     all_goals refine tc_seq fun K5 hK5 => ?_
     all_goals refine tc_region ?_
     all_goals refine tl_q (y_build_0) rfl ?_
     all_goals refine tl_q (y_move rfl) rfl ?_
     all_goals refine tl_e (e_storeW rfl rfl (by repeat constructor) (by rfl) (by rfl) (by simp [Value.oneCell'])) rfl (fun _ _ => ?_)
     all_goals refine tl_q (y_assign rfl) rfl ?_
     all_goals refine tl_nil ?_
     all_goals (refine hK5 ?_; try (clear hK5; clear K5))
     all_goals refine tc_ret ?_
     all_goals (repeat (refine tk_then_ret ?_))
     all_goals first | refine tk_ret rfl rfl (.cons (.agg inferInstance rfl (by repeat constructor) (by rfl)) (.cons (.tmp rfl) .nil)) ?_ | refine tk_retM rfl (by repeat constructor) rfl (.cons (.agg inferInstance rfl (by repeat constructor) (by rfl)) (.cons (.tmp rfl) .nil)) ?_
     all_goals (
      refine fun w' hw' => ⟨?_, hw'.fr (by simp)⟩
      unfold narrowE emptyF
      first | (rw [if_pos (by omega)]; rfl) | (rw [if_neg (by omega), if_pos (by simpa using hc)]; rfl) | (rw [if_neg (by omega), if_neg (by simpa using hc)]; rfl))
   · try simp only [decide_eq_true_eq, decide_eq_false_iff_not, Int.not_lt, Int.not_le, Bool.not_eq_true', Bool.not_eq_false', Decidable.not_not, not_true_eq_false] at hc
     all_goals first | (exfalso; with_reducible exact bft hc) | (exfalso; with_reducible exact btf hc) | (exfalso; omega) | skip
     all_goals refine tc_skip ?_
     all_goals (refine hK2 ?_; try (clear hK2; clear K2))
     all_goals refine tc_seq fun K6 hK6 => ?_
     have hq := readF_0 (s := s) (l := l) (by omega)
     all_goals refine tc_region ?_
     all_goals (refine tl_q (y_loadW rfl (by repeat constructor) (by rfl)) rfl ?_)
     all_goals refine tl_e (e_callN rfl (.cons rfl .nil) (fun w' hw' => work_c s _ hr.one w')) rfl (fun x _ => ?_)
     all_goals refine tl_q (y_move rfl) rfl ?_
     all_goals refine tl_e (e_callU rfl (.cons rfl (.cons rfl (.cons rfl .nil))) (fun w' hw' => narrow_c s hq.1 l hq.2.1 hq.2.2 [] (by simp) sl lv _ hr.one w' x.1 x.2 #[] 0 (hr.fr (hw'.fr (by simp))) (hR.fr (hw'.fr (by simp))) (RdI.nil _) (hw'.heap _ (HM.mem (by repeat constructor))) (hw'.heap _ (HM.mem (by repeat constructor))) (fun e he => by simp at he)) (fun _ => (by repeat constructor))) rfl (fun _ _ => ?_)
     all_goals refine tl_e (e_allocN rfl) rfl (fun _ _ => ?_)
     all_goals refine tl_e (e_storeW rfl rfl (by repeat constructor) (by rfl) (by rfl) (by simp [Value.oneCell'])) rfl (fun _ _ => ?_)
     all_goals refine tl_nil ?_
     all_goals (refine hK6 ?_; try (clear hK6; clear K6))
     all_goals refine tc_seq fun K7 hK7 => ?_
     all_goals refine tc_seq fun K8 hK8 => ?_
     all_goals refine tc_region ?_
     all_goals (refine tl_q (y_loadW rfl (by repeat constructor) (by rfl)) rfl ?_)
     all_goals refine tl_e (e_callV rfl (.cons rfl .nil) (fun w' hw' => empty_c _ _ w')) rfl (fun _ _ => ?_)
     all_goals refine tl_nil ?_
     all_goals (refine hK8 ?_; try (clear hK8; clear K8))
     all_goals (
      refine tc_cond rfl (fun hc => ?_) (fun hc => ?_)
      · try simp only [decide_eq_true_eq, decide_eq_false_iff_not, Int.not_lt, Int.not_le, Bool.not_eq_true', Bool.not_eq_false', Decidable.not_not, not_true_eq_false] at hc
        all_goals first | (exfalso; with_reducible exact bft hc) | (exfalso; with_reducible exact btf hc) | (exfalso; omega) | skip
        all_goals refine tc_seq fun K9 hK9 => ?_
        all_goals refine tc_region ?_
        all_goals refine tl_q (y_build_0) rfl ?_
        all_goals refine tl_e (e_storeW rfl rfl (by repeat constructor) (by rfl) (by rfl) (by simp [Value.oneCell'])) rfl (fun _ _ => ?_)
        all_goals refine tl_q (y_assign rfl) rfl ?_
        all_goals refine tl_nil ?_
        all_goals (refine hK9 ?_; try (clear hK9; clear K9))
        all_goals refine tc_ret ?_
        all_goals (repeat (refine tk_then_ret ?_))
        all_goals first | refine tk_ret rfl rfl (.cons (.agg inferInstance rfl (by repeat constructor) (by rfl)) (.cons (.tmp rfl) .nil)) ?_ | refine tk_retM rfl (by repeat constructor) rfl (.cons (.agg inferInstance rfl (by repeat constructor) (by rfl)) (.cons (.tmp rfl) .nil)) ?_
        all_goals (
         refine fun w' hw' => ⟨?_, hw'.fr (by simp)⟩
         unfold narrowE emptyF
         first | (rw [if_pos (by omega)]; rfl) | (rw [if_neg (by omega), if_pos (by simpa using hc)]; rfl) | (rw [if_neg (by omega), if_neg (by simpa using hc)]; rfl))
      · try simp only [decide_eq_true_eq, decide_eq_false_iff_not, Int.not_lt, Int.not_le, Bool.not_eq_true', Bool.not_eq_false', Decidable.not_not, not_true_eq_false] at hc
        all_goals first | (exfalso; with_reducible exact bft hc) | (exfalso; with_reducible exact btf hc) | (exfalso; omega) | skip
        all_goals refine tc_skip ?_
        all_goals (refine hK7 ?_; try (clear hK7; clear K7))
        all_goals refine tc_seq fun K10 hK10 => ?_
        all_goals refine tc_region ?_
        all_goals (refine tl_q (y_loadW rfl (by repeat constructor) (by rfl)) rfl ?_)
        all_goals refine tl_e (e_storeW rfl rfl (by repeat constructor) (by rfl) (by rfl) (by simp [Value.oneCell'])) rfl (fun _ _ => ?_)
        all_goals refine tl_q (y_assign rfl) rfl ?_
        all_goals refine tl_nil ?_
        all_goals (refine hK10 ?_; try (clear hK10; clear K10))
        all_goals refine tc_ret ?_
        all_goals (repeat (first | refine tk_then_ret ?_))
        all_goals first | refine tk_ret rfl rfl (.cons (.agg inferInstance rfl (by repeat constructor) (by rfl)) (.cons (.tmp rfl) .nil)) ?_ | refine tk_retM rfl (by repeat constructor) rfl (.cons (.agg inferInstance rfl (by repeat constructor) (by rfl)) (.cons (.tmp rfl) .nil)) ?_
        all_goals (
         refine fun w' hw' => ⟨?_, hw'.fr (by simp)⟩
         unfold narrowE emptyF
         first | (rw [if_pos (by omega)]; rfl) | (rw [if_neg (by omega), if_pos (by simpa using hc)]; rfl) | (rw [if_neg (by omega), if_neg (by simpa using hc)]; rfl))))
theorem Reads.frM {w w' : World} {v : Value} {sz n : Nat} {vs : List Value} {S : List Nat} (h : Reads w v sz n vs) (f : Fr S w w') (hS : ∀ x ∈ S, ∃ es ck, w.heap[x]? = some (.map es ck)) : Reads w' v sz n vs := by
  obtain ⟨h1, ad, cap, h2, h3⟩ := h
  refine ⟨h1, ad, cap, h2, fun hn => ?_⟩
  obtain ⟨b, o, h4, h5⟩ := h3 hn
  refine ⟨b, o, h4, ?_⟩
  clear h1 h2 h3 h4 hn
  generalize n * sz = q at h5
  induction h5 with
  | nil => exact .nil
  | @cons o n v vs hv _ ih =>
    refine .cons (f.cell (p := ⟨b, o, none⟩) (fun hb => ?_) hv) ih
    obtain ⟨es, ck, he⟩ := hS b hb
    simp [World.cell?, he] at hv
/-- What the work keeps of its map. -/
def JM (s : Sn) (o : Obj) : Prop := ∃ es ck, o = .map es ck ∧ Cache (meanV s) es.toList
def fitsP (s : Sn) (l : List (Int × Int)) (xs : List Int) : Bool := !emptyF (narF s l xs l.length)
theorem leave1_p (s : Sn) (hs : VS s) (l : List (Int × Int)) (hl : (l.length : Int) ≤ 6) (hok : l.all (rdOk s) = true) (sl lv : Value) (hsl : sl.oneCell' = true) (w : World) (bt br bw bm : Nat) (es : Array MapEntry) (ck : Nat)
    (hbt : w.heap[bt]? = some (.cells #[ptr bw] 66 (0, 0))) (hbr : w.heap[br]? = some (.cells #[lv] 47 (0, 0))) (hbw : w.heap[bw]? = some (wkO s sl bm)) (hbm : w.heap[bm]? = some (.map es ck)) (hr : RdI w sl s.weights) (hR : RdR w lv l) :
    Pass Try.prog 28 #[ptr bt, ptr br] (fitsP s l) l.length [bm] bm (JM s) w := by
  intro w1 o xs v f1 h1 hJ hx hsep hone hlen _
  obtain ⟨es1, ck1, rfl, hc1⟩ := hJ
  have hne : ∀ {b : Nat} {cs : Array Value} {t : Nat} {q : Nat × Nat}, w.heap[b]? = some (.cells cs t q) → b ∉ [bm] := fun h hb => by
    obtain rfl := List.mem_singleton.1 hb
    rw [hbm] at h; cases h
  have hM : ∀ x ∈ [bm], ∃ es ck, w.heap[x]? = some (.map es ck) := fun x hx => by
    obtain rfl := List.mem_singleton.1 hx
    exact ⟨es, ck, hbm⟩
  have g1 := f1.keepS (hne hbt) hbt
  have g2 := f1.keepS (hne hbr) hbr
  have g3 := f1.keepS (hne hbw) hbw
  have hr1 : RdI w1 sl s.weights := Reads.frM hr f1 hM
  have hR1 : RdR w1 lv l := Reads.frM hR f1 hM
  rw [show (#[] ++ #[v] ++ #[ptr bt, ptr br] : Array Value) = #[v, ptr bt, ptr br] from by simp]
  refine cnxS (vs := [_, _, _]) (S := [bm]) [(bm, .map es1 ck1)] Try.func28 rfl rfl ⟨by simp [h1], by simp, by simp⟩ ?_
  all_goals refine tc_seq fun K1 hK1 => ?_
  all_goals refine tc_region ?_
  all_goals refine tl_q (y_assign rfl) rfl ?_
  all_goals refine tl_nil ?_
  all_goals (refine hK1 ?_; try (clear hK1; clear K1))
  all_goals refine tc_seq fun K2 hK2 => ?_
  all_goals refine tc_region ?_
  all_goals (refine tl_q (y_load1o rfl (fun w' hw' => cell0 ((hw'.fr (w0 := w1) (S := [bm]) (by simp)).keepS (hne hbt) g1) rfl)) rfl ?_)
  all_goals (refine tl_q (y_load1o rfl (fun w' hw' => cell0 ((hw'.fr (w0 := w1) (S := [bm]) (by simp)).keepS (hne hbr) g2) rfl)) rfl ?_)
  all_goals refine tl_q (y_move rfl) rfl ?_
  all_goals refine tl_e (e_callU rfl (.cons rfl (.cons rfl (.cons rfl .nil))) (fun w' hw' => narrow_c s hs l hl hok xs (by omega) sl lv _ hsl w' bw bm es1 ck1 (RdI.frM (bm := bm) (es := es1) (ck := ck1) hr1 (hw'.fr (S := [bm]) (by simp)) (fun x hx => by obtain rfl := List.mem_singleton.1 hx; exact ⟨_, _, h1⟩)) (Reads.frM hR1 (hw'.fr (S := [bm]) (by simp)) (fun x hx => by obtain rfl := List.mem_singleton.1 hx; exact ⟨_, _, h1⟩)) (Reads.frM hx (hw'.fr (S := [bm]) (by simp)) (fun x hx => by obtain rfl := List.mem_singleton.1 hx; exact ⟨_, _, h1⟩)) ((hw'.fr (w0 := w1) (S := [bm]) (by simp)).keepS (hne hbw) g3) (hw'.heap _ (HM.mem (by repeat constructor))) hc1) (fun _ => (by repeat constructor))) rfl (fun y hy => ?_)
  all_goals refine tl_e (e_callV rfl (.cons rfl .nil) (fun w' hw' => empty_c _ _ w')) rfl (fun _ _ => ?_)
  all_goals (refine tl_q (y_not_dec rfl) rfl ?_)
  all_goals refine tl_q (y_assign rfl) rfl ?_
  all_goals refine tl_nil ?_
  all_goals (refine hK2 ?_; try (clear hK2; clear K2))
  all_goals refine tc_ret ?_
  all_goals (repeat (first | refine tk_then_ret ?_))
  all_goals first | refine tk_ret rfl rfl (.cons (.tmp rfl) .nil) ?_ | refine tk_retM rfl (by repeat constructor) rfl (.cons (.tmp rfl) .nil) ?_
  all_goals (
   refine fun w' hw' => ⟨.map y.1 y.2, ?_, hw'.fr (by simp), ⟨_, _, rfl, hy⟩, hw'.heap _ (HM.mem (by repeat constructor))⟩
   simp only [fitsP, emptyF, outV]
   by_cases h : (narF s l xs l.length).2 < (narF s l xs l.length).1 <;> simp [h])
theorem leave_lists (s : Sn) (hs : VS s) (l : List (Int × Int)) (hl : (l.length : Int) ≤ 6) (hok : l.all (rdOk s) = true) (sl lv : Value) (hsl : sl.oneCell' = true) (w : World) (bt br bw bm : Nat) (es : Array MapEntry) (ck : Nat)
    (hbt : w.heap[bt]? = some (.cells #[ptr bw] 66 (0, 0))) (hbr : w.heap[br]? = some (.cells #[lv] 47 (0, 0))) (hbw : w.heap[bw]? = some (wkO s sl bm)) (hbm : w.heap[bm]? = some (.map es ck)) (hc : Cache (meanV s) es.toList) (hr : RdI w sl s.weights) (hR : RdR w lv l) (k : Nat) (hk : k ≤ l.length) :
    CnX Try.prog 27 #[vi 0, vi l.length, vi k, .func (.func 28) #[] #[ptr bt, ptr br]] w [bm] (fun x : Value × Array MapEntry × Nat => .tuple #[x.1, .bool (srch (fitsP s l) l.length k [] 0).isSome])
      (fun x w' => w'.heap[bm]? = some (.map x.2.1 x.2.2) ∧ Cache (meanV s) x.2.1.toList ∧ ∀ r, srch (fitsP s l) l.length k [] 0 = some r → RdI w' x.1 r) :=
  (lists_c 28 #[ptr bt, ptr br] (fitsP s l) l.length k k rfl (by omega) (by omega) (by omega) bm (.map es ck) (JM s) w hbm ⟨es, ck, rfl, hc⟩ (leave1_p s hs l hl hok sl lv hsl w bt br bw bm es ck hbt hbr hbw hbm hr hR)).imp
    (fun x => (x.1, match x.2 with | .map es ck => (es, ck) | _ => (#[], 0))) (fun _ => rfl) (fun _ h => h) (fun x w' _ hx => by
      obtain ⟨h1, ⟨es', ck', e, h2⟩, _, h4⟩ := hx
      obtain ⟨v, o⟩ := x
      dsimp only at e h1 h4 ⊢
      subst e
      exact ⟨h1, h2, h4⟩)
def leaveL (s : Sn) (l : List (Int × Int)) : List Int := ((List.range (l.length + 1)).findSome? fun (k : Nat) => srch (fitsP s l) l.length k [] 0).getD []
def leaveE (s : Sn) (l : List (Int × Int)) : List Int × Int := if ¬ readF s l = 0 then ([], readF s l) else (leaveL s l, 0)
theorem leave_e (s : Sn) (hn : NB s) (l : List (Int × Int)) (hl : (l.length : Int) ≤ 9000000000000000000) (sl lv : Value) (w : World) (hr : RdI w sl s.weights) (hR : RdR w lv l) :
    CnX Try.prog 13 #[spV s sl, lv] w [] (fun v : Value => .tuple #[v, vi (leaveE s l).2]) (fun v w' => RdI w' v (leaveE s l).1) := by
  obtain ⟨ad, cp, b0, o0, rfl, had, hcell⟩ := hR.open
  refine cnx0 (vs := [_, _]) Try.func13 rfl rfl ?_
  all_goals refine tc_seq fun K1 hK1 => ?_
  all_goals refine tc_region ?_
  all_goals refine tl_e (e_box rfl rfl rfl) rfl (fun b2 _ => ?_)
  all_goals refine tl_e (e_box rfl rfl rfl) rfl (fun b3 _ => ?_)
  all_goals refine tl_q (y_assign rfl) rfl ?_
  all_goals refine tl_q (y_assign rfl) rfl ?_
  all_goals refine tl_nil ?_
  all_goals (refine hK1 ?_; try (clear hK1; clear K1))
  all_goals refine tc_scope ?_
  all_goals refine tc_seq fun K2 hK2 => ?_
  all_goals refine tc_seq fun K3 hK3 => ?_
  all_goals refine tc_region ?_
  all_goals (refine tl_q (y_loadW rfl (by repeat constructor) (by rfl)) rfl ?_)
  all_goals refine tl_q (y_load1 rfl (by repeat constructor) (by rfl)) rfl ?_
  all_goals refine tl_e (e_callV rfl (.cons rfl (.cons rfl .nil)) (fun w' hw' => read_c s hn l hl _ _ w' (hr.fr (hw'.fr (by simp))) (hR.fr (hw'.fr (by simp))))) rfl (fun _ _ => ?_)
  all_goals refine tl_q (y_assign rfl) rfl ?_
  all_goals refine tl_nil ?_
  all_goals (refine hK3 ?_; try (clear hK3; clear K3))
  all_goals refine tc_seq fun K4 hK4 => ?_
  all_goals refine tc_region ?_
  all_goals refine tl_q (y_move rfl) rfl ?_
  all_goals refine tl_q (y_neq rfl rfl) rfl ?_
  all_goals refine tl_nil ?_
  all_goals (refine hK4 ?_; try (clear hK4; clear K4))
  all_goals (
   refine tc_cond rfl (fun hc => ?_) (fun hc => ?_)
   · try simp only [decide_eq_true_eq, decide_eq_false_iff_not, Int.not_lt, Int.not_le, Bool.not_eq_true', Bool.not_eq_false', Decidable.not_not, not_true_eq_false] at hc
     all_goals first | (exfalso; with_reducible exact bft hc) | (exfalso; with_reducible exact btf hc) | (exfalso; omega) | skip
     all_goals refine tc_seq fun K5 hK5 => ?_
     all_goals refine tc_region ?_
     all_goals refine tl_q (y_move rfl) rfl ?_
     all_goals refine tl_q (y_assign rfl) rfl ?_
     all_goals refine tl_q (y_assign rfl) rfl ?_
     all_goals refine tl_nil ?_
     all_goals (refine hK5 ?_; try (clear hK5; clear K5))
     all_goals refine tc_ret ?_
     all_goals (repeat (first | refine tk_then_ret ?_ | refine tk_scope_ret ?_))
     all_goals first | refine tk_ret rfl rfl (.cons (.tmp rfl) (.cons (.tmp rfl) .nil)) ?_ | refine tk_retM rfl (by repeat constructor) rfl (.cons (.tmp rfl) (.cons (.tmp rfl) .nil)) ?_
     all_goals (
      first
      | (have e1 : leaveE s l = ([], readF s l) := by unfold leaveE; rw [if_pos hc]
         exact fun w' hw' => ⟨.slice none 0 0, by rw [e1]; rfl, hw'.fr (by simp), by rw [e1]; exact RdI.nil _⟩)
      | (have e1 : leaveE s l = (rs, 0) := by unfold leaveE; rw [if_neg (by omega), leaveL, fs_hit (j := k) (by omega) hsr hno]; rfl
         exact fun w' hw' => ⟨y.1.1, by rw [e1]; rfl, hw'.fr (by simp), by rw [e1]; exact hy.2.2.fr (hw'.fr (by simp))⟩)
      | (have e1 : leaveE s l = ([], 0) := by unfold leaveE; rw [if_neg (by omega), leaveL, fs_miss (fun j hj => hno j (by omega))]; rfl
         exact fun w' hw' => ⟨.slice none 0 0, by rw [e1]; rfl, hw'.fr (by simp), by rw [e1]; exact RdI.nil _⟩))
   · try simp only [decide_eq_true_eq, decide_eq_false_iff_not, Int.not_lt, Int.not_le, Bool.not_eq_true', Bool.not_eq_false', Decidable.not_not, not_true_eq_false] at hc
     all_goals first | (exfalso; with_reducible exact bft hc) | (exfalso; with_reducible exact btf hc) | (exfalso; omega) | skip
     all_goals refine tc_skip ?_
     all_goals (refine hK2 ?_; try (clear hK2; clear K2))
     all_goals refine tc_seq fun K6 hK6 => ?_
     have hq := readF_0 (s := s) (l := l) (by omega)
     all_goals refine tc_region ?_
     all_goals (refine tl_q (y_loadW rfl (by repeat constructor) (by rfl)) rfl ?_)
     all_goals refine tl_e (e_callN rfl (.cons rfl .nil) (fun w' hw' => work_c s _ hr.one w')) rfl (fun x _ => ?_)
     all_goals refine tl_e (e_alloc1 rfl) rfl (fun bt _ => ?_)
     all_goals refine tl_e (e_store1 rfl rfl (by repeat constructor) (by repeat constructor) (by rfl) (by rfl)) rfl (fun _ _ => ?_)
     all_goals refine tl_nil ?_
     all_goals (refine hK6 ?_; try (clear hK6; clear K6))
     all_goals refine tc_seq fun K7 hK7 => ?_
     all_goals refine tc_region ?_
     all_goals refine tl_q (y_assign rfl) rfl ?_
     all_goals refine tl_nil ?_
     all_goals (refine hK7 ?_; try (clear hK7; clear K7))
     all_goals refine tc_seq fun K8 hK8 => ?_
     all_goals refine tc_label ?_
     all_goals (refine hK8 ?_; try (clear hK8; clear K8))
     all_goals refine tc_seq fun K9 hK9 => ?_
     all_goals refine tc_seq fun K10 hK10 => ?_
     all_goals refine tc_region ?_
     all_goals refine tl_q (y_load1 rfl (by repeat constructor) (by rfl)) rfl ?_
     all_goals refine tl_q (y_len rfl) rfl ?_
     all_goals refine tl_q (y_add rfl rfl (by omega)) rfl ?_
     all_goals refine tl_q (y_move rfl) rfl ?_
     all_goals refine tl_nil ?_
     all_goals (refine hK10 ?_; try (clear hK10; clear K10))
     all_goals refine tc_block ?_
     all_goals (
      refine tc_loop (fun p : Nat × Array MapEntry × Nat => p.1 ≤ l.length + 1 ∧ Cache (meanV s) p.2.1.toList ∧ ∀ k : Nat, k < p.1 → srch (fitsP s l) l.length k [] 0 = none) (fun p => [(2, ptr b2), (3, ptr b3), (7, ptr bt), (8, .slice none 0 0), (22, vi ((l.length : Int) + 1)), (23, vi p.1)]) (fun _ => [(w, [])]) (fun p => [(bt, .cells #[ptr x.1] 66 (0, 0)), (x.1, wkO s sl x.2), (x.2, .map p.2.1 p.2.2), (b3, .cells #[.slice ad l.length cp] 47 (0, 0))]) (fun p => l.length + 1 - p.1) ?_ ?_
      · exact tk_start (0, #[], 0) ⟨Nat.zero_le _, fun e he => by simp at he, fun k hk => absurd hk (Nat.not_lt_zero k)⟩ (.cons rfl (.cons rfl (.cons rfl (.cons rfl (.cons rfl (.cons rfl .nil)))))) (fun _ h => h.sub (fun _ h => h) (SB.s (by repeat constructor)))
      · rintro ⟨k, es, ck⟩ ⟨hk, hcache, hno⟩
        dsimp only at hk hcache hno ⊢
        all_goals refine tc_seq fun K11 hK11 => ?_
        all_goals refine tc_region ?_
        all_goals refine tl_q (y_lss rfl rfl) rfl ?_
        all_goals refine tl_nil ?_
        all_goals (refine hK11 ?_; try (clear hK11; clear K11))
        all_goals refine tc_seq fun K12 hK12 => ?_
        all_goals (
         refine tc_cond rfl (fun hc => ?_) (fun hc => ?_)
         · try simp only [decide_eq_true_eq, decide_eq_false_iff_not, Int.not_lt, Int.not_le, Bool.not_eq_true', Bool.not_eq_false', Decidable.not_not, not_true_eq_false] at hc
           all_goals first | (exfalso; with_reducible exact bft hc) | (exfalso; with_reducible exact btf hc) | (exfalso; omega) | skip
           all_goals refine tc_skip ?_
           all_goals (refine hK12 ?_; try (clear hK12; clear K12))
           all_goals refine tc_seq fun K13 hK13 => ?_
           all_goals refine tc_block ?_
           all_goals refine tc_seq fun K14 hK14 => ?_
           all_goals refine tc_region ?_
           all_goals refine tl_q (y_move rfl) rfl ?_
           all_goals refine tl_q (y_assign rfl) rfl ?_
           all_goals refine tl_nil ?_
           all_goals (refine hK14 ?_; try (clear hK14; clear K14))
           all_goals refine tc_seq fun K15 hK15 => ?_
           rcases hsr : srch (fitsP s l) l.length k [] 0 with _ | rs
           all_goals (have hll : ∀ (w' : World) (H : List (Nat × Obj)), HG [(w, [])] H w' → HM bt (.cells #[ptr x.1] 66 (0, 0)) H → HM b3 (.cells #[.slice ad l.length cp] 47 (0, 0)) H → HM x.1 (wkO s sl x.2) H → HM x.2 (.map es ck) H → _ := fun w' H hw' m1 m2 m3 m4 => leave_lists s hq.1 l hq.2.1 hq.2.2 sl (.slice ad l.length cp) hr.one w' bt b3 x.1 x.2 es ck (hw'.heap _ (HM.mem m1)) (hw'.heap _ (HM.mem m2)) (hw'.heap _ (HM.mem m3)) (hw'.heap _ (HM.mem m4)) hcache (hr.fr (hw'.fr (by simp))) (hR.fr (hw'.fr (by simp))) k (by omega))
           all_goals refine tc_region ?_
           all_goals refine tl_q (y_load1 rfl (by repeat constructor) (by rfl)) rfl ?_
           all_goals refine tl_q (y_len rfl) rfl ?_
           all_goals refine tl_q (y_move rfl) rfl ?_
           all_goals refine tl_q (y_fn .nil (.cons rfl (.cons rfl .nil))) rfl ?_
           all_goals (first | refine tl_e (e_callU (val := fun z : Value × Array MapEntry × Nat => .tuple #[z.1, .bool false]) (p := fun z => Cache (meanV s) z.2.1.toList) (ob := fun z => .map z.2.1 z.2.2) rfl (.cons rfl (.cons rfl (.cons rfl (.cons rfl .nil)))) (fun w' hw' => CnX.imp (val' := fun z : Value × Array MapEntry × Nat => .tuple #[z.1, .bool false]) (hll w' _ hw' (by repeat constructor) (by repeat constructor) (by repeat constructor) (by repeat constructor)) id (fun z => congrArg (fun o : Option (List Int) => Value.tuple #[z.1, .bool o.isSome]) hsr.symm) (fun _ h => h) (fun x w2 _ hx => ⟨hx.2.1, hx.1⟩)) (fun _ => (by repeat constructor))) rfl (fun y hy => ?_) | refine tl_e (e_callEndF (val := fun z : Value × Array MapEntry × Nat => .tuple #[z.1, .bool true]) (p := fun z w' => RdI w' z.1 rs) (S := [x.2]) rfl (.cons rfl (.cons rfl (.cons rfl (.cons rfl .nil)))) (fun w' hw' => CnX.imp (val' := fun z : Value × Array MapEntry × Nat => .tuple #[z.1, .bool true]) (hll w' _ hw' (by repeat constructor) (by repeat constructor) (by repeat constructor) (by repeat constructor)) id (fun z => congrArg (fun o : Option (List Int) => Value.tuple #[z.1, .bool o.isSome]) hsr.symm) (fun _ h => h) (fun x w2 _ hx => hx.2.2 rs hsr)) (fun w' hw' β hβ q hq => .inr (by obtain rfl := List.mem_singleton.1 hβ; obtain rfl := List.mem_singleton.1 hq; exact (hw'.own (x.2, _) (HM.mem (by repeat constructor)) (w, []) (by simp)).resolve_left (by simp)))) rfl (fun y hy => ?_))
           all_goals refine tl_q (y_move rfl) rfl ?_
           all_goals refine tl_q (y_extract rfl rfl) rfl ?_
           all_goals refine tl_q (y_extract rfl rfl) rfl ?_
           all_goals refine tl_q (y_assign rfl) rfl ?_
           all_goals refine tl_q (y_assign rfl) rfl ?_
           all_goals refine tl_nil ?_
           all_goals (refine hK15 ?_; try (clear hK15; clear K15))
           all_goals refine tc_seq fun K16 hK16 => ?_
           all_goals refine tc_region ?_
           all_goals refine tl_q (y_move rfl) rfl ?_
           all_goals refine tl_nil ?_
           all_goals (refine hK16 ?_; try (clear hK16; clear K16))
           all_goals (
            refine tc_cond rfl (fun hc => ?_) (fun hc => ?_)
            · try simp only [decide_eq_true_eq, decide_eq_false_iff_not, Int.not_lt, Int.not_le, Bool.not_eq_true', Bool.not_eq_false', Decidable.not_not, not_true_eq_false] at hc
              all_goals first | (exfalso; with_reducible exact bft hc) | (exfalso; with_reducible exact btf hc) | (exfalso; omega) | skip
              all_goals refine tc_seq fun K17 hK17 => ?_
              all_goals refine tc_region ?_
              all_goals refine tl_q (y_move rfl) rfl ?_
              all_goals refine tl_q (y_assign rfl) rfl ?_
              all_goals refine tl_nil ?_
              all_goals (refine hK17 ?_; try (clear hK17; clear K17))
              all_goals refine tc_exit ?_
              all_goals (refine hK9 ?_; try (clear hK9; clear K9))
              all_goals refine tc_seq fun K18 hK18 => ?_
              all_goals refine tc_region ?_
              all_goals refine tl_q (y_move rfl) rfl ?_
              all_goals refine tl_q (y_assign rfl) rfl ?_
              all_goals refine tl_q (y_assign rfl) rfl ?_
              all_goals refine tl_nil ?_
              all_goals (refine hK18 ?_; try (clear hK18; clear K18))
              all_goals refine tc_ret ?_
              all_goals (repeat (refine tk_scope_ret ?_))
              all_goals first | refine tk_ret rfl rfl (.cons (.tmp rfl) (.cons (.tmp rfl) .nil)) ?_ | refine tk_retM rfl (by repeat constructor) rfl (.cons (.tmp rfl) (.cons (.tmp rfl) .nil)) ?_
              all_goals (
               first
               | (have e1 : leaveE s l = ([], readF s l) := by unfold leaveE; rw [if_pos hc]
                  exact fun w' hw' => ⟨.slice none 0 0, by rw [e1]; rfl, hw'.fr (by simp), by rw [e1]; exact RdI.nil _⟩)
               | (have e1 : leaveE s l = (rs, 0) := by unfold leaveE; rw [if_neg (by omega), leaveL, fs_hit (j := k) (by omega) hsr hno]; rfl
                  exact fun w' hw' => ⟨y.1.1, by rw [e1]; rfl, hw'.fr (by simp), by rw [e1]; exact hy.2.2.fr (hw'.fr (by simp))⟩)
               | (have e1 : leaveE s l = ([], 0) := by unfold leaveE; rw [if_neg (by omega), leaveL, fs_miss (fun j hj => hno j (by omega))]; rfl
                  exact fun w' hw' => ⟨.slice none 0 0, by rw [e1]; rfl, hw'.fr (by simp), by rw [e1]; exact RdI.nil _⟩))
            · try simp only [decide_eq_true_eq, decide_eq_false_iff_not, Int.not_lt, Int.not_le, Bool.not_eq_true', Bool.not_eq_false', Decidable.not_not, not_true_eq_false] at hc
              all_goals first | (exfalso; with_reducible exact bft hc) | (exfalso; with_reducible exact btf hc) | (exfalso; omega) | skip
              all_goals refine tc_skip ?_
              all_goals (refine hK13 ?_; try (clear hK13; clear K13))
              all_goals refine tc_region ?_
              all_goals refine tl_q (y_add rfl rfl (by omega)) rfl ?_
              all_goals refine tl_q (y_move rfl) rfl ?_
              all_goals refine tl_nil ?_
              all_goals (
               exact tk_round (k + 1, y.2.1, y.2.2) ⟨by omega, hy, fun q hq' => by rcases Nat.lt_succ_iff_lt_or_eq.1 hq' with h | rfl; exact hno q h; exact hsr⟩ (by omega) (.cons rfl (.cons rfl (.cons rfl (.cons rfl (.cons rfl (.cons rfl .nil)))))) (fun _ h => h.sub (fun _ h => h) (SB.s (by repeat constructor)))))
         · try simp only [decide_eq_true_eq, decide_eq_false_iff_not, Int.not_lt, Int.not_le, Bool.not_eq_true', Bool.not_eq_false', Decidable.not_not, not_true_eq_false] at hc
           all_goals first | (exfalso; with_reducible exact bft hc) | (exfalso; with_reducible exact btf hc) | (exfalso; omega) | skip
           all_goals refine tc_exit ?_
           all_goals (refine hK9 ?_; try (clear hK9; clear K9))
           all_goals refine tc_seq fun K19 hK19 => ?_
           all_goals refine tc_region ?_
           all_goals refine tl_q (y_move rfl) rfl ?_
           all_goals refine tl_q (y_assign rfl) rfl ?_
           all_goals refine tl_q (y_assign rfl) rfl ?_
           all_goals refine tl_nil ?_
           all_goals (refine hK19 ?_; try (clear hK19; clear K19))
           all_goals refine tc_ret ?_
           all_goals (repeat (refine tk_scope_ret ?_))
           all_goals first | refine tk_ret rfl rfl (.cons (.tmp rfl) (.cons (.tmp rfl) .nil)) ?_ | refine tk_retM rfl (by repeat constructor) rfl (.cons (.tmp rfl) (.cons (.tmp rfl) .nil)) ?_
           all_goals (
            first
            | (have e1 : leaveE s l = ([], readF s l) := by unfold leaveE; rw [if_pos hc]
               exact fun w' hw' => ⟨.slice none 0 0, by rw [e1]; rfl, hw'.fr (by simp), by rw [e1]; exact RdI.nil _⟩)
            | (have e1 : leaveE s l = (rs, 0) := by unfold leaveE; rw [if_neg (by omega), leaveL, fs_hit (j := k) (by omega) hsr hno]; rfl
               exact fun w' hw' => ⟨y.1.1, by rw [e1]; rfl, hw'.fr (by simp), by rw [e1]; exact hy.2.2.fr (hw'.fr (by simp))⟩)
            | (have e1 : leaveE s l = ([], 0) := by unfold leaveE; rw [if_neg (by omega), leaveL, fs_miss (fun j hj => hno j (by omega))]; rfl
               exact fun w' hw' => ⟨.slice none 0 0, by rw [e1]; rfl, hw'.fr (by simp), by rw [e1]; exact RdI.nil _⟩)))))
end Go.Sp
