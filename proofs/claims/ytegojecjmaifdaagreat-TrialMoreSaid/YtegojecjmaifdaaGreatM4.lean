
/-
  Package trial: the fewest offers that decide, walked.
-/
import Derived.Test.YtegojecjmaifdaaGreatM3
import Derived.Laws.AppendOwn
import Derived.Test.YtegojecjmaifdaaGreatRows
import Derived.ProofKit
import Derived.OpenShut
import Derived.Carry
import Derived.Deep.Fields
import Derived.SizedLaws
set_option linter.unusedVariables false
set_option linter.unusedSimpArgs false
set_option linter.deprecated false
namespace Go.Sp
open Go Go.Proofs
abbrev E3 := Int × Int × Int
def apN (t : Tr) (l : List (Int × Int)) (a b : E3) (i : Nat) : List Int := ((List.range i).filter fun j => !alikeF t a b (l.getD j (0, 0)).1 (l.getD j (0, 0)).2).map fun (j : Nat) => (j : Int)
theorem apN_succ (t : Tr) (l : List (Int × Int)) (a b : E3) (i : Nat) : apN t l a b (i + 1) = if alikeF t a b (l.getD i (0, 0)).1 (l.getD i (0, 0)).2 = true then apN t l a b i else apN t l a b i ++ [(i : Int)] := by
  unfold apN
  rw [List.range_succ, List.filter_append, List.map_append]
  cases h : alikeF t a b (l.getD i (0, 0)).1 (l.getD i (0, 0)).2
  · rw [if_neg Bool.false_ne_true, List.filter_cons, if_pos (by rw [h]; rfl)]; rfl
  · rw [if_pos rfl, List.filter_cons, if_neg (by rw [h]; exact Bool.false_ne_true)]; simp
theorem apN_len (t : Tr) (l : List (Int × Int)) (a b : E3) (i : Nat) : (apN t l a b i).length ≤ i := by
  unfold apN
  rw [List.length_map]
  exact Nat.le_trans (List.length_filter_le _ _) (by simp)
def apL (t : Tr) (l : List (Int × Int)) (a b : E3) : List Int := apN t l a b l.length
/-- For each two truths that must be told apart: the offers that do. -/
def prs (t : Tr) (l : List (Int × Int)) (G B : List E3) (k m : Nat) : List (List Int) := ((G.take k).flatMap fun a => B.map fun b => apL t l a b) ++ (B.take m).map fun b => apL t l (G.getD k (0, 0, 0)) b
theorem prs_m {t : Tr} {l : List (Int × Int)} {G B : List E3} {k m : Nat} (h : m < B.length) : prs t l G B k (m + 1) = prs t l G B k m ++ [apL t l (G.getD k (0, 0, 0)) (B.getD m (0, 0, 0))] := by
  unfold prs
  rw [takeT_succ h, List.map_append, List.append_assoc]; rfl
theorem prs_k {t : Tr} {l : List (Int × Int)} {G B : List E3} {k : Nat} (h : k < G.length) : prs t l G B (k + 1) 0 = prs t l G B k B.length := by
  unfold prs
  rw [takeT_succ h, List.flatMap_append, List.take_length]; simp
theorem prs_len (t : Tr) (l : List (Int × Int)) (G B : List E3) {k m : Nat} (hk : k ≤ G.length) (hm : m ≤ B.length) : (prs t l G B k m).length = k * B.length + m := by
  have : ∀ (L : List E3), (L.flatMap fun a => B.map fun b => apL t l a b).length = L.length * B.length := fun L => by
    induction L with
    | nil => simp
    | cons a L ih => rw [List.flatMap_cons, List.length_append, ih, List.length_map, List.length_cons, Nat.add_mul]; omega
  unfold prs
  rw [List.length_append, this, List.length_map, List.length_take, List.length_take]
  rw [Nat.min_eq_left hk, Nat.min_eq_left hm]
theorem prod_bd : ∀ g : Fin 344, g.1 * (343 - g.1) ≤ 29412 := by decide +kernel
theorem prod_le {g b : Nat} (h : g + b ≤ 343) : g * b ≤ 29412 := Nat.le_trans (Nat.mul_le_mul_left _ (by omega : b ≤ 343 - g)) (prod_bd ⟨g, by omega⟩)
theorem two_len (p : E3 → Bool) (q : E3 → Bool) (hq : ∀ e, q e = !p e) : ∀ L : List E3, (L.filter p).length + (L.filter q).length = L.length := by
  intro L
  induction L with
  | nil => rfl
  | cons a L ih =>
    rw [List.filter_cons, List.filter_cons, hq a]
    cases h : p a
    · simp; omega
    · simp; omega
theorem prs_ap {t : Tr} {l : List (Int × Int)} {G B : List E3} {k m : Nat} {ap : List Int} (h : ap ∈ prs t l G B k m) : ap.length ≤ l.length := by
  unfold prs at h
  rcases List.mem_append.1 h with h | h
  · obtain ⟨a, _, h⟩ := List.mem_flatMap.1 h
    obtain ⟨b, _, rfl⟩ := List.mem_map.1 h
    exact apN_len t l a b l.length
  · obtain ⟨b, _, rfl⟩ := List.mem_map.1 h
    exact apN_len t l _ b l.length
def gdL (t : Tr) (tol : Int) : List E3 := (truthsL t []).filter (goodB t tol)
def bdL (t : Tr) (tol : Int) : List E3 := (truthsL t []).filter (badB t tol)
theorem gb_len {t : Tr} (hv : VT t) (tol : Int) : (gdL t tol).length + (bdL t tol).length ≤ 343 := by
  unfold gdL bdL
  rw [two_len (goodB t tol) (badB t tol) (fun _ => rfl)]
  exact Nat.le_trans (List.length_filter_le _ _) (every_len hv)
def pairsL (t : Tr) (tol : Int) (l : List (Int × Int)) : List (List Int) := prs t l (gdL t tol) (bdL t tol) (gdL t tol).length 0
def fewestE (t : Tr) (tol : Int) (l : List (Int × Int)) : List Int × Int :=
  if ¬ tolE t tol = 0 then ([], tolE t tol) else if 4 < l.length then ([], 3) else if l.all (offB t) = false then ([], 2) else if ¬ askedE t = 0 then ([], askedE t)
  else match searchT (fewP (pairsL t tol l)) l.length with
    | none => ([], 9)
    | some r => (r, 0)
theorem getD_memE {L : List E3} {k : Nat} (h : k < L.length) : L.getD k (0, 0, 0) ∈ L := by rw [List.getD_eq_getElem?_getD, List.getElem?_eq_getElem h]; exact List.getElem_mem h
theorem CnV.toX {P : Program} {f : FuncId} {args : Array Value} {w : World} {v : Value} {S : List Nat} {α : Type} {val : α → Value} {p : α → World → Prop} (h : CnV P f args w v) (x : α) (hv : val x = v) (hp : ∀ w', Fr [] w w' → p x w') : CnX P f args w S val p :=
  CnX.of ((CnV.out h).mono fun e w' he => ⟨x, by rw [he.1, hv], he.2.mono (fun y hy => by simp at hy), hp w' he.2⟩)
theorem few_pass (t : Tr) (ps : List (List Int)) (n : Nat) (hps : (ps.length : Int) ≤ 9000000000000000000) (hpa : ∀ ap ∈ ps, (ap.length : Int) ≤ 9000000000000000000) (b13 bm : Nat) (hne : b13 ≠ bm) (u : Value) (es : Array MapEntry) (ck : Nat) (w : World) (hb : w.heap[b13]? = some (.cells #[u] 54 (0, 0))) (hm : w.heap[bm]? = some (.map es ck)) (hu : RdLL w u ps) :
    Pass Tryz.prog 89 #[ptr b13] (fewP ps) n [bm] bm (fun o => o = .map es ck) w := by
  intro w1 o xs v f1 h1 hJ hx hsep hone hlen _
  have hc := few3_c xs (by omega) ps hps hpa v u hone b13 w1 (f1.keepS (by simpa using hne) hb) hx (hu.frM f1 ⟨_, _, hm⟩)
  exact CnV.toX (by simpa using hc) o rfl (fun w' f => ⟨hJ, f.keep h1⟩)
theorem ba_out {a b c d e : Nat} (h : ([a, b, c, d, e] : List Nat).Nodup) : b ∉ [a, c, d, e] := by
  simp only [List.nodup_cons, List.mem_cons, List.not_mem_nil, not_or, or_false] at h ⊢
  exact ⟨Ne.symm h.1.1, h.2.1.1, h.2.1.2.1, h.2.1.2.2⟩
set_option maxHeartbeats 4000000 in
theorem fewest_c (t : Tr) (hn : NT t) (tol : Int) (htol : tol ≤ 1000) (l : List (Int × Int)) (hl : (l.length : Int) ≤ 9000000000000000000) (sl pl ll tl lv : Value) (w : World) (hr : RdTr w t sl pl ll tl) (hL : RdR w lv l) :
    CnX Tryz.prog 31 #[trV t sl pl ll tl, vi tol, lv] w [] (fun y : Value => .tuple #[y, vi (fewestE t tol l).2]) (fun y w' => RdI w' y (fewestE t tol l).1) := by
  have hr0 := hr
  have hL0 := hL
  have hT : tolE t tol = 0 → VT t ∧ 0 ≤ tol := fun h => by
    unfold tolE at h
    split at h
    · omega
    · split at h
      · omega
      · exact ⟨chkT_0.1 (by omega), by omega⟩
  obtain ⟨adl, cpl, bl, ol, rfl, hadl, hcl⟩ := hL.open
  refine cnx0 (vs := [_, _, _]) Tryz.func31 rfl rfl ?_
  all_goals refine tc_seq fun K1 hK1 => ?_; refine tc_region ?_; refine tl_e (e_box rfl rfl rfl) rfl (fun b3 _ => ?_); refine tl_q (y_assign rfl) rfl ?_; refine tl_q (y_assign rfl) rfl ?_; refine tl_nil ?_; ((refine hK1 ?_; try (clear hK1; clear K1)))
  all_goals refine tc_seq fun K2 hK2 => ?_; refine tc_seq fun K3 hK3 => ?_; refine tc_lay ([]) (SB.s (by repeat constructor)) (fun wl1 hl1 => ?_); refine tc_region ?_; refine tl_q (y_loadWf rfl (hl1.at (by repeat constructor)) (MI.m (by repeat constructor)) (by simp) (by rfl)) rfl ?_; refine tl_q (y_move rfl) rfl ?_; refine tl_e (e_callV rfl (.cons rfl (.cons rfl .nil)) (fun w' hw' => tolerant_c t hn tol sl pl ll tl w' (hr0.fr (hw'.fr (w0 := w) (S := []) (MI.m (by repeat constructor)))))) rfl (fun _ _ => ?_); refine tl_q (y_assign rfl) rfl ?_; refine tl_nil ?_; ((refine hK3 ?_; try (clear hK3; clear K3)))
  all_goals refine tc_seq fun K4 hK4 => ?_; refine tc_region ?_; refine tl_q (y_move rfl) rfl ?_; refine tl_q (y_neq rfl rfl) rfl ?_; refine tl_nil ?_; ((refine hK4 ?_; try (clear hK4; clear K4)))
  all_goals (
   refine tc_cond rfl (fun hc => ?_) (fun hc => ?_)
   · try simp only [decide_eq_true_eq, decide_eq_false_iff_not, Int.not_lt, Int.not_le, Bool.not_eq_true', Bool.not_eq_false', Decidable.not_not, not_true_eq_false] at hc
     all_goals refine tc_seq fun K5 hK5 => ?_; refine tc_region ?_; refine tl_q (y_move rfl) rfl ?_; refine tl_q (y_assign rfl) rfl ?_; refine tl_q (y_assign rfl) rfl ?_; refine tl_nil ?_; ((refine hK5 ?_; try (clear hK5; clear K5)))
     all_goals refine tc_ret ?_; (repeat (refine tk_then_ret ?_))
     all_goals (refine tk_ret rfl rfl (.cons (.tmp rfl) (.cons (.tmp rfl) .nil)) ?_)
     all_goals (
      first
      | (have hE : fewestE t tol l = ([], tolE t tol) := if_pos (by assumption)
         rw [hE]; exact fun w' hw' => ⟨_, rfl, hw'.fr (w0 := w) (S := []) (MI.m (by repeat constructor)), RdI.nil _⟩)
      | (have hE : fewestE t tol l = ([], 3) := by unfold fewestE; rw [if_neg (by omega), if_pos (by omega)]
         rw [hE]; exact fun w' hw' => ⟨_, rfl, hw'.fr (w0 := w) (S := []) (MI.m (by repeat constructor)), RdI.nil _⟩)
      | (have hE : fewestE t tol l = ([], 2) := by unfold fewestE; rw [if_neg (by omega), if_neg (by omega), if_pos (by assumption)]
         rw [hE]; exact fun w' hw' => ⟨_, rfl, hw'.fr (w0 := w) (S := []) (MI.m (by repeat constructor)), RdI.nil _⟩)
      | (have hE : fewestE t tol l = ([], askedE t) := by unfold fewestE; rw [if_neg (by omega), if_neg (by omega), if_neg (by rw [hall]; exact Bool.noConfusion), if_pos hA]
         rw [hE]; exact fun w' hw' => ⟨_, rfl, hw'.fr (w0 := w) (S := []) (MI.m (by repeat constructor)), RdI.nil _⟩)
      | (have hE : fewestE t tol l = ([], 9) := by unfold fewestE; rw [if_neg (by omega), if_neg (by omega), if_neg (by rw [hall]; exact Bool.noConfusion), if_neg (by omega), hsr]
         rw [hE]; exact fun w' hw' => ⟨_, rfl, hw'.fr (w0 := w) (S := []) (MI.m (by repeat constructor)), RdI.nil _⟩)
      | (have hE : fewestE t tol l = (rs, 0) := by unfold fewestE; rw [if_neg (by omega), if_neg (by omega), if_neg (by rw [hall]; exact Bool.noConfusion), if_neg (by omega), hsr]
         rw [hE]; exact fun w' hw' => ⟨v.1.1, rfl, hw'.fr (w0 := w) (S := []) (MI.m (by repeat constructor)), hv3.2.2.fr (hw'.fr (w0 := v.2.2) (S := []) (MI.m (by repeat constructor)))⟩))
   · try simp only [decide_eq_true_eq, decide_eq_false_iff_not, Int.not_lt, Int.not_le, Bool.not_eq_true', Bool.not_eq_false', Decidable.not_not, not_true_eq_false] at hc
     all_goals refine tc_skip ?_; ((refine hK2 ?_; try (clear hK2; clear K2)))
     all_goals refine tc_seq fun K6 hK6 => ?_; (obtain ⟨hv, ht0⟩ := hT (by omega))
     all_goals refine tc_region ?_; refine tl_q (y_loadWf rfl (hl1.at (by repeat constructor)) (MI.m (by repeat constructor)) (by simp) (by rfl)) rfl ?_; refine tl_q (y_fn (.cons rfl .nil) .nil) rfl ?_; refine tl_q (y_assign rfl) rfl ?_; refine tl_nil ?_; ((refine hK6 ?_; try (clear hK6; clear K6)))
     all_goals refine tc_seq fun K7 hK7 => ?_; refine tc_block ?_; refine tc_seq fun K8 hK8 => ?_; refine tc_region ?_; refine tl_q (y_move rfl) rfl ?_; refine tl_q (y_len rfl) rfl ?_; refine tl_q (y_gtr rfl rfl) rfl ?_; refine tl_q (y_assign rfl) rfl ?_; refine tl_nil ?_; ((refine hK8 ?_; try (clear hK8; clear K8)))
     all_goals (
      refine tc_cond rfl (fun hc => ?_) (fun hc => ?_)
      · try simp only [decide_eq_true_eq, decide_eq_false_iff_not, Int.not_lt, Int.not_le, Bool.not_eq_true', Bool.not_eq_false', Decidable.not_not, not_true_eq_false] at hc
        all_goals refine tc_seq fun K9 hK9 => ?_; refine tc_region ?_; refine tl_q (y_assign rfl) rfl ?_; refine tl_q (y_assign rfl) rfl ?_; refine tl_nil ?_; ((refine hK9 ?_; try (clear hK9; clear K9)))
        all_goals refine tc_ret ?_; (repeat (first | refine tk_then_ret ?_ | refine tk_block_ret ?_))
        all_goals (refine tk_ret rfl rfl (.cons (.tmp rfl) (.cons (.tmp rfl) .nil)) ?_)
        all_goals (
         first
         | (have hE : fewestE t tol l = ([], tolE t tol) := if_pos (by assumption)
            rw [hE]; exact fun w' hw' => ⟨_, rfl, hw'.fr (w0 := w) (S := []) (MI.m (by repeat constructor)), RdI.nil _⟩)
         | (have hE : fewestE t tol l = ([], 3) := by unfold fewestE; rw [if_neg (by omega), if_pos (by omega)]
            rw [hE]; exact fun w' hw' => ⟨_, rfl, hw'.fr (w0 := w) (S := []) (MI.m (by repeat constructor)), RdI.nil _⟩)
         | (have hE : fewestE t tol l = ([], 2) := by unfold fewestE; rw [if_neg (by omega), if_neg (by omega), if_pos (by assumption)]
            rw [hE]; exact fun w' hw' => ⟨_, rfl, hw'.fr (w0 := w) (S := []) (MI.m (by repeat constructor)), RdI.nil _⟩)
         | (have hE : fewestE t tol l = ([], askedE t) := by unfold fewestE; rw [if_neg (by omega), if_neg (by omega), if_neg (by rw [hall]; exact Bool.noConfusion), if_pos hA]
            rw [hE]; exact fun w' hw' => ⟨_, rfl, hw'.fr (w0 := w) (S := []) (MI.m (by repeat constructor)), RdI.nil _⟩)
         | (have hE : fewestE t tol l = ([], 9) := by unfold fewestE; rw [if_neg (by omega), if_neg (by omega), if_neg (by rw [hall]; exact Bool.noConfusion), if_neg (by omega), hsr]
            rw [hE]; exact fun w' hw' => ⟨_, rfl, hw'.fr (w0 := w) (S := []) (MI.m (by repeat constructor)), RdI.nil _⟩)
         | (have hE : fewestE t tol l = (rs, 0) := by unfold fewestE; rw [if_neg (by omega), if_neg (by omega), if_neg (by rw [hall]; exact Bool.noConfusion), if_neg (by omega), hsr]
            rw [hE]; exact fun w' hw' => ⟨v.1.1, rfl, hw'.fr (w0 := w) (S := []) (MI.m (by repeat constructor)), hv3.2.2.fr (hw'.fr (w0 := v.2.2) (S := []) (MI.m (by repeat constructor)))⟩))
      · try simp only [decide_eq_true_eq, decide_eq_false_iff_not, Int.not_lt, Int.not_le, Bool.not_eq_true', Bool.not_eq_false', Decidable.not_not, not_true_eq_false] at hc
        all_goals refine tc_seq fun K10 hK10 => ?_; refine tc_region ?_; refine tl_q (y_move rfl) rfl ?_; refine tl_q (y_move rfl) rfl ?_; refine tl_e (e_callV rfl (.cons rfl (.cons rfl .nil)) (fun w' hw' => allO_c 84 #[trV t sl pl ll tl] #[] (offB t) l hl _ w' (hL0.fr (hw'.fr (w0 := w) (S := []) (MI.m (by repeat constructor)))) (fun x w2 f => offer_c t x sl pl ll tl w2 ((hr0.ws.fr (hw'.fr (w0 := w) (S := []) (MI.m (by repeat constructor)))).fr f)))) rfl (fun _ _ => ?_); refine tl_q (y_not rfl) rfl ?_; refine tl_q (y_assign rfl) rfl ?_; refine tl_nil ?_; ((refine hK10 ?_; try (clear hK10; clear K10)))
        all_goals (
         refine tc_cond rfl (fun hc => ?_) (fun hc => ?_)
         · try simp only [decide_eq_true_eq, decide_eq_false_iff_not, Int.not_lt, Int.not_le, Bool.not_eq_true', Bool.not_eq_false', Decidable.not_not, not_true_eq_false] at hc
           all_goals refine tc_seq fun K11 hK11 => ?_; refine tc_region ?_; refine tl_q (y_assign rfl) rfl ?_; refine tl_q (y_assign rfl) rfl ?_; refine tl_nil ?_; ((refine hK11 ?_; try (clear hK11; clear K11)))
           all_goals refine tc_ret ?_; (repeat (first | refine tk_then_ret ?_ | refine tk_block_ret ?_))
           all_goals (refine tk_ret rfl rfl (.cons (.tmp rfl) (.cons (.tmp rfl) .nil)) ?_)
           all_goals (
            first
            | (have hE : fewestE t tol l = ([], tolE t tol) := if_pos (by assumption)
               rw [hE]; exact fun w' hw' => ⟨_, rfl, hw'.fr (w0 := w) (S := []) (MI.m (by repeat constructor)), RdI.nil _⟩)
            | (have hE : fewestE t tol l = ([], 3) := by unfold fewestE; rw [if_neg (by omega), if_pos (by omega)]
               rw [hE]; exact fun w' hw' => ⟨_, rfl, hw'.fr (w0 := w) (S := []) (MI.m (by repeat constructor)), RdI.nil _⟩)
            | (have hE : fewestE t tol l = ([], 2) := by unfold fewestE; rw [if_neg (by omega), if_neg (by omega), if_pos (by assumption)]
               rw [hE]; exact fun w' hw' => ⟨_, rfl, hw'.fr (w0 := w) (S := []) (MI.m (by repeat constructor)), RdI.nil _⟩)
            | (have hE : fewestE t tol l = ([], askedE t) := by unfold fewestE; rw [if_neg (by omega), if_neg (by omega), if_neg (by rw [hall]; exact Bool.noConfusion), if_pos hA]
               rw [hE]; exact fun w' hw' => ⟨_, rfl, hw'.fr (w0 := w) (S := []) (MI.m (by repeat constructor)), RdI.nil _⟩)
            | (have hE : fewestE t tol l = ([], 9) := by unfold fewestE; rw [if_neg (by omega), if_neg (by omega), if_neg (by rw [hall]; exact Bool.noConfusion), if_neg (by omega), hsr]
               rw [hE]; exact fun w' hw' => ⟨_, rfl, hw'.fr (w0 := w) (S := []) (MI.m (by repeat constructor)), RdI.nil _⟩)
            | (have hE : fewestE t tol l = (rs, 0) := by unfold fewestE; rw [if_neg (by omega), if_neg (by omega), if_neg (by rw [hall]; exact Bool.noConfusion), if_neg (by omega), hsr]
               rw [hE]; exact fun w' hw' => ⟨v.1.1, rfl, hw'.fr (w0 := w) (S := []) (MI.m (by repeat constructor)), hv3.2.2.fr (hw'.fr (w0 := v.2.2) (S := []) (MI.m (by repeat constructor)))⟩))
         · try simp only [decide_eq_true_eq, decide_eq_false_iff_not, Int.not_lt, Int.not_le, Bool.not_eq_true', Bool.not_eq_false', Decidable.not_not, not_true_eq_false] at hc
           all_goals refine tc_skip ?_; ((refine hK7 ?_; try (clear hK7; clear K7)))
           all_goals refine tc_seq fun K12 hK12 => ?_; (have hall : l.all (offB t) = true := by assumption)
           all_goals (have hgbl := gb_len hv tol)
           all_goals rcases Decidable.em (askedE t = 0) with hA | hA
           all_goals refine tc_region ?_; refine tl_q (y_loadWf rfl (hl1.at (by repeat constructor)) (MI.m (by repeat constructor)) (by simp) (by rfl)) rfl ?_; (first | refine tl_e (e_callBX (bk := fun y : (Nat × Nat) × (Option Addr × Nat) × Array MapEntry × Nat => y.1.2) (ob := fun y => .map y.2.2.1 y.2.2.2) rfl (.cons rfl .nil) (fun w' hw' => asked_ok t hn hA sl pl ll tl w' (hr0.fr (hw'.fr (w0 := w) (S := []) (MI.m (by repeat constructor)))))) rfl (fun y hy => ?_) | refine tl_e (e_callV rfl (.cons rfl .nil) (fun w' hw' => asked_no t hn hA sl pl ll tl w' (hr0.fr (hw'.fr (w0 := w) (S := []) (MI.m (by repeat constructor)))))) rfl (fun y hy => ?_)); refine tl_q (y_move rfl) rfl ?_; refine tl_q (y_extract rfl rfl) rfl ?_; refine tl_q (y_extract rfl rfl) rfl ?_; refine tl_q (y_extract rfl rfl) rfl ?_; refine tl_q (y_assign rfl) rfl ?_; refine tl_q (y_assign rfl) rfl ?_; refine tl_q (y_assign rfl) rfl ?_; refine tl_nil ?_; ((refine hK12 ?_; try (clear hK12; clear K12)))
           all_goals refine tc_seq fun K13 hK13 => ?_; refine tc_seq fun K14 hK14 => ?_; refine tc_region ?_; refine tl_q (y_move rfl) rfl ?_; refine tl_q (y_neq rfl rfl) rfl ?_; refine tl_nil ?_; ((refine hK14 ?_; try (clear hK14; clear K14)))
           all_goals (
            refine tc_cond rfl (fun hc => ?_) (fun hc => ?_)
            · try simp only [decide_eq_true_eq, decide_eq_false_iff_not, Int.not_lt, Int.not_le, Bool.not_eq_true', Bool.not_eq_false', Decidable.not_not, not_true_eq_false] at hc
              all_goals refine tc_seq fun K15 hK15 => ?_; refine tc_region ?_; refine tl_q (y_move rfl) rfl ?_; refine tl_q (y_assign rfl) rfl ?_; refine tl_q (y_assign rfl) rfl ?_; refine tl_nil ?_; ((refine hK15 ?_; try (clear hK15; clear K15)))
              all_goals refine tc_ret ?_; (repeat (refine tk_then_ret ?_))
              all_goals (refine tk_ret rfl rfl (.cons (.tmp rfl) (.cons (.tmp rfl) .nil)) ?_)
              all_goals (
               first
               | (have hE : fewestE t tol l = ([], tolE t tol) := if_pos (by assumption)
                  rw [hE]; exact fun w' hw' => ⟨_, rfl, hw'.fr (w0 := w) (S := []) (MI.m (by repeat constructor)), RdI.nil _⟩)
               | (have hE : fewestE t tol l = ([], 3) := by unfold fewestE; rw [if_neg (by omega), if_pos (by omega)]
                  rw [hE]; exact fun w' hw' => ⟨_, rfl, hw'.fr (w0 := w) (S := []) (MI.m (by repeat constructor)), RdI.nil _⟩)
               | (have hE : fewestE t tol l = ([], 2) := by unfold fewestE; rw [if_neg (by omega), if_neg (by omega), if_pos (by assumption)]
                  rw [hE]; exact fun w' hw' => ⟨_, rfl, hw'.fr (w0 := w) (S := []) (MI.m (by repeat constructor)), RdI.nil _⟩)
               | (have hE : fewestE t tol l = ([], askedE t) := by unfold fewestE; rw [if_neg (by omega), if_neg (by omega), if_neg (by rw [hall]; exact Bool.noConfusion), if_pos hA]
                  rw [hE]; exact fun w' hw' => ⟨_, rfl, hw'.fr (w0 := w) (S := []) (MI.m (by repeat constructor)), RdI.nil _⟩)
               | (have hE : fewestE t tol l = ([], 9) := by unfold fewestE; rw [if_neg (by omega), if_neg (by omega), if_neg (by rw [hall]; exact Bool.noConfusion), if_neg (by omega), hsr]
                  rw [hE]; exact fun w' hw' => ⟨_, rfl, hw'.fr (w0 := w) (S := []) (MI.m (by repeat constructor)), RdI.nil _⟩)
               | (have hE : fewestE t tol l = (rs, 0) := by unfold fewestE; rw [if_neg (by omega), if_neg (by omega), if_neg (by rw [hall]; exact Bool.noConfusion), if_neg (by omega), hsr]
                  rw [hE]; exact fun w' hw' => ⟨v.1.1, rfl, hw'.fr (w0 := w) (S := []) (MI.m (by repeat constructor)), hv3.2.2.fr (hw'.fr (w0 := v.2.2) (S := []) (MI.m (by repeat constructor)))⟩))
            · try simp only [decide_eq_true_eq, decide_eq_false_iff_not, Int.not_lt, Int.not_le, Bool.not_eq_true', Bool.not_eq_false', Decidable.not_not, not_true_eq_false] at hc
              all_goals ((first | (exfalso; omega) | skip))
              all_goals refine tc_skip ?_; ((refine hK13 ?_; try (clear hK13; clear K13)))
              all_goals refine tc_seq fun K16 hK16 => ?_; (have hTW : TW y.2 t sl pl ll tl y.1.1.1 y.1.1.2 y.1.2.2.1 y.1.2.2.2 := ⟨hr0.fr (hy.2.fr (w0 := w) (S := []) (MI.m (by repeat constructor))), hy.1.2.2.1, hy.2.heap _ (HM.mem (by repeat constructor)), hy.1.2.1, hr0.ws.one, hr0.ps.one, hr0.ls.one, hr0.ts.one⟩)
              all_goals ((have hrdT : ∀ w', Fr [y.1.1.2] y.2 w' → RdT w' (slV (truthsL t []).length y.1.2.1) (truthsL t []) := fun w' f => Reads.frM hy.1.1 f (fun z hz => by obtain rfl := List.mem_singleton.1 hz; exact ⟨_, _, hy.2.heap _ (HM.mem .head)⟩)))
              all_goals (have htl : (truthsL t []).length ≤ 343 := Nat.le_trans (List.length_filter_le _ _) (every_len hv))
              all_goals refine tc_region ?_; refine tl_e (e_alloc1 rfl) rfl (fun b13 _ => ?_); refine tl_nil ?_; ((refine hK16 ?_; try (clear hK16; clear K16)))
              all_goals refine tc_seq fun K17 hK17 => ?_; refine tc_region ?_; refine tl_q (y_loadWf rfl (hl1.at (by repeat constructor)) (MI.m (by repeat constructor)) (by simp) (by rfl)) rfl ?_; refine tl_q (y_move rfl) rfl ?_; refine tl_q (y_move rfl) rfl ?_; (refine tl_e (e_callX rfl (.cons rfl (.cons rfl (.cons rfl .nil))) (fun w' hw' => ((split_c t hv (truthsL t []) htl (fun e he => truths_bd hv he) tol ⟨ht0, htol⟩ sl pl ll tl _ w' (hr0.fr (hw'.fr (w0 := w) (S := []) (MI.m (by repeat constructor)))) (hrdT w' (hw'.fr (w0 := y.2) (S := [y.1.1.2]) (MI.m (by repeat constructor))))).weak (p' := fun (z : (Option Addr × Nat) × (Option Addr × Nat)) (w2 : World) => (RdT w2 (slV (gdL t tol).length z.1) (gdL t tol) ∧ RdT w2 (slV (bdL t tol).length z.2) (bdL t tol)) ∧ sepS (slV (gdL t tol).length z.1) [b13, y.1.1.2] ∧ sepS (slV (bdL t tol).length z.2) [b13, y.1.1.2]) (fun z w2 _ h => ⟨h.1, (fun p m c e hb => by have h1 := h.2.1 p m c e; have h2 := hw'.lt (HM.mem (b := b13) (by repeat constructor)); have h3 := hw'.lt (HM.mem (b := y.1.1.2) (by repeat constructor)); simp only [List.mem_cons, List.not_mem_nil, or_false] at hb; omega), (fun p m c e hb => by have h1 := h.2.2 p m c e; have h2 := hw'.lt (HM.mem (b := b13) (by repeat constructor)); have h3 := hw'.lt (HM.mem (b := y.1.1.2) (by repeat constructor)); simp only [List.mem_cons, List.not_mem_nil, or_false] at hb; omega)⟩)))) rfl (fun z hz => ?_))
              all_goals refine tl_q (y_move rfl) rfl ?_; refine tl_q (y_extract rfl rfl) rfl ?_; refine tl_q (y_extract rfl rfl) rfl ?_; refine tl_q (y_assign rfl) rfl ?_; refine tl_q (y_assign rfl) rfl ?_; refine tl_nil ?_; ((refine hK17 ?_; try (clear hK17; clear K17)))
              all_goals refine tc_seq fun K18 hK18 => ?_; refine tc_seq fun K19 hK19 => ?_; refine tc_region ?_; refine tl_q (y_move rfl) rfl ?_; refine tl_q (y_len rfl) rfl ?_; refine tl_q (y_move rfl) rfl ?_; refine tl_nil ?_; ((refine hK19 ?_; try (clear hK19; clear K19)))
              all_goals refine tc_block ?_
              all_goals (
               refine tc_loop (fun p : Nat × Option (Nat × Nat × List Value) × List Value × (World × List Nat) × (Array MapEntry × Nat) => p.1 ≤ (gdL t tol).length ∧ outOk ((prs t l (gdL t tol) (bdL t tol) p.1 0).length, p.2.1) ∧ InV p.2.2.2.1.1 p.2.2.2.1.2 p.2.2.1 (prs t l (gdL t tol) (bdL t tol) p.1 0) ∧ Cache (readV t.s) p.2.2.2.2.1.toList) (fun p => [(2, .slice adl l.length cpl), (10, ptr y.1.1.1), (13, ptr b13), (15, slV (bdL t tol).length z.1.2), (58, slV (gdL t tol).length z.1.1), (59, vi (gdL t tol).length), (60, vi p.1)]) (fun p => [(p.2.2.2.1.1, p.2.2.2.1.2), (z.2, [b13, y.1.1.2]), (y.2, [y.1.1.2]), (w, [])]) (fun p => (b13, .cells #[outV' ((prs t l (gdL t tol) (bdL t tol) p.1 0).length, p.2.1)] 54 (0, 0)) :: (y.1.1.2, .map p.2.2.2.2.1 p.2.2.2.2.2) :: slH 22 p.2.2.1 p.2.1) (fun p => (gdL t tol).length - p.1) ?_ ?_
               · exact tk_start (0, none, [], (z.2, [b13, y.1.1.2]), (y.1.2.2.1, y.1.2.2.2)) ⟨Nat.zero_le _, rfl, InV.nil, hy.1.2.1⟩ (.cons rfl (.cons rfl (.cons rfl (.cons rfl (.cons rfl (.cons rfl (.cons rfl .nil))))))) (fun _ h => h.sub (fun β hβ => by simp only [List.mem_cons, List.not_mem_nil, or_false] at hβ; rcases hβ with rfl | rfl | rfl | rfl <;> simp) (SB.s (by repeat constructor)))
               · rintro ⟨k, oo, vs, ⟨wl, S⟩, ⟨es2, ck2⟩⟩ ⟨hk, hok, hin, hca⟩
                 dsimp only at hk hok hin hca ⊢
                 all_goals refine tc_seq fun K20 hK20 => ?_; refine tc_region ?_; refine tl_q (y_lss rfl rfl) rfl ?_; refine tl_nil ?_; ((refine hK20 ?_; try (clear hK20; clear K20)))
                 all_goals refine tc_seq fun K21 hK21 => ?_
                 all_goals (
                  refine tc_cond rfl (fun hc => ?_) (fun hc => ?_)
                  · try simp only [decide_eq_true_eq, decide_eq_false_iff_not, Int.not_lt, Int.not_le, Bool.not_eq_true', Bool.not_eq_false', Decidable.not_not, not_true_eq_false] at hc
                    all_goals refine tc_skip ?_; ((refine hK21 ?_; try (clear hK21; clear K21)))
                    all_goals refine tc_seq fun K22 hK22 => ?_; refine tc_block ?_; refine tc_seq fun K23 hK23 => ?_; (have hGr : ∀ w', Fr [b13, y.1.1.2] z.2 w' → RdT w' (slV (gdL t tol).length z.1.1) (gdL t tol) := fun w' f => Reads.frS hz.1.1.1 f hz.1.2.1)
                    all_goals (obtain ⟨bG, oG, hadG⟩ := hz.1.1.1.opens1)
                    all_goals (have hadG' := hadG (by omega))
                    all_goals (have hae : ErB ((gdL t tol).getD k (0, 0, 0)) := truths_bd hv (List.mem_filter.1 (getD_memE (L := (gdL t tol)) (k := k) (by omega))).1)
                    all_goals refine tc_region ?_; refine tl_q (y_index rfl rfl (by omega) hadG') rfl ?_; ((refine tl_q (y_loadNo (n := 3) (vs := [vi ((gdL t tol).getD k (0, 0, 0)).1, vi ((gdL t tol).getD k (0, 0, 0)).2.1, vi ((gdL t tol).getD k (0, 0, 0)).2.2]) rfl (fun w' hw' => by rw [show Int.toNat (k : Int) * 3 = k * 3 from by omega]; exact (hGr w' (hw'.fr (w0 := z.2) (S := [b13, y.1.1.2]) (MI.m (by repeat constructor)))).at1 hadG' (by omega))) rfl ?_))
                    all_goals refine tl_e (e_allocN rfl) rfl (fun b17 _ => ?_); refine tl_e (e_storeW rfl rfl (by repeat constructor) (by rfl) (by rfl) (by simp [Value.oneCell'])) rfl (fun _ _ => ?_); refine tl_nil ?_; ((refine hK23 ?_; try (clear hK23; clear K23)))
                    all_goals refine tc_seq fun K24 hK24 => ?_; refine tc_region ?_; refine tl_q (y_move rfl) rfl ?_; refine tl_q (y_len rfl) rfl ?_; refine tl_q (y_move rfl) rfl ?_; refine tl_nil ?_; ((refine hK24 ?_; try (clear hK24; clear K24)))
                    all_goals refine tc_block ?_
                    all_goals (
                     refine tc_loop (fun p : Nat × Option (Nat × Nat × List Value) × List Value × (World × List Nat) × (Array MapEntry × Nat) => p.1 ≤ (bdL t tol).length ∧ outOk ((prs t l (gdL t tol) (bdL t tol) k p.1).length, p.2.1) ∧ InV p.2.2.2.1.1 p.2.2.2.1.2 p.2.2.1 (prs t l (gdL t tol) (bdL t tol) k p.1) ∧ Cache (readV t.s) p.2.2.2.2.1.toList) (fun p => [(2, .slice adl l.length cpl), (10, ptr y.1.1.1), (13, ptr b13), (15, slV (bdL t tol).length z.1.2), (58, slV (gdL t tol).length z.1.1), (59, vi (gdL t tol).length), (60, vi k), (17, ptr b17), (64, slV (bdL t tol).length z.1.2), (65, vi (bdL t tol).length), (66, vi p.1)]) (fun p => [(p.2.2.2.1.1, p.2.2.2.1.2), (z.2, [b13, y.1.1.2]), (y.2, [y.1.1.2]), (w, [])]) (fun p => (b17, Obj.cells #[vi ((gdL t tol).getD k (0, 0, 0)).1, vi ((gdL t tol).getD k (0, 0, 0)).2.1, vi ((gdL t tol).getD k (0, 0, 0)).2.2] 126 (0, 0)) :: (b13, .cells #[outV' ((prs t l (gdL t tol) (bdL t tol) k p.1).length, p.2.1)] 54 (0, 0)) :: (y.1.1.2, .map p.2.2.2.2.1 p.2.2.2.2.2) :: slH 22 p.2.2.1 p.2.1) (fun p => (bdL t tol).length - p.1) ?_ ?_
                     · exact tk_start (0, oo, vs, (wl, S), (es2, ck2)) ⟨Nat.zero_le _, hok, hin, hca⟩ (.cons rfl (.cons rfl (.cons rfl (.cons rfl (.cons rfl (.cons rfl (.cons rfl (.cons rfl (.cons rfl (.cons rfl (.cons rfl .nil))))))))))) (fun _ h => h.subl (SB.s (by repeat constructor)) (SB.s (by repeat constructor)))
                     · rintro ⟨m, oo1, vs1, ⟨wl1, S1⟩, ⟨es3, ck3⟩⟩ ⟨hm, hok1, hin1, hca1⟩
                       dsimp only at hm hok1 hin1 hca1 ⊢
                       all_goals refine tc_seq fun K25 hK25 => ?_; refine tc_region ?_; refine tl_q (y_lss rfl rfl) rfl ?_; refine tl_nil ?_; ((refine hK25 ?_; try (clear hK25; clear K25)))
                       all_goals refine tc_seq fun K26 hK26 => ?_
                       all_goals (
                        refine tc_cond rfl (fun hc => ?_) (fun hc => ?_)
                        · try simp only [decide_eq_true_eq, decide_eq_false_iff_not, Int.not_lt, Int.not_le, Bool.not_eq_true', Bool.not_eq_false', Decidable.not_not, not_true_eq_false] at hc
                          all_goals refine tc_skip ?_; ((refine hK26 ?_; try (clear hK26; clear K26)))
                          all_goals refine tc_seq fun K27 hK27 => ?_; refine tc_block ?_; refine tc_seq fun K28 hK28 => ?_; (have hBr : ∀ w', Fr [b13, y.1.1.2] z.2 w' → RdT w' (slV (bdL t tol).length z.1.2) (bdL t tol) := fun w' f => Reads.frS hz.1.1.2 f hz.1.2.2)
                          all_goals (obtain ⟨bB, oB, hadB⟩ := hz.1.1.2.opens1)
                          all_goals (have hadB' := hadB (by omega))
                          all_goals (have hbe : ErB ((bdL t tol).getD m (0, 0, 0)) := truths_bd hv (List.mem_filter.1 (getD_memE (L := (bdL t tol)) (k := m) (by omega))).1)
                          all_goals refine tc_region ?_; refine tl_q (y_index rfl rfl (by omega) hadB') rfl ?_; ((refine tl_q (y_loadNo (n := 3) (vs := [vi ((bdL t tol).getD m (0, 0, 0)).1, vi ((bdL t tol).getD m (0, 0, 0)).2.1, vi ((bdL t tol).getD m (0, 0, 0)).2.2]) rfl (fun w' hw' => by rw [show Int.toNat (m : Int) * 3 = m * 3 from by omega]; exact (hBr w' (hw'.fr (w0 := z.2) (S := [b13, y.1.1.2]) (MI.m (by repeat constructor)))).at1 hadB' (by omega))) rfl ?_))
                          all_goals refine tl_e (e_allocN rfl) rfl (fun b19 _ => ?_); refine tl_e (e_storeW rfl rfl (by repeat constructor) (by rfl) (by rfl) (by simp [Value.oneCell'])) rfl (fun _ _ => ?_); refine tl_nil ?_; ((refine hK28 ?_; try (clear hK28; clear K28)))
                          all_goals refine tc_seq fun K29 hK29 => ?_; refine tc_region ?_; refine tl_q (y_assign rfl) rfl ?_; refine tl_nil ?_; ((refine hK29 ?_; try (clear hK29; clear K29)))
                          all_goals refine tc_seq fun K30 hK30 => ?_; refine tc_seq fun K31 hK31 => ?_; refine tc_region ?_; refine tl_q (y_move rfl) rfl ?_; refine tl_q (y_len rfl) rfl ?_; refine tl_q (y_move rfl) rfl ?_; refine tl_nil ?_; ((refine hK31 ?_; try (clear hK31; clear K31)))
                          all_goals refine tc_block ?_
                          all_goals (
                           refine tc_loop (fun p : Nat × Option (Nat × Nat × List Value) × (Array MapEntry × Nat) => p.1 ≤ l.length ∧ outOk ((apN t l ((gdL t tol).getD k (0, 0, 0)) ((bdL t tol).getD m (0, 0, 0)) p.1).length, p.2.1) ∧ Cache (readV t.s) p.2.2.1.toList) (fun p => [(2, .slice adl l.length cpl), (10, ptr y.1.1.1), (13, ptr b13), (15, slV (bdL t tol).length z.1.2), (58, slV (gdL t tol).length z.1.1), (59, vi (gdL t tol).length), (60, vi k), (17, ptr b17), (64, slV (bdL t tol).length z.1.2), (65, vi (bdL t tol).length), (66, vi m), (19, ptr b19), (20, outV' ((apN t l ((gdL t tol).getD k (0, 0, 0)) ((bdL t tol).getD m (0, 0, 0)) p.1).length, p.2.1)), (70, .slice adl l.length cpl), (71, vi l.length), (72, vi p.1)]) (fun p => [(wl1, S1), (z.2, [b13, y.1.1.2]), (y.2, [y.1.1.2]), (w, [])]) (fun p => slH 3 ((apN t l ((gdL t tol).getD k (0, 0, 0)) ((bdL t tol).getD m (0, 0, 0)) p.1).map vi) p.2.1 ++ ((b19, Obj.cells #[vi ((bdL t tol).getD m (0, 0, 0)).1, vi ((bdL t tol).getD m (0, 0, 0)).2.1, vi ((bdL t tol).getD m (0, 0, 0)).2.2] 126 (0, 0)) :: (b17, Obj.cells #[vi ((gdL t tol).getD k (0, 0, 0)).1, vi ((gdL t tol).getD k (0, 0, 0)).2.1, vi ((gdL t tol).getD k (0, 0, 0)).2.2] 126 (0, 0)) :: (b13, .cells #[outV' ((prs t l (gdL t tol) (bdL t tol) k m).length, oo1)] 54 (0, 0)) :: (y.1.1.2, .map p.2.2.1 p.2.2.2) :: slH 22 vs1 oo1)) (fun p => l.length - p.1) ?_ ?_
                           · exact tk_start (0, none, (es3, ck3)) ⟨Nat.zero_le _, rfl, hca1⟩ (.cons rfl (.cons rfl (.cons rfl (.cons rfl (.cons rfl (.cons rfl (.cons rfl (.cons rfl (.cons rfl (.cons rfl (.cons rfl (.cons rfl (.cons rfl (.cons rfl (.cons rfl (.cons rfl .nil)))))))))))))))) (fun _ h => h.subl (SB.s (by repeat constructor)) (SB.s (by repeat constructor)))
                           · rintro ⟨i, oa, ⟨es4, ck4⟩⟩ ⟨hi, hoa, hca4⟩
                             have hal := apN_len t l ((gdL t tol).getD k (0, 0, 0)) ((bdL t tol).getD m (0, 0, 0)) i
                             rcases oa with _ | ⟨ba, capa, junka⟩
                             all_goals ((dsimp only [outOk] at hi hoa hca4; dsimp only [slH_none, slH_some, List.cons_append, List.nil_append]; dsimp only [outV']))
                             all_goals refine tc_seq fun K32 hK32 => ?_; refine tc_region ?_; refine tl_q (y_lss rfl rfl) rfl ?_; refine tl_nil ?_; ((refine hK32 ?_; try (clear hK32; clear K32)))
                             all_goals refine tc_seq fun K33 hK33 => ?_
                             all_goals (
                              refine tc_cond rfl (fun hc => ?_) (fun hc => ?_)
                              · try simp only [decide_eq_true_eq, decide_eq_false_iff_not, Int.not_lt, Int.not_le, Bool.not_eq_true', Bool.not_eq_false', Decidable.not_not, not_true_eq_false] at hc
                                all_goals refine tc_skip ?_; ((refine hK33 ?_; try (clear hK33; clear K33)))
                                all_goals refine tc_seq fun K34 hK34 => ?_; refine tc_block ?_; refine tc_seq fun K35 hK35 => ?_; have hadl' := hadl (by omega)
                                all_goals refine tc_region ?_; refine tl_q (y_move rfl) rfl ?_; refine tl_q (y_index rfl rfl (by omega) hadl') rfl ?_; ((refine tl_q (y_loadNo (n := 2) (vs := [vi (l.getD i (0, 0)).1, vi (l.getD i (0, 0)).2]) rfl (fun w' hw' => by rw [show Int.toNat (i : Int) * 2 = i * 2 from by omega]; exact hcl w' [] (hw'.fr (w0 := w) (S := []) (MI.m (by repeat constructor))) (by simp) i (by omega))) rfl ?_))
                                all_goals refine tl_e (e_allocN rfl) rfl (fun b22 _ => ?_); refine tl_q (y_assign rfl) rfl ?_; refine tl_e (e_storeW rfl rfl (by repeat constructor) (by rfl) (by rfl) (by simp [Value.oneCell'])) rfl (fun _ _ => ?_); refine tl_nil ?_; ((refine hK35 ?_; try (clear hK35; clear K35)))
                                all_goals refine tc_seq fun K36 hK36 => ?_; refine tc_region ?_; refine tl_q (y_move rfl) rfl ?_; refine tl_q (y_loadW rfl (by repeat constructor) (by rfl)) rfl ?_; refine tl_q (y_loadW rfl (by repeat constructor) (by rfl)) rfl ?_; refine tl_q (y_loadW rfl (by repeat constructor) (by rfl)) rfl ?_; refine tl_e (e_callU rfl (.cons rfl (.cons rfl (.cons rfl (.cons rfl .nil)))) (fun w' hw' => alike_c t hv ((gdL t tol).getD k (0, 0, 0)) ((bdL t tol).getD m (0, 0, 0)) hae hbe (l.getD i (0, 0)).1 (l.getD i (0, 0)).2 sl pl ll tl w' y.1.1.1 y.1.1.2 es4 ck4 (hTW.fr (hw'.fr (w0 := y.2) (S := [y.1.1.2]) (MI.m (by repeat constructor))) (hw'.heap _ (HM.mem (by repeat constructor))) hca4)) (fun _ => (by repeat constructor))) rfl (fun q hq => ?_); refine tl_q (y_not rfl) rfl ?_; refine tl_nil ?_; ((refine hK36 ?_; try (clear hK36; clear K36)))
                                all_goals (
                                 refine tc_cond rfl (fun hc => ?_) (fun hc => ?_)
                                 · try simp only [decide_eq_true_eq, decide_eq_false_iff_not, Int.not_lt, Int.not_le, Bool.not_eq_true', Bool.not_eq_false', Decidable.not_not, not_true_eq_false] at hc
                                   all_goals refine tc_region ?_; refine tl_q (y_move rfl) rfl ?_; refine tl_q (y_move rfl) rfl ?_; (refine tl_e (e_bslice rfl (by (repeat (first | exact .nil | apply PV.one rfl rfl)); done) rfl rfl) rfl (fun _ _ => ?_))
                                   all_goals ((first | refine tl_e (e_append_own (old := (apN t l ((gdL t tol).getD k (0, 0, 0)) ((bdL t tol).getD m (0, 0, 0)) i).map vi) (junk := junka) rfl rfl rfl (by repeat constructor) (by simp) (by omega) hoa.1 (fun w' hw' => RdI.own0 (xs := [(i : Int)]) hw' (by repeat constructor)) (fun u hu => by obtain ⟨_, _, rfl⟩ := List.mem_map.1 hu; rfl) (by simp only [List.length_cons, List.length_nil]; omega) rfl) rfl (fun u hu => ?_) | refine tl_e (e_append_nil rfl rfl rfl (fun w' hw' => RdI.own0 (xs := [(i : Int)]) hw' (by repeat constructor)) (fun u hu => by obtain ⟨_, _, rfl⟩ := List.mem_map.1 hu; rfl) Nat.zero_lt_one (Nat.le_of_ble_eq_true rfl) rfl) rfl (fun u hu => ?_)))
                                   all_goals refine tl_q (y_assign rfl) rfl ?_; refine tl_nil ?_; ((refine hK34 ?_; try (clear hK34; clear K34)))
                                   all_goals refine tc_region ?_; refine tl_q (y_add rfl rfl (by omega)) rfl ?_; refine tl_q (y_move rfl) rfl ?_; refine tl_nil ?_
                                   all_goals (
                                    first
                                    | (have hs2 : apN t l ((gdL t tol).getD k (0, 0, 0)) ((bdL t tol).getD m (0, 0, 0)) (i + 1) = apN t l ((gdL t tol).getD k (0, 0, 0)) ((bdL t tol).getD m (0, 0, 0)) i ++ [(i : Int)] := by rw [apN_succ, if_neg (by rw [hc]; exact Bool.false_ne_true)]
                                       refine tk_round (i + 1, some (u.1, u.2.1, u.2.2), (q.1, q.2)) ⟨by dsimp only; omega, ?_, hq⟩ (by dsimp only; omega) (.cons rfl (.cons rfl (.cons rfl (.cons rfl (.cons rfl (.cons rfl (.cons rfl (.cons rfl (.cons rfl (.cons rfl (.cons rfl (.cons rfl (.cons ?_ (.cons rfl (.cons rfl (.cons rfl .nil)))))))))))))))) (fun _ h => ?_)
                                       · dsimp only [outOk]; rw [hs2, List.length_append]; simp only [List.length_cons, List.length_nil] at hu ⊢; omega
                                       · dsimp only [outV']; rw [hs2, List.length_append]; first | rfl | (rw [hoa]; rfl)
                                       · dsimp only [slH_some, List.cons_append, List.nil_append]; rw [hs2, List.map_append]
                                         try rw [show apN t l ((gdL t tol).getD k (0, 0, 0)) ((bdL t tol).getD m (0, 0, 0)) i = [] from List.eq_nil_of_length_eq_zero hoa, List.map_nil, List.nil_append]
                                         exact h.subl (SB.s (by repeat constructor)) (SB.s (by repeat constructor)))
                                    | (have hs2 : apN t l ((gdL t tol).getD k (0, 0, 0)) ((bdL t tol).getD m (0, 0, 0)) (i + 1) = apN t l ((gdL t tol).getD k (0, 0, 0)) ((bdL t tol).getD m (0, 0, 0)) i := by rw [apN_succ, if_pos hc]
                                       first
                                       | (refine tk_round (i + 1, none, (q.1, q.2)) ⟨by dsimp only; omega, by dsimp only [outOk]; rw [hs2]; exact hoa, hq⟩ (by dsimp only; omega) (.cons rfl (.cons rfl (.cons rfl (.cons rfl (.cons rfl (.cons rfl (.cons rfl (.cons rfl (.cons rfl (.cons rfl (.cons rfl (.cons rfl (.cons rfl (.cons rfl (.cons rfl (.cons rfl .nil)))))))))))))))) (fun _ h => ?_)
                                          dsimp only [slH_none, List.cons_append, List.nil_append]; exact h.subl (SB.s (by repeat constructor)) (SB.s (by repeat constructor)))
                                       | (refine tk_round (i + 1, some (ba, capa, junka), (q.1, q.2)) ⟨by dsimp only; omega, by dsimp only [outOk]; rw [hs2]; exact hoa, hq⟩ (by dsimp only; omega) (.cons rfl (.cons rfl (.cons rfl (.cons rfl (.cons rfl (.cons rfl (.cons rfl (.cons rfl (.cons rfl (.cons rfl (.cons rfl (.cons rfl (.cons ?_ (.cons rfl (.cons rfl (.cons rfl .nil)))))))))))))))) (fun _ h => ?_)
                                          · dsimp only [outV']; rw [hs2]; rfl
                                          · dsimp only [slH_some, List.cons_append, List.nil_append]; rw [hs2]; exact h.subl (SB.s (by repeat constructor)) (SB.s (by repeat constructor)))))
                                 · try simp only [decide_eq_true_eq, decide_eq_false_iff_not, Int.not_lt, Int.not_le, Bool.not_eq_true', Bool.not_eq_false', Decidable.not_not, not_true_eq_false] at hc
                                   all_goals refine tc_skip ?_; ((refine hK34 ?_; try (clear hK34; clear K34)))
                                   all_goals refine tc_region ?_; refine tl_q (y_add rfl rfl (by omega)) rfl ?_; refine tl_q (y_move rfl) rfl ?_; refine tl_nil ?_
                                   all_goals (
                                    first
                                    | (have hs2 : apN t l ((gdL t tol).getD k (0, 0, 0)) ((bdL t tol).getD m (0, 0, 0)) (i + 1) = apN t l ((gdL t tol).getD k (0, 0, 0)) ((bdL t tol).getD m (0, 0, 0)) i ++ [(i : Int)] := by rw [apN_succ, if_neg (by rw [hc]; exact Bool.false_ne_true)]
                                       refine tk_round (i + 1, some (u.1, u.2.1, u.2.2), (q.1, q.2)) ⟨by dsimp only; omega, ?_, hq⟩ (by dsimp only; omega) (.cons rfl (.cons rfl (.cons rfl (.cons rfl (.cons rfl (.cons rfl (.cons rfl (.cons rfl (.cons rfl (.cons rfl (.cons rfl (.cons rfl (.cons ?_ (.cons rfl (.cons rfl (.cons rfl .nil)))))))))))))))) (fun _ h => ?_)
                                       · dsimp only [outOk]; rw [hs2, List.length_append]; simp only [List.length_cons, List.length_nil] at hu ⊢; omega
                                       · dsimp only [outV']; rw [hs2, List.length_append]; first | rfl | (rw [hoa]; rfl)
                                       · dsimp only [slH_some, List.cons_append, List.nil_append]; rw [hs2, List.map_append]
                                         try rw [show apN t l ((gdL t tol).getD k (0, 0, 0)) ((bdL t tol).getD m (0, 0, 0)) i = [] from List.eq_nil_of_length_eq_zero hoa, List.map_nil, List.nil_append]
                                         exact h.subl (SB.s (by repeat constructor)) (SB.s (by repeat constructor)))
                                    | (have hs2 : apN t l ((gdL t tol).getD k (0, 0, 0)) ((bdL t tol).getD m (0, 0, 0)) (i + 1) = apN t l ((gdL t tol).getD k (0, 0, 0)) ((bdL t tol).getD m (0, 0, 0)) i := by rw [apN_succ, if_pos hc]
                                       first
                                       | (refine tk_round (i + 1, none, (q.1, q.2)) ⟨by dsimp only; omega, by dsimp only [outOk]; rw [hs2]; exact hoa, hq⟩ (by dsimp only; omega) (.cons rfl (.cons rfl (.cons rfl (.cons rfl (.cons rfl (.cons rfl (.cons rfl (.cons rfl (.cons rfl (.cons rfl (.cons rfl (.cons rfl (.cons rfl (.cons rfl (.cons rfl (.cons rfl .nil)))))))))))))))) (fun _ h => ?_)
                                          dsimp only [slH_none, List.cons_append, List.nil_append]; exact h.subl (SB.s (by repeat constructor)) (SB.s (by repeat constructor)))
                                       | (refine tk_round (i + 1, some (ba, capa, junka), (q.1, q.2)) ⟨by dsimp only; omega, by dsimp only [outOk]; rw [hs2]; exact hoa, hq⟩ (by dsimp only; omega) (.cons rfl (.cons rfl (.cons rfl (.cons rfl (.cons rfl (.cons rfl (.cons rfl (.cons rfl (.cons rfl (.cons rfl (.cons rfl (.cons rfl (.cons ?_ (.cons rfl (.cons rfl (.cons rfl .nil)))))))))))))))) (fun _ h => ?_)
                                          · dsimp only [outV']; rw [hs2]; rfl
                                          · dsimp only [slH_some, List.cons_append, List.nil_append]; rw [hs2]; exact h.subl (SB.s (by repeat constructor)) (SB.s (by repeat constructor))))))
                              · try simp only [decide_eq_true_eq, decide_eq_false_iff_not, Int.not_lt, Int.not_le, Bool.not_eq_true', Bool.not_eq_false', Decidable.not_not, not_true_eq_false] at hc
                                all_goals refine tc_exit ?_; ((refine hK30 ?_; try (clear hK30; clear K30)))
                                all_goals (have hil : i = l.length := by omega)
                                all_goals subst hil
                                all_goals rcases oo1 with _ | ⟨bo, cap, junk1⟩
                                all_goals ((dsimp only [outOk] at hok1; dsimp only [slH_none, slH_some, outV']))
                                all_goals ((have hpl := prs_len t l (gdL t tol) (bdL t tol) (k := k) (m := m) (by omega) (by omega); have hgb := prod_le (gb_len hv tol); have hkb := Nat.mul_le_mul_right (bdL t tol).length (show k ≤ (gdL t tol).length by omega); have hgl := gb_len hv tol))
                                all_goals (have hpm := prs_m (t := t) (l := l) (G := (gdL t tol)) (B := (bdL t tol)) (k := k) (m := m) (by omega))
                                all_goals refine tc_region ?_; refine tl_q (y_load1 rfl (by repeat constructor) (by rfl)) rfl ?_; refine tl_q (y_move rfl) rfl ?_; (refine tl_e (e_bslice rfl (by (repeat (first | exact .nil | apply PV.one rfl rfl)); done) rfl rfl) rfl (fun _ _ => ?_))
                                all_goals ((first | refine tl_e (e_append_own (old := vs1) (junk := junk1) rfl rfl rfl (by repeat constructor) (by rw [hin1.1, Nat.mul_one]) (by omega) hok1.1 (fun w' hw' => Reads.own1 hw' (by repeat constructor)) (fun u hu => by obtain rfl := List.mem_singleton.1 hu; rfl) (by omega) rfl) rfl (fun zp hzp => ?_) | refine tl_e (e_append_nil rfl rfl rfl (fun w' hw' => Reads.own1 hw' (by repeat constructor)) (fun u hu => by obtain rfl := List.mem_singleton.1 hu; rfl) Nat.zero_lt_one (Nat.le_of_ble_eq_true rfl) rfl) rfl (fun zp hzp => ?_)))
                                all_goals refine tl_e (e_store1 rfl rfl (by repeat constructor) (by repeat constructor) (by rfl) (by rfl)) rfl (fun _ _ => ?_); refine tl_nil ?_; ((refine hK27 ?_; try (clear hK27; clear K27)))
                                all_goals refine tc_region ?_; refine tl_q (y_add rfl rfl (by omega)) rfl ?_; refine tl_q (y_move rfl) rfl ?_; refine tl_nil ?_
                                all_goals (
                                 refine tk_lay [(zp.1, _), (b17, _), (b13, _), (y.1.1.2, _)] (SB.s (by repeat constructor)) (fun w2 h2 => ?_)
                                 have hnd := h2.nodup
                                 have hown : ∀ x ∈ [zp.1, b17, b13, y.1.1.2], x ∈ S1 ∨ wl1.heap.size ≤ x := fun x hx => by
                                   simp only [List.mem_cons, List.not_mem_nil, or_false] at hx
                                   rcases hx with e | e | e | e
                                   · rw [e]; exact h2.own (zp.1, _) (HM.mem (by repeat constructor)) (wl1, S1) (MI.m (by repeat constructor))
                                   · rw [e]; exact h2.own (b17, _) (HM.mem (by repeat constructor)) (wl1, S1) (MI.m (by repeat constructor))
                                   · rw [e]; exact h2.own (b13, _) (HM.mem (by repeat constructor)) (wl1, S1) (MI.m (by repeat constructor))
                                   · rw [e]; exact h2.own (y.1.1.2, _) (HM.mem (by repeat constructor)) (wl1, S1) (MI.m (by repeat constructor))
                                 have hst := hin1.step (h2.fr (w0 := wl1) (S := S1) (MI.m (by repeat constructor))) hown
                                 first
                                 | (have hv2 : RdI w2 (.slice none 0 0) (apL t l ((gdL t tol).getD k (0, 0, 0)) ((bdL t tol).getD m (0, 0, 0))) := by
                                      have e : apL t l ((gdL t tol).getD k (0, 0, 0)) ((bdL t tol).getD m (0, 0, 0)) = [] := List.eq_nil_of_length_eq_zero hoa
                                      rw [e]; exact RdI.nil _
                                    have hin2 := hst.snoc hv2 (fun p m c e => by cases e)
                                    rw [← hpm] at hin2
                                    refine tk_round (m + 1, some (zp.1, zp.2.1, zp.2.2), vs1 ++ [Value.slice none 0 0], (w2, [zp.1, b17, b13, y.1.1.2]), (es4, ck4)) ⟨by dsimp only; omega, ?_, hin2, hca4⟩ (by dsimp only; omega) (.cons rfl (.cons rfl (.cons rfl (.cons rfl (.cons rfl (.cons rfl (.cons rfl (.cons rfl (.cons rfl (.cons rfl (.cons rfl .nil))))))))))) (fun _ h => ?_)
                                    · dsimp only [outOk]; rw [hpm, List.length_append]; simp only [List.length_cons, List.length_nil]; omega
                                    · dsimp only [slH_some, outV']
                                      rw [hpm, List.length_append]
                                      try rw [show (prs t l (gdL t tol) (bdL t tol) k m) = [] from List.eq_nil_of_length_eq_zero hok1]
                                      try rw [show vs1 = [] from List.eq_nil_of_length_eq_zero (hin1.1.trans hok1), List.nil_append]
                                      exact (h.subl (SB.s (by repeat constructor)) (List.Sublist.refl _)).perm (List.perm_append_comm (l₁ := [_]) (l₂ := [_, _, _])))
                                 | (have hv2 : RdI w2 (.slice (some ⟨ba, 0, none⟩) (apN t l ((gdL t tol).getD k (0, 0, 0)) ((bdL t tol).getD m (0, 0, 0)) l.length).length capa) (apL t l ((gdL t tol).getD k (0, 0, 0)) ((bdL t tol).getD m (0, 0, 0))) := RdI.own (xs := apN t l ((gdL t tol).getD k (0, 0, 0)) ((bdL t tol).getD m (0, 0, 0)) l.length) h2 (b := ba) (by repeat constructor)
                                    have h5 : ([zp.1, ba, b17, b13, y.1.1.2] : List Nat).Nodup := hnd.sublist (List.Sublist.map (Prod.fst : Nat × Obj → Nat) (l₁ := [(zp.1, _), (ba, _), (b17, _), (b13, _), (y.1.1.2, _)]) (SB.s (by repeat constructor)))
                                    have hba : ba < w2.heap.size ∧ ba ∉ [zp.1, b17, b13, y.1.1.2] := ⟨h2.lt (HM.mem (b := ba) (by repeat constructor)), ba_out h5⟩
                                    have hin2 := hst.snoc hv2 (fun p m c e => by cases e; exact hba)
                                    rw [← hpm] at hin2
                                    refine tk_round (m + 1, some (zp.1, zp.2.1, zp.2.2), vs1 ++ [Value.slice (some ⟨ba, 0, none⟩) (apN t l ((gdL t tol).getD k (0, 0, 0)) ((bdL t tol).getD m (0, 0, 0)) l.length).length capa], (w2, [zp.1, b17, b13, y.1.1.2]), (es4, ck4)) ⟨by dsimp only; omega, ?_, hin2, hca4⟩ (by dsimp only; omega) (.cons rfl (.cons rfl (.cons rfl (.cons rfl (.cons rfl (.cons rfl (.cons rfl (.cons rfl (.cons rfl (.cons rfl (.cons rfl .nil))))))))))) (fun _ h => ?_)
                                    · dsimp only [outOk]; rw [hpm, List.length_append]; simp only [List.length_cons, List.length_nil]; omega
                                    · dsimp only [slH_some, outV']
                                      rw [hpm, List.length_append]
                                      try rw [show (prs t l (gdL t tol) (bdL t tol) k m) = [] from List.eq_nil_of_length_eq_zero hok1]
                                      try rw [show vs1 = [] from List.eq_nil_of_length_eq_zero (hin1.1.trans hok1), List.nil_append]
                                      exact (h.subl (SB.s (by repeat constructor)) (List.Sublist.refl _)).perm (List.perm_append_comm (l₁ := [_]) (l₂ := [_, _, _]))))))
                        · try simp only [decide_eq_true_eq, decide_eq_false_iff_not, Int.not_lt, Int.not_le, Bool.not_eq_true', Bool.not_eq_false', Decidable.not_not, not_true_eq_false] at hc
                          all_goals refine tc_exit ?_; ((refine hK22 ?_; try (clear hK22; clear K22)))
                          all_goals (have hmB : m = (bdL t tol).length := by omega)
                          all_goals subst hmB
                          all_goals refine tc_region ?_; refine tl_q (y_add rfl rfl (by omega)) rfl ?_; refine tl_q (y_move rfl) rfl ?_; refine tl_nil ?_
                          all_goals (
                           refine tk_round (k + 1, oo1, vs1, (wl1, S1), (es3, ck3)) ⟨by dsimp only; omega, ?_, ?_, hca1⟩ (by dsimp only; omega) (.cons rfl (.cons rfl (.cons rfl (.cons rfl (.cons rfl (.cons rfl (.cons rfl .nil))))))) (fun _ h => ?_)
                           · dsimp only; rw [prs_k (by omega)]; exact hok1
                           · dsimp only; rw [prs_k (by omega)]; exact hin1
                           · dsimp only; rw [prs_k (by omega)]; exact h.subl (SB.s (by repeat constructor)) (SB.s (by repeat constructor)))))
                  · try simp only [decide_eq_true_eq, decide_eq_false_iff_not, Int.not_lt, Int.not_le, Bool.not_eq_true', Bool.not_eq_false', Decidable.not_not, not_true_eq_false] at hc
                    all_goals refine tc_exit ?_; ((refine hK18 ?_; try (clear hK18; clear K18)))
                    all_goals refine tc_seq fun K37 hK37 => ?_; (have hkG : k = (gdL t tol).length := by omega)
                    all_goals subst hkG
                    all_goals ((have hpl := prs_len t l (gdL t tol) (bdL t tol) (k := (gdL t tol).length) (m := 0) (by omega) (by omega); have hgb := prod_le (gb_len hv tol)))
                    all_goals rcases oo with _ | ⟨bo, cap, junk⟩
                    all_goals ((dsimp only [outOk] at hok; dsimp only [slH_none, slH_some, outV']))
                    all_goals first | (have hRd0 : ∀ w', RdLL w' (.slice none 0 0) (pairsL t tol l) := fun w' => by
                                         rw [show pairsL t tol l = [] from List.eq_nil_of_length_eq_zero hok]; exact RdLL.nil w') | skip
                    all_goals (have hpq : (pairsL t tol l).length = (gdL t tol).length * (bdL t tol).length + 0 := hpl)
                    all_goals rcases hsr : searchT (fewP (pairsL t tol l)) l.length with _ | rs
                    all_goals refine tc_region ?_; refine tl_q (y_move rfl) rfl ?_; refine tl_q (y_len rfl) rfl ?_; refine tl_q (y_fn .nil (.cons rfl .nil)) rfl ?_; ((first | refine tl_e (e_callEndF (val := fun x : Value × Obj => .tuple #[x.1, .bool false]) (p := fun x w' => True) (S := [y.1.1.2]) rfl (.cons rfl (.cons rfl .nil)) (fun w' hw' => CnX.imp (val' := fun x : Value × Obj => .tuple #[x.1, .bool false]) (tlists_c 89 #[ptr b13] (fewP (pairsL t tol l)) l.length (by omega) y.1.1.2 (.map es2 ck2) (fun o => o = .map es2 ck2) w' (hw'.heap _ (HM.mem (by repeat constructor))) rfl (few_pass t (pairsL t tol l) l.length (by omega) (fun ap h => by have := prs_ap h; omega) b13 y.1.1.2 (fun e => by have := hw'.nodup; rw [e] at this; simp at this) _ es2 ck2 w' (hw'.heap (b13, _) (HM.mem (by repeat constructor))) (hw'.heap _ (HM.mem (by repeat constructor))) (hRd0 w'))) id (fun x => by rw [hsr]; rfl) (fun _ h => h) (fun _ _ _ _ => trivial)) (fun w' hw' β hβ q hq => by obtain rfl := List.mem_singleton.1 hq; exact hw'.own (y.1.1.2, _) (HM.mem (by repeat constructor)) β hβ)) rfl (fun v hv3 => ?_) | refine tl_e (e_callEndF (val := fun x : Value × Obj => .tuple #[x.1, .bool true]) (p := fun x w' => RdI w' x.1 rs) (S := [y.1.1.2]) rfl (.cons rfl (.cons rfl .nil)) (fun w' hw' => CnX.imp (val' := fun x : Value × Obj => .tuple #[x.1, .bool true]) (tlists_c 89 #[ptr b13] (fewP (pairsL t tol l)) l.length (by omega) y.1.1.2 (.map es2 ck2) (fun o => o = .map es2 ck2) w' (hw'.heap _ (HM.mem (by repeat constructor))) rfl (few_pass t (pairsL t tol l) l.length (by omega) (fun ap h => by have := prs_ap h; omega) b13 y.1.1.2 (fun e => by have := hw'.nodup; rw [e] at this; simp at this) _ es2 ck2 w' (hw'.heap (b13, _) (HM.mem (by repeat constructor))) (hw'.heap _ (HM.mem (by repeat constructor))) (hRd0 w'))) id (fun x => by rw [hsr]; rfl) (fun _ h => h) (fun x w2 _ hx => hx.2.2.2 _ hsr)) (fun w' hw' β hβ q hq => by obtain rfl := List.mem_singleton.1 hq; exact hw'.own (y.1.1.2, _) (HM.mem (by repeat constructor)) β hβ)) rfl (fun v hv3 => ?_) | refine tl_e (e_callEndF (val := fun x : Value × Obj => .tuple #[x.1, .bool false]) (p := fun x w' => True) (S := [y.1.1.2]) rfl (.cons rfl (.cons rfl .nil)) (fun w' hw' => CnX.imp (val' := fun x : Value × Obj => .tuple #[x.1, .bool false]) (tlists_c 89 #[ptr b13] (fewP (pairsL t tol l)) l.length (by omega) y.1.1.2 (.map es2 ck2) (fun o => o = .map es2 ck2) w' (hw'.heap _ (HM.mem (by repeat constructor))) rfl (few_pass t (pairsL t tol l) l.length (by omega) (fun ap h => by have := prs_ap h; omega) b13 y.1.1.2 (fun e => by have := hw'.nodup; rw [e] at this; simp at this) _ es2 ck2 w' (hw'.heap (b13, _) (HM.mem (by repeat constructor))) (hw'.heap _ (HM.mem (by repeat constructor))) (hin.rd hw' (b := bo) (cap := cap) (by repeat constructor) (hw'.fr (w0 := wl) (S := S) (MI.m (by repeat constructor)))))) id (fun x => by rw [hsr]; rfl) (fun _ h => h) (fun _ _ _ _ => trivial)) (fun w' hw' β hβ q hq => by obtain rfl := List.mem_singleton.1 hq; exact hw'.own (y.1.1.2, _) (HM.mem (by repeat constructor)) β hβ)) rfl (fun v hv3 => ?_) | refine tl_e (e_callEndF (val := fun x : Value × Obj => .tuple #[x.1, .bool true]) (p := fun x w' => RdI w' x.1 rs) (S := [y.1.1.2]) rfl (.cons rfl (.cons rfl .nil)) (fun w' hw' => CnX.imp (val' := fun x : Value × Obj => .tuple #[x.1, .bool true]) (tlists_c 89 #[ptr b13] (fewP (pairsL t tol l)) l.length (by omega) y.1.1.2 (.map es2 ck2) (fun o => o = .map es2 ck2) w' (hw'.heap _ (HM.mem (by repeat constructor))) rfl (few_pass t (pairsL t tol l) l.length (by omega) (fun ap h => by have := prs_ap h; omega) b13 y.1.1.2 (fun e => by have := hw'.nodup; rw [e] at this; simp at this) _ es2 ck2 w' (hw'.heap (b13, _) (HM.mem (by repeat constructor))) (hw'.heap _ (HM.mem (by repeat constructor))) (hin.rd hw' (b := bo) (cap := cap) (by repeat constructor) (hw'.fr (w0 := wl) (S := S) (MI.m (by repeat constructor)))))) id (fun x => by rw [hsr]; rfl) (fun _ h => h) (fun x w2 _ hx => hx.2.2.2 _ hsr)) (fun w' hw' β hβ q hq => by obtain rfl := List.mem_singleton.1 hq; exact hw'.own (y.1.1.2, _) (HM.mem (by repeat constructor)) β hβ)) rfl (fun v hv3 => ?_)))
                    all_goals refine tl_q (y_move rfl) rfl ?_; refine tl_q (y_extract rfl rfl) rfl ?_; refine tl_q (y_extract rfl rfl) rfl ?_; refine tl_q (y_assign rfl) rfl ?_; refine tl_q (y_assign rfl) rfl ?_; refine tl_nil ?_; ((refine hK37 ?_; try (clear hK37; clear K37)))
                    all_goals refine tc_seq fun K38 hK38 => ?_; refine tc_seq fun K39 hK39 => ?_; refine tc_region ?_; refine tl_q (y_move rfl) rfl ?_; refine tl_q (y_not rfl) rfl ?_; refine tl_nil ?_; ((refine hK39 ?_; try (clear hK39; clear K39)))
                    all_goals (
                     refine tc_cond rfl (fun hc => ?_) (fun hc => ?_)
                     · try simp only [decide_eq_true_eq, decide_eq_false_iff_not, Int.not_lt, Int.not_le, Bool.not_eq_true', Bool.not_eq_false', Decidable.not_not, not_true_eq_false] at hc
                       all_goals ((first | (exfalso; with_reducible exact btf hc) | skip))
                       all_goals refine tc_seq fun K40 hK40 => ?_; refine tc_region ?_; refine tl_q (y_assign rfl) rfl ?_; refine tl_q (y_assign rfl) rfl ?_; refine tl_nil ?_; ((refine hK40 ?_; try (clear hK40; clear K40)))
                       all_goals refine tc_ret ?_; (repeat (refine tk_then_ret ?_))
                       all_goals (refine tk_ret rfl rfl (.cons (.tmp rfl) (.cons (.tmp rfl) .nil)) ?_)
                       all_goals (
                        first
                        | (have hE : fewestE t tol l = ([], tolE t tol) := if_pos (by assumption)
                           rw [hE]; exact fun w' hw' => ⟨_, rfl, hw'.fr (w0 := w) (S := []) (MI.m (by repeat constructor)), RdI.nil _⟩)
                        | (have hE : fewestE t tol l = ([], 3) := by unfold fewestE; rw [if_neg (by omega), if_pos (by omega)]
                           rw [hE]; exact fun w' hw' => ⟨_, rfl, hw'.fr (w0 := w) (S := []) (MI.m (by repeat constructor)), RdI.nil _⟩)
                        | (have hE : fewestE t tol l = ([], 2) := by unfold fewestE; rw [if_neg (by omega), if_neg (by omega), if_pos (by assumption)]
                           rw [hE]; exact fun w' hw' => ⟨_, rfl, hw'.fr (w0 := w) (S := []) (MI.m (by repeat constructor)), RdI.nil _⟩)
                        | (have hE : fewestE t tol l = ([], askedE t) := by unfold fewestE; rw [if_neg (by omega), if_neg (by omega), if_neg (by rw [hall]; exact Bool.noConfusion), if_pos hA]
                           rw [hE]; exact fun w' hw' => ⟨_, rfl, hw'.fr (w0 := w) (S := []) (MI.m (by repeat constructor)), RdI.nil _⟩)
                        | (have hE : fewestE t tol l = ([], 9) := by unfold fewestE; rw [if_neg (by omega), if_neg (by omega), if_neg (by rw [hall]; exact Bool.noConfusion), if_neg (by omega), hsr]
                           rw [hE]; exact fun w' hw' => ⟨_, rfl, hw'.fr (w0 := w) (S := []) (MI.m (by repeat constructor)), RdI.nil _⟩)
                        | (have hE : fewestE t tol l = (rs, 0) := by unfold fewestE; rw [if_neg (by omega), if_neg (by omega), if_neg (by rw [hall]; exact Bool.noConfusion), if_neg (by omega), hsr]
                           rw [hE]; exact fun w' hw' => ⟨v.1.1, rfl, hw'.fr (w0 := w) (S := []) (MI.m (by repeat constructor)), hv3.2.2.fr (hw'.fr (w0 := v.2.2) (S := []) (MI.m (by repeat constructor)))⟩))
                     · try simp only [decide_eq_true_eq, decide_eq_false_iff_not, Int.not_lt, Int.not_le, Bool.not_eq_true', Bool.not_eq_false', Decidable.not_not, not_true_eq_false] at hc
                       all_goals ((first | (exfalso; with_reducible exact bft hc) | skip))
                       all_goals refine tc_skip ?_; ((refine hK38 ?_; try (clear hK38; clear K38)))
                       all_goals refine tc_seq fun K41 hK41 => ?_; refine tc_region ?_; refine tl_q (y_move rfl) rfl ?_; refine tl_q (y_assign rfl) rfl ?_; refine tl_q (y_assign rfl) rfl ?_; refine tl_nil ?_; ((refine hK41 ?_; try (clear hK41; clear K41)))
                       all_goals refine tc_ret ?_; (repeat (first | refine tk_then_ret ?_))
                       all_goals (refine tk_ret rfl rfl (.cons (.tmp rfl) (.cons (.tmp rfl) .nil)) ?_)
                       all_goals (
                        first
                        | (have hE : fewestE t tol l = ([], tolE t tol) := if_pos (by assumption)
                           rw [hE]; exact fun w' hw' => ⟨_, rfl, hw'.fr (w0 := w) (S := []) (MI.m (by repeat constructor)), RdI.nil _⟩)
                        | (have hE : fewestE t tol l = ([], 3) := by unfold fewestE; rw [if_neg (by omega), if_pos (by omega)]
                           rw [hE]; exact fun w' hw' => ⟨_, rfl, hw'.fr (w0 := w) (S := []) (MI.m (by repeat constructor)), RdI.nil _⟩)
                        | (have hE : fewestE t tol l = ([], 2) := by unfold fewestE; rw [if_neg (by omega), if_neg (by omega), if_pos (by assumption)]
                           rw [hE]; exact fun w' hw' => ⟨_, rfl, hw'.fr (w0 := w) (S := []) (MI.m (by repeat constructor)), RdI.nil _⟩)
                        | (have hE : fewestE t tol l = ([], askedE t) := by unfold fewestE; rw [if_neg (by omega), if_neg (by omega), if_neg (by rw [hall]; exact Bool.noConfusion), if_pos hA]
                           rw [hE]; exact fun w' hw' => ⟨_, rfl, hw'.fr (w0 := w) (S := []) (MI.m (by repeat constructor)), RdI.nil _⟩)
                        | (have hE : fewestE t tol l = ([], 9) := by unfold fewestE; rw [if_neg (by omega), if_neg (by omega), if_neg (by rw [hall]; exact Bool.noConfusion), if_neg (by omega), hsr]
                           rw [hE]; exact fun w' hw' => ⟨_, rfl, hw'.fr (w0 := w) (S := []) (MI.m (by repeat constructor)), RdI.nil _⟩)
                        | (have hE : fewestE t tol l = (rs, 0) := by unfold fewestE; rw [if_neg (by omega), if_neg (by omega), if_neg (by rw [hall]; exact Bool.noConfusion), if_neg (by omega), hsr]
                           rw [hE]; exact fun w' hw' => ⟨v.1.1, rfl, hw'.fr (w0 := w) (S := []) (MI.m (by repeat constructor)), hv3.2.2.fr (hw'.fr (w0 := v.2.2) (S := []) (MI.m (by repeat constructor)))⟩)))))))))
end Go.Sp
/-
  The chapter's trial: what is asked of it, computed.
-/
namespace Go.Sp
open Go Go.Proofs
abbrev twoS : Sn := ⟨900, 800, 20, 10, 10, [100, 200]⟩
abbrev twoT (m : List E3) : Tr := ⟨twoS, [0, 6], 2, [(1000, 1000), (915, 925)], [(0, 0, 6), (1, 0, 10)] ++ m⟩
set_option maxRecDepth 100000
theorem ta1 : shownE (twoT []) [0, 1] 0 1000 = ([5, 6], 0) := by kernel_rfl
theorem ta2 : askedE (twoT []) = 0 := by kernel_rfl
theorem ta3 : possLL (twoT []) 2 = [[-2, -1, 0, 1, 2], [1]] := by kernel_rfl
theorem ta4 : judgeE (twoT []) 1 = (3, 0) := by kernel_rfl
theorem ta5 : certL (twoT []) 2 = [(0, 2), (1, 0)] := by kernel_rfl
theorem ta6 : correctE (twoT []) 0 7 = ((968, 989), 0) := by kernel_rfl
theorem ta7 : fewestE (twoT []) 1 [(0, 1000), (0, 1100)] = ([1], 0) := by kernel_rfl
theorem ta8 : leaveTL (twoT [(0, 0, 8)]) = [2] := by kernel_rfl
theorem ta9 : chkT (twoT [(0, 0, 8)]) = 0 := by kernel_rfl
theorem twoT_nt (m : List E3) (h : m.length ≤ 1000) : NT (twoT m) := ⟨by show (2 : Int) ≤ 9000000000000000000; decide, by show (2 : Int) ≤ 9000000000000000000; decide, by show (2 : Int) ≤ 9000000000000000000; decide, by show ((([(0, 0, 6), (1, 0, 10)] ++ m : List E3).length : Nat) : Int) ≤ 9000000000000000000; rw [List.length_append]; simp only [List.length_cons, List.length_nil]; omega⟩
end Go.Sp
/-
  What all statements about trials end with: the chapter's example.
-/
namespace Go.Sp
open Go Go.Proofs
theorem ints9_c (a b : List Int) (ha : (a.length : Int) ≤ 9000000000000000000) (hb : (b.length : Int) ≤ 9000000000000000000) (av bv : Value) (w : World) (hA : RdI w av a) (hB : RdI w bv b) :
    CnV Tryz.prog 24 #[av, bv] w (.bool (decide (a = b))) := by
  obtain ⟨ad, cap, b0, o, rfl, had, hcell⟩ := hA.open
  obtain ⟨ad2, cap2, b02, o2, rfl, had2, hcell2⟩ := hB.open
  refine cnv (vs := [_, _]) Tryz.func24 rfl rfl ?_
  all_goals refine tc_seq fun K1 hK1 => ?_; refine tc_region ?_; refine tl_q (y_assign rfl) rfl ?_; refine tl_nil ?_; ((refine hK1 ?_; try (clear hK1; clear K1)))
  all_goals refine tc_seq fun K2 hK2 => ?_; refine tc_seq fun K3 hK3 => ?_; refine tc_region ?_; refine tl_q (y_move rfl) rfl ?_; refine tl_q (y_len rfl) rfl ?_; refine tl_q (y_move rfl) rfl ?_; refine tl_q (y_len rfl) rfl ?_; refine tl_q (y_neq rfl rfl) rfl ?_; refine tl_nil ?_; ((refine hK3 ?_; try (clear hK3; clear K3)))
  all_goals (
   refine tc_cond rfl (fun hc => ?_) (fun hc => ?_)
   · try simp only [decide_eq_true_eq, decide_eq_false_iff_not, Int.not_lt, Int.not_le, Bool.not_eq_true', Bool.not_eq_false', Decidable.not_not, not_true_eq_false] at hc
     all_goals refine tc_seq fun K4 hK4 => ?_; refine tc_region ?_; refine tl_q (y_assign rfl) rfl ?_; refine tl_nil ?_; ((refine hK4 ?_; try (clear hK4; clear K4)))
     all_goals refine tc_ret ?_; (repeat (refine tk_then_ret ?_))
     all_goals (refine tk_ret rfl rfl (.cons (.tmp rfl) .nil) ?_)
     all_goals (
      refine fun w' hw' => ⟨congrArg (fun n => Ending.returned (Value.bool n)) ?_, hw'.fr (by simp)⟩
      symm
      first
      | exact decide_eq_false (fun h => absurd (congrArg List.length h) (by omega))
      | exact decide_eq_false (fun h => absurd (congrArg (fun l => List.getD l n 0) h) (by omega))
      | exact decide_eq_true (List.ext_getElem (by omega) (fun i h1 h2 => by
          have := hI i (by omega)
          rw [List.getD_eq_getElem?_getD, List.getD_eq_getElem?_getD, List.getElem?_eq_getElem h1, List.getElem?_eq_getElem h2] at this
          exact this)))
   · try simp only [decide_eq_true_eq, decide_eq_false_iff_not, Int.not_lt, Int.not_le, Bool.not_eq_true', Bool.not_eq_false', Decidable.not_not, not_true_eq_false] at hc
     all_goals refine tc_skip ?_; ((refine hK2 ?_; try (clear hK2; clear K2)))
     all_goals refine tc_seq fun K5 hK5 => ?_; refine tc_seq fun K6 hK6 => ?_; refine tc_region ?_; refine tl_q (y_assign rfl) rfl ?_; refine tl_nil ?_; ((refine hK6 ?_; try (clear hK6; clear K6)))
     all_goals refine tc_block ?_
     all_goals (
      refine tc_loop (fun n : Nat => n ≤ a.length ∧ ∀ j : Nat, j < n → a.getD j 0 = b.getD j 0) (fun n => [(0, .slice ad a.length cap), (1, .slice ad2 b.length cap2), (5, vi n)]) (fun _ => [(w, [])]) (fun _ => []) (fun n => a.length - n) ?_ ?_
      · exact tk_start 0 ⟨Nat.zero_le _, fun i hi => absurd hi (Nat.not_lt_zero i)⟩ (.cons rfl (.cons rfl (.cons rfl .nil))) (fun _ h => h)
      · rintro n ⟨hn, hI⟩
        all_goals refine tc_seq fun K7 hK7 => ?_; refine tc_seq fun K8 hK8 => ?_; refine tc_region ?_; refine tl_q (y_move rfl) rfl ?_; refine tl_q (y_move rfl) rfl ?_; refine tl_q (y_len rfl) rfl ?_; refine tl_q (y_lss rfl rfl) rfl ?_; refine tl_nil ?_; ((refine hK8 ?_; try (clear hK8; clear K8)))
        all_goals (
         refine tc_cond rfl (fun hc => ?_) (fun hc => ?_)
         · try simp only [decide_eq_true_eq, decide_eq_false_iff_not, Int.not_lt, Int.not_le, Bool.not_eq_true', Bool.not_eq_false', Decidable.not_not, not_true_eq_false] at hc
           all_goals refine tc_skip ?_; ((refine hK7 ?_; try (clear hK7; clear K7)))
           all_goals refine tc_seq fun K9 hK9 => ?_; refine tc_block ?_; refine tc_seq fun K10 hK10 => ?_
           have had' := had (by omega)
           have had2' := had2 (by omega)
           all_goals refine tc_draw (by kernel_rfl) ?_; refine tx_p 0 rfl (by kernel_rfl) (y_move rfl) rfl (fun _ _ _ h => h) (fun _ h => h) ?_; refine tx_p 1 rfl (by kernel_rfl) (y_move rfl) rfl (fun _ _ _ h => h) (fun _ h => h) ?_; refine tx_p 2 rfl (by kernel_rfl) (y_index rfl rfl (by omega) had') rfl (fun _ _ _ h => h) (fun _ h => h) ?_; ((refine tx_q 3 rfl (by kernel_rfl) (y_load1o (v := vi (a.getD n 0)) rfl (fun w' hw' => by rw [show Int.toNat (n : Int) * 1 = n from by omega]; exact hcell w' (hw'.fr (by simp)) n (by omega))) rfl (fun _ _ _ h => h) (fun _ h => h) ?_))
           all_goals refine tx_p 4 rfl (by kernel_rfl) (y_move rfl) rfl (fun _ _ _ h => h) (fun _ h => h) ?_; refine tx_p 5 rfl (by kernel_rfl) (y_move rfl) rfl (fun _ _ _ h => h) (fun _ h => h) ?_; refine tx_p 6 rfl (by kernel_rfl) (y_index rfl rfl (by omega) had2') rfl (fun _ _ _ h => h) (fun _ h => h) ?_; ((refine tx_q 7 rfl (by kernel_rfl) (y_load1o (v := vi (b.getD n 0)) rfl (fun w' hw' => by rw [show Int.toNat (n : Int) * 1 = n from by omega]; exact hcell2 w' (hw'.fr (by simp)) n (by omega))) rfl (fun _ _ _ h => h) (fun _ h => h) ?_))
           all_goals refine tx_p 8 rfl (by kernel_rfl) (y_neq rfl rfl) rfl (fun _ _ _ h => h) (fun _ h => h) ?_; refine tx_done (by kernel_rfl) ?_; ((refine hK10 ?_; try (clear hK10; clear K10)))
           all_goals (
            refine tc_cond rfl (fun hc => ?_) (fun hc => ?_)
            · try simp only [decide_eq_true_eq, decide_eq_false_iff_not, Int.not_lt, Int.not_le, Bool.not_eq_true', Bool.not_eq_false', Decidable.not_not, not_true_eq_false] at hc
              all_goals refine tc_seq fun K11 hK11 => ?_; refine tc_region ?_; refine tl_q (y_assign rfl) rfl ?_; refine tl_nil ?_; ((refine hK11 ?_; try (clear hK11; clear K11)))
              all_goals refine tc_ret ?_; (repeat (first | refine tk_then_ret ?_ | refine tk_block_ret ?_))
              all_goals (refine tk_ret rfl rfl (.cons (.tmp rfl) .nil) ?_)
              all_goals (
               refine fun w' hw' => ⟨congrArg (fun n => Ending.returned (Value.bool n)) ?_, hw'.fr (by simp)⟩
               symm
               first
               | exact decide_eq_false (fun h => absurd (congrArg List.length h) (by omega))
               | exact decide_eq_false (fun h => absurd (congrArg (fun l => List.getD l n 0) h) (by omega))
               | exact decide_eq_true (List.ext_getElem (by omega) (fun i h1 h2 => by
                   have := hI i (by omega)
                   rw [List.getD_eq_getElem?_getD, List.getD_eq_getElem?_getD, List.getElem?_eq_getElem h1, List.getElem?_eq_getElem h2] at this
                   exact this)))
            · try simp only [decide_eq_true_eq, decide_eq_false_iff_not, Int.not_lt, Int.not_le, Bool.not_eq_true', Bool.not_eq_false', Decidable.not_not, not_true_eq_false] at hc
              all_goals refine tc_skip ?_; ((refine hK9 ?_; try (clear hK9; clear K9)))
              all_goals refine tc_region ?_; refine tl_q (y_move rfl) rfl ?_; refine tl_q (y_add rfl rfl (by omega)) rfl ?_; refine tl_q (y_assign rfl) rfl ?_; refine tl_nil ?_
              all_goals (
               exact tk_round (n + 1) ⟨by omega, fun i hi => by
                 rcases Nat.lt_succ_iff_lt_or_eq.1 hi with h | rfl
                 · exact hI i h
                 · exact hc⟩ (by omega) (.cons rfl (.cons rfl (.cons rfl .nil))) (fun _ h => h)))
         · try simp only [decide_eq_true_eq, decide_eq_false_iff_not, Int.not_lt, Int.not_le, Bool.not_eq_true', Bool.not_eq_false', Decidable.not_not, not_true_eq_false] at hc
           all_goals refine tc_exit ?_; ((refine hK5 ?_; try (clear hK5; clear K5)))
           all_goals refine tc_seq fun K12 hK12 => ?_; refine tc_region ?_; refine tl_q (y_assign rfl) rfl ?_; refine tl_nil ?_; ((refine hK12 ?_; try (clear hK12; clear K12)))
           all_goals refine tc_ret ?_; (repeat (first | refine tk_then_ret ?_))
           all_goals (refine tk_ret rfl rfl (.cons (.tmp rfl) .nil) ?_)
           all_goals (
            refine fun w' hw' => ⟨congrArg (fun n => Ending.returned (Value.bool n)) ?_, hw'.fr (by simp)⟩
            symm
            first
            | exact decide_eq_false (fun h => absurd (congrArg List.length h) (by omega))
            | exact decide_eq_false (fun h => absurd (congrArg (fun l => List.getD l n 0) h) (by omega))
            | exact decide_eq_true (List.ext_getElem (by omega) (fun i h1 h2 => by
                have := hI i (by omega)
                rw [List.getD_eq_getElem?_getD, List.getD_eq_getElem?_getD, List.getElem?_eq_getElem h1, List.getElem?_eq_getElem h2] at this
                exact this))))))
theorem ints9_t (a : List Int) (ha : (a.length : Int) ≤ 9000000000000000000) (av bv : Value) (w : World) (hA : RdI w av a) (hB : RdI w bv a) : CnV Tryz.prog 24 #[av, bv] w (.bool true) := by
  have h := ints9_c a a ha ha av bv w hA hB
  rwa [decide_eq_true rfl] at h
theorem between9_c (a b : Int) (w : World) : CnV Tryz.prog 60 #[vi a, vi b] w (rV (a, b)) := by
  refine cnv (vs := [_, _]) Tryz.func60 rfl rfl ?_
  all_goals refine tc_seq fun K1 hK1 => ?_; refine tc_region ?_; refine tl_e (e_allocN rfl) rfl (fun _ _ => ?_); refine tl_nil ?_; ((refine hK1 ?_; try (clear hK1; clear K1)))
  all_goals refine tc_seq fun K2 hK2 => ?_; refine tc_region ?_; refine tl_q (y_move rfl) rfl ?_; refine tl_q (y_move rfl) rfl ?_; refine tl_q (y_build_2 rfl rfl rfl rfl) rfl ?_; refine tl_e (e_storeW rfl rfl (by repeat constructor) (by rfl) (by rfl) (by simp [Value.oneCell'])) rfl (fun _ _ => ?_); refine tl_nil ?_; ((refine hK2 ?_; try (clear hK2; clear K2)))
  all_goals refine tc_ret ?_; (repeat (first | refine tk_then_ret ?_))
  all_goals (refine tk_ret rfl rfl (.cons (.agg inferInstance rfl (by repeat constructor) (by rfl)) .nil) ?_)
  all_goals (
   exact fun w' hw' => ⟨rfl, hw'.fr (by simp)⟩)
theorem offered_c (w : World) : CnX Tryz.prog 61 #[] w [] (slV 2) (fun x w' => RdR w' (slV 2 x) [(0, 1000), (0, 1100)]) := by
  refine cnx0 (vs := []) Tryz.func61 rfl rfl ?_
  all_goals refine tc_seq fun K1 hK1 => ?_; refine tc_region ?_; refine tl_q (y_assign rfl) rfl ?_; refine tl_nil ?_; ((refine hK1 ?_; try (clear hK1; clear K1)))
  all_goals refine tc_seq fun K2 hK2 => ?_; refine tc_region ?_; refine tl_q (y_build_2 rfl rfl rfl rfl) rfl ?_; refine tl_q (y_build_2 rfl rfl rfl rfl) rfl ?_; (refine tl_e (e_bslice rfl (by (repeat (first | exact .nil | apply PV.two rfl)); done) rfl rfl) rfl (fun b3 _ => ?_))
  all_goals refine tl_q (y_assign rfl) rfl ?_; refine tl_nil ?_; ((refine hK2 ?_; try (clear hK2; clear K2)))
  all_goals refine tc_ret ?_; (repeat (first | refine tk_then_ret ?_))
  all_goals (refine tk_ret rfl rfl (.cons (.tmp rfl) .nil) ?_)
  all_goals (
   exact fun w' hw' => ⟨(some ⟨b3, 0, none⟩, 2), rfl, hw'.fr (by simp), RdR.own0 (xs := [(0, 1000), (0, 1100)]) hw' (by repeat constructor)⟩)
theorem two9_c (m : List E3) (hm : m.length ≤ 1000) (lv : Value) (w : World) (hL : RdT w lv m) :
    CnX Tryz.prog 59 #[lv] w [] (fun x : (Option Addr × Nat) × (Option Addr × Nat) × (Option Addr × Nat) × (Option Addr × Nat) => trV (twoT m) (slV 2 x.1) (slV 2 x.2.1) (slV 2 x.2.2.1) (slV (2 + m.length) x.2.2.2))
      (fun x w' => RdTr w' (twoT m) (slV 2 x.1) (slV 2 x.2.1) (slV 2 x.2.2.1) (slV (2 + m.length) x.2.2.2)) := by
  refine cnx0 (vs := [_]) Tryz.func59 rfl rfl ?_
  all_goals refine tc_seq fun K1 hK1 => ?_; refine tc_region ?_; refine tl_e (e_allocN rfl) rfl (fun b2 _ => ?_); refine tl_nil ?_; ((refine hK1 ?_; try (clear hK1; clear K1)))
  all_goals refine tc_seq fun K2 hK2 => ?_; refine tc_region ?_; ((refine tl_e (e_bslice rfl (by (repeat (first | exact .nil | apply PV.one rfl rfl)); done) rfl rfl) rfl (fun b3 _ => ?_)))
  all_goals (refine tl_q (y_build_g (by repeat constructor)) rfl ?_); ((refine tl_e (e_bslice rfl (by (repeat (first | exact .nil | apply PV.one rfl rfl)); done) rfl rfl) rfl (fun b5 _ => ?_)))
  all_goals refine tl_e (e_callV rfl (.cons rfl (.cons rfl .nil)) (fun w' _ => between9_c _ _ w')) rfl (fun _ _ => ?_); refine tl_e (e_callV rfl (.cons rfl (.cons rfl .nil)) (fun w' _ => between9_c _ _ w')) rfl (fun _ _ => ?_); refine tl_e (e_bsliceG rfl (.agg rfl rfl (.agg rfl rfl .nil)) rfl rfl) rfl (fun b8 _ => ?_); refine tl_q (y_build_g (by repeat constructor)) rfl ?_; refine tl_q (y_build_g (by repeat constructor)) rfl ?_; refine tl_e (e_bsliceG rfl (.agg rfl rfl (.agg rfl rfl .nil)) rfl rfl) rfl (fun b11 _ => ?_); refine tl_q (y_move rfl) rfl ?_; refine tl_e (e_append_own (old := flatT [(0, 0, 6), (1, 0, 10)]) (junk := []) rfl rfl rfl (by repeat constructor) (by rfl) (by rfl) (Nat.le_refl _) (fun w' hw' => hL.fr (hw'.fr (w0 := w) (S := []) (MI.m (by repeat constructor)))) (flatT_one _) (by omega) rfl) rfl (fun z hz => ?_); refine tl_q (y_build_g (by repeat constructor)) rfl ?_; refine tl_e (e_storeW rfl rfl (by repeat constructor) (by rfl) (by rfl) (by simp [Value.oneCell'])) rfl (fun _ _ => ?_); refine tl_nil ?_; ((refine hK2 ?_; try (clear hK2; clear K2)))
  all_goals refine tc_ret ?_; (repeat (first | refine tk_then_ret ?_))
  all_goals (refine tk_ret rfl rfl (.cons (.agg inferInstance rfl (by repeat constructor) (by rfl)) .nil) ?_)
  all_goals (
   refine fun w' hw' => ⟨((some ⟨b3, 0, none⟩, 2), (some ⟨b5, 0, none⟩, 2), (some ⟨b8, 0, none⟩, 2), (some ⟨z.1, 0, none⟩, z.2.1)), rfl, hw'.fr (by simp), RdI.own0 (xs := [100, 200]) hw' (b := b3) (by repeat constructor), RdI.own0 (xs := [0, 6]) hw' (b := b5) (by repeat constructor), RdR.own0 (xs := [(1000, 1000), (915, 925)]) hw' (b := b8) (by repeat constructor), ?_⟩
   have := RdT.own (xs := [(0, 0, 6), (1, 0, 10)] ++ m) (b := z.1) (cap := z.2.1) (junk := z.2.2) (e := 121) (f := (0, 0)) hw' (by rw [flatT_append]; repeat constructor)
   rw [List.length_append] at this
   exact this)
set_option maxRecDepth 100000 in
theorem tb1 : shownL (twoT []) (er3 [0, 1]) 0 1000 = [5, 6] := by kernel_rfl
theorem two_shown (sl pl ll tl lv : Value) (w : World) (hr : RdTr w (twoT []) sl pl ll tl) (hl : RdI w lv [0, 1]) :
    CnX Tryz.prog 17 #[trV (twoT []) sl pl ll tl, lv, vi 0, vi 1000] w [] (fun y : Option Addr × Nat => .tuple #[slV 2 y, vi 0]) (fun y w' => RdI w' (slV 2 y) [5, 6]) := by
  have h := shown_ok (twoT []) (twoT_nt [] (by decide)) [0, 1] (by decide) 0 1000 (by rw [ta1]) sl pl ll tl lv w hr hl
  rw [tb1] at h
  exact h
theorem two_err (sl pl ll tl : Value) (w : World) (hr : RdTr w (twoT []) sl pl ll tl) :
    CnX Tryz.prog 35 #[trV (twoT []) sl pl ll tl] w [] (fun y : Option Addr × Nat => .tuple #[slV 2 y, vi 0]) (fun y w' => RdLL w' (slV 2 y) [[-2, -1, 0, 1, 2], [1]]) := by
  have h := errors_ok (twoT []) (twoT_nt [] (by decide)) ta2 sl pl ll tl w hr
  rw [show possLL (twoT []) (twoT []).parts.length = [[-2, -1, 0, 1, 2], [1]] from ta3] at h
  exact h
theorem two_cert (sl pl ll tl : Value) (w : World) (hr : RdTr w (twoT []) sl pl ll tl) :
    CnX Tryz.prog 47 #[trV (twoT []) sl pl ll tl] w [] (fun y : Option Addr × Nat => .tuple #[slV 2 y, vi 0]) (fun y w' => RdR w' (slV 2 y) [(0, 2), (1, 0)]) := by
  have h := certificate_ok (twoT []) (twoT_nt [] (by decide)) ta2 sl pl ll tl w hr
  rw [show certL (twoT []) (twoT []).parts.length = [(0, 2), (1, 0)] from ta5] at h
  exact h
theorem two_few (sl pl ll tl lv : Value) (w : World) (hr : RdTr w (twoT []) sl pl ll tl) (hl : RdR w lv [(0, 1000), (0, 1100)]) :
    CnX Tryz.prog 31 #[trV (twoT []) sl pl ll tl, vi 1, lv] w [] (fun y : Value => .tuple #[y, vi 0]) (fun y w' => RdI w' y [1]) := by
  have h := fewest_c (twoT []) (twoT_nt [] (by decide)) 1 (by decide) [(0, 1000), (0, 1100)] (by decide) sl pl ll tl lv w hr hl
  rw [ta7] at h
  exact h
theorem two_leave (sl pl ll tl : Value) (w : World) (hr : RdTr w (twoT [(0, 0, 8)]) sl pl ll tl) :
    CnX Tryz.prog 37 #[trV (twoT [(0, 0, 8)]) sl pl ll tl] w [] (fun y : Value => .tuple #[y, vi 0]) (fun y w' => RdI w' y [2]) := by
  have h := leaveT_ok (twoT [(0, 0, 8)]) (chkT_0.1 ta9) sl pl ll tl w hr
  rw [ta8] at h
  exact h
set_option maxRecDepth 100000 in
set_option maxHeartbeats 4000000 in
theorem awake9_c (w : World) : CnV Tryz.prog 16 #[] w (.bool true) := by
  refine cnv (vs := []) Tryz.func16 rfl rfl ?_
  all_goals refine tc_seq fun K1 hK1 => ?_; refine tc_region ?_; refine tl_q (y_assign rfl) rfl ?_; refine tl_nil ?_; ((refine hK1 ?_; try (clear hK1; clear K1)))
  all_goals refine tc_seq fun K2 hK2 => ?_; refine tc_lay ([]) (SB.s (by repeat constructor)) (fun wl1 hl1 => ?_); refine tc_region ?_; refine tl_e (e_callX rfl (.cons rfl .nil) (fun w' _ => two9_c [] (by decide) _ w' (RdT.nil w'))) rfl (fun x1 hx1 => ?_); ((refine tl_e (e_bslice rfl (by (repeat (first | exact .nil | apply PV.one rfl rfl)); done) rfl rfl) rfl (fun b17 _ => ?_)))
  all_goals refine tl_e (e_callX rfl (.cons rfl (.cons rfl (.cons rfl (.cons rfl .nil)))) (fun w' hw' => two_shown _ _ _ _ _ w' (hx1.1.fr (hw'.fr (MI.m (by repeat constructor)))) (RdI.own0 (xs := [0, 1]) hw' (by repeat constructor)))) rfl (fun y1 hy1 => ?_); refine tl_q (y_move rfl) rfl ?_; refine tl_q (y_extract rfl rfl) rfl ?_; refine tl_q (y_extract rfl rfl) rfl ?_; refine tl_q (y_assign rfl) rfl ?_; refine tl_q (y_assign rfl) rfl ?_; refine tl_nil ?_; ((refine hK2 ?_; try (clear hK2; clear K2)))
  all_goals refine tc_seq fun K3 hK3 => ?_; refine tc_lay ([]) (SB.s (by repeat constructor)) (fun wl2 hl2 => ?_)
  have r1 := hy1.1.fr (hl2.calm hy1.2 (MI.m (by repeat constructor)) (SB.s (by repeat constructor)))
  all_goals refine tc_region ?_; refine tl_e (e_callX rfl (.cons rfl .nil) (fun w' _ => two9_c [] (by decide) _ w' (RdT.nil w'))) rfl (fun x2 hx2 => ?_); refine tl_e (e_callX rfl (.cons rfl .nil) (fun w' hw' => two_err _ _ _ _ w' (hx2.1.fr (hw'.fr (MI.m (by repeat constructor)))))) rfl (fun y2 hy2 => ?_); refine tl_q (y_move rfl) rfl ?_; refine tl_q (y_extract rfl rfl) rfl ?_; refine tl_q (y_extract rfl rfl) rfl ?_; refine tl_q (y_assign rfl) rfl ?_; refine tl_q (y_assign rfl) rfl ?_; refine tl_nil ?_; ((refine hK3 ?_; try (clear hK3; clear K3)))
  all_goals refine tc_seq fun K4 hK4 => ?_; refine tc_lay ([]) (SB.s (by repeat constructor)) (fun wl3 hl3 => ?_); refine tc_region ?_; refine tl_e (e_callX rfl (.cons rfl .nil) (fun w' _ => two9_c [] (by decide) _ w' (RdT.nil w'))) rfl (fun x3 hx3 => ?_); (refine tl_e (e_callV rfl (.cons rfl (.cons rfl .nil)) (fun w' hw' => by have h := judge_c (twoT []) (twoT_nt [] (by decide)) 1 (by decide) _ _ _ _ w' (hx3.1.fr (hw'.fr (MI.m (by repeat constructor)))); rw [ta4] at h; exact h)) rfl (fun _ _ => ?_))
  all_goals refine tl_q (y_move rfl) rfl ?_; refine tl_q (y_extract rfl rfl) rfl ?_; refine tl_q (y_extract rfl rfl) rfl ?_; refine tl_q (y_assign rfl) rfl ?_; refine tl_q (y_assign rfl) rfl ?_; refine tl_nil ?_; ((refine hK4 ?_; try (clear hK4; clear K4)))
  all_goals refine tc_seq fun K5 hK5 => ?_; refine tc_lay ([]) (SB.s (by repeat constructor)) (fun wl4 hl4 => ?_); refine tc_region ?_; refine tl_e (e_callX rfl (.cons rfl .nil) (fun w' _ => two9_c [] (by decide) _ w' (RdT.nil w'))) rfl (fun x4 hx4 => ?_); refine tl_e (e_callX rfl (.cons rfl .nil) (fun w' hw' => two_cert _ _ _ _ w' (hx4.1.fr (hw'.fr (MI.m (by repeat constructor)))))) rfl (fun y4 hy4 => ?_); refine tl_q (y_move rfl) rfl ?_; refine tl_q (y_extract rfl rfl) rfl ?_; refine tl_q (y_extract rfl rfl) rfl ?_; refine tl_q (y_assign rfl) rfl ?_; refine tl_q (y_assign rfl) rfl ?_; refine tl_nil ?_; ((refine hK5 ?_; try (clear hK5; clear K5)))
  all_goals refine tc_seq fun K6 hK6 => ?_; refine tc_lay ([]) (SB.s (by repeat constructor)) (fun wl5 hl5 => ?_); refine tc_region ?_; refine tl_e (e_callX rfl (.cons rfl .nil) (fun w' _ => two9_c [] (by decide) _ w' (RdT.nil w'))) rfl (fun x5 hx5 => ?_); (refine tl_e (e_callV rfl (.cons rfl (.cons rfl (.cons rfl .nil))) (fun w' hw' => by have h := correct_c (twoT []) (twoT_nt [] (by decide)) 0 7 _ _ _ _ w' (hx5.1.fr (hw'.fr (MI.m (by repeat constructor)))); rw [ta6] at h; exact h)) rfl (fun _ _ => ?_))
  all_goals refine tl_q (y_move rfl) rfl ?_; refine tl_q (y_extract rfl rfl) rfl ?_; refine tl_q (y_extract rfl rfl) rfl ?_; refine tl_e (e_allocN rfl) rfl (fun b9 _ => ?_); refine tl_e (e_storeW rfl rfl (by repeat constructor) (by rfl) (by rfl) (by simp [Value.oneCell'])) rfl (fun _ _ => ?_); refine tl_q (y_assign rfl) rfl ?_; refine tl_nil ?_; ((refine hK6 ?_; try (clear hK6; clear K6)))
  all_goals refine tc_seq fun K7 hK7 => ?_; refine tc_lay ([]) (SB.s (by repeat constructor)) (fun wl6 hl6 => ?_); refine tc_region ?_; refine tl_e (e_callX rfl (.cons rfl .nil) (fun w' _ => two9_c [] (by decide) _ w' (RdT.nil w'))) rfl (fun x6 hx6 => ?_); refine tl_e (e_callX rfl .nil (fun w' _ => offered_c w')) rfl (fun o6 ho6 => ?_); refine tl_e (e_callX rfl (.cons rfl (.cons rfl (.cons rfl .nil))) (fun w' hw' => two_few _ _ _ _ _ w' (hx6.1.fr (hw'.fr (MI.m (by repeat constructor)))) (ho6.1.fr (hw'.fr (MI.m (by repeat constructor)))))) rfl (fun y6 hy6 => ?_); refine tl_q (y_move rfl) rfl ?_; refine tl_q (y_extract rfl rfl) rfl ?_; refine tl_q (y_extract rfl rfl) rfl ?_; refine tl_q (y_assign rfl) rfl ?_; refine tl_q (y_assign rfl) rfl ?_; refine tl_nil ?_; ((refine hK7 ?_; try (clear hK7; clear K7)))
  all_goals refine tc_seq fun K8 hK8 => ?_; refine tc_lay ([]) (SB.s (by repeat constructor)) (fun wl7 hl7 => ?_); refine tc_region ?_; refine tl_q (y_build_g (by repeat constructor)) rfl ?_; refine tl_e (e_bsliceG rfl (.agg rfl rfl .nil) rfl rfl) rfl (fun b49 _ => ?_); refine tl_e (e_callX rfl (.cons rfl .nil) (fun w' hw' => two9_c [(0, 0, 8)] (by decide) _ w' (RdT.own0 (xs := [(0, 0, 8)]) hw' (by repeat constructor)))) rfl (fun x7 hx7 => ?_); refine tl_e (e_callX rfl (.cons rfl .nil) (fun w' hw' => two_leave _ _ _ _ w' (hx7.1.fr (hw'.calm hx7.2 (MI.m (by repeat constructor)) (SB.s (by repeat constructor)))))) rfl (fun y7 hy7 => ?_); refine tl_q (y_move rfl) rfl ?_; refine tl_q (y_extract rfl rfl) rfl ?_; refine tl_q (y_extract rfl rfl) rfl ?_; refine tl_q (y_assign rfl) rfl ?_; refine tl_q (y_assign rfl) rfl ?_; refine tl_nil ?_; ((refine hK8 ?_; try (clear hK8; clear K8)))
  all_goals refine tc_seq fun K9 hK9 => ?_; refine tc_lay ([]) (SB.s (by repeat constructor)) (fun wl8 hl8 => ?_)
  have r7 := hy7.1.fr (hl8.calm hy7.2 (MI.m (by repeat constructor)) (SB.s (by repeat constructor)))
  obtain ⟨bE, oE, vsE, hadE, hcE, hiE⟩ := hy2.1.opensL (n := 2) rfl
  have hadE' := hadE (by decide)
  obtain ⟨adC, cpC, bC, oC, eC, hadC, hcC⟩ := hy4.1.open
  have hadC' := hadC (by decide)
  all_goals refine tc_drawS ([]) (by kernel_rfl) ?_; refine tx_p 0 rfl (by kernel_rfl) (y_move rfl) rfl (fun _ _ _ h => h) (fun _ h => h.subl (SB.s (by repeat constructor)) (SB.s (by repeat constructor))) ?_; refine tx_p 1 rfl (by kernel_rfl) (y_eql rfl rfl) rfl (fun _ _ _ h => h) (fun _ h => h.subl (SB.s (by repeat constructor)) (SB.s (by repeat constructor))) ?_; refine tx_p 2 rfl (by kernel_rfl) (y_move rfl) rfl (fun _ _ _ h => h) (fun _ h => h.subl (SB.s (by repeat constructor)) (SB.s (by repeat constructor))) ?_; refine tx_pg 3 rfl (by kernel_rfl) rfl rfl (y_move rfl) rfl (fun _ _ _ h => h) (fun _ h => h.subl (SB.s (by repeat constructor)) (SB.s (by repeat constructor))) ?_; ((refine tx_single 4 (by kernel_rfl) (to_eg rfl rfl rfl rfl (e_bslice rfl (by (repeat (first | exact .nil | apply PV.one rfl rfl)); done) rfl rfl) (.inr ⟨fun _ _ h => h.subl (SB.s (by repeat constructor)) (SB.s (by repeat constructor)), fun _ h => h⟩) (fun _ _ => ?_))))
  all_goals (refine tx_single 5 (by kernel_rfl) (to_eg rfl rfl rfl rfl (e_callV rfl (.cons rfl (.cons rfl .nil)) (fun w' hw' => ints9_t [5, 6] (by decide) _ _ w' (r1.fr (hw'.fr (w0 := wl2) (S := []) (MI.m (by repeat constructor)))) (RdI.own0 (xs := [5, 6]) hw' (by repeat constructor)))) (.inr ⟨fun _ _ h => h.subl (SB.s (by repeat constructor)) (SB.s (by repeat constructor)), fun _ h => h⟩) (fun _ _ => ?_))); refine tx_norm (L' := [true, true, true, true, true, true, false, false, false, false, false, false, false, false, false, false, false, false, false, false, false, false, false, false, false, false, false, false, false, false, false, false, false, false, false, false, false, false, false, false, false, false, false, false, false, false, false, false, false, false, false, false, false, false, false, false, false, false, false, false, false, false, false, false, false, false, false, false, false, false, false, false, false, false, false, false, false, false, false, false, false, false, false, false, false, false, false, false, false]) (by kernel_rfl) ?_; refine tx_p 6 rfl (by kernel_rfl) (y_pick_t rfl rfl) rfl (fun _ _ _ h => h) (fun _ h => h.subl (SB.s (by repeat constructor)) (SB.s (by repeat constructor))) ?_; refine tx_p 7 rfl (by kernel_rfl) (y_move rfl) rfl (fun _ _ _ h => h) (fun _ h => h.subl (SB.s (by repeat constructor)) (SB.s (by repeat constructor))) ?_; refine tx_pg 8 rfl (by kernel_rfl) rfl rfl (y_move rfl) rfl (fun _ _ _ h => h) (fun _ h => h.subl (SB.s (by repeat constructor)) (SB.s (by repeat constructor))) ?_; refine tx_pg 9 rfl (by kernel_rfl) rfl rfl (y_eql rfl rfl) rfl (fun _ _ _ h => h) (fun _ h => h.subl (SB.s (by repeat constructor)) (SB.s (by repeat constructor))) ?_; refine tx_p 10 rfl (by kernel_rfl) (y_pick_t rfl rfl) rfl (fun _ _ _ h => h) (fun _ h => h.subl (SB.s (by repeat constructor)) (SB.s (by repeat constructor))) ?_; refine tx_p 11 rfl (by kernel_rfl) (y_move rfl) rfl (fun _ _ _ h => h) (fun _ h => h.subl (SB.s (by repeat constructor)) (SB.s (by repeat constructor))) ?_; refine tx_norm (L' := [true, true, true, true, true, true, true, true, true, true, true, true, false, false, false, false, false, false, false, false, false, false, false, false, false, false, false, false, false, false, false, false, false, false, false, false, false, false, false, false, false, false, false, false, false, false, false, false, false, false, false, false, false, false, false, false, false, false, false, false, false, false, false, false, false, false, false, false, false, false, false, false, false, false, false, false, false, false, false, false, false, false, false, false, false, false, false, false, false]) (by kernel_rfl) ?_; refine tx_pg 12 rfl (by kernel_rfl) rfl rfl (y_move rfl) rfl (fun _ _ _ h => h) (fun _ h => h.subl (SB.s (by repeat constructor)) (SB.s (by repeat constructor))) ?_; refine tx_qg 13 rfl (by kernel_rfl) rfl rfl (y_len rfl) rfl (fun _ _ _ h => h) (fun _ h => h.subl (SB.s (by repeat constructor)) (SB.s (by repeat constructor))) ?_; refine tx_pg 14 rfl (by kernel_rfl) rfl rfl (y_eql rfl rfl) rfl (fun _ _ _ h => h) (fun _ h => h.subl (SB.s (by repeat constructor)) (SB.s (by repeat constructor))) ?_; refine tx_p 15 rfl (by kernel_rfl) (y_pick_t rfl rfl) rfl (fun _ _ _ h => h) (fun _ h => h.subl (SB.s (by repeat constructor)) (SB.s (by repeat constructor))) ?_; refine tx_p 16 rfl (by kernel_rfl) (y_move rfl) rfl (fun _ _ _ h => h) (fun _ h => h.subl (SB.s (by repeat constructor)) (SB.s (by repeat constructor))) ?_; refine tx_pg 17 rfl (by kernel_rfl) rfl rfl (y_move rfl) rfl (fun _ _ _ h => h) (fun _ h => h.subl (SB.s (by repeat constructor)) (SB.s (by repeat constructor))) ?_; refine tx_norm (L' := [true, true, true, true, true, true, true, true, true, true, true, true, true, true, true, true, true, true, false, false, false, false, false, false, false, false, false, false, false, false, false, false, false, false, false, false, false, false, false, false, false, false, false, false, false, false, false, false, false, false, false, false, false, false, false, false, false, false, false, false, false, false, false, false, false, false, false, false, false, false, false, false, false, false, false, false, false, false, false, false, false, false, false, false, false, false, false, false, false]) (by kernel_rfl) ?_; refine tx_pg 18 rfl (by kernel_rfl) rfl rfl (y_index rfl rfl (by omega) hadE') rfl (fun _ _ _ h => h) (fun _ h => h.subl (SB.s (by repeat constructor)) (SB.s (by repeat constructor))) ?_; refine tx_qg 19 rfl (by kernel_rfl) rfl rfl (y_load1o (v := vsE.getD 0 (.slice none 0 0)) rfl (fun w' hw' => hcE w' (hw'.fr (w0 := y2.2) (S := []) (MI.m (by repeat constructor))) 0 (by decide))) rfl (fun _ _ _ h => h) (fun _ h => h.subl (SB.s (by repeat constructor)) (SB.s (by repeat constructor))) ?_; ((refine tx_single 20 (by kernel_rfl) (to_eg rfl rfl rfl rfl (e_bslice rfl (by (repeat (first | exact .nil | apply PV.one rfl rfl)); done) rfl rfl) (.inr ⟨fun _ _ h => h.subl (SB.s (by repeat constructor)) (SB.s (by repeat constructor)), fun _ h => h⟩) (fun _ _ => ?_))))
  all_goals (refine tx_single 21 (by kernel_rfl) (to_eg rfl rfl rfl rfl (e_callV rfl (.cons rfl (.cons rfl .nil)) (fun w' hw' => ints9_t [-2, -1, 0, 1, 2] (by decide) _ _ w' (hiE w' (hw'.fr (w0 := y2.2) (S := []) (MI.m (by repeat constructor))) 0 (by decide)) (RdI.own0 (xs := [-2, -1, 0, 1, 2]) hw' (by repeat constructor)))) (.inr ⟨fun _ _ h => h.subl (SB.s (by repeat constructor)) (SB.s (by repeat constructor)), fun _ h => h⟩) (fun _ _ => ?_))); refine tx_p 22 rfl (by kernel_rfl) (y_pick_t rfl rfl) rfl (fun _ _ _ h => h) (fun _ h => h.subl (SB.s (by repeat constructor)) (SB.s (by repeat constructor))) ?_; refine tx_p 23 rfl (by kernel_rfl) (y_move rfl) rfl (fun _ _ _ h => h) (fun _ h => h.subl (SB.s (by repeat constructor)) (SB.s (by repeat constructor))) ?_; refine tx_norm (L' := [true, true, true, true, true, true, true, true, true, true, true, true, true, true, true, true, true, true, true, true, true, true, true, true, false, false, false, false, false, false, false, false, false, false, false, false, false, false, false, false, false, false, false, false, false, false, false, false, false, false, false, false, false, false, false, false, false, false, false, false, false, false, false, false, false, false, false, false, false, false, false, false, false, false, false, false, false, false, false, false, false, false, false, false, false, false, false, false, false]) (by kernel_rfl) ?_; refine tx_pg 24 rfl (by kernel_rfl) rfl rfl (y_move rfl) rfl (fun _ _ _ h => h) (fun _ h => h.subl (SB.s (by repeat constructor)) (SB.s (by repeat constructor))) ?_; refine tx_pg 25 rfl (by kernel_rfl) rfl rfl (y_index rfl rfl (by omega) hadE') rfl (fun _ _ _ h => h) (fun _ h => h.subl (SB.s (by repeat constructor)) (SB.s (by repeat constructor))) ?_; refine tx_qg 26 rfl (by kernel_rfl) rfl rfl (y_load1o (v := vsE.getD 1 (.slice none 0 0)) rfl (fun w' hw' => hcE w' (hw'.fr (w0 := y2.2) (S := []) (MI.m (by repeat constructor))) 1 (by decide))) rfl (fun _ _ _ h => h) (fun _ h => h.subl (SB.s (by repeat constructor)) (SB.s (by repeat constructor))) ?_; ((refine tx_single 27 (by kernel_rfl) (to_eg rfl rfl rfl rfl (e_bslice rfl (by (repeat (first | exact .nil | apply PV.one rfl rfl)); done) rfl rfl) (.inr ⟨fun _ _ h => h.subl (SB.s (by repeat constructor)) (SB.s (by repeat constructor)), fun _ h => h⟩) (fun _ _ => ?_))))
  all_goals (refine tx_single 28 (by kernel_rfl) (to_eg rfl rfl rfl rfl (e_callV rfl (.cons rfl (.cons rfl .nil)) (fun w' hw' => ints9_t [1] (by decide) _ _ w' (hiE w' (hw'.fr (w0 := y2.2) (S := []) (MI.m (by repeat constructor))) 1 (by decide)) (RdI.own0 (xs := [1]) hw' (by repeat constructor)))) (.inr ⟨fun _ _ h => h.subl (SB.s (by repeat constructor)) (SB.s (by repeat constructor)), fun _ h => h⟩) (fun _ _ => ?_))); refine tx_p 29 rfl (by kernel_rfl) (y_pick_t rfl rfl) rfl (fun _ _ _ h => h) (fun _ h => h.subl (SB.s (by repeat constructor)) (SB.s (by repeat constructor))) ?_; refine tx_norm (L' := [true, true, true, true, true, true, true, true, true, true, true, true, true, true, true, true, true, true, true, true, true, true, true, true, true, true, true, true, true, true, false, false, false, false, false, false, false, false, false, false, false, false, false, false, false, false, false, false, false, false, false, false, false, false, false, false, false, false, false, false, false, false, false, false, false, false, false, false, false, false, false, false, false, false, false, false, false, false, false, false, false, false, false, false, false, false, false, false, false]) (by kernel_rfl) ?_; refine tx_p 30 rfl (by kernel_rfl) (y_move rfl) rfl (fun _ _ _ h => h) (fun _ h => h.subl (SB.s (by repeat constructor)) (SB.s (by repeat constructor))) ?_; refine tx_pg 31 rfl (by kernel_rfl) rfl rfl (y_move rfl) rfl (fun _ _ _ h => h) (fun _ h => h.subl (SB.s (by repeat constructor)) (SB.s (by repeat constructor))) ?_; refine tx_pg 32 rfl (by kernel_rfl) rfl rfl (y_eql rfl rfl) rfl (fun _ _ _ h => h) (fun _ h => h.subl (SB.s (by repeat constructor)) (SB.s (by repeat constructor))) ?_; refine tx_p 33 rfl (by kernel_rfl) (y_pick_t rfl rfl) rfl (fun _ _ _ h => h) (fun _ h => h.subl (SB.s (by repeat constructor)) (SB.s (by repeat constructor))) ?_; refine tx_p 34 rfl (by kernel_rfl) (y_move rfl) rfl (fun _ _ _ h => h) (fun _ h => h.subl (SB.s (by repeat constructor)) (SB.s (by repeat constructor))) ?_; refine tx_pg 35 rfl (by kernel_rfl) rfl rfl (y_move rfl) rfl (fun _ _ _ h => h) (fun _ h => h.subl (SB.s (by repeat constructor)) (SB.s (by repeat constructor))) ?_; refine tx_norm (L' := [true, true, true, true, true, true, true, true, true, true, true, true, true, true, true, true, true, true, true, true, true, true, true, true, true, true, true, true, true, true, true, true, true, true, true, true, false, false, false, false, false, false, false, false, false, false, false, false, false, false, false, false, false, false, false, false, false, false, false, false, false, false, false, false, false, false, false, false, false, false, false, false, false, false, false, false, false, false, false, false, false, false, false, false, false, false, false, false, false]) (by kernel_rfl) ?_; refine tx_pg 36 rfl (by kernel_rfl) rfl rfl (y_eql rfl rfl) rfl (fun _ _ _ h => h) (fun _ h => h.subl (SB.s (by repeat constructor)) (SB.s (by repeat constructor))) ?_; refine tx_p 37 rfl (by kernel_rfl) (y_pick_t rfl rfl) rfl (fun _ _ _ h => h) (fun _ h => h.subl (SB.s (by repeat constructor)) (SB.s (by repeat constructor))) ?_; refine tx_p 38 rfl (by kernel_rfl) (y_move rfl) rfl (fun _ _ _ h => h) (fun _ h => h.subl (SB.s (by repeat constructor)) (SB.s (by repeat constructor))) ?_; refine tx_pg 39 rfl (by kernel_rfl) rfl rfl (y_move rfl) rfl (fun _ _ _ h => h) (fun _ h => h.subl (SB.s (by repeat constructor)) (SB.s (by repeat constructor))) ?_; refine tx_pg 40 rfl (by kernel_rfl) rfl rfl (y_eql rfl rfl) rfl (fun _ _ _ h => h) (fun _ h => h.subl (SB.s (by repeat constructor)) (SB.s (by repeat constructor))) ?_; refine tx_p 41 rfl (by kernel_rfl) (y_pick_t rfl rfl) rfl (fun _ _ _ h => h) (fun _ h => h.subl (SB.s (by repeat constructor)) (SB.s (by repeat constructor))) ?_; refine tx_norm (L' := [true, true, true, true, true, true, true, true, true, true, true, true, true, true, true, true, true, true, true, true, true, true, true, true, true, true, true, true, true, true, true, true, true, true, true, true, true, true, true, true, true, true, false, false, false, false, false, false, false, false, false, false, false, false, false, false, false, false, false, false, false, false, false, false, false, false, false, false, false, false, false, false, false, false, false, false, false, false, false, false, false, false, false, false, false, false, false, false, false]) (by kernel_rfl) ?_; refine tx_p 42 rfl (by kernel_rfl) (y_move rfl) rfl (fun _ _ _ h => h) (fun _ h => h.subl (SB.s (by repeat constructor)) (SB.s (by repeat constructor))) ?_; refine tx_pg 43 rfl (by kernel_rfl) rfl rfl (y_move rfl) rfl (fun _ _ _ h => h) (fun _ h => h.subl (SB.s (by repeat constructor)) (SB.s (by repeat constructor))) ?_; refine tx_qg 44 rfl (by kernel_rfl) rfl rfl (y_len rfl) rfl (fun _ _ _ h => h) (fun _ h => h.subl (SB.s (by repeat constructor)) (SB.s (by repeat constructor))) ?_; refine tx_pg 45 rfl (by kernel_rfl) rfl rfl (y_eql rfl rfl) rfl (fun _ _ _ h => h) (fun _ h => h.subl (SB.s (by repeat constructor)) (SB.s (by repeat constructor))) ?_; refine tx_p 46 rfl (by kernel_rfl) (y_pick_t rfl rfl) rfl (fun _ _ _ h => h) (fun _ h => h.subl (SB.s (by repeat constructor)) (SB.s (by repeat constructor))) ?_; refine tx_p 47 rfl (by kernel_rfl) (y_move rfl) rfl (fun _ _ _ h => h) (fun _ h => h.subl (SB.s (by repeat constructor)) (SB.s (by repeat constructor))) ?_; refine tx_norm (L' := [true, true, true, true, true, true, true, true, true, true, true, true, true, true, true, true, true, true, true, true, true, true, true, true, true, true, true, true, true, true, true, true, true, true, true, true, true, true, true, true, true, true, true, true, true, true, true, true, false, false, false, false, false, false, false, false, false, false, false, false, false, false, false, false, false, false, false, false, false, false, false, false, false, false, false, false, false, false, false, false, false, false, false, false, false, false, false, false, false]) (by kernel_rfl) ?_; refine tx_pg 48 rfl (by kernel_rfl) rfl rfl (y_move rfl) rfl (fun _ _ _ h => h) (fun _ h => h.subl (SB.s (by repeat constructor)) (SB.s (by repeat constructor))) ?_; ((refine tx_pg 49 rfl (by kernel_rfl) rfl rfl (y_index rfl rfl (by omega) (by injection eC with e1; exact e1.trans hadC')) rfl (fun _ _ _ h => h) (fun _ h => h.subl (SB.s (by repeat constructor)) (SB.s (by repeat constructor))) ?_))
  all_goals (refine tx_qg 50 rfl (by kernel_rfl) rfl rfl (y_loadNo (n := 2) (vs := [vi 0, vi 2]) rfl (fun w' hw' => hcC w' [] (hw'.fr (w0 := y4.2) (S := []) (MI.m (by repeat constructor))) (by simp) 0 (by decide))) rfl (fun _ _ _ h => h) (fun _ h => h.subl (SB.s (by repeat constructor)) (SB.s (by repeat constructor))) ?_); refine tx_pg 51 rfl (by kernel_rfl) rfl rfl (y_build_g (by repeat constructor)) rfl (fun _ _ _ h => h) (fun _ h => h.subl (SB.s (by repeat constructor)) (SB.s (by repeat constructor))) ?_; refine tx_pg 52 rfl (by kernel_rfl) rfl rfl (y_eql2 rfl rfl) rfl (fun _ _ _ h => h) (fun _ h => h.subl (SB.s (by repeat constructor)) (SB.s (by repeat constructor))) ?_; refine tx_p 53 rfl (by kernel_rfl) (y_pick_t rfl rfl) rfl (fun _ _ _ h => h) (fun _ h => h.subl (SB.s (by repeat constructor)) (SB.s (by repeat constructor))) ?_; refine tx_norm (L' := [true, true, true, true, true, true, true, true, true, true, true, true, true, true, true, true, true, true, true, true, true, true, true, true, true, true, true, true, true, true, true, true, true, true, true, true, true, true, true, true, true, true, true, true, true, true, true, true, true, true, true, true, true, true, false, false, false, false, false, false, false, false, false, false, false, false, false, false, false, false, false, false, false, false, false, false, false, false, false, false, false, false, false, false, false, false, false, false, false]) (by kernel_rfl) ?_; refine tx_p 54 rfl (by kernel_rfl) (y_move rfl) rfl (fun _ _ _ h => h) (fun _ h => h.subl (SB.s (by repeat constructor)) (SB.s (by repeat constructor))) ?_; refine tx_pg 55 rfl (by kernel_rfl) rfl rfl (y_move rfl) rfl (fun _ _ _ h => h) (fun _ h => h.subl (SB.s (by repeat constructor)) (SB.s (by repeat constructor))) ?_; ((refine tx_pg 56 rfl (by kernel_rfl) rfl rfl (y_index rfl rfl (by omega) (by injection eC with e1; exact e1.trans hadC')) rfl (fun _ _ _ h => h) (fun _ h => h.subl (SB.s (by repeat constructor)) (SB.s (by repeat constructor))) ?_))
  all_goals (refine tx_qg 57 rfl (by kernel_rfl) rfl rfl (y_loadNo (n := 2) (vs := [vi 1, vi 0]) rfl (fun w' hw' => hcC w' [] (hw'.fr (w0 := y4.2) (S := []) (MI.m (by repeat constructor))) (by simp) 1 (by decide))) rfl (fun _ _ _ h => h) (fun _ h => h.subl (SB.s (by repeat constructor)) (SB.s (by repeat constructor))) ?_); refine tx_pg 58 rfl (by kernel_rfl) rfl rfl (y_build_g (by repeat constructor)) rfl (fun _ _ _ h => h) (fun _ h => h.subl (SB.s (by repeat constructor)) (SB.s (by repeat constructor))) ?_; refine tx_pg 59 rfl (by kernel_rfl) rfl rfl (y_eql2 rfl rfl) rfl (fun _ _ _ h => h) (fun _ h => h.subl (SB.s (by repeat constructor)) (SB.s (by repeat constructor))) ?_; refine tx_norm (L' := [true, true, true, true, true, true, true, true, true, true, true, true, true, true, true, true, true, true, true, true, true, true, true, true, true, true, true, true, true, true, true, true, true, true, true, true, true, true, true, true, true, true, true, true, true, true, true, true, true, true, true, true, true, true, true, true, true, true, true, true, false, false, false, false, false, false, false, false, false, false, false, false, false, false, false, false, false, false, false, false, false, false, false, false, false, false, false, false, false]) (by kernel_rfl) ?_; refine tx_p 60 rfl (by kernel_rfl) (y_pick_t rfl rfl) rfl (fun _ _ _ h => h) (fun _ h => h.subl (SB.s (by repeat constructor)) (SB.s (by repeat constructor))) ?_; refine tx_p 61 rfl (by kernel_rfl) (y_move rfl) rfl (fun _ _ _ h => h) (fun _ h => h.subl (SB.s (by repeat constructor)) (SB.s (by repeat constructor))) ?_; refine tx_pg 62 rfl (by kernel_rfl) rfl rfl (y_move rfl) rfl (fun _ _ _ h => h) (fun _ h => h.subl (SB.s (by repeat constructor)) (SB.s (by repeat constructor))) ?_; refine tx_pg 63 rfl (by kernel_rfl) rfl rfl (y_eql rfl rfl) rfl (fun _ _ _ h => h) (fun _ h => h.subl (SB.s (by repeat constructor)) (SB.s (by repeat constructor))) ?_; refine tx_p 64 rfl (by kernel_rfl) (y_pick_t rfl rfl) rfl (fun _ _ _ h => h) (fun _ h => h.subl (SB.s (by repeat constructor)) (SB.s (by repeat constructor))) ?_; refine tx_p 65 rfl (by kernel_rfl) (y_move rfl) rfl (fun _ _ _ h => h) (fun _ h => h.subl (SB.s (by repeat constructor)) (SB.s (by repeat constructor))) ?_; refine tx_norm (L' := [true, true, true, true, true, true, true, true, true, true, true, true, true, true, true, true, true, true, true, true, true, true, true, true, true, true, true, true, true, true, true, true, true, true, true, true, true, true, true, true, true, true, true, true, true, true, true, true, true, true, true, true, true, true, true, true, true, true, true, true, true, true, true, true, true, true, false, false, false, false, false, false, false, false, false, false, false, false, false, false, false, false, false, false, false, false, false, false, false]) (by kernel_rfl) ?_; refine tx_qg 66 rfl (by kernel_rfl) rfl rfl (y_loadWf rfl (hl6.at (by repeat constructor)) (MI.m (by repeat constructor)) (by simp) (by rfl)) rfl (fun _ _ _ h => h) (fun _ h => h.subl (SB.s (by repeat constructor)) (SB.s (by repeat constructor))) ?_; refine tx_single 67 (by kernel_rfl) (to_eg rfl rfl rfl rfl (e_callV rfl (.cons rfl (.cons rfl .nil)) (fun w' _ => between9_c _ _ w')) (.inr ⟨fun _ _ h => h.subl (SB.s (by repeat constructor)) (SB.s (by repeat constructor)), fun _ h => h⟩) (fun _ _ => ?_)); refine tx_pg 68 rfl (by kernel_rfl) rfl rfl (y_eql2 rfl rfl) rfl (fun _ _ _ h => h) (fun _ h => h.subl (SB.s (by repeat constructor)) (SB.s (by repeat constructor))) ?_; refine tx_p 69 rfl (by kernel_rfl) (y_pick_t rfl rfl) rfl (fun _ _ _ h => h) (fun _ h => h.subl (SB.s (by repeat constructor)) (SB.s (by repeat constructor))) ?_; refine tx_p 70 rfl (by kernel_rfl) (y_move rfl) rfl (fun _ _ _ h => h) (fun _ h => h.subl (SB.s (by repeat constructor)) (SB.s (by repeat constructor))) ?_; refine tx_pg 71 rfl (by kernel_rfl) rfl rfl (y_move rfl) rfl (fun _ _ _ h => h) (fun _ h => h.subl (SB.s (by repeat constructor)) (SB.s (by repeat constructor))) ?_; refine tx_norm (L' := [true, true, true, true, true, true, true, true, true, true, true, true, true, true, true, true, true, true, true, true, true, true, true, true, true, true, true, true, true, true, true, true, true, true, true, true, true, true, true, true, true, true, true, true, true, true, true, true, true, true, true, true, true, true, true, true, true, true, true, true, true, true, true, true, true, true, true, true, true, true, true, true, false, false, false, false, false, false, false, false, false, false, false, false, false, false, false, false, false]) (by kernel_rfl) ?_; refine tx_pg 72 rfl (by kernel_rfl) rfl rfl (y_eql rfl rfl) rfl (fun _ _ _ h => h) (fun _ h => h.subl (SB.s (by repeat constructor)) (SB.s (by repeat constructor))) ?_; refine tx_p 73 rfl (by kernel_rfl) (y_pick_t rfl rfl) rfl (fun _ _ _ h => h) (fun _ h => h.subl (SB.s (by repeat constructor)) (SB.s (by repeat constructor))) ?_; refine tx_p 74 rfl (by kernel_rfl) (y_move rfl) rfl (fun _ _ _ h => h) (fun _ h => h.subl (SB.s (by repeat constructor)) (SB.s (by repeat constructor))) ?_; refine tx_pg 75 rfl (by kernel_rfl) rfl rfl (y_move rfl) rfl (fun _ _ _ h => h) (fun _ h => h.subl (SB.s (by repeat constructor)) (SB.s (by repeat constructor))) ?_; ((refine tx_single 76 (by kernel_rfl) (to_eg rfl rfl rfl rfl (e_bslice rfl (by (repeat (first | exact .nil | apply PV.one rfl rfl)); done) rfl rfl) (.inr ⟨fun _ _ h => h.subl (SB.s (by repeat constructor)) (SB.s (by repeat constructor)), fun _ h => h⟩) (fun _ _ => ?_))))
  all_goals (refine tx_single 77 (by kernel_rfl) (to_eg rfl rfl rfl rfl (e_callV rfl (.cons rfl (.cons rfl .nil)) (fun w' hw' => ints9_t [1] (by decide) _ _ w' (hy6.1.fr (hw'.fr (w0 := y6.2) (S := []) (MI.m (by repeat constructor)))) (RdI.own0 (xs := [1]) hw' (by repeat constructor)))) (.inr ⟨fun _ _ h => h.subl (SB.s (by repeat constructor)) (SB.s (by repeat constructor)), fun _ h => h⟩) (fun _ _ => ?_))); refine tx_norm (L' := [true, true, true, true, true, true, true, true, true, true, true, true, true, true, true, true, true, true, true, true, true, true, true, true, true, true, true, true, true, true, true, true, true, true, true, true, true, true, true, true, true, true, true, true, true, true, true, true, true, true, true, true, true, true, true, true, true, true, true, true, true, true, true, true, true, true, true, true, true, true, true, true, true, true, true, true, true, true, false, false, false, false, false, false, false, false, false, false, false]) (by kernel_rfl) ?_; refine tx_p 78 rfl (by kernel_rfl) (y_pick_t rfl rfl) rfl (fun _ _ _ h => h) (fun _ h => h.subl (SB.s (by repeat constructor)) (SB.s (by repeat constructor))) ?_; refine tx_p 79 rfl (by kernel_rfl) (y_move rfl) rfl (fun _ _ _ h => h) (fun _ h => h.subl (SB.s (by repeat constructor)) (SB.s (by repeat constructor))) ?_; refine tx_pg 80 rfl (by kernel_rfl) rfl rfl (y_move rfl) rfl (fun _ _ _ h => h) (fun _ h => h.subl (SB.s (by repeat constructor)) (SB.s (by repeat constructor))) ?_; refine tx_pg 81 rfl (by kernel_rfl) rfl rfl (y_eql rfl rfl) rfl (fun _ _ _ h => h) (fun _ h => h.subl (SB.s (by repeat constructor)) (SB.s (by repeat constructor))) ?_; refine tx_p 82 rfl (by kernel_rfl) (y_pick_t rfl rfl) rfl (fun _ _ _ h => h) (fun _ h => h.subl (SB.s (by repeat constructor)) (SB.s (by repeat constructor))) ?_; refine tx_p 83 rfl (by kernel_rfl) (y_move rfl) rfl (fun _ _ _ h => h) (fun _ h => h.subl (SB.s (by repeat constructor)) (SB.s (by repeat constructor))) ?_; refine tx_norm (L' := [true, true, true, true, true, true, true, true, true, true, true, true, true, true, true, true, true, true, true, true, true, true, true, true, true, true, true, true, true, true, true, true, true, true, true, true, true, true, true, true, true, true, true, true, true, true, true, true, true, true, true, true, true, true, true, true, true, true, true, true, true, true, true, true, true, true, true, true, true, true, true, true, true, true, true, true, true, true, true, true, true, true, true, true, false, false, false, false, false]) (by kernel_rfl) ?_; refine tx_pg 84 rfl (by kernel_rfl) rfl rfl (y_move rfl) rfl (fun _ _ _ h => h) (fun _ h => h.subl (SB.s (by repeat constructor)) (SB.s (by repeat constructor))) ?_; ((refine tx_single 85 (by kernel_rfl) (to_eg rfl rfl rfl rfl (e_bslice rfl (by (repeat (first | exact .nil | apply PV.one rfl rfl)); done) rfl rfl) (.inr ⟨fun _ _ h => h.subl (SB.s (by repeat constructor)) (SB.s (by repeat constructor)), fun _ h => h⟩) (fun _ _ => ?_))))
  all_goals (refine tx_single 86 (by kernel_rfl) (to_eg rfl rfl rfl rfl (e_callV rfl (.cons rfl (.cons rfl .nil)) (fun w' hw' => ints9_t [2] (by decide) _ _ w' (r7.fr (hw'.fr (w0 := wl8) (S := []) (MI.m (by repeat constructor)))) (RdI.own0 (xs := [2]) hw' (by repeat constructor)))) (.inr ⟨fun _ _ h => h.subl (SB.s (by repeat constructor)) (SB.s (by repeat constructor)), fun _ h => h⟩) (fun _ _ => ?_))); refine tx_p 87 rfl (by kernel_rfl) (y_pick_t rfl rfl) rfl (fun _ _ _ h => h) (fun _ h => h.subl (SB.s (by repeat constructor)) (SB.s (by repeat constructor))) ?_; refine tx_p 88 rfl (by kernel_rfl) (y_assign rfl) rfl (fun _ _ _ h => h) (fun _ h => h.subl (SB.s (by repeat constructor)) (SB.s (by repeat constructor))) ?_; refine tx_done (by kernel_rfl) ?_; ((refine hK9 ?_; try (clear hK9; clear K9)))
  all_goals refine tc_ret ?_; (repeat (first | refine tk_then_ret ?_))
  all_goals (refine tk_ret rfl rfl (.cons (.tmp rfl) .nil) ?_)
  all_goals (
   exact fun w' hw' => ⟨rfl, hw'.fr (w0 := w) (S := []) (MI.m (by repeat constructor))⟩)
end Go.Sp
/-
  Helpers of the statements about trials.
-/
namespace Go.Sp
open Go Go.Proofs
theorem tr_ones {t : Tr} {sl pl ll tl : Value} (h1 : sl.oneCell' = true) (h2 : pl.oneCell' = true) (h3 : ll.oneCell' = true) (h4 : tl.oneCell' = true) : ∀ v ∈ (#[vi t.s.mass, vi t.s.volume, vi t.s.step, vi t.s.divisions, vi t.s.width, sl, pl, vi t.worst, ll, tl] : Array Value).toList, v.oneCell' = true := by
  intro v hv
  simp only [List.mem_cons, List.not_mem_nil, or_false] at hv
  rcases hv with rfl | rfl | rfl | rfl | rfl | rfl | rfl | rfl | rfl | rfl
  all_goals (first | rfl | assumption)
def thin9P (t : Tr) : Prop := (t.s.weights.length : Int) ≤ 9 ∧ (t.parts.length : Int) ≤ 6 ∧ (t.liquids.length : Int) ≤ 5 ∧ (t.tests.length : Int) ≤ 9
instance (t : Tr) : Decidable (thin9P t) := by unfold thin9P; infer_instance
theorem thin9P.nt {t : Tr} (h : thin9P t) : NT t := by
  obtain ⟨h1, h2, h3, h4⟩ := h
  exact ⟨by omega, by omega, by omega, by omega⟩
theorem thin9_c (t : Tr) (sl pl ll tl : Value) (w : World) (hr : RdTr w t sl pl ll tl) : CnV Tryz.prog 15 #[trV t sl pl ll tl] w (.bool (decide (thin9P t))) := by
  have hr0 := hr
  obtain ⟨_, _, _, _, rfl, _, _⟩ := hr.ps.open
  obtain ⟨_, _, _, _, rfl, _, _⟩ := hr.ls.open
  obtain ⟨_, _, _, _, rfl, _, _⟩ := hr.ts.open
  refine cnv (vs := [_]) Tryz.func15 rfl rfl ?_
  all_goals refine tc_seq fun K1 hK1 => ?_; refine tc_region ?_; refine tl_e (e_box rfl rfl rfl) rfl (fun _ _ => ?_); refine tl_q (y_assign rfl) rfl ?_; refine tl_nil ?_; ((refine hK1 ?_; try (clear hK1; clear K1)))
  all_goals refine tc_seq fun K2 hK2 => ?_; refine tc_region ?_; refine tl_q (y_field rfl) rfl ?_; ((refine tl_q (y_loadN rfl (by repeat constructor) (by (repeat (first | exact .nil | apply CA.cons rfl)); done)) rfl ?_))
  all_goals refine tl_e (e_callV rfl (.cons rfl .nil) (fun w' hw' => thin_c t.s sl w' (hr0.ws.fr (hw'.fr (by simp))))) rfl (fun _ _ => ?_); refine tl_q (y_move rfl) rfl ?_; ((refine tl_gs rfl rfl (fun hc => ?_) (fun hc => ?_) <;> (try simp only [decide_eq_true_eq, decide_eq_false_iff_not, Int.not_lt, Int.not_le, Bool.not_eq_true', Bool.not_eq_false', Decidable.not_not, not_true_eq_false] at hc) <;> (first | refine tl_sk rfl rfl rfl rfl ?_ | refine tl_qg rfl rfl (y_field rfl) rfl ?_)))
  all_goals (first | refine tl_sk rfl rfl rfl rfl ?_ | refine tl_qg rfl rfl (y_load1 rfl (by repeat constructor) (by rfl)) rfl ?_); (first | refine tl_sk rfl rfl rfl rfl ?_ | refine tl_qg rfl rfl (y_len rfl) rfl ?_); (first | refine tl_sk rfl rfl rfl rfl ?_ | refine tl_qg rfl rfl (y_leq rfl rfl) rfl ?_); (first | refine tl_q (y_pick_t rfl rfl) rfl ?_ | refine tl_q (y_pick_f rfl rfl) rfl ?_); refine tl_q (y_move rfl) rfl ?_; ((first | refine tl_sk rfl rfl rfl rfl ?_ | (refine tl_gs rfl rfl (fun hc => ?_) (fun hc => ?_) <;> (try simp only [decide_eq_true_eq, decide_eq_false_iff_not, Int.not_lt, Int.not_le, Bool.not_eq_true', Bool.not_eq_false', Decidable.not_not, not_true_eq_false] at hc) <;> (first | refine tl_sk rfl rfl rfl rfl ?_ | refine tl_qg rfl rfl (y_field rfl) rfl ?_))))
  all_goals (first | refine tl_sk rfl rfl rfl rfl ?_ | refine tl_qg rfl rfl (y_load1 rfl (by repeat constructor) (by rfl)) rfl ?_); (first | refine tl_sk rfl rfl rfl rfl ?_ | refine tl_qg rfl rfl (y_len rfl) rfl ?_); (first | refine tl_sk rfl rfl rfl rfl ?_ | refine tl_qg rfl rfl (y_leq rfl rfl) rfl ?_); (first | refine tl_q (y_pick_t rfl rfl) rfl ?_ | refine tl_q (y_pick_f rfl rfl) rfl ?_); refine tl_q (y_move rfl) rfl ?_; ((first | refine tl_sk rfl rfl rfl rfl ?_ | (refine tl_gs rfl rfl (fun hc => ?_) (fun hc => ?_) <;> (try simp only [decide_eq_true_eq, decide_eq_false_iff_not, Int.not_lt, Int.not_le, Bool.not_eq_true', Bool.not_eq_false', Decidable.not_not, not_true_eq_false] at hc) <;> (first | refine tl_sk rfl rfl rfl rfl ?_ | refine tl_qg rfl rfl (y_field rfl) rfl ?_))))
  all_goals (first | refine tl_sk rfl rfl rfl rfl ?_ | refine tl_qg rfl rfl (y_load1 rfl (by repeat constructor) (by rfl)) rfl ?_); (first | refine tl_sk rfl rfl rfl rfl ?_ | refine tl_qg rfl rfl (y_len rfl) rfl ?_); (first | refine tl_sk rfl rfl rfl rfl ?_ | refine tl_qg rfl rfl (y_leq rfl rfl) rfl ?_); (first | refine tl_q (y_pick_t rfl rfl) rfl ?_ | refine tl_q (y_pick_f rfl rfl) rfl ?_); refine tl_q (y_assign rfl) rfl ?_; refine tl_nil ?_; ((refine hK2 ?_; try (clear hK2; clear K2)))
  all_goals refine tc_ret ?_; (repeat (first | refine tk_then_ret ?_))
  all_goals (refine tk_ret rfl rfl (.cons (.tmp rfl) .nil) ?_)
  all_goals (
   refine fun w' hw' => ⟨congrArg (fun b => Ending.returned (Value.bool b)) ?_, hw'.fr (by simp)⟩
   unfold thin9P
   first
   | exact decide_eq_decide.2 (by omega)
   | exact (decide_eq_false (by omega)).symm)
theorem ready9_c (t : Tr) (sl pl ll tl : Value) (w : World) (hr : RdTr w t sl pl ll tl) : CnV Tryz.prog 34 #[trV t sl pl ll tl] w (.bool (decide (thin9P t ∧ chkT t = 0))) := by
  refine cnv (vs := [_]) Tryz.func34 rfl rfl ?_
  all_goals refine tc_seq fun K1 hK1 => ?_; refine tc_region ?_; refine tl_e (e_box rfl rfl rfl) rfl (fun _ _ => ?_); refine tl_q (y_assign rfl) rfl ?_; refine tl_nil ?_; ((refine hK1 ?_; try (clear hK1; clear K1)))
  all_goals refine tc_seq fun K2 hK2 => ?_; refine tc_region ?_; refine tl_q (y_loadW rfl (by repeat constructor) (by rfl)) rfl ?_; refine tl_e (e_callV rfl (.cons rfl .nil) (fun w' hw' => thin9_c t sl pl ll tl w' (hr.fr (hw'.fr (by simp))))) rfl (fun _ _ => ?_); refine tl_q (y_move rfl) rfl ?_; ((refine tl_gs rfl rfl (fun hc => ?_) (fun hc => ?_) <;> (try simp only [decide_eq_true_eq, decide_eq_false_iff_not, Int.not_lt, Int.not_le, Bool.not_eq_true', Bool.not_eq_false', Decidable.not_not, not_true_eq_false] at hc) <;> (first | refine tl_sk rfl rfl rfl rfl ?_ | refine tl_qg rfl rfl (y_loadW rfl (by repeat constructor) (by rfl)) rfl ?_)))
  all_goals (first | refine tl_sk rfl rfl rfl rfl ?_ | refine tl_eg rfl rfl rfl (e_callV rfl (.cons rfl .nil) (fun w' hw' => faultT_c t (thin9P.nt (by assumption)) sl pl ll tl w' (hr.fr (hw'.fr (by simp))))) (fun _ _ => ?_)); (first | refine tl_sk rfl rfl rfl rfl ?_ | refine tl_qg rfl rfl (y_eql rfl rfl) rfl ?_); (first | refine tl_q (y_pick_t rfl rfl) rfl ?_ | refine tl_q (y_pick_f rfl rfl) rfl ?_); refine tl_q (y_assign rfl) rfl ?_; refine tl_nil ?_; ((refine hK2 ?_; try (clear hK2; clear K2)))
  all_goals refine tc_ret ?_; (repeat (first | refine tk_then_ret ?_))
  all_goals (refine tk_ret rfl rfl (.cons (.tmp rfl) .nil) ?_)
  all_goals (
   refine fun w' hw' => ⟨congrArg (fun b => Ending.returned (Value.bool b)) ?_, hw'.fr (by simp)⟩
   first
   | exact decide_eq_decide.2 ⟨fun h => ⟨by assumption, h⟩, fun h => h.2⟩
   | exact (decide_eq_false (fun h => absurd h.1 (by assumption))).symm)
theorem has9_c (l : List Int) (hl : (l.length : Int) ≤ 9000000000000000000) (n : Int) (lv : Value) (w : World) (hr : RdI w lv l) : CnV Tryz.prog 58 #[lv, vi n] w (.bool (decide (n ∈ l))) := by
  obtain ⟨ad, cap, b0, o, rfl, had, hcell⟩ := hr.open
  refine cnv (vs := [_, _]) Tryz.func58 rfl rfl ?_
  all_goals refine tc_seq fun K1 hK1 => ?_; refine tc_region ?_; refine tl_q (y_assign rfl) rfl ?_; refine tl_nil ?_; ((refine hK1 ?_; try (clear hK1; clear K1)))
  all_goals refine tc_seq fun K2 hK2 => ?_; refine tc_seq fun K3 hK3 => ?_; refine tc_region ?_; refine tl_q (y_assign rfl) rfl ?_; refine tl_nil ?_; ((refine hK3 ?_; try (clear hK3; clear K3)))
  all_goals refine tc_block ?_
  all_goals (
   refine tc_loop (fun k : Nat => k ≤ l.length ∧ ∀ j : Nat, j < k → l.getD j 0 ≠ n) (fun k => [(0, .slice ad l.length cap), (1, vi n), (5, vi k)]) (fun _ => [(w, [])]) (fun _ => []) (fun k => l.length - k) ?_ ?_
   · exact tk_start 0 ⟨Nat.zero_le _, fun i hi => absurd hi (Nat.not_lt_zero i)⟩ (.cons rfl (.cons rfl (.cons rfl .nil))) (fun _ h => h)
   · rintro k ⟨hk, hI⟩
     all_goals refine tc_seq fun K4 hK4 => ?_; refine tc_seq fun K5 hK5 => ?_; refine tc_region ?_; refine tl_q (y_move rfl) rfl ?_; refine tl_q (y_move rfl) rfl ?_; refine tl_q (y_len rfl) rfl ?_; refine tl_q (y_lss rfl rfl) rfl ?_; refine tl_nil ?_; ((refine hK5 ?_; try (clear hK5; clear K5)))
     all_goals (
      refine tc_cond rfl (fun hc => ?_) (fun hc => ?_)
      · try simp only [decide_eq_true_eq, decide_eq_false_iff_not, Int.not_lt, Int.not_le, Bool.not_eq_true', Bool.not_eq_false', Decidable.not_not, not_true_eq_false] at hc
        all_goals refine tc_skip ?_; ((refine hK4 ?_; try (clear hK4; clear K4)))
        all_goals refine tc_seq fun K6 hK6 => ?_; refine tc_block ?_; refine tc_seq fun K7 hK7 => ?_; have had' := had (by omega)
        all_goals refine tc_region ?_; refine tl_q (y_move rfl) rfl ?_; refine tl_q (y_move rfl) rfl ?_; refine tl_q (y_index rfl rfl (by omega) had') rfl ?_; ((refine tl_q (y_load1o (v := vi (l.getD k 0)) rfl (fun w' hw' => by rw [show Int.toNat (k : Int) * 1 = k from by omega]; exact hcell w' (hw'.fr (by simp)) k (by omega))) rfl ?_))
        all_goals refine tl_q (y_move rfl) rfl ?_; refine tl_q (y_eql rfl rfl) rfl ?_; refine tl_nil ?_; ((refine hK7 ?_; try (clear hK7; clear K7)))
        all_goals (
         refine tc_cond rfl (fun hc => ?_) (fun hc => ?_)
         · try simp only [decide_eq_true_eq, decide_eq_false_iff_not, Int.not_lt, Int.not_le, Bool.not_eq_true', Bool.not_eq_false', Decidable.not_not, not_true_eq_false] at hc
           all_goals refine tc_seq fun K8 hK8 => ?_; refine tc_region ?_; refine tl_q (y_assign rfl) rfl ?_; refine tl_nil ?_; ((refine hK8 ?_; try (clear hK8; clear K8)))
           all_goals refine tc_ret ?_; (repeat (first | refine tk_then_ret ?_ | refine tk_block_ret ?_))
           all_goals (refine tk_ret rfl rfl (.cons (.tmp rfl) .nil) ?_)
           all_goals (
            refine fun w' hw' => ⟨congrArg (fun b => Ending.returned (Value.bool b)) ?_, hw'.fr (by simp)⟩
            symm
            first
            | exact decide_eq_true (by rw [← hc, List.getD_eq_getElem?_getD, List.getElem?_eq_getElem (by omega)]; exact List.getElem_mem _)
            | exact decide_eq_false (fun h => by
                obtain ⟨j, hj, e⟩ := List.getElem_of_mem h
                have := hI j (by omega)
                rw [List.getD_eq_getElem?_getD, List.getElem?_eq_getElem hj] at this
                exact this e))
         · try simp only [decide_eq_true_eq, decide_eq_false_iff_not, Int.not_lt, Int.not_le, Bool.not_eq_true', Bool.not_eq_false', Decidable.not_not, not_true_eq_false] at hc
           all_goals refine tc_skip ?_; ((refine hK6 ?_; try (clear hK6; clear K6)))
           all_goals refine tc_region ?_; refine tl_q (y_move rfl) rfl ?_; refine tl_q (y_add rfl rfl (by omega)) rfl ?_; refine tl_q (y_assign rfl) rfl ?_; refine tl_nil ?_
           all_goals (
            exact tk_round (k + 1) ⟨by omega, fun i hi => by
              rcases Nat.lt_succ_iff_lt_or_eq.1 hi with h | rfl
              · exact hI i h
              · exact hc⟩ (by omega) (.cons rfl (.cons rfl (.cons rfl .nil))) (fun _ h => h)))
      · try simp only [decide_eq_true_eq, decide_eq_false_iff_not, Int.not_lt, Int.not_le, Bool.not_eq_true', Bool.not_eq_false', Decidable.not_not, not_true_eq_false] at hc
        all_goals refine tc_exit ?_; ((refine hK2 ?_; try (clear hK2; clear K2)))
        all_goals refine tc_seq fun K9 hK9 => ?_; refine tc_region ?_; refine tl_q (y_assign rfl) rfl ?_; refine tl_nil ?_; ((refine hK9 ?_; try (clear hK9; clear K9)))
        all_goals refine tc_ret ?_; (repeat (first | refine tk_then_ret ?_))
        all_goals (refine tk_ret rfl rfl (.cons (.tmp rfl) .nil) ?_)
        all_goals (
         refine fun w' hw' => ⟨congrArg (fun b => Ending.returned (Value.bool b)) ?_, hw'.fr (by simp)⟩
         symm
         first
         | exact decide_eq_true (by rw [← hc, List.getD_eq_getElem?_getD, List.getElem?_eq_getElem (by omega)]; exact List.getElem_mem _)
         | exact decide_eq_false (fun h => by
             obtain ⟨j, hj, e⟩ := List.getElem_of_mem h
             have := hI j (by omega)
             rw [List.getD_eq_getElem?_getD, List.getElem?_eq_getElem hj] at this
             exact this e))))
theorem subset9_c (a l : List Int) (ha : (a.length : Int) ≤ 9000000000000000000) (hl : (l.length : Int) ≤ 9000000000000000000) (av lv : Value) (w : World) (hA : RdI w av a) (hr : RdI w lv l) : CnV Tryz.prog 38 #[av, lv] w (.bool (a.all fun x => decide (x ∈ l))) := by
  obtain ⟨ad, cap, b0, o, rfl, had, hcell⟩ := hA.open
  refine cnv (vs := [_, _]) Tryz.func38 rfl rfl ?_
  all_goals refine tc_seq fun K1 hK1 => ?_; refine tc_region ?_; refine tl_q (y_assign rfl) rfl ?_; refine tl_nil ?_; ((refine hK1 ?_; try (clear hK1; clear K1)))
  all_goals refine tc_seq fun K2 hK2 => ?_; refine tc_seq fun K3 hK3 => ?_; refine tc_region ?_; refine tl_q (y_assign rfl) rfl ?_; refine tl_nil ?_; ((refine hK3 ?_; try (clear hK3; clear K3)))
  all_goals refine tc_block ?_
  all_goals (
   refine tc_loop (fun k : Nat => k ≤ a.length ∧ ∀ j : Nat, j < k → a.getD j 0 ∈ l) (fun k => [(0, .slice ad a.length cap), (1, lv), (5, vi k)]) (fun _ => [(w, [])]) (fun _ => []) (fun k => a.length - k) ?_ ?_
   · exact tk_start 0 ⟨Nat.zero_le _, fun i hi => absurd hi (Nat.not_lt_zero i)⟩ (.cons rfl (.cons rfl (.cons rfl .nil))) (fun _ h => h)
   · rintro k ⟨hk, hI⟩
     all_goals refine tc_seq fun K4 hK4 => ?_; refine tc_seq fun K5 hK5 => ?_; refine tc_region ?_; refine tl_q (y_move rfl) rfl ?_; refine tl_q (y_move rfl) rfl ?_; refine tl_q (y_len rfl) rfl ?_; refine tl_q (y_lss rfl rfl) rfl ?_; refine tl_nil ?_; ((refine hK5 ?_; try (clear hK5; clear K5)))
     all_goals (
      refine tc_cond rfl (fun hc => ?_) (fun hc => ?_)
      · try simp only [decide_eq_true_eq, decide_eq_false_iff_not, Int.not_lt, Int.not_le, Bool.not_eq_true', Bool.not_eq_false', Decidable.not_not, not_true_eq_false] at hc
        all_goals refine tc_skip ?_; ((refine hK4 ?_; try (clear hK4; clear K4)))
        all_goals refine tc_seq fun K6 hK6 => ?_; refine tc_block ?_; refine tc_seq fun K7 hK7 => ?_; have had' := had (by omega)
        all_goals refine tc_region ?_; refine tl_q (y_move rfl) rfl ?_; refine tl_q (y_move rfl) rfl ?_; refine tl_q (y_move rfl) rfl ?_; refine tl_q (y_index rfl rfl (by omega) had') rfl ?_; ((refine tl_q (y_load1o (v := vi (a.getD k 0)) rfl (fun w' hw' => by rw [show Int.toNat (k : Int) * 1 = k from by omega]; exact hcell w' (hw'.fr (by simp)) k (by omega))) rfl ?_))
        all_goals refine tl_e (e_callV rfl (.cons rfl (.cons rfl .nil)) (fun w' hw' => has9_c l hl (a.getD k 0) lv w' (hr.fr (hw'.fr (by simp))))) rfl (fun _ _ => ?_); refine tl_q (y_not_dec rfl) rfl ?_; refine tl_nil ?_; ((refine hK7 ?_; try (clear hK7; clear K7)))
        all_goals (
         refine tc_cond rfl (fun hc => ?_) (fun hc => ?_)
         · try simp only [decide_eq_true_eq, decide_eq_false_iff_not, Int.not_lt, Int.not_le, Bool.not_eq_true', Bool.not_eq_false', Decidable.not_not, not_true_eq_false] at hc
           all_goals refine tc_seq fun K8 hK8 => ?_; refine tc_region ?_; refine tl_q (y_assign rfl) rfl ?_; refine tl_nil ?_; ((refine hK8 ?_; try (clear hK8; clear K8)))
           all_goals refine tc_ret ?_; (repeat (first | refine tk_then_ret ?_ | refine tk_block_ret ?_))
           all_goals (refine tk_ret rfl rfl (.cons (.tmp rfl) .nil) ?_)
           all_goals (
            refine fun w' hw' => ⟨congrArg (fun b => Ending.returned (Value.bool b)) ?_, hw'.fr (by simp)⟩
            symm
            first
            | (rw [List.all_eq_false]
               exact ⟨a.getD k 0, by rw [List.getD_eq_getElem?_getD, List.getElem?_eq_getElem (by omega)]; exact List.getElem_mem _, by rw [decide_eq_true_eq]; exact hc⟩)
            | (rw [List.all_eq_true]
               intro x hx
               obtain ⟨j, hj, rfl⟩ := List.getElem_of_mem hx
               have := hI j (by omega)
               rw [List.getD_eq_getElem?_getD, List.getElem?_eq_getElem hj] at this
               exact decide_eq_true this))
         · try simp only [decide_eq_true_eq, decide_eq_false_iff_not, Int.not_lt, Int.not_le, Bool.not_eq_true', Bool.not_eq_false', Decidable.not_not, not_true_eq_false] at hc
           all_goals refine tc_skip ?_; ((refine hK6 ?_; try (clear hK6; clear K6)))
           all_goals refine tc_region ?_; refine tl_q (y_move rfl) rfl ?_; refine tl_q (y_add rfl rfl (by omega)) rfl ?_; refine tl_q (y_assign rfl) rfl ?_; refine tl_nil ?_
           all_goals (
            exact tk_round (k + 1) ⟨by omega, fun i hi => by
              rcases Nat.lt_succ_iff_lt_or_eq.1 hi with h | rfl
              · exact hI i h
              · exact hc⟩ (by omega) (.cons rfl (.cons rfl (.cons rfl .nil))) (fun _ h => h)))
      · try simp only [decide_eq_true_eq, decide_eq_false_iff_not, Int.not_lt, Int.not_le, Bool.not_eq_true', Bool.not_eq_false', Decidable.not_not, not_true_eq_false] at hc
        all_goals refine tc_exit ?_; ((refine hK2 ?_; try (clear hK2; clear K2)))
        all_goals refine tc_seq fun K9 hK9 => ?_; refine tc_region ?_; refine tl_q (y_assign rfl) rfl ?_; refine tl_nil ?_; ((refine hK9 ?_; try (clear hK9; clear K9)))
        all_goals refine tc_ret ?_; (repeat (first | refine tk_then_ret ?_))
        all_goals (refine tk_ret rfl rfl (.cons (.tmp rfl) .nil) ?_)
        all_goals (
         refine fun w' hw' => ⟨congrArg (fun b => Ending.returned (Value.bool b)) ?_, hw'.fr (by simp)⟩
         symm
         first
         | (rw [List.all_eq_false]
            exact ⟨a.getD k 0, by rw [List.getD_eq_getElem?_getD, List.getElem?_eq_getElem (by omega)]; exact List.getElem_mem _, by rw [decide_eq_true_eq]; exact hc⟩)
         | (rw [List.all_eq_true]
            intro x hx
            obtain ⟨j, hj, rfl⟩ := List.getElem_of_mem hx
            have := hI j (by omega)
            rw [List.getD_eq_getElem?_getD, List.getElem?_eq_getElem hj] at this
            exact decide_eq_true this))))
end Go.Sp
/-
  What several statements about trials use: answers as slices; appending to slices that may be long.
-/
namespace Go.Sp
open Go Go.Proofs
theorem slicedY {P : Program} {f : FuncId} {args : Array Value} {w : World} {g : Value → Value} {xs : List Int} (h : CnX P f args w [] g (fun v w' => RdI w' v xs)) :
    CnX P f args w [] (fun x : Option Addr × Nat => g (slV xs.length x)) (fun x w' => RdI w' (slV xs.length x) xs) :=
  CnX.of (h.out.mono fun e w' he => by
    obtain ⟨v, rfl, hf, hr⟩ := he
    obtain ⟨hl, ad, cap, rfl, h2⟩ := hr
    exact ⟨(ad, cap), rfl, hf, ⟨hl, ad, cap, rfl, h2⟩⟩)
theorem leaveT_sy (t : Tr) (hv : VT t) (sl pl ll tl : Value) (w : World) (hr : RdTr w t sl pl ll tl) :
    CnX Tryz.prog 37 #[trV t sl pl ll tl] w [] (fun x : Option Addr × Nat => .tuple #[slV (leaveTL t).length x, vi 0]) (fun x w' => RdI w' (slV (leaveTL t).length x) (leaveTL t)) :=
  slicedY (leaveT_ok t hv sl pl ll tl w hr)
theorem err_no12 (t : Tr) (hn : NT t) (he : askedE t = 11) (sl pl ll tl : Value) (w : World) (hr : RdTr w t sl pl ll tl) : CnV Tryz.prog 35 #[trV t sl pl ll tl] w (.tuple #[.slice none 0 0, vi 11]) := by
  have h := errors_no t hn (by omega) sl pl ll tl w hr
  rw [he] at h; exact h
/-- append to a slice of the call's own, which may be long. -/
theorem e_append_big {P : Program} {N : NN} {F : List (Nat × Value)} {bs : List (World × List Nat)} {H : List (Nat × Obj)} {ty : TypeId} {pos : String} {after : Array Edge} {g : Option (Nat × Bool)} {dd : Tmp} {t e : TypeId} {sz by_ : Nat} [hs : TySlice P t e sz] [hi : TyElem P e sz by_] {x y : Operand} {b len cap : Nat} {old junk : List Value} {H' : List (Nat × Obj)} {xv : Value} {n : Nat} {vs : List Value} (hd : Nat.blt dd N.n = true)
    (hx : evalO F x = some (.slice (some ⟨b, 0, none⟩) len cap)) (hy : evalO F y = some xv) (hdel : HD b (.cells (old ++ junk).toArray e (0, 0)) H H') (hlen : old.length = len * sz) (hcap : junk.length = (cap - len) * sz) (hlc : len ≤ cap)
    (hr : ∀ w, HG bs H w → Reads w xv sz n vs) (h1 : one' vs) (hsm : len + n ≤ 9223372036854775807) (hby : (len + n) * by_ ≤ 140737488355328) :
    OpE P ⟨some dd, .call ⟨.builtin .append, #[x, y], #[t, t]⟩, ty, pos, after, g⟩ N F bs H (fun r : Nat × Nat × List Value => len + n ≤ r.2.1 ∧ r.2.2.length = (r.2.1 - (len + n)) * sz) (fun r => (dd, .slice (some ⟨r.1, 0, none⟩) (len + n) r.2.1) :: F) (fun _ => bs)
      (fun r => (r.1, .cells (old ++ vs ++ r.2.2).toArray e (0, 0)) :: H') := by
  unfold OpE
  intro a w ht hw K Q hK
  obtain ⟨i, z, h1', h2, h3, h4, h5⟩ := hi.info
  have hb := hw.heap _ hdel.mem
  have hsrc : Src P i.size t xv n vs w := by rw [h3]; exact (hr w hw).src h1
  have hvl : vs.length = n * sz := (hr w hw).1
  unfold Oper.wp
  simp only [execOp, resolve, invoke, builtin, Sem.run_bind, Sem.run_pure, Result.andThen, List.map_toArray, List.map_cons, List.map_nil, ht.eval hx, ht.eval hy]
  by_cases hroom : len + n ≤ cap
  · have hsz : (old ++ junk).length = cap * sz := by
      rw [List.length_append, hlen, hcap, ← Nat.add_mul]; congr 1; omega
    have hle : len * sz + n * sz ≤ cap * sz := by rw [← Nat.add_mul]; exact Nat.mul_le_mul_right _ hroom
    obtain ⟨w', c', k1, k2, k3, k4, k5, k6, k7⟩ := storeCells_at (P := P) (b := b) (o := len * sz) (e := e) vs 0 w (old ++ junk).toArray hb (by simp only [List.size_toArray, hsz, hvl]; omega) h1
    have hlt : ∀ j, j < vs.length → len * sz + j < (old ++ junk).length := fun j hj => by rw [hsz]; omega
    have hcc : ∀ j, j < vs.length → (w.cell? ⟨b, 0 + len * i.size + j, none⟩).isSome = true := fun j hj => by
      have := hlt j hj
      simp only [World.cell?, hb, h3, Nat.zero_add]
      simp
      simpa using this
    have hff : ∀ j, j < vs.length → w.frozen? ⟨b, 0 + len * i.size + j, none⟩ = false := fun j hj => by simp [World.frozen?, hb]
    have hrun := run_append_room_src (P := P) w t t ty e i hs.ty h1' b 0 len cap xv n vs hsrc hroom hcc hff
    have hst := run_storeCells_cells (P := P) b (0 + len * i.size) vs 0 w (by simpa using hcc) (by simpa using hff) h1
    simp only [Nat.add_zero, Nat.zero_add, h3] at hst hrun
    rw [k1] at hst
    obtain rfl : w' = w.setCells b (len * sz) vs := by injection hst
    rw [hrun]
    simp only [Sem.run_pure, Result.andThen, Oper.upon]
    have hcells : c' = (old ++ vs ++ junk.drop (n * sz)).toArray := by
      apply Array.ext_getElem?
      intro k
      rw [k7 k]
      simp only [Nat.add_zero, List.getElem?_toArray]
      by_cases hk : len * sz ≤ k ∧ k < len * sz + vs.length
      · rw [if_pos hk, List.append_assoc, List.getElem?_append_right (by omega), List.getElem?_append_left (by omega), hlen]
      · rw [if_neg hk]
        by_cases hk' : k < len * sz
        · rw [List.getElem?_append_left (by omega), List.append_assoc, List.getElem?_append_left (by omega)]
        · rw [List.getElem?_append_right (by omega), List.getElem?_append_right (by simp only [List.length_append]; omega), List.getElem?_drop]
          congr 1
          simp only [List.length_append]
          omega
    subst hcells
    have hhg : HG bs ((b, .cells (old ++ vs ++ junk.drop (n * sz)).toArray e (0, 0)) :: H') (w.setCells b (len * sz) vs) :=
      (hw.perm hdel.perm).set .head ⟨k2, k3, k4, k5⟩
    refine hK (b, cap, junk.drop (n * sz)) _ _ ⟨hroom, ?_⟩ (ht.put hd _) hhg
    simp only [List.length_drop, hcap]
    rw [← Nat.sub_mul]; congr 1; omega
  · have hrun := run_append_grow_src (P := P) w t t ty e i z hs.ty h1' h2 (some ⟨b, 0, none⟩) len cap old (by
      rw [h3]
      refine firstCells_run (w := w.drew) ⟨hlen, _, _, rfl, fun hne => ⟨b, 0, rfl, ?_⟩⟩
      have hca := CA_pre old junk e (0, 0)
      rw [hlen] at hca
      exact hca.cells hb) xv n vs hsrc (by omega) (by omega) (by rw [h4]; exact growslice_fits (by omega) hby)
    rw [hrun]
    simp only [Sem.run_pure, Result.andThen, Oper.upon]
    have hcells : (old ++ vs).toArray ++ Builtin.zeroCells z.cells (grownCap w (len + n) cap e - (len + n)) = (old ++ vs ++ (Builtin.zeroCells z.cells (grownCap w (len + n) cap e - (len + n))).toList).toArray := by apply Array.ext'; simp
    rw [hcells]
    refine hK (w.heap.size, grownCap w (len + n) cap e, (Builtin.zeroCells z.cells (grownCap w (len + n) cap e - (len + n))).toList) _ _ ⟨?_, ?_⟩ (ht.put hd _) ((hw.sub (fun _ h => h) hdel.sub).drew.alloc _)
    · simp [grownCap, Question.cut]
    · simp [Builtin.zeroCells, h5]
end Go.Sp
/-
  TrialMore: the law's function returns true.
-/
namespace Go.Sp
open Go Go.Proofs
abbrev moT (t : Tr) (x : E3) : Tr := { t with tests := t.tests ++ [x] }
theorem moT_mor (t : Tr) (x : E3) : Mor t (moT t x) x := ⟨rfl, rfl, rfl, rfl, rfl⟩
/-- So many tests, and one more, are not too many bytes. -/
def BigOk (n : Nat) : Prop := (n + 1) * 24 ≤ 140737488355328
theorem BigOk.a {n : Nat} (h : BigOk n) : (0 + n) * 24 ≤ 140737488355328 := Nat.le_trans (Nat.mul_le_mul_right 24 (by omega)) h
theorem BigOk.b {n : Nat} {x : E3} (h : BigOk n) : (0 + n + [x].length) * 24 ≤ 140737488355328 := Nat.le_trans (Nat.mul_le_mul_right 24 (by rw [List.length_singleton, Nat.zero_add]; exact Nat.le_refl _)) h
theorem BigOk.c {n : Nat} (h : BigOk n) : n + 1 ≤ 9223372036854775807 := Nat.le_trans (Nat.le_mul_of_pos_right _ (by decide)) (Nat.le_trans h (by decide))
set_option maxHeartbeats 2000000 in
theorem more_law (t : Tr) (x : E3) (n : Int) (hn8 : 0 ≤ n ∧ n ≤ 255) (hbig : BigOk t.tests.length) (sl pl ll tl : Value) (w : World) (hr : RdTr w t sl pl ll tl) :
    CnV Tryz.prog 6 #[trV t sl pl ll tl, tsV x, v8 n] w (.bool true) := by
  have hr0 := hr
  obtain ⟨aw, cw, _, _, rfl, _, _⟩ := hr.ws.open
  obtain ⟨ap, cp, _, _, rfl, _, _⟩ := hr.ps.open
  obtain ⟨al, cl, _, _, rfl, _, _⟩ := hr.ls.open
  obtain ⟨at', ct, _, _, rfl, _, _⟩ := hr.ts.open
  have hmt : t.tests.length + 1 ≤ 9223372036854775807 := BigOk.c hbig
  rcases hJ : judgeE t (n % 4) with ⟨i, e2⟩
  rcases hK' : judgeE (moT t x) (n % 4) with ⟨k, f2⟩
  have hul : (moT t x).tests.length = t.tests.length + 1 := by simp [moT]
  refine cnv (vs := [_, _, _]) Tryz.func6 rfl rfl ?_
  all_goals refine tc_seq fun K1 hK1 => ?_; refine tc_region ?_; refine tl_e (e_box rfl rfl rfl) rfl (fun b3 _ => ?_); refine tl_e (e_box rfl rfl rfl) rfl (fun b4 _ => ?_); refine tl_q (y_assign rfl) rfl ?_; refine tl_nil ?_; ((refine hK1 ?_; try (clear hK1; clear K1)))
  all_goals refine tc_seq fun K2 hK2 => ?_; refine tc_region ?_; refine tl_q (y_loadW rfl (by repeat constructor) (by rfl)) rfl ?_; refine tl_e (e_allocN rfl) rfl (fun b7 _ => ?_); refine tl_e (e_storeW (cs := #[vi t.s.mass, vi t.s.volume, vi t.s.step, vi t.s.divisions, vi t.s.width, .slice aw t.s.weights.length cw, .slice ap t.parts.length cp, vi t.worst, .slice al t.liquids.length cl, .slice at' t.tests.length ct]) rfl rfl (by repeat constructor) (by rfl) (by rfl) (tr_ones rfl rfl rfl rfl)) rfl (fun _ _ => ?_); refine tl_nil ?_; ((refine hK2 ?_; try (clear hK2; clear K2)))
  all_goals refine tc_seq fun K3 hK3 => ?_; refine tc_drawS ([(b4, .cells (tsV x).cells 72 (0, 0)), (b3, .cells #[vi t.s.mass, vi t.s.volume, vi t.s.step, vi t.s.divisions, vi t.s.width, .slice aw t.s.weights.length cw, .slice ap t.parts.length cp, vi t.worst, .slice al t.liquids.length cl, .slice at' t.tests.length ct] 28 (0, 0))]) (by kernel_rfl) ?_; refine tx_p 1 rfl (by kernel_rfl) (y_field rfl) rfl (fun _ _ _ h => h) (fun _ h => h.subl (SB.s (by repeat constructor)) (SB.s (by repeat constructor))) ?_; refine tx_qS 2 rfl (by kernel_rfl) (y_load1 rfl (by repeat constructor) (by rfl)) rfl (fun _ _ _ h => h) (fun _ h => h.subl (SB.s (by repeat constructor)) (SB.s (by repeat constructor))) ?_; refine tx_qS 4 rfl (by kernel_rfl) (y_loadW rfl (by repeat constructor) (by rfl)) rfl (fun _ _ _ h => h) (fun _ h => h.subl (SB.s (by repeat constructor)) (SB.s (by repeat constructor))) ?_
  all_goals (
   refine tx_pair 0 5 (by kernel_rfl) ?_ ?_
   rotate_left
   focus (
    (refine to_e rfl rfl (e_bslice31 rfl rfl) (.inr ⟨fun _ _ h => h.subl (SB.s (by repeat constructor)) (SB.s (by repeat constructor)), fun _ h => h⟩) (fun b28 _ => ?_))
    all_goals ((refine tx_single 0 (by kernel_rfl) (to_e rfl rfl (e_bslice rfl (by (repeat (exact .nil)); done) rfl rfl) (.inr ⟨fun _ _ h => h.subl (SB.s (by repeat constructor)) (SB.s (by repeat constructor)), fun _ h => h⟩) (fun b23 _ => ?_))))
    all_goals (refine tx_single 3 (by kernel_rfl) (to_e rfl rfl (e_append_big (old := []) (junk := []) rfl rfl rfl (by repeat constructor) (by rfl) (by rfl) (Nat.le_refl _) (fun w' hw' => hr0.ts.fr (hw'.fr (w0 := w) (S := []) (MI.m (by repeat constructor)))) (flatT_one _) (by omega) (BigOk.a hbig)) (.inr ⟨fun _ _ h => h.subl (SB.s (by repeat constructor)) (SB.s (by repeat constructor)), fun _ h => h⟩) (fun z hz => ?_))); ((refine tx_single 6 (by kernel_rfl) (to_e rfl rfl (e_append_big (old := [] ++ flatT t.tests) (junk := z.2.2) rfl rfl rfl (by repeat constructor) (by rw [List.nil_append, flatT_len]; omega) hz.2 hz.1 (fun w' hw' => RdT.own0 (xs := [x]) hw' (by repeat constructor)) (flatT_one _) (by rw [List.length_singleton, Nat.zero_add]; exact hmt) (BigOk.b hbig)) (.inr ⟨fun _ _ h => h.subl (SB.s (by repeat constructor)) (SB.s (by repeat constructor)), fun _ h => h⟩) (fun u hu => ?_))))
    all_goals refine tx_p 7 rfl (by kernel_rfl) (y_field rfl) rfl (fun _ _ _ h => h) (fun _ h => h.subl (SB.s (by repeat constructor)) (SB.s (by repeat constructor))) ?_; refine tx_single 8 (by kernel_rfl) (to_e (S' := HG [] []) rfl rfl (e_store1 rfl rfl (by repeat constructor) (by repeat constructor) (by rfl) (by rfl)) (.inl (by kernel_rfl)) (fun _ _ => ?_))
    all_goals refine tx_done (by kernel_rfl) ?_)
   rotate_right
   focus (
    (refine to_e rfl rfl (e_bslice rfl (by (repeat (exact .nil)); done) rfl rfl) (.inr ⟨fun _ _ h => h.subl (SB.s (by repeat constructor)) (SB.s (by repeat constructor)), fun _ h => h⟩) (fun b23 _ => ?_))
    all_goals (
     refine tx_pair 3 5 (by kernel_rfl) ?_ ?_
     rotate_left
     focus (
      (refine to_e rfl rfl (e_bslice31 rfl rfl) (.inr ⟨fun _ _ h => h.subl (SB.s (by repeat constructor)) (SB.s (by repeat constructor)), fun _ h => h⟩) (fun b28 _ => ?_))
      all_goals (refine tx_single 3 (by kernel_rfl) (to_e rfl rfl (e_append_big (old := []) (junk := []) rfl rfl rfl (by repeat constructor) (by rfl) (by rfl) (Nat.le_refl _) (fun w' hw' => hr0.ts.fr (hw'.fr (w0 := w) (S := []) (MI.m (by repeat constructor)))) (flatT_one _) (by omega) (BigOk.a hbig)) (.inr ⟨fun _ _ h => h.subl (SB.s (by repeat constructor)) (SB.s (by repeat constructor)), fun _ h => h⟩) (fun z hz => ?_))); ((refine tx_single 6 (by kernel_rfl) (to_e rfl rfl (e_append_big (old := [] ++ flatT t.tests) (junk := z.2.2) rfl rfl rfl (by repeat constructor) (by rw [List.nil_append, flatT_len]; omega) hz.2 hz.1 (fun w' hw' => RdT.own0 (xs := [x]) hw' (by repeat constructor)) (flatT_one _) (by rw [List.length_singleton, Nat.zero_add]; exact hmt) (BigOk.b hbig)) (.inr ⟨fun _ _ h => h.subl (SB.s (by repeat constructor)) (SB.s (by repeat constructor)), fun _ h => h⟩) (fun u hu => ?_))))
      all_goals refine tx_p 7 rfl (by kernel_rfl) (y_field rfl) rfl (fun _ _ _ h => h) (fun _ h => h.subl (SB.s (by repeat constructor)) (SB.s (by repeat constructor))) ?_; refine tx_single 8 (by kernel_rfl) (to_e (S' := HG [] []) rfl rfl (e_store1 rfl rfl (by repeat constructor) (by repeat constructor) (by rfl) (by rfl)) (.inl (by kernel_rfl)) (fun _ _ => ?_))
      all_goals refine tx_done (by kernel_rfl) ?_)
     rotate_right
     focus (
      (refine to_e rfl rfl (e_append_big (old := []) (junk := []) rfl rfl rfl (by repeat constructor) (by rfl) (by rfl) (Nat.le_refl _) (fun w' hw' => hr0.ts.fr (hw'.fr (w0 := w) (S := []) (MI.m (by repeat constructor)))) (flatT_one _) (by omega) (BigOk.a hbig)) (.inr ⟨fun _ _ h => h.subl (SB.s (by repeat constructor)) (SB.s (by repeat constructor)), fun _ h => h⟩) (fun z hz => ?_))
      all_goals (refine tx_single 5 (by kernel_rfl) (to_e rfl rfl (e_bslice31 rfl rfl) (.inr ⟨fun _ _ h => h.subl (SB.s (by repeat constructor)) (SB.s (by repeat constructor)), fun _ h => h⟩) (fun b28 _ => ?_))); ((refine tx_single 6 (by kernel_rfl) (to_e rfl rfl (e_append_big (old := [] ++ flatT t.tests) (junk := z.2.2) rfl rfl rfl (by repeat constructor) (by rw [List.nil_append, flatT_len]; omega) hz.2 hz.1 (fun w' hw' => RdT.own0 (xs := [x]) hw' (by repeat constructor)) (flatT_one _) (by rw [List.length_singleton, Nat.zero_add]; exact hmt) (BigOk.b hbig)) (.inr ⟨fun _ _ h => h.subl (SB.s (by repeat constructor)) (SB.s (by repeat constructor)), fun _ h => h⟩) (fun u hu => ?_))))
      all_goals refine tx_p 7 rfl (by kernel_rfl) (y_field rfl) rfl (fun _ _ _ h => h) (fun _ h => h.subl (SB.s (by repeat constructor)) (SB.s (by repeat constructor))) ?_; refine tx_single 8 (by kernel_rfl) (to_e (S' := HG [] []) rfl rfl (e_store1 rfl rfl (by repeat constructor) (by repeat constructor) (by rfl) (by rfl)) (.inl (by kernel_rfl)) (fun _ _ => ?_))
      all_goals refine tx_done (by kernel_rfl) ?_))))
  all_goals ((refine hK3 ?_; try (clear hK3; clear K3)))
  all_goals refine tc_seq fun K4 hK4 => ?_; refine tc_seq fun K5 hK5 => ?_; refine tc_lay ([]) (SB.s (by repeat constructor)) (fun wl3 hl3 => ?_); ((have hru : RdTr wl3 (moT t x) (.slice aw t.s.weights.length cw) (.slice ap t.parts.length cp) (.slice al t.liquids.length cl) (.slice (some ⟨u.1, 0, none⟩) (0 + t.tests.length + [x].length) u.2.1) := ⟨hr0.ws.fr (hl3.fr (w0 := w) (S := []) (MI.m (by repeat constructor))), hr0.ps.fr (hl3.fr (w0 := w) (S := []) (MI.m (by repeat constructor))), hr0.ls.fr (hl3.fr (w0 := w) (S := []) (MI.m (by repeat constructor))), by have := RdT.own (xs := t.tests ++ [x]) (b := u.1) (cap := u.2.1) (junk := u.2.2) (e := 72) (f := (0, 0)) hl3 (by rw [flatT_append]; repeat constructor); rw [List.length_append] at this; rw [Nat.zero_add]; exact this⟩))
  all_goals refine tc_region ?_; refine tl_q (y_loadWf rfl (hl3.at (by repeat constructor)) (MI.m (by repeat constructor)) (by simp) (by rfl)) rfl ?_; refine tl_e (e_callV rfl (.cons rfl .nil) (fun w' hw' => ready9_c t _ _ _ _ w' (hr0.fr (hw'.fr (w0 := w) (S := []) (MI.m (by repeat constructor)))))) rfl (fun _ _ => ?_); refine tl_q (y_not_dec rfl) rfl ?_; refine tl_q (y_move rfl) rfl ?_; ((refine tl_gs rfl rfl (fun hc => ?_) (fun hc => ?_) <;> (try simp only [bne_iff_ne, ne_eq, bne_eq_false_iff_eq, decide_eq_decide, true_iff, false_iff, decide_eq_true_eq, decide_eq_false_iff_not, Int.not_lt, Int.not_le, Bool.not_eq_true', Bool.not_eq_false', Decidable.not_not, not_true_eq_false] at hc) <;> (first | refine tl_sk rfl rfl rfl rfl ?_ | refine tl_qg rfl rfl (y_loadWf rfl (hl3.at (b := b7) (by repeat constructor)) (MI.m (by repeat constructor)) (by simp) (by rfl)) rfl ?_)))
  all_goals (first | refine tl_sk rfl rfl rfl rfl ?_ | refine tl_eg rfl rfl rfl (e_callV rfl (.cons rfl .nil) (fun w' hw' => ready9_c (moT t x) _ _ _ _ w' (hru.fr (hw'.fr (w0 := wl3) (S := []) (MI.m (by repeat constructor)))))) (fun _ _ => ?_)); (first | refine tl_sk rfl rfl rfl rfl ?_ | refine tl_qg rfl rfl (y_not_dec rfl) rfl ?_); (first | refine tl_q (y_pick_t rfl rfl) rfl ?_ | refine tl_q (y_pick_f rfl rfl) rfl ?_); refine tl_nil ?_; ((refine hK5 ?_; try (clear hK5; clear K5)))
  all_goals (
   refine tc_cond rfl (fun hc => ?_) (fun hc => ?_)
   · try simp only [bne_iff_ne, ne_eq, bne_eq_false_iff_eq, decide_eq_decide, true_iff, false_iff, decide_eq_true_eq, decide_eq_false_iff_not, Int.not_lt, Int.not_le, Bool.not_eq_true', Bool.not_eq_false', Decidable.not_not, not_true_eq_false] at hc
     all_goals refine tc_seq fun K6 hK6 => ?_; refine tc_region ?_; refine tl_e (e_callV rfl .nil (fun w' _ => awake9_c w')) rfl (fun _ _ => ?_); refine tl_q (y_assign rfl) rfl ?_; refine tl_nil ?_; ((refine hK6 ?_; try (clear hK6; clear K6)))
     all_goals refine tc_ret ?_; (repeat (refine tk_then_ret ?_))
     all_goals (refine tk_ret rfl rfl (.cons (.tmp rfl) .nil) ?_)
     all_goals (
      exact fun w' hw' => ⟨rfl, hw'.fr (w0 := w) (S := []) (MI.m (by repeat constructor))⟩)
   · try simp only [bne_iff_ne, ne_eq, bne_eq_false_iff_eq, decide_eq_decide, true_iff, false_iff, decide_eq_true_eq, decide_eq_false_iff_not, Int.not_lt, Int.not_le, Bool.not_eq_true', Bool.not_eq_false', Decidable.not_not, not_true_eq_false] at hc
     all_goals ((first | (exfalso; with_reducible exact btf hc) | skip))
     all_goals refine tc_skip ?_; ((refine hK4 ?_; try (clear hK4; clear K4)))
     all_goals refine tc_seq fun K7 hK7 => ?_; (obtain ⟨hth, hch⟩ : thin9P t ∧ chkT t = 0 := by assumption)
     all_goals (obtain ⟨huh, hcu⟩ : thin9P (moT t x) ∧ chkT (moT t x) = 0 := by assumption)
     all_goals ((have hv := chkT_0.1 hch; have hn := hth.nt; obtain ⟨ht1, ht2, ht3, ht4⟩ := hth))
     all_goals ((have hvu := chkT_0.1 hcu; have hnu := huh.nt; obtain ⟨hu1, hu2, hu3, hu4⟩ := huh))
     all_goals ((have hp1 := hv.p1; have hp3 := hv.p3; have ht6 := hv.t6; have hq3 := hv.l3; have hq1 := hv.l1))
     all_goals ((have hmo := moT_mor t x; have hlv := hmo.leave hv hvu; have hje := judge_e hv (by omega) hJ; have hke := judge_e hvu (by omega) hK'))
     all_goals (have hll := (leaveTL_some hv).2.inc.len (by omega))
     all_goals ((have hl0 := leave_0 hv; have hu0 := leave_0 hvu; have hjj := fun hf => hmo.judge hv hvu (by omega) hJ hK' hf))
     all_goals ((rcases asked_v hv with ⟨hA, _⟩ | ⟨hA, _⟩ <;> rcases asked_v hvu with ⟨hB, _⟩ | ⟨hB, _⟩))
     all_goals ((first | (exfalso; have := asked_sub hvu hv (fun e he => hmo.truths he) hB; omega) | skip))
     all_goals refine tc_region ?_; refine tl_q (y_move rfl) rfl ?_; refine tl_q (y_conv64 rfl (by omega)) rfl ?_; refine tl_q (y_rem rfl rfl (by omega) (by omega)) rfl ?_; refine tl_q (y_assign rfl) rfl ?_; refine tl_nil ?_; ((refine hK7 ?_; try (clear hK7; clear K7)))
     all_goals refine tc_seq fun K8 hK8 => ?_; refine tc_lay ([]) (SB.s (by repeat constructor)) (fun wl6 hl6 => ?_); refine tc_region ?_; refine tl_q (y_loadWf rfl (hl3.at (by repeat constructor)) (MI.m (by repeat constructor)) (by simp) (by rfl)) rfl ?_; refine tl_e (e_callX rfl (.cons rfl .nil) (fun w' hw' => trial9_c t (by omega) (by omega) (by omega) (by omega) _ _ _ _ w' (hr0.fr (hw'.fr (w0 := w) (S := []) (MI.m (by repeat constructor)))))) rfl (fun x6 hx6 => ?_); (first | refine tl_e (e_callX rfl (.cons rfl .nil) (fun w' hw' => errors_ok t hn hA _ _ _ _ w' (hx6.1.fr (hw'.fr (w0 := x6.2) (S := []) (MI.m (by repeat constructor)))))) rfl (fun y6 hy6 => ?_) | refine tl_e (e_callV rfl (.cons rfl .nil) (fun w' hw' => err_no12 t hn hA _ _ _ _ w' (hx6.1.fr (hw'.fr (w0 := x6.2) (S := []) (MI.m (by repeat constructor)))))) rfl (fun y6 hy6 => ?_)); refine tl_q (y_move rfl) rfl ?_; refine tl_q (y_extract rfl rfl) rfl ?_; refine tl_q (y_extract rfl rfl) rfl ?_; refine tl_q (y_assign rfl) rfl ?_; refine tl_q (y_assign rfl) rfl ?_; refine tl_nil ?_; ((refine hK8 ?_; try (clear hK8; clear K8)))
     all_goals refine tc_seq fun K9 hK9 => ?_; refine tc_lay ([]) (SB.s (by repeat constructor)) (fun wl7 hl7 => ?_); refine tc_region ?_; refine tl_q (y_loadWf rfl (hl3.at (b := b7) (by repeat constructor)) (MI.m (by repeat constructor)) (by simp) (by rfl)) rfl ?_; (refine tl_e (e_callX rfl (.cons rfl .nil) (fun w' hw' => trial9_c (moT t x) (by dsimp only; omega) (by dsimp only; omega) (by dsimp only; omega) (by dsimp only at hul ⊢; omega) _ _ _ _ w' (hru.fr (hw'.fr (w0 := wl3) (S := []) (MI.m (by repeat constructor)))))) rfl (fun x7 hx7 => ?_))
     all_goals (first | refine tl_e (e_callX rfl (.cons rfl .nil) (fun w' hw' => errors_ok (moT t x) hnu hB _ _ _ _ w' (hx7.1.fr (hw'.fr (w0 := x7.2) (S := []) (MI.m (by repeat constructor)))))) rfl (fun y7 hy7 => ?_) | refine tl_e (e_callV rfl (.cons rfl .nil) (fun w' hw' => err_no12 (moT t x) hnu hB _ _ _ _ w' (hx7.1.fr (hw'.fr (w0 := x7.2) (S := []) (MI.m (by repeat constructor)))))) rfl (fun y7 hy7 => ?_)); refine tl_q (y_move rfl) rfl ?_; refine tl_q (y_extract rfl rfl) rfl ?_; refine tl_q (y_extract rfl rfl) rfl ?_; refine tl_q (y_assign rfl) rfl ?_; refine tl_q (y_assign rfl) rfl ?_; refine tl_nil ?_; ((refine hK9 ?_; try (clear hK9; clear K9)))
     all_goals refine tc_seq fun K10 hK10 => ?_; refine tc_lay ([]) (SB.s (by repeat constructor)) (fun wl8 hl8 => ?_); refine tc_region ?_; refine tl_q (y_loadWf rfl (hl3.at (by repeat constructor)) (MI.m (by repeat constructor)) (by simp) (by rfl)) rfl ?_; refine tl_e (e_callX rfl (.cons rfl .nil) (fun w' hw' => trial9_c t (by omega) (by omega) (by omega) (by omega) _ _ _ _ w' (hr0.fr (hw'.fr (w0 := w) (S := []) (MI.m (by repeat constructor)))))) rfl (fun x8 hx8 => ?_); refine tl_q (y_move rfl) rfl ?_; ((refine tl_e (e_callV rfl (.cons rfl (.cons rfl .nil)) (fun w' hw' => by have h := judge_c t hn (n % 4) (by omega) _ _ _ _ w' (hx8.1.fr (hw'.fr (w0 := x8.2) (S := []) (MI.m (by repeat constructor)))); rw [hJ] at h; exact h)) rfl (fun _ _ => ?_)))
     all_goals refine tl_q (y_move rfl) rfl ?_; refine tl_q (y_extract rfl rfl) rfl ?_; refine tl_q (y_extract rfl rfl) rfl ?_; refine tl_q (y_assign rfl) rfl ?_; refine tl_q (y_assign rfl) rfl ?_; refine tl_nil ?_; ((refine hK10 ?_; try (clear hK10; clear K10)))
     all_goals refine tc_seq fun K11 hK11 => ?_; refine tc_lay ([]) (SB.s (by repeat constructor)) (fun wl9 hl9 => ?_); refine tc_region ?_; refine tl_q (y_loadWf rfl (hl3.at (b := b7) (by repeat constructor)) (MI.m (by repeat constructor)) (by simp) (by rfl)) rfl ?_; (refine tl_e (e_callX rfl (.cons rfl .nil) (fun w' hw' => trial9_c (moT t x) (by dsimp only; omega) (by dsimp only; omega) (by dsimp only; omega) (by dsimp only at hul ⊢; omega) _ _ _ _ w' (hru.fr (hw'.fr (w0 := wl3) (S := []) (MI.m (by repeat constructor)))))) rfl (fun x9 hx9 => ?_))
     all_goals refine tl_q (y_move rfl) rfl ?_; ((refine tl_e (e_callV rfl (.cons rfl (.cons rfl .nil)) (fun w' hw' => by have h := judge_c (moT t x) hnu (n % 4) (by omega) _ _ _ _ w' (hx9.1.fr (hw'.fr (w0 := x9.2) (S := []) (MI.m (by repeat constructor)))); rw [hK'] at h; exact h)) rfl (fun _ _ => ?_)))
     all_goals refine tl_q (y_move rfl) rfl ?_; refine tl_q (y_extract rfl rfl) rfl ?_; refine tl_q (y_extract rfl rfl) rfl ?_; refine tl_q (y_assign rfl) rfl ?_; refine tl_q (y_assign rfl) rfl ?_; refine tl_nil ?_; ((refine hK11 ?_; try (clear hK11; clear K11)))
     all_goals refine tc_seq fun K12 hK12 => ?_; refine tc_lay ([]) (SB.s (by repeat constructor)) (fun wl10 hl10 => ?_); refine tc_region ?_; refine tl_q (y_loadWf rfl (hl3.at (by repeat constructor)) (MI.m (by repeat constructor)) (by simp) (by rfl)) rfl ?_; refine tl_e (e_callX rfl (.cons rfl .nil) (fun w' hw' => trial9_c t (by omega) (by omega) (by omega) (by omega) _ _ _ _ w' (hr0.fr (hw'.fr (w0 := w) (S := []) (MI.m (by repeat constructor)))))) rfl (fun x10 hx10 => ?_); refine tl_e (e_callX rfl (.cons rfl .nil) (fun w' hw' => leaveT_sy t hv _ _ _ _ w' (hx10.1.fr (hw'.fr (w0 := x10.2) (S := []) (MI.m (by repeat constructor)))))) rfl (fun y10 hy10 => ?_); refine tl_q (y_move rfl) rfl ?_; refine tl_q (y_extract rfl rfl) rfl ?_; refine tl_q (y_extract rfl rfl) rfl ?_; refine tl_q (y_assign rfl) rfl ?_; refine tl_q (y_assign rfl) rfl ?_; refine tl_nil ?_; ((refine hK12 ?_; try (clear hK12; clear K12)))
     all_goals refine tc_seq fun K13 hK13 => ?_; refine tc_lay ([]) (SB.s (by repeat constructor)) (fun wl11 hl11 => ?_); refine tc_region ?_; refine tl_q (y_loadWf rfl (hl3.at (b := b7) (by repeat constructor)) (MI.m (by repeat constructor)) (by simp) (by rfl)) rfl ?_; (refine tl_e (e_callX rfl (.cons rfl .nil) (fun w' hw' => trial9_c (moT t x) (by dsimp only; omega) (by dsimp only; omega) (by dsimp only; omega) (by dsimp only at hul ⊢; omega) _ _ _ _ w' (hru.fr (hw'.fr (w0 := wl3) (S := []) (MI.m (by repeat constructor)))))) rfl (fun x11 hx11 => ?_))
     all_goals (refine tl_e (e_callX rfl (.cons rfl .nil) (fun w' hw' => leaveT_sy (moT t x) hvu _ _ _ _ w' (hx11.1.fr (hw'.fr (w0 := x11.2) (S := []) (MI.m (by repeat constructor)))))) rfl (fun y11 hy11 => ?_)); refine tl_q (y_move rfl) rfl ?_; refine tl_q (y_extract rfl rfl) rfl ?_; refine tl_q (y_extract rfl rfl) rfl ?_; refine tl_q (y_assign rfl) rfl ?_; refine tl_q (y_assign rfl) rfl ?_; refine tl_nil ?_; ((refine hK13 ?_; try (clear hK13; clear K13)))
     all_goals refine tc_seq fun K14 hK14 => ?_; refine tc_seq fun K15 hK15 => ?_; refine tc_lay ([]) (SB.s (by repeat constructor)) (fun wl12 hl12 => ?_); refine tc_region ?_; refine tl_q (y_move rfl) rfl ?_; refine tl_q (y_move rfl) rfl ?_; refine tl_q (y_neq rfl rfl) rfl ?_; refine tl_q (y_move rfl) rfl ?_; ((refine tl_gs rfl rfl (fun hc => ?_) (fun hc => ?_) <;> (try simp only [bne_iff_ne, ne_eq, bne_eq_false_iff_eq, decide_eq_decide, true_iff, false_iff, decide_eq_true_eq, decide_eq_false_iff_not, Int.not_lt, Int.not_le, Bool.not_eq_true', Bool.not_eq_false', Decidable.not_not, not_true_eq_false] at hc) <;> (first | (exfalso; omega) | refine tl_qg rfl rfl (y_move rfl) rfl ?_)))
     all_goals (refine tl_qg rfl rfl (y_move rfl) rfl ?_); refine tl_qg rfl rfl (y_neq rfl rfl) rfl ?_; refine tl_q (y_pick_f rfl rfl) rfl ?_; refine tl_q (y_move rfl) rfl ?_; ((refine tl_gs rfl rfl (fun hc => ?_) (fun hc => ?_) <;> (try simp only [bne_iff_ne, ne_eq, bne_eq_false_iff_eq, decide_eq_decide, true_iff, false_iff, decide_eq_true_eq, decide_eq_false_iff_not, Int.not_lt, Int.not_le, Bool.not_eq_true', Bool.not_eq_false', Decidable.not_not, not_true_eq_false] at hc) <;> (first | (exfalso; omega) | refine tl_qg rfl rfl (y_move rfl) rfl ?_)))
     all_goals (refine tl_qg rfl rfl (y_neq rfl rfl) rfl ?_); refine tl_q (y_pick_f rfl rfl) rfl ?_; refine tl_q (y_move rfl) rfl ?_; refine tl_qg rfl rfl (y_move rfl) rfl ?_; refine tl_qg rfl rfl (y_neq rfl rfl) rfl ?_; refine tl_q (y_pick_f rfl rfl) rfl ?_; refine tl_q (y_move rfl) rfl ?_; refine tl_qg rfl rfl (y_move rfl) rfl ?_; refine tl_qg rfl rfl (y_len rfl) rfl ?_; refine tl_qg rfl rfl (y_move rfl) rfl ?_; refine tl_qg rfl rfl (y_len rfl) rfl ?_; refine tl_qg rfl rfl (y_lss rfl rfl) rfl ?_; refine tl_q (y_pick_f rfl rfl) rfl ?_; refine tl_q (y_move rfl) rfl ?_; ((refine tl_gs rfl rfl (fun hc => ?_) (fun hc => ?_) <;> (try simp only [bne_iff_ne, ne_eq, bne_eq_false_iff_eq, decide_eq_decide, true_iff, false_iff, decide_eq_true_eq, decide_eq_false_iff_not, Int.not_lt, Int.not_le, Bool.not_eq_true', Bool.not_eq_false', Decidable.not_not, not_true_eq_false] at hc) <;> (first | (exfalso; omega) | refine tl_qg rfl rfl (y_move rfl) rfl ?_)))
     all_goals (refine tl_qg rfl rfl (y_len rfl) rfl ?_); refine tl_qg rfl rfl (y_move rfl) rfl ?_; refine tl_qg rfl rfl (y_len rfl) rfl ?_; refine tl_qg rfl rfl (y_add rfl rfl (by omega)) rfl ?_; refine tl_qg rfl rfl (y_gtr rfl rfl) rfl ?_; refine tl_q (y_pick_f rfl rfl) rfl ?_; refine tl_q (y_move rfl) rfl ?_; ((refine tl_gs rfl rfl (fun hc => ?_) (fun hc => ?_) <;> (try simp only [bne_iff_ne, ne_eq, bne_eq_false_iff_eq, decide_eq_decide, true_iff, false_iff, decide_eq_true_eq, decide_eq_false_iff_not, Int.not_lt, Int.not_le, Bool.not_eq_true', Bool.not_eq_false', Decidable.not_not, not_true_eq_false] at hc) <;> (first | (exfalso; omega) | refine tl_qg rfl rfl (y_move rfl) rfl ?_)))
     all_goals (refine tl_qg rfl rfl (y_eql rfl rfl) rfl ?_); refine tl_qg rfl rfl (y_move rfl) rfl ?_; refine tl_qg rfl rfl (y_len rfl) rfl ?_; refine tl_qg rfl rfl (y_eql rfl rfl) rfl ?_; refine tl_qg rfl rfl (y_neqb rfl rfl) rfl ?_; refine tl_q (y_pick_f rfl rfl) rfl ?_; refine tl_q (y_move rfl) rfl ?_; ((refine tl_gs rfl rfl (fun hc => ?_) (fun hc => ?_) <;> (try simp only [bne_iff_ne, ne_eq, bne_eq_false_iff_eq, decide_eq_decide, true_iff, false_iff, decide_eq_true_eq, decide_eq_false_iff_not, Int.not_lt, Int.not_le, Bool.not_eq_true', Bool.not_eq_false', Decidable.not_not, not_true_eq_false] at hc) <;> (first | (exfalso; omega) | refine tl_qg rfl rfl (y_move rfl) rfl ?_)))
     all_goals (refine tl_qg rfl rfl (y_eql rfl rfl) rfl ?_); refine tl_qg rfl rfl (y_move rfl) rfl ?_; refine tl_qg rfl rfl (y_len rfl) rfl ?_; refine tl_qg rfl rfl (y_eql rfl rfl) rfl ?_; refine tl_qg rfl rfl (y_neqb rfl rfl) rfl ?_; refine tl_q (y_pick_f rfl rfl) rfl ?_; refine tl_nil ?_; ((refine hK15 ?_; try (clear hK15; clear K15)))
     all_goals (
      refine tc_cond rfl (fun hc => ?_) (fun hc => ?_)
      · try simp only [bne_iff_ne, ne_eq, bne_eq_false_iff_eq, decide_eq_decide, true_iff, false_iff, decide_eq_true_eq, decide_eq_false_iff_not, Int.not_lt, Int.not_le, Bool.not_eq_true', Bool.not_eq_false', Decidable.not_not, not_true_eq_false] at hc
        all_goals ((exfalso; omega))
      · try simp only [bne_iff_ne, ne_eq, bne_eq_false_iff_eq, decide_eq_decide, true_iff, false_iff, decide_eq_true_eq, decide_eq_false_iff_not, Int.not_lt, Int.not_le, Bool.not_eq_true', Bool.not_eq_false', Decidable.not_not, not_true_eq_false] at hc
        all_goals refine tc_skip ?_; ((refine hK14 ?_; try (clear hK14; clear K14)))
        all_goals refine tc_seq fun K17 hK17 => ?_; refine tc_seq fun K18 hK18 => ?_; refine tc_lay ([]) (SB.s (by repeat constructor)) (fun wl14 hl14 => ?_); refine tc_region ?_; refine tl_q (y_move rfl) rfl ?_; refine tl_q (y_neq rfl rfl) rfl ?_; refine tl_nil ?_; ((refine hK18 ?_; try (clear hK18; clear K18)))
        all_goals (
         refine tc_cond rfl (fun hc => ?_) (fun hc => ?_)
         · try simp only [bne_iff_ne, ne_eq, bne_eq_false_iff_eq, decide_eq_decide, true_iff, false_iff, decide_eq_true_eq, decide_eq_false_iff_not, Int.not_lt, Int.not_le, Bool.not_eq_true', Bool.not_eq_false', Decidable.not_not, not_true_eq_false] at hc
           all_goals refine tc_seq fun K19 hK19 => ?_; refine tc_lay ([]) (SB.s (by repeat constructor)) (fun wl15 hl15 => ?_); refine tc_region ?_; refine tl_q (y_move rfl) rfl ?_; refine tl_q (y_eql rfl rfl) rfl ?_; refine tl_q (y_move rfl) rfl ?_; refine tl_qg rfl rfl (y_move rfl) rfl ?_; refine tl_qg rfl rfl (y_eql rfl rfl) rfl ?_; refine tl_qg rfl rfl (y_move rfl) rfl ?_; (first | refine tl_sk rfl rfl rfl rfl ?_ | refine tl_qg rfl rfl (y_move rfl) rfl ?_); (first | refine tl_sk rfl rfl rfl rfl ?_ | refine tl_qg rfl rfl (y_eql rfl rfl) rfl ?_); (first | refine tl_qg rfl rfl (y_pick_t rfl rfl) rfl ?_ | refine tl_qg rfl rfl (y_pick_f rfl rfl) rfl ?_); refine tl_q (y_pick_t rfl rfl) rfl ?_; refine tl_q (y_move rfl) rfl ?_; refine tl_eg rfl rfl rfl (e_callV rfl .nil (fun w' _ => awake9_c w')) (fun _ _ => ?_); refine tl_q (y_pick_t rfl rfl) rfl ?_; refine tl_q (y_assign rfl) rfl ?_; refine tl_nil ?_; ((refine hK19 ?_; try (clear hK19; clear K19)))
           all_goals refine tc_ret ?_; (repeat (refine tk_then_ret ?_))
           all_goals (refine tk_ret rfl rfl (.cons (.tmp rfl) .nil) ?_)
           all_goals (
            exact fun w' hw' => ⟨rfl, hw'.fr (w0 := w) (S := []) (MI.m (by repeat constructor))⟩)
         · try simp only [bne_iff_ne, ne_eq, bne_eq_false_iff_eq, decide_eq_decide, true_iff, false_iff, decide_eq_true_eq, decide_eq_false_iff_not, Int.not_lt, Int.not_le, Bool.not_eq_true', Bool.not_eq_false', Decidable.not_not, not_true_eq_false] at hc
           all_goals ((first | (exfalso; omega) | skip))
           all_goals refine tc_skip ?_; ((refine hK17 ?_; try (clear hK17; clear K17)))
           all_goals refine tc_seq fun K20 hK20 => ?_; refine tc_seq fun K21 hK21 => ?_; refine tc_lay ([]) (SB.s (by repeat constructor)) (fun wl16 hl16 => ?_); refine tc_region ?_; refine tl_q (y_move rfl) rfl ?_; refine tl_q (y_neq rfl rfl) rfl ?_; refine tl_q (y_move rfl) rfl ?_; refine tl_qg rfl rfl (y_move rfl) rfl ?_; refine tl_qg rfl rfl (y_len rfl) rfl ?_; refine tl_qg rfl rfl (y_move rfl) rfl ?_; refine tl_qg rfl rfl (y_len rfl) rfl ?_; refine tl_qg rfl rfl (y_neq rfl rfl) rfl ?_; refine tl_q (y_pick_f rfl rfl) rfl ?_; refine tl_q (y_move rfl) rfl ?_; ((refine tl_gs rfl rfl (fun hc => ?_) (fun hc => ?_) <;> (try simp only [bne_iff_ne, ne_eq, bne_eq_false_iff_eq, decide_eq_decide, true_iff, false_iff, decide_eq_true_eq, decide_eq_false_iff_not, Int.not_lt, Int.not_le, Bool.not_eq_true', Bool.not_eq_false', Decidable.not_not, not_true_eq_false] at hc) <;> (refine tl_qg rfl rfl (y_move rfl) rfl ?_)))
           all_goals (refine tl_qg rfl rfl (y_neq rfl rfl) rfl ?_); refine tl_qg rfl rfl (y_move rfl) rfl ?_; ((refine tl_gs rfl rfl (fun hc => ?_) (fun hc => ?_) <;> (try simp only [bne_iff_ne, ne_eq, bne_eq_false_iff_eq, decide_eq_decide, true_iff, false_iff, decide_eq_true_eq, decide_eq_false_iff_not, Int.not_lt, Int.not_le, Bool.not_eq_true', Bool.not_eq_false', Decidable.not_not, not_true_eq_false] at hc) <;> (first | refine tl_sk rfl rfl rfl rfl ?_ | refine tl_qg rfl rfl (y_move rfl) rfl ?_)))
           all_goals (first | refine tl_sk rfl rfl rfl rfl ?_ | refine tl_qg rfl rfl (y_move rfl) rfl ?_); (first | refine tl_sk rfl rfl rfl rfl ?_ | refine tl_qg rfl rfl (y_neq rfl rfl) rfl ?_); (first | refine tl_qg rfl rfl (y_pick_t rfl rfl) rfl ?_ | refine tl_qg rfl rfl (y_pick_f rfl rfl) rfl ?_); refine tl_q (y_pick_f rfl rfl) rfl ?_; refine tl_nil ?_; ((refine hK21 ?_; try (clear hK21; clear K21)))
           all_goals (
            refine tc_cond rfl (fun hc => ?_) (fun hc => ?_)
            · try simp only [bne_iff_ne, ne_eq, bne_eq_false_iff_eq, decide_eq_decide, true_iff, false_iff, decide_eq_true_eq, decide_eq_false_iff_not, Int.not_lt, Int.not_le, Bool.not_eq_true', Bool.not_eq_false', Decidable.not_not, not_true_eq_false] at hc
              all_goals ((first | (exfalso; with_reducible exact bft hc) | (exfalso; omega)))
            · try simp only [bne_iff_ne, ne_eq, bne_eq_false_iff_eq, decide_eq_decide, true_iff, false_iff, decide_eq_true_eq, decide_eq_false_iff_not, Int.not_lt, Int.not_le, Bool.not_eq_true', Bool.not_eq_false', Decidable.not_not, not_true_eq_false] at hc
              all_goals refine tc_skip ?_; ((refine hK20 ?_; try (clear hK20; clear K20)))
              all_goals refine tc_seq fun K23 hK23 => ?_; refine tc_seq fun K24 hK24 => ?_; ((obtain ⟨bA, oA, vsA, hadA, hcA, hiA⟩ := hy6.1.opensL (possLL_len ..); obtain ⟨bB, oB, vsB, hadB, hcB, hiB⟩ := hy7.1.opensL (possLL_len ..)))
              all_goals (rw [possLL_len] at hadA hcA hiA hadB hcB hiB)
              all_goals (dsimp only at hadA hcA hiA hadB hcB hiB)
              all_goals ((have hadA' := hadA (by omega); have hadB' := hadB (by omega)))
              all_goals refine tc_region ?_; refine tl_q (y_assign rfl) rfl ?_; refine tl_nil ?_; ((refine hK24 ?_; try (clear hK24; clear K24)))
              all_goals refine tc_block ?_
              all_goals (
               refine tc_loop (fun m : Nat => m ≤ t.parts.length) (fun m => [(9, slV t.parts.length y6.1), (11, slV t.parts.length y7.1), (21, vi m)]) (fun _ => [(y7.2, []), (y6.2, []), (w, [])]) (fun _ => []) (fun m => t.parts.length - m) ?_ ?_
               · exact tk_start 0 (Nat.zero_le _) (.cons rfl (.cons rfl (.cons rfl .nil))) (fun _ h => h.subl (SB.s (by repeat constructor)) (SB.s (by repeat constructor)))
               · rintro m hm
                 all_goals refine tc_seq fun K25 hK25 => ?_; refine tc_seq fun K26 hK26 => ?_; refine tc_region ?_; refine tl_q (y_move rfl) rfl ?_; refine tl_q (y_move rfl) rfl ?_; refine tl_q (y_len rfl) rfl ?_; refine tl_q (y_lss rfl rfl) rfl ?_; refine tl_nil ?_; ((refine hK26 ?_; try (clear hK26; clear K26)))
                 all_goals (
                  refine tc_cond rfl (fun hc => ?_) (fun hc => ?_)
                  · try simp only [bne_iff_ne, ne_eq, bne_eq_false_iff_eq, decide_eq_decide, true_iff, false_iff, decide_eq_true_eq, decide_eq_false_iff_not, Int.not_lt, Int.not_le, Bool.not_eq_true', Bool.not_eq_false', Decidable.not_not, not_true_eq_false] at hc
                    all_goals refine tc_skip ?_; ((refine hK25 ?_; try (clear hK25; clear K25)))
                    all_goals refine tc_seq fun K27 hK27 => ?_; refine tc_block ?_; refine tc_seq fun K28 hK28 => ?_; (have hsub : ((possL (moT t x) m).all fun x' => decide (x' ∈ possL t m)) = true := List.all_eq_true.2 (fun x' hx => decide_eq_true (poss_sub hvu hv (fun e he => hmo.truths he) m hx)))
                    all_goals ((have hpa : (possL t m).length ≤ 7 := List.length_filter_le _ _; have hpb : (possL (moT t x) m).length ≤ 7 := List.length_filter_le _ _; have hpn := poss_ne hvu hB m))
                    all_goals ((obtain ⟨ad3, cp3, _, _, e3, _, _⟩ := (hiB y7.2 (Fr.refl _ _) m (by omega)).open; rw [possLL_get (by omega)] at e3))
                    all_goals refine tc_draw (by kernel_rfl) ?_; refine tx_p 0 rfl (by kernel_rfl) (y_move rfl) rfl (fun _ _ _ h => h) (fun _ h => h) ?_; refine tx_p 1 rfl (by kernel_rfl) (y_move rfl) rfl (fun _ _ _ h => h) (fun _ h => h) ?_; refine tx_p 2 rfl (by kernel_rfl) (y_index rfl rfl (by omega) hadB') rfl (fun _ _ _ h => h) (fun _ h => h) ?_; ((refine tx_q 3 rfl (by kernel_rfl) (y_load1o (v := .slice ad3 (possL (moT t x) m).length cp3) rfl (fun w' hw' => by rw [show Int.toNat (m : Int) * 1 = m from by omega, ← e3]; exact hcB w' (hw'.fr (w0 := y7.2) (S := []) (MI.m (by repeat constructor))) m (by omega))) rfl (fun _ _ _ h => h) (fun _ h => h) ?_))
                    all_goals refine tx_p 4 rfl (by kernel_rfl) (y_move rfl) rfl (fun _ _ _ h => h) (fun _ h => h) ?_; refine tx_p 5 rfl (by kernel_rfl) (y_move rfl) rfl (fun _ _ _ h => h) (fun _ h => h) ?_; refine tx_p 6 rfl (by kernel_rfl) (y_index rfl rfl (by omega) hadA') rfl (fun _ _ _ h => h) (fun _ h => h) ?_; ((refine tx_q 7 rfl (by kernel_rfl) (y_load1o (v := vsA.getD m (.slice none 0 0)) rfl (fun w' hw' => by rw [show Int.toNat (m : Int) * 1 = m from by omega]; exact hcA w' (hw'.fr (w0 := y6.2) (S := []) (MI.m (by repeat constructor))) m (by omega))) rfl (fun _ _ _ h => h) (fun _ h => h) ?_))
                    all_goals (refine tx_e 8 rfl (by kernel_rfl) rfl (e_callV rfl (.cons rfl (.cons rfl .nil)) (fun w' hw' => by have h := subset9_c (possL (moT t x) m) (possL t m) (by omega) (by omega) _ _ w' (by have h1 := hiB w' (hw'.fr (w0 := y7.2) (S := []) (MI.m (by repeat constructor))) m (by omega); rw [possLL_get (by omega), e3] at h1; exact h1) (by have h1 := hiA w' (hw'.fr (w0 := y6.2) (S := []) (MI.m (by repeat constructor))) m (by omega); rw [possLL_get (by omega)] at h1; exact h1); rw [hsub] at h; exact h)) (.inr fun _ _ h => h) (fun _ _ => ?_))
                    all_goals (refine tx_p 9 rfl (by kernel_rfl) (y_not rfl) rfl (fun _ _ _ h => h) (fun _ h => h) ?_); refine tx_p 10 rfl (by kernel_rfl) (y_move rfl) rfl (fun _ _ _ h => h) (fun _ h => h) ?_; refine tx_pg 11 rfl (by kernel_rfl) rfl rfl (y_move rfl) rfl (fun _ _ _ h => h) (fun _ h => h) ?_; refine tx_pg 12 rfl (by kernel_rfl) rfl rfl (y_move rfl) rfl (fun _ _ _ h => h) (fun _ h => h) ?_; refine tx_pg 13 rfl (by kernel_rfl) rfl rfl (y_index rfl rfl (by omega) hadB') rfl (fun _ _ _ h => h) (fun _ h => h) ?_; ((refine tx_qg 14 rfl (by kernel_rfl) rfl rfl (y_load1o (v := .slice ad3 (possL (moT t x) m).length cp3) rfl (fun w' hw' => by rw [show Int.toNat (m : Int) * 1 = m from by omega, ← e3]; exact hcB w' (hw'.fr (w0 := y7.2) (S := []) (MI.m (by repeat constructor))) m (by omega))) rfl (fun _ _ _ h => h) (fun _ h => h) ?_))
                    all_goals (refine tx_qg 15 rfl (by kernel_rfl) rfl rfl (y_len rfl) rfl (fun _ _ _ h => h) (fun _ h => h) ?_); refine tx_pg 16 rfl (by kernel_rfl) rfl rfl (y_eql rfl rfl) rfl (fun _ _ _ h => h) (fun _ h => h) ?_; refine tx_p 17 rfl (by kernel_rfl) (y_pick_f rfl rfl) rfl (fun _ _ _ h => h) (fun _ h => h) ?_; refine tx_done (by kernel_rfl) ?_; ((refine hK28 ?_; try (clear hK28; clear K28)))
                    all_goals (
                     refine tc_cond rfl (fun hc => ?_) (fun hc => ?_)
                     · try simp only [bne_iff_ne, ne_eq, bne_eq_false_iff_eq, decide_eq_decide, true_iff, false_iff, decide_eq_true_eq, decide_eq_false_iff_not, Int.not_lt, Int.not_le, Bool.not_eq_true', Bool.not_eq_false', Decidable.not_not, not_true_eq_false] at hc
                       all_goals ((exfalso; omega))
                     · try simp only [bne_iff_ne, ne_eq, bne_eq_false_iff_eq, decide_eq_decide, true_iff, false_iff, decide_eq_true_eq, decide_eq_false_iff_not, Int.not_lt, Int.not_le, Bool.not_eq_true', Bool.not_eq_false', Decidable.not_not, not_true_eq_false] at hc
                       all_goals refine tc_skip ?_; ((refine hK27 ?_; try (clear hK27; clear K27)))
                       all_goals refine tc_region ?_; refine tl_q (y_move rfl) rfl ?_; refine tl_q (y_add rfl rfl (by omega)) rfl ?_; refine tl_q (y_assign rfl) rfl ?_; refine tl_nil ?_
                       all_goals (
                        exact tk_round (m + 1) (by omega) (by omega) (.cons rfl (.cons rfl (.cons rfl .nil))) (fun _ h => h.subl (SB.s (by repeat constructor)) (SB.s (by repeat constructor)))))
                  · try simp only [bne_iff_ne, ne_eq, bne_eq_false_iff_eq, decide_eq_decide, true_iff, false_iff, decide_eq_true_eq, decide_eq_false_iff_not, Int.not_lt, Int.not_le, Bool.not_eq_true', Bool.not_eq_false', Decidable.not_not, not_true_eq_false] at hc
                    all_goals refine tc_exit ?_; ((refine hK23 ?_; try (clear hK23; clear K23)))
                    all_goals refine tc_seq fun K30 hK30 => ?_; refine tc_lay ([]) (SB.s (by repeat constructor)) (fun wl23 hl23 => ?_); refine tc_region ?_; refine tl_e (e_callV rfl .nil (fun w' _ => awake9_c w')) rfl (fun _ _ => ?_); refine tl_q (y_assign rfl) rfl ?_; refine tl_nil ?_; ((refine hK30 ?_; try (clear hK30; clear K30)))
                    all_goals refine tc_ret ?_; (repeat (first | refine tk_then_ret ?_))
                    all_goals (refine tk_ret rfl rfl (.cons (.tmp rfl) .nil) ?_)
                    all_goals (
                     exact fun w' hw' => ⟨rfl, hw'.fr (w0 := w) (S := []) (MI.m (by repeat constructor))⟩)))))))
end Go.Sp
/-
  From a contract of a law's function to its row: what the arguments read as, and that they read so afterwards.
-/
namespace Go.Sp
open Go Go.Proofs Go.ChangeShapes Go.WideShapes Go.RowKit
section
variable {H : Type} {enc : TypeId × Value → H} {P : Program} {w : World} {base : Nat} {spare : Nat → Bool} {held : Bool}
theorem Fr.kept {W W' : World} (h : Fr [] W W') (p : MemPlace → Prop) : W.keptBut W' p :=
  ⟨h.os, h.output, fun i hi => by
    have e := h.block i hi (by simp)
    rw [e]
    cases hb : W.heap[i]? with
    | none => trivial
    | some o => cases o <;> simp⟩
/-- What is left of a post without 'again'. -/
theorem post_na {f : Func} {s : ChangeSpec} {apart fresh handsOn : Bool} {W W' : World} {args : Array Value} {v : Value} {ds gs : List (DataW H)} {before pa pv : List MemPlace}
    (hW : DataW.Whole enc P f.params.toList s.vars apart W args.toList ds gs before)
    (hres : ∀ (b : Nat) (sp : Nat → Bool) (hd : Bool), DataW.TrodAll enc P W' b sp hd f.resultTypes.toList (v.resultList f.resultTypes.size) (s.fn H (ds ++ gs)).results [])
    (hargs : ∀ sp : Nat → Bool, (∀ p ∈ before, sp p.block = true) → DataW.TrodAll enc P W' 0 sp true f.params.toList args.toList (s.fn H (ds ++ gs)).args pa)
    (hvars : ∀ sp : Nat → Bool, (∀ p ∈ before, sp p.block = true) → DataW.TrodVars enc P W' sp s.vars (s.fn H (ds ++ gs)).vars pv)
    (hps : before = pa ++ pv) (hk : W.keptBut W' (· ∈ before)) : s.post enc P f apart fresh handsOn false W args v W' := by
  have hold : ∀ p ∈ before, (fun b => decide (b < W.heap.size)) p.block = true := fun p hp => by simpa using hW.lt p hp
  refine ⟨ds, gs, before, [], pa, pv, hW, hres _ _ _, hargs _ hold, hvars _ hold, World.keptBut_mono (fun p hp => ⟨hp, ?_⟩) hk, fun h => by cases h⟩
  rw [hps, List.mem_append] at hp
  exact Or.inr hp
theorem all_stays (hl : laidOutB P = true) {W W' : World} {sp : Nat → Bool} (hb : Below W.heap.size W W') : ∀ {ts : List TypeId} {vs : List Value} {ds : List (DataW H)} {ps : List MemPlace}, (ts.all fun t => P.readableRec t && decide (t < P.types.size)) = true →
    DataW.TrodAll enc P W 0 (fun _ => true) true ts vs ds ps → (∀ p ∈ ps, sp p.block = true) → DataW.TrodAll enc P W' 0 sp true ts vs ds ps := by
  intro ts
  induction ts with
  | nil => intro vs ds ps _ h _; cases vs <;> cases ds <;> simp [DataW.TrodAll] at h ⊢; exact h
  | cons t ts ih =>
    intro vs ds ps ht h hs
    have hlt := h.lt
    obtain ⟨v, vs', d, ds', p, q, rfl, rfl, rfl, h1, h2⟩ := trodAll_cons h
    simp only [List.all_cons, Bool.and_eq_true, decide_eq_true_eq] at ht
    exact ⟨p, q, WideElems.Trod_stays hl ht.1.1 ht.1.2 h1 (fun x hx => hb.same (hlt x (List.mem_append_left _ hx))) (fun x hx => hs x (List.mem_append_left _ hx)),
      ih (by simpa using ht.2) h2 (fun x hx => hs x (List.mem_append_right _ hx)), rfl⟩
/-- A slice reads as the cells of its elements, each of which reads. -/
theorem slice_reads {t e : TypeId} {fuel : Nat} {cs : List Value} {x : DataW H × List MemPlace} (ht : P.underlying t = some (.slice e)) (hc : 0 < P.cellsOf e) (h : DataW.trod enc P w base spare held fuel t cs = some x) :
    ∃ ad cap, ∃ ess : List (List Value), cs = [.slice ad ess.length cap] ∧ ess.length ≤ maxLen ∧ Reads w (.slice ad ess.length cap) (P.cellsOf e) ess.length ess.flatten ∧ ∀ es ∈ ess, ∃ m y, DataW.trod enc P w base spare held m e es = some y := by
  rcases DataW.trod_slice ht h with ⟨rfl, _⟩ | ⟨a, len, cap, elems, rest, n, _, rfl, _, hb, hl, hm, hlen, hel, _, _⟩
  · exact ⟨none, 0, [], rfl, Nat.zero_le _, ⟨by simp, none, 0, rfl, fun h => absurd rfl h⟩, by simp⟩
  · -- the cells of each element
    have hone : ∀ i, i < len → ∃ es y, w.cells? base (a.add (i * P.cellsOf e)) (P.cellsOf e) = some es ∧ DataW.trod enc P w base spare held n e es = some y := fun i hi => by
      have h1 := hel i hi
      rw [List.getElem?_eq_getElem (by omega)] at h1
      obtain ⟨es, h2, h3⟩ := Option.bind_eq_some_iff.1 h1
      exact ⟨es, _, h2, h3⟩
    have hadd : ∀ m, a.spot = none → a.add m = ⟨a.block, a.off + m, none⟩ := fun m hs => by
      obtain ⟨b, o, sp⟩ := a
      simp only at hs
      subst hs
      unfold Addr.add; split
      · rename_i h0; subst h0; rfl
      · rfl
    have hsp0 : 0 < len → a.spot = none := fun h0 => by
      obtain ⟨es, y, g1, g2⟩ := hone 0 h0
      obtain ⟨_, hl1, hat⟩ := World.cells?_some g1
      have := hat 0 hc
      rw [List.getElem?_eq_getElem (by omega), Nat.zero_mul, show (a.add 0).add 0 = a from rfl] at this
      unfold World.cell? at this
      split at this
      · split at this
        · cases this
        · rename_i hs; simpa using hs
      · cases this
    have hcell : ∀ k, k ≤ len → ∃ ess : List (List Value), ess.length = k ∧ (∀ es ∈ ess, ∃ m y, DataW.trod enc P w base spare held m e es = some y) ∧ ess.flatten.length = k * P.cellsOf e ∧
        (k ≠ 0 → a.spot = none) ∧ ∀ j v, ess.flatten[j]? = some v → w.cell? ⟨a.block, a.off + j, none⟩ = some v := by
      intro k
      induction k with
      | zero => intro _; exact ⟨[], rfl, by simp, by simp, fun h => absurd rfl h, by simp⟩
      | succ k ih =>
        intro hk
        obtain ⟨ess, h1, h2, h3, h4, h5⟩ := ih (by omega)
        obtain ⟨es, y, g1, g2⟩ := hone k (by omega)
        obtain ⟨_, hl1, hat⟩ := World.cells?_some g1
        have hspot : a.spot = none := hsp0 (by omega)
        refine ⟨ess ++ [es], by simp [h1], fun u hu => ?_, ?_, fun _ => hspot, fun j v hv => ?_⟩
        · rcases List.mem_append.1 hu with hu | hu
          · exact h2 u hu
          · obtain rfl := List.mem_singleton.1 hu; exact ⟨n, y, g2⟩
        · rw [List.flatten_append, List.length_append, h3]; simp [hl1]; rw [Nat.add_mul]; omega
        · rw [List.flatten_append] at hv
          by_cases hj : j < ess.flatten.length
          · rw [List.getElem?_append_left hj] at hv; exact h5 j v hv
          · rw [List.getElem?_append_right (by omega)] at hv
            simp only [List.flatten_cons, List.flatten_nil, List.append_nil] at hv
            have hjl : j - ess.flatten.length < es.length := (List.getElem?_eq_some_iff.1 hv).1
            have := hat (j - ess.flatten.length) (by omega)
            rw [hv, hadd _ hspot] at this
            have e2 : (⟨a.block, a.off + k * P.cellsOf e, none⟩ : Addr).add (j - ess.flatten.length) = ⟨a.block, a.off + j, none⟩ := by
              unfold Addr.add; split
              · rename_i h0; simp only [Addr.mk.injEq, true_and, and_true]; omega
              · simp only [Addr.mk.injEq, true_and, and_true]; omega
            rw [e2] at this
            exact this
    obtain ⟨ess, h1, h2, h3, h4, h5⟩ := hcell len (Nat.le_refl _)
    subst h1
    refine ⟨some a, cap, ess, rfl, by omega, ⟨h3, _, _, rfl, fun hn => ⟨a.block, a.off, ?_, ?_⟩⟩, h2⟩
    · have := h4 hn
      obtain ⟨b, o, sp⟩ := a
      simp only at this
      subst this
      rfl
    · rw [← h3]
      generalize ess.flatten = vs at h5
      have key : ∀ (vs : List Value) (o : Nat), (∀ j v, vs[j]? = some v → w.cell? ⟨a.block, o + j, none⟩ = some v) → CA (fun k => w.cell? ⟨a.block, k, none⟩) o vs.length vs := by
        intro vs
        induction vs with
        | nil => intro o _; exact .nil
        | cons v vs ih => intro o hv; exact .cons (hv 0 v rfl) (ih (o + 1) fun j u hu => by rw [Nat.add_assoc, Nat.add_comm 1 j]; exact hv (j + 1) u hu)
      exact key vs a.off h5
theorem exists_map {α β : Type} {f : α → β} {q : α → Prop} : ∀ (l : List β), (∀ y ∈ l, ∃ x, y = f x ∧ q x) → ∃ xs : List α, l = xs.map f ∧ ∀ x ∈ xs, q x
  | [], _ => ⟨[], rfl, by simp⟩
  | y :: l, h => by
    obtain ⟨x, rfl, hq⟩ := h y List.mem_cons_self
    obtain ⟨xs, rfl, hxs⟩ := exists_map l (fun z hz => h z (List.mem_cons_of_mem _ hz))
    exact ⟨x :: xs, rfl, fun z hz => by rcases List.mem_cons.1 hz with rfl | hz; exact hq; exact hxs z hz⟩
theorem flatten_map_one {α : Type} (f : α → Value) (xs : List α) : (xs.map fun x => [f x]).flatten = xs.map f := by
  induction xs with
  | nil => rfl
  | cons x xs ih => simp [ih]
/-- A slice of integers of one kind. -/
theorem ints_reads {t e : TypeId} {k : IntKind} {fuel : Nat} {cs : List Value} {x : DataW H × List MemPlace} (ht : P.underlying t = some (.slice e)) (he : P.underlying e = some (.int k)) (hc : P.cellsOf e = 1) (h : DataW.trod enc P w base spare held fuel t cs = some x) :
    ∃ sl, ∃ xs : List Int, cs = [sl] ∧ xs.length ≤ maxLen ∧ Reads w sl 1 xs.length (xs.map (Value.int k)) ∧ ∀ n ∈ xs, (Lit.int k n).wf = true := by
  obtain ⟨ad, cap, ess, rfl, hm, hr, hes⟩ := slice_reads ht (by omega) h
  obtain ⟨xs, rfl, hxs⟩ := exists_map (f := fun n : Int => [Value.int k n]) (q := fun n => (Lit.int k n).wf = true) ess (fun es h => by
    obtain ⟨m, y, hy⟩ := hes es h
    obtain ⟨n, rfl, _, hw⟩ := DataW.trod_int he hy
    exact ⟨n, rfl, hw⟩)
  rw [flatten_map_one, hc] at hr
  simp only [List.length_map] at hr hm
  exact ⟨_, xs, by simp, hm, hr, hxs⟩
/-- The fields of a struct. -/
theorem fields_reads {t : TypeId} {fs : Array Field} {fuel : Nat} {cs : List Value} {x : DataW H × List MemPlace} (ht : P.underlying t = some (.struct fs)) (h : DataW.trod enc P w base spare held fuel t cs = some x) :
    cs.length = P.cellsOf t ∧ ∀ (i : Nat) (f : Field), fs[i]? = some f → ∃ m y, DataW.trod enc P w base spare held m f.type ((cs.drop f.offset).take (P.cellsOf f.type)) = some y := by
  obtain ⟨xs, n, _, _, hl, hx, hf⟩ := DataW.trod_struct ht h
  refine ⟨hl, fun i f hi => ?_⟩
  have := hf i f hi
  have hlt : i < fs.size := (Array.getElem?_eq_some_iff.1 hi).1
  rw [List.getElem?_eq_getElem (by omega)] at this
  exact ⟨n, _, this⟩
def flds (enc : TypeId × Value → H) (P : Program) (w : World) (base : Nat) (spare : Nat → Bool) (held : Bool) (cs : List Value) : List Field → Prop
  | [] => True
  | f :: fs => (∃ m y, DataW.trod enc P w base spare held m f.type ((cs.drop f.offset).take (P.cellsOf f.type)) = some y) ∧ flds enc P w base spare held cs fs
theorem fields_list {t : TypeId} {l : List Field} {fuel : Nat} {cs : List Value} {x : DataW H × List MemPlace} (ht : P.underlying t = some (.struct l.toArray)) (h : DataW.trod enc P w base spare held fuel t cs = some x) :
    cs.length = P.cellsOf t ∧ flds enc P w base spare held cs l := by
  obtain ⟨hl, hf⟩ := fields_reads ht h
  refine ⟨hl, ?_⟩
  have key : ∀ l' : List Field, (∀ f ∈ l', f ∈ l) → flds enc P w base spare held cs l' := by
    intro l'
    induction l' with
    | nil => intro _; trivial
    | cons f fs ih =>
      intro hm
      obtain ⟨i, hi, e⟩ := List.getElem_of_mem (hm f List.mem_cons_self)
      exact ⟨hf i f (by simp [hi, e]), ih fun g hg => hm g (List.mem_cons_of_mem _ hg)⟩
  exact key l fun _ h => h
end
end Go.Sp
/-
  What the arguments of this seat's laws read as.
-/
namespace Go.Sp
open Go Go.Proofs Go.ChangeShapes Go.WideShapes Go.RowKit
theorem laidTryz : laidOutB Tryz.prog = true := by kernel_rfl
theorem cells_3 : Tryz.prog.cellsOf 3 = 1 := by kernel_rfl
theorem cells_22 : Tryz.prog.cellsOf 22 = 1 := by kernel_rfl
theorem cells_24 : Tryz.prog.cellsOf 24 = 6 := by kernel_rfl
theorem cells_57 : Tryz.prog.cellsOf 57 = 2 := by kernel_rfl
theorem wf64 {n : Int} (h : (Lit.int .i64 n).wf = true) : -9223372036854775808 ≤ n ∧ n ≤ 9223372036854775807 := by
  simpa [Lit.wf, IntKind.min, IntKind.max, IntKind.signed, IntKind.bits] using h
theorem wf8 {n : Int} (h : (Lit.int .u8 n).wf = true) : 0 ≤ n ∧ n ≤ 255 := by
  simpa [Lit.wf, IntKind.min, IntKind.max, IntKind.signed, IntKind.bits] using h
theorem six {α : Type} {l : List α} (h : l.length = 6) : ∃ a b c d e f, l = [a, b, c, d, e, f] := by
  match l, h with
  | [a, b, c, d, e, f], _ => exact ⟨a, b, c, d, e, f, rfl⟩
theorem two' {α : Type} {l : List α} (h : l.length = 2) : ∃ a b, l = [a, b] := by
  match l, h with
  | [a, b], _ => exact ⟨a, b, rfl⟩
section
variable {H : Type} {enc : TypeId × Value → H} {w : World} {base : Nat} {spare : Nat → Bool} {held : Bool}
abbrev Bd (n : Int) : Prop := -9223372036854775808 ≤ n ∧ n ≤ 9223372036854775807
theorem sn_reads {fuel : Nat} {cs : List Value} {x : DataW H × List MemPlace} (h : DataW.trod enc Tryz.prog w base spare held fuel 24 cs = some x) :
    ∃ (s : Sn) (sl : Value), cs = [vi s.mass, vi s.volume, vi s.step, vi s.divisions, vi s.width, sl] ∧ RdI w sl s.weights ∧ s.weights.length ≤ maxLen := by
  obtain ⟨hl, hf⟩ := fields_list Tryz.underlying24 h
  rw [cells_24] at hl
  obtain ⟨c0, c1, c2, c3, c4, c5, rfl⟩ := six hl
  obtain ⟨⟨_, _, f0⟩, ⟨_, _, f1⟩, ⟨_, _, f2⟩, ⟨_, _, f3⟩, ⟨_, _, f4⟩, ⟨_, _, f5⟩, _⟩ := hf
  rw [cells_3] at f0 f1 f2 f3 f4
  rw [cells_22] at f5
  obtain ⟨n0, e0, _, _⟩ := DataW.trod_int Tryz.underlying3 f0
  obtain ⟨n1, e1, _, _⟩ := DataW.trod_int Tryz.underlying3 f1
  obtain ⟨n2, e2, _, _⟩ := DataW.trod_int Tryz.underlying3 f2
  obtain ⟨n3, e3, _, _⟩ := DataW.trod_int Tryz.underlying3 f3
  obtain ⟨n4, e4, _, _⟩ := DataW.trod_int Tryz.underlying3 f4
  obtain ⟨sl, xs, e5, hm, hr, _⟩ := ints_reads Tryz.underlying22 Tryz.underlying3 cells_3 f5
  simp at e0 e1 e2 e3 e4 e5
  subst e0; subst e1; subst e2; subst e3; subst e4; subst e5
  exact ⟨⟨n0, n1, n2, n3, n4, xs⟩, _, rfl, hr, hm⟩
theorem pair_reads {t : TypeId} {f0 f1 : Field} (ht : Tryz.prog.underlying t = some (.struct #[f0, f1])) (hc : Tryz.prog.cellsOf t = 2) (h0 : f0.type = 3) (h1 : f1.type = 3) (o0 : f0.offset = 0) (o1 : f1.offset = 1) {fuel : Nat} {cs : List Value} {x : DataW H × List MemPlace} (h : DataW.trod enc Tryz.prog w base spare held fuel t cs = some x) :
    ∃ r : Int × Int, cs = [vi r.1, vi r.2] ∧ Bd r.1 ∧ Bd r.2 := by
  obtain ⟨hl, hf⟩ := fields_list (l := [f0, f1]) ht h
  rw [hc] at hl
  obtain ⟨c0, c1, rfl⟩ := two' hl
  obtain ⟨⟨_, _, g0⟩, ⟨_, _, g1⟩, _⟩ := hf
  rw [h0, o0, cells_3] at g0
  rw [h1, o1, cells_3] at g1
  obtain ⟨n0, e0, _, w0⟩ := DataW.trod_int Tryz.underlying3 g0
  obtain ⟨n1, e1, _, w1⟩ := DataW.trod_int Tryz.underlying3 g1
  simp at e0 e1
  subst e0; subst e1
  exact ⟨(n0, n1), rfl, wf64 w0, wf64 w1⟩
theorem flat_map (xs : List (Int × Int)) : (xs.map fun r => [vi r.1, vi r.2]).flatten = flatR xs := by
  induction xs with
  | nil => rfl
  | cons x xs ih => simp [ih, flatR]
end
end Go.Sp
/-
  What a trial reads as.
-/
namespace Go.Sp
open Go Go.Proofs Go.ChangeShapes Go.WideShapes Go.RowKit
theorem cells_72 : Tryz.prog.cellsOf 72 = 3 := by kernel_rfl
theorem cells_25 : Tryz.prog.cellsOf 25 = 1 := by kernel_rfl
theorem cells_26 : Tryz.prog.cellsOf 26 = 1 := by kernel_rfl
theorem cells_28 : Tryz.prog.cellsOf 28 = 10 := by kernel_rfl
theorem three' {α : Type} {l : List α} (h : l.length = 3) : ∃ a b c, l = [a, b, c] := by
  match l, h with
  | [a, b, c], _ => exact ⟨a, b, c, rfl⟩
theorem ten' {α : Type} {l : List α} (h : l.length = 10) : ∃ a b c d e f g i j k, l = [a, b, c, d, e, f, g, i, j, k] := by
  match l, h with
  | [a, b, c, d, e, f, g, i, j, k], _ => exact ⟨a, b, c, d, e, f, g, i, j, k, rfl⟩
section
variable {H : Type} {enc : TypeId × Value → H} {w : World} {base : Nat} {spare : Nat → Bool} {held : Bool}
theorem rgs_reads {fuel : Nat} {cs : List Value} {x : DataW H × List MemPlace} (h : DataW.trod enc Tryz.prog w base spare held fuel 25 cs = some x) :
    ∃ (sl : Value) (l : List (Int × Int)), cs = [sl] ∧ RdR w sl l ∧ l.length ≤ maxLen ∧ ∀ r ∈ l, Bd r.1 ∧ Bd r.2 := by
  obtain ⟨ad, cap, ess, rfl, hm, hr, hes⟩ := slice_reads Tryz.underlying25 (by rw [cells_57]; decide) h
  obtain ⟨xs, rfl, hxs⟩ := exists_map (f := fun r : Int × Int => [vi r.1, vi r.2]) (q := fun r => Bd r.1 ∧ Bd r.2) ess (fun es h => by
    obtain ⟨m, y, hy⟩ := hes es h
    obtain ⟨r, e, hb⟩ := pair_reads Tryz.underlying57 cells_57 rfl rfl rfl rfl hy
    exact ⟨r, e, hb⟩)
  rw [flat_map, cells_57] at hr
  simp only [List.length_map] at hr hm
  exact ⟨_, xs, by simp, hr, hm, hxs⟩
theorem test_reads {fuel : Nat} {cs : List Value} {x : DataW H × List MemPlace} (h : DataW.trod enc Tryz.prog w base spare held fuel 72 cs = some x) :
    ∃ r : Int × Int × Int, cs = [vi r.1, vi r.2.1, vi r.2.2] ∧ Bd r.1 ∧ Bd r.2.1 ∧ Bd r.2.2 := by
  obtain ⟨hl, hf⟩ := fields_list Tryz.underlying72 h
  rw [cells_72] at hl
  obtain ⟨c0, c1, c2, rfl⟩ := three' hl
  obtain ⟨⟨_, _, f0⟩, ⟨_, _, f1⟩, ⟨_, _, f2⟩, _⟩ := hf
  rw [cells_3] at f0 f1 f2
  obtain ⟨n0, e0, _, w0⟩ := DataW.trod_int Tryz.underlying3 f0
  obtain ⟨n1, e1, _, w1⟩ := DataW.trod_int Tryz.underlying3 f1
  obtain ⟨n2, e2, _, w2⟩ := DataW.trod_int Tryz.underlying3 f2
  simp at e0 e1 e2
  subst e0; subst e1; subst e2
  exact ⟨(n0, n1, n2), rfl, wf64 w0, wf64 w1, wf64 w2⟩
theorem flat_mapT (xs : List (Int × Int × Int)) : (xs.map fun r => [vi r.1, vi r.2.1, vi r.2.2]).flatten = flatT xs := by
  induction xs with
  | nil => rfl
  | cons x xs ih => simp [ih, flatT]
theorem tests_reads {fuel : Nat} {cs : List Value} {x : DataW H × List MemPlace} (h : DataW.trod enc Tryz.prog w base spare held fuel 26 cs = some x) :
    ∃ (sl : Value) (l : List (Int × Int × Int)), cs = [sl] ∧ RdT w sl l ∧ l.length ≤ maxLen := by
  obtain ⟨ad, cap, ess, rfl, hm, hr, hes⟩ := slice_reads Tryz.underlying26 (by rw [cells_72]; decide) h
  obtain ⟨xs, rfl, hxs⟩ := exists_map (f := fun r : Int × Int × Int => [vi r.1, vi r.2.1, vi r.2.2]) (q := fun r => True) ess (fun es h => by
    obtain ⟨m, y, hy⟩ := hes es h
    obtain ⟨r, e, hb⟩ := test_reads hy
    exact ⟨r, e, trivial⟩)
  rw [flat_mapT, cells_72] at hr
  simp only [List.length_map] at hr hm
  exact ⟨_, xs, by simp, hr, hm⟩
theorem tr_reads {fuel : Nat} {cs : List Value} {x : DataW H × List MemPlace} (h : DataW.trod enc Tryz.prog w base spare held fuel 28 cs = some x) :
    ∃ (t : Tr) (sl pl ll tl : Value), cs = [vi t.s.mass, vi t.s.volume, vi t.s.step, vi t.s.divisions, vi t.s.width, sl, pl, vi t.worst, ll, tl] ∧ RdTr w t sl pl ll tl := by
  obtain ⟨hl, hf⟩ := fields_list Tryz.underlying28 h
  rw [cells_28] at hl
  obtain ⟨c0, c1, c2, c3, c4, c5, c6, c7, c8, c9, rfl⟩ := ten' hl
  obtain ⟨⟨_, _, f0⟩, ⟨_, _, f1⟩, ⟨_, _, f2⟩, ⟨_, _, f3⟩, ⟨_, _, f4⟩, _⟩ := hf
  rw [cells_24] at f0
  rw [cells_22] at f1
  rw [cells_3] at f2
  rw [cells_25] at f3
  rw [cells_26] at f4
  obtain ⟨s, sl, e0, hrs, _⟩ := sn_reads f0
  obtain ⟨pl, ps, e1, _, hrp, _⟩ := ints_reads Tryz.underlying22 Tryz.underlying3 cells_3 f1
  obtain ⟨n2, e2, _, _⟩ := DataW.trod_int Tryz.underlying3 f2
  obtain ⟨ll, l, e3, hrl, _, _⟩ := rgs_reads f3
  obtain ⟨tl, ts, e4, hrt, _⟩ := tests_reads f4
  simp at e0 e1 e2 e3 e4
  obtain ⟨rfl, rfl, rfl, rfl, rfl, rfl⟩ := e0
  subst e1; subst e2; subst e3; subst e4
  exact ⟨⟨s, ps, n2, l, ts⟩, _, _, _, _, rfl, hrs, hrp, hrl, hrt⟩
end
end Go.Sp
/-
  The form's own reach: how long a slice of an argument can be.
-/
namespace Go.Sp
open Go Go.Proofs Go.ChangeShapes Go.WideShapes Go.RowKit
section
variable {H : Type} {enc : TypeId × Value → H} {P : Program} {w : World} {base : Nat} {spare : Nat → Bool} {held : Bool}
theorem sl_sized {t e : TypeId} {fuel : Nat} {ad : Option Addr} {n cap : Nat} {x : DataW H × List MemPlace} (ht : P.underlying t = some (.slice e)) (h : DataW.trod enc P w base spare held fuel t [.slice ad n cap] = some x) (hw : ∀ m ∈ x.1.weights P t, m ≤ reachBytes) : n * P.bytesOf e ≤ reachBytes := by
  rcases DataW.trod_slice ht h with ⟨h1, _⟩ | ⟨a, len, cap', elems, rest, m, _, h1, rfl, _, _, _, hlen, _⟩
  · simp at h1
    obtain ⟨_, rfl, _⟩ := h1
    rw [Nat.zero_mul]; exact Nat.zero_le _
  · simp at h1
    obtain ⟨_, rfl, _⟩ := h1
    have := hw ((elems.length + rest.length) * P.bytesOf e) (by simp [DataW.weights, ht])
    exact Nat.le_trans (Nat.mul_le_mul_right _ (by omega)) this
theorem st_field {t : TypeId} {fs : Array Field} {fuel : Nat} {cs : List Value} {x : DataW H × List MemPlace} (ht : P.underlying t = some (.struct fs)) (h : DataW.trod enc P w base spare held fuel t cs = some x) (i : Nat) (f : Field) (hf : fs[i]? = some f) :
    ∃ fu y, DataW.trod enc P w base spare held fu f.type ((cs.drop f.offset).take (P.cellsOf f.type)) = some y ∧ ∀ m ∈ y.1.weights P f.type, m ∈ x.1.weights P t := by
  obtain ⟨xs, n, _, rfl, _, hl, hx⟩ := DataW.trod_struct ht h
  have hi : i < fs.size := (Array.getElem?_eq_some_iff.1 hf).1
  have h1 := hx i f hf
  rw [List.getElem?_eq_getElem (by omega)] at h1
  refine ⟨n, _, h1, fun m hm => ?_⟩
  simp only [DataW.weights, ht]
  refine DataW.weights_mem_each (j := i) (t := f.type) (d := xs[i].1) ?_ ?_ m hm
  · rw [List.getElem?_map, Array.getElem?_toList, hf]; rfl
  · rw [List.getElem?_map, List.getElem?_eq_getElem (by omega)]; rfl
end
theorem trial_sized {H : Type} {enc : TypeId × Value → H} {w : World} {base : Nat} {spare : Nat → Bool} {held : Bool} {fuel : Nat} {c0 c1 c2 c3 c4 c5 c6 c7 c8 : Value} {ad : Option Addr} {n cap : Nat} {x : DataW H × List MemPlace}
    (h : DataW.trod enc Tryz.prog w base spare held fuel 28 [c0, c1, c2, c3, c4, c5, c6, c7, c8, .slice ad n cap] = some x) (hw : ∀ m ∈ x.1.weights Tryz.prog 28, m ≤ reachBytes) : BigOk n := by
  obtain ⟨fu, y, h1, h2⟩ := st_field Tryz.underlying28 h 4 _ rfl
  have h1' : DataW.trod enc Tryz.prog w base spare held fu 26 (([c0, c1, c2, c3, c4, c5, c6, c7, c8, .slice ad n cap].drop 9).take (Tryz.prog.cellsOf 26)) = some y := h1
  rw [cells_26] at h1'
  have h3 := sl_sized (ad := ad) (n := n) (cap := cap) Tryz.underlying26 h1' (fun m hm => hw m (h2 m hm))
  have hb : Tryz.prog.bytesOf 72 = 24 := by kernel_rfl
  rw [hb] at h3
  unfold BigOk
  rw [Nat.add_mul]
  exact Nat.le_trans (Nat.add_le_add_right h3 _) (by decide)
theorem trial_sized' {H : Type} {enc : TypeId × Value → H} {w W : World} {base : Nat} {spare : Nat → Bool} {held : Bool} {fuel : Nat} {c0 c1 c2 c3 c4 c5 c6 c7 c8 tl : Value} {ts : List E3} {d : DataW H} {p : List MemPlace}
    (h : DataW.trod enc Tryz.prog w base spare held fuel 28 (Value.agg #[c0, c1, c2, c3, c4, c5, c6, c7, c8, tl]).cells.toList = some (d, p)) (hw : ∀ m ∈ d.weights Tryz.prog 28, m ≤ reachBytes) (hr : RdT W tl ts) : BigOk ts.length := by
  obtain ⟨_, ad, cap, rfl, _⟩ := hr
  exact trial_sized (x := (d, p)) h hw
end Go.Sp
