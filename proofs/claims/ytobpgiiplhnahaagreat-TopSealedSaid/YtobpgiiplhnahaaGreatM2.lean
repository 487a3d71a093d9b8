
/-
  Package sample: the fewest open hours from each spot on.
-/
import Derived.Test.YtobpgiiplhnahaaGreatM1
set_option linter.unusedVariables false
set_option linter.unusedSimpArgs false
set_option linter.deprecated false
namespace Go.Sp
open Go Go.Proofs
def minP (l : List (Bool × Int)) (r : Bool → Option Int) : Nat → Option Int
  | 0 => none
  | n + 1 => match r (l.getD n (false, 0)).1 with
    | none => minP l r n
    | some m => match minP l r n with
      | none => some (m + (l.getD n (false, 0)).2)
      | some own => some (min own (m + (l.getD n (false, 0)).2))
/-- From an hour on, of which k are left. -/
def rstF (s : Smp) (b : Int) (c : List Int) : Nat → Bool → Option Int
  | 0, _ => some 0
  | k + 1, x => minP (stepL s b (s.L - k) (stB s c (s.L - k)) x) (rstF s b c k) (stepL s b (s.L - k) (stB s c (s.L - k)) x).length
theorem stepN_mem {s : Smp} {b h : Int} {st x : Bool} {n : Nat} {y : Bool × Int} (hy : y ∈ stepN s b h st x n) : y.2 = 0 ∨ y.2 = 1 := by
  obtain ⟨a, _, ha⟩ := List.mem_flatMap.1 hy
  unfold stp1 at ha
  split at ha
  · obtain rfl := List.mem_singleton.1 ha
    dsimp only
    split
    · exact .inr rfl
    · exact .inl rfl
  · cases ha
theorem getD_memG {α : Type} {l : List α} {n : Nat} {d : α} (h : n < l.length) : l.getD n d ∈ l := by
  rw [List.getD_eq_getElem?_getD, List.getElem?_eq_getElem h]; exact List.getElem_mem h
theorem minP_bd {l : List (Bool × Int)} {r : Bool → Option Int} {k : Int} (hl : ∀ y ∈ l, y.2 = 0 ∨ y.2 = 1) (hr : ∀ x m, r x = some m → 0 ≤ m ∧ m ≤ k) : ∀ n, n ≤ l.length → ∀ m, minP l r n = some m → 0 ≤ m ∧ m ≤ k + 1
  | 0, _, m, h => by cases h
  | n + 1, hn, m, h => by
    have ih := minP_bd hl hr n (by omega)
    have h2 := hl _ (getD_memG (n := n) (d := (false, 0)) (by omega))
    unfold minP at h
    split at h
    · exact ih m h
    · rename_i m1 h1
      have := hr _ _ h1
      split at h
      · cases h; omega
      · rename_i own h3
        have := ih own h3
        cases h; omega
theorem rstF_bd (s : Smp) (b : Int) (c : List Int) : ∀ (k : Nat) (x : Bool) (m : Int), rstF s b c k x = some m → 0 ≤ m ∧ m ≤ k
  | 0, _, m, h => by cases h; exact ⟨by omega, by omega⟩
  | k + 1, x, m, h => by
    have := minP_bd (fun y hy => stepN_mem hy) (rstF_bd s b c k) _ (Nat.le_refl _) m h
    exact ⟨this.1, by have := this.2; omega⟩
/-- What the map holds when k hours are done. -/
def restM (s : Smp) (b : Int) (c : List Int) (k : Nat) (j : Int) (x : Bool) : Option Int := if s.L - k < j ∧ j ≤ s.L + 1 then rstF s b c (s.L + 1 - j).toNat x else none
/-- .. and at the hour at hand for some seals, too. -/
def restX (s : Smp) (b : Int) (c : List Int) (k i : Nat) (j : Int) (x : Bool) : Option Int := if j = s.L - k then (if x.toNat < i then rstF s b c (k + 1) x else none) else restM s b c k j x
def restY (s : Smp) (b : Int) (c : List Int) (k : Nat) (z : Bool) (n : Nat) (j : Int) (x : Bool) : Option Int :=
  if j = s.L - k ∧ x = z then minP (stepL s b (s.L - k) (stB s c (s.L - k)) z) (rstF s b c k) n else restX s b c k z.toNat j x
theorem restX_0 (s : Smp) (b : Int) (c : List Int) (k : Nat) (j : Int) (x : Bool) : restX s b c k 0 j x = restM s b c k j x := by
  unfold restX
  split
  · rename_i h; unfold restM; rw [if_neg (by omega), if_neg (by omega)]
  · rfl
theorem restY_0 (s : Smp) (b : Int) (c : List Int) (k : Nat) (z : Bool) (j : Int) (x : Bool) : restY s b c k z 0 j x = restX s b c k z.toNat j x := by
  unfold restY
  split
  · rename_i h; unfold restX; rw [if_pos h.1, h.2, if_neg (by omega)]; rfl
  · rfl
theorem restY_end (s : Smp) (b : Int) (c : List Int) (k : Nat) (z : Bool) (j : Int) (x : Bool) : restY s b c k z (stepL s b (s.L - k) (stB s c (s.L - k)) z).length j x = restX s b c k (z.toNat + 1) j x := by
  unfold restY
  by_cases h : j = s.L - k
  · unfold restX
    rw [if_pos h, if_pos h]
    by_cases h2 : x = z
    · subst h2; rw [if_pos ⟨h, rfl⟩, if_pos (by omega)]; rfl
    · rw [if_neg (fun g => h2 g.2)]
      cases x <;> cases z <;> simp_all
  · unfold restX
    rw [if_neg (fun g => h g.1), if_neg h, if_neg h]
theorem restX_2 (s : Smp) (b : Int) (c : List Int) (k : Nat) (hk : (k : Int) ≤ s.L) (j : Int) (x : Bool) : restX s b c k 2 j x = restM s b c (k + 1) j x := by
  unfold restX restM
  have hx : x.toNat < 2 := by cases x <;> decide
  by_cases h : j = s.L - k
  · rw [if_pos h, if_pos hx, if_pos (by omega)]; congr 1; omega
  · rw [if_neg h]
    by_cases h2 : s.L - k < j ∧ j ≤ s.L + 1
    · rw [if_pos h2, if_pos (by omega)]
    · rw [if_neg h2, if_neg (by omega)]
theorem restY_next {s : Smp} {b : Int} {c : List Int} {k : Nat} {z x : Bool} {n : Nat} : restY s b c k z n (s.L - k + 1) x = rstF s b c k x := by
  unfold restY restX restM
  rw [if_neg (fun h => by have := h.1; omega), if_neg (by omega), if_pos (by omega)]; congr 1; omega
theorem restY_own {s : Smp} {b : Int} {c : List Int} {k : Nat} {z : Bool} {n : Nat} : restY s b c k z n (s.L - k) z = minP (stepL s b (s.L - k) (stB s c (s.L - k)) z) (rstF s b c k) n := by
  unfold restY; rw [if_pos ⟨rfl, rfl⟩]
theorem restY_set {s : Smp} {b : Int} {c : List Int} {k : Nat} {z : Bool} {n : Nat} {v : Int} (h : minP (stepL s b (s.L - k) (stB s c (s.L - k)) z) (rstF s b c k) (n + 1) = some v) (j : Int) (x : Bool) :
    (if j = s.L - k ∧ x = z then some v else restY s b c k z n j x) = restY s b c k z (n + 1) j x := by
  unfold restY
  by_cases hg : j = s.L - k ∧ x = z
  · rw [if_pos hg, if_pos hg, h]
  · rw [if_neg hg, if_neg hg, if_neg hg]
def blF (i : Nat) : Bool := i == 1
theorem mmin_c (a b : Int) (sl : Value) (w : World) (hr : RdI w sl [a, b]) : CnV Tryz.prog 91 #[sl] w (vi (min a b)) := by
  refine cnv (vs := [_]) Tryz.func91 rfl rfl ?_
  all_goals refine tc_seq fun K1 hK1 => ?_; refine tc_region ?_; refine tl_q (y_assign rfl) rfl ?_; refine tl_nil ?_; ((refine hK1 ?_; try (clear hK1; clear K1)))
  all_goals refine tc_seq fun K2 hK2 => ?_; refine tc_region ?_; refine tl_q (y_move rfl) rfl ?_; refine tl_e (e_callV rfl (.cons rfl .nil) (fun w' hw' => min_c a b _ w' (hr.fr (hw'.fr (by simp))))) rfl (fun _ _ => ?_); refine tl_q (y_assign rfl) rfl ?_; refine tl_nil ?_; ((refine hK2 ?_; try (clear hK2; clear K2)))
  all_goals refine tc_ret ?_; (repeat (first | refine tk_then_ret ?_))
  all_goals (refine tk_ret rfl rfl (.cons (.tmp rfl) .nil) ?_)
  all_goals (
   exact fun w' hw' => ⟨rfl, hw'.fr (by simp)⟩)
theorem len10 {c : List Int} (h : c.length = 10) : ∃ a0 a1 a2 a3 a4 a5 a6 a7 a8 a9, c = [a0, a1, a2, a3, a4, a5, a6, a7, a8, a9] := by
  match c, h with
  | [a0, a1, a2, a3, a4, a5, a6, a7, a8, a9], _ => exact ⟨a0, a1, a2, a3, a4, a5, a6, a7, a8, a9, rfl⟩
theorem KeyB_nil : KeyB (#[] : Array MapEntry).toList := fun e h => by cases h
theorem initM {s : Smp} {b : Int} {c : List Int} {f1 f2 : Int → Bool → Option Int} {x1 x2 : Bool} (hx : x1 = !x2) (h1 : ∀ j x, f1 j x = if j = s.L + 1 ∧ x = x1 then some 0 else findB (#[] : Array MapEntry).toList j x) (h2 : ∀ j x, f2 j x = if j = s.L + 1 ∧ x = x2 then some 0 else f1 j x) (j : Int) (x : Bool) : f2 j x = restM s b c 0 j x := by
  rw [h2, h1]
  unfold restM
  by_cases h : j = s.L + 1
  · subst h
    rw [if_pos (by omega : s.L - ((0 : Nat) : Int) < s.L + 1 ∧ s.L + 1 ≤ s.L + 1), show (s.L + 1 - (s.L + 1)).toNat = 0 from by omega]
    show _ = some 0
    by_cases hxx : x = x2
    · rw [if_pos ⟨rfl, hxx⟩]
    · rw [if_neg (fun g => hxx g.2), if_pos ⟨rfl, by subst hx; cases x <;> cases x2 <;> first | rfl | exact absurd rfl hxx⟩]
  · rw [if_neg (fun g => h g.1), if_neg (fun g => h g.1), if_neg (by omega)]; rfl
theorem opt_none {α : Type} {o : Option α} (h : o.isSome = false) : o = none := by cases o with | none => rfl | some _ => cases h
theorem opt_some {α : Type} {o : Option α} (h : o.isSome = true) : ∃ m, o = some m := by cases o with | none => cases h | some m => exact ⟨m, rfl⟩
theorem minP_no {l : List (Bool × Int)} {r : Bool → Option Int} {n : Nat} (h : r (l.getD n (false, 0)).1 = none) : minP l r (n + 1) = minP l r n := by
  rw [minP, h]
theorem minP_own {l : List (Bool × Int)} {r : Bool → Option Int} {n : Nat} {m own : Int} (h : r (l.getD n (false, 0)).1 = some m) (h2 : minP l r n = some own) : minP l r (n + 1) = some (min own (m + (l.getD n (false, 0)).2)) := by
  rw [minP, h, h2]
theorem minP_new {l : List (Bool × Int)} {r : Bool → Option Int} {n : Nat} {m : Int} (h : r (l.getD n (false, 0)).1 = some m) (h2 : minP l r n = none) : minP l r (n + 1) = some (m + (l.getD n (false, 0)).2) := by
  rw [minP, h, h2]
theorem restY_no {s : Smp} {b : Int} {c : List Int} {k : Nat} {z : Bool} {n : Nat} (h : minP (stepL s b (s.L - k) (stB s c (s.L - k)) z) (rstF s b c k) (n + 1) = minP (stepL s b (s.L - k) (stB s c (s.L - k)) z) (rstF s b c k) n) (j : Int) (x : Bool) : restY s b c k z n j x = restY s b c k z (n + 1) j x := by
  unfold restY; rw [h]
set_option maxHeartbeats 4000000 in
theorem work_c (s : Smp) (hf : Few s) (hv : VSm s) (b : Int) (c : List Int) (hco : ChOk s c) (tv pv gv : Value) (w : World) (hr : RdSm w s tv pv gv) :
    CnX Tryz.prog 60 #[smV s tv pv gv, vi b, .agg (isV c)] w [] (fun y : Nat × Nat × Array MapEntry × Nat => ptr y.1)
      (fun y w' => (Wk w' s tv pv gv b c y.1 y.2.1 ∧ w'.heap[y.2.1]? = some (.map y.2.2.1 y.2.2.2) ∧ KeyB y.2.2.1.toList ∧ ∀ j x, findB y.2.2.1.toList j x = restM s b c (s.L + 1).toNat j x) ∧ w.heap.size ≤ y.1 ∧ w.heap.size ≤ y.2.1) := by
  have hr0 := hr
  have hl0 := hv.l0
  have hl9 := hv.l9
  have hcl := hco.len
  have hot := hr.st.one
  have hop := hr.ps.one
  have hog := hr.sg.one
  obtain ⟨a0, a1, a2, a3, a4, a5, a6, a7, a8, a9, hcc⟩ := len10 hcl
  have hisv : isV c = #[vi a0, vi a1, vi a2, vi a3, vi a4, vi a5, vi a6, vi a7, vi a8, vi a9] := by rw [hcc]; rfl
  rw [hisv]
  refine cnx0 (vs := [_, _, _]) Tryz.func60 rfl rfl ?_
  all_goals refine tc_seq fun K1 hK1 => ?_; refine tc_region ?_; refine tl_e (e_box rfl rfl rfl) rfl (fun b3 _ => ?_); refine tl_e (e_box rfl rfl rfl) rfl (fun b5 _ => ?_); refine tl_q (y_assign rfl) rfl ?_; refine tl_nil ?_; ((refine hK1 ?_; try (clear hK1; clear K1)))
  all_goals refine tc_seq fun K2 hK2 => ?_; refine tc_drawS ([(b5, .cells #[vi a0, vi a1, vi a2, vi a3, vi a4, vi a5, vi a6, vi a7, vi a8, vi a9] 143 (0, 0)), (b3, .cells #[vi s.B, vi s.P, vi s.L, vi s.F, tv, pv, gv] 42 (0, 0))]) (by kernel_rfl) ?_; refine tx_qS 0 rfl (by kernel_rfl) (y_loadW rfl (by repeat constructor) (by rfl)) rfl (fun _ _ _ h => h) (fun _ h => h.subl SB.s SB.s) ?_; refine tx_p 1 rfl (by kernel_rfl) (y_move rfl) rfl (fun _ _ _ h => h) (fun _ h => h.subl SB.s SB.s) ?_; refine tx_qS 2 rfl (by kernel_rfl) (y_loadW rfl (by repeat constructor) (by rfl)) rfl (fun _ _ _ h => h) (fun _ h => h.subl SB.s SB.s) ?_; refine tx_p 4 rfl (by kernel_rfl) (y_field rfl) rfl (fun _ _ _ h => h) (fun _ h => h.subl SB.s SB.s) ?_; refine tx_qS 5 rfl (by kernel_rfl) (y_load1 rfl (by repeat constructor) (by rfl)) rfl (fun _ _ _ h => h) (fun _ h => h.subl SB.s SB.s) ?_; refine tx_p 6 rfl (by kernel_rfl) (y_add rfl rfl (by omega)) rfl (fun _ _ _ h => h) (fun _ h => h.subl SB.s SB.s) ?_; refine tx_p 7 rfl (by kernel_rfl) (y_build_g (by repeat constructor)) rfl (fun _ _ _ h => h) (fun _ h => h.subl SB.s SB.s) ?_; refine tx_p 9 rfl (by kernel_rfl) (y_field rfl) rfl (fun _ _ _ h => h) (fun _ h => h.subl SB.s SB.s) ?_; refine tx_qS 10 rfl (by kernel_rfl) (y_load1 rfl (by repeat constructor) (by rfl)) rfl (fun _ _ _ h => h) (fun _ h => h.subl SB.s SB.s) ?_; refine tx_p 11 rfl (by kernel_rfl) (y_add rfl rfl (by omega)) rfl (fun _ _ _ h => h) (fun _ h => h.subl SB.s SB.s) ?_; refine tx_p 12 rfl (by kernel_rfl) (y_build_g (by repeat constructor)) rfl (fun _ _ _ h => h) (fun _ h => h.subl SB.s SB.s) ?_; refine tx_single 3 (by kernel_rfl) (to_e rfl rfl (e_makeMap rfl) (.inr ⟨fun _ _ h => h.subl SB.s SB.s, fun _ h => h⟩) (fun r _ => ?_))
  all_goals (
   refine tx_pair 8 13 (by kernel_rfl) ?_ ?_
   rotate_left
   focus (
    (refine to_e rfl rfl (e_insertB (es := #[]) KeyB_nil rfl rfl rfl (fun _ => by repeat constructor)) (.inr ⟨fun _ _ h => h.subl SB.s SB.s, fun _ h => h⟩) (fun q2 hq2 => ?_))
    all_goals (refine tx_single 8 (by kernel_rfl) (to_e rfl rfl (e_insertB (es := q2.1) hq2.1 rfl rfl rfl (fun _ => by repeat constructor)) (.inr ⟨fun _ _ h => h.subl SB.s SB.s, fun _ h => h⟩) (fun q1 hq1 => ?_))); refine tx_p 14 rfl (by kernel_rfl) (y_move rfl) rfl (fun _ _ _ h => h) (fun _ h => h.subl SB.s SB.s) ?_; refine tx_p 15 rfl (by kernel_rfl) (y_build_g (by repeat constructor)) rfl (fun _ _ _ h => h) (fun _ h => h.subl SB.s SB.s) ?_; refine tx_single 16 (by kernel_rfl) (to_e rfl rfl (e_box rfl rfl rfl) (.inr ⟨fun _ _ h => h.subl SB.s SB.s, fun _ h => h⟩) (fun bw _ => ?_)); refine tx_p 17 rfl (by kernel_rfl) (y_assign rfl) rfl (fun _ _ _ h => h) (fun _ h => h.subl SB.s SB.s) ?_
    all_goals refine tx_done (by kernel_rfl) ?_)
   rotate_right
   focus (
    (refine to_e rfl rfl (e_insertB (es := #[]) KeyB_nil rfl rfl rfl (fun _ => by repeat constructor)) (.inr ⟨fun _ _ h => h.subl SB.s SB.s, fun _ h => h⟩) (fun q1 hq1 => ?_))
    all_goals (refine tx_single 13 (by kernel_rfl) (to_e rfl rfl (e_insertB (es := q1.1) hq1.1 rfl rfl rfl (fun _ => by repeat constructor)) (.inr ⟨fun _ _ h => h.subl SB.s SB.s, fun _ h => h⟩) (fun q2 hq2 => ?_))); refine tx_p 14 rfl (by kernel_rfl) (y_move rfl) rfl (fun _ _ _ h => h) (fun _ h => h.subl SB.s SB.s) ?_; refine tx_p 15 rfl (by kernel_rfl) (y_build_g (by repeat constructor)) rfl (fun _ _ _ h => h) (fun _ h => h.subl SB.s SB.s) ?_; refine tx_single 16 (by kernel_rfl) (to_e rfl rfl (e_box rfl rfl rfl) (.inr ⟨fun _ _ h => h.subl SB.s SB.s, fun _ h => h⟩) (fun bw _ => ?_)); refine tx_p 17 rfl (by kernel_rfl) (y_assign rfl) rfl (fun _ _ _ h => h) (fun _ h => h.subl SB.s SB.s) ?_
    all_goals refine tx_done (by kernel_rfl) ?_))
  all_goals ((refine hK2 ?_; try (clear hK2; clear K2)))
  all_goals refine tc_seq fun K3 hK3 => ?_; refine tc_seq fun K4 hK4 => ?_; refine tc_region ?_; refine tl_q (y_field rfl) rfl ?_; refine tl_q (y_load1 rfl (by repeat constructor) (by rfl)) rfl ?_; refine tl_q (y_assign rfl) rfl ?_; refine tl_nil ?_; ((refine hK4 ?_; try (clear hK4; clear K4)))
  all_goals refine tc_block ?_
  all_goals (
   first
   | (have hQ := initM (s := s) (b := b) (c := c) rfl hq1.2 hq2.2
      have hQk := hq2.1
      obtain ⟨es0, ck0⟩ := q2)
   | (have hQ := initM (s := s) (b := b) (c := c) rfl hq2.2 hq1.2
      have hQk := hq1.1
      obtain ⟨es0, ck0⟩ := q1)
   dsimp only at hQ hQk
   refine tc_lay [(r, .map es0 ck0)] SB.s (fun wl2 hl2 => ?_)
   have hW2 : Wk wl2 s tv pv gv b c bw r := ⟨by have := hl2.at (b := bw) (by repeat constructor); rw [hcc]; exact this, hr0.fr (hl2.fr (w0 := w) (S := []) MI.m)⟩
   have hnew : w.heap.size ≤ bw ∧ w.heap.size ≤ r := ⟨(hl2.own _ (HM.mem (b := bw) (by repeat constructor)) (w, []) MI.m).resolve_left (by simp), (hl2.own _ (HM.mem (b := r) (by repeat constructor)) (w, []) MI.m).resolve_left (by simp)⟩
   have hmap2 : ∃ es ck, wl2.heap[r]? = some (.map es ck) := ⟨es0, ck0, hl2.at (by repeat constructor)⟩
   have hWf : ∀ w', Fr [r] wl2 w' → Wk w' s tv pv gv b c bw r := fun w' f => hW2.frM f (fun x hx => by obtain rfl := List.mem_singleton.1 hx; exact hmap2)
   refine tc_loop (fun p : Nat × Array MapEntry × Nat => (p.1 : Int) ≤ s.L + 1 ∧ KeyB p.2.1.toList ∧ ∀ j x, findB p.2.1.toList j x = restM s b c p.1 j x) (fun p => [(7, ptr bw), (8, vi (s.L - p.1))]) (fun _ => [(wl2, [r]), (w, [])]) (fun p => [(r, .map p.2.1 p.2.2)]) (fun p => (s.L + 1).toNat - p.1) ?_ ?_
   · exact tk_start (0, es0, ck0) ⟨by dsimp only; omega, hQk, hQ⟩ (.cons rfl (.cons (by dsimp only; rw [show s.L - ((0 : Nat) : Int) = s.L from by omega]; rfl) .nil)) (fun _ h => h.subl SB.s SB.s)
   · rintro ⟨k, es, ck⟩ ⟨hk, hkb, hfb⟩
     dsimp only at hk hkb hfb ⊢
     all_goals refine tc_seq fun K5 hK5 => ?_; refine tc_seq fun K6 hK6 => ?_; refine tc_region ?_; refine tl_q (y_move rfl) rfl ?_; refine tl_q (y_geq rfl rfl) rfl ?_; refine tl_nil ?_; ((refine hK6 ?_; try (clear hK6; clear K6)))
     all_goals (
      refine tc_cond rfl (fun hc => ?_) (fun hc => ?_)
      · try simp only [qn1, qn2, qn3, qn4, qn5, qn6, qn7, qn8] at hc
        all_goals refine tc_skip ?_; ((refine hK5 ?_; try (clear hK5; clear K5)))
        all_goals refine tc_seq fun K7 hK7 => ?_; refine tc_block ?_; refine tc_seq fun K8 hK8 => ?_; refine tc_region ?_; (refine tl_e (e_bslice rfl (by (repeat (first | exact .nil | apply PV.one rfl rfl)); done) rfl rfl) rfl (fun b39 _ => ?_))
        all_goals refine tl_q (y_len rfl) rfl ?_; refine tl_q (y_move rfl) rfl ?_; refine tl_nil ?_; ((refine hK8 ?_; try (clear hK8; clear K8)))
        all_goals refine tc_block ?_
        all_goals (
         refine tc_lay [(r, .map es ck)] SB.s (fun wl5 hl5 => ?_)
         have hne39 : b39 ∉ [r] := by have := hl5.nodup; simp at this ⊢; exact this
         have h39 : ∀ w', Fr [r] wl5 w' → w'.heap[b39]? = some (.cells #[.bool false, .bool true] 4 (0, 0)) := fun w' f => f.keepS hne39 (hl5.at (by repeat constructor))
         refine tc_loop (fun p : Nat × Array MapEntry × Nat => p.1 ≤ 2 ∧ KeyB p.2.1.toList ∧ ∀ j x, findB p.2.1.toList j x = restX s b c k p.1 j x) (fun p => [(7, ptr bw), (8, vi (s.L - k)), (39, .slice (some ⟨b39, 0, none⟩) 2 2), (40, vi 2), (41, vi p.1)]) (fun _ => [(wl5, [r]), (wl2, [r]), (w, [])]) (fun p => [(r, .map p.2.1 p.2.2)]) (fun p => 2 - p.1) ?_ ?_
         · exact tk_start (0, es, ck) ⟨Nat.zero_le _, hkb, fun j x => by rw [restX_0]; exact hfb j x⟩ (.cons rfl (.cons rfl (.cons rfl (.cons rfl (.cons rfl .nil))))) (fun _ h => h.subl SB.s SB.s)
         · rintro ⟨i, es1, ck1⟩ ⟨hi, hkb1, hfb1⟩
           dsimp only at hi hkb1 hfb1 ⊢
           all_goals refine tc_seq fun K9 hK9 => ?_; refine tc_region ?_; refine tl_q (y_lss rfl rfl) rfl ?_; refine tl_nil ?_; ((refine hK9 ?_; try (clear hK9; clear K9)))
           all_goals refine tc_seq fun K10 hK10 => ?_
           all_goals (
            refine tc_cond rfl (fun hc => ?_) (fun hc => ?_)
            · try simp only [qn1, qn2, qn3, qn4, qn5, qn6, qn7, qn8] at hc
              all_goals refine tc_skip ?_; ((refine hK10 ?_; try (clear hK10; clear K10)))
              all_goals refine tc_seq fun K11 hK11 => ?_; refine tc_block ?_; refine tc_seq fun K12 hK12 => ?_; refine tc_region ?_; refine tl_q (y_index rfl rfl (by omega) rfl) rfl ?_; ((refine tl_q (y_load1o (v := .bool (blF i)) rfl (fun w' hw' => cell0 (h39 w' (hw'.fr (w0 := wl5) (S := [r]) MI.m)) (by rcases (by omega : i = 0 ∨ i = 1) with rfl | rfl <;> rfl))) rfl ?_))
              all_goals refine tl_q (y_assign rfl) rfl ?_; refine tl_nil ?_; ((refine hK12 ?_; try (clear hK12; clear K12)))
              all_goals refine tc_seq fun K13 hK13 => ?_; refine tc_region ?_; refine tl_q (y_move rfl) rfl ?_; refine tl_q (y_move rfl) rfl ?_; refine tl_q (y_build_g (by repeat constructor)) rfl ?_; refine tl_e (e_allocN rfl) rfl (fun b11 _ => ?_); refine tl_e (e_storeW rfl rfl (by repeat constructor) (by rfl) (by rfl) (by simp [Value.oneCell'])) rfl (fun _ _ => ?_); refine tl_nil ?_; ((refine hK13 ?_; try (clear hK13; clear K13)))
              all_goals refine tc_seq fun K14 hK14 => ?_; refine tc_lay [(r, .map es1 ck1)] SB.s (fun wl9 hl9 => ?_); ((have h11 : ∀ w', Fr [r] wl9 w' → w'.heap[b11]? = some (.cells #[vi (s.L - k), .bool (blF i)] 152 (0, 0)) := fun w' f => f.keepS (by have := hl9.nodup; simp at this ⊢; exact this) (hl9.at (by repeat constructor))))
              all_goals refine tc_region ?_; refine tl_q (y_move rfl) rfl ?_; refine tl_q (y_loadNo (n := 2) (vs := [vi (s.L - k), .bool (blF i)]) rfl (fun w' hw' => (CA_whole (c := #[vi (s.L - k), .bool (blF i)]) (t := 152) (f := (0, 0)) rfl).cells (h11 w' (hw'.fr (w0 := wl9) (S := [r]) MI.m)))) rfl ?_; refine tl_e (e_callX rfl (.cons rfl (.cons rfl .nil)) (fun w' hw' => (steps_c s hf hv b c hco (s.L - k) (by omega) (blF i) tv pv gv bw r w' (hWf w' (hw'.fr (w0 := wl2) (S := [r]) MI.m))).imp (p' := fun y w' => RdS 3 (stE (s.L - k)) w' (slV (stepL s b (s.L - k) (stB s c (s.L - k)) (blF i)).length y) (stepL s b (s.L - k) (stB s c (s.L - k)) (blF i))) id (fun _ => rfl) (fun _ h => h) (fun _ _ _ h => h.1))) rfl (fun y hy => ?_); refine tl_q (y_len rfl) rfl ?_; refine tl_q (y_move rfl) rfl ?_; refine tl_nil ?_; ((refine hK14 ?_; try (clear hK14; clear K14)))
              all_goals refine tc_block ?_
              all_goals (
               obtain ⟨hyr, hyw⟩ := hy
               have hmr : ∃ es ck, y.2.heap[r]? = some (.map es ck) := ⟨_, _, hyw.at (by repeat constructor)⟩
               have hcl1 := hyr.open (stE_len (s.L - k)) (false, 0)
               obtain ⟨ady, cpy, bY, oY, hyv, hady, hcely⟩ := hcl1
               have hcel : ∀ w', Fr [r] y.2 w' → ∀ n : Nat, n < (stepL s b (s.L - k) (stB s c (s.L - k)) (blF i)).length → CA (fun m => w'.cell? ⟨bY, m, none⟩) (oY + n * 3) 3 (stE (s.L - k) ((stepL s b (s.L - k) (stB s c (s.L - k)) (blF i)).getD n (false, 0))) := fun w' f n hn => by
                 have h1 := hyr.frM f (fun x hx => by obtain rfl := List.mem_singleton.1 hx; exact hmr)
                 obtain ⟨ad2, cp2, b2, o2, e1, e2, e3⟩ := h1.open (stE_len (s.L - k)) (false, 0)
                 rw [hyv] at e1
                 cases e1
                 have e4 := e2 (by omega)
                 rw [hady (by omega)] at e4
                 cases e4
                 exact e3 w' [] (Fr.refl _ _) (by simp) n hn
               have hy1 : y.1 = (ady, cpy) := by cases hyv; rfl
               refine tc_loop (fun p : Nat × Array MapEntry × Nat => p.1 ≤ (stepL s b (s.L - k) (stB s c (s.L - k)) (blF i)).length ∧ KeyB p.2.1.toList ∧ ∀ j x, findB p.2.1.toList j x = restY s b c k (blF i) p.1 j x) (fun p => [(7, ptr bw), (8, vi (s.L - k)), (11, ptr b11), (39, .slice (some ⟨b39, 0, none⟩) 2 2), (40, vi 2), (41, vi i), (50, slV (stepL s b (s.L - k) (stB s c (s.L - k)) (blF i)).length y.1), (51, vi (stepL s b (s.L - k) (stB s c (s.L - k)) (blF i)).length), (52, vi p.1)]) (fun _ => [(y.2, [r]), (wl9, [r]), (wl5, [r]), (wl2, [r]), (w, [])]) (fun p => [(r, .map p.2.1 p.2.2)]) (fun p => (stepL s b (s.L - k) (stB s c (s.L - k)) (blF i)).length - p.1) ?_ ?_
               · refine tk_start (0, es1, ck1) ⟨Nat.zero_le _, hkb1, fun j x => ?_⟩ (.cons rfl (.cons rfl (.cons rfl (.cons rfl (.cons rfl (.cons rfl (.cons rfl (.cons rfl (.cons rfl .nil))))))))) (fun _ h => h.subl SB.s SB.s)
                 rw [restY_0, show (blF i).toNat = i from by rcases (by omega : i = 0 ∨ i = 1) with rfl | rfl <;> rfl]
                 exact hfb1 j x
               · rintro ⟨n, es2, ck2⟩ ⟨hn, hkb2, hfb2⟩
                 dsimp only at hn hkb2 hfb2 ⊢
                 have hsl4 : (stepL s b (s.L - k) (stB s c (s.L - k)) (blF i)).length ≤ 4 := stepN_len s b (s.L - k) (stB s c (s.L - k)) (blF i) 4
                 all_goals refine tc_seq fun K15 hK15 => ?_; refine tc_region ?_; refine tl_q (y_lss rfl rfl) rfl ?_; refine tl_nil ?_; ((refine hK15 ?_; try (clear hK15; clear K15)))
                 all_goals refine tc_seq fun K16 hK16 => ?_
                 all_goals (
                  refine tc_cond rfl (fun hc => ?_) (fun hc => ?_)
                  · try simp only [qn1, qn2, qn3, qn4, qn5, qn6, qn7, qn8] at hc
                    all_goals refine tc_skip ?_; ((refine hK16 ?_; try (clear hK16; clear K16)))
                    all_goals refine tc_seq fun K17 hK17 => ?_; refine tc_block ?_; refine tc_seq fun K18 hK18 => ?_; refine tc_region ?_; ((refine tl_q (y_index rfl rfl (by omega) (by rw [hy1]; exact hady (by omega))) rfl ?_))
                    all_goals ((refine tl_q (y_loadNo (n := 3) (vs := [vi (s.L - k + 1), .bool ((stepL s b (s.L - k) (stB s c (s.L - k)) (blF i)).getD n (false, 0)).1, vi ((stepL s b (s.L - k) (stB s c (s.L - k)) (blF i)).getD n (false, 0)).2]) rfl (fun w' hw' => by rw [show Int.toNat (n : Int) * 3 = n * 3 from by omega]; exact hcel w' (hw'.fr (w0 := y.2) (S := [r]) MI.m) n (by omega))) rfl ?_))
                    all_goals refine tl_e (e_allocN rfl) rfl (fun _ _ => ?_); refine tl_e (e_storeW rfl rfl (by repeat constructor) (by rfl) (by rfl) (by simp [Value.oneCell'])) rfl (fun b13 _ => ?_); refine tl_nil ?_; ((refine hK18 ?_; try (clear hK18; clear K18)))
                    all_goals refine tc_seq fun K19 hK19 => ?_; refine tc_draw (by kernel_rfl) ?_; refine tx_p 0 rfl (by kernel_rfl) (y_move rfl) rfl (fun _ _ _ h => h) (fun _ h => h) ?_; refine tx_p 1 rfl (by kernel_rfl) (y_nil rfl) rfl (fun _ _ _ h => h) (fun _ h => h) ?_; refine tx_p 2 rfl (by kernel_rfl) (y_field rfl) rfl (fun _ _ _ h => h) (fun _ h => h) ?_; refine tx_q 3 rfl (by kernel_rfl) (y_load1o (v := .map (some r)) rfl (fun w' hw' => wk_map (hWf w' (hw'.fr (w0 := wl2) (S := [r]) MI.m)).hw hcl)) rfl (fun _ _ _ h => h) (fun _ h => h) ?_; refine tx_p 4 rfl (by kernel_rfl) (y_field rfl) rfl (fun _ _ _ h => h) (fun _ h => h) ?_; ((refine tx_q 5 rfl (by kernel_rfl) (y_loadN rfl (by repeat constructor) (by (repeat (first | exact .nil | apply CA.cons rfl)); done)) rfl (fun _ _ _ h => h) (fun _ h => h) ?_))
                    all_goals (refine tx_q 6 rfl (by kernel_rfl) (y_lookupB rfl rfl (by repeat constructor) hkb2 ((hfb2 _ _).trans restY_next)) rfl (fun _ _ _ h => h) (fun _ h => h) ?_); refine tx_p 7 rfl (by kernel_rfl) (y_move rfl) rfl (fun _ _ _ h => h) (fun _ h => h) ?_; refine tx_p 8 rfl (by kernel_rfl) (y_extract rfl rfl) rfl (fun _ _ _ h => h) (fun _ h => h) ?_; refine tx_p 9 rfl (by kernel_rfl) (y_extract rfl rfl) rfl (fun _ _ _ h => h) (fun _ h => h) ?_; refine tx_p 10 rfl (by kernel_rfl) (y_assign rfl) rfl (fun _ _ _ h => h) (fun _ h => h) ?_; refine tx_p 11 rfl (by kernel_rfl) (y_assign rfl) rfl (fun _ _ _ h => h) (fun _ h => h) ?_; refine tx_done (by kernel_rfl) ?_; ((refine hK19 ?_; try (clear hK19; clear K19)))
                    all_goals refine tc_seq fun K20 hK20 => ?_; refine tc_seq fun K21 hK21 => ?_; refine tc_region ?_; refine tl_q (y_move rfl) rfl ?_; refine tl_q (y_not rfl) rfl ?_; refine tl_nil ?_; ((refine hK21 ?_; try (clear hK21; clear K21)))
                    all_goals (
                     refine tc_cond rfl (fun hc => ?_) (fun hc => ?_)
                     · try simp only [qn1, qn2, qn3, qn4, qn5, qn6, qn7, qn8] at hc
                       all_goals refine tc_exit ?_; ((refine hK17 ?_; try (clear hK17; clear K17)))
                       all_goals refine tc_region ?_; refine tl_q (y_add rfl rfl (by omega)) rfl ?_; refine tl_q (y_move rfl) rfl ?_; refine tl_nil ?_
                       all_goals (
                        first
                        | (have hno := restY_no (minP_no (opt_none hc))
                           exact tk_round (n + 1, es2, ck2) ⟨by dsimp only; omega, hkb2, fun j x => (hfb2 j x).trans (hno j x)⟩ (by dsimp only; omega) (.cons rfl (.cons rfl (.cons rfl (.cons rfl (.cons rfl (.cons rfl (.cons rfl (.cons rfl (.cons rfl .nil))))))))) (fun _ h => h.subl SB.s SB.s))
                        | (have hset := restY_set (minP_own hm how)
                           exact tk_round (n + 1, q.1, q.2) ⟨by dsimp only; omega, hq.1, fun j x => (hq.2 j x).trans (by rw [hfb2]; exact hset j x)⟩ (by dsimp only; omega) (.cons rfl (.cons rfl (.cons rfl (.cons rfl (.cons rfl (.cons rfl (.cons rfl (.cons rfl (.cons rfl .nil))))))))) (fun _ h => h.subl SB.s SB.s))
                        | (have hset := restY_set (minP_new hm how)
                           exact tk_round (n + 1, q.1, q.2) ⟨by dsimp only; omega, hq.1, fun j x => (hq.2 j x).trans (by rw [hfb2]; exact hset j x)⟩ (by dsimp only; omega) (.cons rfl (.cons rfl (.cons rfl (.cons rfl (.cons rfl (.cons rfl (.cons rfl (.cons rfl (.cons rfl .nil))))))))) (fun _ h => h.subl SB.s SB.s)))
                     · try simp only [qn1, qn2, qn3, qn4, qn5, qn6, qn7, qn8] at hc
                       all_goals refine tc_skip ?_; ((refine hK20 ?_; try (clear hK20; clear K20)))
                       all_goals refine tc_seq fun K22 hK22 => ?_; ((obtain ⟨m, hm⟩ := opt_some hc; have hmb := rstF_bd s b c _ _ _ hm; have hop1 := stepN_mem (getD_memG (l := stepL s b (s.L - k) (stB s c (s.L - k)) (blF i)) (n := n) (d := (false, 0)) (by omega)); simp only [hm, Option.getD_some]))
                       all_goals refine tc_draw (by kernel_rfl) ?_; refine tx_p 0 rfl (by kernel_rfl) (y_move rfl) rfl (fun _ _ _ h => h) (fun _ h => h) ?_; refine tx_p 1 rfl (by kernel_rfl) (y_nil rfl) rfl (fun _ _ _ h => h) (fun _ h => h) ?_; refine tx_p 2 rfl (by kernel_rfl) (y_field rfl) rfl (fun _ _ _ h => h) (fun _ h => h) ?_; refine tx_q 3 rfl (by kernel_rfl) (y_load1o (v := .map (some r)) rfl (fun w' hw' => wk_map (hWf w' (hw'.fr (w0 := wl2) (S := [r]) MI.m)).hw hcl)) rfl (fun _ _ _ h => h) (fun _ h => h) ?_; refine tx_q 4 rfl (by kernel_rfl) (y_loadNo (n := 2) (vs := [vi (s.L - k), .bool (blF i)]) rfl (fun w' hw' => (CA_whole (c := #[vi (s.L - k), .bool (blF i)]) (t := 152) (f := (0, 0)) rfl).cells (h11 w' (hw'.fr (w0 := wl9) (S := [r]) MI.m)))) rfl (fun _ _ _ h => h) (fun _ h => h) ?_; refine tx_q 5 rfl (by kernel_rfl) (y_lookupB rfl rfl (by repeat constructor) hkb2 ((hfb2 _ _).trans restY_own)) rfl (fun _ _ _ h => h) (fun _ h => h) ?_; refine tx_p 6 rfl (by kernel_rfl) (y_move rfl) rfl (fun _ _ _ h => h) (fun _ h => h) ?_; refine tx_p 7 rfl (by kernel_rfl) (y_extract rfl rfl) rfl (fun _ _ _ h => h) (fun _ h => h) ?_; refine tx_p 8 rfl (by kernel_rfl) (y_extract rfl rfl) rfl (fun _ _ _ h => h) (fun _ h => h) ?_; refine tx_p 9 rfl (by kernel_rfl) (y_assign rfl) rfl (fun _ _ _ h => h) (fun _ h => h) ?_; refine tx_p 10 rfl (by kernel_rfl) (y_assign rfl) rfl (fun _ _ _ h => h) (fun _ h => h) ?_; refine tx_done (by kernel_rfl) ?_; ((refine hK22 ?_; try (clear hK22; clear K22)))
                       all_goals refine tc_seq fun K23 hK23 => ?_; refine tc_region ?_; refine tl_q (y_move rfl) rfl ?_; refine tl_nil ?_; ((refine hK23 ?_; try (clear hK23; clear K23)))
                       all_goals (
                        refine tc_cond rfl (fun hc => ?_) (fun hc => ?_)
                        · all_goals (skip)
                          all_goals ((obtain ⟨own, how⟩ := opt_some hc; simp only [how, Option.getD_some]))
                          all_goals refine tc_draw (by kernel_rfl) ?_; refine tx_p 0 rfl (by kernel_rfl) (y_move rfl) rfl (fun _ _ _ h => h) (fun _ h => h) ?_; refine tx_p 1 rfl (by kernel_rfl) (y_nil rfl) rfl (fun _ _ _ h => h) (fun _ h => h) ?_; refine tx_p 2 rfl (by kernel_rfl) (y_field rfl) rfl (fun _ _ _ h => h) (fun _ h => h) ?_; refine tx_q 3 rfl (by kernel_rfl) (y_load1o (v := .map (some r)) rfl (fun w' hw' => wk_map (hWf w' (hw'.fr (w0 := wl2) (S := [r]) MI.m)).hw hcl)) rfl (fun _ _ _ h => h) (fun _ h => h) ?_; refine tx_q 4 rfl (by kernel_rfl) (y_loadNo (n := 2) (vs := [vi (s.L - k), .bool (blF i)]) rfl (fun w' hw' => (CA_whole (c := #[vi (s.L - k), .bool (blF i)]) (t := 152) (f := (0, 0)) rfl).cells (h11 w' (hw'.fr (w0 := wl9) (S := [r]) MI.m)))) rfl (fun _ _ _ h => h) (fun _ h => h) ?_; refine tx_p 5 rfl (by kernel_rfl) (y_move rfl) rfl (fun _ _ _ h => h) (fun _ h => h) ?_; refine tx_p 6 rfl (by kernel_rfl) (y_move rfl) rfl (fun _ _ _ h => h) (fun _ h => h) ?_; refine tx_p 7 rfl (by kernel_rfl) (y_field rfl) rfl (fun _ _ _ h => h) (fun _ h => h) ?_; refine tx_q 8 rfl (by kernel_rfl) (y_load1 rfl (by repeat constructor) (by rfl)) rfl (fun _ _ _ h => h) (fun _ h => h) ?_; refine tx_p 9 rfl (by kernel_rfl) (y_add rfl rfl (by omega)) rfl (fun _ _ _ h => h) (fun _ h => h) ?_; (refine tx_e 10 rfl (by kernel_rfl) rfl (e_bslice rfl (by (repeat (first | exact .nil | apply PV.one rfl rfl)); done) rfl rfl) (.inr qq1) (fun _ _ => ?_))
                          all_goals refine tx_e 11 rfl (by kernel_rfl) rfl (e_callV rfl (.cons rfl .nil) (fun w' hw' => mmin_c own (m + ((stepL s b (s.L - k) (stB s c (s.L - k)) (blF i)).getD n (false, 0)).2) _ w' (RdI.own0 (xs := [own, m + ((stepL s b (s.L - k) (stB s c (s.L - k)) (blF i)).getD n (false, 0)).2]) hw' (by repeat constructor)))) (.inr fun _ _ h => h) (fun _ _ => ?_); refine tx_e 12 rfl (by kernel_rfl) rfl (e_mapUpdateB hkb2 rfl rfl rfl (fun _ => by repeat constructor)) (.inl (by kernel_rfl)) (fun q hq => ?_); refine tx_done (by kernel_rfl) ?_; ((refine hK17 ?_; try (clear hK17; clear K17)))
                          all_goals refine tc_region ?_; refine tl_q (y_add rfl rfl (by omega)) rfl ?_; refine tl_q (y_move rfl) rfl ?_; refine tl_nil ?_
                          all_goals (
                           first
                           | (have hno := restY_no (minP_no (opt_none hc))
                              exact tk_round (n + 1, es2, ck2) ⟨by dsimp only; omega, hkb2, fun j x => (hfb2 j x).trans (hno j x)⟩ (by dsimp only; omega) (.cons rfl (.cons rfl (.cons rfl (.cons rfl (.cons rfl (.cons rfl (.cons rfl (.cons rfl (.cons rfl .nil))))))))) (fun _ h => h.subl SB.s SB.s))
                           | (have hset := restY_set (minP_own hm how)
                              exact tk_round (n + 1, q.1, q.2) ⟨by dsimp only; omega, hq.1, fun j x => (hq.2 j x).trans (by rw [hfb2]; exact hset j x)⟩ (by dsimp only; omega) (.cons rfl (.cons rfl (.cons rfl (.cons rfl (.cons rfl (.cons rfl (.cons rfl (.cons rfl (.cons rfl .nil))))))))) (fun _ h => h.subl SB.s SB.s))
                           | (have hset := restY_set (minP_new hm how)
                              exact tk_round (n + 1, q.1, q.2) ⟨by dsimp only; omega, hq.1, fun j x => (hq.2 j x).trans (by rw [hfb2]; exact hset j x)⟩ (by dsimp only; omega) (.cons rfl (.cons rfl (.cons rfl (.cons rfl (.cons rfl (.cons rfl (.cons rfl (.cons rfl (.cons rfl .nil))))))))) (fun _ h => h.subl SB.s SB.s)))
                        · all_goals (skip)
                          all_goals (have how := opt_none hc)
                          all_goals refine tc_draw (by kernel_rfl) ?_; refine tx_p 0 rfl (by kernel_rfl) (y_move rfl) rfl (fun _ _ _ h => h) (fun _ h => h) ?_; refine tx_p 1 rfl (by kernel_rfl) (y_nil rfl) rfl (fun _ _ _ h => h) (fun _ h => h) ?_; refine tx_p 2 rfl (by kernel_rfl) (y_field rfl) rfl (fun _ _ _ h => h) (fun _ h => h) ?_; refine tx_q 3 rfl (by kernel_rfl) (y_load1o (v := .map (some r)) rfl (fun w' hw' => wk_map (hWf w' (hw'.fr (w0 := wl2) (S := [r]) MI.m)).hw hcl)) rfl (fun _ _ _ h => h) (fun _ h => h) ?_; refine tx_q 4 rfl (by kernel_rfl) (y_loadNo (n := 2) (vs := [vi (s.L - k), .bool (blF i)]) rfl (fun w' hw' => (CA_whole (c := #[vi (s.L - k), .bool (blF i)]) (t := 152) (f := (0, 0)) rfl).cells (h11 w' (hw'.fr (w0 := wl9) (S := [r]) MI.m)))) rfl (fun _ _ _ h => h) (fun _ h => h) ?_; refine tx_p 5 rfl (by kernel_rfl) (y_move rfl) rfl (fun _ _ _ h => h) (fun _ h => h) ?_; refine tx_p 6 rfl (by kernel_rfl) (y_field rfl) rfl (fun _ _ _ h => h) (fun _ h => h) ?_; refine tx_q 7 rfl (by kernel_rfl) (y_load1 rfl (by repeat constructor) (by rfl)) rfl (fun _ _ _ h => h) (fun _ h => h) ?_; refine tx_p 8 rfl (by kernel_rfl) (y_add rfl rfl (by omega)) rfl (fun _ _ _ h => h) (fun _ h => h) ?_; refine tx_e 9 rfl (by kernel_rfl) rfl (e_mapUpdateB hkb2 rfl rfl rfl (fun _ => by repeat constructor)) (.inl (by kernel_rfl)) (fun q hq => ?_); refine tx_done (by kernel_rfl) ?_; ((refine hK17 ?_; try (clear hK17; clear K17)))
                          all_goals refine tc_region ?_; refine tl_q (y_add rfl rfl (by omega)) rfl ?_; refine tl_q (y_move rfl) rfl ?_; refine tl_nil ?_
                          all_goals (
                           first
                           | (have hno := restY_no (minP_no (opt_none hc))
                              exact tk_round (n + 1, es2, ck2) ⟨by dsimp only; omega, hkb2, fun j x => (hfb2 j x).trans (hno j x)⟩ (by dsimp only; omega) (.cons rfl (.cons rfl (.cons rfl (.cons rfl (.cons rfl (.cons rfl (.cons rfl (.cons rfl (.cons rfl .nil))))))))) (fun _ h => h.subl SB.s SB.s))
                           | (have hset := restY_set (minP_own hm how)
                              exact tk_round (n + 1, q.1, q.2) ⟨by dsimp only; omega, hq.1, fun j x => (hq.2 j x).trans (by rw [hfb2]; exact hset j x)⟩ (by dsimp only; omega) (.cons rfl (.cons rfl (.cons rfl (.cons rfl (.cons rfl (.cons rfl (.cons rfl (.cons rfl (.cons rfl .nil))))))))) (fun _ h => h.subl SB.s SB.s))
                           | (have hset := restY_set (minP_new hm how)
                              exact tk_round (n + 1, q.1, q.2) ⟨by dsimp only; omega, hq.1, fun j x => (hq.2 j x).trans (by rw [hfb2]; exact hset j x)⟩ (by dsimp only; omega) (.cons rfl (.cons rfl (.cons rfl (.cons rfl (.cons rfl (.cons rfl (.cons rfl (.cons rfl (.cons rfl .nil))))))))) (fun _ h => h.subl SB.s SB.s)))))
                  · try simp only [qn1, qn2, qn3, qn4, qn5, qn6, qn7, qn8] at hc
                    all_goals refine tc_exit ?_; ((refine hK11 ?_; try (clear hK11; clear K11)))
                    all_goals refine tc_region ?_; refine tl_q (y_add rfl rfl (by omega)) rfl ?_; refine tl_q (y_move rfl) rfl ?_; refine tl_nil ?_
                    all_goals (
                     obtain rfl : n = (stepL s b (s.L - k) (stB s c (s.L - k)) (blF i)).length := by omega
                     have hbi : (blF i).toNat = i := by rcases (by omega : i = 0 ∨ i = 1) with rfl | rfl <;> rfl
                     exact tk_round (i + 1, es2, ck2) ⟨by dsimp only; omega, hkb2, fun j x => by rw [hfb2, restY_end, hbi]⟩ (by dsimp only; omega) (.cons rfl (.cons rfl (.cons rfl (.cons rfl (.cons rfl .nil))))) (fun _ h => h.subl SB.s SB.s))))
            · try simp only [qn1, qn2, qn3, qn4, qn5, qn6, qn7, qn8] at hc
              all_goals refine tc_exit ?_; ((refine hK7 ?_; try (clear hK7; clear K7)))
              all_goals refine tc_region ?_; refine tl_q (y_move rfl) rfl ?_; refine tl_q (y_sub rfl rfl (by omega)) rfl ?_; refine tl_q (y_assign rfl) rfl ?_; refine tl_nil ?_
              all_goals (
               obtain rfl : i = 2 := by omega
               exact tk_round (k + 1, es1, ck1) ⟨by dsimp only; omega, hkb1, fun j x => by rw [hfb1, restX_2 _ _ _ _ (by omega)]⟩ (by dsimp only; omega) (.cons rfl (.cons (by dsimp only; rw [show s.L - ((k + 1 : Nat) : Int) = s.L - k - 1 from by omega]; rfl) .nil)) (fun _ h => h.subl SB.s SB.s))))
      · try simp only [qn1, qn2, qn3, qn4, qn5, qn6, qn7, qn8] at hc
        all_goals refine tc_exit ?_; ((refine hK3 ?_; try (clear hK3; clear K3)))
        all_goals refine tc_seq fun K24 hK24 => ?_; refine tc_region ?_; refine tl_q (y_move rfl) rfl ?_; refine tl_q (y_assign rfl) rfl ?_; refine tl_nil ?_; ((refine hK24 ?_; try (clear hK24; clear K24)))
        all_goals refine tc_ret ?_; (repeat (first | refine tk_then_ret ?_))
        all_goals (refine tk_ret rfl rfl (.cons (.tmp rfl) .nil) ?_)
        all_goals (
         obtain rfl : k = (s.L + 1).toNat := by omega
         exact fun w' hw' => ⟨(bw, r, es, ck), rfl, hw'.fr (w0 := w) (S := []) MI.m, ⟨hWf w' (hw'.fr (w0 := wl2) (S := [r]) MI.m), hw'.heap _ (HM.mem (by repeat constructor)), hkb, hfb⟩, hnew.1, hnew.2⟩)))
end Go.Sp
/-
  The references of tables and disputes, walked.
-/
namespace Go.Sp
open Go Go.Proofs
theorem RdS.inE {w : World} {v : Value} {xs : List Int} : RdS 1 inE w v xs ↔ RdI w v xs := RdS.int
abbrev tbV (wv mv vv : Value) : Value := .agg #[wv, mv, vv]
structure RdTb (w : World) (t : Tab) (wv mv vv : Value) : Prop where
  ws : RdI w wv t.ws
  ms : RdI w mv t.ms
  vs : RdLL 1 inE w vv t.vs
theorem RdTb.fr {w w' : World} {t : Tab} {wv mv vv : Value} (h : RdTb w t wv mv vv) (f : Fr [] w w') : RdTb w' t wv mv vv := ⟨h.ws.fr f, h.ms.fr f, h.vs.fr f⟩
/-- A row, laid open. -/
theorem row_open {w : World} {us : List Sv} {vs : List (List Int)} {i : Nat} (h : RdS 1 inE w (us.getD i sv0).1 (vs.getD i [])) :
    ∃ ad cap b o, (us.getD i sv0).1 = .slice ad (vs.getD i []).length cap ∧ (0 < (vs.getD i []).length → ad = some ⟨b, o, none⟩) ∧ ∀ w', Fr [] w w' → ∀ k, k < (vs.getD i []).length → w'.cell? ⟨b, o + k, none⟩ = some (vi ((vs.getD i []).getD k 0)) := (RdS.inE.1 h).open
/-- Not larger than any slice. -/
structure TbSized (t : Tab) : Prop where
  ws : (t.ws.length : Int) ≤ 9223372036854775807
  ms : (t.ms.length : Int) ≤ 9223372036854775807
  vs : (t.vs.length : Int) ≤ 9223372036854775807
  rs : ∀ i, i < t.vs.length → ((t.vs.getD i []).length : Int) ≤ 9223372036854775807
theorem VTab.sized {t : Tab} (h : VTab t) : TbSized t := by
  have h1 := h.w5
  have h2 := h.m5
  have h3 := h.v
  exact ⟨by omega, by omega, by omega, fun i hi => by have := (h.row i hi).1; omega⟩
theorem tIn_c (n lo hi : Int) (w : World) : CnV Tryz.prog 19 #[vi n, vi lo, vi hi] w (.bool (decide (lo ≤ n ∧ n ≤ hi))) := by
  refine cnv (vs := [_, _, _]) Tryz.func19 rfl rfl ?_
  all_goals refine tc_seq fun K1 hK1 => ?_; refine tc_region ?_; refine tl_q (y_assign rfl) rfl ?_; refine tl_nil ?_; ((refine hK1 ?_; try (clear hK1; clear K1)))
  all_goals refine tc_seq fun K2 hK2 => ?_; refine tc_region ?_; refine tl_q (y_move rfl) rfl ?_; refine tl_q (y_move rfl) rfl ?_; refine tl_q (y_geq rfl rfl) rfl ?_; refine tl_q (y_move rfl) rfl ?_; ((refine tl_gs rfl rfl (fun hc => ?_) (fun hc => ?_) <;> (skip) <;> (first | refine tl_sk rfl rfl rfl rfl ?_ | refine tl_qg rfl rfl (y_move rfl) rfl ?_)))
  all_goals (first | refine tl_sk rfl rfl rfl rfl ?_ | refine tl_qg rfl rfl (y_move rfl) rfl ?_); (first | refine tl_sk rfl rfl rfl rfl ?_ | refine tl_qg rfl rfl (y_leq rfl rfl) rfl ?_); (first | refine tl_q (y_pick_t rfl rfl) rfl ?_ | refine tl_q (y_pick_f rfl rfl) rfl ?_); refine tl_q (y_assign rfl) rfl ?_; refine tl_nil ?_; ((refine hK2 ?_; try (clear hK2; clear K2)))
  all_goals refine tc_ret ?_; (repeat (first | refine tk_then_ret ?_))
  all_goals (refine tk_ret rfl rfl (.cons (.tmp rfl) .nil) ?_)
  all_goals (
   refine fun w' hw' => ⟨?_, hw'.fr (by simp)⟩; simp only [outV, decide_eq_true_eq, decide_eq_false_iff_not, ge_iff_le] at *; simp [hc])
instance (most : Int) (l : List Int) : Decidable (risL most l) := by unfold risL; infer_instance
theorem risL_upto {most : Int} {l : List Int} {k : Nat} (hk : (k : Int) = l.length) (h : ∀ i, i < k → (0 ≤ l.getD i 0 ∧ l.getD i 0 ≤ most) ∧ (0 < i → l.getD (i - 1) 0 < l.getD i 0)) : risL most l := fun i hi => h i (by omega)
set_option maxHeartbeats 1000000 in
theorem tRising_c (l : List Int) (most : Int) (hl : (l.length : Int) ≤ 9223372036854775807) (sl : Value) (w : World) (hr : RdI w sl l) : CnV Tryz.prog 18 #[sl, vi most] w (.bool (decide (risL most l))) := by
  obtain ⟨ad, cap, b0, o, rfl, had, hcell⟩ := hr.open
  refine cnv (vs := [_, _]) Tryz.func18 rfl rfl ?_
  all_goals refine tc_seq fun K1 hK1 => ?_; refine tc_region ?_; refine tl_q (y_assign rfl) rfl ?_; refine tl_nil ?_; ((refine hK1 ?_; try (clear hK1; clear K1)))
  all_goals refine tc_seq fun K2 hK2 => ?_; refine tc_seq fun K3 hK3 => ?_; refine tc_region ?_; refine tl_q (y_assign rfl) rfl ?_; refine tl_nil ?_; ((refine hK3 ?_; try (clear hK3; clear K3)))
  all_goals refine tc_block ?_
  all_goals (
   refine tc_loop (fun k : Nat => k ≤ l.length ∧ ∀ i, i < k → (0 ≤ l.getD i 0 ∧ l.getD i 0 ≤ most) ∧ (0 < i → l.getD (i - 1) 0 < l.getD i 0)) (fun k => [(0, .slice ad l.length cap), (1, vi most), (5, vi k)]) (fun _ => [(w, [])]) (fun _ => []) (fun k => l.length - k) ?_ ?_
   · exact tk_start 0 ⟨Nat.zero_le _, fun j hj => absurd hj (Nat.not_lt_zero j)⟩ (.cons rfl (.cons rfl (.cons rfl .nil))) (fun _ h => h)
   · rintro k ⟨hk, hj⟩
     all_goals refine tc_seq fun K4 hK4 => ?_; refine tc_seq fun K5 hK5 => ?_; refine tc_region ?_; refine tl_q (y_move rfl) rfl ?_; refine tl_q (y_move rfl) rfl ?_; refine tl_q (y_len rfl) rfl ?_; refine tl_q (y_lss rfl rfl) rfl ?_; refine tl_nil ?_; ((refine hK5 ?_; try (clear hK5; clear K5)))
     all_goals (
      refine tc_cond rfl (fun hc => ?_) (fun hc => ?_)
      · try simp only [qn1, qn2, qn3, qn4, qn5, qn6, qn7, qn8] at hc
        all_goals refine tc_skip ?_; ((refine hK4 ?_; try (clear hK4; clear K4)))
        all_goals refine tc_seq fun K6 hK6 => ?_; refine tc_block ?_; refine tc_seq fun K7 hK7 => ?_; (have had' := had (by omega))
        all_goals (have e0 : Int.toNat (k : Int) * 1 = k := by omega)
        all_goals refine tc_draw (by kernel_rfl) ?_; refine tx_p 0 rfl (by kernel_rfl) (y_move rfl) rfl (fun _ _ _ h => h) (fun _ h => h) ?_; refine tx_p 1 rfl (by kernel_rfl) (y_move rfl) rfl (fun _ _ _ h => h) (fun _ h => h) ?_; refine tx_p 2 rfl (by kernel_rfl) (y_index rfl rfl (by omega) had') rfl (fun _ _ _ h => h) (fun _ h => h) ?_; ((refine tx_q 3 rfl (by kernel_rfl) (y_load1o (v := vi (l.getD k 0)) rfl (fun w' hw' => by rw [e0]; exact hcell w' (hw'.fr (w0 := w) (S := []) MI.m) k (by omega))) rfl (fun _ _ _ h => h) (fun _ h => h) ?_))
        all_goals refine tx_p 4 rfl (by kernel_rfl) (y_move rfl) rfl (fun _ _ _ h => h) (fun _ h => h) ?_; refine tx_e 5 rfl (by kernel_rfl) rfl (e_callV rfl (.cons rfl (.cons rfl (.cons rfl .nil))) (fun w' _ => tIn_c _ _ _ w')) (.inr fun _ _ h => h) (fun _ _ => ?_); refine tx_p 6 rfl (by kernel_rfl) (y_not_dec rfl) rfl (fun _ _ _ h => h) (fun _ h => h) ?_; refine tx_p 7 rfl (by kernel_rfl) (y_move rfl) rfl (fun _ _ _ h => h) (fun _ h => h) ?_; ((refine tx_gs 19 rfl (fun hc => ?_) (fun hc => ?_) <;> (try simp only [qn1, qn2, qn3, qn4, qn5, qn6, qn7, qn8] at hc) <;> (first | refine tx_sk 8 rfl (by kernel_rfl) rfl rfl rfl rfl (fun _ _ _ h => h) (fun _ h => h) ?_ | refine tx_pg 8 rfl (by kernel_rfl) rfl rfl (y_move rfl) rfl (fun _ _ _ h => h) (fun _ h => h) ?_)))
        all_goals (first | refine tx_sk 9 rfl (by kernel_rfl) rfl rfl rfl rfl (fun _ _ _ h => h) (fun _ h => h) ?_ | refine tx_pg 9 rfl (by kernel_rfl) rfl rfl (y_gtr rfl rfl) rfl (fun _ _ _ h => h) (fun _ h => h) ?_); (first | refine tx_sk 10 rfl (by kernel_rfl) rfl rfl rfl rfl (fun _ _ _ h => h) (fun _ h => h) ?_ | refine tx_pg 10 rfl (by kernel_rfl) rfl rfl (y_move rfl) rfl (fun _ _ _ h => h) (fun _ h => h) ?_); ((first | refine tx_su 11 rfl (by kernel_rfl) rfl rfl rfl (fun _ _ _ h => h) (fun _ h => h) ?_ | (refine tx_gs 22 rfl (fun hc => ?_) (fun hc => ?_) <;> (try simp only [qn1, qn2, qn3, qn4, qn5, qn6, qn7, qn8] at hc) <;> (first | refine tx_sk 11 rfl (by kernel_rfl) rfl rfl rfl rfl (fun _ _ _ h => h) (fun _ h => h) ?_ | refine tx_pg 11 rfl (by kernel_rfl) rfl rfl (y_move rfl) rfl (fun _ _ _ h => h) (fun _ h => h) ?_))))
        all_goals (first | refine tx_sk 12 rfl (by kernel_rfl) rfl rfl rfl rfl (fun _ _ _ h => h) (fun _ h => h) ?_ | refine tx_pg 12 rfl (by kernel_rfl) rfl rfl (y_move rfl) rfl (fun _ _ _ h => h) (fun _ h => h) ?_ | refine tx_su 12 rfl (by kernel_rfl) rfl rfl rfl (fun _ _ _ h => h) (fun _ h => h) ?_); (first | refine tx_sk 13 rfl (by kernel_rfl) rfl rfl rfl rfl (fun _ _ _ h => h) (fun _ h => h) ?_ | refine tx_pg 13 rfl (by kernel_rfl) rfl rfl (y_index rfl rfl (by omega) had') rfl (fun _ _ _ h => h) (fun _ h => h) ?_ | refine tx_su 13 rfl (by kernel_rfl) rfl rfl rfl (fun _ _ _ h => h) (fun _ h => h) ?_); ((first | refine tx_sk 14 rfl (by kernel_rfl) rfl rfl rfl rfl (fun _ _ _ h => h) (fun _ h => h) ?_ | refine tx_qg 14 rfl (by kernel_rfl) rfl rfl (y_load1o (v := vi (l.getD k 0)) rfl (fun w' hw' => by rw [e0]; exact hcell w' (hw'.fr (w0 := w) (S := []) MI.m) k (by omega))) rfl (fun _ _ _ h => h) (fun _ h => h) ?_ | refine tx_su 14 rfl (by kernel_rfl) rfl rfl rfl (fun _ _ _ h => h) (fun _ h => h) ?_))
        all_goals (first | refine tx_sk 15 rfl (by kernel_rfl) rfl rfl rfl rfl (fun _ _ _ h => h) (fun _ h => h) ?_ | refine tx_pg 15 rfl (by kernel_rfl) rfl rfl (y_move rfl) rfl (fun _ _ _ h => h) (fun _ h => h) ?_ | refine tx_su 15 rfl (by kernel_rfl) rfl rfl rfl (fun _ _ _ h => h) (fun _ h => h) ?_); (first | refine tx_sk 16 rfl (by kernel_rfl) rfl rfl rfl rfl (fun _ _ _ h => h) (fun _ h => h) ?_ | refine tx_pg 16 rfl (by kernel_rfl) rfl rfl (y_move rfl) rfl (fun _ _ _ h => h) (fun _ h => h) ?_ | refine tx_su 16 rfl (by kernel_rfl) rfl rfl rfl (fun _ _ _ h => h) (fun _ h => h) ?_); (first | refine tx_sk 17 rfl (by kernel_rfl) rfl rfl rfl rfl (fun _ _ _ h => h) (fun _ h => h) ?_ | refine tx_pg 17 rfl (by kernel_rfl) rfl rfl (y_sub rfl rfl (by omega)) rfl (fun _ _ _ h => h) (fun _ h => h) ?_ | refine tx_su 17 rfl (by kernel_rfl) rfl rfl rfl (fun _ _ _ h => h) (fun _ h => h) ?_); (first | refine tx_sk 18 rfl (by kernel_rfl) rfl rfl rfl rfl (fun _ _ _ h => h) (fun _ h => h) ?_ | refine tx_pg 18 rfl (by kernel_rfl) rfl rfl (y_index rfl rfl (by omega) had') rfl (fun _ _ _ h => h) (fun _ h => h) ?_ | refine tx_su 18 rfl (by kernel_rfl) rfl rfl rfl (fun _ _ _ h => h) (fun _ h => h) ?_); ((first | refine tx_sk 19 rfl (by kernel_rfl) rfl rfl rfl rfl (fun _ _ _ h => h) (fun _ h => h) ?_ | refine tx_qg 19 rfl (by kernel_rfl) rfl rfl (y_load1o (v := vi (l.getD (k - 1) 0)) rfl (fun w' hw' => by rw [show Int.toNat ((k : Int) - 1) * 1 = k - 1 from by omega]; exact hcell w' (hw'.fr (w0 := w) (S := []) MI.m) (k - 1) (by omega))) rfl (fun _ _ _ h => h) (fun _ h => h) ?_ | refine tx_su 19 rfl (by kernel_rfl) rfl rfl rfl (fun _ _ _ h => h) (fun _ h => h) ?_))
        all_goals (first | refine tx_sk 20 rfl (by kernel_rfl) rfl rfl rfl rfl (fun _ _ _ h => h) (fun _ h => h) ?_ | refine tx_pg 20 rfl (by kernel_rfl) rfl rfl (y_leq rfl rfl) rfl (fun _ _ _ h => h) (fun _ h => h) ?_ | refine tx_su 20 rfl (by kernel_rfl) rfl rfl rfl (fun _ _ _ h => h) (fun _ h => h) ?_); (first | refine tx_sk 21 rfl (by kernel_rfl) rfl rfl rfl rfl (fun _ _ _ h => h) (fun _ h => h) ?_ | refine tx_pg 21 rfl (by kernel_rfl) rfl rfl (y_pick_t rfl rfl) rfl (fun _ _ _ h => h) (fun _ h => h) ?_ | refine tx_pg 21 rfl (by kernel_rfl) rfl rfl (y_pick_f rfl rfl) rfl (fun _ _ _ h => h) (fun _ h => h) ?_); (first | refine tx_p 22 rfl (by kernel_rfl) (y_pick_t rfl rfl) rfl (fun _ _ _ h => h) (fun _ h => h) ?_ | refine tx_p 22 rfl (by kernel_rfl) (y_pick_f rfl rfl) rfl (fun _ _ _ h => h) (fun _ h => h) ?_); refine tx_done (by kernel_rfl) ?_; ((refine hK7 ?_; try (clear hK7; clear K7)))
        all_goals (
         refine tc_cond rfl (fun hc => ?_) (fun hc => ?_)
         · try simp only [qn1, qn2, qn3, qn4, qn5, qn6, qn7, qn8] at hc
           all_goals ((first | (exfalso; with_reducible exact bft hc) | skip))
           all_goals refine tc_seq fun K8 hK8 => ?_; refine tc_region ?_; refine tl_q (y_assign rfl) rfl ?_; refine tl_nil ?_; ((refine hK8 ?_; try (clear hK8; clear K8)))
           all_goals refine tc_ret ?_; (repeat (first | refine tk_then_ret ?_ | refine tk_block_ret ?_))
           all_goals (refine tk_ret rfl rfl (.cons (.tmp rfl) .nil) ?_)
           all_goals (
            refine fun w' hw' => ⟨congrArg (fun b => Ending.returned (Value.bool b)) ?_, hw'.fr (by simp)⟩
            first
            | exact (decide_eq_true (risL_upto (k := k) (by omega) hj)).symm
            | exact (decide_eq_false (fun g => by have := g k (by omega); omega)).symm)
         · try simp only [qn1, qn2, qn3, qn4, qn5, qn6, qn7, qn8] at hc
           all_goals ((first | (exfalso; with_reducible exact btf hc) | skip))
           all_goals refine tc_skip ?_; ((refine hK6 ?_; try (clear hK6; clear K6)))
           all_goals refine tc_region ?_; refine tl_q (y_move rfl) rfl ?_; refine tl_q (y_add rfl rfl (by omega)) rfl ?_; refine tl_q (y_assign rfl) rfl ?_; refine tl_nil ?_
           all_goals (
            exact tk_round (k + 1) ⟨by omega, fun j hj' => by rcases Nat.lt_succ_iff_lt_or_eq.1 hj' with h | rfl; exact hj j h; exact ⟨by omega, fun _ => by omega⟩⟩ (by omega) (.cons rfl (.cons rfl (.cons rfl .nil))) (fun _ h => h)))
      · try simp only [qn1, qn2, qn3, qn4, qn5, qn6, qn7, qn8] at hc
        all_goals refine tc_exit ?_; ((refine hK2 ?_; try (clear hK2; clear K2)))
        all_goals refine tc_seq fun K9 hK9 => ?_; refine tc_region ?_; refine tl_q (y_assign rfl) rfl ?_; refine tl_nil ?_; ((refine hK9 ?_; try (clear hK9; clear K9)))
        all_goals refine tc_ret ?_; (repeat (first | refine tk_then_ret ?_))
        all_goals (refine tk_ret rfl rfl (.cons (.tmp rfl) .nil) ?_)
        all_goals (
         refine fun w' hw' => ⟨congrArg (fun b => Ending.returned (Value.bool b)) ?_, hw'.fr (by simp)⟩
         first
         | exact (decide_eq_true (risL_upto (k := k) (by omega) hj)).symm
         | exact (decide_eq_false (fun g => by have := g k (by omega); omega)).symm)))
theorem tLast_c (l : List Int) (hl : (l.length : Int) ≤ 9223372036854775807) (h0 : 0 < l.length) (sl : Value) (w : World) (hr : RdI w sl l) : CnV Tryz.prog 10 #[sl] w (vi (l.getD (l.length - 1) 0)) := by
  obtain ⟨ad, cap, b0, o, rfl, had, hcell⟩ := hr.open
  have had' := had h0
  refine cnv (vs := [_]) Tryz.func10 rfl rfl ?_
  all_goals refine tc_seq fun K1 hK1 => ?_; refine tc_region ?_; refine tl_q (y_assign rfl) rfl ?_; refine tl_nil ?_; ((refine hK1 ?_; try (clear hK1; clear K1)))
  all_goals refine tc_seq fun K2 hK2 => ?_; refine tc_region ?_; refine tl_q (y_move rfl) rfl ?_; refine tl_q (y_move rfl) rfl ?_; refine tl_q (y_len rfl) rfl ?_; refine tl_q (y_sub rfl rfl (by omega)) rfl ?_; refine tl_q (y_index rfl rfl (by omega) had') rfl ?_; ((refine tl_q (y_load1o (v := vi (l.getD (l.length - 1) 0)) rfl (fun w' hw' => by rw [show Int.toNat ((l.length : Int) - 1) * 1 = l.length - 1 from by omega]; exact hcell w' (hw'.fr (w0 := w) (S := []) MI.m) (l.length - 1) (by omega))) rfl ?_))
  all_goals refine tl_q (y_assign rfl) rfl ?_; refine tl_nil ?_; ((refine hK2 ?_; try (clear hK2; clear K2)))
  all_goals refine tc_ret ?_; (repeat (first | refine tk_then_ret ?_))
  all_goals (refine tk_ret rfl rfl (.cons (.tmp rfl) .nil) ?_)
  all_goals (
   exact fun w' hw' => ⟨rfl, hw'.fr (by simp)⟩)
end Go.Sp
/-
  The reference of tables: what is valid; the strength at a point, and its bounds at one warmth.
-/
namespace Go.Sp
open Go Go.Proofs
abbrev tbO (wv mv vv : Value) : Obj := .cells #[wv, mv, vv] 30 (0, 0)
theorem tFault_c (t : Tab) (hz : TbSized t) (wv mv vv : Value) (w : World) (hr : RdTb w t wv mv vv) : CnX Tryz.prog 6 #[tbV wv mv vv] w [] (fun e : Int => vi e) (fun e _ => (e = 0 ↔ VTab t) ∧ (e = 0 ∨ e = 1 ∨ e = 3)) := by
  have hr0 := hr
  have z1 := hz.ws
  have z2 := hz.ms
  have z3 := hz.vs
  obtain ⟨aw, cw, bw, ow, rfl, hadw, hcw⟩ := hr.ws.open
  obtain ⟨am, cm, bm, om, rfl, hadm, hcm⟩ := hr.ms.open
  obtain ⟨av, cv, bv, ov, us, rfl, hadv, hcv, hrow⟩ := hr.vs.open
  refine cnx0 (vs := [_]) Tryz.func6 rfl rfl ?_
  all_goals refine tc_seq fun K1 hK1 => ?_; refine tc_region ?_; refine tl_e (e_box rfl rfl rfl) rfl (fun b1 _ => ?_); refine tl_q (y_assign rfl) rfl ?_; refine tl_nil ?_; ((refine hK1 ?_; try (clear hK1; clear K1)))
  all_goals refine tc_seq fun K2 hK2 => ?_; refine tc_seq fun K3 hK3 => ?_; refine tc_region ?_; refine tl_q (y_field rfl) rfl ?_; refine tl_q (y_load1 rfl (by repeat constructor) (by rfl)) rfl ?_; refine tl_q (y_len rfl) rfl ?_; refine tl_q (y_gtr rfl rfl) rfl ?_; refine tl_q (y_move rfl) rfl ?_; ((refine tl_gs rfl rfl (fun hc => ?_) (fun hc => ?_) <;> (try simp only [qn1, qn2, qn3, qn4, qn5, qn6, qn7, qn8] at hc) <;> (first | refine tl_sk rfl rfl rfl rfl ?_ | refine tl_qg rfl rfl (y_field rfl) rfl ?_)))
  all_goals (first | refine tl_sk rfl rfl rfl rfl ?_ | refine tl_qg rfl rfl (y_load1 rfl (by repeat constructor) (by rfl)) rfl ?_); (first | refine tl_sk rfl rfl rfl rfl ?_ | refine tl_qg rfl rfl (y_len rfl) rfl ?_); (first | refine tl_sk rfl rfl rfl rfl ?_ | refine tl_qg rfl rfl (y_gtr rfl rfl) rfl ?_); (first | refine tl_q (y_pick_t rfl rfl) rfl ?_ | refine tl_q (y_pick_f rfl rfl) rfl ?_); refine tl_q (y_move rfl) rfl ?_; ((first | refine tl_sk rfl rfl rfl rfl ?_ | (refine tl_gs rfl rfl (fun hc => ?_) (fun hc => ?_) <;> (try simp only [qn1, qn2, qn3, qn4, qn5, qn6, qn7, qn8] at hc) <;> (first | refine tl_sk rfl rfl rfl rfl ?_ | refine tl_qg rfl rfl (y_field rfl) rfl ?_))))
  all_goals (first | refine tl_sk rfl rfl rfl rfl ?_ | refine tl_qg rfl rfl (y_load1 rfl (by repeat constructor) (by rfl)) rfl ?_); (first | refine tl_sk rfl rfl rfl rfl ?_ | refine tl_qg rfl rfl (y_len rfl) rfl ?_); (first | refine tl_sk rfl rfl rfl rfl ?_ | refine tl_qg rfl rfl (y_gtr rfl rfl) rfl ?_); (first | refine tl_q (y_pick_t rfl rfl) rfl ?_ | refine tl_q (y_pick_f rfl rfl) rfl ?_); refine tl_nil ?_; ((refine hK3 ?_; try (clear hK3; clear K3)))
  all_goals (
   refine tc_cond rfl (fun hc => ?_) (fun hc => ?_)
   · try simp only [qn1, qn2, qn3, qn4, qn5, qn6, qn7, qn8] at hc
     all_goals refine tc_seq fun K4 hK4 => ?_; refine tc_region ?_; refine tl_q (y_assign rfl) rfl ?_; refine tl_nil ?_; ((refine hK4 ?_; try (clear hK4; clear K4)))
     all_goals refine tc_ret ?_; (repeat (refine tk_then_ret ?_))
     all_goals (refine tk_ret rfl rfl (.cons (.tmp rfl) .nil) ?_)
     all_goals (
      refine fun w' hw' => ⟨_, rfl, hw'.fr (w0 := w) (S := []) MI.m, ?_, by decide⟩
      first
      | exact ⟨fun _ => ⟨by omega, by omega, by omega, by omega, by omega, by assumption, by assumption, fun i hi => hj i (by omega)⟩, fun _ => rfl⟩
      | (refine ⟨fun g => absurd g (by decide), fun g => ?_⟩
         exfalso
         have g1 := g.w2
         have g2 := g.w5
         have g3 := g.m2
         have g4 := g.m5
         have g5 := g.v
         first
         | omega
         | (have := g.wr; contradiction)
         | (have := g.mr; contradiction)
         | (have := (g.row k (by omega)).1; omega)
         | (have := (g.row k (by omega)).2 j (by omega); omega)))
   · try simp only [qn1, qn2, qn3, qn4, qn5, qn6, qn7, qn8] at hc
     all_goals ((first | (exfalso; with_reducible exact btf hc) | skip))
     all_goals refine tc_skip ?_; ((refine hK2 ?_; try (clear hK2; clear K2)))
     all_goals refine tc_seq fun K5 hK5 => ?_; refine tc_seq fun K6 hK6 => ?_; refine tc_region ?_; refine tl_q (y_field rfl) rfl ?_; refine tl_q (y_load1 rfl (by repeat constructor) (by rfl)) rfl ?_; refine tl_q (y_len rfl) rfl ?_; refine tl_q (y_lss rfl rfl) rfl ?_; refine tl_q (y_move rfl) rfl ?_; ((refine tl_gs rfl rfl (fun hc => ?_) (fun hc => ?_) <;> (try simp only [qn1, qn2, qn3, qn4, qn5, qn6, qn7, qn8] at hc) <;> (first | refine tl_sk rfl rfl rfl rfl ?_ | refine tl_qg rfl rfl (y_field rfl) rfl ?_)))
     all_goals (first | refine tl_sk rfl rfl rfl rfl ?_ | refine tl_qg rfl rfl (y_load1 rfl (by repeat constructor) (by rfl)) rfl ?_); (first | refine tl_sk rfl rfl rfl rfl ?_ | refine tl_qg rfl rfl (y_len rfl) rfl ?_); (first | refine tl_sk rfl rfl rfl rfl ?_ | refine tl_qg rfl rfl (y_lss rfl rfl) rfl ?_); (first | refine tl_q (y_pick_t rfl rfl) rfl ?_ | refine tl_q (y_pick_f rfl rfl) rfl ?_); refine tl_q (y_move rfl) rfl ?_; ((first | refine tl_sk rfl rfl rfl rfl ?_ | (refine tl_gs rfl rfl (fun hc => ?_) (fun hc => ?_) <;> (try simp only [qn1, qn2, qn3, qn4, qn5, qn6, qn7, qn8] at hc) <;> (first | refine tl_sk rfl rfl rfl rfl ?_ | refine tl_qg rfl rfl (y_field rfl) rfl ?_))))
     all_goals (first | refine tl_sk rfl rfl rfl rfl ?_ | refine tl_qg rfl rfl (y_load1 rfl (by repeat constructor) (by rfl)) rfl ?_); (first | refine tl_sk rfl rfl rfl rfl ?_ | refine tl_eg rfl rfl rfl (e_callV rfl (.cons rfl (.cons rfl .nil)) (fun w' hw' => tRising_c t.ws 40 z1 _ w' (hr0.ws.fr (hw'.fr (w0 := w) (S := []) MI.m)))) (fun _ _ => ?_)); (first | refine tl_sk rfl rfl rfl rfl ?_ | refine tl_qg rfl rfl (y_not_dec rfl) rfl ?_); (first | refine tl_q (y_pick_t rfl rfl) rfl ?_ | refine tl_q (y_pick_f rfl rfl) rfl ?_); refine tl_q (y_move rfl) rfl ?_; ((first | refine tl_sk rfl rfl rfl rfl ?_ | (refine tl_gs rfl rfl (fun hc => ?_) (fun hc => ?_) <;> (try simp only [qn1, qn2, qn3, qn4, qn5, qn6, qn7, qn8] at hc) <;> (first | refine tl_sk rfl rfl rfl rfl ?_ | refine tl_qg rfl rfl (y_field rfl) rfl ?_))))
     all_goals (first | refine tl_sk rfl rfl rfl rfl ?_ | refine tl_qg rfl rfl (y_load1 rfl (by repeat constructor) (by rfl)) rfl ?_); (first | refine tl_sk rfl rfl rfl rfl ?_ | refine tl_eg rfl rfl rfl (e_callV rfl (.cons rfl (.cons rfl .nil)) (fun w' hw' => tRising_c t.ms 60 z2 _ w' (hr0.ms.fr (hw'.fr (w0 := w) (S := []) MI.m)))) (fun _ _ => ?_)); (first | refine tl_sk rfl rfl rfl rfl ?_ | refine tl_qg rfl rfl (y_not_dec rfl) rfl ?_); (first | refine tl_q (y_pick_t rfl rfl) rfl ?_ | refine tl_q (y_pick_f rfl rfl) rfl ?_); refine tl_q (y_move rfl) rfl ?_; ((first | refine tl_sk rfl rfl rfl rfl ?_ | (refine tl_gs rfl rfl (fun hc => ?_) (fun hc => ?_) <;> (try simp only [qn1, qn2, qn3, qn4, qn5, qn6, qn7, qn8] at hc) <;> (first | refine tl_sk rfl rfl rfl rfl ?_ | refine tl_qg rfl rfl (y_field rfl) rfl ?_))))
     all_goals (first | refine tl_sk rfl rfl rfl rfl ?_ | refine tl_qg rfl rfl (y_load1 rfl (by repeat constructor) (by rfl)) rfl ?_); (first | refine tl_sk rfl rfl rfl rfl ?_ | refine tl_qg rfl rfl (y_len rfl) rfl ?_); (first | refine tl_sk rfl rfl rfl rfl ?_ | refine tl_qg rfl rfl (y_field rfl) rfl ?_); (first | refine tl_sk rfl rfl rfl rfl ?_ | refine tl_qg rfl rfl (y_load1 rfl (by repeat constructor) (by rfl)) rfl ?_); (first | refine tl_sk rfl rfl rfl rfl ?_ | refine tl_qg rfl rfl (y_len rfl) rfl ?_); (first | refine tl_sk rfl rfl rfl rfl ?_ | refine tl_qg rfl rfl (y_neq rfl rfl) rfl ?_); (first | refine tl_q (y_pick_t rfl rfl) rfl ?_ | refine tl_q (y_pick_f rfl rfl) rfl ?_); refine tl_nil ?_; ((refine hK6 ?_; try (clear hK6; clear K6)))
     all_goals (
      refine tc_cond rfl (fun hc => ?_) (fun hc => ?_)
      · try simp only [qn1, qn2, qn3, qn4, qn5, qn6, qn7, qn8] at hc
        all_goals refine tc_seq fun K7 hK7 => ?_; refine tc_region ?_; refine tl_q (y_assign rfl) rfl ?_; refine tl_nil ?_; ((refine hK7 ?_; try (clear hK7; clear K7)))
        all_goals refine tc_ret ?_; (repeat (refine tk_then_ret ?_))
        all_goals (refine tk_ret rfl rfl (.cons (.tmp rfl) .nil) ?_)
        all_goals (
         refine fun w' hw' => ⟨_, rfl, hw'.fr (w0 := w) (S := []) MI.m, ?_, by decide⟩
         first
         | exact ⟨fun _ => ⟨by omega, by omega, by omega, by omega, by omega, by assumption, by assumption, fun i hi => hj i (by omega)⟩, fun _ => rfl⟩
         | (refine ⟨fun g => absurd g (by decide), fun g => ?_⟩
            exfalso
            have g1 := g.w2
            have g2 := g.w5
            have g3 := g.m2
            have g4 := g.m5
            have g5 := g.v
            first
            | omega
            | (have := g.wr; contradiction)
            | (have := g.mr; contradiction)
            | (have := (g.row k (by omega)).1; omega)
            | (have := (g.row k (by omega)).2 j (by omega); omega)))
      · try simp only [qn1, qn2, qn3, qn4, qn5, qn6, qn7, qn8] at hc
        all_goals ((first | (exfalso; with_reducible exact btf hc) | skip))
        all_goals refine tc_skip ?_; ((refine hK5 ?_; try (clear hK5; clear K5)))
        all_goals refine tc_seq fun K8 hK8 => ?_; refine tc_seq fun K9 hK9 => ?_; refine tc_region ?_; refine tl_q (y_assign rfl) rfl ?_; refine tl_nil ?_; ((refine hK9 ?_; try (clear hK9; clear K9)))
        all_goals refine tc_block ?_
        all_goals (
         refine tc_loop (fun k : Nat => k ≤ t.vs.length ∧ ∀ i, i < k → (t.vs.getD i []).length = t.ms.length ∧ ∀ k, k < t.ms.length → 0 ≤ (t.vs.getD i []).getD k 0 ∧ (t.vs.getD i []).getD k 0 ≤ 2000) (fun k => [(1, ptr b1), (3, vi k)]) (fun _ => [(w, [])]) (fun _ => [(b1, tbO (.slice aw t.ws.length cw) (.slice am t.ms.length cm) (.slice av t.vs.length cv))]) (fun k => t.vs.length - k) ?_ ?_
         · exact tk_start 0 ⟨Nat.zero_le _, fun j hj => absurd hj (Nat.not_lt_zero j)⟩ (.cons rfl (.cons rfl .nil)) (fun _ h => h.subl SB.s SB.s)
         · rintro k ⟨hk, hj⟩
           all_goals refine tc_seq fun K10 hK10 => ?_; refine tc_seq fun K11 hK11 => ?_; refine tc_region ?_; refine tl_q (y_move rfl) rfl ?_; refine tl_q (y_field rfl) rfl ?_; refine tl_q (y_load1 rfl (by repeat constructor) (by rfl)) rfl ?_; refine tl_q (y_len rfl) rfl ?_; refine tl_q (y_lss rfl rfl) rfl ?_; refine tl_nil ?_; ((refine hK11 ?_; try (clear hK11; clear K11)))
           all_goals (
            refine tc_cond rfl (fun hc => ?_) (fun hc => ?_)
            · try simp only [qn1, qn2, qn3, qn4, qn5, qn6, qn7, qn8] at hc
              all_goals refine tc_skip ?_; ((refine hK10 ?_; try (clear hK10; clear K10)))
              all_goals refine tc_seq fun K12 hK12 => ?_; refine tc_block ?_; refine tc_seq fun K13 hK13 => ?_; refine tc_seq fun K14 hK14 => ?_; ((have hadv' := hadv (by omega); have hkv : k < t.vs.length := (by omega); have z4 := hz.rs k hkv))
              all_goals (obtain ⟨ar, cr, br, orr, her, hadr, hcr⟩ := row_open (hrow w (Fr.refl [] w) k hkv))
              all_goals refine tc_draw (by kernel_rfl) ?_; refine tx_p 0 rfl (by kernel_rfl) (y_field rfl) rfl (fun _ _ _ h => h) (fun _ h => h) ?_; refine tx_q 1 rfl (by kernel_rfl) (y_load1 rfl (by repeat constructor) (by rfl)) rfl (fun _ _ _ h => h) (fun _ h => h) ?_; refine tx_p 2 rfl (by kernel_rfl) (y_move rfl) rfl (fun _ _ _ h => h) (fun _ h => h) ?_; refine tx_p 3 rfl (by kernel_rfl) (y_index rfl rfl (by omega) hadv') rfl (fun _ _ _ h => h) (fun _ h => h) ?_; ((refine tx_q 4 rfl (by kernel_rfl) (y_load1o (v := .slice ar (t.vs.getD k []).length cr) rfl (fun w' hw' => by rw [show Int.toNat (k : Int) * 1 = k from by omega, ← her]; exact hcv w' (hw'.fr (w0 := w) (S := []) MI.m) k hkv)) rfl (fun _ _ _ h => h) (fun _ h => h) ?_))
              all_goals refine tx_q 5 rfl (by kernel_rfl) (y_len rfl) rfl (fun _ _ _ h => h) (fun _ h => h) ?_; refine tx_p 6 rfl (by kernel_rfl) (y_field rfl) rfl (fun _ _ _ h => h) (fun _ h => h) ?_; refine tx_q 7 rfl (by kernel_rfl) (y_load1 rfl (by repeat constructor) (by rfl)) rfl (fun _ _ _ h => h) (fun _ h => h) ?_; refine tx_q 8 rfl (by kernel_rfl) (y_len rfl) rfl (fun _ _ _ h => h) (fun _ h => h) ?_; refine tx_p 9 rfl (by kernel_rfl) (y_neq rfl rfl) rfl (fun _ _ _ h => h) (fun _ h => h) ?_; refine tx_done (by kernel_rfl) ?_; ((refine hK14 ?_; try (clear hK14; clear K14)))
              all_goals (
               refine tc_cond rfl (fun hc => ?_) (fun hc => ?_)
               · try simp only [qn1, qn2, qn3, qn4, qn5, qn6, qn7, qn8] at hc
                 all_goals refine tc_seq fun K15 hK15 => ?_; refine tc_region ?_; refine tl_q (y_assign rfl) rfl ?_; refine tl_nil ?_; ((refine hK15 ?_; try (clear hK15; clear K15)))
                 all_goals refine tc_ret ?_; (repeat (first | refine tk_then_ret ?_ | refine tk_block_ret ?_))
                 all_goals (refine tk_ret rfl rfl (.cons (.tmp rfl) .nil) ?_)
                 all_goals (
                  refine fun w' hw' => ⟨_, rfl, hw'.fr (w0 := w) (S := []) MI.m, ?_, by decide⟩
                  first
                  | exact ⟨fun _ => ⟨by omega, by omega, by omega, by omega, by omega, by assumption, by assumption, fun i hi => hj i (by omega)⟩, fun _ => rfl⟩
                  | (refine ⟨fun g => absurd g (by decide), fun g => ?_⟩
                     exfalso
                     have g1 := g.w2
                     have g2 := g.w5
                     have g3 := g.m2
                     have g4 := g.m5
                     have g5 := g.v
                     first
                     | omega
                     | (have := g.wr; contradiction)
                     | (have := g.mr; contradiction)
                     | (have := (g.row k (by omega)).1; omega)
                     | (have := (g.row k (by omega)).2 j (by omega); omega)))
               · try simp only [qn1, qn2, qn3, qn4, qn5, qn6, qn7, qn8] at hc
                 all_goals refine tc_skip ?_; ((refine hK13 ?_; try (clear hK13; clear K13)))
                 all_goals refine tc_seq fun K16 hK16 => ?_; refine tc_region ?_; refine tl_q (y_assign rfl) rfl ?_; refine tl_nil ?_; ((refine hK16 ?_; try (clear hK16; clear K16)))
                 all_goals refine tc_block ?_
                 all_goals (
                  refine tc_loop (fun j : Nat => j ≤ t.ms.length ∧ ∀ i, i < j → 0 ≤ (t.vs.getD k []).getD i 0 ∧ (t.vs.getD k []).getD i 0 ≤ 2000) (fun j => [(1, ptr b1), (3, vi k), (4, vi j)]) (fun _ => [(w, [])]) (fun _ => [(b1, tbO (.slice aw t.ws.length cw) (.slice am t.ms.length cm) (.slice av t.vs.length cv))]) (fun j => t.ms.length - j) ?_ ?_
                  · exact tk_start 0 ⟨Nat.zero_le _, fun j hj => absurd hj (Nat.not_lt_zero j)⟩ (.cons rfl (.cons rfl (.cons rfl .nil))) (fun _ h => h.subl SB.s SB.s)
                  · rintro j ⟨hjl, hjj⟩
                    all_goals refine tc_seq fun K17 hK17 => ?_; refine tc_seq fun K18 hK18 => ?_; refine tc_region ?_; refine tl_q (y_move rfl) rfl ?_; refine tl_q (y_field rfl) rfl ?_; refine tl_q (y_load1 rfl (by repeat constructor) (by rfl)) rfl ?_; refine tl_q (y_len rfl) rfl ?_; refine tl_q (y_lss rfl rfl) rfl ?_; refine tl_nil ?_; ((refine hK18 ?_; try (clear hK18; clear K18)))
                    all_goals (
                     refine tc_cond rfl (fun hc => ?_) (fun hc => ?_)
                     · try simp only [qn1, qn2, qn3, qn4, qn5, qn6, qn7, qn8] at hc
                       all_goals refine tc_skip ?_; ((refine hK17 ?_; try (clear hK17; clear K17)))
                       all_goals refine tc_seq fun K19 hK19 => ?_; refine tc_block ?_; refine tc_seq fun K20 hK20 => ?_; refine tc_region ?_; refine tl_q (y_field rfl) rfl ?_; refine tl_q (y_load1 rfl (by repeat constructor) (by rfl)) rfl ?_; refine tl_q (y_move rfl) rfl ?_; refine tl_q (y_index rfl rfl (by omega) hadv') rfl ?_; ((refine tl_q (y_load1o (v := .slice ar (t.vs.getD k []).length cr) rfl (fun w' hw' => by rw [show Int.toNat (k : Int) * 1 = k from by omega, ← her]; exact hcv w' (hw'.fr (w0 := w) (S := []) MI.m) k hkv)) rfl ?_))
                       all_goals refine tl_q (y_move rfl) rfl ?_; refine tl_q (y_index rfl rfl (by omega) (hadr (by omega))) rfl ?_; ((refine tl_q (y_load1o (v := vi ((t.vs.getD k []).getD j 0)) rfl (fun w' hw' => by rw [show Int.toNat (j : Int) * 1 = j from by omega]; exact hcr w' (hw'.fr (w0 := w) (S := []) MI.m) j (by omega))) rfl ?_))
                       all_goals refine tl_e (e_callV rfl (.cons rfl (.cons rfl (.cons rfl .nil))) (fun w' _ => tIn_c _ _ _ w')) rfl (fun _ _ => ?_); refine tl_q (y_not_dec rfl) rfl ?_; refine tl_nil ?_; ((refine hK20 ?_; try (clear hK20; clear K20)))
                       all_goals (
                        refine tc_cond rfl (fun hc => ?_) (fun hc => ?_)
                        · try simp only [qn1, qn2, qn3, qn4, qn5, qn6, qn7, qn8] at hc
                          all_goals refine tc_seq fun K21 hK21 => ?_; refine tc_region ?_; refine tl_q (y_assign rfl) rfl ?_; refine tl_nil ?_; ((refine hK21 ?_; try (clear hK21; clear K21)))
                          all_goals refine tc_ret ?_; (repeat (first | refine tk_then_ret ?_ | refine tk_block_ret ?_))
                          all_goals (refine tk_ret rfl rfl (.cons (.tmp rfl) .nil) ?_)
                          all_goals (
                           refine fun w' hw' => ⟨_, rfl, hw'.fr (w0 := w) (S := []) MI.m, ?_, by decide⟩
                           first
                           | exact ⟨fun _ => ⟨by omega, by omega, by omega, by omega, by omega, by assumption, by assumption, fun i hi => hj i (by omega)⟩, fun _ => rfl⟩
                           | (refine ⟨fun g => absurd g (by decide), fun g => ?_⟩
                              exfalso
                              have g1 := g.w2
                              have g2 := g.w5
                              have g3 := g.m2
                              have g4 := g.m5
                              have g5 := g.v
                              first
                              | omega
                              | (have := g.wr; contradiction)
                              | (have := g.mr; contradiction)
                              | (have := (g.row k (by omega)).1; omega)
                              | (have := (g.row k (by omega)).2 j (by omega); omega)))
                        · try simp only [qn1, qn2, qn3, qn4, qn5, qn6, qn7, qn8] at hc
                          all_goals refine tc_skip ?_; ((refine hK19 ?_; try (clear hK19; clear K19)))
                          all_goals refine tc_region ?_; refine tl_q (y_move rfl) rfl ?_; refine tl_q (y_add rfl rfl (by omega)) rfl ?_; refine tl_q (y_assign rfl) rfl ?_; refine tl_nil ?_
                          all_goals (
                           exact tk_round (j + 1) ⟨by omega, fun i hi => by rcases Nat.lt_succ_iff_lt_or_eq.1 hi with h | rfl; exact hjj i h; omega⟩ (by omega) (.cons rfl (.cons rfl (.cons rfl .nil))) (fun _ h => h.subl SB.s SB.s)))
                     · try simp only [qn1, qn2, qn3, qn4, qn5, qn6, qn7, qn8] at hc
                       all_goals refine tc_exit ?_; ((refine hK12 ?_; try (clear hK12; clear K12)))
                       all_goals refine tc_region ?_; refine tl_q (y_move rfl) rfl ?_; refine tl_q (y_add rfl rfl (by omega)) rfl ?_; refine tl_q (y_assign rfl) rfl ?_; refine tl_nil ?_
                       all_goals (
                        exact tk_round (k + 1) ⟨by omega, fun i hi => by rcases Nat.lt_succ_iff_lt_or_eq.1 hi with h | rfl; exact hj i h; exact ⟨by omega, fun q hq => hjj q (by omega)⟩⟩ (by omega) (.cons rfl (.cons rfl .nil)) (fun _ h => h.subl SB.s SB.s)))))
            · try simp only [qn1, qn2, qn3, qn4, qn5, qn6, qn7, qn8] at hc
              all_goals refine tc_exit ?_; ((refine hK8 ?_; try (clear hK8; clear K8)))
              all_goals refine tc_seq fun K22 hK22 => ?_; refine tc_region ?_; refine tl_q (y_assign rfl) rfl ?_; refine tl_nil ?_; ((refine hK22 ?_; try (clear hK22; clear K22)))
              all_goals refine tc_ret ?_; (repeat (first | refine tk_then_ret ?_))
              all_goals (refine tk_ret rfl rfl (.cons (.tmp rfl) .nil) ?_)
              all_goals (
               refine fun w' hw' => ⟨_, rfl, hw'.fr (w0 := w) (S := []) MI.m, ?_, by decide⟩
               first
               | exact ⟨fun _ => ⟨by omega, by omega, by omega, by omega, by omega, by assumption, by assumption, fun i hi => hj i (by omega)⟩, fun _ => rfl⟩
               | (refine ⟨fun g => absurd g (by decide), fun g => ?_⟩
                  exfalso
                  have g1 := g.w2
                  have g2 := g.w5
                  have g3 := g.m2
                  have g4 := g.m5
                  have g5 := g.v
                  first
                  | omega
                  | (have := g.wr; contradiction)
                  | (have := g.mr; contradiction)
                  | (have := (g.row k (by omega)).1; omega)
                  | (have := (g.row k (by omega)).2 j (by omega); omega)))))))
end Go.Sp
/-
  The reference's strength at a point; its bounds at one warmth.
-/
namespace Go.Sp
open Go Go.Proofs
theorem mulB {a b A B : Int} (h1 : 0 ≤ a ∧ a ≤ A) (h2 : 0 ≤ b ∧ b ≤ B) : 0 ≤ a * b ∧ a * b ≤ A * B :=
  ⟨Int.mul_nonneg h1.1 h2.1, Int.le_trans (Int.mul_le_mul_of_nonneg_right h1.2 h2.1) (Int.mul_le_mul_of_nonneg_left h2.2 (by omega))⟩
theorem mulB3 {a b c : Int} (h1 : 0 ≤ a ∧ a ≤ 2000) (h2 : 0 ≤ b ∧ b ≤ 40) (h3 : 0 ≤ c ∧ c ≤ 60) : (0 ≤ a * b ∧ a * b ≤ 80000) ∧ 0 ≤ a * b * c ∧ a * b * c ≤ 4800000 := by
  have p := mulB h1 h2
  have q := mulB (A := 80000) ⟨p.1, by omega⟩ h3
  exact ⟨⟨p.1, by omega⟩, q.1, by omega⟩
/-- A point's cell, with what is needed of it. -/
structure CellB (t : Tab) (i k : Nat) (w m : Int) : Prop where
  ic : IsCell t.ws w i
  kc : IsCell t.ms m k
  w0 : 0 ≤ w - t.ws.getD i 0 ∧ w - t.ws.getD i 0 ≤ 40
  m0 : 0 ≤ m - t.ms.getD k 0 ∧ m - t.ms.getD k 0 ≤ 60
  w1 : 0 ≤ t.ws.getD (i + 1) 0 - w ∧ t.ws.getD (i + 1) 0 - w ≤ 40
  m1 : 0 ≤ t.ms.getD (k + 1) 0 - m ∧ t.ms.getD (k + 1) 0 - m ≤ 60
  ww : 1 ≤ t.ws.getD (i + 1) 0 - t.ws.getD i 0 ∧ t.ws.getD (i + 1) 0 - t.ws.getD i 0 ≤ 40
  mm : 1 ≤ t.ms.getD (k + 1) 0 - t.ms.getD k 0 ∧ t.ms.getD (k + 1) 0 - t.ms.getD k 0 ≤ 60
  wb : (0 ≤ t.ws.getD i 0 ∧ t.ws.getD i 0 ≤ 40) ∧ 0 ≤ t.ws.getD (i + 1) 0 ∧ t.ws.getD (i + 1) 0 ≤ 40
  mb : (0 ≤ t.ms.getD k 0 ∧ t.ms.getD k 0 ≤ 60) ∧ 0 ≤ t.ms.getD (k + 1) 0 ∧ t.ms.getD (k + 1) 0 ≤ 60
  r0 : (t.vs.getD i []).length = t.ms.length
  r1 : (t.vs.getD (i + 1) []).length = t.ms.length
  v1 : 0 ≤ (t.vs.getD i []).getD k 0 ∧ (t.vs.getD i []).getD k 0 ≤ 2000
  v2 : 0 ≤ (t.vs.getD (i + 1) []).getD k 0 ∧ (t.vs.getD (i + 1) []).getD k 0 ≤ 2000
  v3 : 0 ≤ (t.vs.getD i []).getD (k + 1) 0 ∧ (t.vs.getD i []).getD (k + 1) 0 ≤ 2000
  v4 : 0 ≤ (t.vs.getD (i + 1) []).getD (k + 1) 0 ∧ (t.vs.getD (i + 1) []).getD (k + 1) 0 ≤ 2000
theorem cellB {t : Tab} (hv : VTab t) {w m : Int} {i k : Nat} (hi : IsCell t.ws w i) (hk : IsCell t.ms m k) (hp : IsPt t w m) : CellB t i k w m := by
  obtain ⟨hi1, hi2, hi3⟩ := hi
  obtain ⟨hk1, hk2, hk3⟩ := hk
  have hwi := (hv.wr (i + 1) (by omega)).2 (by omega)
  have hmk := (hv.mr (k + 1) (by omega)).2 (by omega)
  rw [Nat.add_sub_cancel] at hwi hmk
  have b1 := hv.wr i (by omega)
  have b2 := hv.wr (i + 1) (by omega)
  have b3 := hv.mr k (by omega)
  have b4 := hv.mr (k + 1) (by omega)
  have hw : w ≤ t.ws.getD (i + 1) 0 := by
    rcases hi3 with e | e
    · have := hp.1.2; rw [show t.ws.length - 1 = i + 1 by omega] at this; exact this
    · omega
  have hm : m ≤ t.ms.getD (k + 1) 0 := by
    rcases hk3 with e | e
    · have := hp.2.2; rw [show t.ms.length - 1 = k + 1 by omega] at this; exact this
    · omega
  have hvl := hv.v
  have v1 := (hv.row i (by omega)).2 k (by omega)
  have v2 := (hv.row (i + 1) (by omega)).2 k (by omega)
  have v3 := (hv.row i (by omega)).2 (k + 1) (by omega)
  have v4 := (hv.row (i + 1) (by omega)).2 (k + 1) (by omega)
  exact ⟨⟨hi1, hi2, hi3⟩, ⟨hk1, hk2, hk3⟩, by omega, by omega, by omega, by omega, by omega, by omega, ⟨b1.1, b2.1⟩, ⟨b3.1, b4.1⟩, (hv.row i (by omega)).1, (hv.row (i + 1) (by omega)).1, v1, v2, v3, v4⟩
/-- As the reference computes it. -/
def nR (t : Tab) (i k : Nat) (w m : Int) : Int :=
  (t.vs.getD i []).getD k 0 * (t.ws.getD (i + 1) 0 - w) * (t.ms.getD (k + 1) 0 - m) + (t.vs.getD (i + 1) []).getD k 0 * (w - t.ws.getD i 0) * (t.ms.getD (k + 1) 0 - m) + (t.vs.getD i []).getD (k + 1) 0 * (t.ws.getD (i + 1) 0 - w) * (m - t.ms.getD k 0) + (t.vs.getD (i + 1) []).getD (k + 1) 0 * (w - t.ws.getD i 0) * (m - t.ms.getD k 0)
def aR (t : Tab) (i k : Nat) (w m : Int) : Int := (t.ws.getD (i + 1) 0 - w + (w - t.ws.getD i 0)) * (t.ms.getD (k + 1) 0 - m + (m - t.ms.getD k 0))
theorem nR_eq (t : Tab) (i k : Nat) (w m : Int) : nR t i k w m = atS t i k w m := by
  unfold nR atS
  simp only [Int.mul_assoc]
theorem aR_eq (t : Tab) (i k : Nat) (w m : Int) : aR t i k w m = atA t i k := by
  unfold aR atA
  congr 1 <;> omega
theorem atR_eq {t : Tab} (hv : VTab t) {w m : Int} {i k : Nat} (h : CellB t i k w m) (hp : IsPt t w m) :
    (0 < aR t i k w m ∧ aR t i k w m ≤ 2400) ∧ (0 ≤ nR t i k w m ∧ nR t i k w m ≤ 4800000) ∧ (0 ≤ nR t i k w m / aR t i k w m ∧ nR t i k w m / aR t i k w m ≤ 2000) ∧ (0 ≤ nR t i k w m / aR t i k w m * aR t i k w m ∧ nR t i k w m / aR t i k w m * aR t i k w m ≤ nR t i k w m) ∧
    atF t w m = nR t i k w m / aR t i k w m + if aR t i k w m ≤ 2 * (nR t i k w m - nR t i k w m / aR t i k w m * aR t i k w m) then 1 else 0 := by
  have hb := at_bounds hv h.ic h.kc hp
  rw [atF_is hv h.ic h.kc, nR_eq, aR_eq, atC, div_half hb.s hb.a]
  have h1 := hb.a
  have h2 := hb.a2
  have h3 := hb.s
  have h4 := hb.s2
  refine ⟨⟨h1, h2⟩, ⟨h3, by omega⟩, ⟨Int.ediv_nonneg h3 (by omega), ?_⟩, ⟨Int.mul_nonneg (Int.ediv_nonneg h3 (by omega)) (by omega), Int.ediv_mul_le _ (by omega)⟩, rfl⟩
  have : atS t i k w m / atA t i k < 2001 := Int.ediv_lt_of_lt_mul h1 (by omega)
  omega
set_option maxHeartbeats 4000000 in
theorem tAt_c (t : Tab) (hv : VTab t) (p q : Int) (hp : IsPt t p q) (wv mv vv : Value) (w : World) (hr : RdTb w t wv mv vv) : CnV Tryz.prog 37 #[tbV wv mv vv, vi p, vi q] w (vi (atF t p q)) := by
  have w2 := hv.w2
  have w5 := hv.w5
  have m2 := hv.m2
  have m5 := hv.m5
  have vl := hv.v
  have hp1 := hp.1.1
  have hp2 := hp.2.1
  have hp3 := hp.1.2
  have hp4 := hp.2.2
  have q1 := (hv.wr (t.ws.length - 1) (by omega)).1
  have q2 := (hv.mr (t.ms.length - 1) (by omega)).1
  have q3 := (hv.wr 0 (by omega)).1
  have q4 := (hv.mr 0 (by omega)).1
  obtain ⟨aw, cw, bw, ow, rfl, hadw, hcw⟩ := hr.ws.open
  obtain ⟨am, cm, bm, om, rfl, hadm, hcm⟩ := hr.ms.open
  obtain ⟨av, cv, bv, ov, us, rfl, hadv, hcv, hrow⟩ := hr.vs.open
  have hadw' := hadw (by omega)
  have hadm' := hadm (by omega)
  have hadv' := hadv (by omega)
  have ew : ((t.ws.length : Int) - 2) = ((t.ws.length - 2 : Nat) : Int) := by omega
  have em : ((t.ms.length : Int) - 2) = ((t.ms.length - 2 : Nat) : Int) := by omega
  refine cnv (vs := [_, _, _]) Tryz.func37 rfl rfl ?_
  all_goals refine tc_seq fun K1 hK1 => ?_; refine tc_region ?_; refine tl_e (e_box rfl rfl rfl) rfl (fun b3 _ => ?_); refine tl_q (y_assign rfl) rfl ?_; refine tl_nil ?_; ((refine hK1 ?_; try (clear hK1; clear K1)))
  all_goals refine tc_seq fun K2 hK2 => ?_; refine tc_draw (by kernel_rfl) ?_; refine tx_p 0 rfl (by kernel_rfl) (y_field rfl) rfl (fun _ _ _ h => h) (fun _ h => h) ?_; refine tx_q 1 rfl (by kernel_rfl) (y_load1 rfl (by repeat constructor) (by rfl)) rfl (fun _ _ _ h => h) (fun _ h => h) ?_; refine tx_q 2 rfl (by kernel_rfl) (y_len rfl) rfl (fun _ _ _ h => h) (fun _ h => h) ?_; refine tx_p 3 rfl (by kernel_rfl) (y_sub rfl rfl (by omega)) rfl (fun _ _ _ h => h) (fun _ h => h) ?_; refine tx_p 4 rfl (by kernel_rfl) (y_field rfl) rfl (fun _ _ _ h => h) (fun _ h => h) ?_; refine tx_q 5 rfl (by kernel_rfl) (y_load1 rfl (by repeat constructor) (by rfl)) rfl (fun _ _ _ h => h) (fun _ h => h) ?_; refine tx_q 6 rfl (by kernel_rfl) (y_len rfl) rfl (fun _ _ _ h => h) (fun _ h => h) ?_; refine tx_p 7 rfl (by kernel_rfl) (y_sub rfl rfl (by omega)) rfl (fun _ _ _ h => h) (fun _ h => h) ?_; refine tx_p 8 rfl (by kernel_rfl) (y_assign rfl) rfl (fun _ _ _ h => h) (fun _ h => h) ?_; refine tx_p 9 rfl (by kernel_rfl) (y_assign rfl) rfl (fun _ _ _ h => h) (fun _ h => h) ?_; refine tx_done (by kernel_rfl) ?_; ((refine hK2 ?_; try (clear hK2; clear K2)))
  all_goals refine tc_seq fun K3 hK3 => ?_; refine tc_block ?_
  all_goals (
   refine tc_loop (fun i : Nat => i + 2 ≤ t.ws.length ∧ (i + 2 = t.ws.length ∨ p < t.ws.getD (i + 1) 0)) (fun i => [(1, vi p), (2, vi q), (3, ptr b3), (7, vi i), (8, vi (t.ms.length - 2 : Nat))]) (fun _ => [(w, [])]) (fun _ => [(b3, tbO (.slice aw t.ws.length cw) (.slice am t.ms.length cm) (.slice av t.vs.length cv))]) (fun i => i + 1) ?_ ?_
   · exact tk_start (t.ws.length - 2) ⟨by omega, .inl (by omega)⟩ (.cons rfl (.cons rfl (.cons rfl (.cons (by rw [← ew]; rfl) (.cons (by rw [← em]; rfl) .nil))))) (fun _ h => h.subl SB.s SB.s)
   · rintro i ⟨hi1, hi2⟩
     have hiz : i = 0 → t.ws.getD i 0 ≤ p := fun e => by rw [e]; exact hp1
     all_goals refine tc_seq fun K4 hK4 => ?_; refine tc_seq fun K5 hK5 => ?_; refine tc_region ?_; refine tl_q (y_move rfl) rfl ?_; refine tl_q (y_field rfl) rfl ?_; refine tl_q (y_load1 rfl (by repeat constructor) (by rfl)) rfl ?_; refine tl_q (y_move rfl) rfl ?_; refine tl_q (y_index rfl rfl (by omega) hadw') rfl ?_; ((refine tl_q (y_load1o (v := vi (t.ws.getD i 0)) rfl (fun w' hw' => by rw [show Int.toNat (i : Int) * 1 = i from by omega]; exact hcw w' (hw'.fr (w0 := w) (S := []) MI.m) i (by omega))) rfl ?_))
     all_goals refine tl_q (y_lss rfl rfl) rfl ?_; refine tl_nil ?_; ((refine hK5 ?_; try (clear hK5; clear K5)))
     all_goals (
      refine tc_cond rfl (fun hc => ?_) (fun hc => ?_)
      · try simp only [qn1, qn2, qn3, qn4, qn5, qn6, qn7, qn8] at hc
        all_goals refine tc_skip ?_; ((refine hK4 ?_; try (clear hK4; clear K4)))
        all_goals refine tc_block ?_; refine tc_region ?_; refine tl_q (y_move rfl) rfl ?_; refine tl_q (y_sub rfl rfl (by omega)) rfl ?_; refine tl_q (y_assign rfl) rfl ?_; refine tl_nil ?_
        all_goals (
         repeat (refine tk_ib ?_)
         have hi0 : i ≠ 0 := fun e => by have := hiz e; omega
         exact tk_round (i - 1) ⟨by omega, .inr (by rw [show i - 1 + 1 = i by omega]; omega)⟩ (by omega) (.cons rfl (.cons rfl (.cons rfl (.cons (by rw [show ((i - 1 : Nat) : Int) = (i : Int) - 1 by omega]; rfl) (.cons rfl .nil))))) (fun _ h => h.subl SB.s SB.s))
      · try simp only [qn1, qn2, qn3, qn4, qn5, qn6, qn7, qn8] at hc
        all_goals refine tc_exit ?_; ((refine hK3 ?_; try (clear hK3; clear K3)))
        all_goals refine tc_seq fun K6 hK6 => ?_; refine tc_block ?_
        all_goals (
         have hic : IsCell t.ws p i := ⟨hi1, by omega, hi2⟩
         refine tc_loop (fun k : Nat => k + 2 ≤ t.ms.length ∧ (k + 2 = t.ms.length ∨ q < t.ms.getD (k + 1) 0)) (fun k => [(1, vi p), (2, vi q), (3, ptr b3), (7, vi i), (8, vi k)]) (fun _ => [(w, [])]) (fun _ => [(b3, tbO (.slice aw t.ws.length cw) (.slice am t.ms.length cm) (.slice av t.vs.length cv))]) (fun k => k + 1) ?_ ?_
         · exact tk_start (t.ms.length - 2) ⟨by omega, .inl (by omega)⟩ (.cons rfl (.cons rfl (.cons rfl (.cons rfl (.cons rfl .nil))))) (fun _ h => h.subl SB.s SB.s)
         · rintro k ⟨hk1, hk2⟩
           have hkz : k = 0 → t.ms.getD k 0 ≤ q := fun e => by rw [e]; exact hp2
           all_goals refine tc_seq fun K7 hK7 => ?_; refine tc_seq fun K8 hK8 => ?_; refine tc_region ?_; refine tl_q (y_move rfl) rfl ?_; refine tl_q (y_field rfl) rfl ?_; refine tl_q (y_load1 rfl (by repeat constructor) (by rfl)) rfl ?_; refine tl_q (y_move rfl) rfl ?_; refine tl_q (y_index rfl rfl (by omega) hadm') rfl ?_; ((refine tl_q (y_load1o (v := vi (t.ms.getD k 0)) rfl (fun w' hw' => by rw [show Int.toNat (k : Int) * 1 = k from by omega]; exact hcm w' (hw'.fr (w0 := w) (S := []) MI.m) k (by omega))) rfl ?_))
           all_goals refine tl_q (y_lss rfl rfl) rfl ?_; refine tl_nil ?_; ((refine hK8 ?_; try (clear hK8; clear K8)))
           all_goals (
            refine tc_cond rfl (fun hc => ?_) (fun hc => ?_)
            · try simp only [qn1, qn2, qn3, qn4, qn5, qn6, qn7, qn8] at hc
              all_goals refine tc_skip ?_; ((refine hK7 ?_; try (clear hK7; clear K7)))
              all_goals refine tc_block ?_; refine tc_region ?_; refine tl_q (y_move rfl) rfl ?_; refine tl_q (y_sub rfl rfl (by omega)) rfl ?_; refine tl_q (y_assign rfl) rfl ?_; refine tl_nil ?_
              all_goals (
               repeat (refine tk_ib ?_)
               have hk0 : k ≠ 0 := fun e => by have := hkz e; omega
               exact tk_round (k - 1) ⟨by omega, .inr (by rw [show k - 1 + 1 = k by omega]; omega)⟩ (by omega) (.cons rfl (.cons rfl (.cons rfl (.cons rfl (.cons (by rw [show ((k - 1 : Nat) : Int) = (k : Int) - 1 by omega]; rfl) .nil))))) (fun _ h => h.subl SB.s SB.s))
            · try simp only [qn1, qn2, qn3, qn4, qn5, qn6, qn7, qn8] at hc
              all_goals refine tc_exit ?_; ((refine hK6 ?_; try (clear hK6; clear K6)))
              all_goals refine tc_seq fun K9 hK9 => ?_; (have hkc : IsCell t.ms q k := ⟨hk1, (by omega), hk2⟩)
              all_goals (have hC := cellB hv hic hkc hp)
              all_goals ((have z1 := hC.w0; have z2 := hC.m0; have z3 := hC.w1; have z4 := hC.m1; have z5 := hC.wb; have z6 := hC.mb; have z7 := hC.r0; have z8 := hC.r1))
              all_goals ((have y1 := mulB3 hC.v1 z3 z4; have y2 := mulB3 hC.v2 z1 z4; have y3 := mulB3 hC.v3 z3 z2; have y4 := mulB3 hC.v4 z1 z2))
              all_goals (obtain ⟨ar0, cr0, br0, or0, her0, hadr0, hcr0⟩ := row_open (hrow w (Fr.refl [] w) i (by omega)))
              all_goals (obtain ⟨ar1, cr1, br1, or1, her1, hadr1, hcr1⟩ := row_open (hrow w (Fr.refl [] w) (i + 1) (by omega)))
              all_goals (obtain ⟨hA, hN, hQ, hM, hF⟩ := atR_eq hv hC hp)
              all_goals ((have hA' := hA; have hN' := hN; have hQ' := hQ; have hM' := hM; unfold aR at hA'; unfold nR at hN'; unfold nR aR at hQ' hM'))
              all_goals refine tc_draw (by kernel_rfl) ?_; refine tx_p 0 rfl (by kernel_rfl) (y_move rfl) rfl (fun _ _ _ h => h) (fun _ h => h) ?_; refine tx_p 1 rfl (by kernel_rfl) (y_field rfl) rfl (fun _ _ _ h => h) (fun _ h => h) ?_; refine tx_q 2 rfl (by kernel_rfl) (y_load1 rfl (by repeat constructor) (by rfl)) rfl (fun _ _ _ h => h) (fun _ h => h) ?_; refine tx_p 3 rfl (by kernel_rfl) (y_move rfl) rfl (fun _ _ _ h => h) (fun _ h => h) ?_; refine tx_p 4 rfl (by kernel_rfl) (y_index rfl rfl (by omega) hadw') rfl (fun _ _ _ h => h) (fun _ h => h) ?_; ((refine tx_q 5 rfl (by kernel_rfl) (y_load1o (v := vi (t.ws.getD i 0)) rfl (fun w' hw' => by rw [show Int.toNat (i : Int) * 1 = i from by omega]; exact hcw w' (hw'.fr (w0 := w) (S := []) MI.m) i (by omega))) rfl (fun _ _ _ h => h) (fun _ h => h) ?_))
              all_goals refine tx_p 6 rfl (by kernel_rfl) (y_sub rfl rfl (by omega)) rfl (fun _ _ _ h => h) (fun _ h => h) ?_; refine tx_p 7 rfl (by kernel_rfl) (y_move rfl) rfl (fun _ _ _ h => h) (fun _ h => h) ?_; refine tx_p 8 rfl (by kernel_rfl) (y_field rfl) rfl (fun _ _ _ h => h) (fun _ h => h) ?_; refine tx_q 9 rfl (by kernel_rfl) (y_load1 rfl (by repeat constructor) (by rfl)) rfl (fun _ _ _ h => h) (fun _ h => h) ?_; refine tx_p 10 rfl (by kernel_rfl) (y_move rfl) rfl (fun _ _ _ h => h) (fun _ h => h) ?_; refine tx_p 11 rfl (by kernel_rfl) (y_index rfl rfl (by omega) hadm') rfl (fun _ _ _ h => h) (fun _ h => h) ?_; ((refine tx_q 12 rfl (by kernel_rfl) (y_load1o (v := vi (t.ms.getD k 0)) rfl (fun w' hw' => by rw [show Int.toNat (k : Int) * 1 = k from by omega]; exact hcm w' (hw'.fr (w0 := w) (S := []) MI.m) k (by omega))) rfl (fun _ _ _ h => h) (fun _ h => h) ?_))
              all_goals refine tx_p 13 rfl (by kernel_rfl) (y_sub rfl rfl (by omega)) rfl (fun _ _ _ h => h) (fun _ h => h) ?_; refine tx_p 14 rfl (by kernel_rfl) (y_assign rfl) rfl (fun _ _ _ h => h) (fun _ h => h) ?_; refine tx_p 15 rfl (by kernel_rfl) (y_assign rfl) rfl (fun _ _ _ h => h) (fun _ h => h) ?_; refine tx_done (by kernel_rfl) ?_; ((refine hK9 ?_; try (clear hK9; clear K9)))
              all_goals refine tc_seq fun K10 hK10 => ?_; refine tc_draw (by kernel_rfl) ?_; refine tx_p 0 rfl (by kernel_rfl) (y_field rfl) rfl (fun _ _ _ h => h) (fun _ h => h) ?_; refine tx_q 1 rfl (by kernel_rfl) (y_load1 rfl (by repeat constructor) (by rfl)) rfl (fun _ _ _ h => h) (fun _ h => h) ?_; refine tx_p 2 rfl (by kernel_rfl) (y_move rfl) rfl (fun _ _ _ h => h) (fun _ h => h) ?_; refine tx_p 3 rfl (by kernel_rfl) (y_add rfl rfl (by omega)) rfl (fun _ _ _ h => h) (fun _ h => h) ?_; refine tx_p 4 rfl (by kernel_rfl) (y_index rfl rfl (by omega) hadw') rfl (fun _ _ _ h => h) (fun _ h => h) ?_; ((refine tx_q 5 rfl (by kernel_rfl) (y_load1o (v := vi (t.ws.getD (i + 1) 0)) rfl (fun w' hw' => by rw [show Int.toNat ((i : Int) + 1) * 1 = i + 1 from by omega]; exact hcw w' (hw'.fr (w0 := w) (S := []) MI.m) (i + 1) (by omega))) rfl (fun _ _ _ h => h) (fun _ h => h) ?_))
              all_goals refine tx_p 6 rfl (by kernel_rfl) (y_move rfl) rfl (fun _ _ _ h => h) (fun _ h => h) ?_; refine tx_p 7 rfl (by kernel_rfl) (y_sub rfl rfl (by omega)) rfl (fun _ _ _ h => h) (fun _ h => h) ?_; refine tx_p 8 rfl (by kernel_rfl) (y_field rfl) rfl (fun _ _ _ h => h) (fun _ h => h) ?_; refine tx_q 9 rfl (by kernel_rfl) (y_load1 rfl (by repeat constructor) (by rfl)) rfl (fun _ _ _ h => h) (fun _ h => h) ?_; refine tx_p 10 rfl (by kernel_rfl) (y_move rfl) rfl (fun _ _ _ h => h) (fun _ h => h) ?_; refine tx_p 11 rfl (by kernel_rfl) (y_add rfl rfl (by omega)) rfl (fun _ _ _ h => h) (fun _ h => h) ?_; refine tx_p 12 rfl (by kernel_rfl) (y_index rfl rfl (by omega) hadm') rfl (fun _ _ _ h => h) (fun _ h => h) ?_; ((refine tx_q 13 rfl (by kernel_rfl) (y_load1o (v := vi (t.ms.getD (k + 1) 0)) rfl (fun w' hw' => by rw [show Int.toNat ((k : Int) + 1) * 1 = k + 1 from by omega]; exact hcm w' (hw'.fr (w0 := w) (S := []) MI.m) (k + 1) (by omega))) rfl (fun _ _ _ h => h) (fun _ h => h) ?_))
              all_goals refine tx_p 14 rfl (by kernel_rfl) (y_move rfl) rfl (fun _ _ _ h => h) (fun _ h => h) ?_; refine tx_p 15 rfl (by kernel_rfl) (y_sub rfl rfl (by omega)) rfl (fun _ _ _ h => h) (fun _ h => h) ?_; refine tx_p 16 rfl (by kernel_rfl) (y_assign rfl) rfl (fun _ _ _ h => h) (fun _ h => h) ?_; refine tx_p 17 rfl (by kernel_rfl) (y_assign rfl) rfl (fun _ _ _ h => h) (fun _ h => h) ?_; refine tx_done (by kernel_rfl) ?_; ((refine hK10 ?_; try (clear hK10; clear K10)))
              all_goals refine tc_seq fun K11 hK11 => ?_; refine tc_draw (by kernel_rfl) ?_; refine tx_p 0 rfl (by kernel_rfl) (y_field rfl) rfl (fun _ _ _ h => h) (fun _ h => h) ?_; refine tx_q 1 rfl (by kernel_rfl) (y_load1 rfl (by repeat constructor) (by rfl)) rfl (fun _ _ _ h => h) (fun _ h => h) ?_; refine tx_p 2 rfl (by kernel_rfl) (y_move rfl) rfl (fun _ _ _ h => h) (fun _ h => h) ?_; refine tx_p 3 rfl (by kernel_rfl) (y_index rfl rfl (by omega) hadv') rfl (fun _ _ _ h => h) (fun _ h => h) ?_; ((refine tx_q 4 rfl (by kernel_rfl) (y_load1o (v := .slice ar0 (t.vs.getD i []).length cr0) rfl (fun w' hw' => by rw [show Int.toNat (i : Int) * 1 = i from by omega, ← her0]; exact hcv w' (hw'.fr (w0 := w) (S := []) MI.m) i (by omega))) rfl (fun _ _ _ h => h) (fun _ h => h) ?_))
              all_goals refine tx_p 5 rfl (by kernel_rfl) (y_move rfl) rfl (fun _ _ _ h => h) (fun _ h => h) ?_; refine tx_norm (L' := [true, true, true, true, true, true, false, false, false, false, false, false, false, false, false, false, false, false, false, false, false, false, false, false, false, false, false, false, false, false, false, false, false, false, false, false, false, false, false, false, false, false, false, false, false, false, false, false, false, false, false, false, false, false, false, false]) (by kernel_rfl) ?_; refine tx_p 6 rfl (by kernel_rfl) (y_index rfl rfl (by omega) (hadr0 (by omega))) rfl (fun _ _ _ h => h) (fun _ h => h) ?_; ((refine tx_q 7 rfl (by kernel_rfl) (y_load1o (v := vi ((t.vs.getD i []).getD k 0)) rfl (fun w' hw' => by rw [show Int.toNat (k : Int) * 1 = k from by omega]; exact hcr0 w' (hw'.fr (w0 := w) (S := []) MI.m) k (by omega))) rfl (fun _ _ _ h => h) (fun _ h => h) ?_))
              all_goals refine tx_p 8 rfl (by kernel_rfl) (y_move rfl) rfl (fun _ _ _ h => h) (fun _ h => h) ?_; refine tx_p 9 rfl (by kernel_rfl) (y_mul rfl rfl (by omega)) rfl (fun _ _ _ h => h) (fun _ h => h) ?_; refine tx_p 10 rfl (by kernel_rfl) (y_move rfl) rfl (fun _ _ _ h => h) (fun _ h => h) ?_; refine tx_p 11 rfl (by kernel_rfl) (y_mul rfl rfl (by omega)) rfl (fun _ _ _ h => h) (fun _ h => h) ?_; refine tx_norm (L' := [true, true, true, true, true, true, true, true, true, true, true, true, false, false, false, false, false, false, false, false, false, false, false, false, false, false, false, false, false, false, false, false, false, false, false, false, false, false, false, false, false, false, false, false, false, false, false, false, false, false, false, false, false, false, false, false]) (by kernel_rfl) ?_; refine tx_p 12 rfl (by kernel_rfl) (y_field rfl) rfl (fun _ _ _ h => h) (fun _ h => h) ?_; refine tx_q 13 rfl (by kernel_rfl) (y_load1 rfl (by repeat constructor) (by rfl)) rfl (fun _ _ _ h => h) (fun _ h => h) ?_; refine tx_p 14 rfl (by kernel_rfl) (y_move rfl) rfl (fun _ _ _ h => h) (fun _ h => h) ?_; refine tx_p 15 rfl (by kernel_rfl) (y_add rfl rfl (by omega)) rfl (fun _ _ _ h => h) (fun _ h => h) ?_; refine tx_p 16 rfl (by kernel_rfl) (y_index rfl rfl (by omega) hadv') rfl (fun _ _ _ h => h) (fun _ h => h) ?_; ((refine tx_q 17 rfl (by kernel_rfl) (y_load1o (v := .slice ar1 (t.vs.getD (i + 1) []).length cr1) rfl (fun w' hw' => by rw [show Int.toNat ((i : Int) + 1) * 1 = i + 1 from by omega, ← her1]; exact hcv w' (hw'.fr (w0 := w) (S := []) MI.m) (i + 1) (by omega))) rfl (fun _ _ _ h => h) (fun _ h => h) ?_))
              all_goals refine tx_norm (L' := [true, true, true, true, true, true, true, true, true, true, true, true, true, true, true, true, true, true, false, false, false, false, false, false, false, false, false, false, false, false, false, false, false, false, false, false, false, false, false, false, false, false, false, false, false, false, false, false, false, false, false, false, false, false, false, false]) (by kernel_rfl) ?_; refine tx_p 18 rfl (by kernel_rfl) (y_move rfl) rfl (fun _ _ _ h => h) (fun _ h => h) ?_; refine tx_p 19 rfl (by kernel_rfl) (y_index rfl rfl (by omega) (hadr1 (by omega))) rfl (fun _ _ _ h => h) (fun _ h => h) ?_; ((refine tx_q 20 rfl (by kernel_rfl) (y_load1o (v := vi ((t.vs.getD (i + 1) []).getD k 0)) rfl (fun w' hw' => by rw [show Int.toNat (k : Int) * 1 = k from by omega]; exact hcr1 w' (hw'.fr (w0 := w) (S := []) MI.m) k (by omega))) rfl (fun _ _ _ h => h) (fun _ h => h) ?_))
              all_goals refine tx_p 21 rfl (by kernel_rfl) (y_move rfl) rfl (fun _ _ _ h => h) (fun _ h => h) ?_; refine tx_p 22 rfl (by kernel_rfl) (y_mul rfl rfl (by omega)) rfl (fun _ _ _ h => h) (fun _ h => h) ?_; refine tx_p 23 rfl (by kernel_rfl) (y_move rfl) rfl (fun _ _ _ h => h) (fun _ h => h) ?_; refine tx_norm (L' := [true, true, true, true, true, true, true, true, true, true, true, true, true, true, true, true, true, true, true, true, true, true, true, true, false, false, false, false, false, false, false, false, false, false, false, false, false, false, false, false, false, false, false, false, false, false, false, false, false, false, false, false, false, false, false, false]) (by kernel_rfl) ?_; refine tx_p 24 rfl (by kernel_rfl) (y_mul rfl rfl (by omega)) rfl (fun _ _ _ h => h) (fun _ h => h) ?_; refine tx_p 25 rfl (by kernel_rfl) (y_add rfl rfl (by omega)) rfl (fun _ _ _ h => h) (fun _ h => h) ?_; refine tx_p 26 rfl (by kernel_rfl) (y_field rfl) rfl (fun _ _ _ h => h) (fun _ h => h) ?_; refine tx_q 27 rfl (by kernel_rfl) (y_load1 rfl (by repeat constructor) (by rfl)) rfl (fun _ _ _ h => h) (fun _ h => h) ?_; refine tx_p 28 rfl (by kernel_rfl) (y_move rfl) rfl (fun _ _ _ h => h) (fun _ h => h) ?_; refine tx_p 29 rfl (by kernel_rfl) (y_index rfl rfl (by omega) hadv') rfl (fun _ _ _ h => h) (fun _ h => h) ?_; refine tx_norm (L' := [true, true, true, true, true, true, true, true, true, true, true, true, true, true, true, true, true, true, true, true, true, true, true, true, true, true, true, true, true, true, false, false, false, false, false, false, false, false, false, false, false, false, false, false, false, false, false, false, false, false, false, false, false, false, false, false]) (by kernel_rfl) ?_; ((refine tx_q 30 rfl (by kernel_rfl) (y_load1o (v := .slice ar0 (t.vs.getD i []).length cr0) rfl (fun w' hw' => by rw [show Int.toNat (i : Int) * 1 = i from by omega, ← her0]; exact hcv w' (hw'.fr (w0 := w) (S := []) MI.m) i (by omega))) rfl (fun _ _ _ h => h) (fun _ h => h) ?_))
              all_goals refine tx_p 31 rfl (by kernel_rfl) (y_move rfl) rfl (fun _ _ _ h => h) (fun _ h => h) ?_; refine tx_p 32 rfl (by kernel_rfl) (y_add rfl rfl (by omega)) rfl (fun _ _ _ h => h) (fun _ h => h) ?_; refine tx_p 33 rfl (by kernel_rfl) (y_index rfl rfl (by omega) (hadr0 (by omega))) rfl (fun _ _ _ h => h) (fun _ h => h) ?_; ((refine tx_q 34 rfl (by kernel_rfl) (y_load1o (v := vi ((t.vs.getD i []).getD (k + 1) 0)) rfl (fun w' hw' => by rw [show Int.toNat ((k : Int) + 1) * 1 = k + 1 from by omega]; exact hcr0 w' (hw'.fr (w0 := w) (S := []) MI.m) (k + 1) (by omega))) rfl (fun _ _ _ h => h) (fun _ h => h) ?_))
              all_goals refine tx_p 35 rfl (by kernel_rfl) (y_move rfl) rfl (fun _ _ _ h => h) (fun _ h => h) ?_; refine tx_norm (L' := [true, true, true, true, true, true, true, true, true, true, true, true, true, true, true, true, true, true, true, true, true, true, true, true, true, true, true, true, true, true, true, true, true, true, true, true, false, false, false, false, false, false, false, false, false, false, false, false, false, false, false, false, false, false, false, false]) (by kernel_rfl) ?_; refine tx_p 36 rfl (by kernel_rfl) (y_mul rfl rfl (by omega)) rfl (fun _ _ _ h => h) (fun _ h => h) ?_; refine tx_p 37 rfl (by kernel_rfl) (y_move rfl) rfl (fun _ _ _ h => h) (fun _ h => h) ?_; refine tx_p 38 rfl (by kernel_rfl) (y_mul rfl rfl (by omega)) rfl (fun _ _ _ h => h) (fun _ h => h) ?_; refine tx_p 39 rfl (by kernel_rfl) (y_add rfl rfl (by omega)) rfl (fun _ _ _ h => h) (fun _ h => h) ?_; refine tx_p 40 rfl (by kernel_rfl) (y_field rfl) rfl (fun _ _ _ h => h) (fun _ h => h) ?_; refine tx_q 41 rfl (by kernel_rfl) (y_load1 rfl (by repeat constructor) (by rfl)) rfl (fun _ _ _ h => h) (fun _ h => h) ?_; refine tx_norm (L' := [true, true, true, true, true, true, true, true, true, true, true, true, true, true, true, true, true, true, true, true, true, true, true, true, true, true, true, true, true, true, true, true, true, true, true, true, true, true, true, true, true, true, false, false, false, false, false, false, false, false, false, false, false, false, false, false]) (by kernel_rfl) ?_; refine tx_p 42 rfl (by kernel_rfl) (y_move rfl) rfl (fun _ _ _ h => h) (fun _ h => h) ?_; refine tx_p 43 rfl (by kernel_rfl) (y_add rfl rfl (by omega)) rfl (fun _ _ _ h => h) (fun _ h => h) ?_; refine tx_p 44 rfl (by kernel_rfl) (y_index rfl rfl (by omega) hadv') rfl (fun _ _ _ h => h) (fun _ h => h) ?_; ((refine tx_q 45 rfl (by kernel_rfl) (y_load1o (v := .slice ar1 (t.vs.getD (i + 1) []).length cr1) rfl (fun w' hw' => by rw [show Int.toNat ((i : Int) + 1) * 1 = i + 1 from by omega, ← her1]; exact hcv w' (hw'.fr (w0 := w) (S := []) MI.m) (i + 1) (by omega))) rfl (fun _ _ _ h => h) (fun _ h => h) ?_))
              all_goals refine tx_p 46 rfl (by kernel_rfl) (y_move rfl) rfl (fun _ _ _ h => h) (fun _ h => h) ?_; refine tx_p 47 rfl (by kernel_rfl) (y_add rfl rfl (by omega)) rfl (fun _ _ _ h => h) (fun _ h => h) ?_; refine tx_norm (L' := [true, true, true, true, true, true, true, true, true, true, true, true, true, true, true, true, true, true, true, true, true, true, true, true, true, true, true, true, true, true, true, true, true, true, true, true, true, true, true, true, true, true, true, true, true, true, true, true, false, false, false, false, false, false, false, false]) (by kernel_rfl) ?_; refine tx_p 48 rfl (by kernel_rfl) (y_index rfl rfl (by omega) (hadr1 (by omega))) rfl (fun _ _ _ h => h) (fun _ h => h) ?_; ((refine tx_q 49 rfl (by kernel_rfl) (y_load1o (v := vi ((t.vs.getD (i + 1) []).getD (k + 1) 0)) rfl (fun w' hw' => by rw [show Int.toNat ((k : Int) + 1) * 1 = k + 1 from by omega]; exact hcr1 w' (hw'.fr (w0 := w) (S := []) MI.m) (k + 1) (by omega))) rfl (fun _ _ _ h => h) (fun _ h => h) ?_))
              all_goals refine tx_p 50 rfl (by kernel_rfl) (y_move rfl) rfl (fun _ _ _ h => h) (fun _ h => h) ?_; refine tx_p 51 rfl (by kernel_rfl) (y_mul rfl rfl (by omega)) rfl (fun _ _ _ h => h) (fun _ h => h) ?_; refine tx_p 52 rfl (by kernel_rfl) (y_move rfl) rfl (fun _ _ _ h => h) (fun _ h => h) ?_; refine tx_p 53 rfl (by kernel_rfl) (y_mul rfl rfl (by omega)) rfl (fun _ _ _ h => h) (fun _ h => h) ?_; refine tx_norm (L' := [true, true, true, true, true, true, true, true, true, true, true, true, true, true, true, true, true, true, true, true, true, true, true, true, true, true, true, true, true, true, true, true, true, true, true, true, true, true, true, true, true, true, true, true, true, true, true, true, true, true, true, true, true, true, false, false]) (by kernel_rfl) ?_; refine tx_p 54 rfl (by kernel_rfl) (y_add rfl rfl (by omega)) rfl (fun _ _ _ h => h) (fun _ h => h) ?_; refine tx_p 55 rfl (by kernel_rfl) (y_assign rfl) rfl (fun _ _ _ h => h) (fun _ h => h) ?_; refine tx_done (by kernel_rfl) ?_; ((refine hK11 ?_; try (clear hK11; clear K11)))
              all_goals refine tc_seq fun K12 hK12 => ?_; refine tc_region ?_; refine tl_q (y_move rfl) rfl ?_; refine tl_q (y_move rfl) rfl ?_; refine tl_q (y_add rfl rfl (by omega)) rfl ?_; refine tl_q (y_move rfl) rfl ?_; refine tl_q (y_move rfl) rfl ?_; refine tl_q (y_add rfl rfl (by omega)) rfl ?_; refine tl_q (y_mul rfl rfl (by omega)) rfl ?_; refine tl_q (y_assign rfl) rfl ?_; refine tl_nil ?_; ((refine hK12 ?_; try (clear hK12; clear K12)))
              all_goals refine tc_seq fun K13 hK13 => ?_; refine tc_region ?_; refine tl_q (y_move rfl) rfl ?_; refine tl_q (y_move rfl) rfl ?_; refine tl_q (y_quo rfl rfl (by omega) (by omega)) rfl ?_; refine tl_q (y_assign rfl) rfl ?_; refine tl_nil ?_; ((refine hK13 ?_; try (clear hK13; clear K13)))
              all_goals refine tc_seq fun K14 hK14 => ?_; refine tc_seq fun K15 hK15 => ?_; refine tc_region ?_; refine tl_q (y_move rfl) rfl ?_; refine tl_q (y_move rfl) rfl ?_; refine tl_q (y_move rfl) rfl ?_; refine tl_q (y_mul rfl rfl (by omega)) rfl ?_; refine tl_q (y_sub rfl rfl (by omega)) rfl ?_; refine tl_q (y_mul rfl rfl (by omega)) rfl ?_; refine tl_q (y_move rfl) rfl ?_; refine tl_q (y_geq rfl rfl) rfl ?_; refine tl_nil ?_; ((refine hK15 ?_; try (clear hK15; clear K15)))
              all_goals (
               refine tc_cond rfl (fun hc => ?_) (fun hc => ?_)
               · try simp only [qn1, qn2, qn3, qn4, qn5, qn6, qn7, qn8] at hc
                 all_goals refine tc_region ?_; refine tl_q (y_move rfl) rfl ?_; refine tl_q (y_add rfl rfl (by omega)) rfl ?_; refine tl_q (y_assign rfl) rfl ?_; refine tl_nil ?_; ((refine hK14 ?_; try (clear hK14; clear K14)))
                 all_goals refine tc_seq fun K16 hK16 => ?_; refine tc_region ?_; refine tl_q (y_move rfl) rfl ?_; refine tl_q (y_assign rfl) rfl ?_; refine tl_nil ?_; ((refine hK16 ?_; try (clear hK16; clear K16)))
                 all_goals refine tc_ret ?_; (repeat (first | refine tk_then_ret ?_))
                 all_goals (refine tk_ret rfl rfl (.cons (.tmp rfl) .nil) ?_)
                 all_goals (
                  refine fun w' hw' => ⟨congrArg (fun n => Ending.returned (Value.int .i64 n)) ?_, hw'.fr (w0 := w) (S := []) MI.m⟩
                  rw [hF]
                  first
                  | (rw [if_pos (by unfold aR nR; omega)]; rfl)
                  | (rw [if_neg (by unfold aR nR; omega)]; unfold aR nR; omega))
               · try simp only [qn1, qn2, qn3, qn4, qn5, qn6, qn7, qn8] at hc
                 all_goals refine tc_skip ?_; ((refine hK14 ?_; try (clear hK14; clear K14)))
                 all_goals refine tc_seq fun K17 hK17 => ?_; refine tc_region ?_; refine tl_q (y_move rfl) rfl ?_; refine tl_q (y_assign rfl) rfl ?_; refine tl_nil ?_; ((refine hK17 ?_; try (clear hK17; clear K17)))
                 all_goals refine tc_ret ?_; (repeat (first | refine tk_then_ret ?_))
                 all_goals (refine tk_ret rfl rfl (.cons (.tmp rfl) .nil) ?_)
                 all_goals (
                  refine fun w' hw' => ⟨congrArg (fun n => Ending.returned (Value.int .i64 n)) ?_, hw'.fr (w0 := w) (S := []) MI.m⟩
                  rw [hF]
                  first
                  | (rw [if_pos (by unfold aR nR; omega)]; rfl)
                  | (rw [if_neg (by unfold aR nR; omega)]; unfold aR nR; omega)))))))
end Go.Sp
/-
  The reference's bounds at one warmth; what is valid of a dispute.
-/
namespace Go.Sp
open Go Go.Proofs
/-- The bounds of all strengths at a warmth, between two marks. -/
noncomputable def bnd2 (t : Tab) (w lo hi : Int) : Int × Int := bndF t w lo (9999, -1) (hi - lo + 1).toNat
abbrev rgO (t : TypeId) (r : Int × Int) : Obj := .cells #[vi r.1, vi r.2] t (0, 0)
set_option maxHeartbeats 2000000 in
theorem tBounds_c (t : Tab) (hv : VTab t) (p lo hi : Int) (h1 : 0 ≤ lo) (h2 : hi ≤ 60) (hp0 : 0 ≤ p ∧ p ≤ 40) (hp : ∀ m, lo ≤ m → m ≤ hi → IsPt t p m) (wv mv vv : Value) (w : World) (hr : RdTb w t wv mv vv) : CnV Tryz.prog 24 #[tbV wv mv vv, .agg #[vi p, vi p], .agg #[vi lo, vi hi]] w (rV (bnd2 t p lo hi)) := by
  have o1 := hr.ws.one
  have o2 := hr.ms.one
  have o3 := hr.vs.one
  refine cnv (vs := [_, _, _]) Tryz.func24 rfl rfl ?_
  all_goals refine tc_seq fun K1 hK1 => ?_; refine tc_region ?_; refine tl_e (e_box rfl rfl rfl) rfl (fun b3 _ => ?_); refine tl_e (e_box rfl rfl rfl) rfl (fun b4 _ => ?_); refine tl_e (e_box rfl rfl rfl) rfl (fun b5 _ => ?_); refine tl_e (e_allocN rfl) rfl (fun b6 _ => ?_); refine tl_nil ?_; ((refine hK1 ?_; try (clear hK1; clear K1)))
  all_goals refine tc_seq fun K2 hK2 => ?_; refine tc_region ?_; refine tl_q (y_build_g (by repeat constructor)) rfl ?_; refine tl_e (e_allocN rfl) rfl (fun b7 _ => ?_); refine tl_e (e_storeW rfl rfl (by repeat constructor) (by rfl) (by rfl) (by simp [Value.oneCell'])) rfl (fun _ _ => ?_); refine tl_nil ?_; ((refine hK2 ?_; try (clear hK2; clear K2)))
  all_goals refine tc_seq fun K3 hK3 => ?_; refine tc_seq fun K4 hK4 => ?_; refine tc_region ?_; refine tl_q (y_field rfl) rfl ?_; refine tl_q (y_load1 rfl (by repeat constructor) (by rfl)) rfl ?_; refine tl_q (y_assign rfl) rfl ?_; refine tl_nil ?_; ((refine hK4 ?_; try (clear hK4; clear K4)))
  all_goals refine tc_block ?_
  all_goals (
   refine tc_loop (fun x : Int × Int × Int => (x.1 = p ∧ x.2 = (9999, -1)) ∨ (x.1 = p + 1 ∧ x.2 = bnd2 t p lo hi)) (fun x => [(3, ptr b3), (4, ptr b4), (5, ptr b5), (6, ptr b6), (7, ptr b7), (8, vi x.1)]) (fun _ => [(w, [])]) (fun x => [(b7, rgO 49 x.2), (b6, rgO 49 (0, 0)), (b5, rgO 49 (lo, hi)), (b4, rgO 49 (p, p)), (b3, tbO wv mv vv)]) (fun x => (p + 1 - x.1).toNat) ?_ ?_
   · exact tk_start (p, 9999, -1) (.inl ⟨rfl, rfl⟩) (.cons rfl (.cons rfl (.cons rfl (.cons rfl (.cons rfl (.cons rfl .nil)))))) (fun _ h => h.subl SB.s SB.s)
   · rintro ⟨q, r⟩ hI
     dsimp only at hI ⊢
     all_goals refine tc_seq fun K5 hK5 => ?_; refine tc_seq fun K6 hK6 => ?_; refine tc_region ?_; refine tl_q (y_move rfl) rfl ?_; refine tl_q (y_field rfl) rfl ?_; refine tl_q (y_load1 rfl (by repeat constructor) (by rfl)) rfl ?_; refine tl_q (y_leq rfl rfl) rfl ?_; refine tl_nil ?_; ((refine hK6 ?_; try (clear hK6; clear K6)))
     all_goals (
      refine tc_cond rfl (fun hc => ?_) (fun hc => ?_)
      · try simp only [qn1, qn2, qn3, qn4, qn5, qn6, qn7, qn8] at hc
        all_goals refine tc_skip ?_; ((refine hK5 ?_; try (clear hK5; clear K5)))
        all_goals refine tc_seq fun K7 hK7 => ?_; refine tc_block ?_; refine tc_seq fun K8 hK8 => ?_; (obtain ⟨rfl, rfl⟩ : q = p ∧ r = (9999, -1) := hI.resolve_right (fun h => by omega))
        all_goals refine tc_region ?_; refine tl_q (y_field rfl) rfl ?_; refine tl_q (y_load1 rfl (by repeat constructor) (by rfl)) rfl ?_; refine tl_q (y_assign rfl) rfl ?_; refine tl_nil ?_; ((refine hK8 ?_; try (clear hK8; clear K8)))
        all_goals refine tc_block ?_
        all_goals (
         refine tc_loop (fun k : Nat => (k : Int) ≤ 61 ∧ (0 < k → lo + k ≤ hi + 1)) (fun k => [(3, ptr b3), (4, ptr b4), (5, ptr b5), (6, ptr b6), (7, ptr b7), (8, vi q), (9, vi (lo + k))]) (fun _ => [(w, [])]) (fun k => [(b7, rgO 49 (bndF t q lo (9999, -1) k)), (b6, rgO 49 (0, 0)), (b5, rgO 49 (lo, hi)), (b4, rgO 49 (q, q)), (b3, tbO wv mv vv)]) (fun k => 100 - k) ?_ ?_
         · exact tk_start 0 ⟨by omega, fun h => absurd h (Nat.lt_irrefl 0)⟩ (.cons rfl (.cons rfl (.cons rfl (.cons rfl (.cons rfl (.cons rfl (.cons (by rw [show lo + ((0 : Nat) : Int) = lo by omega]; rfl) .nil))))))) (fun _ h => h.subl SB.s SB.s)
         · rintro k ⟨hk1, hk2⟩
           all_goals refine tc_seq fun K9 hK9 => ?_; refine tc_seq fun K10 hK10 => ?_; refine tc_region ?_; refine tl_q (y_move rfl) rfl ?_; refine tl_q (y_field rfl) rfl ?_; refine tl_q (y_load1 rfl (by repeat constructor) (by rfl)) rfl ?_; refine tl_q (y_leq rfl rfl) rfl ?_; refine tl_nil ?_; ((refine hK10 ?_; try (clear hK10; clear K10)))
           all_goals (
            refine tc_cond rfl (fun hc => ?_) (fun hc => ?_)
            · try simp only [qn1, qn2, qn3, qn4, qn5, qn6, qn7, qn8] at hc
              all_goals refine tc_skip ?_; ((refine hK9 ?_; try (clear hK9; clear K9)))
              all_goals refine tc_seq fun K11 hK11 => ?_; refine tc_block ?_; (have hpk := hp (lo + k) (by omega) (by omega))
              all_goals (have hb := atF_le hv hpk)
              all_goals refine tc_draw (by kernel_rfl) ?_; refine tx_p 0 rfl (by kernel_rfl) (y_field rfl) rfl (fun _ _ _ h => h) (fun _ h => h) ?_; refine tx_q 1 rfl (by kernel_rfl) (y_load1 rfl (by repeat constructor) (by rfl)) rfl (fun _ _ _ h => h) (fun _ h => h) ?_; refine tx_q 2 rfl (by kernel_rfl) (y_loadW rfl (by repeat constructor) (by rfl)) rfl (fun _ _ _ h => h) (fun _ h => h) ?_; refine tx_p 3 rfl (by kernel_rfl) (y_move rfl) rfl (fun _ _ _ h => h) (fun _ h => h) ?_; refine tx_p 4 rfl (by kernel_rfl) (y_move rfl) rfl (fun _ _ _ h => h) (fun _ h => h) ?_; refine tx_p 7 rfl (by kernel_rfl) (y_field rfl) rfl (fun _ _ _ h => h) (fun _ h => h) ?_; refine tx_q 8 rfl (by kernel_rfl) (y_load1 rfl (by repeat constructor) (by rfl)) rfl (fun _ _ _ h => h) (fun _ h => h) ?_; refine tx_q 9 rfl (by kernel_rfl) (y_loadW rfl (by repeat constructor) (by rfl)) rfl (fun _ _ _ h => h) (fun _ h => h) ?_; refine tx_p 10 rfl (by kernel_rfl) (y_move rfl) rfl (fun _ _ _ h => h) (fun _ h => h) ?_; refine tx_p 11 rfl (by kernel_rfl) (y_move rfl) rfl (fun _ _ _ h => h) (fun _ h => h) ?_; refine tx_e 5 rfl (by kernel_rfl) rfl (e_callV rfl (.cons rfl (.cons rfl (.cons rfl .nil))) (fun w' hw' => tAt_c t hv q (lo + k) hpk _ _ _ w' (hr.fr (hw'.fr (w0 := w) (S := []) MI.m)))) (.inr fun _ _ h => h) (fun _ _ => ?_); refine tx_p 6 rfl (by kernel_rfl) (y_min rfl rfl) rfl (fun _ _ _ h => h) (fun _ h => h) ?_; refine tx_e 12 rfl (by kernel_rfl) rfl (e_callV rfl (.cons rfl (.cons rfl (.cons rfl .nil))) (fun w' hw' => tAt_c t hv q (lo + k) hpk _ _ _ w' (hr.fr (hw'.fr (w0 := w) (S := []) MI.m)))) (.inr fun _ _ h => h) (fun _ _ => ?_); refine tx_p 13 rfl (by kernel_rfl) (y_max rfl rfl) rfl (fun _ _ _ h => h) (fun _ h => h) ?_; refine tx_p 14 rfl (by kernel_rfl) (y_build_g (by repeat constructor)) rfl (fun _ _ _ h => h) (fun _ h => h) ?_; refine tx_e 15 rfl (by kernel_rfl) rfl (e_storeW rfl rfl (by repeat constructor) (by rfl) (by rfl) (by simp [Value.oneCell'])) (.inl (by kernel_rfl)) (fun _ _ => ?_); refine tx_done (by kernel_rfl) ?_; ((refine hK11 ?_; try (clear hK11; clear K11)))
              all_goals refine tc_region ?_; refine tl_q (y_move rfl) rfl ?_; refine tl_q (y_add rfl rfl (by omega)) rfl ?_; refine tl_q (y_assign rfl) rfl ?_; refine tl_nil ?_
              all_goals (
               exact tk_round (k + 1) ⟨by omega, fun _ => by omega⟩ (by omega) (.cons rfl (.cons rfl (.cons rfl (.cons rfl (.cons rfl (.cons rfl (.cons (by rw [show lo + ((k + 1 : Nat) : Int) = lo + k + 1 by omega]; rfl) .nil))))))) (fun _ h => h.subl SB.s SB.s))
            · try simp only [qn1, qn2, qn3, qn4, qn5, qn6, qn7, qn8] at hc
              all_goals refine tc_exit ?_; ((refine hK7 ?_; try (clear hK7; clear K7)))
              all_goals refine tc_region ?_; refine tl_q (y_move rfl) rfl ?_; refine tl_q (y_add rfl rfl (by omega)) rfl ?_; refine tl_q (y_assign rfl) rfl ?_; refine tl_nil ?_
              all_goals (
               have hk : k = (hi - lo + 1).toNat := by omega
               exact tk_round (q + 1, bnd2 t q lo hi) (.inr ⟨rfl, rfl⟩) (by dsimp only; omega) (.cons rfl (.cons rfl (.cons rfl (.cons rfl (.cons rfl (.cons rfl .nil)))))) (fun _ h => by unfold bnd2; rw [← hk]; exact h.subl SB.s SB.s))))
      · try simp only [qn1, qn2, qn3, qn4, qn5, qn6, qn7, qn8] at hc
        all_goals refine tc_exit ?_; ((refine hK3 ?_; try (clear hK3; clear K3)))
        all_goals refine tc_seq fun K12 hK12 => ?_; (obtain ⟨rfl, rfl⟩ : q = p + 1 ∧ r = bnd2 t p lo hi := hI.resolve_left (fun h => by omega))
        all_goals refine tc_region ?_; refine tl_q (y_loadW rfl (by repeat constructor) (by rfl)) rfl ?_; refine tl_e (e_storeW rfl rfl (by repeat constructor) (by rfl) (by rfl) (by simp [Value.oneCell'])) rfl (fun _ _ => ?_); refine tl_nil ?_; ((refine hK12 ?_; try (clear hK12; clear K12)))
        all_goals refine tc_ret ?_; (repeat (first | refine tk_then_ret ?_))
        all_goals (refine tk_ret rfl rfl (.cons (.agg inferInstance rfl (by repeat constructor) (by rfl)) .nil) ?_)
        all_goals (
         exact fun w' hw' => ⟨rfl, hw'.fr (w0 := w) (S := []) MI.m⟩)))
end Go.Sp
/-
  Disputes: what is spoken of; the reference's Points, Mean and Fault.
-/
namespace Go.Sp
open Go Go.Proofs
structure Fct where
  p : Int
  s : Int
  wl : Int
  wh : Int
  ml : Int
  mh : Int
deriving Inhabited
abbrev fct0 : Fct := ⟨0, 0, 0, 0, 0, 0⟩
def fcE (f : Fct) : List Value := [vi f.p, vi f.s, vi f.wl, vi f.wh, vi f.ml, vi f.mh]
theorem fcE_len (f : Fct) : (fcE f).length = 6 := rfl
theorem fcE_one (f : Fct) : one' (fcE f) := fun u hu => by
  simp only [fcE, List.mem_cons, List.not_mem_nil, or_false] at hu
  rcases hu with rfl | rfl | rfl | rfl | rfl | rfl <;> rfl
abbrev fcV (f : Fct) : Value := .agg #[vi f.p, vi f.s, vi f.wl, vi f.wh, vi f.ml, vi f.mh]
abbrev lk0 : L4 := (0, 0, 0, 0)
def lkE (x : L4) : List Value := [vi x.1, vi x.2.1, vi x.2.2.1, vi x.2.2.2]
theorem lkE_len (x : L4) : (lkE x).length = 4 := rfl
theorem lkE_one (x : L4) : one' (lkE x) := fun u hu => by
  simp only [lkE, List.mem_cons, List.not_mem_nil, or_false] at hu
  rcases hu with rfl | rfl | rfl | rfl <;> rfl
abbrev lkV (x : L4) : Value := .agg #[vi x.1, vi x.2.1, vi x.2.2.1, vi x.2.2.2]
structure Dsp where
  t : Tab
  S : Int
  P : Int
  ls : List L4
  fs : List Fct
abbrev dpV (d : Dsp) (wv mv vv lv fv : Value) : Value := .agg #[wv, mv, vv, vi d.S, vi d.P, lv, fv]
structure RdD (w : World) (d : Dsp) (wv mv vv lv fv : Value) : Prop where
  tb : RdTb w d.t wv mv vv
  ls : RdS 4 lkE w lv d.ls
  fs : RdS 6 fcE w fv d.fs
theorem RdD.fr {w w' : World} {d : Dsp} {wv mv vv lv fv : Value} (h : RdD w d wv mv vv lv fv) (f : Fr [] w w') : RdD w' d wv mv vv lv fv := ⟨h.tb.fr f, h.ls.fr f, h.fs.fr f⟩
def lastL (l : List Int) : Int := l.getD (l.length - 1) 0
structure LkOk (S : Int) (x : L4) : Prop where
  a : 0 ≤ x.1 ∧ x.1 ≤ S - 1
  b : 0 ≤ x.2.1 ∧ x.2.1 ≤ S - 1
  ne : ¬ x.1 = x.2.1
  d : -2000 ≤ x.2.2.1 ∧ x.2.2.1 ≤ x.2.2.2 ∧ x.2.2.2 ≤ 2000
structure FcOk (t : Tab) (S P : Int) (f : Fct) : Prop where
  p : 0 ≤ f.p ∧ f.p ≤ P - 1
  s : 0 ≤ f.s ∧ f.s ≤ S - 1
  w : t.ws.getD 0 0 ≤ f.wl ∧ f.wl = f.wh ∧ f.wh ≤ lastL t.ws
  m : t.ms.getD 0 0 ≤ f.ml ∧ f.ml ≤ f.mh ∧ f.mh ≤ lastL t.ms
structure VDsp (d : Dsp) : Prop where
  t : VTab d.t
  s : 1 ≤ d.S ∧ d.S ≤ 3
  p : 1 ≤ d.P ∧ d.P ≤ 4
  l : d.ls.length ≤ 4
  f : d.fs.length ≤ 6
  lk : ∀ i, i < d.ls.length → LkOk d.S (d.ls.getD i lk0)
  fc : ∀ i, i < d.fs.length → FcOk d.t d.S d.P (d.fs.getD i fct0)
theorem VTab.w0 {t : Tab} (h : VTab t) : (0 ≤ t.ws.getD 0 0 ∧ t.ws.getD 0 0 < lastL t.ws) ∧ lastL t.ws ≤ 40 := by
  have h2 := h.w2
  have a := (h.wr 0 (by omega)).1
  have b := (h.wr (t.ws.length - 1) (by omega))
  have c := h.wr.le 0 (t.ws.length - 1 - 1) (by omega)
  have e := b.2 (by omega)
  rw [Nat.zero_add] at c
  unfold lastL
  omega
theorem VTab.m0 {t : Tab} (h : VTab t) : (0 ≤ t.ms.getD 0 0 ∧ t.ms.getD 0 0 < lastL t.ms) ∧ lastL t.ms ≤ 60 := by
  have h2 := h.m2
  have a := (h.mr 0 (by omega)).1
  have b := (h.mr (t.ms.length - 1) (by omega))
  have c := h.mr.le 0 (t.ms.length - 1 - 1) (by omega)
  have e := b.2 (by omega)
  rw [Nat.zero_add] at c
  unfold lastL
  omega
theorem FcOk.pt {t : Tab} {S P : Int} {f : Fct} (h : FcOk t S P f) (m : Int) (h1 : f.ml ≤ m) (h2 : m ≤ f.mh) : IsPt t f.wl m := by
  have a := h.w
  have b := h.m
  unfold lastL at a b
  exact ⟨by omega, by omega⟩
/-- The strengths that a fact means. -/
noncomputable def meanD (t : Tab) (f : Fct) : Int × Int := bnd2 t f.wl f.ml f.mh
set_option maxHeartbeats 1000000 in
theorem dPoints_c (l : List Int) (hl : (l.length : Int) ≤ 9223372036854775807) (h0 : 0 < l.length) (lo hi : Int) (sl : Value) (w : World) (hr : RdI w sl l) : CnV Tryz.prog 25 #[sl, .agg #[vi lo, vi hi]] w (.bool (decide (lo ≤ hi ∧ l.getD 0 0 ≤ lo ∧ hi ≤ lastL l))) := by
  have hr0 := hr
  obtain ⟨ad, cap, b0, o, rfl, had, hcell⟩ := hr.open
  have had' := had h0
  refine cnv (vs := [_, _]) Tryz.func25 rfl rfl ?_
  all_goals refine tc_seq fun K1 hK1 => ?_; refine tc_region ?_; refine tl_e (e_box rfl rfl rfl) rfl (fun b3 _ => ?_); refine tl_q (y_assign rfl) rfl ?_; refine tl_nil ?_; ((refine hK1 ?_; try (clear hK1; clear K1)))
  all_goals refine tc_seq fun K2 hK2 => ?_; refine tc_draw (by kernel_rfl) ?_; refine tx_p 0 rfl (by kernel_rfl) (y_field rfl) rfl (fun _ _ _ h => h) (fun _ h => h) ?_; refine tx_q 1 rfl (by kernel_rfl) (y_load1 rfl (by repeat constructor) (by rfl)) rfl (fun _ _ _ h => h) (fun _ h => h) ?_; refine tx_p 2 rfl (by kernel_rfl) (y_field rfl) rfl (fun _ _ _ h => h) (fun _ h => h) ?_; refine tx_q 3 rfl (by kernel_rfl) (y_load1 rfl (by repeat constructor) (by rfl)) rfl (fun _ _ _ h => h) (fun _ h => h) ?_; refine tx_p 4 rfl (by kernel_rfl) (y_leq rfl rfl) rfl (fun _ _ _ h => h) (fun _ h => h) ?_; refine tx_p 5 rfl (by kernel_rfl) (y_move rfl) rfl (fun _ _ _ h => h) (fun _ h => h) ?_; ((refine tx_gs 10 rfl (fun hc => ?_) (fun hc => ?_) <;> (try simp only [qn1, qn2, qn3, qn4, qn5, qn6, qn7, qn8] at hc) <;> (first | refine tx_sk 6 rfl (by kernel_rfl) rfl rfl rfl rfl (fun _ _ _ h => h) (fun _ h => h) ?_ | refine tx_pg 6 rfl (by kernel_rfl) rfl rfl (y_field rfl) rfl (fun _ _ _ h => h) (fun _ h => h) ?_)))
  all_goals (first | refine tx_sk 7 rfl (by kernel_rfl) rfl rfl rfl rfl (fun _ _ _ h => h) (fun _ h => h) ?_ | refine tx_qg 7 rfl (by kernel_rfl) rfl rfl (y_load1 rfl (by repeat constructor) (by rfl)) rfl (fun _ _ _ h => h) (fun _ h => h) ?_); (first | refine tx_sk 8 rfl (by kernel_rfl) rfl rfl rfl rfl (fun _ _ _ h => h) (fun _ h => h) ?_ | refine tx_pg 8 rfl (by kernel_rfl) rfl rfl (y_move rfl) rfl (fun _ _ _ h => h) (fun _ h => h) ?_); (first | refine tx_sk 9 rfl (by kernel_rfl) rfl rfl rfl rfl (fun _ _ _ h => h) (fun _ h => h) ?_ | refine tx_pg 9 rfl (by kernel_rfl) rfl rfl (y_index rfl rfl (by omega) had') rfl (fun _ _ _ h => h) (fun _ h => h) ?_); (first | refine tx_sk 10 rfl (by kernel_rfl) rfl rfl rfl rfl (fun _ _ _ h => h) (fun _ h => h) ?_ | refine tx_qg 10 rfl (by kernel_rfl) rfl rfl (y_load1o (v := vi (l.getD 0 0)) rfl (fun w' hw' => hcell w' (hw'.fr (w0 := w) (S := []) MI.m) 0 (by omega))) rfl (fun _ _ _ h => h) (fun _ h => h) ?_); (first | refine tx_sk 11 rfl (by kernel_rfl) rfl rfl rfl rfl (fun _ _ _ h => h) (fun _ h => h) ?_ | refine tx_pg 11 rfl (by kernel_rfl) rfl rfl (y_geq rfl rfl) rfl (fun _ _ _ h => h) (fun _ h => h) ?_); (first | refine tx_p 12 rfl (by kernel_rfl) (y_pick_t rfl rfl) rfl (fun _ _ _ h => h) (fun _ h => h) ?_ | refine tx_p 12 rfl (by kernel_rfl) (y_pick_f rfl rfl) rfl (fun _ _ _ h => h) (fun _ h => h) ?_); refine tx_p 13 rfl (by kernel_rfl) (y_move rfl) rfl (fun _ _ _ h => h) (fun _ h => h) ?_; ((first | refine tx_sk 14 rfl (by kernel_rfl) rfl rfl rfl rfl (fun _ _ _ h => h) (fun _ h => h) ?_ | (refine tx_gs 18 rfl (fun hc => ?_) (fun hc => ?_) <;> (try simp only [qn1, qn2, qn3, qn4, qn5, qn6, qn7, qn8] at hc) <;> (first | refine tx_sk 14 rfl (by kernel_rfl) rfl rfl rfl rfl (fun _ _ _ h => h) (fun _ h => h) ?_ | refine tx_pg 14 rfl (by kernel_rfl) rfl rfl (y_field rfl) rfl (fun _ _ _ h => h) (fun _ h => h) ?_))))
  all_goals (first | refine tx_sk 15 rfl (by kernel_rfl) rfl rfl rfl rfl (fun _ _ _ h => h) (fun _ h => h) ?_ | refine tx_qg 15 rfl (by kernel_rfl) rfl rfl (y_load1 rfl (by repeat constructor) (by rfl)) rfl (fun _ _ _ h => h) (fun _ h => h) ?_); (first | refine tx_sk 16 rfl (by kernel_rfl) rfl rfl rfl rfl (fun _ _ _ h => h) (fun _ h => h) ?_ | refine tx_pg 16 rfl (by kernel_rfl) rfl rfl (y_move rfl) rfl (fun _ _ _ h => h) (fun _ h => h) ?_); (first | refine tx_sk 17 rfl (by kernel_rfl) rfl rfl rfl rfl (fun _ _ _ h => h) (fun _ h => h) ?_ | refine tx_eg 17 rfl (by kernel_rfl) rfl rfl rfl (e_callV rfl (.cons rfl .nil) (fun w' hw' => tLast_c l hl h0 _ w' (hr0.fr (hw'.fr (w0 := w) (S := []) MI.m)))) (.inr fun _ _ h => h) (fun _ _ => ?_)); (first | refine tx_sk 18 rfl (by kernel_rfl) rfl rfl rfl rfl (fun _ _ _ h => h) (fun _ h => h) ?_ | refine tx_pg 18 rfl (by kernel_rfl) rfl rfl (y_leq rfl rfl) rfl (fun _ _ _ h => h) (fun _ h => h) ?_); (first | refine tx_p 19 rfl (by kernel_rfl) (y_pick_t rfl rfl) rfl (fun _ _ _ h => h) (fun _ h => h) ?_ | refine tx_p 19 rfl (by kernel_rfl) (y_pick_f rfl rfl) rfl (fun _ _ _ h => h) (fun _ h => h) ?_); refine tx_p 20 rfl (by kernel_rfl) (y_assign rfl) rfl (fun _ _ _ h => h) (fun _ h => h) ?_; refine tx_done (by kernel_rfl) ?_; ((refine hK2 ?_; try (clear hK2; clear K2)))
  all_goals refine tc_ret ?_; (repeat (first | refine tk_then_ret ?_))
  all_goals (refine tk_ret rfl rfl (.cons (.tmp rfl) .nil) ?_)
  all_goals (
   refine fun w' hw' => ⟨congrArg (fun b => Ending.returned (Value.bool b)) ?_, hw'.fr (w0 := w) (S := []) MI.m⟩
   unfold lastL
   first
   | exact (decide_eq_false (by omega)).symm
   | exact decide_eq_decide.2 (by omega))
abbrev dpO (d : Dsp) (wv mv vv lv fv : Value) (e : TypeId) : Obj := .cells #[wv, mv, vv, vi d.S, vi d.P, lv, fv] e (0, 0)
theorem dMean_c (d : Dsp) (hv : VTab d.t) (f : Fct) (hf : FcOk d.t d.S d.P f) (wv mv vv lv fv : Value) (hl1 : lv.oneCell' = true) (hf1 : fv.oneCell' = true) (w : World) (hr : RdTb w d.t wv mv vv) : CnV Tryz.prog 11 #[dpV d wv mv vv lv fv, fcV f] w (rV (meanD d.t f)) := by
  have o1 := hr.ws.one
  have o2 := hr.ms.one
  have o3 := hr.vs.one
  have hw0 := hv.w0
  have hm0 := hv.m0
  have hfw := hf.w
  have hfm := hf.m
  obtain ⟨fp, fs, wl, wh, ml, mh⟩ := f
  dsimp only at hfw hfm
  obtain rfl : wl = wh := hfw.2.1
  have hbo := tBounds_c d.t hv wl ml mh (by omega) (by omega) (by omega) hf.pt
  refine cnv (vs := [_, _]) Tryz.func11 rfl rfl ?_
  all_goals refine tc_seq fun K1 hK1 => ?_; refine tc_region ?_; refine tl_e (e_box rfl rfl rfl) rfl (fun b2 _ => ?_); refine tl_e (e_box rfl rfl rfl) rfl (fun b3 _ => ?_); refine tl_e (e_allocN rfl) rfl (fun b4 _ => ?_); refine tl_nil ?_; ((refine hK1 ?_; try (clear hK1; clear K1)))
  all_goals refine tc_seq fun K2 hK2 => ?_; refine tc_region ?_; refine tl_q (y_field rfl) rfl ?_; ((refine tl_q (y_loadN rfl (by repeat constructor) (by (repeat (first | exact .nil | apply CA.cons rfl)); done)) rfl ?_))
  all_goals refine tl_q (y_field rfl) rfl ?_; ((refine tl_q (y_loadN rfl (by repeat constructor) (by (repeat (first | exact .nil | apply CA.cons rfl)); done)) rfl ?_))
  all_goals refine tl_q (y_field rfl) rfl ?_; ((refine tl_q (y_loadN rfl (by repeat constructor) (by (repeat (first | exact .nil | apply CA.cons rfl)); done)) rfl ?_))
  all_goals refine tl_e (e_callV rfl (.cons rfl (.cons rfl (.cons rfl .nil))) (fun w' hw' => hbo _ _ _ w' (hr.fr (hw'.fr (w0 := w) (S := []) MI.m)))) rfl (fun _ _ => ?_); refine tl_e (e_storeW rfl rfl (by repeat constructor) (by rfl) (by rfl) (by simp [Value.oneCell'])) rfl (fun _ _ => ?_); refine tl_nil ?_; ((refine hK2 ?_; try (clear hK2; clear K2)))
  all_goals refine tc_ret ?_; (repeat (first | refine tk_then_ret ?_))
  all_goals (refine tk_ret rfl rfl (.cons (.agg inferInstance rfl (by repeat constructor) (by rfl)) .nil) ?_)
  all_goals (
   exact fun w' hw' => ⟨rfl, hw'.fr (w0 := w) (S := []) MI.m⟩)
end Go.Sp
/-
  What is valid of a dispute (the reference); tables for the program.
-/
namespace Go.Sp
open Go Go.Proofs
set_option maxHeartbeats 4000000 in
theorem dFault_c (d : Dsp) (hv : VDsp d) (wv mv vv lv fv : Value) (w : World) (hr : RdD w d wv mv vv lv fv) : CnV Tryz.prog 12 #[dpV d wv mv vv lv fv] w (vi 0) := by
  have hr0 := hr
  have hvt := hv.t
  have z := hvt.sized
  have w2 := hvt.w2
  have m2 := hvt.m2
  have hs := hv.s
  have hp := hv.p
  have hl4 := hv.l
  have hf6 := hv.f
  have o3 := hr.tb.vs.one
  have zw := z.ws
  have zm := z.ms
  obtain ⟨aw, cw, bw, ow, rfl, hadw, hcw⟩ := hr.tb.ws.open
  obtain ⟨am, cm, bm, om, rfl, hadm, hcm⟩ := hr.tb.ms.open
  obtain ⟨al, cl, bl, ol, rfl, hadl, hcl⟩ := hr.ls.open lkE_len lk0
  obtain ⟨af, cf, bf, of, rfl, hadf, hcf⟩ := hr.fs.open fcE_len fct0
  refine cnv (vs := [_]) Tryz.func12 rfl rfl ?_
  all_goals refine tc_seq fun K1 hK1 => ?_; refine tc_region ?_; refine tl_e (e_box rfl rfl rfl) rfl (fun b1 _ => ?_); refine tl_q (y_assign rfl) rfl ?_; refine tl_nil ?_; ((refine hK1 ?_; try (clear hK1; clear K1)))
  all_goals refine tc_seq fun K2 hK2 => ?_; refine tc_seq fun K3 hK3 => ?_; refine tc_region ?_; refine tl_q (y_field rfl) rfl ?_; ((refine tl_q (y_loadN rfl (by repeat constructor) (by (repeat (first | exact .nil | apply CA.cons rfl)); done)) rfl ?_))
  all_goals refine tl_e (e_callX rfl (.cons rfl .nil) (fun w' hw' => tFault_c d.t z _ _ _ w' (hr0.tb.fr (hw'.fr (w0 := w) (S := []) MI.m)))) rfl (fun e1 he1 => ?_); refine tl_q (y_assign rfl) rfl ?_; refine tl_nil ?_; ((refine hK3 ?_; try (clear hK3; clear K3)))
  all_goals refine tc_seq fun K4 hK4 => ?_; (have e0 : e1.1 = 0 := he1.1.1.2 hvt)
  all_goals refine tc_region ?_; refine tl_q (y_move rfl) rfl ?_; refine tl_q (y_neq rfl rfl) rfl ?_; refine tl_nil ?_; ((refine hK4 ?_; try (clear hK4; clear K4)))
  all_goals (
   refine tc_cond rfl (fun hc => ?_) (fun hc => ?_)
   · try simp only [qn1, qn2, qn3, qn4, qn5, qn6, qn7, qn8] at hc
     all_goals ((exfalso; omega))
   · try simp only [qn1, qn2, qn3, qn4, qn5, qn6, qn7, qn8] at hc
     all_goals refine tc_skip ?_; ((refine hK2 ?_; try (clear hK2; clear K2)))
     all_goals refine tc_seq fun K6 hK6 => ?_; refine tc_seq fun K7 hK7 => ?_; refine tc_region ?_; refine tl_q (y_field rfl) rfl ?_; refine tl_q (y_load1 rfl (by repeat constructor) (by rfl)) rfl ?_; refine tl_q (y_gtr rfl rfl) rfl ?_; refine tl_q (y_move rfl) rfl ?_; ((refine tl_gs rfl rfl (fun hc => ?_) (fun hc => ?_) <;> (try simp only [qn1, qn2, qn3, qn4, qn5, qn6, qn7, qn8] at hc) <;> (first | (exfalso; omega) | refine tl_qg rfl rfl (y_field rfl) rfl ?_)))
     all_goals (refine tl_qg rfl rfl (y_load1 rfl (by repeat constructor) (by rfl)) rfl ?_); refine tl_qg rfl rfl (y_gtr rfl rfl) rfl ?_; refine tl_q (y_pick_f rfl rfl) rfl ?_; refine tl_q (y_move rfl) rfl ?_; ((refine tl_gs rfl rfl (fun hc => ?_) (fun hc => ?_) <;> (try simp only [qn1, qn2, qn3, qn4, qn5, qn6, qn7, qn8] at hc) <;> (first | (exfalso; omega) | refine tl_qg rfl rfl (y_field rfl) rfl ?_)))
     all_goals (refine tl_qg rfl rfl (y_load1 rfl (by repeat constructor) (by rfl)) rfl ?_); refine tl_qg rfl rfl (y_len rfl) rfl ?_; refine tl_qg rfl rfl (y_gtr rfl rfl) rfl ?_; refine tl_q (y_pick_f rfl rfl) rfl ?_; refine tl_q (y_move rfl) rfl ?_; ((refine tl_gs rfl rfl (fun hc => ?_) (fun hc => ?_) <;> (try simp only [qn1, qn2, qn3, qn4, qn5, qn6, qn7, qn8] at hc) <;> (first | (exfalso; omega) | refine tl_qg rfl rfl (y_field rfl) rfl ?_)))
     all_goals (refine tl_qg rfl rfl (y_load1 rfl (by repeat constructor) (by rfl)) rfl ?_); refine tl_qg rfl rfl (y_len rfl) rfl ?_; refine tl_qg rfl rfl (y_gtr rfl rfl) rfl ?_; refine tl_q (y_pick_f rfl rfl) rfl ?_; refine tl_nil ?_; ((refine hK7 ?_; try (clear hK7; clear K7)))
     all_goals (
      refine tc_cond rfl (fun hc => ?_) (fun hc => ?_)
      · try simp only [qn1, qn2, qn3, qn4, qn5, qn6, qn7, qn8] at hc
        all_goals ((exfalso; omega))
      · try simp only [qn1, qn2, qn3, qn4, qn5, qn6, qn7, qn8] at hc
        all_goals refine tc_skip ?_; ((refine hK6 ?_; try (clear hK6; clear K6)))
        all_goals refine tc_seq fun K9 hK9 => ?_; refine tc_seq fun K10 hK10 => ?_; refine tc_region ?_; refine tl_q (y_field rfl) rfl ?_; refine tl_q (y_load1 rfl (by repeat constructor) (by rfl)) rfl ?_; refine tl_q (y_lss rfl rfl) rfl ?_; refine tl_q (y_move rfl) rfl ?_; ((refine tl_gs rfl rfl (fun hc => ?_) (fun hc => ?_) <;> (try simp only [qn1, qn2, qn3, qn4, qn5, qn6, qn7, qn8] at hc) <;> (first | (exfalso; omega) | refine tl_qg rfl rfl (y_field rfl) rfl ?_)))
        all_goals (refine tl_qg rfl rfl (y_load1 rfl (by repeat constructor) (by rfl)) rfl ?_); refine tl_qg rfl rfl (y_lss rfl rfl) rfl ?_; refine tl_q (y_pick_f rfl rfl) rfl ?_; refine tl_nil ?_; ((refine hK10 ?_; try (clear hK10; clear K10)))
        all_goals (
         refine tc_cond rfl (fun hc => ?_) (fun hc => ?_)
         · try simp only [qn1, qn2, qn3, qn4, qn5, qn6, qn7, qn8] at hc
           all_goals ((exfalso; omega))
         · try simp only [qn1, qn2, qn3, qn4, qn5, qn6, qn7, qn8] at hc
           all_goals refine tc_skip ?_; ((refine hK9 ?_; try (clear hK9; clear K9)))
           all_goals refine tc_seq fun K12 hK12 => ?_; refine tc_seq fun K13 hK13 => ?_; refine tc_region ?_; refine tl_q (y_assign rfl) rfl ?_; refine tl_nil ?_; ((refine hK13 ?_; try (clear hK13; clear K13)))
           all_goals refine tc_block ?_
           all_goals (
            refine tc_loop (fun k : Nat => k ≤ d.ls.length) (fun k => [(1, ptr b1), (4, vi k)]) (fun _ => [(w, [])]) (fun _ => [(b1, dpO d (.slice aw d.t.ws.length cw) (.slice am d.t.ms.length cm) vv (.slice al d.ls.length cl) (.slice af d.fs.length cf) 47)]) (fun k => d.ls.length - k) ?_ ?_
            · exact tk_start 0 (Nat.zero_le _) (.cons rfl (.cons rfl .nil)) (fun _ h => h.subl SB.s SB.s)
            · rintro k hk
              all_goals refine tc_seq fun K14 hK14 => ?_; refine tc_seq fun K15 hK15 => ?_; refine tc_region ?_; refine tl_q (y_move rfl) rfl ?_; refine tl_q (y_field rfl) rfl ?_; refine tl_q (y_load1 rfl (by repeat constructor) (by rfl)) rfl ?_; refine tl_q (y_len rfl) rfl ?_; refine tl_q (y_lss rfl rfl) rfl ?_; refine tl_nil ?_; ((refine hK15 ?_; try (clear hK15; clear K15)))
              all_goals (
               refine tc_cond rfl (fun hc => ?_) (fun hc => ?_)
               · try simp only [qn1, qn2, qn3, qn4, qn5, qn6, qn7, qn8] at hc
                 all_goals refine tc_skip ?_; ((refine hK14 ?_; try (clear hK14; clear K14)))
                 all_goals refine tc_seq fun K16 hK16 => ?_; refine tc_block ?_; refine tc_seq fun K17 hK17 => ?_; refine tc_region ?_; refine tl_q (y_field rfl) rfl ?_; refine tl_q (y_load1 rfl (by repeat constructor) (by rfl)) rfl ?_; refine tl_q (y_move rfl) rfl ?_; refine tl_q (y_index rfl rfl (by omega) (hadl (by omega))) rfl ?_; ((refine tl_q (y_loadNo (n := 4) (vs := [vi (d.ls.getD k lk0).1, vi (d.ls.getD k lk0).2.1, vi (d.ls.getD k lk0).2.2.1, vi (d.ls.getD k lk0).2.2.2]) rfl (fun w' hw' => by rw [show Int.toNat (k : Int) * 4 = k * 4 from by omega]; exact hcl w' [] (hw'.fr (w0 := w) (S := []) MI.m) (by simp) k (by omega))) rfl ?_))
                 all_goals refine tl_e (e_allocN rfl) rfl (fun b5 _ => ?_); refine tl_e (e_storeW rfl rfl (by repeat constructor) (by rfl) (by rfl) (by simp [Value.oneCell'])) rfl (fun _ _ => ?_); refine tl_nil ?_; ((refine hK17 ?_; try (clear hK17; clear K17)))
                 all_goals refine tc_seq fun K18 hK18 => ?_; ((have hlk := hv.lk k (by omega); have k1 := hlk.a; have k2 := hlk.b; have k3 := hlk.ne; have k4 := hlk.d))
                 all_goals refine tc_region ?_; refine tl_q (y_field rfl) rfl ?_; refine tl_q (y_load1 rfl (by repeat constructor) (by rfl)) rfl ?_; refine tl_q (y_field rfl) rfl ?_; refine tl_q (y_load1 rfl (by repeat constructor) (by rfl)) rfl ?_; refine tl_q (y_sub rfl rfl (by omega)) rfl ?_; refine tl_e (e_callV rfl (.cons rfl (.cons rfl (.cons rfl .nil))) (fun w' _ => tIn_c _ _ _ w')) rfl (fun _ _ => ?_); refine tl_q (y_not_dec rfl) rfl ?_; refine tl_q (y_move rfl) rfl ?_; ((refine tl_gs rfl rfl (fun hc => ?_) (fun hc => ?_) <;> (try simp only [qn1, qn2, qn3, qn4, qn5, qn6, qn7, qn8] at hc) <;> (first | (exfalso; omega) | refine tl_qg rfl rfl (y_field rfl) rfl ?_)))
                 all_goals (refine tl_qg rfl rfl (y_load1 rfl (by repeat constructor) (by rfl)) rfl ?_); refine tl_qg rfl rfl (y_field rfl) rfl ?_; refine tl_qg rfl rfl (y_load1 rfl (by repeat constructor) (by rfl)) rfl ?_; refine tl_qg rfl rfl (y_sub rfl rfl (by omega)) rfl ?_; refine tl_eg rfl rfl rfl (e_callV rfl (.cons rfl (.cons rfl (.cons rfl .nil))) (fun w' _ => tIn_c _ _ _ w')) (fun _ _ => ?_); refine tl_qg rfl rfl (y_not_dec rfl) rfl ?_; refine tl_q (y_pick_f rfl rfl) rfl ?_; refine tl_q (y_move rfl) rfl ?_; ((refine tl_gs rfl rfl (fun hc => ?_) (fun hc => ?_) <;> (try simp only [qn1, qn2, qn3, qn4, qn5, qn6, qn7, qn8] at hc) <;> (first | (exfalso; omega) | refine tl_qg rfl rfl (y_field rfl) rfl ?_)))
                 all_goals (refine tl_qg rfl rfl (y_load1 rfl (by repeat constructor) (by rfl)) rfl ?_); refine tl_qg rfl rfl (y_field rfl) rfl ?_; refine tl_qg rfl rfl (y_load1 rfl (by repeat constructor) (by rfl)) rfl ?_; refine tl_qg rfl rfl (y_eql rfl rfl) rfl ?_; refine tl_q (y_pick_f rfl rfl) rfl ?_; refine tl_q (y_move rfl) rfl ?_; ((refine tl_gs rfl rfl (fun hc => ?_) (fun hc => ?_) <;> (try simp only [qn1, qn2, qn3, qn4, qn5, qn6, qn7, qn8] at hc) <;> (first | (exfalso; omega) | refine tl_qg rfl rfl (y_field rfl) rfl ?_)))
                 all_goals (refine tl_qg rfl rfl (y_field rfl) rfl ?_); refine tl_qg rfl rfl (y_load1 rfl (by repeat constructor) (by rfl)) rfl ?_; refine tl_qg rfl rfl (y_field rfl) rfl ?_; refine tl_qg rfl rfl (y_field rfl) rfl ?_; refine tl_qg rfl rfl (y_load1 rfl (by repeat constructor) (by rfl)) rfl ?_; refine tl_eg rfl rfl rfl (e_callV rfl (.cons rfl (.cons rfl (.cons rfl .nil))) (fun w' _ => tIn_c _ _ _ w')) (fun _ _ => ?_); refine tl_qg rfl rfl (y_not_dec rfl) rfl ?_; refine tl_q (y_pick_f rfl rfl) rfl ?_; refine tl_q (y_move rfl) rfl ?_; ((refine tl_gs rfl rfl (fun hc => ?_) (fun hc => ?_) <;> (try simp only [qn1, qn2, qn3, qn4, qn5, qn6, qn7, qn8] at hc) <;> (first | (exfalso; omega) | refine tl_qg rfl rfl (y_field rfl) rfl ?_)))
                 all_goals (refine tl_qg rfl rfl (y_field rfl) rfl ?_); refine tl_qg rfl rfl (y_load1 rfl (by repeat constructor) (by rfl)) rfl ?_; refine tl_qg rfl rfl (y_gtr rfl rfl) rfl ?_; refine tl_q (y_pick_f rfl rfl) rfl ?_; refine tl_nil ?_; ((refine hK18 ?_; try (clear hK18; clear K18)))
                 all_goals (
                  refine tc_cond rfl (fun hc => ?_) (fun hc => ?_)
                  · try simp only [qn1, qn2, qn3, qn4, qn5, qn6, qn7, qn8] at hc
                    all_goals ((exfalso; omega))
                  · try simp only [qn1, qn2, qn3, qn4, qn5, qn6, qn7, qn8] at hc
                    all_goals refine tc_skip ?_; ((refine hK16 ?_; try (clear hK16; clear K16)))
                    all_goals refine tc_region ?_; refine tl_q (y_move rfl) rfl ?_; refine tl_q (y_add rfl rfl (by omega)) rfl ?_; refine tl_q (y_assign rfl) rfl ?_; refine tl_nil ?_
                    all_goals (
                     exact tk_round (k + 1) (by omega) (by omega) (.cons rfl (.cons rfl .nil)) (fun _ h => h.subl SB.s SB.s)))
               · try simp only [qn1, qn2, qn3, qn4, qn5, qn6, qn7, qn8] at hc
                 all_goals refine tc_exit ?_; ((refine hK12 ?_; try (clear hK12; clear K12)))
                 all_goals refine tc_seq fun K20 hK20 => ?_; refine tc_seq fun K21 hK21 => ?_; refine tc_region ?_; refine tl_q (y_assign rfl) rfl ?_; refine tl_nil ?_; ((refine hK21 ?_; try (clear hK21; clear K21)))
                 all_goals refine tc_block ?_
                 all_goals (
                  refine tc_loop (fun j : Nat => j ≤ d.fs.length) (fun j => [(1, ptr b1), (6, vi j)]) (fun _ => [(w, [])]) (fun _ => [(b1, dpO d (.slice aw d.t.ws.length cw) (.slice am d.t.ms.length cm) vv (.slice al d.ls.length cl) (.slice af d.fs.length cf) 47)]) (fun j => d.fs.length - j) ?_ ?_
                  · exact tk_start 0 (Nat.zero_le _) (.cons rfl (.cons rfl .nil)) (fun _ h => h.subl SB.s SB.s)
                  · rintro j hj
                    all_goals refine tc_seq fun K22 hK22 => ?_; refine tc_seq fun K23 hK23 => ?_; refine tc_region ?_; refine tl_q (y_move rfl) rfl ?_; refine tl_q (y_field rfl) rfl ?_; refine tl_q (y_load1 rfl (by repeat constructor) (by rfl)) rfl ?_; refine tl_q (y_len rfl) rfl ?_; refine tl_q (y_lss rfl rfl) rfl ?_; refine tl_nil ?_; ((refine hK23 ?_; try (clear hK23; clear K23)))
                    all_goals (
                     refine tc_cond rfl (fun hc => ?_) (fun hc => ?_)
                     · try simp only [qn1, qn2, qn3, qn4, qn5, qn6, qn7, qn8] at hc
                       all_goals refine tc_skip ?_; ((refine hK22 ?_; try (clear hK22; clear K22)))
                       all_goals refine tc_seq fun K24 hK24 => ?_; refine tc_block ?_; refine tc_seq fun K25 hK25 => ?_; refine tc_region ?_; refine tl_q (y_field rfl) rfl ?_; refine tl_q (y_load1 rfl (by repeat constructor) (by rfl)) rfl ?_; refine tl_q (y_move rfl) rfl ?_; refine tl_q (y_index rfl rfl (by omega) (hadf (by omega))) rfl ?_; ((refine tl_q (y_loadNo (n := 6) (vs := [vi (d.fs.getD j fct0).p, vi (d.fs.getD j fct0).s, vi (d.fs.getD j fct0).wl, vi (d.fs.getD j fct0).wh, vi (d.fs.getD j fct0).ml, vi (d.fs.getD j fct0).mh]) rfl (fun w' hw' => by rw [show Int.toNat (j : Int) * 6 = j * 6 from by omega]; exact hcf w' [] (hw'.fr (w0 := w) (S := []) MI.m) (by simp) j (by omega))) rfl ?_))
                       all_goals refine tl_e (e_allocN rfl) rfl (fun b7 _ => ?_); refine tl_e (e_storeW rfl rfl (by repeat constructor) (by rfl) (by rfl) (by simp [Value.oneCell'])) rfl (fun _ _ => ?_); refine tl_nil ?_; ((refine hK25 ?_; try (clear hK25; clear K25)))
                       all_goals refine tc_seq fun K26 hK26 => ?_; ((have hfc := hv.fc j (by omega); have k1 := hfc.p; have k2 := hfc.s; have k3 := hfc.w; have k4 := hfc.m))
                       all_goals refine tc_region ?_; refine tl_q (y_field rfl) rfl ?_; refine tl_q (y_load1 rfl (by repeat constructor) (by rfl)) rfl ?_; refine tl_q (y_field rfl) rfl ?_; refine tl_q (y_load1 rfl (by repeat constructor) (by rfl)) rfl ?_; refine tl_q (y_sub rfl rfl (by omega)) rfl ?_; refine tl_e (e_callV rfl (.cons rfl (.cons rfl (.cons rfl .nil))) (fun w' _ => tIn_c _ _ _ w')) rfl (fun _ _ => ?_); refine tl_q (y_not_dec rfl) rfl ?_; refine tl_q (y_move rfl) rfl ?_; ((refine tl_gs rfl rfl (fun hc => ?_) (fun hc => ?_) <;> (try simp only [qn1, qn2, qn3, qn4, qn5, qn6, qn7, qn8] at hc) <;> (first | (exfalso; omega) | refine tl_qg rfl rfl (y_field rfl) rfl ?_)))
                       all_goals (refine tl_qg rfl rfl (y_load1 rfl (by repeat constructor) (by rfl)) rfl ?_); refine tl_qg rfl rfl (y_field rfl) rfl ?_; refine tl_qg rfl rfl (y_load1 rfl (by repeat constructor) (by rfl)) rfl ?_; refine tl_qg rfl rfl (y_sub rfl rfl (by omega)) rfl ?_; refine tl_eg rfl rfl rfl (e_callV rfl (.cons rfl (.cons rfl (.cons rfl .nil))) (fun w' _ => tIn_c _ _ _ w')) (fun _ _ => ?_); refine tl_qg rfl rfl (y_not_dec rfl) rfl ?_; refine tl_q (y_pick_f rfl rfl) rfl ?_; refine tl_q (y_move rfl) rfl ?_; ((refine tl_gs rfl rfl (fun hc => ?_) (fun hc => ?_) <;> (try simp only [qn1, qn2, qn3, qn4, qn5, qn6, qn7, qn8] at hc) <;> (first | (exfalso; omega) | refine tl_qg rfl rfl (y_field rfl) rfl ?_)))
                       all_goals (refine tl_qg rfl rfl (y_field rfl) rfl ?_); refine tl_qg rfl rfl (y_load1 rfl (by repeat constructor) (by rfl)) rfl ?_; refine tl_qg rfl rfl (y_field rfl) rfl ?_; ((refine tl_qg rfl rfl (y_loadN rfl (by repeat constructor) (by (repeat (first | exact .nil | apply CA.cons rfl)); done)) rfl ?_))
                       all_goals (refine tl_eg rfl rfl rfl (e_callV rfl (.cons rfl (.cons rfl .nil)) (fun w' hw' => dPoints_c d.t.ws zw (by omega) _ _ _ w' (hr0.tb.ws.fr (hw'.fr (w0 := w) (S := []) MI.m)))) (fun _ _ => ?_)); refine tl_qg rfl rfl (y_not_dec rfl) rfl ?_; refine tl_q (y_pick_f rfl rfl) rfl ?_; refine tl_q (y_move rfl) rfl ?_; ((refine tl_gs rfl rfl (fun hc => ?_) (fun hc => ?_) <;> (try simp only [qn1, qn2, qn3, qn4, qn5, qn6, qn7, qn8] at hc) <;> (first | (exfalso; omega) | refine tl_qg rfl rfl (y_field rfl) rfl ?_)))
                       all_goals (refine tl_qg rfl rfl (y_field rfl) rfl ?_); refine tl_qg rfl rfl (y_load1 rfl (by repeat constructor) (by rfl)) rfl ?_; refine tl_qg rfl rfl (y_field rfl) rfl ?_; ((refine tl_qg rfl rfl (y_loadN rfl (by repeat constructor) (by (repeat (first | exact .nil | apply CA.cons rfl)); done)) rfl ?_))
                       all_goals (refine tl_eg rfl rfl rfl (e_callV rfl (.cons rfl (.cons rfl .nil)) (fun w' hw' => dPoints_c d.t.ms zm (by omega) _ _ _ w' (hr0.tb.ms.fr (hw'.fr (w0 := w) (S := []) MI.m)))) (fun _ _ => ?_)); refine tl_qg rfl rfl (y_not_dec rfl) rfl ?_; refine tl_q (y_pick_f rfl rfl) rfl ?_; refine tl_nil ?_; ((refine hK26 ?_; try (clear hK26; clear K26)))
                       all_goals (
                        refine tc_cond rfl (fun hc => ?_) (fun hc => ?_)
                        · try simp only [qn1, qn2, qn3, qn4, qn5, qn6, qn7, qn8] at hc
                          all_goals ((exfalso; omega))
                        · try simp only [qn1, qn2, qn3, qn4, qn5, qn6, qn7, qn8] at hc
                          all_goals refine tc_skip ?_; ((refine hK24 ?_; try (clear hK24; clear K24)))
                          all_goals refine tc_region ?_; refine tl_q (y_move rfl) rfl ?_; refine tl_q (y_add rfl rfl (by omega)) rfl ?_; refine tl_q (y_assign rfl) rfl ?_; refine tl_nil ?_
                          all_goals (
                           exact tk_round (j + 1) (by omega) (by omega) (.cons rfl (.cons rfl .nil)) (fun _ h => h.subl SB.s SB.s)))
                     · try simp only [qn1, qn2, qn3, qn4, qn5, qn6, qn7, qn8] at hc
                       all_goals refine tc_exit ?_; ((refine hK20 ?_; try (clear hK20; clear K20)))
                       all_goals refine tc_seq fun K28 hK28 => ?_; refine tc_region ?_; refine tl_q (y_assign rfl) rfl ?_; refine tl_nil ?_; ((refine hK28 ?_; try (clear hK28; clear K28)))
                       all_goals refine tc_ret ?_; (repeat (first | refine tk_then_ret ?_))
                       all_goals (refine tk_ret rfl rfl (.cons (.tmp rfl) .nil) ?_)
                       all_goals (
                        exact fun w' hw' => ⟨rfl, hw'.fr (w0 := w) (S := []) MI.m⟩))))))))
theorem tlist_c (l : List Int) (hl : l.length ≤ 100) (lv : Value) (w : World) (hr : RdI w lv l) :
    CnX Tryz.prog 42 #[lv] w [] (fun y : Option Addr × Nat => slV l.length y) (fun y w' => RdI w' (slV l.length y) l ∧ NewS w (slV l.length y)) := by
  have hr0 := hr
  obtain ⟨ad, cp, b0, o, rfl, had, hcell⟩ := hr.open
  refine cnx0 (vs := [_]) Tryz.func42 rfl rfl ?_
  all_goals refine tc_seq fun K1 hK1 => ?_; refine tc_region ?_; refine tl_q (y_assign rfl) rfl ?_; refine tl_nil ?_; ((refine hK1 ?_; try (clear hK1; clear K1)))
  all_goals refine tc_seq fun K2 hK2 => ?_; refine tc_region ?_; (refine tl_e (e_bslice rfl (by (repeat (exact .nil)); done) rfl rfl) rfl (fun _ _ => ?_))
  all_goals refine tl_q (y_move rfl) rfl ?_; (refine tl_e (e_append_own (old := []) (junk := []) rfl rfl rfl (by repeat constructor) rfl rfl (Nat.le_refl 0) (fun w' hw' => hr0.fr (hw'.fr (by simp))) (fun u hu => by obtain ⟨_, _, rfl⟩ := List.mem_map.1 hu; rfl) (by omega) rfl) rfl (fun r hq => ?_))
  all_goals refine tl_q (y_assign rfl) rfl ?_; refine tl_nil ?_; ((refine hK2 ?_; try (clear hK2; clear K2)))
  all_goals refine tc_ret ?_; (repeat (first | refine tk_then_ret ?_))
  all_goals (refine tk_ret rfl rfl (.cons (.tmp rfl) .nil) ?_)
  all_goals (
   refine fun w' hw' => ⟨(some ⟨r.1, 0, none⟩, r.2.1), by simp [outV, slV], hw'.fr (by simp), ?_, ?_⟩
   · have h2 := hw'.heap _ (HM.mem (b := r.1) (by repeat constructor))
     refine ⟨by simp, some ⟨r.1, 0, none⟩, r.2.1, rfl, fun _ => ⟨r.1, 0, rfl, ?_⟩⟩
     have h1 := CA_pre (l.map vi) r.2.2 3 (0, 0)
     rw [List.length_map] at h1
     rw [Nat.mul_one]
     exact h1.cells (by simpa using h2)
   · intro p m c e
     cases e
     exact (hw'.own _ (HM.mem (b := r.1) (by repeat constructor)) (w, []) (by simp)).resolve_left (by simp))
end Go.Sp
/-
  Tables for the program.
-/
namespace Go.Sp
open Go Go.Proofs
/-- A table reads so, and all its slices stay as long as nothing but S turns. -/
def OKT (w : World) (S : List Nat) (t : Tab) (wv mv vv : Value) : Prop := ∃ us : List Sv, (OKS 1 inE w S wv t.ws ∧ OKS 1 inE w S mv t.ms) ∧ OKS 1 svE w S vv us ∧ OKV 1 inE w S us t.vs
theorem OKT.step {w w1 : World} {S S' : List Nat} {t : Tab} {wv mv vv : Value} (h : OKT w S t wv mv vv) (f : Fr S w w1) (hS : ∀ b ∈ S', b ∈ S ∨ w.heap.size ≤ b) : OKT w1 S' t wv mv vv := by
  obtain ⟨us, ⟨h1, h2⟩, h3, h4⟩ := h
  exact ⟨us, ⟨h1.step f hS, h2.step f hS⟩, h3.step f hS, h4.step f hS⟩
theorem OKT.rd {w w' : World} {S : List Nat} {t : Tab} {wv mv vv : Value} (h : OKT w S t wv mv vv) (f : Fr S w w') : RdTb w' t wv mv vv := by
  obtain ⟨us, ⟨h1, h2⟩, h3, h4⟩ := h
  exact ⟨(h1.rd' f).toI, (h2.rd' f).toI, us, h3.rd' f, h4.1, fun j hj => (h4.2 j hj).rd' f⟩
/-- What a call returned: it reads in w, and none of its slices' blocks is of S. -/
def SepT (w : World) (S : List Nat) (t : Tab) (wv mv vv : Value) : Prop := ∃ us : List Sv, ((RdI w wv t.ws ∧ sepS wv S) ∧ RdI w mv t.ms ∧ sepS mv S) ∧ (RdS 1 svE w vv us ∧ sepS vv S) ∧ us.length = t.vs.length ∧ ∀ j, j < t.vs.length → RdS 1 inE w (us.getD j sv0).1 (t.vs.getD j []) ∧ sepS (us.getD j sv0).1 S
theorem OKT.mk {bs : List (World × List Nat)} {H Hk : List (Nat × Obj)} {w1 x2 : World} {S0 : List Nat} {t : Tab} {wv mv vv : Value} (hw : HG bs H w1) (hs' : Hk.Sublist H) (hb : (x2, S0) ∈ bs) (h : SepT x2 S0 t wv mv vv) : OKT w1 (Hk.map Prod.fst) t wv mv vv := by
  obtain ⟨us, ⟨⟨h1, h2⟩, h3, h4⟩, ⟨h5, h6⟩, h7, h8⟩ := h
  exact ⟨us, ⟨OKS.mk' inE_len (by decide) hw hs' hb h2 h1.toS, OKS.mk' inE_len (by decide) hw hs' hb h4 h3.toS⟩, OKS.mk' svE_len (by decide) hw hs' hb h6 h5, h7, fun j hj => OKS.mk' inE_len (by decide) hw hs' hb (h8 j hj).2 (h8 j hj).1⟩
/-- New slices. -/
def NewT (w0 w : World) (t : Tab) (wv mv vv : Value) : Prop := ∃ us : List Sv, ((RdI w wv t.ws ∧ NewS w0 wv) ∧ RdI w mv t.ms ∧ NewS w0 mv) ∧ (RdS 1 svE w vv us ∧ NewS w0 vv) ∧ us.length = t.vs.length ∧ ∀ j, j < t.vs.length → RdS 1 inE w (us.getD j sv0).1 (t.vs.getD j []) ∧ NewS w0 (us.getD j sv0).1
theorem NewS.sepW {w : World} {v : Value} {bs : List (World × List Nat)} {H : List (Nat × Obj)} (h : NewS w v) (hw : HG bs H w) : sepS v (H.map Prod.fst) := fun p m c e hm => by
  have h1 := h p m c e
  obtain ⟨q, hq, hq2⟩ := List.mem_map.1 hm
  have := hw.lt hq
  omega
theorem NewS.leW {w0 w1 : World} {v : Value} (h : NewS w1 v) (hs : w0.heap.size ≤ w1.heap.size) : NewS w0 v := fun p m c e => Nat.le_trans hs (h p m c e)
theorem NewS.sepB {w : World} {v : Value} {S : List Nat} {bs : List (World × List Nat)} {H : List (Nat × Obj)} (h : NewS w v) (hw : HG bs H w) (hS : ∀ b ∈ S, b ∈ H.map Prod.fst) : sepS v S := fun p m c e hm => h.sepW hw p m c e (hS _ hm)
theorem NewT.sep {w0 w : World} {t : Tab} {wv mv vv : Value} {bs : List (World × List Nat)} {H : List (Nat × Obj)} (h : NewT w0 w t wv mv vv) (hw : HG bs H w0) : SepT w (H.map Prod.fst) t wv mv vv := by
  obtain ⟨us, ⟨⟨h1, h2⟩, h3, h4⟩, ⟨h5, h6⟩, h7, h8⟩ := h
  exact ⟨us, ⟨⟨h1, h2.sepW hw⟩, h3, h4.sepW hw⟩, ⟨h5, h6.sepW hw⟩, h7, fun j hj => ⟨(h8 j hj).1, (h8 j hj).2.sepW hw⟩⟩
theorem three_ones {a b c : Value} (h1 : a.oneCell' = true) (h2 : b.oneCell' = true) (h3 : c.oneCell' = true) : ∀ v ∈ (#[a, b, c] : Array Value).toList, v.oneCell' = true := by
  intro v hv
  simp only [List.mem_cons, List.not_mem_nil, or_false] at hv
  rcases hv with rfl | rfl | rfl <;> assumption
abbrev tbP (wv mv vv : Value) : Obj := .cells #[wv, mv, vv] 58 (0, 0)
theorem SepS.newV {w0 : World} {us : List Sv} {v : Sv} (h : ∀ j, j < us.length → NewS w0 (us.getD j sv0).1) (hv : NewS w0 v.1) : ∀ j, j < (us ++ [v]).length → NewS w0 ((us ++ [v]).getD j sv0).1 := fun j hj => by
  rw [List.length_append, List.length_singleton] at hj
  rw [getD_snocK]
  by_cases hlt : j < us.length
  · rw [if_pos hlt]; exact h j hlt
  · rw [if_neg hlt, if_pos (by omega)]; exact hv
set_option maxHeartbeats 4000000 in
theorem lawTable_c (t : Tab) (hv : VTab t) (wv mv vv : Value) (w : World) (hr : RdTb w t wv mv vv) :
    CnX Tryz.prog 28 #[tbV wv mv vv] w [] (fun y : (Option Addr × Nat) × (Option Addr × Nat) × (Option Addr × Nat) => tbV (slV t.ws.length y.1) (slV t.ms.length y.2.1) (slV t.vs.length y.2.2)) (fun y w' => NewT w w' t (slV t.ws.length y.1) (slV t.ms.length y.2.1) (slV t.vs.length y.2.2)) := by
  have hr0 := hr
  have w5 := hv.w5
  have m5 := hv.m5
  have vl := hv.v
  obtain ⟨aw, cw, _, _, rfl, _, _⟩ := hr.ws.open
  obtain ⟨am, cm, _, _, rfl, _, _⟩ := hr.ms.open
  obtain ⟨ada, cpa, ba, oa, aus, rfl, hada, hca, hra⟩ := hr.vs.open
  refine cnx0 (vs := [_]) Tryz.func28 rfl rfl ?_
  all_goals refine tc_seq fun K1 hK1 => ?_; refine tc_region ?_; refine tl_e (e_box rfl rfl rfl) rfl (fun b1 _ => ?_); refine tl_e (e_allocN rfl) rfl (fun b2 _ => ?_); refine tl_nil ?_; ((refine hK1 ?_; try (clear hK1; clear K1)))
  all_goals (
   refine tc_join (fun q : (Option Addr × Nat) × (Option Addr × Nat) × Nat × World => (OKS 1 inE q.2.2.2 [q.2.2.1, b2, b1] (slV t.ws.length q.1) t.ws ∧ NewS w (slV t.ws.length q.1)) ∧ OKS 1 inE q.2.2.2 [q.2.2.1, b2, b1] (slV t.ms.length q.2.1) t.ms ∧ NewS w (slV t.ms.length q.2.1)) (fun q => [(1, ptr b1), (2, ptr b2), (3, ptr q.2.2.1)]) (fun q => [(q.2.2.2, [q.2.2.1, b2, b1]), (w, [])]) (fun q => [(q.2.2.1, tbP (slV t.ws.length q.1) (slV t.ms.length q.2.1) (.slice none 0 0)), (b2, tbP (.slice none 0 0) (.slice none 0 0) (.slice none 0 0)), (b1, tbO (.slice aw t.ws.length cw) (.slice am t.ms.length cm) (.slice ada t.vs.length cpa))]) ?_ ?_
   · skip
     all_goals refine tc_drawS ([(b2, tbP (.slice none 0 0) (.slice none 0 0) (.slice none 0 0)), (b1, tbO (.slice aw t.ws.length cw) (.slice am t.ms.length cm) (.slice ada t.vs.length cpa))]) (by kernel_rfl) ?_; refine tx_p 0 rfl (by kernel_rfl) (y_field rfl) rfl (fun _ _ _ h => h) (fun _ h => h.subl SB.s SB.s) ?_; refine tx_qS 1 rfl (by kernel_rfl) (y_load1 rfl (by repeat constructor) (by rfl)) rfl (fun _ _ _ h => h) (fun _ h => h.subl SB.s SB.s) ?_; refine tx_p 3 rfl (by kernel_rfl) (y_field rfl) rfl (fun _ _ _ h => h) (fun _ h => h.subl SB.s SB.s) ?_; refine tx_qS 4 rfl (by kernel_rfl) (y_load1 rfl (by repeat constructor) (by rfl)) rfl (fun _ _ _ h => h) (fun _ h => h.subl SB.s SB.s) ?_
     all_goals (
      refine tx_pair 2 7 (by kernel_rfl) ?_ ?_
      rotate_left
      focus (
       (refine to_e rfl rfl (e_allocN rfl) (.inr ⟨fun _ _ h => h.subl SB.s SB.s, fun _ h => h⟩) (fun b3 _ => ?_))
       all_goals (refine tx_single 2 (by kernel_rfl) (to_e rfl rfl (e_callX rfl (.cons rfl .nil) (fun w' hw' => (tlist_c t.ws (by omega) _ w' (hr0.ws.fr (hw'.fr (w0 := w) (S := []) MI.m))).imp (val' := fun y : Option Addr × Nat => slV (t.ws).length y) (p' := fun y w2 => RdI w2 (slV (t.ws).length y) (t.ws) ∧ sepS (slV (t.ws).length y) ([b3, b2, b1]) ∧ NewS w (slV (t.ws).length y)) id (fun _ => rfl) (fun _ h => h) (fun _ _ _ hp => ⟨hp.1, hp.2.sepB hw' (by simp), hp.2.leW (hw'.fr (w0 := w) (S := []) MI.m).size⟩))) (.inr ⟨fun _ _ h => h.subl SB.s SB.s, fun _ h => h⟩) (fun y1 hy1 => ?_))); refine tx_single 5 (by kernel_rfl) (to_e rfl rfl (e_callX rfl (.cons rfl .nil) (fun w' hw' => (tlist_c t.ms (by omega) _ w' (hr0.ms.fr (hw'.fr (w0 := w) (S := []) MI.m))).imp (val' := fun y : Option Addr × Nat => slV (t.ms).length y) (p' := fun y w2 => RdI w2 (slV (t.ms).length y) (t.ms) ∧ sepS (slV (t.ms).length y) ([b3, b2, b1]) ∧ NewS w (slV (t.ms).length y)) id (fun _ => rfl) (fun _ h => h) (fun _ _ _ hp => ⟨hp.1, hp.2.sepB hw' (by simp), hp.2.leW (hw'.fr (w0 := w) (S := []) MI.m).size⟩))) (.inr ⟨fun _ _ h => h.subl SB.s SB.s, fun _ h => h⟩) (fun y2 hy2 => ?_)); refine tx_p 6 rfl (by kernel_rfl) (y_build_g (by repeat constructor)) rfl (fun _ _ _ h => h) (fun _ h => h.subl SB.s SB.s) ?_; refine tx_single 8 (by kernel_rfl) (to_e (S' := HG [] []) rfl rfl (e_storeW rfl rfl (by repeat constructor) (by rfl) (by rfl) (three_ones rfl rfl rfl)) (.inl (by kernel_rfl)) (fun _ _ => ?_))
       all_goals refine tx_done (by kernel_rfl) ?_)
      rotate_right
      focus (
       (refine to_e rfl rfl (e_callX rfl (.cons rfl .nil) (fun w' hw' => (tlist_c t.ws (by omega) _ w' (hr0.ws.fr (hw'.fr (w0 := w) (S := []) MI.m))).imp (val' := fun y : Option Addr × Nat => slV (t.ws).length y) (p' := fun y w2 => RdI w2 (slV (t.ws).length y) (t.ws) ∧ sepS (slV (t.ws).length y) ([b2, b1]) ∧ NewS w (slV (t.ws).length y)) id (fun _ => rfl) (fun _ h => h) (fun _ _ _ hp => ⟨hp.1, hp.2.sepB hw' (by simp), hp.2.leW (hw'.fr (w0 := w) (S := []) MI.m).size⟩))) (.inr ⟨fun _ _ h => h.subl SB.s SB.s, fun _ h => h⟩) (fun y1 hy1 => ?_))
       all_goals (
        refine tx_pair 5 7 (by kernel_rfl) ?_ ?_
        rotate_left
        focus (
         (refine to_e rfl rfl (e_allocN rfl) (.inr ⟨fun _ _ h => h.subl SB.s SB.s, fun _ h => h⟩) (fun b3 _ => ?_))
         all_goals (refine tx_single 5 (by kernel_rfl) (to_e rfl rfl (e_callX rfl (.cons rfl .nil) (fun w' hw' => (tlist_c t.ms (by omega) _ w' (hr0.ms.fr (hw'.fr (w0 := w) (S := []) MI.m))).imp (val' := fun y : Option Addr × Nat => slV (t.ms).length y) (p' := fun y w2 => RdI w2 (slV (t.ms).length y) (t.ms) ∧ sepS (slV (t.ms).length y) ([b3, b2, b1]) ∧ NewS w (slV (t.ms).length y)) id (fun _ => rfl) (fun _ h => h) (fun _ _ _ hp => ⟨hp.1, hp.2.sepB hw' (by simp), hp.2.leW (hw'.fr (w0 := w) (S := []) MI.m).size⟩))) (.inr ⟨fun _ _ h => h.subl SB.s SB.s, fun _ h => h⟩) (fun y2 hy2 => ?_))); refine tx_p 6 rfl (by kernel_rfl) (y_build_g (by repeat constructor)) rfl (fun _ _ _ h => h) (fun _ h => h.subl SB.s SB.s) ?_; refine tx_single 8 (by kernel_rfl) (to_e (S' := HG [] []) rfl rfl (e_storeW rfl rfl (by repeat constructor) (by rfl) (by rfl) (three_ones rfl rfl rfl)) (.inl (by kernel_rfl)) (fun _ _ => ?_))
         all_goals refine tx_done (by kernel_rfl) ?_)
        rotate_right
        focus (
         (refine to_e rfl rfl (e_callX rfl (.cons rfl .nil) (fun w' hw' => (tlist_c t.ms (by omega) _ w' (hr0.ms.fr (hw'.fr (w0 := w) (S := []) MI.m))).imp (val' := fun y : Option Addr × Nat => slV (t.ms).length y) (p' := fun y w2 => RdI w2 (slV (t.ms).length y) (t.ms) ∧ sepS (slV (t.ms).length y) ([b2, b1]) ∧ NewS w (slV (t.ms).length y)) id (fun _ => rfl) (fun _ h => h) (fun _ _ _ hp => ⟨hp.1, hp.2.sepB hw' (by simp), hp.2.leW (hw'.fr (w0 := w) (S := []) MI.m).size⟩))) (.inr ⟨fun _ _ h => h.subl SB.s SB.s, fun _ h => h⟩) (fun y2 hy2 => ?_))
         all_goals (refine tx_p 6 rfl (by kernel_rfl) (y_build_g (by repeat constructor)) rfl (fun _ _ _ h => h) (fun _ h => h.subl SB.s SB.s) ?_); refine tx_single 7 (by kernel_rfl) (to_e rfl rfl (e_allocN rfl) (.inr ⟨fun _ _ h => h.subl SB.s SB.s, fun _ h => h⟩) (fun b3 _ => ?_)); refine tx_single 8 (by kernel_rfl) (to_e (S' := HG [] []) rfl rfl (e_storeW rfl rfl (by repeat constructor) (by rfl) (by rfl) (three_ones rfl rfl rfl)) (.inl (by kernel_rfl)) (fun _ _ => ?_))
         all_goals refine tx_done (by kernel_rfl) ?_))))
     all_goals (
      exact tk_lay [(b3, tbP (slV t.ws.length y1.1) (slV t.ms.length y2.1) (.slice none 0 0)), (b2, tbP (.slice none 0 0) (.slice none 0 0) (.slice none 0 0)), (b1, tbO (.slice aw t.ws.length cw) (.slice am t.ms.length cm) (.slice ada t.vs.length cpa))] SB.s fun wl2 hl2 => tk_start (y1.1, y2.1, b3, wl2) ⟨⟨OKS.mk' (Hk := [(b3, tbP (slV t.ws.length y1.1) (slV t.ms.length y2.1) (.slice none 0 0)), (b2, tbP (.slice none 0 0) (.slice none 0 0) (.slice none 0 0)), (b1, tbO (.slice aw t.ws.length cw) (.slice am t.ms.length cm) (.slice ada t.vs.length cpa))]) inE_len (by decide) hl2 SB.s (x2 := y1.2) MI.m hy1.1.2.1 hy1.1.1.toS, hy1.1.2.2⟩, OKS.mk' (Hk := [(b3, tbP (slV t.ws.length y1.1) (slV t.ms.length y2.1) (.slice none 0 0)), (b2, tbP (.slice none 0 0) (.slice none 0 0) (.slice none 0 0)), (b1, tbO (.slice aw t.ws.length cw) (.slice am t.ms.length cm) (.slice ada t.vs.length cpa))]) inE_len (by decide) hl2 SB.s (x2 := y2.2) MI.m hy2.1.2.1 hy2.1.1.toS, hy2.1.2.2⟩ (.cons rfl (.cons rfl (.cons rfl .nil))) (fun _ h => h.subl SB.s SB.s))
   · rintro ⟨y1, y2, b3, wj⟩ ⟨⟨hj1, hj2⟩, hj3, hj4⟩
     dsimp only at hj1 hj2 hj3 hj4 ⊢
     all_goals refine tc_seq fun K2 hK2 => ?_; refine tc_seq fun K3 hK3 => ?_; refine tc_region ?_; refine tl_q (y_assign rfl) rfl ?_; refine tl_nil ?_; ((refine hK3 ?_; try (clear hK3; clear K3)))
     all_goals refine tc_block ?_
     all_goals (
      refine tc_loop (fun p : Nat × List Sv × OwnB × World => (p.1 ≤ t.vs.length ∧ okE 1 p.2.1 p.2.2.1) ∧ OKV 1 inE p.2.2.2 (b3 :: b2 :: b1 :: (slE 27 svE p.2.1 p.2.2.1).map Prod.fst) p.2.1 (t.vs.take p.1) ∧ ∀ j, j < p.2.1.length → NewS w (p.2.1.getD j sv0).1) (fun p => [(1, ptr b1), (2, ptr b2), (3, ptr b3), (4, vi p.1)]) (fun p => [(p.2.2.2, b3 :: b2 :: b1 :: (slE 27 svE p.2.1 p.2.2.1).map Prod.fst), (wj, [b3, b2, b1]), (w, [])]) (fun p => (b3, tbP (slV t.ws.length y1) (slV t.ms.length y2) (ouV p.2.1.length p.2.2.1)) :: (b2, tbP (.slice none 0 0) (.slice none 0 0) (.slice none 0 0)) :: (b1, tbO (.slice aw t.ws.length cw) (.slice am t.ms.length cm) (.slice ada t.vs.length cpa)) :: slE 27 svE p.2.1 p.2.2.1) (fun p => t.vs.length - p.1) ?_ ?_
      · exact tk_lay [(b3, tbP (slV t.ws.length y1) (slV t.ms.length y2) (.slice none 0 0)), (b2, tbP (.slice none 0 0) (.slice none 0 0) (.slice none 0 0)), (b1, tbO (.slice aw t.ws.length cw) (.slice am t.ms.length cm) (.slice ada t.vs.length cpa))] SB.s fun wl2 hl2 => tk_start (0, [], none, wl2) ⟨⟨Nat.zero_le _, rfl⟩, OKV.nil, fun j hj => absurd hj (Nat.not_lt_zero j)⟩ (.cons rfl (.cons rfl (.cons rfl (.cons rfl .nil)))) (fun _ h => by dsimp only; rw [slE_none]; exact h.subl SB.s SB.s)
      · rintro ⟨n, us, oo, wz⟩ ⟨⟨hn, hok⟩, hu, hnw⟩
        dsimp only at hn hok hu hnw ⊢
        have hul := hu.1
        rw [List.length_take_of_le hn] at hul
        all_goals refine tc_seq fun K4 hK4 => ?_; refine tc_seq fun K5 hK5 => ?_; refine tc_region ?_; refine tl_q (y_move rfl) rfl ?_; refine tl_q (y_field rfl) rfl ?_; refine tl_q (y_load1 rfl (by repeat constructor) (by rfl)) rfl ?_; refine tl_q (y_len rfl) rfl ?_; refine tl_q (y_lss rfl rfl) rfl ?_; refine tl_nil ?_; ((refine hK5 ?_; try (clear hK5; clear K5)))
        all_goals (
         refine tc_cond rfl (fun hc => ?_) (fun hc => ?_)
         · try simp only [qn1, qn2, qn3, qn4, qn5, qn6, qn7, qn8] at hc
           all_goals refine tc_skip ?_; ((refine hK4 ?_; try (clear hK4; clear K4)))
           all_goals refine tc_seq fun K6 hK6 => ?_; refine tc_block ?_; ((have hnB : n < t.vs.length := (by omega); have hal := (hv.row n hnB).1; obtain ⟨adn, cpn, bn, on, hen, hadn, hcn⟩ := (hra w (Fr.refl _ _) n hnB).open inE_len 0))
           all_goals ((have hrn : ∀ w', Fr [] w w' → RdI w' (.slice adn (t.vs.getD n []).length cpn) (t.vs.getD n []) := fun w' f => by rw [← hen]; exact (hra w' f n hnB).toI))
           all_goals refine tc_drawS ((b3, tbP (slV t.ws.length y1) (slV t.ms.length y2) (ouV us.length oo)) :: (b2, tbP (.slice none 0 0) (.slice none 0 0) (.slice none 0 0)) :: (b1, tbO (.slice aw t.ws.length cw) (.slice am t.ms.length cm) (.slice ada t.vs.length cpa)) :: []) (by kernel_rfl) ?_; refine tx_p 0 rfl (by kernel_rfl) (y_field rfl) rfl (fun _ _ _ h => h) (fun _ h => h.subl SB.s SB.s) ?_; refine tx_qS 1 rfl (by kernel_rfl) (y_load1 rfl (by repeat constructor) (by rfl)) rfl (fun _ _ _ h => h) (fun _ h => h.subl SB.s SB.s) ?_; refine tx_p 2 rfl (by kernel_rfl) (y_field rfl) rfl (fun _ _ _ h => h) (fun _ h => h.subl SB.s SB.s) ?_; refine tx_qS 3 rfl (by kernel_rfl) (y_load1 rfl (by repeat constructor) (by rfl)) rfl (fun _ _ _ h => h) (fun _ h => h.subl SB.s SB.s) ?_; refine tx_p 4 rfl (by kernel_rfl) (y_move rfl) rfl (fun _ _ _ h => h) (fun _ h => h.subl SB.s SB.s) ?_; refine tx_p 5 rfl (by kernel_rfl) (y_index rfl rfl (by omega) (hada (by omega))) rfl (fun _ _ _ h => h) (fun _ h => h.subl SB.s SB.s) ?_; ((refine tx_qS 6 rfl (by kernel_rfl) (y_load1o (v := .slice adn (t.vs.getD n []).length cpn) rfl (fun w' hw' => by rw [show Int.toNat (n : Int) * 1 = n from by omega, ← hen]; exact hca w' (hw'.fr (w0 := w) (S := []) MI.m) n hnB)) rfl (fun _ _ _ h => h) (fun _ h => h.subl SB.s SB.s) ?_))
           all_goals (refine tx_single 7 (by kernel_rfl) (to_e rfl rfl (e_callX rfl (.cons rfl .nil) (fun w' hw' => (tlist_c (t.vs.getD n []) (by omega) _ w' (hrn w' (hw'.fr (w0 := w) (S := []) MI.m))).imp (val' := fun y : Option Addr × Nat => slV ((t.vs.getD n [])).length y) (p' := fun y w2 => RdI w2 (slV ((t.vs.getD n [])).length y) ((t.vs.getD n [])) ∧ sepS (slV ((t.vs.getD n [])).length y) (b3 :: b2 :: b1 :: (slE 27 svE us oo).map Prod.fst) ∧ NewS w (slV ((t.vs.getD n [])).length y)) id (fun _ => rfl) (fun _ h => h) (fun _ _ _ hp => ⟨hp.1, hp.2.sepW hw', hp.2.leW (hw'.fr (w0 := w) (S := []) MI.m).size⟩))) (.inr ⟨fun _ _ h => h.subl SB.s SB.s, fun _ h => h⟩) (fun y5 hy5 => ?_))); (refine tx_single 8 (by kernel_rfl) (to_e rfl rfl (e_bslice rfl (by (repeat (first | exact .nil | apply PV.one rfl rfl)); done) rfl rfl) (.inr ⟨fun _ _ h => h.subl SB.s SB.s, fun _ h => h⟩) (fun b8 _ => ?_)))
           all_goals (refine tx_single 9 (by kernel_rfl) (to_e rfl rfl (e_appendE (enc := svE) (xs := us) (ys := [svS (t.vs.getD n []).length y5.1]) svE_len svE_one rfl rfl rfl hok (fun _ => by repeat constructor) (fun w' hw' => RdS.own0 svE_len hw' (by repeat constructor)) (by simp only [List.length_cons, List.length_nil]; omega) rfl) (.inr ⟨fun _ _ h => h.subl SB.s SB.s, fun _ h => h⟩) (fun oo' hok' => ?_)))
           all_goals refine tx_p 10 rfl (by kernel_rfl) (y_field rfl) rfl (fun _ _ _ h => h) (fun _ h => h.subl SB.s SB.s) ?_; refine tx_single 11 (by kernel_rfl) (to_e (S' := HG [] []) rfl rfl (e_store1 rfl rfl (by repeat constructor) (by repeat constructor) (by rfl) (by rfl)) (.inl (by kernel_rfl)) (fun _ _ => ?_)); refine tx_done (by kernel_rfl) ?_; ((refine hK6 ?_; try (clear hK6; clear K6)))
           all_goals refine tc_lay ((b3, tbP (slV t.ws.length y1) (slV t.ms.length y2) (ouV (us ++ [svS (t.vs.getD n []).length y5.1]).length oo')) :: (b2, tbP (.slice none 0 0) (.slice none 0 0) (.slice none 0 0)) :: (b1, tbO (.slice aw t.ws.length cw) (.slice am t.ms.length cm) (.slice ada t.vs.length cpa)) :: slE 27 svE (us ++ [svS (t.vs.getD n []).length y5.1]) oo') ((List.Sublist.refl _).cons _) (fun wl4 hl4 => ?_); refine tc_region ?_; refine tl_q (y_move rfl) rfl ?_; refine tl_q (y_add rfl rfl (by omega)) rfl ?_; refine tl_q (y_assign rfl) rfl ?_; refine tl_nil ?_
           all_goals (
            have hfz : Fr (b3 :: b2 :: b1 :: (slE 27 svE us oo).map Prod.fst) wz wl4 := hl4.fr (w0 := wz) MI.m
            have hoz := hl4.ownsK ((List.Sublist.refl ((b3, tbP (slV t.ws.length y1) (slV t.ms.length y2) (ouV (us ++ [svS (t.vs.getD n []).length y5.1]).length oo')) :: (b2, tbP (.slice none 0 0) (.slice none 0 0) (.slice none 0 0)) :: (b1, tbO (.slice aw t.ws.length cw) (.slice am t.ms.length cm) (.slice ada t.vs.length cpa)) :: slE 27 svE (us ++ [svS (t.vs.getD n []).length y5.1]) oo')).cons _) (w0 := wz) (S := b3 :: b2 :: b1 :: (slE 27 svE us oo).map Prod.fst) MI.m
            have hol : OKS 1 inE wl4 (((b3, tbP (slV t.ws.length y1) (slV t.ms.length y2) (ouV (us ++ [svS (t.vs.getD n []).length y5.1]).length oo')) :: (b2, tbP (.slice none 0 0) (.slice none 0 0) (.slice none 0 0)) :: (b1, tbO (.slice aw t.ws.length cw) (.slice am t.ms.length cm) (.slice ada t.vs.length cpa)) :: slE 27 svE (us ++ [svS (t.vs.getD n []).length y5.1]) oo').map Prod.fst) (svS (t.vs.getD n []).length y5.1).1 (t.vs.getD n []) := OKS.mk' inE_len (by decide) hl4 ((List.Sublist.refl _).cons _) (x2 := y5.2) (S0 := b3 :: b2 :: b1 :: (slE 27 svE us oo).map Prod.fst) MI.m hy5.1.2.1 (RdS.int.2 hy5.1.1)
            have htk := takeG_succ (d := ([] : List Int)) (l := t.vs) (n := n) hnB
            exact tk_round (n + 1, us ++ [svS (t.vs.getD n []).length y5.1], oo', wl4) ⟨⟨by dsimp only; omega, hok'⟩, by dsimp only; rw [htk]; exact (hu.step hfz hoz).snoc hol, SepS.newV hnw hy5.1.2.2⟩ (by dsimp only; omega) (.cons rfl (.cons rfl (.cons rfl (.cons rfl .nil)))) (fun _ h => h.subl SB.s SB.s))
         · try simp only [qn1, qn2, qn3, qn4, qn5, qn6, qn7, qn8] at hc
           all_goals refine tc_exit ?_; ((refine hK2 ?_; try (clear hK2; clear K2)))
           all_goals refine tc_seq fun K7 hK7 => ?_; refine tc_region ?_; refine tl_q (y_loadW rfl (by repeat constructor) (by rfl)) rfl ?_; refine tl_e (e_storeW rfl rfl (by repeat constructor) (by rfl) (by rfl) (three_ones rfl rfl rfl)) rfl (fun _ _ => ?_); refine tl_nil ?_; ((refine hK7 ?_; try (clear hK7; clear K7)))
           all_goals refine tc_ret ?_; (repeat (first | refine tk_then_ret ?_))
           all_goals (refine tk_ret rfl rfl (.cons (.agg inferInstance rfl (by repeat constructor) (by rfl)) .nil) ?_)
           all_goals (
            obtain rfl : n = t.vs.length := by omega
            rw [List.take_of_length_le (Nat.le_refl _)] at hu
            refine fun w' hw' => ⟨(y1, y2, ouA oo), ?_, hw'.fr (w0 := w) (S := []) MI.m, us, ⟨⟨(hj1.rd' (hw'.fr (w0 := wj) (S := [b3, b2, b1]) MI.m)).toI, hj2⟩, (hj3.rd' (hw'.fr (w0 := wj) (S := [b3, b2, b1]) MI.m)).toI, hj4⟩, ?_, hul, fun j hj => ⟨(hu.2 j hj).rd' (hw'.fr (w0 := wz) (S := b3 :: b2 :: b1 :: (slE 27 svE us oo).map Prod.fst) MI.m), hnw j (by omega)⟩⟩
            · show _ = Ending.returned (tbV _ _ (slV t.vs.length (ouA oo)))
              rw [← hul]; rfl
            · have h1 := RdS.ofO svE_len hok hw' (by repeat constructor)
              have h2 : NewS w (ouV us.length oo) := NewS.ofO (n := us.length) hw' (by repeat constructor) MI.m
              rw [hul] at h1 h2
              exact ⟨h1, h2⟩))))
end Go.Sp
/-
  Disputes for the program.
-/
namespace Go.Sp
open Go Go.Proofs
theorem NewT.sepB {w0 w : World} {S : List Nat} {t : Tab} {wv mv vv : Value} {bs : List (World × List Nat)} {H : List (Nat × Obj)} (h : NewT w0 w t wv mv vv) (hw : HG bs H w0) (hS : ∀ b ∈ S, b ∈ H.map Prod.fst) : SepT w S t wv mv vv := by
  obtain ⟨us, ⟨⟨h1, h2⟩, h3, h4⟩, ⟨h5, h6⟩, h7, h8⟩ := h
  exact ⟨us, ⟨⟨h1, h2.sepB hw hS⟩, h3, h4.sepB hw hS⟩, ⟨h5, h6.sepB hw hS⟩, h7, fun j hj => ⟨(h8 j hj).1, (h8 j hj).2.sepB hw hS⟩⟩
theorem lto_c (lo hi : Int) (w : World) : CnV Tryz.prog 29 #[.agg #[vi lo, vi hi]] w (.agg #[vi lo, vi hi]) := by
  refine cnv (vs := [_]) Tryz.func29 rfl rfl ?_
  all_goals refine tc_seq fun K1 hK1 => ?_; refine tc_region ?_; refine tl_e (e_box rfl rfl rfl) rfl (fun b1 _ => ?_); refine tl_e (e_allocN rfl) rfl (fun b2 _ => ?_); refine tl_nil ?_; ((refine hK1 ?_; try (clear hK1; clear K1)))
  all_goals refine tc_seq fun K2 hK2 => ?_; refine tc_region ?_; refine tl_q (y_field rfl) rfl ?_; refine tl_q (y_load1 rfl (by repeat constructor) (by rfl)) rfl ?_; refine tl_q (y_field rfl) rfl ?_; refine tl_q (y_load1 rfl (by repeat constructor) (by rfl)) rfl ?_; refine tl_q (y_build_g (by repeat constructor)) rfl ?_; refine tl_e (e_storeW rfl rfl (by repeat constructor) (by rfl) (by rfl) (by simp [Value.oneCell'])) rfl (fun _ _ => ?_); refine tl_nil ?_; ((refine hK2 ?_; try (clear hK2; clear K2)))
  all_goals refine tc_ret ?_; (repeat (first | refine tk_then_ret ?_))
  all_goals (refine tk_ret rfl rfl (.cons (.agg inferInstance rfl (by repeat constructor) (by rfl)) .nil) ?_)
  all_goals (
   exact fun w' hw' => ⟨rfl, hw'.fr (w0 := w) (S := []) MI.m⟩)
abbrev dpP (d : Dsp) (wv mv vv lv fv : Value) : Obj := .cells #[wv, mv, vv, vi d.S, vi d.P, lv, fv] 62 (0, 0)
abbrev dpZ : Obj := .cells #[.slice none 0 0, .slice none 0 0, .slice none 0 0, vi 0, vi 0, .slice none 0 0, .slice none 0 0] 62 (0, 0)
theorem seven_ones {a b c : Value} {m n : Int} {e f : Value} (h1 : a.oneCell' = true) (h2 : b.oneCell' = true) (h3 : c.oneCell' = true) (h4 : e.oneCell' = true) (h5 : f.oneCell' = true) : ∀ v ∈ (#[a, b, c, vi m, vi n, e, f] : Array Value).toList, v.oneCell' = true := by
  intro v hv
  simp only [List.mem_cons, List.not_mem_nil, or_false] at hv
  rcases hv with rfl | rfl | rfl | rfl | rfl | rfl | rfl
  all_goals (first | rfl | assumption)
set_option maxHeartbeats 4000000 in
theorem lawDispute_c (d : Dsp) (hv : VDsp d) (wv mv vv lv fv : Value) (w : World) (hr : RdD w d wv mv vv lv fv) :
    CnX Tryz.prog 14 #[dpV d wv mv vv lv fv] w [] (fun y : ((Option Addr × Nat) × (Option Addr × Nat) × (Option Addr × Nat)) × (Option Addr × Nat) × (Option Addr × Nat) => dpV d (slV d.t.ws.length y.1.1) (slV d.t.ms.length y.1.2.1) (slV d.t.vs.length y.1.2.2) (slV d.ls.length y.2.1) (slV d.fs.length y.2.2))
      (fun y w' => RdD w' d (slV d.t.ws.length y.1.1) (slV d.t.ms.length y.1.2.1) (slV d.t.vs.length y.1.2.2) (slV d.ls.length y.2.1) (slV d.fs.length y.2.2)) := by
  have hr0 := hr
  have hvt := hv.t
  have hl4 := hv.l
  have hf6 := hv.f
  obtain ⟨aw, cw, bw, ow, rfl, hadw, hcw⟩ := hr.tb.ws.open
  obtain ⟨am, cm, bm, om, rfl, hadm, hcm⟩ := hr.tb.ms.open
  obtain ⟨av, cv, bv, ov, us, rfl, hadv, hcv, hrow⟩ := hr.tb.vs.open
  obtain ⟨al, cl, bl, ol, rfl, hadl, hcl⟩ := hr.ls.open lkE_len lk0
  obtain ⟨af, cf, bf, of, rfl, hadf, hcf⟩ := hr.fs.open fcE_len fct0
  refine cnx0 (vs := [_]) Tryz.func14 rfl rfl ?_
  all_goals refine tc_seq fun K1 hK1 => ?_; refine tc_region ?_; refine tl_e (e_box rfl rfl rfl) rfl (fun b1 _ => ?_); refine tl_e (e_allocN rfl) rfl (fun b2 _ => ?_); refine tl_nil ?_; ((refine hK1 ?_; try (clear hK1; clear K1)))
  all_goals (
   refine tc_join (fun q : ((Option Addr × Nat) × (Option Addr × Nat) × (Option Addr × Nat)) × Nat × World => OKT q.2.2 [q.2.1, b2, b1] d.t (slV d.t.ws.length q.1.1) (slV d.t.ms.length q.1.2.1) (slV d.t.vs.length q.1.2.2)) (fun q => [(1, ptr b1), (2, ptr b2), (3, ptr q.2.1)]) (fun q => [(q.2.2, [q.2.1, b2, b1]), (w, [])]) (fun q => [(q.2.1, dpP d (slV d.t.ws.length q.1.1) (slV d.t.ms.length q.1.2.1) (slV d.t.vs.length q.1.2.2) (.slice none 0 0) (.slice none 0 0)), (b2, dpZ), (b1, dpO d (.slice aw d.t.ws.length cw) (.slice am d.t.ms.length cm) (.slice av d.t.vs.length cv) (.slice al d.ls.length cl) (.slice af d.fs.length cf) 47)]) ?_ ?_
   · skip
     all_goals refine tc_drawS ([(b2, dpZ), (b1, dpO d (.slice aw d.t.ws.length cw) (.slice am d.t.ms.length cm) (.slice av d.t.vs.length cv) (.slice al d.ls.length cl) (.slice af d.fs.length cf) 47)]) (by kernel_rfl) ?_; refine tx_p 0 rfl (by kernel_rfl) (y_field rfl) rfl (fun _ _ _ h => h) (fun _ h => h.subl SB.s SB.s) ?_; ((refine tx_qS 1 rfl (by kernel_rfl) (y_loadN rfl (by repeat constructor) (by (repeat (first | exact .nil | apply CA.cons rfl)); done)) rfl (fun _ _ _ h => h) (fun _ h => h.subl SB.s SB.s) ?_))
     all_goals refine tx_p 3 rfl (by kernel_rfl) (y_field rfl) rfl (fun _ _ _ h => h) (fun _ h => h.subl SB.s SB.s) ?_; refine tx_qS 4 rfl (by kernel_rfl) (y_load1 rfl (by repeat constructor) (by rfl)) rfl (fun _ _ _ h => h) (fun _ h => h.subl SB.s SB.s) ?_; refine tx_p 5 rfl (by kernel_rfl) (y_field rfl) rfl (fun _ _ _ h => h) (fun _ h => h.subl SB.s SB.s) ?_; refine tx_qS 6 rfl (by kernel_rfl) (y_load1 rfl (by repeat constructor) (by rfl)) rfl (fun _ _ _ h => h) (fun _ h => h.subl SB.s SB.s) ?_
     all_goals (
      refine tx_pair 2 8 (by kernel_rfl) ?_ ?_
      rotate_left
      focus (
       (refine to_e rfl rfl (e_allocN rfl) (.inr ⟨fun _ _ h => h.subl SB.s SB.s, fun _ h => h⟩) (fun b3 _ => ?_))
       all_goals (refine tx_single 2 (by kernel_rfl) (to_e rfl rfl (e_callX rfl (.cons rfl .nil) (fun w' hw' => (lawTable_c d.t hvt _ _ _ w' (hr0.tb.fr (hw'.fr (w0 := w) (S := []) MI.m))).imp (val' := fun y : (Option Addr × Nat) × (Option Addr × Nat) × (Option Addr × Nat) => tbV (slV d.t.ws.length y.1) (slV d.t.ms.length y.2.1) (slV d.t.vs.length y.2.2)) (p' := fun y w2 => SepT w2 [b3, b2, b1] d.t (slV d.t.ws.length y.1) (slV d.t.ms.length y.2.1) (slV d.t.vs.length y.2.2)) id (fun _ => rfl) (fun _ h => h) (fun _ _ _ hp => hp.sepB hw' (by simp)))) (.inr ⟨fun _ _ h => h.subl SB.s SB.s, fun _ h => h⟩) (fun y1 hy1 => ?_))); refine tx_p 7 rfl (by kernel_rfl) (y_build_g (by repeat constructor)) rfl (fun _ _ _ h => h) (fun _ h => h.subl SB.s SB.s) ?_; refine tx_single 9 (by kernel_rfl) (to_e (S' := HG [] []) rfl rfl (e_storeW rfl rfl (by repeat constructor) (by rfl) (by rfl) (seven_ones rfl rfl rfl rfl rfl)) (.inl (by kernel_rfl)) (fun _ _ => ?_))
       all_goals refine tx_done (by kernel_rfl) ?_)
      rotate_right
      focus (
       (refine to_e rfl rfl (e_callX rfl (.cons rfl .nil) (fun w' hw' => (lawTable_c d.t hvt _ _ _ w' (hr0.tb.fr (hw'.fr (w0 := w) (S := []) MI.m))).imp (val' := fun y : (Option Addr × Nat) × (Option Addr × Nat) × (Option Addr × Nat) => tbV (slV d.t.ws.length y.1) (slV d.t.ms.length y.2.1) (slV d.t.vs.length y.2.2)) (p' := fun y w2 => SepT w2 [b2, b1] d.t (slV d.t.ws.length y.1) (slV d.t.ms.length y.2.1) (slV d.t.vs.length y.2.2)) id (fun _ => rfl) (fun _ h => h) (fun _ _ _ hp => hp.sepB hw' (by simp)))) (.inr ⟨fun _ _ h => h.subl SB.s SB.s, fun _ h => h⟩) (fun y1 hy1 => ?_))
       all_goals refine tx_p 7 rfl (by kernel_rfl) (y_build_g (by repeat constructor)) rfl (fun _ _ _ h => h) (fun _ h => h.subl SB.s SB.s) ?_; refine tx_single 8 (by kernel_rfl) (to_e rfl rfl (e_allocN rfl) (.inr ⟨fun _ _ h => h.subl SB.s SB.s, fun _ h => h⟩) (fun b3 _ => ?_)); refine tx_single 9 (by kernel_rfl) (to_e (S' := HG [] []) rfl rfl (e_storeW rfl rfl (by repeat constructor) (by rfl) (by rfl) (seven_ones rfl rfl rfl rfl rfl)) (.inl (by kernel_rfl)) (fun _ _ => ?_))
       all_goals refine tx_done (by kernel_rfl) ?_))
     all_goals (
      exact tk_lay [(b3, dpP d (slV d.t.ws.length y1.1.1) (slV d.t.ms.length y1.1.2.1) (slV d.t.vs.length y1.1.2.2) (.slice none 0 0) (.slice none 0 0)), (b2, dpZ), (b1, dpO d (.slice aw d.t.ws.length cw) (.slice am d.t.ms.length cm) (.slice av d.t.vs.length cv) (.slice al d.ls.length cl) (.slice af d.fs.length cf) 47)] SB.s fun wl2 hl2 => tk_start (y1.1, b3, wl2) (OKT.mk (Hk := [(b3, dpP d (slV d.t.ws.length y1.1.1) (slV d.t.ms.length y1.1.2.1) (slV d.t.vs.length y1.1.2.2) (.slice none 0 0) (.slice none 0 0)), (b2, dpZ), (b1, dpO d (.slice aw d.t.ws.length cw) (.slice am d.t.ms.length cm) (.slice av d.t.vs.length cv) (.slice al d.ls.length cl) (.slice af d.fs.length cf) 47)]) hl2 SB.s (x2 := y1.2) MI.m hy1.1) (.cons rfl (.cons rfl (.cons rfl .nil))) (fun _ h => h.subl SB.s SB.s))
   · rintro ⟨y1, b3, wj⟩ hj1
     dsimp only at hj1 ⊢
     all_goals refine tc_seq fun K2 hK2 => ?_; refine tc_seq fun K3 hK3 => ?_; refine tc_region ?_; refine tl_q (y_assign rfl) rfl ?_; refine tl_nil ?_; ((refine hK3 ?_; try (clear hK3; clear K3)))
     all_goals refine tc_block ?_
     all_goals (
      refine tc_loop (fun p : Nat × OwnB => p.1 ≤ d.ls.length ∧ okE 4 (d.ls.take p.1) p.2) (fun p => [(1, ptr b1), (2, ptr b2), (3, ptr b3), (4, vi p.1)]) (fun _ => [(wj, [b3, b2, b1]), (w, [])]) (fun p => (b3, dpP d (slV d.t.ws.length y1.1) (slV d.t.ms.length y1.2.1) (slV d.t.vs.length y1.2.2) (ouV (d.ls.take p.1).length p.2) (.slice none 0 0)) :: (b2, dpZ) :: (b1, dpO d (.slice aw d.t.ws.length cw) (.slice am d.t.ms.length cm) (.slice av d.t.vs.length cv) (.slice al d.ls.length cl) (.slice af d.fs.length cf) 47) :: slE 80 lkE (d.ls.take p.1) p.2) (fun p => d.ls.length - p.1) ?_ ?_
      · exact tk_start (0, none) ⟨Nat.zero_le _, rfl⟩ (.cons rfl (.cons rfl (.cons rfl (.cons rfl .nil)))) (fun _ h => by dsimp only; rw [slE_none]; exact h.subl SB.s SB.s)
      · rintro ⟨k, oo⟩ ⟨hk, hok⟩
        dsimp only at hk hok ⊢
        have hkl : (d.ls.take k).length ≤ k := by rw [List.length_take]; omega
        all_goals refine tc_seq fun K4 hK4 => ?_; refine tc_seq fun K5 hK5 => ?_; refine tc_region ?_; refine tl_q (y_move rfl) rfl ?_; refine tl_q (y_field rfl) rfl ?_; refine tl_q (y_load1 rfl (by repeat constructor) (by rfl)) rfl ?_; refine tl_q (y_len rfl) rfl ?_; refine tl_q (y_lss rfl rfl) rfl ?_; refine tl_nil ?_; ((refine hK5 ?_; try (clear hK5; clear K5)))
        all_goals (
         refine tc_cond rfl (fun hc => ?_) (fun hc => ?_)
         · try simp only [qn1, qn2, qn3, qn4, qn5, qn6, qn7, qn8] at hc
           all_goals refine tc_skip ?_; ((refine hK4 ?_; try (clear hK4; clear K4)))
           all_goals refine tc_seq fun K6 hK6 => ?_; refine tc_block ?_; refine tc_drawS ((b3, dpP d (slV d.t.ws.length y1.1) (slV d.t.ms.length y1.2.1) (slV d.t.vs.length y1.2.2) (ouV (d.ls.take k).length oo) (.slice none 0 0)) :: (b2, dpZ) :: (b1, dpO d (.slice aw d.t.ws.length cw) (.slice am d.t.ms.length cm) (.slice av d.t.vs.length cv) (.slice al d.ls.length cl) (.slice af d.fs.length cf) 47) :: []) (by kernel_rfl) ?_; refine tx_p 0 rfl (by kernel_rfl) (y_field rfl) rfl (fun _ _ _ h => h) (fun _ h => h.subl SB.s SB.s) ?_; refine tx_qS 1 rfl (by kernel_rfl) (y_load1 rfl (by repeat constructor) (by rfl)) rfl (fun _ _ _ h => h) (fun _ h => h.subl SB.s SB.s) ?_; refine tx_p 2 rfl (by kernel_rfl) (y_field rfl) rfl (fun _ _ _ h => h) (fun _ h => h.subl SB.s SB.s) ?_; refine tx_qS 3 rfl (by kernel_rfl) (y_load1 rfl (by repeat constructor) (by rfl)) rfl (fun _ _ _ h => h) (fun _ h => h.subl SB.s SB.s) ?_; refine tx_p 4 rfl (by kernel_rfl) (y_move rfl) rfl (fun _ _ _ h => h) (fun _ h => h.subl SB.s SB.s) ?_; refine tx_p 5 rfl (by kernel_rfl) (y_index rfl rfl (by omega) (hadl (by omega))) rfl (fun _ _ _ h => h) (fun _ h => h.subl SB.s SB.s) ?_; refine tx_p 6 rfl (by kernel_rfl) (y_field rfl) rfl (fun _ _ _ h => h) (fun _ h => h.subl SB.s SB.s) ?_; ((refine tx_qS 7 rfl (by kernel_rfl) (y_load1o (v := vi (d.ls.getD k lk0).1) rfl (fun w' hw' => by rw [show Int.toNat (k : Int) * 4 = k * 4 from by omega]; exact (hcl w' [] (hw'.fr (w0 := w) (S := []) MI.m) (by simp) k (by omega)).get 0 _ rfl)) rfl (fun _ _ _ h => h) (fun _ h => h.subl SB.s SB.s) ?_))
           all_goals refine tx_p 8 rfl (by kernel_rfl) (y_field rfl) rfl (fun _ _ _ h => h) (fun _ h => h.subl SB.s SB.s) ?_; refine tx_qS 9 rfl (by kernel_rfl) (y_load1 rfl (by repeat constructor) (by rfl)) rfl (fun _ _ _ h => h) (fun _ h => h.subl SB.s SB.s) ?_; refine tx_p 10 rfl (by kernel_rfl) (y_move rfl) rfl (fun _ _ _ h => h) (fun _ h => h.subl SB.s SB.s) ?_; refine tx_p 11 rfl (by kernel_rfl) (y_index rfl rfl (by omega) (hadl (by omega))) rfl (fun _ _ _ h => h) (fun _ h => h.subl SB.s SB.s) ?_; refine tx_p 12 rfl (by kernel_rfl) (y_field rfl) rfl (fun _ _ _ h => h) (fun _ h => h.subl SB.s SB.s) ?_; ((refine tx_qS 13 rfl (by kernel_rfl) (y_load1o (v := vi (d.ls.getD k lk0).2.1) rfl (fun w' hw' => by rw [show Int.toNat (k : Int) * 4 = k * 4 from by omega]; exact (hcl w' [] (hw'.fr (w0 := w) (S := []) MI.m) (by simp) k (by omega)).get 1 _ rfl)) rfl (fun _ _ _ h => h) (fun _ h => h.subl SB.s SB.s) ?_))
           all_goals refine tx_p 14 rfl (by kernel_rfl) (y_field rfl) rfl (fun _ _ _ h => h) (fun _ h => h.subl SB.s SB.s) ?_; refine tx_qS 15 rfl (by kernel_rfl) (y_load1 rfl (by repeat constructor) (by rfl)) rfl (fun _ _ _ h => h) (fun _ h => h.subl SB.s SB.s) ?_; refine tx_p 16 rfl (by kernel_rfl) (y_move rfl) rfl (fun _ _ _ h => h) (fun _ h => h.subl SB.s SB.s) ?_; refine tx_p 17 rfl (by kernel_rfl) (y_index rfl rfl (by omega) (hadl (by omega))) rfl (fun _ _ _ h => h) (fun _ h => h.subl SB.s SB.s) ?_; refine tx_p 18 rfl (by kernel_rfl) (y_field rfl) rfl (fun _ _ _ h => h) (fun _ h => h.subl SB.s SB.s) ?_; ((refine tx_qS 19 rfl (by kernel_rfl) (y_loadNo (n := 2) (vs := [vi (d.ls.getD k lk0).2.2.1, vi (d.ls.getD k lk0).2.2.2]) rfl (fun w' hw' => by rw [show Int.toNat (k : Int) * 4 = k * 4 from by omega]; have hq := hcl w' [] (hw'.fr (w0 := w) (S := []) MI.m) (by simp) k (by omega); exact .cons (hq.get 2 _ rfl) (.cons (hq.get 3 _ rfl) .nil))) rfl (fun _ _ _ h => h) (fun _ h => h.subl SB.s SB.s) ?_))
           all_goals refine tx_single 20 (by kernel_rfl) (to_e rfl rfl (e_callV rfl (.cons rfl .nil) (fun w' _ => lto_c _ _ w')) (.inr ⟨fun _ _ h => h.subl SB.s SB.s, fun _ h => h⟩) (fun _ _ => ?_)); refine tx_p 21 rfl (by kernel_rfl) (y_build_g (by repeat constructor)) rfl (fun _ _ _ h => h) (fun _ h => h.subl SB.s SB.s) ?_; refine tx_single 22 (by kernel_rfl) (to_e rfl rfl (e_bsliceG rfl (.agg rfl rfl .nil) rfl rfl) (.inr ⟨fun _ _ h => h.subl SB.s SB.s, fun _ h => h⟩) (fun b5 _ => ?_)); ((refine tx_single 23 (by kernel_rfl) (to_e rfl rfl (e_appendE (enc := lkE) (xs := d.ls.take k) (ys := [d.ls.getD k lk0]) lkE_len lkE_one rfl rfl rfl hok (fun _ => by repeat constructor) (fun w' hw' => RdS.own0 lkE_len hw' (by repeat constructor)) (by simp only [List.length_cons, List.length_nil]; omega) rfl) (.inr ⟨fun _ _ h => h.subl SB.s SB.s, fun _ h => h⟩) (fun oo' hok' => ?_))))
           all_goals refine tx_p 24 rfl (by kernel_rfl) (y_field rfl) rfl (fun _ _ _ h => h) (fun _ h => h.subl SB.s SB.s) ?_; refine tx_single 25 (by kernel_rfl) (to_e (S' := HG [] []) rfl rfl (e_store1 rfl rfl (by repeat constructor) (by repeat constructor) (by rfl) (by rfl)) (.inl (by kernel_rfl)) (fun _ _ => ?_)); refine tx_done (by kernel_rfl) ?_; ((refine hK6 ?_; try (clear hK6; clear K6)))
           all_goals refine tc_region ?_; refine tl_q (y_move rfl) rfl ?_; refine tl_q (y_add rfl rfl (by omega)) rfl ?_; refine tl_q (y_assign rfl) rfl ?_; refine tl_nil ?_
           all_goals (
            have hs := takeG_succ (d := lk0) (l := d.ls) (n := k) (by omega)
            exact tk_round (k + 1, oo') ⟨by dsimp only; omega, by dsimp only; rw [hs]; exact hok'⟩ (by dsimp only; omega) (.cons rfl (.cons rfl (.cons rfl (.cons rfl .nil)))) (fun _ h => by dsimp only; rw [hs]; exact h.subl SB.s SB.s))
         · try simp only [qn1, qn2, qn3, qn4, qn5, qn6, qn7, qn8] at hc
           all_goals refine tc_exit ?_; ((refine hK2 ?_; try (clear hK2; clear K2)))
           all_goals refine tc_seq fun K7 hK7 => ?_; refine tc_seq fun K8 hK8 => ?_; refine tc_region ?_; refine tl_q (y_assign rfl) rfl ?_; refine tl_nil ?_; ((refine hK8 ?_; try (clear hK8; clear K8)))
           all_goals refine tc_block ?_
           all_goals (
            refine tc_loop (fun p : Nat × OwnB => p.1 ≤ d.fs.length ∧ okE 6 (d.fs.take p.1) p.2) (fun p => [(1, ptr b1), (2, ptr b2), (3, ptr b3), (5, vi p.1)]) (fun _ => [(wj, [b3, b2, b1]), (w, [])]) (fun p => (b3, dpP d (slV d.t.ws.length y1.1) (slV d.t.ms.length y1.2.1) (slV d.t.vs.length y1.2.2) (ouV (d.ls.take k).length oo) (ouV (d.fs.take p.1).length p.2)) :: (b2, dpZ) :: (b1, dpO d (.slice aw d.t.ws.length cw) (.slice am d.t.ms.length cm) (.slice av d.t.vs.length cv) (.slice al d.ls.length cl) (.slice af d.fs.length cf) 47) :: (slE 82 fcE (d.fs.take p.1) p.2 ++ slE 80 lkE (d.ls.take k) oo)) (fun p => d.fs.length - p.1) ?_ ?_
            · exact tk_start (0, none) ⟨Nat.zero_le _, rfl⟩ (.cons rfl (.cons rfl (.cons rfl (.cons rfl .nil)))) (fun _ h => by dsimp only; rw [slE_none]; exact h.subl SB.s SB.s)
            · rintro ⟨j, oo2⟩ ⟨hj, hok2⟩
              dsimp only at hj hok2 ⊢
              have hjl : (d.fs.take j).length ≤ j := by rw [List.length_take]; omega
              all_goals refine tc_seq fun K9 hK9 => ?_; refine tc_seq fun K10 hK10 => ?_; refine tc_region ?_; refine tl_q (y_move rfl) rfl ?_; refine tl_q (y_field rfl) rfl ?_; refine tl_q (y_load1 rfl (by repeat constructor) (by rfl)) rfl ?_; refine tl_q (y_len rfl) rfl ?_; refine tl_q (y_lss rfl rfl) rfl ?_; refine tl_nil ?_; ((refine hK10 ?_; try (clear hK10; clear K10)))
              all_goals (
               refine tc_cond rfl (fun hc => ?_) (fun hc => ?_)
               · try simp only [qn1, qn2, qn3, qn4, qn5, qn6, qn7, qn8] at hc
                 all_goals refine tc_skip ?_; ((refine hK9 ?_; try (clear hK9; clear K9)))
                 all_goals refine tc_seq fun K11 hK11 => ?_; refine tc_block ?_; refine tc_seq fun K12 hK12 => ?_; refine tc_region ?_; refine tl_q (y_field rfl) rfl ?_; refine tl_q (y_load1 rfl (by repeat constructor) (by rfl)) rfl ?_; refine tl_q (y_move rfl) rfl ?_; refine tl_q (y_index rfl rfl (by omega) (hadf (by omega))) rfl ?_; ((refine tl_q (y_loadNo (n := 6) (vs := [vi (d.fs.getD j fct0).p, vi (d.fs.getD j fct0).s, vi (d.fs.getD j fct0).wl, vi (d.fs.getD j fct0).wh, vi (d.fs.getD j fct0).ml, vi (d.fs.getD j fct0).mh]) rfl (fun w' hw' => by rw [show Int.toNat (j : Int) * 6 = j * 6 from by omega]; exact hcf w' [] (hw'.fr (w0 := w) (S := []) MI.m) (by simp) j (by omega))) rfl ?_))
                 all_goals refine tl_e (e_allocN rfl) rfl (fun b6 _ => ?_); refine tl_e (e_storeW rfl rfl (by repeat constructor) (by rfl) (by rfl) (by simp [Value.oneCell'])) rfl (fun _ _ => ?_); refine tl_nil ?_; ((refine hK12 ?_; try (clear hK12; clear K12)))
                 all_goals refine tc_drawS ((b6, .cells #[vi (d.fs.getD j fct0).p, vi (d.fs.getD j fct0).s, vi (d.fs.getD j fct0).wl, vi (d.fs.getD j fct0).wh, vi (d.fs.getD j fct0).ml, vi (d.fs.getD j fct0).mh] 52 (0, 0)) :: (b3, dpP d (slV d.t.ws.length y1.1) (slV d.t.ms.length y1.2.1) (slV d.t.vs.length y1.2.2) (ouV (d.ls.take k).length oo) (ouV (d.fs.take j).length oo2)) :: (b2, dpZ) :: (b1, dpO d (.slice aw d.t.ws.length cw) (.slice am d.t.ms.length cm) (.slice av d.t.vs.length cv) (.slice al d.ls.length cl) (.slice af d.fs.length cf) 47) :: []) (by kernel_rfl) ?_; refine tx_p 0 rfl (by kernel_rfl) (y_field rfl) rfl (fun _ _ _ h => h) (fun _ h => h.subl SB.s SB.s) ?_; refine tx_qS 1 rfl (by kernel_rfl) (y_load1 rfl (by repeat constructor) (by rfl)) rfl (fun _ _ _ h => h) (fun _ h => h.subl SB.s SB.s) ?_; refine tx_p 2 rfl (by kernel_rfl) (y_field rfl) rfl (fun _ _ _ h => h) (fun _ h => h.subl SB.s SB.s) ?_; refine tx_qS 3 rfl (by kernel_rfl) (y_load1 rfl (by repeat constructor) (by rfl)) rfl (fun _ _ _ h => h) (fun _ h => h.subl SB.s SB.s) ?_; refine tx_p 4 rfl (by kernel_rfl) (y_field rfl) rfl (fun _ _ _ h => h) (fun _ h => h.subl SB.s SB.s) ?_; refine tx_qS 5 rfl (by kernel_rfl) (y_load1 rfl (by repeat constructor) (by rfl)) rfl (fun _ _ _ h => h) (fun _ h => h.subl SB.s SB.s) ?_; refine tx_p 6 rfl (by kernel_rfl) (y_field rfl) rfl (fun _ _ _ h => h) (fun _ h => h.subl SB.s SB.s) ?_; ((refine tx_qS 7 rfl (by kernel_rfl) (y_loadN rfl (by repeat constructor) (by (repeat (first | exact .nil | apply CA.cons rfl)); done)) rfl (fun _ _ _ h => h) (fun _ h => h.subl SB.s SB.s) ?_))
                 all_goals refine tx_p 9 rfl (by kernel_rfl) (y_field rfl) rfl (fun _ _ _ h => h) (fun _ h => h.subl SB.s SB.s) ?_; ((refine tx_qS 10 rfl (by kernel_rfl) (y_loadN rfl (by repeat constructor) (by (repeat (first | exact .nil | apply CA.cons rfl)); done)) rfl (fun _ _ _ h => h) (fun _ h => h.subl SB.s SB.s) ?_))
                 all_goals refine tx_single 8 (by kernel_rfl) (to_e rfl rfl (e_callV rfl (.cons rfl .nil) (fun w' _ => lto_c _ _ w')) (.inr ⟨fun _ _ h => h.subl SB.s SB.s, fun _ h => h⟩) (fun _ _ => ?_)); refine tx_single 11 (by kernel_rfl) (to_e rfl rfl (e_callV rfl (.cons rfl .nil) (fun w' _ => lto_c _ _ w')) (.inr ⟨fun _ _ h => h.subl SB.s SB.s, fun _ h => h⟩) (fun _ _ => ?_)); refine tx_p 12 rfl (by kernel_rfl) (y_build_g (by repeat constructor)) rfl (fun _ _ _ h => h) (fun _ h => h.subl SB.s SB.s) ?_; refine tx_single 13 (by kernel_rfl) (to_e rfl rfl (e_bsliceG rfl (.agg rfl rfl .nil) rfl rfl) (.inr ⟨fun _ _ h => h.subl SB.s SB.s, fun _ h => h⟩) (fun b7 _ => ?_)); ((refine tx_single 14 (by kernel_rfl) (to_e rfl rfl (e_appendE (enc := fcE) (xs := d.fs.take j) (ys := [d.fs.getD j fct0]) fcE_len fcE_one rfl rfl rfl hok2 (fun _ => by repeat constructor) (fun w' hw' => RdS.own0 fcE_len hw' (by repeat constructor)) (by simp only [List.length_cons, List.length_nil]; omega) rfl) (.inr ⟨fun _ _ h => h.subl SB.s SB.s, fun _ h => h⟩) (fun oo' hok' => ?_))))
                 all_goals refine tx_p 15 rfl (by kernel_rfl) (y_field rfl) rfl (fun _ _ _ h => h) (fun _ h => h.subl SB.s SB.s) ?_; refine tx_single 16 (by kernel_rfl) (to_e (S' := HG [] []) rfl rfl (e_store1 rfl rfl (by repeat constructor) (by repeat constructor) (by rfl) (by rfl)) (.inl (by kernel_rfl)) (fun _ _ => ?_)); refine tx_done (by kernel_rfl) ?_; ((refine hK11 ?_; try (clear hK11; clear K11)))
                 all_goals refine tc_region ?_; refine tl_q (y_move rfl) rfl ?_; refine tl_q (y_add rfl rfl (by omega)) rfl ?_; refine tl_q (y_assign rfl) rfl ?_; refine tl_nil ?_
                 all_goals (
                  have hs := takeG_succ (d := fct0) (l := d.fs) (n := j) (by omega)
                  exact tk_round (j + 1, oo') ⟨by dsimp only; omega, by dsimp only; rw [hs]; exact hok'⟩ (by dsimp only; omega) (.cons rfl (.cons rfl (.cons rfl (.cons rfl .nil)))) (fun _ h => by dsimp only; rw [hs]; exact h.subl SB.s SB.s))
               · try simp only [qn1, qn2, qn3, qn4, qn5, qn6, qn7, qn8] at hc
                 all_goals refine tc_exit ?_; ((refine hK7 ?_; try (clear hK7; clear K7)))
                 all_goals refine tc_seq fun K13 hK13 => ?_; refine tc_region ?_; refine tl_q (y_loadW rfl (by repeat constructor) (by rfl)) rfl ?_; refine tl_e (e_storeW rfl rfl (by repeat constructor) (by rfl) (by rfl) (seven_ones rfl rfl rfl rfl rfl)) rfl (fun _ _ => ?_); refine tl_nil ?_; ((refine hK13 ?_; try (clear hK13; clear K13)))
                 all_goals refine tc_ret ?_; (repeat (first | refine tk_then_ret ?_))
                 all_goals (refine tk_ret rfl rfl (.cons (.agg inferInstance rfl (by repeat constructor) (by rfl)) .nil) ?_)
                 all_goals (
                  have e1 : d.ls.take k = d.ls := List.take_of_length_le (by omega)
                  have e2 : d.fs.take j = d.fs := List.take_of_length_le (by omega)
                  refine fun w' hw' => ?_
                  have h1 := RdS.ofO lkE_len hok hw' (by repeat constructor)
                  have h2 := RdS.ofO fcE_len hok2 hw' (by repeat constructor)
                  have h3 := hj1.rd (hw'.fr (w0 := wj) (S := [b3, b2, b1]) MI.m)
                  rw [e1] at h1 ⊢
                  rw [e2] at h2 ⊢
                  exact ⟨(y1, ouA oo, ouA oo2), rfl, hw'.fr (w0 := w) (S := []) MI.m, h3, h1, h2⟩))))))
end Go.Sp
/-
  Package table: all, of numbers and of lists; what is valid.
-/
namespace Go.Sp
open Go Go.Proofs
theorem tindexIn_c (g : FuncId) [GoFn Tryz.prog g] (first cap : Array Value) (p : Int → Bool) (xs : List Int) (hx : (xs.length : Int) ≤ 9223372036854775807) (sl : Value) (w : World) (hr : RdI w sl xs) (ht : TestsG Tryz.prog vi g first cap p w) :
    CnV Tryz.prog 125 #[sl, .func (.func g) first cap] w (vi (idxG xs p)) := by
  obtain ⟨ad, cp, b0, o, rfl, had, hcell⟩ := hr.open
  refine cnv (vs := [_, _]) Tryz.func125 rfl rfl ?_
  all_goals refine tc_seq fun K1 hK1 => ?_; refine tc_region ?_; refine tl_q (y_assign rfl) rfl ?_; refine tl_nil ?_; ((refine hK1 ?_; try (clear hK1; clear K1)))
  all_goals refine tc_seq fun K2 hK2 => ?_; refine tc_seq fun K3 hK3 => ?_; refine tc_region ?_; refine tl_q (y_move rfl) rfl ?_; refine tl_q (y_len rfl) rfl ?_; refine tl_q (y_move rfl) rfl ?_; refine tl_nil ?_; ((refine hK3 ?_; try (clear hK3; clear K3)))
  all_goals refine tc_block ?_
  all_goals (
   refine tc_loop (fun k : Nat => k ≤ xs.length ∧ ∀ j, j < k → p (xs.getD j 0) = false) (fun k => [(0, .slice ad xs.length cp), (1, .func (.func g) first cap), (7, vi xs.length), (8, vi k)]) (fun _ => [(w, [])]) (fun _ => []) (fun k => xs.length - k) ?_ ?_
   · exact tk_start 0 ⟨Nat.zero_le _, fun j hj => absurd hj (Nat.not_lt_zero j)⟩ (.cons rfl (.cons rfl (.cons rfl (.cons rfl .nil)))) (fun _ h => h)
   · rintro k ⟨hk, hj⟩
     all_goals refine tc_seq fun K4 hK4 => ?_; refine tc_region ?_; refine tl_q (y_lss rfl rfl) rfl ?_; refine tl_nil ?_; ((refine hK4 ?_; try (clear hK4; clear K4)))
     all_goals refine tc_seq fun K5 hK5 => ?_
     all_goals (
      refine tc_cond rfl (fun hc => ?_) (fun hc => ?_)
      · try simp only [qn1, qn2, qn3, qn4, qn5, qn6, qn7, qn8] at hc
        all_goals refine tc_skip ?_; ((refine hK5 ?_; try (clear hK5; clear K5)))
        all_goals refine tc_seq fun K6 hK6 => ?_; refine tc_block ?_; refine tc_seq fun K7 hK7 => ?_; refine tc_region ?_; refine tl_q (y_move rfl) rfl ?_; refine tl_q (y_assign rfl) rfl ?_; refine tl_nil ?_; ((refine hK7 ?_; try (clear hK7; clear K7)))
        all_goals refine tc_seq fun K8 hK8 => ?_
        have had' := had (by omega)
        all_goals refine tc_region ?_; refine tl_q (y_move rfl) rfl ?_; refine tl_q (y_move rfl) rfl ?_; refine tl_q (y_move rfl) rfl ?_; refine tl_q (y_index rfl rfl (by omega) had') rfl ?_; ((refine tl_q (y_load1o (v := vi (xs.getD k 0)) rfl (fun w' hw' => by rw [show Int.toNat (k : Int) * 1 = k from by omega]; exact hcell w' (hw'.fr (by simp)) k (by omega))) rfl ?_))
        all_goals refine tl_e (e_callVf rfl rfl (.cons rfl .nil) (fun w' hw' => ht (xs.getD k 0) w' (hw'.fr (by simp)))) rfl (fun _ _ => ?_); refine tl_nil ?_; ((refine hK8 ?_; try (clear hK8; clear K8)))
        all_goals (
         refine tc_cond rfl (fun hc => ?_) (fun hc => ?_)
         · all_goals (skip)
           all_goals refine tc_seq fun K9 hK9 => ?_; refine tc_region ?_; refine tl_q (y_move rfl) rfl ?_; refine tl_q (y_assign rfl) rfl ?_; refine tl_nil ?_; ((refine hK9 ?_; try (clear hK9; clear K9)))
           all_goals refine tc_ret ?_; (repeat (first | refine tk_then_ret ?_ | refine tk_block_ret ?_))
           all_goals (refine tk_ret rfl rfl (.cons (.tmp rfl) .nil) ?_)
           all_goals (
            first | exact fun w' hw' => ⟨by rw [idxG_hit (k := k) (by omega) (by simpa using hc) hj]; rfl, hw'.fr (by simp)⟩ | exact fun w' hw' => ⟨by rw [idxG_miss (d := 0) (fun j hjj => hj j (by omega))]; rfl, hw'.fr (by simp)⟩)
         · all_goals (skip)
           all_goals refine tc_skip ?_; ((refine hK6 ?_; try (clear hK6; clear K6)))
           all_goals refine tc_region ?_; refine tl_q (y_add rfl rfl (by omega)) rfl ?_; refine tl_q (y_move rfl) rfl ?_; refine tl_nil ?_
           all_goals (
            exact tk_round (k + 1) ⟨by omega, fun j hj' => by rcases Nat.lt_succ_iff_lt_or_eq.1 hj' with h | rfl; exact hj j h; simpa using hc⟩ (by omega) (.cons rfl (.cons rfl (.cons rfl (.cons rfl .nil)))) (fun _ h => h)))
      · try simp only [qn1, qn2, qn3, qn4, qn5, qn6, qn7, qn8] at hc
        all_goals refine tc_exit ?_; ((refine hK2 ?_; try (clear hK2; clear K2)))
        all_goals refine tc_seq fun K10 hK10 => ?_; refine tc_region ?_; refine tl_q (y_assign rfl) rfl ?_; refine tl_nil ?_; ((refine hK10 ?_; try (clear hK10; clear K10)))
        all_goals refine tc_ret ?_; (repeat (first | refine tk_then_ret ?_))
        all_goals (refine tk_ret rfl rfl (.cons (.tmp rfl) .nil) ?_)
        all_goals (
         first | exact fun w' hw' => ⟨by rw [idxG_hit (k := k) (by omega) (by simpa using hc) hj]; rfl, hw'.fr (by simp)⟩ | exact fun w' hw' => ⟨by rw [idxG_miss (d := 0) (fun j hjj => hj j (by omega))]; rfl, hw'.fr (by simp)⟩)))
theorem tcontainsFuncIn_c (g : FuncId) [GoFn Tryz.prog g] (first cap : Array Value) (p : Int → Bool) (xs : List Int) (hx : (xs.length : Int) ≤ 9223372036854775807) (sl : Value) (w : World) (hr : RdI w sl xs) (ht : TestsG Tryz.prog vi g first cap p w) :
    CnV Tryz.prog 114 #[sl, .func (.func g) first cap] w (.bool (xs.any p)) := by
  refine cnv (vs := [_, _]) Tryz.func114 rfl rfl ?_
  all_goals refine tc_seq fun K1 hK1 => ?_; refine tc_region ?_; refine tl_q (y_assign rfl) rfl ?_; refine tl_nil ?_; ((refine hK1 ?_; try (clear hK1; clear K1)))
  all_goals refine tc_seq fun K2 hK2 => ?_; refine tc_region ?_; refine tl_q (y_move rfl) rfl ?_; refine tl_q (y_move rfl) rfl ?_; refine tl_e (e_callV rfl (.cons rfl (.cons rfl .nil)) (fun w' hw' => tindexIn_c g first cap p xs hx _ w' (hr.fr (hw'.fr (by simp))) (ht.fr (hw'.fr (by simp))))) rfl (fun _ _ => ?_); refine tl_q (y_geq rfl rfl) rfl ?_; refine tl_q (y_assign rfl) rfl ?_; refine tl_nil ?_; ((refine hK2 ?_; try (clear hK2; clear K2)))
  all_goals refine tc_ret ?_; (repeat (first | refine tk_then_ret ?_))
  all_goals (refine tk_ret rfl rfl (.cons (.tmp rfl) .nil) ?_)
  all_goals (
   exact fun w' hw' => ⟨by rw [← idxG_any]; rfl, hw'.fr (by simp)⟩)
theorem tallIn1_c (g : FuncId) [GoFn Tryz.prog g] (first cap : Array Value) (p : Int → Bool) (x : Int) (b : Nat) (w : World) (hb : w.cell? ⟨b, 0, none⟩ = some (.func (.func g) first cap)) (ht : TestsG Tryz.prog vi g first cap p w) :
    CnV Tryz.prog 115 #[vi x, .pointer (some ⟨b, 0, none⟩)] w (.bool (!(p x))) := by
  refine cnv (vs := [_, _]) Tryz.func115 rfl rfl ?_
  all_goals refine tc_seq fun K1 hK1 => ?_; refine tc_region ?_; refine tl_q (y_assign rfl) rfl ?_; refine tl_nil ?_; ((refine hK1 ?_; try (clear hK1; clear K1)))
  all_goals refine tc_seq fun K2 hK2 => ?_; refine tc_region ?_; refine tl_q (y_load1o rfl (fun w' hw' => (hw'.fr (S := []) (w0 := w) (by simp)).cell (by simp) hb)) rfl ?_; refine tl_q (y_move rfl) rfl ?_; refine tl_e (e_callVf rfl rfl (.cons rfl .nil) (fun w' hw' => ht x w' (hw'.fr (by simp)))) rfl (fun _ _ => ?_); refine tl_q (y_not rfl) rfl ?_; refine tl_q (y_assign rfl) rfl ?_; refine tl_nil ?_; ((refine hK2 ?_; try (clear hK2; clear K2)))
  all_goals refine tc_ret ?_; (repeat (first | refine tk_then_ret ?_))
  all_goals (refine tk_ret rfl rfl (.cons (.tmp rfl) .nil) ?_)
  all_goals (
   exact fun w' hw' => ⟨rfl, hw'.fr (by simp)⟩)
theorem tallIn_c (g : FuncId) [GoFn Tryz.prog g] (first cap : Array Value) (p : Int → Bool) (xs : List Int) (hx : (xs.length : Int) ≤ 9223372036854775807) (sl : Value) (w : World) (hr : RdI w sl xs) (ht : TestsG Tryz.prog vi g first cap p w) :
    CnV Tryz.prog 93 #[sl, .func (.func g) first cap] w (.bool (xs.all p)) := by
  refine cnv (vs := [_, _]) Tryz.func93 rfl rfl ?_
  all_goals refine tc_seq fun K1 hK1 => ?_; refine tc_region ?_; refine tl_e (e_box rfl rfl rfl) rfl (fun b _ => ?_); refine tl_q (y_assign rfl) rfl ?_; refine tl_nil ?_; ((refine hK1 ?_; try (clear hK1; clear K1)))
  all_goals refine tc_seq fun K2 hK2 => ?_; refine tc_region ?_; refine tl_q (y_move rfl) rfl ?_; refine tl_q (y_fn .nil (.cons rfl .nil)) rfl ?_; refine tl_e (e_callV rfl (.cons rfl (.cons rfl .nil)) (fun w' hw' => tcontainsFuncIn_c 115 #[] #[.pointer (some ⟨b, 0, none⟩)] (fun x => !(p x)) xs hx _ w' (hr.fr (hw'.fr (by simp))) (fun x w2 f => by simpa using tallIn1_c g first cap p x b w2 (f.cell (by simp) (cellAt_cell? (hw'.heap _ (HM.mem (by repeat constructor))) rfl)) ((ht.fr (hw'.fr (by simp))).fr f)))) rfl (fun _ _ => ?_); refine tl_q (y_not rfl) rfl ?_; refine tl_q (y_assign rfl) rfl ?_; refine tl_nil ?_; ((refine hK2 ?_; try (clear hK2; clear K2)))
  all_goals refine tc_ret ?_; (repeat (first | refine tk_then_ret ?_))
  all_goals (refine tk_ret rfl rfl (.cons (.tmp rfl) .nil) ?_)
  all_goals (
   exact fun w' hw' => ⟨by simp [outV, List.all_eq_not_any_not], hw'.fr (by simp)⟩)
def tTestsN (P : Program) (us : List Sv) (g : FuncId) (first cap : Array Value) (p : Nat → Bool) (w : World) : Prop := ∀ (i : Nat) (w' : World), i < us.length → Fr [] w w' → CnV P g (first ++ #[(us.getD i sv0).1] ++ cap) w' (.bool (p i))
theorem tTestsN.fr {P : Program} {us : List Sv} {g : FuncId} {first cap : Array Value} {p : Nat → Bool} {w w1 : World} (h : tTestsN P us g first cap p w) (f : Fr [] w w1) : tTestsN P us g first cap p w1 := fun i w' hi f' => h i w' hi (f.trans f' (by simp))
theorem trangeD {n k : Nat} (h : k < n) : (List.range n).getD k 0 = k := by
  rw [List.getD_eq_getElem?_getD, List.getElem?_range h]; rfl
theorem tindexSl_c (g : FuncId) [GoFn Tryz.prog g] (first cap : Array Value) (p : Nat → Bool) (us : List Sv) (hx : (us.length : Int) ≤ 9223372036854775807) (sl : Value) (w : World) (hr : RdS 1 svE w sl us) (ht : tTestsN Tryz.prog us g first cap p w) :
    CnV Tryz.prog 116 #[sl, .func (.func g) first cap] w (vi (idxG (List.range us.length) p)) := by
  obtain ⟨ad, cp, b0, o, rfl, had, hcell⟩ := hr.open svE_len sv0
  refine cnv (vs := [_, _]) Tryz.func116 rfl rfl ?_
  all_goals refine tc_seq fun K1 hK1 => ?_; refine tc_region ?_; refine tl_q (y_assign rfl) rfl ?_; refine tl_nil ?_; ((refine hK1 ?_; try (clear hK1; clear K1)))
  all_goals refine tc_seq fun K2 hK2 => ?_; refine tc_seq fun K3 hK3 => ?_; refine tc_region ?_; refine tl_q (y_move rfl) rfl ?_; refine tl_q (y_len rfl) rfl ?_; refine tl_q (y_move rfl) rfl ?_; refine tl_nil ?_; ((refine hK3 ?_; try (clear hK3; clear K3)))
  all_goals refine tc_block ?_
  all_goals (
   refine tc_loop (fun k : Nat => k ≤ us.length ∧ ∀ j, j < k → p j = false) (fun k => [(0, .slice ad us.length cp), (1, .func (.func g) first cap), (7, vi us.length), (8, vi k)]) (fun _ => [(w, [])]) (fun _ => []) (fun k => us.length - k) ?_ ?_
   · exact tk_start 0 ⟨Nat.zero_le _, fun j hj => absurd hj (Nat.not_lt_zero j)⟩ (.cons rfl (.cons rfl (.cons rfl (.cons rfl .nil)))) (fun _ h => h)
   · rintro k ⟨hk, hj⟩
     all_goals refine tc_seq fun K4 hK4 => ?_; refine tc_region ?_; refine tl_q (y_lss rfl rfl) rfl ?_; refine tl_nil ?_; ((refine hK4 ?_; try (clear hK4; clear K4)))
     all_goals refine tc_seq fun K5 hK5 => ?_
     all_goals (
      refine tc_cond rfl (fun hc => ?_) (fun hc => ?_)
      · try simp only [qn1, qn2, qn3, qn4, qn5, qn6, qn7, qn8] at hc
        all_goals refine tc_skip ?_; ((refine hK5 ?_; try (clear hK5; clear K5)))
        all_goals refine tc_seq fun K6 hK6 => ?_; refine tc_block ?_; refine tc_seq fun K7 hK7 => ?_; refine tc_region ?_; refine tl_q (y_move rfl) rfl ?_; refine tl_q (y_assign rfl) rfl ?_; refine tl_nil ?_; ((refine hK7 ?_; try (clear hK7; clear K7)))
        all_goals refine tc_seq fun K8 hK8 => ?_
        have had' := had (by omega)
        all_goals refine tc_region ?_; refine tl_q (y_move rfl) rfl ?_; refine tl_q (y_move rfl) rfl ?_; refine tl_q (y_move rfl) rfl ?_; refine tl_q (y_index rfl rfl (by omega) had') rfl ?_; ((refine tl_q (y_load1o (v := (us.getD k sv0).1) rfl (fun w' hw' => by have hx := (hcell w' [] (hw'.fr (by simp)) (by simp) k (by omega)).get 0 _ rfl; rw [show Int.toNat (k : Int) = k from by omega]; exact hx)) rfl ?_))
        all_goals refine tl_e (e_callVf rfl rfl (.cons rfl .nil) (fun w' hw' => ht k w' (by omega) (hw'.fr (by simp)))) rfl (fun _ _ => ?_); refine tl_nil ?_; ((refine hK8 ?_; try (clear hK8; clear K8)))
        all_goals (
         refine tc_cond rfl (fun hc => ?_) (fun hc => ?_)
         · all_goals (skip)
           all_goals refine tc_seq fun K9 hK9 => ?_; refine tc_region ?_; refine tl_q (y_move rfl) rfl ?_; refine tl_q (y_assign rfl) rfl ?_; refine tl_nil ?_; ((refine hK9 ?_; try (clear hK9; clear K9)))
           all_goals refine tc_ret ?_; (repeat (first | refine tk_then_ret ?_ | refine tk_block_ret ?_))
           all_goals (refine tk_ret rfl rfl (.cons (.tmp rfl) .nil) ?_)
           all_goals (
            first | exact fun w' hw' => ⟨by rw [idxG_hit (d := 0) (k := k) (by rw [List.length_range]; omega) (by rw [trangeD (by omega)]; simpa using hc) (fun j hjk => by rw [trangeD (by omega)]; exact hj j hjk)]; rfl, hw'.fr (by simp)⟩ | exact fun w' hw' => ⟨by rw [idxG_miss (d := 0) (fun j hjj => by rw [List.length_range] at hjj; rw [trangeD (by omega)]; exact hj j (by omega))]; rfl, hw'.fr (by simp)⟩)
         · all_goals (skip)
           all_goals refine tc_skip ?_; ((refine hK6 ?_; try (clear hK6; clear K6)))
           all_goals refine tc_region ?_; refine tl_q (y_add rfl rfl (by omega)) rfl ?_; refine tl_q (y_move rfl) rfl ?_; refine tl_nil ?_
           all_goals (
            exact tk_round (k + 1) ⟨by omega, fun j hj' => by rcases Nat.lt_succ_iff_lt_or_eq.1 hj' with h | rfl; exact hj j h; simpa using hc⟩ (by omega) (.cons rfl (.cons rfl (.cons rfl (.cons rfl .nil)))) (fun _ h => h)))
      · try simp only [qn1, qn2, qn3, qn4, qn5, qn6, qn7, qn8] at hc
        all_goals refine tc_exit ?_; ((refine hK2 ?_; try (clear hK2; clear K2)))
        all_goals refine tc_seq fun K10 hK10 => ?_; refine tc_region ?_; refine tl_q (y_assign rfl) rfl ?_; refine tl_nil ?_; ((refine hK10 ?_; try (clear hK10; clear K10)))
        all_goals refine tc_ret ?_; (repeat (first | refine tk_then_ret ?_))
        all_goals (refine tk_ret rfl rfl (.cons (.tmp rfl) .nil) ?_)
        all_goals (
         first | exact fun w' hw' => ⟨by rw [idxG_hit (d := 0) (k := k) (by rw [List.length_range]; omega) (by rw [trangeD (by omega)]; simpa using hc) (fun j hjk => by rw [trangeD (by omega)]; exact hj j hjk)]; rfl, hw'.fr (by simp)⟩ | exact fun w' hw' => ⟨by rw [idxG_miss (d := 0) (fun j hjj => by rw [List.length_range] at hjj; rw [trangeD (by omega)]; exact hj j (by omega))]; rfl, hw'.fr (by simp)⟩)))
theorem tcontainsFuncSl_c (g : FuncId) [GoFn Tryz.prog g] (first cap : Array Value) (p : Nat → Bool) (us : List Sv) (hx : (us.length : Int) ≤ 9223372036854775807) (sl : Value) (w : World) (hr : RdS 1 svE w sl us) (ht : tTestsN Tryz.prog us g first cap p w) :
    CnV Tryz.prog 97 #[sl, .func (.func g) first cap] w (.bool ((List.range us.length).any p)) := by
  refine cnv (vs := [_, _]) Tryz.func97 rfl rfl ?_
  all_goals refine tc_seq fun K1 hK1 => ?_; refine tc_region ?_; refine tl_q (y_assign rfl) rfl ?_; refine tl_nil ?_; ((refine hK1 ?_; try (clear hK1; clear K1)))
  all_goals refine tc_seq fun K2 hK2 => ?_; refine tc_region ?_; refine tl_q (y_move rfl) rfl ?_; refine tl_q (y_move rfl) rfl ?_; refine tl_e (e_callV rfl (.cons rfl (.cons rfl .nil)) (fun w' hw' => tindexSl_c g first cap p us hx _ w' (hr.fr (hw'.fr (by simp))) (ht.fr (hw'.fr (by simp))))) rfl (fun _ _ => ?_); refine tl_q (y_geq rfl rfl) rfl ?_; refine tl_q (y_assign rfl) rfl ?_; refine tl_nil ?_; ((refine hK2 ?_; try (clear hK2; clear K2)))
  all_goals refine tc_ret ?_; (repeat (first | refine tk_then_ret ?_))
  all_goals (refine tk_ret rfl rfl (.cons (.tmp rfl) .nil) ?_)
  all_goals (
   exact fun w' hw' => ⟨by rw [← idxG_any]; rfl, hw'.fr (by simp)⟩)
theorem tallSl1_c (g : FuncId) [GoFn Tryz.prog g] (first cap : Array Value) (p : Nat → Bool) (us : List Sv) (i : Nat) (hi : i < us.length) (b : Nat) (w : World) (hb : w.cell? ⟨b, 0, none⟩ = some (.func (.func g) first cap)) (ht : tTestsN Tryz.prog us g first cap p w) :
    CnV Tryz.prog 98 #[(us.getD i sv0).1, .pointer (some ⟨b, 0, none⟩)] w (.bool (!(p i))) := by
  refine cnv (vs := [_, _]) Tryz.func98 rfl rfl ?_
  all_goals refine tc_seq fun K1 hK1 => ?_; refine tc_region ?_; refine tl_q (y_assign rfl) rfl ?_; refine tl_nil ?_; ((refine hK1 ?_; try (clear hK1; clear K1)))
  all_goals refine tc_seq fun K2 hK2 => ?_; refine tc_region ?_; refine tl_q (y_load1o rfl (fun w' hw' => (hw'.fr (S := []) (w0 := w) (by simp)).cell (by simp) hb)) rfl ?_; refine tl_q (y_move rfl) rfl ?_; refine tl_e (e_callVf rfl rfl (.cons rfl .nil) (fun w' hw' => ht i w' hi (hw'.fr (by simp)))) rfl (fun _ _ => ?_); refine tl_q (y_not rfl) rfl ?_; refine tl_q (y_assign rfl) rfl ?_; refine tl_nil ?_; ((refine hK2 ?_; try (clear hK2; clear K2)))
  all_goals refine tc_ret ?_; (repeat (first | refine tk_then_ret ?_))
  all_goals (refine tk_ret rfl rfl (.cons (.tmp rfl) .nil) ?_)
  all_goals (
   exact fun w' hw' => ⟨rfl, hw'.fr (by simp)⟩)
theorem tallSl_c (g : FuncId) [GoFn Tryz.prog g] (first cap : Array Value) (p : Nat → Bool) (us : List Sv) (hx : (us.length : Int) ≤ 9223372036854775807) (sl : Value) (w : World) (hr : RdS 1 svE w sl us) (ht : tTestsN Tryz.prog us g first cap p w) :
    CnV Tryz.prog 69 #[sl, .func (.func g) first cap] w (.bool ((List.range us.length).all p)) := by
  refine cnv (vs := [_, _]) Tryz.func69 rfl rfl ?_
  all_goals refine tc_seq fun K1 hK1 => ?_; refine tc_region ?_; refine tl_e (e_box rfl rfl rfl) rfl (fun b _ => ?_); refine tl_q (y_assign rfl) rfl ?_; refine tl_nil ?_; ((refine hK1 ?_; try (clear hK1; clear K1)))
  all_goals refine tc_seq fun K2 hK2 => ?_; refine tc_region ?_; refine tl_q (y_move rfl) rfl ?_; refine tl_q (y_fn .nil (.cons rfl .nil)) rfl ?_; refine tl_e (e_callV rfl (.cons rfl (.cons rfl .nil)) (fun w' hw' => tcontainsFuncSl_c 98 #[] #[.pointer (some ⟨b, 0, none⟩)] (fun x => !(p x)) us hx _ w' (hr.fr (hw'.fr (by simp))) (fun i w2 hi f => by simpa using tallSl1_c g first cap p us i hi b w2 (f.cell (by simp) (cellAt_cell? (hw'.heap _ (HM.mem (by repeat constructor))) rfl)) ((ht.fr (hw'.fr (by simp))).fr f)))) rfl (fun _ _ => ?_); refine tl_q (y_not rfl) rfl ?_; refine tl_q (y_assign rfl) rfl ?_; refine tl_nil ?_; ((refine hK2 ?_; try (clear hK2; clear K2)))
  all_goals refine tc_ret ?_; (repeat (first | refine tk_then_ret ?_))
  all_goals (refine tk_ret rfl rfl (.cons (.tmp rfl) .nil) ?_)
  all_goals (
   exact fun w' hw' => ⟨by simp [outV, List.all_eq_not_any_not], hw'.fr (by simp)⟩)
def TestsB (P : Program) (xs : List Int) (g : FuncId) (first cap : Array Value) (v : Bool) (p : Nat → Bool) (b : Nat) (o : Nat → Obj) (w : World) : Prop :=
  ∀ (i : Nat) (w' : World), i < xs.length → (∀ j, j < i → p j = v) → Fr [b] w w' → w'.heap[b]? = some (o i) → CnX P g (first ++ #[vi (xs.getD i 0)] ++ cap) w' [b] (fun _ : Unit => .bool (p i)) (fun _ w'' => True ∧ w''.heap[b]? = some (o (i + 1)))
theorem TestsB.fr {P : Program} {xs : List Int} {g : FuncId} {first cap : Array Value} {v : Bool} {p : Nat → Bool} {b : Nat} {o : Nat → Obj} {w w1 : World} (h : TestsB P xs g first cap v p b o w) (f : Fr [b] w w1) : TestsB P xs g first cap v p b o w1 := fun i w' hi hv f' hb => h i w' hi hv (f.trans f' (fun x hx => .inl hx)) hb
theorem indexB_c (g : FuncId) [GoFn Tryz.prog g] (first cap : Array Value) (p : Nat → Bool) (b : Nat) (o : Nat → Obj) (xs : List Int) (hx : (xs.length : Int) ≤ 9223372036854775807) (sl : Value) (w : World) (hr : RdI w sl xs) (hs : sepS sl [b]) (hb : w.heap[b]? = some (o 0)) (ht : TestsB Tryz.prog xs g first cap false p b o w) :
    CnX Tryz.prog 125 #[sl, .func (.func g) first cap] w [b] (fun _ : Nat => vi (idxG (List.range xs.length) p)) (fun n w' => True ∧ w'.heap[b]? = some (o n)) := by
  obtain ⟨ad, cp, b0, oo, rfl, had, hcell⟩ := hr.toS.opens inE_len 0 hs
  refine cnxS (vs := [_, _]) (S := [b]) [(b, o 0)] Tryz.func125 rfl rfl ⟨by simp [hb], by simp, by simp⟩ ?_
  all_goals refine tc_seq fun K1 hK1 => ?_; refine tc_region ?_; refine tl_q (y_assign rfl) rfl ?_; refine tl_nil ?_; ((refine hK1 ?_; try (clear hK1; clear K1)))
  all_goals refine tc_seq fun K2 hK2 => ?_; refine tc_seq fun K3 hK3 => ?_; refine tc_region ?_; refine tl_q (y_move rfl) rfl ?_; refine tl_q (y_len rfl) rfl ?_; refine tl_q (y_move rfl) rfl ?_; refine tl_nil ?_; ((refine hK3 ?_; try (clear hK3; clear K3)))
  all_goals refine tc_block ?_
  all_goals (
   refine tc_loop (fun k : Nat => k ≤ xs.length ∧ ∀ j, j < k → p j = false) (fun k => [(0, .slice ad xs.length cp), (1, .func (.func g) first cap), (7, vi xs.length), (8, vi k)]) (fun _ => [(w, [b])]) (fun k => [(b, o k)]) (fun k => xs.length - k) ?_ ?_
   · exact tk_start 0 ⟨Nat.zero_le _, fun j hj => absurd hj (Nat.not_lt_zero j)⟩ (.cons rfl (.cons rfl (.cons rfl (.cons rfl .nil)))) (fun _ h => h)
   · rintro k ⟨hk, hj⟩
     all_goals refine tc_seq fun K4 hK4 => ?_; refine tc_region ?_; refine tl_q (y_lss rfl rfl) rfl ?_; refine tl_nil ?_; ((refine hK4 ?_; try (clear hK4; clear K4)))
     all_goals refine tc_seq fun K5 hK5 => ?_
     all_goals (
      refine tc_cond rfl (fun hc => ?_) (fun hc => ?_)
      · try simp only [qn1, qn2, qn3, qn4, qn5, qn6, qn7, qn8] at hc
        all_goals refine tc_skip ?_; ((refine hK5 ?_; try (clear hK5; clear K5)))
        all_goals refine tc_seq fun K6 hK6 => ?_; refine tc_block ?_; refine tc_seq fun K7 hK7 => ?_; refine tc_region ?_; refine tl_q (y_move rfl) rfl ?_; refine tl_q (y_assign rfl) rfl ?_; refine tl_nil ?_; ((refine hK7 ?_; try (clear hK7; clear K7)))
        all_goals refine tc_seq fun K8 hK8 => ?_
        have had' := had (by omega)
        all_goals refine tc_region ?_; refine tl_q (y_move rfl) rfl ?_; refine tl_q (y_move rfl) rfl ?_; refine tl_q (y_move rfl) rfl ?_; refine tl_q (y_index rfl rfl (by omega) had') rfl ?_; ((refine tl_q (y_load1o (v := vi (xs.getD k 0)) rfl (fun w' hw' => by have hx := (hcell w' (hw'.fr (w0 := w) (S := [b]) MI.m) k (by omega)).get 0 _ rfl; rw [show Int.toNat (k : Int) * 1 = k * 1 from by omega]; exact hx)) rfl ?_))
        all_goals refine tl_e (e_callUf rfl rfl (.cons rfl .nil) (fun w' hw' => ht k w' (by omega) hj (hw'.fr (w0 := w) (S := [b]) MI.m) (hw'.heap _ (HM.mem (by repeat constructor)))) (fun _ => (by repeat constructor))) rfl (fun _ _ => ?_); refine tl_nil ?_; ((refine hK8 ?_; try (clear hK8; clear K8)))
        all_goals (
         refine tc_cond rfl (fun hc => ?_) (fun hc => ?_)
         · all_goals (skip)
           all_goals refine tc_seq fun K9 hK9 => ?_; refine tc_region ?_; refine tl_q (y_move rfl) rfl ?_; refine tl_q (y_assign rfl) rfl ?_; refine tl_nil ?_; ((refine hK9 ?_; try (clear hK9; clear K9)))
           all_goals refine tc_ret ?_; (repeat (first | refine tk_then_ret ?_ | refine tk_block_ret ?_))
           all_goals (refine tk_ret rfl rfl (.cons (.tmp rfl) .nil) ?_)
           all_goals (
            first
            | exact fun w' hw' => ⟨k + 1, by rw [idxG_hit (d := 0) (k := k) (by rw [List.length_range]; omega) (by rw [trangeD (by omega)]; simpa using hc) (fun j hjk => by rw [trangeD (by omega)]; exact hj j hjk)]; rfl, hw'.fr (w0 := w) (S := [b]) MI.m, trivial, hw'.heap _ (HM.mem (by repeat constructor))⟩
            | exact fun w' hw' => ⟨k, by rw [idxG_miss (d := 0) (fun j hjj => by rw [List.length_range] at hjj; rw [trangeD (by omega)]; exact hj j (by omega))]; rfl, hw'.fr (w0 := w) (S := [b]) MI.m, trivial, hw'.heap _ (HM.mem (by repeat constructor))⟩)
         · all_goals (skip)
           all_goals refine tc_skip ?_; ((refine hK6 ?_; try (clear hK6; clear K6)))
           all_goals refine tc_region ?_; refine tl_q (y_add rfl rfl (by omega)) rfl ?_; refine tl_q (y_move rfl) rfl ?_; refine tl_nil ?_
           all_goals (
            exact tk_round (k + 1) ⟨by omega, fun j hj' => by rcases Nat.lt_succ_iff_lt_or_eq.1 hj' with h | rfl; exact hj j h; simpa using hc⟩ (by omega) (.cons rfl (.cons rfl (.cons rfl (.cons rfl .nil)))) (fun _ h => h)))
      · try simp only [qn1, qn2, qn3, qn4, qn5, qn6, qn7, qn8] at hc
        all_goals refine tc_exit ?_; ((refine hK2 ?_; try (clear hK2; clear K2)))
        all_goals refine tc_seq fun K10 hK10 => ?_; refine tc_region ?_; refine tl_q (y_assign rfl) rfl ?_; refine tl_nil ?_; ((refine hK10 ?_; try (clear hK10; clear K10)))
        all_goals refine tc_ret ?_; (repeat (first | refine tk_then_ret ?_))
        all_goals (refine tk_ret rfl rfl (.cons (.tmp rfl) .nil) ?_)
        all_goals (
         first
         | exact fun w' hw' => ⟨k + 1, by rw [idxG_hit (d := 0) (k := k) (by rw [List.length_range]; omega) (by rw [trangeD (by omega)]; simpa using hc) (fun j hjk => by rw [trangeD (by omega)]; exact hj j hjk)]; rfl, hw'.fr (w0 := w) (S := [b]) MI.m, trivial, hw'.heap _ (HM.mem (by repeat constructor))⟩
         | exact fun w' hw' => ⟨k, by rw [idxG_miss (d := 0) (fun j hjj => by rw [List.length_range] at hjj; rw [trangeD (by omega)]; exact hj j (by omega))]; rfl, hw'.fr (w0 := w) (S := [b]) MI.m, trivial, hw'.heap _ (HM.mem (by repeat constructor))⟩)))
theorem containsB_c (g : FuncId) [GoFn Tryz.prog g] (first cap : Array Value) (p : Nat → Bool) (b : Nat) (o : Nat → Obj) (xs : List Int) (hx : (xs.length : Int) ≤ 9223372036854775807) (sl : Value) (w : World) (hr : RdI w sl xs) (hs : sepS sl [b]) (hb : w.heap[b]? = some (o 0)) (ht : TestsB Tryz.prog xs g first cap false p b o w) :
    CnX Tryz.prog 114 #[sl, .func (.func g) first cap] w [b] (fun _ : Nat => .bool ((List.range xs.length).any p)) (fun n w' => True ∧ w'.heap[b]? = some (o n)) := by
  refine cnxS (vs := [_, _]) (S := [b]) [(b, o 0)] Tryz.func114 rfl rfl ⟨by simp [hb], by simp, by simp⟩ ?_
  all_goals refine tc_seq fun K1 hK1 => ?_; refine tc_region ?_; refine tl_q (y_assign rfl) rfl ?_; refine tl_nil ?_; ((refine hK1 ?_; try (clear hK1; clear K1)))
  all_goals refine tc_seq fun K2 hK2 => ?_; refine tc_region ?_; refine tl_q (y_move rfl) rfl ?_; refine tl_q (y_move rfl) rfl ?_; refine tl_e (e_callU rfl (.cons rfl (.cons rfl .nil)) (fun w' hw' => indexB_c g first cap p b o xs hx _ w' (hr.frS (hw'.fr (w0 := w) (S := [b]) MI.m) hs) hs (hw'.heap _ (HM.mem (by repeat constructor))) (ht.fr (hw'.fr (w0 := w) (S := [b]) MI.m))) (fun _ => (by repeat constructor))) rfl (fun n _ => ?_); refine tl_q (y_geq rfl rfl) rfl ?_; refine tl_q (y_assign rfl) rfl ?_; refine tl_nil ?_; ((refine hK2 ?_; try (clear hK2; clear K2)))
  all_goals refine tc_ret ?_; (repeat (first | refine tk_then_ret ?_))
  all_goals (refine tk_ret rfl rfl (.cons (.tmp rfl) .nil) ?_)
  all_goals (
   exact fun w' hw' => ⟨n, by rw [← idxG_any]; rfl, hw'.fr (w0 := w) (S := [b]) MI.m, trivial, hw'.heap _ (HM.mem (by repeat constructor))⟩)
theorem allB1_c (g : FuncId) [GoFn Tryz.prog g] (first cap : Array Value) (p : Nat → Bool) (b : Nat) (o : Nat → Obj) (xs : List Int) (b3 : Nat) (w : World) (hne : b3 ≠ b) (h3 : w.cell? ⟨b3, 0, none⟩ = some (.func (.func g) first cap)) (ht : TestsB Tryz.prog xs g first cap true p b o w) : TestsB Tryz.prog xs 115 #[] #[.pointer (some ⟨b3, 0, none⟩)] false (fun i => !(p i)) b o w := by
  intro i w2 hi hj f2 hb2
  have hjt : ∀ j, j < i → p j = true := fun j hji => by simpa using hj j hji
  have h3' : w2.cell? ⟨b3, 0, none⟩ = some (.func (.func g) first cap) := f2.cell (by simpa using hne) h3
  have ht' := ht.fr f2
  suffices h : CnX Tryz.prog 115 #[vi (xs.getD i 0), .pointer (some ⟨b3, 0, none⟩)] w2 [b] (fun _ : Unit => .bool (!(p i))) (fun _ w'' => True ∧ w''.heap[b]? = some (o (i + 1))) by simpa using h
  refine cnxS (vs := [_, _]) (S := [b]) [(b, o i)] Tryz.func115 rfl rfl ⟨by simp [hb2], by simp, by simp⟩ ?_
  all_goals refine tc_seq fun K1 hK1 => ?_; refine tc_region ?_; refine tl_q (y_assign rfl) rfl ?_; refine tl_nil ?_; ((refine hK1 ?_; try (clear hK1; clear K1)))
  all_goals refine tc_seq fun K2 hK2 => ?_; refine tc_region ?_; refine tl_q (y_load1o rfl (fun w' hw' => (hw'.fr (S := [b]) (w0 := w2) MI.m).cell (by simpa using hne) h3')) rfl ?_; refine tl_q (y_move rfl) rfl ?_; refine tl_e (e_callUf rfl rfl (.cons rfl .nil) (fun w' hw' => ht' i w' hi hjt (hw'.fr (w0 := w2) (S := [b]) MI.m) (hw'.heap _ (HM.mem (by repeat constructor)))) (fun _ => (by repeat constructor))) rfl (fun _ _ => ?_); refine tl_q (y_not rfl) rfl ?_; refine tl_q (y_assign rfl) rfl ?_; refine tl_nil ?_; ((refine hK2 ?_; try (clear hK2; clear K2)))
  all_goals refine tc_ret ?_; (repeat (first | refine tk_then_ret ?_))
  all_goals (refine tk_ret rfl rfl (.cons (.tmp rfl) .nil) ?_)
  all_goals (
   exact fun w' hw' => ⟨(), rfl, hw'.fr (w0 := w2) (S := [b]) MI.m, trivial, hw'.heap _ (HM.mem (by repeat constructor))⟩)
theorem allB_c (g : FuncId) [GoFn Tryz.prog g] (first cap : Array Value) (p : Nat → Bool) (b : Nat) (o : Nat → Obj) (xs : List Int) (hx : (xs.length : Int) ≤ 9223372036854775807) (sl : Value) (w : World) (hr : RdI w sl xs) (hs : sepS sl [b]) (hb : w.heap[b]? = some (o 0)) (ht : TestsB Tryz.prog xs g first cap true p b o w) :
    CnX Tryz.prog 93 #[sl, .func (.func g) first cap] w [b] (fun _ : Nat => .bool ((List.range xs.length).all p)) (fun n w' => True ∧ w'.heap[b]? = some (o n)) := by
  refine cnxS (vs := [_, _]) (S := [b]) [(b, o 0)] Tryz.func93 rfl rfl ⟨by simp [hb], by simp, by simp⟩ ?_
  all_goals refine tc_seq fun K1 hK1 => ?_; refine tc_region ?_; refine tl_e (e_box rfl rfl rfl) rfl (fun b3 _ => ?_); refine tl_q (y_assign rfl) rfl ?_; refine tl_nil ?_; ((refine hK1 ?_; try (clear hK1; clear K1)))
  all_goals refine tc_seq fun K2 hK2 => ?_; refine tc_region ?_; refine tl_q (y_move rfl) rfl ?_; refine tl_q (y_fn .nil (.cons rfl .nil)) rfl ?_; (refine tl_e (e_callU rfl (.cons rfl (.cons rfl .nil)) (fun w' hw' => containsB_c 115 #[] #[.pointer (some ⟨b3, 0, none⟩)] (fun i => !(p i)) b o xs hx _ w' (hr.frS (hw'.fr (w0 := w) (S := [b]) MI.m) hs) hs (hw'.heap _ (HM.mem (b := b) (by repeat constructor))) (allB1_c g first cap p b o xs b3 w' (by have := hw'.nodup; simp at this; exact this) (cellAt_cell? (hw'.heap _ (HM.mem (b := b3) (by repeat constructor))) rfl) (ht.fr (hw'.fr (w0 := w) (S := [b]) MI.m)))) (fun _ => (by repeat constructor))) rfl (fun n _ => ?_))
  all_goals (refine tl_q (y_not rfl) rfl ?_); refine tl_q (y_assign rfl) rfl ?_; refine tl_nil ?_; ((refine hK2 ?_; try (clear hK2; clear K2)))
  all_goals refine tc_ret ?_; (repeat (first | refine tk_then_ret ?_))
  all_goals (refine tk_ret rfl rfl (.cons (.tmp rfl) .nil) ?_)
  all_goals (
   exact fun w' hw' => ⟨n, by simp [outV, List.all_eq_not_any_not], hw'.fr (w0 := w) (S := [b]) MI.m, trivial, hw'.heap _ (HM.mem (b := b) (by repeat constructor))⟩)
end Go.Sp
/-
  Package table: what is valid.
-/
namespace Go.Sp
open Go Go.Proofs
theorem twithin_c (n lo hi : Int) (w : World) : CnV Tryz.prog 96 #[vi n, vi lo, vi hi] w (.bool (decide (lo ≤ n ∧ n ≤ hi))) := by
  refine cnv (vs := [_, _, _]) Tryz.func96 rfl rfl ?_
  all_goals refine tc_seq fun K1 hK1 => ?_; refine tc_region ?_; refine tl_q (y_assign rfl) rfl ?_; refine tl_nil ?_; ((refine hK1 ?_; try (clear hK1; clear K1)))
  all_goals refine tc_seq fun K2 hK2 => ?_; refine tc_region ?_; refine tl_q (y_move rfl) rfl ?_; refine tl_q (y_move rfl) rfl ?_; refine tl_q (y_leq rfl rfl) rfl ?_; refine tl_q (y_move rfl) rfl ?_; ((refine tl_gs rfl rfl (fun hc => ?_) (fun hc => ?_) <;> (skip) <;> (first | refine tl_sk rfl rfl rfl rfl ?_ | refine tl_qg rfl rfl (y_move rfl) rfl ?_)))
  all_goals (first | refine tl_sk rfl rfl rfl rfl ?_ | refine tl_qg rfl rfl (y_move rfl) rfl ?_); (first | refine tl_sk rfl rfl rfl rfl ?_ | refine tl_qg rfl rfl (y_leq rfl rfl) rfl ?_); (first | refine tl_q (y_pick_t rfl rfl) rfl ?_ | refine tl_q (y_pick_f rfl rfl) rfl ?_); refine tl_q (y_assign rfl) rfl ?_; refine tl_nil ?_; ((refine hK2 ?_; try (clear hK2; clear K2)))
  all_goals refine tc_ret ?_; (repeat (first | refine tk_then_ret ?_))
  all_goals (refine tk_ret rfl rfl (.cons (.tmp rfl) .nil) ?_)
  all_goals (
   refine fun w' hw' => ⟨?_, hw'.fr (by simp)⟩; simp only [outV, decide_eq_true_eq, decide_eq_false_iff_not] at *; simp [hc])
def lastN (l : List Int) (i : Nat) : Int := if i = 0 then -1 else l.getD (i - 1) 0
def enP (most : Int) (l : List Int) (i : Nat) : Bool := decide (lastN l i + 1 ≤ l.getD i 0 ∧ l.getD i 0 ≤ most)
theorem enP_ris {most : Int} {l : List Int} : (List.range l.length).all (enP most l) = true ↔ risL most l := by
  rw [List.all_eq_true]
  constructor
  · intro h i hi
    have h2 : ∀ i, i < l.length → lastN l i + 1 ≤ l.getD i 0 ∧ l.getD i 0 ≤ most := fun i hi => of_decide_eq_true (h i (List.mem_range.2 hi))
    have h0 : ∀ i, i < l.length → 0 ≤ l.getD i 0 := by
      intro i
      induction i with
      | zero => intro hi; have := (h2 0 hi).1; unfold lastN at this; rw [if_pos rfl] at this; omega
      | succ i ih => intro hi; have a := (h2 (i + 1) hi).1; unfold lastN at a; rw [if_neg (by omega), Nat.add_sub_cancel] at a; have := ih (by omega); omega
    refine ⟨⟨h0 i hi, (h2 i hi).2⟩, fun hp => ?_⟩
    have a := (h2 i hi).1
    unfold lastN at a
    rw [if_neg (by omega)] at a
    omega
  · intro h i hi
    rw [List.mem_range] at hi
    have a := h i hi
    unfold enP
    rw [decide_eq_true_eq]
    refine ⟨?_, a.1.2⟩
    unfold lastN
    by_cases e : i = 0
    · rw [if_pos e]; have := a.1.1; omega
    · rw [if_neg e]; have := a.2 (by omega); omega
abbrev oneO (n : Int) : Obj := .cells #[vi n] 3 (0, 0)
theorem entries1_c (most : Int) (hm : most ≤ 1000) (l : List Int) (b5 b3 : Nat) (hne : b3 ≠ b5) (w : World) (h3 : w.heap[b3]? = some (oneO most)) : TestsB Tryz.prog l 95 #[] #[ptr b5, ptr b3] true (enP most l) b5 (fun i => oneO (lastN l i)) w := by
  intro i w2 hi hj f2 hb2
  have h3' : w2.heap[b3]? = some (oneO most) := f2.keepS (by simpa using hne) h3
  have hla : lastN l i ≤ 1000 ∧ -1 ≤ lastN l i := by
    unfold lastN
    by_cases e : i = 0
    · rw [if_pos e]; omega
    · rw [if_neg e]
      have h0 : ∀ k, k < i → -1 ≤ l.getD k 0 := by
        intro k
        induction k with
        | zero => intro hk; have := of_decide_eq_true (hj 0 hk); unfold lastN at this; rw [if_pos rfl] at this; omega
        | succ k ih => intro hk; have a := of_decide_eq_true (hj (k + 1) hk); unfold lastN at a; rw [if_neg (by omega), Nat.add_sub_cancel] at a; have := ih (by omega); omega
      have := of_decide_eq_true (hj (i - 1) (by omega))
      have := h0 (i - 1) (by omega)
      omega
  have hq : lastN l (i + 1) = l.getD i 0 := by unfold lastN; rw [if_neg (by omega), Nat.add_sub_cancel]
  suffices h : CnX Tryz.prog 95 #[vi (l.getD i 0), ptr b5, ptr b3] w2 [b5] (fun _ : Unit => .bool (enP most l i)) (fun _ w'' => True ∧ w''.heap[b5]? = some (oneO (lastN l (i + 1)))) by simpa using h
  refine cnxS (vs := [_, _, _]) (S := [b5]) [(b5, oneO (lastN l i))] Tryz.func95 rfl rfl ⟨by simp [hb2], by simp, by simp⟩ ?_
  all_goals refine tc_seq fun K1 hK1 => ?_; refine tc_region ?_; refine tl_q (y_assign rfl) rfl ?_; refine tl_nil ?_; ((refine hK1 ?_; try (clear hK1; clear K1)))
  all_goals refine tc_seq fun K2 hK2 => ?_; refine tc_region ?_; refine tl_q (y_move rfl) rfl ?_; refine tl_q (y_load1 rfl (by repeat constructor) (by rfl)) rfl ?_; refine tl_q (y_add rfl rfl (by omega)) rfl ?_; refine tl_q (y_load1o (v := vi most) rfl (fun w' hw' => cell0 ((hw'.fr (w0 := w2) (S := [b5]) MI.m).keepS (by simpa using hne) h3') rfl)) rfl ?_; refine tl_e (e_callV rfl (.cons rfl (.cons rfl (.cons rfl .nil))) (fun w' _ => twithin_c _ _ _ w')) rfl (fun _ _ => ?_); refine tl_q (y_assign rfl) rfl ?_; refine tl_nil ?_; ((refine hK2 ?_; try (clear hK2; clear K2)))
  all_goals refine tc_seq fun K3 hK3 => ?_; refine tc_region ?_; refine tl_q (y_move rfl) rfl ?_; refine tl_e (e_store1 rfl rfl (by repeat constructor) (by repeat constructor) (by rfl) (by rfl)) rfl (fun _ _ => ?_); refine tl_nil ?_; ((refine hK3 ?_; try (clear hK3; clear K3)))
  all_goals refine tc_seq fun K4 hK4 => ?_; refine tc_region ?_; refine tl_q (y_move rfl) rfl ?_; refine tl_q (y_assign rfl) rfl ?_; refine tl_nil ?_; ((refine hK4 ?_; try (clear hK4; clear K4)))
  all_goals refine tc_ret ?_; (repeat (first | refine tk_then_ret ?_))
  all_goals (refine tk_ret rfl rfl (.cons (.tmp rfl) .nil) ?_)
  all_goals (
   exact fun w' hw' => ⟨(), rfl, hw'.fr (w0 := w2) (S := [b5]) MI.m, trivial, by rw [hq]; exact hw'.heap _ (HM.mem (by repeat constructor))⟩)
theorem sepS_new {w : World} {sl : Value} {b : Nat} (hlt : ∀ p m c, sl = .slice (some p) m c → p.block < w.heap.size) (hb : w.heap.size ≤ b) : sepS sl [b] := fun p m c e hm => by
  have := hlt p m c e
  simp at hm; omega
theorem entries_c (most : Int) (hm : most ≤ 1000) (l : List Int) (hl : (l.length : Int) ≤ 9223372036854775807) (sl : Value) (w : World) (hr : RdI w sl l) : CnV Tryz.prog 68 #[sl, vi most] w (.bool (decide (2 ≤ l.length ∧ risL most l))) := by
  have hr0 := hr
  have hlt := hr.toS.lt inE_len (by decide)
  obtain ⟨ad, cap, b0, o, rfl, had, hcell⟩ := hr.open
  refine cnv (vs := [_, _]) Tryz.func68 rfl rfl ?_
  all_goals refine tc_seq fun K1 hK1 => ?_; refine tc_region ?_; refine tl_e (e_box rfl rfl rfl) rfl (fun b3 _ => ?_); refine tl_q (y_assign rfl) rfl ?_; refine tl_nil ?_; ((refine hK1 ?_; try (clear hK1; clear K1)))
  all_goals refine tc_seq fun K2 hK2 => ?_; refine tc_region ?_; refine tl_e (e_alloc1 rfl) rfl (fun b5 _ => ?_); refine tl_e (e_store1 rfl rfl (by repeat constructor) (by repeat constructor) (by rfl) (by rfl)) rfl (fun _ _ => ?_); refine tl_nil ?_; ((refine hK2 ?_; try (clear hK2; clear K2)))
  all_goals refine tc_seq fun K3 hK3 => ?_; refine tc_region ?_; refine tl_q (y_move rfl) rfl ?_; refine tl_q (y_len rfl) rfl ?_; refine tl_q (y_geq rfl rfl) rfl ?_; refine tl_q (y_move rfl) rfl ?_; ((refine tl_gs rfl rfl (fun hc => ?_) (fun hc => ?_) <;> (try simp only [qn1, qn2, qn3, qn4, qn5, qn6, qn7, qn8] at hc) <;> (first | refine tl_sk rfl rfl rfl rfl ?_ | refine tl_qg rfl rfl (y_move rfl) rfl ?_)))
  all_goals (first | refine tl_sk rfl rfl rfl rfl ?_ | refine tl_qg rfl rfl (y_fn .nil (.cons rfl (.cons rfl .nil))) rfl ?_); ((first | refine tl_sk rfl rfl rfl rfl ?_ | refine tl_eg rfl rfl rfl (e_callU rfl (.cons rfl (.cons rfl .nil)) (fun w' hw' => allB_c 95 #[] #[ptr b5, ptr b3] (enP most l) b5 (fun i => oneO (lastN l i)) l hl _ w' (hr0.fr (hw'.fr (w0 := w) (S := []) MI.m)) (sepS_new (hlt (by omega)) ((hw'.own _ (HM.mem (b := b5) (by repeat constructor)) (w, []) (by simp)).resolve_left (by simp))) (hw'.heap _ (HM.mem (b := b5) (by repeat constructor))) (entries1_c most hm l b5 b3 (by have := hw'.nodup; simp at this; omega) w' (hw'.heap _ (HM.mem (b := b3) (by repeat constructor))))) (fun _ => (by repeat constructor))) (fun n _ => ?_)))
  all_goals (first | refine tl_q (y_pick_t rfl rfl) rfl ?_ | refine tl_q (y_pick_f rfl rfl) rfl ?_); refine tl_q (y_assign rfl) rfl ?_; refine tl_nil ?_; ((refine hK3 ?_; try (clear hK3; clear K3)))
  all_goals refine tc_ret ?_; (repeat (first | refine tk_then_ret ?_))
  all_goals (refine tk_ret rfl rfl (.cons (.tmp rfl) .nil) ?_)
  all_goals (
   refine fun w' hw' => ⟨congrArg (fun b => Ending.returned (Value.bool b)) ?_, hw'.fr (w0 := w) (S := []) MI.m⟩
   first
   | (rw [Bool.eq_iff_iff, enP_ris, decide_eq_true_eq]; exact ⟨fun h => ⟨by omega, h⟩, fun h => h.2⟩)
   | exact (decide_eq_false (by omega)).symm)
def valP (n : Int) : Bool := decide (0 ≤ n ∧ n ≤ 2000)
theorem value_c (n : Int) (w : World) : CnV Tryz.prog 94 #[vi n] w (.bool (valP n)) := by
  refine cnv (vs := [_]) Tryz.func94 rfl rfl ?_
  all_goals refine tc_seq fun K1 hK1 => ?_; refine tc_region ?_; refine tl_q (y_assign rfl) rfl ?_; refine tl_nil ?_; ((refine hK1 ?_; try (clear hK1; clear K1)))
  all_goals refine tc_seq fun K2 hK2 => ?_; refine tc_region ?_; refine tl_q (y_move rfl) rfl ?_; refine tl_e (e_callV rfl (.cons rfl (.cons rfl (.cons rfl .nil))) (fun w' _ => twithin_c _ _ _ w')) rfl (fun _ _ => ?_); refine tl_q (y_assign rfl) rfl ?_; refine tl_nil ?_; ((refine hK2 ?_; try (clear hK2; clear K2)))
  all_goals refine tc_ret ?_; (repeat (first | refine tk_then_ret ?_))
  all_goals (refine tk_ret rfl rfl (.cons (.tmp rfl) .nil) ?_)
  all_goals (
   exact fun w' hw' => ⟨rfl, hw'.fr (w0 := w) (S := []) MI.m⟩)
def rowP (t : Tab) (l : List Int) : Bool := decide (l.length = t.ms.length) && l.all valP
theorem trow_c (t : Tab) (hm : (t.ms.length : Int) ≤ 9223372036854775807) (l : List Int) (hl : (l.length : Int) ≤ 9223372036854775807) (wv mv vv : Value) (hw1 : wv.oneCell' = true) (hv1 : vv.oneCell' = true) (lv : Value) (w : World) (hrm : RdI w mv t.ms) (hr : RdI w lv l) : CnV Tryz.prog 67 #[tbV wv mv vv, lv] w (.bool (rowP t l)) := by
  have hr0 := hr
  obtain ⟨am, cm, bm, om, rfl, hadm, hcm⟩ := hrm.open
  obtain ⟨ad, cap, b0, o, rfl, had, hcell⟩ := hr.open
  refine cnv (vs := [_, _]) Tryz.func67 rfl rfl ?_
  all_goals refine tc_seq fun K1 hK1 => ?_; refine tc_region ?_; refine tl_e (e_box rfl rfl rfl) rfl (fun b2 _ => ?_); refine tl_q (y_assign rfl) rfl ?_; refine tl_nil ?_; ((refine hK1 ?_; try (clear hK1; clear K1)))
  all_goals refine tc_seq fun K2 hK2 => ?_; refine tc_region ?_; refine tl_q (y_move rfl) rfl ?_; refine tl_q (y_len rfl) rfl ?_; refine tl_q (y_field rfl) rfl ?_; refine tl_q (y_load1 rfl (by repeat constructor) (by rfl)) rfl ?_; refine tl_q (y_len rfl) rfl ?_; refine tl_q (y_eql rfl rfl) rfl ?_; refine tl_q (y_move rfl) rfl ?_; ((refine tl_gs rfl rfl (fun hc => ?_) (fun hc => ?_) <;> (try simp only [qn1, qn2, qn3, qn4, qn5, qn6, qn7, qn8] at hc) <;> (first | refine tl_sk rfl rfl rfl rfl ?_ | refine tl_qg rfl rfl (y_move rfl) rfl ?_)))
  all_goals (first | refine tl_sk rfl rfl rfl rfl ?_ | refine tl_eg rfl rfl rfl (e_callV rfl (.cons rfl (.cons rfl .nil)) (fun w' hw' => tallIn_c 94 #[] #[] valP l hl _ w' (hr0.fr (hw'.fr (w0 := w) (S := []) MI.m)) (fun x w2 _ => by simpa using value_c x w2))) (fun _ _ => ?_)); (first | refine tl_q (y_pick_t rfl rfl) rfl ?_ | refine tl_q (y_pick_f rfl rfl) rfl ?_); refine tl_q (y_assign rfl) rfl ?_; refine tl_nil ?_; ((refine hK2 ?_; try (clear hK2; clear K2)))
  all_goals refine tc_ret ?_; (repeat (first | refine tk_then_ret ?_))
  all_goals (refine tk_ret rfl rfl (.cons (.tmp rfl) .nil) ?_)
  all_goals (
   refine fun w' hw' => ⟨congrArg (fun b => Ending.returned (Value.bool b)) ?_, hw'.fr (w0 := w) (S := []) MI.m⟩
   unfold rowP
   first
   | (rw [decide_eq_true (by omega)]; rfl)
   | (rw [decide_eq_false (by omega)]; rfl))
end Go.Sp
/-
  Package table: what is valid; the strength at a point.
-/
namespace Go.Sp
open Go Go.Proofs
theorem row_ok {t : Tab} (hv : VTab t) {i : Nat} (hi : i < t.vs.length) : rowP t (t.vs.getD i []) = true := by
  have h := hv.row i hi
  unfold rowP
  rw [Bool.and_eq_true, decide_eq_true_eq]
  refine ⟨h.1, List.all_eq_true.2 fun x hx => ?_⟩
  obtain ⟨k, hk, rfl⟩ := List.getElem_of_mem hx
  have := h.2 k (by omega)
  rw [List.getD_eq_getElem?_getD, List.getElem?_eq_getElem hk] at this
  exact decide_eq_true this
theorem checkTable_c (t : Tab) (hv : VTab t) (wv mv vv : Value) (w : World) (hr : RdTb w t wv mv vv) : CnV Tryz.prog 43 #[tbV wv mv vv] w (vi 0) := by
  have hr0 := hr
  have w2 := hv.w2
  have w5 := hv.w5
  have m2 := hv.m2
  have m5 := hv.m5
  have vl := hv.v
  obtain ⟨us, hus, hul, hro⟩ := hr.vs
  have o1 := hr.ws.one
  have o2 := hr.ms.one
  obtain ⟨aw, cw, bw, ow, rfl, hadw, hcw⟩ := hr.ws.open
  obtain ⟨am, cm, bm, om, rfl, hadm, hcm⟩ := hr.ms.open
  obtain ⟨av, cv, bv, ov, rfl, hadv, hcv⟩ := hus.open svE_len sv0
  have hall : ((List.range us.length).all fun i => rowP t (t.vs.getD i [])) = true := List.all_eq_true.2 fun i hi => row_ok hv (by rw [List.mem_range] at hi; omega)
  have c1 : ∀ w', Fr [] w w' → CnV Tryz.prog 68 #[.slice aw t.ws.length cw, vi 40] w' (.bool true) := fun w' f => by
    have h := entries_c 40 (by decide) t.ws (by omega) _ w' (hr0.ws.fr f)
    rwa [decide_eq_true ⟨w2, hv.wr⟩] at h
  have c2 : ∀ w', Fr [] w w' → CnV Tryz.prog 68 #[.slice am t.ms.length cm, vi 60] w' (.bool true) := fun w' f => by
    have h := entries_c 60 (by decide) t.ms (by omega) _ w' (hr0.ms.fr f)
    rwa [decide_eq_true ⟨m2, hv.mr⟩] at h
  have c3 : ∀ w', Fr [] w w' → CnV Tryz.prog 69 #[.slice av us.length cv, .func (.func 67) #[tbV (.slice aw t.ws.length cw) (.slice am t.ms.length cm) (.slice av us.length cv)] #[]] w' (.bool true) := fun w' f => by
    have h := tallSl_c 67 #[tbV (.slice aw t.ws.length cw) (.slice am t.ms.length cm) (.slice av us.length cv)] #[] (fun i => rowP t (t.vs.getD i [])) us (by omega) _ w' (hus.fr f) (fun i w2 hi f2 => by simpa using trow_c t (by omega) (t.vs.getD i []) (by have := (hv.row i (by omega)).1; omega) _ _ _ rfl rfl _ w2 (hr0.ms.fr (f.trans f2 (by simp))) ((hro i (by omega)).fr (f.trans f2 (by simp))).toI)
    rwa [hall] at h
  refine cnv (vs := [_]) Tryz.func43 rfl rfl ?_
  all_goals refine tc_seq fun K1 hK1 => ?_; refine tc_region ?_; refine tl_e (e_box rfl rfl rfl) rfl (fun b1 _ => ?_); refine tl_q (y_assign rfl) rfl ?_; refine tl_nil ?_; ((refine hK1 ?_; try (clear hK1; clear K1)))
  all_goals refine tc_seq fun K2 hK2 => ?_; refine tc_region ?_; refine tl_q (y_loadW rfl (by repeat constructor) (by rfl)) rfl ?_; refine tl_q (y_fn (.cons rfl .nil) .nil) rfl ?_; refine tl_q (y_assign rfl) rfl ?_; refine tl_nil ?_; ((refine hK2 ?_; try (clear hK2; clear K2)))
  all_goals refine tc_seq fun K3 hK3 => ?_; refine tc_block ?_; refine tc_seq fun K4 hK4 => ?_; refine tc_region ?_; refine tl_q (y_field rfl) rfl ?_; refine tl_q (y_load1 rfl (by repeat constructor) (by rfl)) rfl ?_; refine tl_q (y_len rfl) rfl ?_; refine tl_q (y_gtr rfl rfl) rfl ?_; refine tl_q (y_move rfl) rfl ?_; ((refine tl_gs rfl rfl (fun hc => ?_) (fun hc => ?_) <;> (try simp only [qn1, qn2, qn3, qn4, qn5, qn6, qn7, qn8] at hc) <;> (first | (exfalso; omega) | refine tl_qg rfl rfl (y_field rfl) rfl ?_)))
  all_goals (refine tl_qg rfl rfl (y_load1 rfl (by repeat constructor) (by rfl)) rfl ?_); refine tl_qg rfl rfl (y_len rfl) rfl ?_; refine tl_qg rfl rfl (y_gtr rfl rfl) rfl ?_; refine tl_q (y_pick_f rfl rfl) rfl ?_; refine tl_q (y_move rfl) rfl ?_; ((refine tl_gs rfl rfl (fun hc => ?_) (fun hc => ?_) <;> (try simp only [qn1, qn2, qn3, qn4, qn5, qn6, qn7, qn8] at hc) <;> (first | (exfalso; omega) | refine tl_qg rfl rfl (y_field rfl) rfl ?_)))
  all_goals (refine tl_qg rfl rfl (y_load1 rfl (by repeat constructor) (by rfl)) rfl ?_); refine tl_qg rfl rfl (y_len rfl) rfl ?_; refine tl_qg rfl rfl (y_gtr rfl rfl) rfl ?_; refine tl_q (y_pick_f rfl rfl) rfl ?_; refine tl_q (y_assign rfl) rfl ?_; refine tl_nil ?_; ((refine hK4 ?_; try (clear hK4; clear K4)))
  all_goals (
   refine tc_cond rfl (fun hc => ?_) (fun hc => ?_)
   · try simp only [qn1, qn2, qn3, qn4, qn5, qn6, qn7, qn8] at hc
     all_goals ((exfalso; omega))
   · try simp only [qn1, qn2, qn3, qn4, qn5, qn6, qn7, qn8] at hc
     all_goals refine tc_seq fun K6 hK6 => ?_; refine tc_region ?_; refine tl_q (y_field rfl) rfl ?_; refine tl_q (y_load1 rfl (by repeat constructor) (by rfl)) rfl ?_; refine tl_e (e_callV rfl (.cons rfl (.cons rfl .nil)) (fun w' hw' => c1 w' (hw'.fr (w0 := w) (S := []) MI.m))) rfl (fun _ _ => ?_); refine tl_q (y_not rfl) rfl ?_; refine tl_q (y_move rfl) rfl ?_; refine tl_qg rfl rfl (y_field rfl) rfl ?_; refine tl_qg rfl rfl (y_load1 rfl (by repeat constructor) (by rfl)) rfl ?_; refine tl_eg rfl rfl rfl (e_callV rfl (.cons rfl (.cons rfl .nil)) (fun w' hw' => c2 w' (hw'.fr (w0 := w) (S := []) MI.m))) (fun _ _ => ?_); refine tl_qg rfl rfl (y_not rfl) rfl ?_; refine tl_q (y_pick_f rfl rfl) rfl ?_; refine tl_q (y_move rfl) rfl ?_; refine tl_qg rfl rfl (y_field rfl) rfl ?_; refine tl_qg rfl rfl (y_load1 rfl (by repeat constructor) (by rfl)) rfl ?_; refine tl_qg rfl rfl (y_len rfl) rfl ?_; refine tl_qg rfl rfl (y_field rfl) rfl ?_; refine tl_qg rfl rfl (y_load1 rfl (by repeat constructor) (by rfl)) rfl ?_; refine tl_qg rfl rfl (y_len rfl) rfl ?_; refine tl_qg rfl rfl (y_neq rfl rfl) rfl ?_; refine tl_q (y_pick_f rfl rfl) rfl ?_; refine tl_q (y_move rfl) rfl ?_; ((refine tl_gs rfl rfl (fun hc => ?_) (fun hc => ?_) <;> (try simp only [qn1, qn2, qn3, qn4, qn5, qn6, qn7, qn8] at hc) <;> (first | (exfalso; omega) | refine tl_qg rfl rfl (y_field rfl) rfl ?_)))
     all_goals (refine tl_qg rfl rfl (y_load1 rfl (by repeat constructor) (by rfl)) rfl ?_); refine tl_qg rfl rfl (y_move rfl) rfl ?_; refine tl_eg rfl rfl rfl (e_callV rfl (.cons rfl (.cons rfl .nil)) (fun w' hw' => c3 w' (hw'.fr (w0 := w) (S := []) MI.m))) (fun _ _ => ?_); refine tl_qg rfl rfl (y_not rfl) rfl ?_; refine tl_q (y_pick_f rfl rfl) rfl ?_; refine tl_q (y_assign rfl) rfl ?_; refine tl_nil ?_; ((refine hK6 ?_; try (clear hK6; clear K6)))
     all_goals (
      refine tc_cond rfl (fun hc => ?_) (fun hc => ?_)
      · try simp only [qn1, qn2, qn3, qn4, qn5, qn6, qn7, qn8] at hc
        all_goals ((exfalso; with_reducible exact btf hc))
      · try simp only [qn1, qn2, qn3, qn4, qn5, qn6, qn7, qn8] at hc
        all_goals refine tc_skip ?_; ((refine hK3 ?_; try (clear hK3; clear K3)))
        all_goals refine tc_seq fun K8 hK8 => ?_; refine tc_region ?_; refine tl_q (y_assign rfl) rfl ?_; refine tl_nil ?_; ((refine hK8 ?_; try (clear hK8; clear K8)))
        all_goals refine tc_ret ?_; (repeat (first | refine tk_then_ret ?_))
        all_goals (refine tk_ret rfl rfl (.cons (.tmp rfl) .nil) ?_)
        all_goals (
         exact fun w' hw' => ⟨rfl, hw'.fr (w0 := w) (S := []) MI.m⟩)))
theorem span_c (l : List Int) (h0 : 0 < l.length) (hl : (l.length : Int) ≤ 9223372036854775807) (sl : Value) (w : World) (hr : RdI w sl l) : CnV Tryz.prog 102 #[sl] w (.agg #[vi (l.getD 0 0), vi (lastL l)]) := by
  obtain ⟨ad, cap, b0, o, rfl, had, hcell⟩ := hr.open
  have had' := had h0
  refine cnv (vs := [_]) Tryz.func102 rfl rfl ?_
  all_goals refine tc_seq fun K1 hK1 => ?_; refine tc_region ?_; refine tl_e (e_allocN rfl) rfl (fun b2 _ => ?_); refine tl_nil ?_; ((refine hK1 ?_; try (clear hK1; clear K1)))
  all_goals refine tc_seq fun K2 hK2 => ?_; refine tc_draw (by kernel_rfl) ?_; refine tx_p 0 rfl (by kernel_rfl) (y_move rfl) rfl (fun _ _ _ h => h) (fun _ h => h) ?_; refine tx_p 1 rfl (by kernel_rfl) (y_index rfl rfl (by omega) had') rfl (fun _ _ _ h => h) (fun _ h => h) ?_; refine tx_q 2 rfl (by kernel_rfl) (y_load1o (v := vi (l.getD 0 0)) rfl (fun w' hw' => hcell w' (hw'.fr (w0 := w) (S := []) MI.m) 0 (by omega))) rfl (fun _ _ _ h => h) (fun _ h => h) ?_; refine tx_p 3 rfl (by kernel_rfl) (y_move rfl) rfl (fun _ _ _ h => h) (fun _ h => h) ?_; refine tx_p 4 rfl (by kernel_rfl) (y_move rfl) rfl (fun _ _ _ h => h) (fun _ h => h) ?_; refine tx_q 5 rfl (by kernel_rfl) (y_len rfl) rfl (fun _ _ _ h => h) (fun _ h => h) ?_; refine tx_p 6 rfl (by kernel_rfl) (y_sub rfl rfl (by omega)) rfl (fun _ _ _ h => h) (fun _ h => h) ?_; refine tx_p 7 rfl (by kernel_rfl) (y_index rfl rfl (by omega) had') rfl (fun _ _ _ h => h) (fun _ h => h) ?_; ((refine tx_q 8 rfl (by kernel_rfl) (y_load1o (v := vi (lastL l)) rfl (fun w' hw' => by rw [show Int.toNat ((l.length : Int) - 1) * 1 = l.length - 1 from by omega]; exact hcell w' (hw'.fr (w0 := w) (S := []) MI.m) (l.length - 1) (by omega))) rfl (fun _ _ _ h => h) (fun _ h => h) ?_))
  all_goals (refine tx_p 9 rfl (by kernel_rfl) (y_build_g (by repeat constructor)) rfl (fun _ _ _ h => h) (fun _ h => h) ?_); refine tx_e 10 rfl (by kernel_rfl) rfl (e_storeW rfl rfl (by repeat constructor) (by rfl) (by rfl) (by simp [Value.oneCell'])) (.inl (by kernel_rfl)) (fun _ _ => ?_); refine tx_done (by kernel_rfl) ?_; ((refine hK2 ?_; try (clear hK2; clear K2)))
  all_goals refine tc_ret ?_; (repeat (first | refine tk_then_ret ?_))
  all_goals (refine tk_ret rfl rfl (.cons (.agg inferInstance rfl (by repeat constructor) (by rfl)) .nil) ?_)
  all_goals (
   exact fun w' hw' => ⟨rfl, hw'.fr (w0 := w) (S := []) MI.m⟩)
theorem thas_c (lo hi n : Int) (w : World) : CnV Tryz.prog 117 #[.agg #[vi lo, vi hi], vi n] w (.bool (decide (lo ≤ n ∧ n ≤ hi))) := by
  refine cnv (vs := [_, _]) Tryz.func117 rfl rfl ?_
  all_goals refine tc_seq fun K1 hK1 => ?_; refine tc_region ?_; refine tl_e (e_box rfl rfl rfl) rfl (fun b2 _ => ?_); refine tl_q (y_assign rfl) rfl ?_; refine tl_nil ?_; ((refine hK1 ?_; try (clear hK1; clear K1)))
  all_goals refine tc_seq fun K2 hK2 => ?_; refine tc_region ?_; refine tl_q (y_move rfl) rfl ?_; refine tl_q (y_field rfl) rfl ?_; refine tl_q (y_load1 rfl (by repeat constructor) (by rfl)) rfl ?_; refine tl_q (y_field rfl) rfl ?_; refine tl_q (y_load1 rfl (by repeat constructor) (by rfl)) rfl ?_; refine tl_e (e_callV rfl (.cons rfl (.cons rfl (.cons rfl .nil))) (fun w' _ => twithin_c _ _ _ w')) rfl (fun _ _ => ?_); refine tl_q (y_assign rfl) rfl ?_; refine tl_nil ?_; ((refine hK2 ?_; try (clear hK2; clear K2)))
  all_goals refine tc_ret ?_; (repeat (first | refine tk_then_ret ?_))
  all_goals (refine tk_ret rfl rfl (.cons (.tmp rfl) .nil) ?_)
  all_goals (
   exact fun w' hw' => ⟨rfl, hw'.fr (w0 := w) (S := []) MI.m⟩)
theorem tholds_c (a b lo hi : Int) (w : World) : CnV Tryz.prog 103 #[.agg #[vi a, vi b], .agg #[vi lo, vi hi]] w (.bool (decide (lo ≤ hi ∧ (a ≤ lo ∧ lo ≤ b) ∧ a ≤ hi ∧ hi ≤ b))) := by
  refine cnv (vs := [_, _]) Tryz.func103 rfl rfl ?_
  all_goals refine tc_seq fun K1 hK1 => ?_; refine tc_region ?_; refine tl_e (e_box rfl rfl rfl) rfl (fun b2 _ => ?_); refine tl_e (e_box rfl rfl rfl) rfl (fun b3 _ => ?_); refine tl_q (y_assign rfl) rfl ?_; refine tl_nil ?_; ((refine hK1 ?_; try (clear hK1; clear K1)))
  all_goals refine tc_seq fun K2 hK2 => ?_; refine tc_region ?_; refine tl_q (y_field rfl) rfl ?_; refine tl_q (y_load1 rfl (by repeat constructor) (by rfl)) rfl ?_; refine tl_q (y_field rfl) rfl ?_; refine tl_q (y_load1 rfl (by repeat constructor) (by rfl)) rfl ?_; refine tl_q (y_leq rfl rfl) rfl ?_; refine tl_q (y_move rfl) rfl ?_; ((refine tl_gs rfl rfl (fun hc => ?_) (fun hc => ?_) <;> (try simp only [qn1, qn2, qn3, qn4, qn5, qn6, qn7, qn8] at hc) <;> (first | refine tl_sk rfl rfl rfl rfl ?_ | refine tl_qg rfl rfl (y_loadW rfl (by repeat constructor) (by rfl)) rfl ?_)))
  all_goals (first | refine tl_sk rfl rfl rfl rfl ?_ | refine tl_qg rfl rfl (y_field rfl) rfl ?_); (first | refine tl_sk rfl rfl rfl rfl ?_ | refine tl_qg rfl rfl (y_load1 rfl (by repeat constructor) (by rfl)) rfl ?_); (first | refine tl_sk rfl rfl rfl rfl ?_ | refine tl_eg rfl rfl rfl (e_callV rfl (.cons rfl (.cons rfl .nil)) (fun w' _ => thas_c _ _ _ w')) (fun _ _ => ?_)); (first | refine tl_q (y_pick_t rfl rfl) rfl ?_ | refine tl_q (y_pick_f rfl rfl) rfl ?_); refine tl_q (y_move rfl) rfl ?_; ((first | refine tl_sk rfl rfl rfl rfl ?_ | (refine tl_gs rfl rfl (fun hc => ?_) (fun hc => ?_) <;> (try simp only [qn1, qn2, qn3, qn4, qn5, qn6, qn7, qn8] at hc) <;> (first | refine tl_sk rfl rfl rfl rfl ?_ | refine tl_qg rfl rfl (y_loadW rfl (by repeat constructor) (by rfl)) rfl ?_))))
  all_goals (first | refine tl_sk rfl rfl rfl rfl ?_ | refine tl_qg rfl rfl (y_field rfl) rfl ?_); (first | refine tl_sk rfl rfl rfl rfl ?_ | refine tl_qg rfl rfl (y_load1 rfl (by repeat constructor) (by rfl)) rfl ?_); (first | refine tl_sk rfl rfl rfl rfl ?_ | refine tl_eg rfl rfl rfl (e_callV rfl (.cons rfl (.cons rfl .nil)) (fun w' _ => thas_c _ _ _ w')) (fun _ _ => ?_)); (first | refine tl_q (y_pick_t rfl rfl) rfl ?_ | refine tl_q (y_pick_f rfl rfl) rfl ?_); refine tl_q (y_assign rfl) rfl ?_; refine tl_nil ?_; ((refine hK2 ?_; try (clear hK2; clear K2)))
  all_goals refine tc_ret ?_; (repeat (first | refine tk_then_ret ?_))
  all_goals (refine tk_ret rfl rfl (.cons (.tmp rfl) .nil) ?_)
  all_goals (
   refine fun w' hw' => ⟨congrArg (fun b => Ending.returned (Value.bool b)) ?_, hw'.fr (w0 := w) (S := []) MI.m⟩
   first
   | exact (decide_eq_false (by omega)).symm
   | exact decide_eq_decide.2 (by omega)
   | exact (decide_eq_true (by omega)).symm)
theorem cell_c (l : List Int) (h2 : 2 ≤ l.length) (hl : (l.length : Int) ≤ 9223372036854775807) (n : Int) (h0 : l.getD 0 0 ≤ n) (sl : Value) (w : World) (hr : RdI w sl l) : CnX Tryz.prog 126 #[sl, vi n] w [] (fun i : Nat => vi i) (fun i _ => IsCell l n i) := by
  obtain ⟨ad, cap, b0, o, rfl, had, hcell⟩ := hr.open
  have had' := had (by omega)
  refine cnx0 (vs := [_, _]) Tryz.func126 rfl rfl ?_
  all_goals refine tc_seq fun K1 hK1 => ?_; refine tc_region ?_; refine tl_q (y_assign rfl) rfl ?_; refine tl_nil ?_; ((refine hK1 ?_; try (clear hK1; clear K1)))
  all_goals refine tc_seq fun K2 hK2 => ?_; refine tc_region ?_; refine tl_q (y_assign rfl) rfl ?_; refine tl_nil ?_; ((refine hK2 ?_; try (clear hK2; clear K2)))
  all_goals refine tc_seq fun K3 hK3 => ?_; refine tc_block ?_
  all_goals (
   refine tc_loop (fun i : Nat => i + 2 ≤ l.length ∧ l.getD i 0 ≤ n) (fun i => [(0, .slice ad l.length cap), (1, vi n), (5, vi i)]) (fun _ => [(w, [])]) (fun _ => []) (fun i => l.length - i) ?_ ?_
   · exact tk_start 0 ⟨by omega, h0⟩ (.cons rfl (.cons rfl (.cons rfl .nil))) (fun _ h => h)
   · rintro i ⟨hi1, hi2⟩
     all_goals refine tc_seq fun K4 hK4 => ?_; refine tc_seq fun K5 hK5 => ?_; refine tc_region ?_; refine tl_q (y_move rfl) rfl ?_; refine tl_q (y_add rfl rfl (by omega)) rfl ?_; refine tl_q (y_move rfl) rfl ?_; refine tl_q (y_len rfl) rfl ?_; refine tl_q (y_lss rfl rfl) rfl ?_; refine tl_q (y_move rfl) rfl ?_; ((refine tl_gs rfl rfl (fun hc => ?_) (fun hc => ?_) <;> (try simp only [qn1, qn2, qn3, qn4, qn5, qn6, qn7, qn8] at hc) <;> (first | refine tl_sk rfl rfl rfl rfl ?_ | refine tl_qg rfl rfl (y_move rfl) rfl ?_)))
     all_goals (first | refine tl_sk rfl rfl rfl rfl ?_ | refine tl_qg rfl rfl (y_move rfl) rfl ?_); (first | refine tl_sk rfl rfl rfl rfl ?_ | refine tl_qg rfl rfl (y_add rfl rfl (by omega)) rfl ?_); (first | refine tl_sk rfl rfl rfl rfl ?_ | refine tl_qg rfl rfl (y_index rfl rfl (by omega) had') rfl ?_); ((first | refine tl_sk rfl rfl rfl rfl ?_ | refine tl_qg rfl rfl (y_load1o (v := vi (l.getD (i + 1) 0)) rfl (fun w' hw' => by rw [show Int.toNat ((i : Int) + 1) * 1 = i + 1 from by omega]; exact hcell w' (hw'.fr (w0 := w) (S := []) MI.m) (i + 1) (by omega))) rfl ?_))
     all_goals (first | refine tl_sk rfl rfl rfl rfl ?_ | refine tl_qg rfl rfl (y_move rfl) rfl ?_); (first | refine tl_sk rfl rfl rfl rfl ?_ | refine tl_qg rfl rfl (y_leq rfl rfl) rfl ?_); (first | refine tl_q (y_pick_t rfl rfl) rfl ?_ | refine tl_q (y_pick_f rfl rfl) rfl ?_); refine tl_nil ?_; ((refine hK5 ?_; try (clear hK5; clear K5)))
     all_goals (
      refine tc_cond rfl (fun hc => ?_) (fun hc => ?_)
      · try simp only [qn1, qn2, qn3, qn4, qn5, qn6, qn7, qn8] at hc
        all_goals ((first | (exfalso; with_reducible exact bft hc) | skip))
        all_goals refine tc_skip ?_; ((refine hK4 ?_; try (clear hK4; clear K4)))
        all_goals refine tc_block ?_; refine tc_region ?_; refine tl_q (y_move rfl) rfl ?_; refine tl_q (y_add rfl rfl (by omega)) rfl ?_; refine tl_q (y_assign rfl) rfl ?_; refine tl_nil ?_
        all_goals (
         repeat (refine tk_ib ?_)
         exact tk_round (i + 1) ⟨by omega, by omega⟩ (by omega) (.cons rfl (.cons rfl (.cons rfl .nil))) (fun _ h => h))
      · try simp only [qn1, qn2, qn3, qn4, qn5, qn6, qn7, qn8] at hc
        all_goals refine tc_exit ?_; ((refine hK3 ?_; try (clear hK3; clear K3)))
        all_goals refine tc_seq fun K6 hK6 => ?_; refine tc_region ?_; refine tl_q (y_move rfl) rfl ?_; refine tl_q (y_assign rfl) rfl ?_; refine tl_nil ?_; ((refine hK6 ?_; try (clear hK6; clear K6)))
        all_goals refine tc_ret ?_; (repeat (first | refine tk_then_ret ?_))
        all_goals (refine tk_ret rfl rfl (.cons (.tmp rfl) .nil) ?_)
        all_goals (
         exact fun w' hw' => ⟨i, rfl, hw'.fr (w0 := w) (S := []) MI.m, by omega, hi2, by omega⟩)))
end Go.Sp
