
/-
  Package sample: whether there is a way; in which hours the bottle can be open.
-/
import Derived.Test.YtgfpkpiigkcndaaGreatM1
set_option linter.unusedVariables false
set_option linter.unusedSimpArgs false
set_option linter.deprecated false
namespace Go.Sp
open Go Go.Proofs
/-- A sample at work whose map is done. -/
structure Wd (w : World) (s : Smp) (tv pv gv : Value) (b : Int) (c : List Int) (bw r : Nat) (es : Array MapEntry) (ck : Nat) : Prop where
  wk : Wk w s tv pv gv b c bw r
  hm : w.heap[r]? = some (.map es ck)
  kb : KeyB es.toList
  fb : ∀ j x, findB es.toList j x = restM s b c (s.L + 1).toNat j x
theorem Wd.fr {w w' : World} {s : Smp} {tv pv gv : Value} {b : Int} {c : List Int} {bw r : Nat} {es : Array MapEntry} {ck : Nat} (h : Wd w s tv pv gv b c bw r es ck) (f : Fr [] w w') : Wd w' s tv pv gv b c bw r es ck := ⟨h.wk.fr f, f.keep h.hm, h.kb, h.fb⟩
theorem restM_at {s : Smp} {b : Int} {c : List Int} {h : Nat} (hh : (h : Int) ≤ s.L) (x : Bool) : restM s b c (s.L + 1).toNat ((h : Int) + 1) x = rstF s b c (s.L - h).toNat x := by
  unfold restM; rw [if_pos (by omega)]; congr 1; omega
theorem restM_ini {s : Smp} {b : Int} {c : List Int} (hh : 0 ≤ s.L) (x : Bool) : restM s b c (s.L + 1).toNat 0 x = rstF s b c (s.L + 1).toNat x := by
  unfold restM; rw [if_pos (by omega)]; congr 1; omega
theorem begin_c (bw : Nat) (w : World) : CnV Tryz.prog 110 #[ptr bw] w (.agg #[vi 0, .bool false]) := by
  refine cnv (vs := [_]) Tryz.func110 rfl rfl ?_
  all_goals refine tc_seq fun K1 hK1 => ?_; refine tc_region ?_; refine tl_e (e_allocN rfl) rfl (fun b2 _ => ?_); refine tl_nil ?_; ((refine hK1 ?_; try (clear hK1; clear K1)))
  all_goals refine tc_seq fun K2 hK2 => ?_; refine tc_region ?_; refine tl_q (y_build_0) rfl ?_; refine tl_e (e_storeW rfl rfl (by repeat constructor) (by rfl) (by rfl) (by simp [Value.oneCell'])) rfl (fun _ _ => ?_); refine tl_nil ?_; ((refine hK2 ?_; try (clear hK2; clear K2)))
  all_goals refine tc_ret ?_; (repeat (first | refine tk_then_ret ?_))
  all_goals (refine tk_ret rfl rfl (.cons (.agg inferInstance rfl (by repeat constructor) (by rfl)) .nil) ?_)
  all_goals (
   exact fun w' hw' => ⟨rfl, hw'.fr (by simp)⟩)
def canF (s : Smp) (b : Int) (c : List Int) : Bool := (rstF s b c (s.L + 1).toNat false).isSome
theorem can_c (s : Smp) (hl : 0 ≤ s.L) (b : Int) (c : List Int) (hcl : c.length = 10) (tv pv gv : Value) (bw r : Nat) (es : Array MapEntry) (ck : Nat) (w : World) (hT : Wd w s tv pv gv b c bw r es ck) : CnV Tryz.prog 108 #[ptr bw] w (.bool (canF s b c)) := by
  refine cnv (vs := [_]) Tryz.func108 rfl rfl ?_
  all_goals refine tc_seq fun K1 hK1 => ?_; refine tc_region ?_; refine tl_q (y_assign rfl) rfl ?_; refine tl_nil ?_; ((refine hK1 ?_; try (clear hK1; clear K1)))
  all_goals refine tc_seq fun K2 hK2 => ?_; refine tc_draw (by kernel_rfl) ?_; refine tx_p 0 rfl (by kernel_rfl) (y_move rfl) rfl (fun _ _ _ h => h) (fun _ h => h) ?_; refine tx_p 1 rfl (by kernel_rfl) (y_nil rfl) rfl (fun _ _ _ h => h) (fun _ h => h) ?_; refine tx_p 2 rfl (by kernel_rfl) (y_field rfl) rfl (fun _ _ _ h => h) (fun _ h => h) ?_; refine tx_q 3 rfl (by kernel_rfl) (y_load1o (v := .map (some r)) rfl (fun w' hw' => wk_map ((hT.fr (hw'.fr (w0 := w) (S := []) MI.m)).wk.hw) hcl)) rfl (fun _ _ _ h => h) (fun _ h => h) ?_; refine tx_p 4 rfl (by kernel_rfl) (y_move rfl) rfl (fun _ _ _ h => h) (fun _ h => h) ?_; refine tx_e 5 rfl (by kernel_rfl) rfl (e_callV rfl (.cons rfl .nil) (fun w' _ => begin_c bw w')) (.inr fun _ _ h => h) (fun _ _ => ?_); refine tx_q 6 rfl (by kernel_rfl) (y_lookupBo rfl rfl (fun w' hw' => (hT.fr (hw'.fr (w0 := w) (S := []) MI.m)).hm) hT.kb ((hT.fb _ _).trans (restM_ini hl false))) rfl (fun _ _ _ h => h) (fun _ h => h) ?_; refine tx_p 7 rfl (by kernel_rfl) (y_move rfl) rfl (fun _ _ _ h => h) (fun _ h => h) ?_; refine tx_p 8 rfl (by kernel_rfl) (y_extract rfl rfl) rfl (fun _ _ _ h => h) (fun _ h => h) ?_; refine tx_p 9 rfl (by kernel_rfl) (y_extract rfl rfl) rfl (fun _ _ _ h => h) (fun _ h => h) ?_; refine tx_p 10 rfl (by kernel_rfl) (y_assign rfl) rfl (fun _ _ _ h => h) (fun _ h => h) ?_; refine tx_p 11 rfl (by kernel_rfl) (y_assign rfl) rfl (fun _ _ _ h => h) (fun _ h => h) ?_; refine tx_done (by kernel_rfl) ?_; ((refine hK2 ?_; try (clear hK2; clear K2)))
  all_goals refine tc_seq fun K3 hK3 => ?_; refine tc_region ?_; refine tl_q (y_move rfl) rfl ?_; refine tl_q (y_assign rfl) rfl ?_; refine tl_nil ?_; ((refine hK3 ?_; try (clear hK3; clear K3)))
  all_goals refine tc_ret ?_; (repeat (first | refine tk_then_ret ?_))
  all_goals (refine tk_ret rfl rfl (.cons (.tmp rfl) .nil) ?_)
  all_goals (
   exact fun w' hw' => ⟨rfl, hw'.fr (by simp)⟩)
def spE (h : Int) (x : Bool) : List Value := [vi h, .bool x]
theorem spE_len (h : Int) (x : Bool) : (spE h x).length = 2 := rfl
theorem spE_one (h : Int) (x : Bool) : one' (spE h x) := fun u hu => by simp only [spE, List.mem_cons, List.not_mem_nil, or_false] at hu; rcases hu with rfl | rfl <;> rfl
theorem RdS.at {α : Type} {k : Nat} {enc : α → List Value} {w : World} {ad : Option Addr} {cap b o : Nat} {xs : List α} (h : RdS k enc w (.slice ad xs.length cap) xs) (had : ad = some ⟨b, o, none⟩) (hk : ∀ x, (enc x).length = k) (d : α) {i : Nat} (hi : i < xs.length) : CA (fun n => w.cell? ⟨b, n, none⟩) (o + i * k) k (enc (xs.getD i d)) := by
  obtain ⟨ad2, cp2, b2, o2, e1, e2, e3⟩ := h.open hk d
  cases e1
  have e4 := e2 (by omega)
  rw [had] at e4
  cases e4
  exact e3 w [] (Fr.refl _ _) (by simp) i hi
theorem okE_pos {α : Type} {k : Nat} {xs : List α} {oo : OwnB} (h : okE k xs oo) (hp : 0 < xs.length) : ∃ b, (ouA oo).1 = some ⟨b, 0, none⟩ := by
  rcases oo with _ | ⟨b, cap, junk⟩
  · have : xs = [] := h
    rw [this] at hp; simp at hp
  · exact ⟨b, rfl⟩
theorem NewS.sep {w : World} {v : Value} {bs : List (World × List Nat)} {H : List (Nat × Obj)} (h : NewS w v) (hw : HG bs H w) : sepS v (H.map Prod.fst) := fun p m c e hm => by
  obtain ⟨q, hq, e2⟩ := List.mem_map.1 hm
  have := hw.lt hq
  have := h p m c e
  omega
theorem indexSp_c (h : Int) (x : Bool) (xs : List Bool) (hx : (xs.length : Int) ≤ 9000000000000000000) (sl : Value) (w : World) (hr : RdS 2 (spE h) w sl xs) : CnV Tryz.prog 149 #[sl, .agg #[vi h, .bool x]] w (vi (idxG xs (fun y => decide (x = y)))) := by
  obtain ⟨ad, cp, b0, o, rfl, had, hcell⟩ := hr.open (spE_len h) false
  refine cnv (vs := [_, _]) Tryz.func149 rfl rfl ?_
  all_goals refine tc_seq fun K1 hK1 => ?_; refine tc_region ?_; refine tl_e (e_box rfl rfl rfl) rfl (fun b3 _ => ?_); refine tl_q (y_assign rfl) rfl ?_; refine tl_nil ?_; ((refine hK1 ?_; try (clear hK1; clear K1)))
  all_goals refine tc_seq fun K2 hK2 => ?_; refine tc_seq fun K3 hK3 => ?_; refine tc_region ?_; refine tl_q (y_move rfl) rfl ?_; refine tl_q (y_len rfl) rfl ?_; refine tl_q (y_move rfl) rfl ?_; refine tl_nil ?_; ((refine hK3 ?_; try (clear hK3; clear K3)))
  all_goals refine tc_block ?_
  all_goals (
   refine tc_loop (fun k : Nat => k ≤ xs.length ∧ ∀ j, j < k → decide (x = xs.getD j false) = false) (fun k => [(0, .slice ad xs.length cp), (3, ptr b3), (7, vi xs.length), (8, vi k)]) (fun _ => [(w, [])]) (fun _ => [(b3, .cells #[vi h, .bool x] 162 (0, 0))]) (fun k => xs.length - k) ?_ ?_
   · exact tk_start 0 ⟨Nat.zero_le _, fun j hj => absurd hj (Nat.not_lt_zero j)⟩ (.cons rfl (.cons rfl (.cons rfl (.cons rfl .nil)))) (fun _ h => h.subl SB.s SB.s)
   · rintro k ⟨hk, hj⟩
     all_goals refine tc_seq fun K4 hK4 => ?_; refine tc_region ?_; refine tl_q (y_lss rfl rfl) rfl ?_; refine tl_nil ?_; ((refine hK4 ?_; try (clear hK4; clear K4)))
     all_goals refine tc_seq fun K5 hK5 => ?_
     all_goals (
      refine tc_cond rfl (fun hc => ?_) (fun hc => ?_)
      · try simp only [true_and, decide_eq_true_eq, decide_eq_false_iff_not, Int.not_lt, Int.not_le] at hc
        all_goals refine tc_skip ?_; ((refine hK5 ?_; try (clear hK5; clear K5)))
        all_goals refine tc_seq fun K6 hK6 => ?_; refine tc_block ?_; refine tc_seq fun K7 hK7 => ?_; refine tc_region ?_; refine tl_q (y_move rfl) rfl ?_; refine tl_q (y_assign rfl) rfl ?_; refine tl_nil ?_; ((refine hK7 ?_; try (clear hK7; clear K7)))
        all_goals refine tc_seq fun K8 hK8 => ?_
        have had' := had (by omega)
        all_goals refine tc_draw (by kernel_rfl) ?_; refine tx_q 0 rfl (by kernel_rfl) (y_loadW rfl (by repeat constructor) (by rfl)) rfl (fun _ _ _ h => h) (fun _ h => h) ?_; refine tx_p 1 rfl (by kernel_rfl) (y_move rfl) rfl (fun _ _ _ h => h) (fun _ h => h) ?_; refine tx_p 2 rfl (by kernel_rfl) (y_move rfl) rfl (fun _ _ _ h => h) (fun _ h => h) ?_; refine tx_p 3 rfl (by kernel_rfl) (y_index rfl rfl (by omega) had') rfl (fun _ _ _ h => h) (fun _ h => h) ?_; ((refine tx_q 4 rfl (by kernel_rfl) (y_loadNo (n := 2) (vs := [vi h, .bool (xs.getD k false)]) rfl (fun w' hw' => by rw [show Int.toNat (k : Int) * 2 = k * 2 from by omega]; exact hcell w' [] (hw'.fr (w0 := w) (S := []) MI.m) (by simp) k (by omega))) rfl (fun _ _ _ h => h) (fun _ h => h) ?_))
        all_goals (refine tx_p 5 rfl (by kernel_rfl) (y_eqlIB rfl rfl) rfl (fun _ _ _ h => h) (fun _ h => h) ?_); refine tx_done (by kernel_rfl) ?_; ((refine hK8 ?_; try (clear hK8; clear K8)))
        all_goals (
         refine tc_cond rfl (fun hc => ?_) (fun hc => ?_)
         · try simp only [true_and, decide_eq_true_eq, decide_eq_false_iff_not, Int.not_lt, Int.not_le] at hc
           all_goals refine tc_seq fun K9 hK9 => ?_; refine tc_region ?_; refine tl_q (y_move rfl) rfl ?_; refine tl_q (y_assign rfl) rfl ?_; refine tl_nil ?_; ((refine hK9 ?_; try (clear hK9; clear K9)))
           all_goals refine tc_ret ?_; (repeat (first | refine tk_then_ret ?_ | refine tk_block_ret ?_))
           all_goals (refine tk_ret rfl rfl (.cons (.tmp rfl) .nil) ?_)
           all_goals (
            first | exact fun w' hw' => ⟨by rw [idxG_hit (k := k) (d := false) (by omega) (decide_eq_true hc) hj]; rfl, hw'.fr (by simp)⟩ | exact fun w' hw' => ⟨by rw [idxG_miss (d := false) (fun j hjj => hj j (by omega))]; rfl, hw'.fr (by simp)⟩)
         · try simp only [true_and, decide_eq_true_eq, decide_eq_false_iff_not, Int.not_lt, Int.not_le] at hc
           all_goals refine tc_skip ?_; ((refine hK6 ?_; try (clear hK6; clear K6)))
           all_goals refine tc_region ?_; refine tl_q (y_add rfl rfl (by omega)) rfl ?_; refine tl_q (y_move rfl) rfl ?_; refine tl_nil ?_
           all_goals (
            exact tk_round (k + 1) ⟨by omega, fun j hj' => by rcases Nat.lt_succ_iff_lt_or_eq.1 hj' with h | rfl; exact hj j h; exact decide_eq_false hc⟩ (by omega) (.cons rfl (.cons rfl (.cons rfl (.cons rfl .nil)))) (fun _ h => h.subl SB.s SB.s)))
      · try simp only [true_and, decide_eq_true_eq, decide_eq_false_iff_not, Int.not_lt, Int.not_le] at hc
        all_goals refine tc_exit ?_; ((refine hK2 ?_; try (clear hK2; clear K2)))
        all_goals refine tc_seq fun K10 hK10 => ?_; refine tc_region ?_; refine tl_q (y_assign rfl) rfl ?_; refine tl_nil ?_; ((refine hK10 ?_; try (clear hK10; clear K10)))
        all_goals refine tc_ret ?_; (repeat (first | refine tk_then_ret ?_))
        all_goals (refine tk_ret rfl rfl (.cons (.tmp rfl) .nil) ?_)
        all_goals (
         first | exact fun w' hw' => ⟨by rw [idxG_hit (k := k) (d := false) (by omega) (decide_eq_true hc) hj]; rfl, hw'.fr (by simp)⟩ | exact fun w' hw' => ⟨by rw [idxG_miss (d := false) (fun j hjj => hj j (by omega))]; rfl, hw'.fr (by simp)⟩)))
theorem containsSp_c (h : Int) (x : Bool) (xs : List Bool) (hx : (xs.length : Int) ≤ 9000000000000000000) (sl : Value) (w : World) (hr : RdS 2 (spE h) w sl xs) : CnV Tryz.prog 137 #[sl, .agg #[vi h, .bool x]] w (.bool (xs.any fun y => decide (x = y))) := by
  refine cnv (vs := [_, _]) Tryz.func137 rfl rfl ?_
  all_goals refine tc_seq fun K1 hK1 => ?_; refine tc_region ?_; refine tl_e (e_box rfl rfl rfl) rfl (fun b3 _ => ?_); refine tl_q (y_assign rfl) rfl ?_; refine tl_nil ?_; ((refine hK1 ?_; try (clear hK1; clear K1)))
  all_goals refine tc_seq fun K2 hK2 => ?_; refine tc_region ?_; refine tl_q (y_move rfl) rfl ?_; refine tl_q (y_loadW rfl (by repeat constructor) (by rfl)) rfl ?_; refine tl_e (e_callV rfl (.cons rfl (.cons rfl .nil)) (fun w' hw' => indexSp_c h x xs hx _ w' (hr.fr (hw'.fr (by simp))))) rfl (fun _ _ => ?_); refine tl_q (y_geq rfl rfl) rfl ?_; refine tl_q (y_assign rfl) rfl ?_; refine tl_nil ?_; ((refine hK2 ?_; try (clear hK2; clear K2)))
  all_goals refine tc_ret ?_; (repeat (first | refine tk_then_ret ?_))
  all_goals (refine tk_ret rfl rfl (.cons (.tmp rfl) .nil) ?_)
  all_goals (
   exact fun w' hw' => ⟨by rw [← idxG_any]; rfl, hw'.fr (by simp)⟩)
def ddB (l : List Bool) : List Bool := l.foldl (fun acc x => if (acc.any fun y => decide (x = y)) = true then acc else acc ++ [x]) []
theorem ddB_snoc (l : List Bool) (x : Bool) : ddB (l ++ [x]) = if ((ddB l).any fun y => decide (x = y)) = true then ddB l else ddB l ++ [x] := by simp [ddB]
/-- Steps from which one can go on. -/
def onL (s : Smp) (b : Int) (c : List Int) (h : Nat) (x : Bool) (n : Nat) : List (Bool × Int) := ((stepL s b h (stB s c h) x).take n).filter fun y => (rstF s b c (s.L - h).toNat y.1).isSome
def cndN (s : Smp) (b : Int) (c : List Int) (h : Nat) (now : List Bool) (i j : Nat) : List (Bool × Int) :=
  ((now.take i).flatMap fun x => onL s b c h x (stepL s b h (stB s c h) x).length) ++ onL s b c h (now.getD i false) j
abbrev cnd (s : Smp) (b : Int) (c : List Int) (h : Nat) (now : List Bool) : List (Bool × Int) := (now.flatMap fun x => onL s b c h x (stepL s b h (stB s c h) x).length)
def latN (s : Smp) (b : Int) (c : List Int) (h : Nat) (now : List Bool) (i j : Nat) : List Bool := ddB ((cndN s b c h now i j).map Prod.fst)
def anyN (s : Smp) (b : Int) (c : List Int) (h : Nat) (now : List Bool) (i j : Nat) : Bool := (cndN s b c h now i j).any fun y => decide (y.2 = 1)
def nowN (s : Smp) (b : Int) (c : List Int) : Nat → List Bool
  | 0 => [false]
  | h + 1 => ddB ((cnd s b c h (nowN s b c h)).map Prod.fst)
def opnH (s : Smp) (b : Int) (c : List Int) (h : Nat) : Bool := (cnd s b c h (nowN s b c h)).any fun y => decide (y.2 = 1)
def outN (s : Smp) (b : Int) (c : List Int) (h : Nat) (v : Bool) : List Bool := (List.range 10).map fun i => if i < h then opnH s b c i else if i = h then v else false
abbrev opnL (s : Smp) (b : Int) (c : List Int) : List Bool := outN s b c (s.L + 1).toNat false
theorem outN_len (s : Smp) (b : Int) (c : List Int) (h : Nat) (v : Bool) : (outN s b c h v).length = 10 := by simp [outN]
theorem outN_get {s : Smp} {b : Int} {c : List Int} {h : Nat} {v : Bool} {i : Nat} (hi : i < 10) : (outN s b c h v).getD i false = if i < h then opnH s b c i else if i = h then v else false := by
  rw [List.getD_eq_getElem?_getD, outN, List.getElem?_map, List.getElem?_range hi]; rfl
theorem outN_set {s : Smp} {b : Int} {c : List Int} {h : Nat} {v v' : Bool} (hh : h < 10) : (outN s b c h v).set h v' = outN s b c h v' := by
  apply List.ext_getElem?
  intro i
  unfold outN
  rw [List.getElem?_set, List.getElem?_map, List.getElem?_map]
  by_cases hi : i < 10
  · rw [List.getElem?_range hi]
    by_cases he : h = i
    · subst he; simp [hi]
    · rw [if_neg he]; simp only [Option.map_some]
      have : ¬ i = h := fun g => he g.symm
      simp [this]
  · rw [List.getElem?_eq_none (by simp; omega)]
    split
    · rename_i he; omega
    · rfl
theorem outN_up {s : Smp} {b : Int} {c : List Int} {h : Nat} : outN s b c h (opnH s b c h) = outN s b c (h + 1) false := by
  unfold outN
  refine List.map_congr_left fun i _ => ?_
  by_cases h1 : i < h
  · rw [if_pos h1, if_pos (by omega)]
  · rw [if_neg h1]
    by_cases h2 : i = h
    · subst h2; rw [if_pos rfl, if_pos (by omega)]
    · rw [if_neg h2, if_neg (by omega)]; split <;> rfl
theorem onL_no {s : Smp} {b : Int} {c : List Int} {h : Nat} {x : Bool} {j : Nat} (hj : j < (stepL s b h (stB s c h) x).length) (hn : (rstF s b c (s.L - h).toNat ((stepL s b h (stB s c h) x).getD j (false, 0)).1).isSome = false) : onL s b c h x (j + 1) = onL s b c h x j := by
  unfold onL
  rw [takeG_succ (d := (false, 0)) hj, List.filter_append, List.filter_cons, if_neg (by rw [hn]; simp)]; simp
theorem onL_yes {s : Smp} {b : Int} {c : List Int} {h : Nat} {x : Bool} {j : Nat} (hj : j < (stepL s b h (stB s c h) x).length) (hn : (rstF s b c (s.L - h).toNat ((stepL s b h (stB s c h) x).getD j (false, 0)).1).isSome = true) : onL s b c h x (j + 1) = onL s b c h x j ++ [(stepL s b h (stB s c h) x).getD j (false, 0)] := by
  unfold onL
  rw [takeG_succ (d := (false, 0)) hj, List.filter_append, List.filter_cons, if_pos hn]; simp
theorem cndN_no {s : Smp} {b : Int} {c : List Int} {h : Nat} {now : List Bool} {i j : Nat} (hj : j < (stepL s b h (stB s c h) (now.getD i false)).length) (hn : (rstF s b c (s.L - h).toNat ((stepL s b h (stB s c h) (now.getD i false)).getD j (false, 0)).1).isSome = false) : cndN s b c h now i (j + 1) = cndN s b c h now i j := by
  unfold cndN; rw [onL_no hj hn]
theorem cndN_yes {s : Smp} {b : Int} {c : List Int} {h : Nat} {now : List Bool} {i j : Nat} (hj : j < (stepL s b h (stB s c h) (now.getD i false)).length) (hn : (rstF s b c (s.L - h).toNat ((stepL s b h (stB s c h) (now.getD i false)).getD j (false, 0)).1).isSome = true) : cndN s b c h now i (j + 1) = cndN s b c h now i j ++ [(stepL s b h (stB s c h) (now.getD i false)).getD j (false, 0)] := by
  unfold cndN; rw [onL_yes hj hn, List.append_assoc]
theorem cndN_up {s : Smp} {b : Int} {c : List Int} {h : Nat} {now : List Bool} {i : Nat} (hi : i < now.length) : cndN s b c h now i (stepL s b h (stB s c h) (now.getD i false)).length = cndN s b c h now (i + 1) 0 := by
  unfold cndN
  rw [takeG_succ (d := false) hi, List.flatMap_append]
  simp [onL]
theorem cndN_0 {s : Smp} {b : Int} {c : List Int} {h : Nat} {now : List Bool} : cndN s b c h now 0 0 = [] := by simp [cndN, onL]
theorem cndN_end {s : Smp} {b : Int} {c : List Int} {h : Nat} {now : List Bool} : cndN s b c h now now.length 0 = cnd s b c h now := by
  have : onL s b c h (now.getD now.length false) 0 = [] := by simp [onL]
  unfold cndN; rw [List.take_length, this, List.append_nil]
theorem ddB_len (l : List Bool) : (ddB l).length ≤ 2 := by
  have h0 : ∀ (l acc : List Bool), acc.Nodup → (l.foldl (fun acc x => if (acc.any fun y => decide (x = y)) = true then acc else acc ++ [x]) acc).Nodup := fun l => by
    induction l with
    | nil => intro acc h; exact h
    | cons x l ih =>
      intro acc h
      rw [List.foldl_cons]
      refine ih _ ?_
      split
      · exact h
      · rename_i hx
        rw [List.nodup_append]
        refine ⟨h, by simp, fun a ha y hy e => hx ?_⟩
        obtain rfl := List.mem_singleton.1 hy
        exact List.any_eq_true.2 ⟨a, ha, decide_eq_true e.symm⟩
  have h : ∀ l : List Bool, (ddB l).Nodup := fun l => h0 l [] List.nodup_nil
  have h2 := h l
  generalize ddB l = d at h2
  match d, h2 with
  | [], _ => simp
  | [_], _ => simp
  | [_, _], _ => simp
  | x :: y :: z :: t, h2 =>
    simp only [List.nodup_cons, List.mem_cons, not_or] at h2
    cases x <;> cases y <;> cases z <;> simp_all
theorem nowN_len (s : Smp) (b : Int) (c : List Int) (h : Nat) : (nowN s b c h).length ≤ 2 := by
  cases h with
  | zero => simp [nowN]
  | succ h => exact ddB_len _
theorem cellAt_bs {l : List Bool} {e : TypeId} {f : Nat × Nat} {o : Nat} (h : o < l.length) : cellAt (.cells (bsV l) e f) o = some (.bool (l.getD o false)) := by
  unfold bsV
  simp only [cellAt, lget_eq]
  rw [List.getElem?_map, List.getD_eq_getElem?_getD, List.getElem?_eq_getElem h]; rfl
theorem RdS.adr {α : Type} {k : Nat} {enc : α → List Value} {w : World} {ad : Option Addr} {n cap : Nat} {xs : List α} (h : RdS k enc w (.slice ad n cap) xs) (hp : 0 < xs.length) : ∃ b o, ad = some ⟨b, o, none⟩ := by
  obtain ⟨_, ad2, cp2, e1, e2⟩ := h
  cases e1
  obtain ⟨b, o, e, _⟩ := e2 (by omega)
  exact ⟨b, o, e⟩
theorem out_at {s : Smp} {b : Int} {c : List Int} {h : Nat} {v : Bool} (hh : h < 10) : (outN s b c h v).getD (0 + Int.toNat (h : Int) * 1) false = v := by
  rw [show 0 + Int.toNat (h : Int) * 1 = h from by omega, outN_get hh, if_neg (by omega), if_pos rfl]
theorem set_t {s : Smp} {b : Int} {c : List Int} {h : Nat} {now : List Bool} {i j : Nat} {y : Bool × Int} (hh : h < 10) (hcn : cndN s b c h now i (j + 1) = cndN s b c h now i j ++ [y]) (hv : (outN s b c h (anyN s b c h now i j)).getD (0 + Int.toNat (h : Int) * 1) false = true) :
    (outN s b c h (anyN s b c h now i j)).set (0 + Int.toNat (h : Int) * 1) true = outN s b c h (anyN s b c h now i (j + 1)) := by
  rw [out_at hh] at hv
  rw [show 0 + Int.toNat (h : Int) * 1 = h from by omega, outN_set hh]
  congr 1
  unfold anyN at hv ⊢
  rw [hcn, List.any_append, hv]; rfl
theorem set_f {s : Smp} {b : Int} {c : List Int} {h : Nat} {now : List Bool} {i j : Nat} {y : Bool × Int} (hh : h < 10) (hcn : cndN s b c h now i (j + 1) = cndN s b c h now i j ++ [y]) (hv : (outN s b c h (anyN s b c h now i j)).getD (0 + Int.toNat (h : Int) * 1) false = false) :
    (outN s b c h (anyN s b c h now i j)).set (0 + Int.toNat (h : Int) * 1) (decide (y.2 = 1)) = outN s b c h (anyN s b c h now i (j + 1)) := by
  rw [out_at hh] at hv
  rw [show 0 + Int.toNat (h : Int) * 1 = h from by omega, outN_set hh]
  congr 1
  unfold anyN at hv ⊢
  rw [hcn, List.any_append, hv]; simp
theorem lat_in {s : Smp} {b : Int} {c : List Int} {h : Nat} {now : List Bool} {i j : Nat} {y : Bool × Int} (hcn : cndN s b c h now i (j + 1) = cndN s b c h now i j ++ [y]) (hv : ((latN s b c h now i j).any fun z => decide (y.1 = z)) = true) : latN s b c h now i (j + 1) = latN s b c h now i j := by
  unfold latN at hv ⊢
  rw [hcn, List.map_append]
  show ddB (_ ++ [y.1]) = _
  rw [ddB_snoc, if_pos hv]
theorem lat_new {s : Smp} {b : Int} {c : List Int} {h : Nat} {now : List Bool} {i j : Nat} {y : Bool × Int} (hcn : cndN s b c h now i (j + 1) = cndN s b c h now i j ++ [y]) (hv : ((latN s b c h now i j).any fun z => decide (y.1 = z)) = false) : latN s b c h now i (j + 1) = latN s b c h now i j ++ [y.1] := by
  unfold latN at hv ⊢
  rw [hcn, List.map_append]
  show ddB (_ ++ [y.1]) = _
  rw [ddB_snoc, if_neg (by rw [hv]; exact Bool.false_ne_true)]
theorem lat_len (s : Smp) (b : Int) (c : List Int) (h : Nat) (now : List Bool) (i j : Nat) : (latN s b c h now i j).length ≤ 2 := ddB_len _
set_option maxHeartbeats 4000000 in
theorem open_c (s : Smp) (hf : Few s) (hv : VSm s) (b : Int) (c : List Int) (hco : ChOk s c) (tv pv gv : Value) (bw r : Nat) (es : Array MapEntry) (ck : Nat) (w : World) (hT : Wd w s tv pv gv b c bw r es ck) : CnV Tryz.prog 109 #[ptr bw] w (.agg (bsV (opnL s b c))) := by
  have hl0 := hv.l0
  have hl9 := hv.l9
  have hcl := hco.len
  have hTf : ∀ w', Fr [] w w' → Wd w' s tv pv gv b c bw r es ck := fun w' f => hT.fr f
  refine cnv (vs := [_]) Tryz.func109 rfl rfl ?_
  all_goals refine tc_seq fun K1 hK1 => ?_; refine tc_region ?_; refine tl_e (e_allocN rfl) rfl (fun b2 _ => ?_); refine tl_nil ?_; ((refine hK1 ?_; try (clear hK1; clear K1)))
  all_goals refine tc_seq fun K2 hK2 => ?_; refine tc_region ?_; refine tl_q (y_move rfl) rfl ?_; refine tl_e (e_callV rfl (.cons rfl .nil) (fun w' _ => begin_c bw w')) rfl (fun _ _ => ?_); refine tl_e (e_bsliceG rfl (.agg rfl rfl .nil) rfl rfl) rfl (fun b14 _ => ?_); refine tl_q (y_assign rfl) rfl ?_; refine tl_nil ?_; ((refine hK2 ?_; try (clear hK2; clear K2)))
  all_goals refine tc_seq fun K3 hK3 => ?_; refine tc_seq fun K4 hK4 => ?_; refine tc_region ?_; refine tl_q (y_move rfl) rfl ?_; refine tl_q (y_nil rfl) rfl ?_; refine tl_q (y_field rfl) rfl ?_; refine tl_q (y_field rfl) rfl ?_; refine tl_q (y_load1o (v := vi s.L) rfl (fun w' hw' => wk_at (n := 2) (hTf w' (hw'.fr (w0 := w) (S := []) MI.m)).wk.hw rfl)) rfl ?_; refine tl_q (y_add rfl rfl (by omega)) rfl ?_; refine tl_q (y_move rfl) rfl ?_; refine tl_nil ?_; ((refine hK4 ?_; try (clear hK4; clear K4)))
  all_goals refine tc_block ?_
  all_goals (
   refine tc_loop (fun p : Nat × OwnB => (p.1 : Int) ≤ s.L + 1 ∧ okE 2 (nowN s b c p.1) p.2) (fun p => [(0, ptr bw), (2, ptr b2), (3, ouV (nowN s b c p.1).length p.2), (20, vi (s.L + 1)), (21, vi p.1)]) (fun _ => [(w, [])]) (fun p => (b2, .cells (bsV (outN s b c p.1 false)) 156 (0, 0)) :: slE 162 (spE p.1) (nowN s b c p.1) p.2) (fun p => (s.L + 1).toNat - p.1) ?_ ?_
   · exact tk_start (0, some (b14, 1, [])) ⟨by dsimp only; omega, Nat.le_refl _, rfl⟩ (.cons rfl (.cons rfl (.cons rfl (.cons rfl (.cons rfl .nil))))) (fun _ h => by rw [slE_some]; exact (h.subl SB.s SB.s).sw)
   · rintro ⟨h, oo⟩ ⟨hh, hok⟩
     dsimp only at hh hok ⊢
     have hnl := nowN_len s b c h
     all_goals refine tc_seq fun K5 hK5 => ?_; refine tc_region ?_; refine tl_q (y_lss rfl rfl) rfl ?_; refine tl_nil ?_; ((refine hK5 ?_; try (clear hK5; clear K5)))
     all_goals refine tc_seq fun K6 hK6 => ?_
     all_goals (
      refine tc_cond rfl (fun hc => ?_) (fun hc => ?_)
      · try simp only [qn1, qn2, qn3, qn4, qn5, qn6, qn7, qn8] at hc
        all_goals refine tc_skip ?_; ((refine hK6 ?_; try (clear hK6; clear K6)))
        all_goals refine tc_seq fun K7 hK7 => ?_; refine tc_block ?_; refine tc_seq fun K8 hK8 => ?_; refine tc_region ?_; refine tl_q (y_move rfl) rfl ?_; refine tl_q (y_assign rfl) rfl ?_; refine tl_nil ?_; ((refine hK8 ?_; try (clear hK8; clear K8)))
        all_goals refine tc_seq fun K9 hK9 => ?_; refine tc_region ?_; refine tl_q (y_assign rfl) rfl ?_; refine tl_nil ?_; ((refine hK9 ?_; try (clear hK9; clear K9)))
        all_goals refine tc_seq fun K10 hK10 => ?_; refine tc_seq fun K11 hK11 => ?_; refine tc_region ?_; refine tl_q (y_move rfl) rfl ?_; refine tl_q (y_len rfl) rfl ?_; refine tl_q (y_move rfl) rfl ?_; refine tl_nil ?_; ((refine hK11 ?_; try (clear hK11; clear K11)))
        all_goals refine tc_block ?_
        all_goals (
         refine tc_loop (fun p : Nat × OwnB => p.1 ≤ (nowN s b c h).length ∧ okE 2 (latN s b c h (nowN s b c h) p.1 0) p.2) (fun p => [(0, ptr bw), (2, ptr b2), (4, vi h), (5, ouV (latN s b c h (nowN s b c h) p.1 0).length p.2), (20, vi (s.L + 1)), (21, vi h), (24, ouV (nowN s b c h).length oo), (25, vi (nowN s b c h).length), (26, vi p.1)]) (fun _ => [(w, [])]) (fun p => (b2, .cells (bsV (outN s b c h (anyN s b c h (nowN s b c h) p.1 0))) 156 (0, 0)) :: (slE 162 (spE ((h : Int) + 1)) (latN s b c h (nowN s b c h) p.1 0) p.2 ++ slE 162 (spE h) (nowN s b c h) oo)) (fun p => (nowN s b c h).length - p.1) ?_ ?_
         · have e0 : latN s b c h (nowN s b c h) 0 0 = [] := by unfold latN; rw [cndN_0]; rfl
           have e1 : anyN s b c h (nowN s b c h) 0 0 = false := by unfold anyN; rw [cndN_0]; rfl
           exact tk_start (0, none) ⟨Nat.zero_le _, by dsimp only; rw [e0]; rfl⟩ (.cons rfl (.cons rfl (.cons rfl (.cons (by dsimp only; rw [e0]; rfl) (.cons rfl (.cons rfl (.cons rfl (.cons rfl (.cons rfl .nil))))))))) (fun _ h => by dsimp only; rw [slE_none, e1, List.nil_append]; exact h.subl SB.s SB.s)
         · rintro ⟨i, oo1⟩ ⟨hi, hok1⟩
           dsimp only at hi hok1 ⊢
           all_goals refine tc_seq fun K12 hK12 => ?_; refine tc_region ?_; refine tl_q (y_lss rfl rfl) rfl ?_; refine tl_nil ?_; ((refine hK12 ?_; try (clear hK12; clear K12)))
           all_goals refine tc_seq fun K13 hK13 => ?_
           all_goals (
            refine tc_cond rfl (fun hc => ?_) (fun hc => ?_)
            · try simp only [qn1, qn2, qn3, qn4, qn5, qn6, qn7, qn8] at hc
              all_goals refine tc_skip ?_; ((refine hK13 ?_; try (clear hK13; clear K13)))
              all_goals refine tc_seq fun K14 hK14 => ?_; refine tc_block ?_; refine tc_seq fun K15 hK15 => ?_; (obtain ⟨bn, had⟩ := okE_pos hok (by omega))
              all_goals refine tc_region ?_; refine tl_q (y_index rfl rfl (by omega) had) rfl ?_; ((refine tl_q (y_loadNo (n := 2) (vs := [vi h, .bool ((nowN s b c h).getD i false)]) rfl (fun w' hw' => by rw [show 0 + Int.toNat (i : Int) * 2 = 0 + i * 2 from by omega]; exact (RdS.ofO (spE_len h) hok hw' (by repeat constructor)).at had (spE_len h) false (by omega))) rfl ?_))
              all_goals refine tl_e (e_allocN rfl) rfl (fun b7 _ => ?_); refine tl_e (e_storeW rfl rfl (by repeat constructor) (by rfl) (by rfl) (by simp [Value.oneCell'])) rfl (fun _ _ => ?_); refine tl_nil ?_; ((refine hK15 ?_; try (clear hK15; clear K15)))
              all_goals refine tc_seq fun K16 hK16 => ?_; (obtain ⟨S9, hS9⟩ : ∃ S9, S9 = b7 :: b2 :: List.map Prod.fst (slE 162 (spE ((h : Int) + 1)) (latN s b c h (nowN s b c h) i 0) oo1 ++ slE 162 (spE h) (nowN s b c h) oo) := ⟨_, rfl⟩)
              all_goals refine tc_region ?_; refine tl_q (y_move rfl) rfl ?_; refine tl_q (y_loadW rfl (by repeat constructor) (by rfl)) rfl ?_; (refine tl_e (e_callX rfl (.cons rfl (.cons rfl .nil)) (fun w' hw' => (steps_c s hf hv b c hco h (by omega) ((nowN s b c h).getD i false) tv pv gv bw r w' (hTf w' (hw'.fr (w0 := w) (S := []) MI.m)).wk).imp (p' := fun y w2 => RdS 3 (stE h) w2 (slV (stepL s b h (stB s c h) ((nowN s b c h).getD i false)).length y) (stepL s b h (stB s c h) ((nowN s b c h).getD i false)) ∧ sepS (slV (stepL s b h (stB s c h) ((nowN s b c h).getD i false)).length y) S9) id (fun _ => rfl) (fun _ h => h) (fun _ _ _ hp => ⟨hp.1, by rw [hS9]; exact hp.2.sep hw'⟩))) rfl (fun y hy => ?_))
              all_goals refine tl_q (y_len rfl) rfl ?_; refine tl_q (y_move rfl) rfl ?_; refine tl_nil ?_; ((refine hK16 ?_; try (clear hK16; clear K16)))
              all_goals refine tc_block ?_
              all_goals (
               obtain ⟨hyr, hyw⟩ := hy
               refine tc_loop (fun p : Nat × OwnB => p.1 ≤ (stepL s b h (stB s c h) ((nowN s b c h).getD i false)).length ∧ okE 2 (latN s b c h (nowN s b c h) i p.1) p.2) (fun p => [(0, ptr bw), (2, ptr b2), (4, vi h), (5, ouV (latN s b c h (nowN s b c h) i p.1).length p.2), (20, vi (s.L + 1)), (21, vi h), (24, ouV (nowN s b c h).length oo), (25, vi (nowN s b c h).length), (26, vi i), (32, slV (stepL s b h (stB s c h) ((nowN s b c h).getD i false)).length y.1), (33, vi (stepL s b h (stB s c h) ((nowN s b c h).getD i false)).length), (34, vi p.1)]) (fun _ => [(y.2, S9), (w, [])]) (fun p => (b2, .cells (bsV (outN s b c h (anyN s b c h (nowN s b c h) i p.1))) 156 (0, 0)) :: (slE 162 (spE ((h : Int) + 1)) (latN s b c h (nowN s b c h) i p.1) p.2 ++ slE 162 (spE h) (nowN s b c h) oo)) (fun p => (stepL s b h (stB s c h) ((nowN s b c h).getD i false)).length - p.1) ?_ ?_
               · subst hS9
                 exact tk_start (0, oo1) ⟨Nat.zero_le _, hok1⟩ (.cons rfl (.cons rfl (.cons rfl (.cons rfl (.cons rfl (.cons rfl (.cons rfl (.cons rfl (.cons rfl (.cons rfl (.cons rfl (.cons rfl .nil)))))))))))) (fun _ h => h.subl SB.s SB.s)
               · rintro ⟨j, oo2⟩ ⟨hj, hok2⟩
                 dsimp only at hj hok2 ⊢
                 have hsl4 : (stepL s b h (stB s c h) ((nowN s b c h).getD i false)).length ≤ 4 := stepN_len s b h (stB s c h) ((nowN s b c h).getD i false) 4
                 have hll := lat_len s b c h (nowN s b c h) i j
                 all_goals refine tc_seq fun K17 hK17 => ?_; refine tc_region ?_; refine tl_q (y_lss rfl rfl) rfl ?_; refine tl_nil ?_; ((refine hK17 ?_; try (clear hK17; clear K17)))
                 all_goals refine tc_seq fun K18 hK18 => ?_
                 all_goals (
                  refine tc_cond rfl (fun hc => ?_) (fun hc => ?_)
                  · try simp only [qn1, qn2, qn3, qn4, qn5, qn6, qn7, qn8] at hc
                    all_goals refine tc_skip ?_; ((refine hK18 ?_; try (clear hK18; clear K18)))
                    all_goals refine tc_seq fun K19 hK19 => ?_; refine tc_block ?_; refine tc_seq fun K20 hK20 => ?_; (obtain ⟨bY, oY, hady⟩ := hyr.1.adr (by omega))
                    all_goals refine tc_region ?_; refine tl_q (y_index rfl rfl (by omega) hady) rfl ?_; ((refine tl_q (y_loadNo (n := 3) (vs := [vi ((h : Int) + 1), .bool ((stepL s b h (stB s c h) ((nowN s b c h).getD i false)).getD j (false, 0)).1, vi ((stepL s b h (stB s c h) ((nowN s b c h).getD i false)).getD j (false, 0)).2]) rfl (fun w' hw' => by rw [show Int.toNat (j : Int) * 3 = j * 3 from by omega]; exact (hyr.1.frS (hw'.fr (w0 := y.2) (S := S9) MI.m) hyr.2).at hady (stE_len h) (false, 0) (by omega))) rfl ?_))
                    all_goals refine tl_e (e_allocN rfl) rfl (fun b9 _ => ?_); refine tl_e (e_storeW rfl rfl (by repeat constructor) (by rfl) (by rfl) (by simp [Value.oneCell'])) rfl (fun _ _ => ?_); refine tl_nil ?_; ((refine hK20 ?_; try (clear hK20; clear K20)))
                    all_goals refine tc_seq fun K21 hK21 => ?_; refine tc_seq fun K22 hK22 => ?_; refine tc_draw (by kernel_rfl) ?_; refine tx_p 0 rfl (by kernel_rfl) (y_move rfl) rfl (fun _ _ _ h => h) (fun _ h => h) ?_; refine tx_p 1 rfl (by kernel_rfl) (y_nil rfl) rfl (fun _ _ _ h => h) (fun _ h => h) ?_; refine tx_p 2 rfl (by kernel_rfl) (y_field rfl) rfl (fun _ _ _ h => h) (fun _ h => h) ?_; refine tx_q 3 rfl (by kernel_rfl) (y_load1o (v := .map (some r)) rfl (fun w' hw' => wk_map (hTf w' (hw'.fr (w0 := w) (S := []) MI.m)).wk.hw hcl)) rfl (fun _ _ _ h => h) (fun _ h => h) ?_; refine tx_p 4 rfl (by kernel_rfl) (y_field rfl) rfl (fun _ _ _ h => h) (fun _ h => h) ?_; ((refine tx_q 5 rfl (by kernel_rfl) (y_loadN rfl (by repeat constructor) (by (repeat (first | exact .nil | apply CA.cons rfl)); done)) rfl (fun _ _ _ h => h) (fun _ h => h) ?_))
                    all_goals refine tx_q 6 rfl (by kernel_rfl) (y_lookupBo rfl rfl (fun w' hw' => (hTf w' (hw'.fr (w0 := w) (S := []) MI.m)).hm) hT.kb ((hT.fb _ _).trans (restM_at (by omega) _))) rfl (fun _ _ _ h => h) (fun _ h => h) ?_; refine tx_p 7 rfl (by kernel_rfl) (y_move rfl) rfl (fun _ _ _ h => h) (fun _ h => h) ?_; refine tx_p 8 rfl (by kernel_rfl) (y_extract rfl rfl) rfl (fun _ _ _ h => h) (fun _ h => h) ?_; refine tx_p 9 rfl (by kernel_rfl) (y_extract rfl rfl) rfl (fun _ _ _ h => h) (fun _ h => h) ?_; refine tx_p 10 rfl (by kernel_rfl) (y_assign rfl) rfl (fun _ _ _ h => h) (fun _ h => h) ?_; refine tx_p 11 rfl (by kernel_rfl) (y_assign rfl) rfl (fun _ _ _ h => h) (fun _ h => h) ?_; refine tx_done (by kernel_rfl) ?_; ((refine hK22 ?_; try (clear hK22; clear K22)))
                    all_goals refine tc_seq fun K23 hK23 => ?_; refine tc_region ?_; refine tl_q (y_move rfl) rfl ?_; refine tl_q (y_not rfl) rfl ?_; refine tl_nil ?_; ((refine hK23 ?_; try (clear hK23; clear K23)))
                    all_goals (
                     refine tc_cond rfl (fun hc => ?_) (fun hc => ?_)
                     · try simp only [qn1, qn2, qn3, qn4, qn5, qn6, qn7, qn8] at hc
                       all_goals refine tc_exit ?_; ((refine hK19 ?_; try (clear hK19; clear K19)))
                       all_goals refine tc_region ?_; refine tl_q (y_add rfl rfl (by omega)) rfl ?_; refine tl_q (y_move rfl) rfl ?_; refine tl_nil ?_
                       all_goals (
                        first
                        | (have hcn := cndN_no (now := nowN s b c h) (i := i) (j := j) (by omega) hc
                           exact tk_round (j + 1, oo2) ⟨by dsimp only; omega, by dsimp only; unfold latN at hok2 ⊢; rw [hcn]; exact hok2⟩ (by dsimp only; omega) (.cons rfl (.cons rfl (.cons rfl (.cons (by dsimp only; unfold latN; rw [hcn]; rfl) (.cons rfl (.cons rfl (.cons rfl (.cons rfl (.cons rfl (.cons rfl (.cons rfl (.cons rfl .nil)))))))))))) (fun _ h => by dsimp only; unfold latN anyN at h ⊢; rw [hcn]; exact h.subl SB.s SB.s))
                        | (have hcn := cndN_yes (now := nowN s b c h) (i := i) (j := j) hjl hon
                           first
                           | have hset := set_t (by omega) hcn hcv
                           | have hset := set_f (by omega) hcn hcv
                           first
                           | (have hlat := lat_in hcn hc
                              exact tk_round (j + 1, oo2) ⟨by dsimp only; omega, by dsimp only; rw [hlat]; exact hok2⟩ (by dsimp only; omega) (.cons rfl (.cons rfl (.cons rfl (.cons (by dsimp only; rw [hlat]; rfl) (.cons rfl (.cons rfl (.cons rfl (.cons rfl (.cons rfl (.cons rfl (.cons rfl (.cons rfl .nil)))))))))))) (fun _ h => by dsimp only; rw [hlat, ← hset]; exact h.subl SB.s SB.s))
                           | (have hlat := lat_new hcn hc
                              exact tk_round (j + 1, oo') ⟨by dsimp only; omega, by dsimp only; rw [hlat]; exact hok'⟩ (by dsimp only; omega) (.cons rfl (.cons rfl (.cons rfl (.cons (by dsimp only; rw [hlat]; rfl) (.cons rfl (.cons rfl (.cons rfl (.cons rfl (.cons rfl (.cons rfl (.cons rfl (.cons rfl .nil)))))))))))) (fun _ h => by dsimp only; rw [hlat, ← hset]; exact h.subl SB.s SB.s))))
                     · try simp only [qn1, qn2, qn3, qn4, qn5, qn6, qn7, qn8] at hc
                       all_goals refine tc_skip ?_; ((refine hK21 ?_; try (clear hK21; clear K21)))
                       all_goals refine tc_seq fun K24 hK24 => ?_; ((have hon := hc; have hjl : j < (stepL s b h (stB s c h) ((nowN s b c h).getD i false)).length := by omega))
                       all_goals refine tc_region ?_; refine tl_q (y_move rfl) rfl ?_; refine tl_q (y_move rfl) rfl ?_; refine tl_q (y_indexA rfl rfl (by omega)) rfl ?_; ((refine tl_q (y_load1 (v := .bool ((outN s b c h (anyN s b c h (nowN s b c h) i j)).getD (0 + Int.toNat (h : Int) * 1) false)) rfl (by repeat constructor) (cellAt_bs (by rw [outN_len]; omega))) rfl ?_))
                       all_goals refine tl_q (y_move rfl) rfl ?_; ((refine tl_gs rfl rfl (fun hc => ?_) (fun hc => ?_) <;> (try simp only [qn1, qn2, qn3, qn4, qn5, qn6, qn7, qn8] at hc) <;> (first | refine tl_sk rfl rfl rfl rfl ?_ | refine tl_qg rfl rfl (y_field rfl) rfl ?_)))
                       all_goals (first | refine tl_sk rfl rfl rfl rfl ?_ | refine tl_qg rfl rfl (y_load1 rfl (by repeat constructor) (by rfl)) rfl ?_); (first | refine tl_sk rfl rfl rfl rfl ?_ | refine tl_qg rfl rfl (y_eql rfl rfl) rfl ?_); (first | refine tl_q (y_pick_t rfl rfl) rfl ?_ | refine tl_q (y_pick_f rfl rfl) rfl ?_); refine tl_q (y_indexA rfl rfl (by omega)) rfl ?_; ((refine tl_e (e_storeB (l := outN s b c h (anyN s b c h (nowN s b c h) i j)) rfl rfl (by rw [outN_len]; omega) (by repeat constructor)) rfl (fun _ _ => ?_)))
                       all_goals refine tl_nil ?_; have hcv := hc
                       all_goals ((refine hK24 ?_; try (clear hK24; clear K24)))
                       all_goals refine tc_seq fun K25 hK25 => ?_; refine tc_region ?_; refine tl_q (y_move rfl) rfl ?_; refine tl_q (y_field rfl) rfl ?_; ((refine tl_q (y_loadN rfl (by repeat constructor) (by (repeat (first | exact .nil | apply CA.cons rfl)); done)) rfl ?_))
                       all_goals refine tl_e (e_callV rfl (.cons rfl (.cons rfl .nil)) (fun w' hw' => containsSp_c ((h : Int) + 1) ((stepL s b h (stB s c h) ((nowN s b c h).getD i false)).getD j (false, 0)).1 (latN s b c h (nowN s b c h) i j) (by omega) _ w' (RdS.ofO (spE_len _) hok2 hw' (by repeat constructor)))) rfl (fun _ _ => ?_); refine tl_q (y_not rfl) rfl ?_; refine tl_nil ?_; ((refine hK25 ?_; try (clear hK25; clear K25)))
                       all_goals (
                        refine tc_cond rfl (fun hc => ?_) (fun hc => ?_)
                        · try simp only [qn1, qn2, qn3, qn4, qn5, qn6, qn7, qn8] at hc
                          all_goals refine tc_region ?_; refine tl_q (y_move rfl) rfl ?_; refine tl_q (y_field rfl) rfl ?_; ((refine tl_q (y_loadN rfl (by repeat constructor) (by (repeat (first | exact .nil | apply CA.cons rfl)); done)) rfl ?_))
                          all_goals refine tl_e (e_bsliceG rfl (.agg rfl rfl .nil) rfl rfl) rfl (fun _ _ => ?_); (refine tl_e (e_appendE (enc := spE ((h : Int) + 1)) (xs := latN s b c h (nowN s b c h) i j) (ys := [((stepL s b h (stB s c h) ((nowN s b c h).getD i false)).getD j (false, 0)).1]) (spE_len _) (spE_one _) rfl rfl rfl hok2 (fun _ => by repeat constructor) (fun w' hw' => RdS.own0 (spE_len _) hw' (by repeat constructor)) (by simp only [List.length_cons, List.length_nil]; omega) rfl) rfl (fun oo' hok' => ?_))
                          all_goals refine tl_q (y_assign rfl) rfl ?_; refine tl_nil ?_; ((refine hK19 ?_; try (clear hK19; clear K19)))
                          all_goals refine tc_region ?_; refine tl_q (y_add rfl rfl (by omega)) rfl ?_; refine tl_q (y_move rfl) rfl ?_; refine tl_nil ?_
                          all_goals (
                           first
                           | (have hcn := cndN_no (now := nowN s b c h) (i := i) (j := j) (by omega) hc
                              exact tk_round (j + 1, oo2) ⟨by dsimp only; omega, by dsimp only; unfold latN at hok2 ⊢; rw [hcn]; exact hok2⟩ (by dsimp only; omega) (.cons rfl (.cons rfl (.cons rfl (.cons (by dsimp only; unfold latN; rw [hcn]; rfl) (.cons rfl (.cons rfl (.cons rfl (.cons rfl (.cons rfl (.cons rfl (.cons rfl (.cons rfl .nil)))))))))))) (fun _ h => by dsimp only; unfold latN anyN at h ⊢; rw [hcn]; exact h.subl SB.s SB.s))
                           | (have hcn := cndN_yes (now := nowN s b c h) (i := i) (j := j) hjl hon
                              first
                              | have hset := set_t (by omega) hcn hcv
                              | have hset := set_f (by omega) hcn hcv
                              first
                              | (have hlat := lat_in hcn hc
                                 exact tk_round (j + 1, oo2) ⟨by dsimp only; omega, by dsimp only; rw [hlat]; exact hok2⟩ (by dsimp only; omega) (.cons rfl (.cons rfl (.cons rfl (.cons (by dsimp only; rw [hlat]; rfl) (.cons rfl (.cons rfl (.cons rfl (.cons rfl (.cons rfl (.cons rfl (.cons rfl (.cons rfl .nil)))))))))))) (fun _ h => by dsimp only; rw [hlat, ← hset]; exact h.subl SB.s SB.s))
                              | (have hlat := lat_new hcn hc
                                 exact tk_round (j + 1, oo') ⟨by dsimp only; omega, by dsimp only; rw [hlat]; exact hok'⟩ (by dsimp only; omega) (.cons rfl (.cons rfl (.cons rfl (.cons (by dsimp only; rw [hlat]; rfl) (.cons rfl (.cons rfl (.cons rfl (.cons rfl (.cons rfl (.cons rfl (.cons rfl (.cons rfl .nil)))))))))))) (fun _ h => by dsimp only; rw [hlat, ← hset]; exact h.subl SB.s SB.s))))
                        · try simp only [qn1, qn2, qn3, qn4, qn5, qn6, qn7, qn8] at hc
                          all_goals refine tc_skip ?_; ((refine hK19 ?_; try (clear hK19; clear K19)))
                          all_goals refine tc_region ?_; refine tl_q (y_add rfl rfl (by omega)) rfl ?_; refine tl_q (y_move rfl) rfl ?_; refine tl_nil ?_
                          all_goals (
                           first
                           | (have hcn := cndN_no (now := nowN s b c h) (i := i) (j := j) (by omega) hc
                              exact tk_round (j + 1, oo2) ⟨by dsimp only; omega, by dsimp only; unfold latN at hok2 ⊢; rw [hcn]; exact hok2⟩ (by dsimp only; omega) (.cons rfl (.cons rfl (.cons rfl (.cons (by dsimp only; unfold latN; rw [hcn]; rfl) (.cons rfl (.cons rfl (.cons rfl (.cons rfl (.cons rfl (.cons rfl (.cons rfl (.cons rfl .nil)))))))))))) (fun _ h => by dsimp only; unfold latN anyN at h ⊢; rw [hcn]; exact h.subl SB.s SB.s))
                           | (have hcn := cndN_yes (now := nowN s b c h) (i := i) (j := j) hjl hon
                              first
                              | have hset := set_t (by omega) hcn hcv
                              | have hset := set_f (by omega) hcn hcv
                              first
                              | (have hlat := lat_in hcn hc
                                 exact tk_round (j + 1, oo2) ⟨by dsimp only; omega, by dsimp only; rw [hlat]; exact hok2⟩ (by dsimp only; omega) (.cons rfl (.cons rfl (.cons rfl (.cons (by dsimp only; rw [hlat]; rfl) (.cons rfl (.cons rfl (.cons rfl (.cons rfl (.cons rfl (.cons rfl (.cons rfl (.cons rfl .nil)))))))))))) (fun _ h => by dsimp only; rw [hlat, ← hset]; exact h.subl SB.s SB.s))
                              | (have hlat := lat_new hcn hc
                                 exact tk_round (j + 1, oo') ⟨by dsimp only; omega, by dsimp only; rw [hlat]; exact hok'⟩ (by dsimp only; omega) (.cons rfl (.cons rfl (.cons rfl (.cons (by dsimp only; rw [hlat]; rfl) (.cons rfl (.cons rfl (.cons rfl (.cons rfl (.cons rfl (.cons rfl (.cons rfl (.cons rfl .nil)))))))))))) (fun _ h => by dsimp only; rw [hlat, ← hset]; exact h.subl SB.s SB.s))))))
                  · try simp only [qn1, qn2, qn3, qn4, qn5, qn6, qn7, qn8] at hc
                    all_goals refine tc_exit ?_; ((refine hK14 ?_; try (clear hK14; clear K14)))
                    all_goals refine tc_region ?_; refine tl_q (y_add rfl rfl (by omega)) rfl ?_; refine tl_q (y_move rfl) rfl ?_; refine tl_nil ?_
                    all_goals (
                     obtain rfl : j = (stepL s b h (stB s c h) ((nowN s b c h).getD i false)).length := by omega
                     have hcu := cndN_up (s := s) (b := b) (c := c) (h := h) (now := nowN s b c h) (i := i) (by omega)
                     have hlu : latN s b c h (nowN s b c h) i (stepL s b h (stB s c h) ((nowN s b c h).getD i false)).length = latN s b c h (nowN s b c h) (i + 1) 0 := by unfold latN; rw [hcu]
                     have hau : anyN s b c h (nowN s b c h) i (stepL s b h (stB s c h) ((nowN s b c h).getD i false)).length = anyN s b c h (nowN s b c h) (i + 1) 0 := by unfold anyN; rw [hcu]
                     exact tk_round (i + 1, oo2) ⟨by dsimp only; omega, by dsimp only; rw [← hlu]; exact hok2⟩ (by dsimp only; omega) (.cons rfl (.cons rfl (.cons rfl (.cons (by dsimp only; rw [← hlu]; rfl) (.cons rfl (.cons rfl (.cons rfl (.cons rfl (.cons rfl .nil))))))))) (fun _ h => by dsimp only; rw [← hlu, ← hau]; exact h.subl SB.s SB.s))))
            · try simp only [qn1, qn2, qn3, qn4, qn5, qn6, qn7, qn8] at hc
              all_goals refine tc_exit ?_; ((refine hK10 ?_; try (clear hK10; clear K10)))
              all_goals refine tc_region ?_; refine tl_q (y_move rfl) rfl ?_; refine tl_q (y_assign rfl) rfl ?_; refine tl_nil ?_; ((refine hK7 ?_; try (clear hK7; clear K7)))
              all_goals refine tc_region ?_; refine tl_q (y_add rfl rfl (by omega)) rfl ?_; refine tl_q (y_move rfl) rfl ?_; refine tl_nil ?_
              all_goals (
               obtain rfl : i = (nowN s b c h).length := by omega
               have hlu : latN s b c h (nowN s b c h) (nowN s b c h).length 0 = nowN s b c (h + 1) := by unfold latN; rw [cndN_end]; rfl
               have hau : anyN s b c h (nowN s b c h) (nowN s b c h).length 0 = opnH s b c h := by unfold anyN; rw [cndN_end]; rfl
               exact tk_round (h + 1, oo1) ⟨by dsimp only; omega, by dsimp only; rw [← hlu]; exact hok1⟩ (by dsimp only; omega) (.cons rfl (.cons rfl (.cons (by dsimp only; rw [← hlu]; rfl) (.cons rfl (.cons rfl .nil))))) (fun _ h => by dsimp only; rw [← hlu, ← outN_up, ← hau]; exact h.sub (fun _ h => h) ((List.sublist_append_left _ _).cons_cons _)))))
      · try simp only [qn1, qn2, qn3, qn4, qn5, qn6, qn7, qn8] at hc
        all_goals refine tc_exit ?_; ((refine hK3 ?_; try (clear hK3; clear K3)))
        all_goals refine tc_seq fun K26 hK26 => ?_; refine tc_region ?_; refine tl_q (y_loadW rfl (by repeat constructor) (by rfl)) rfl ?_; refine tl_e (e_storeW rfl rfl (by repeat constructor) (by rw [bsV_size, outN_len]) (by rw [bsV_size, outN_len]) (bsV_one _)) rfl (fun _ _ => ?_); refine tl_nil ?_; ((refine hK26 ?_; try (clear hK26; clear K26)))
        all_goals refine tc_ret ?_; (repeat (first | refine tk_then_ret ?_))
        all_goals (refine tk_ret rfl rfl (.cons (.agg inferInstance rfl (by repeat constructor) (by rfl)) .nil) ?_)
        all_goals (
         obtain rfl : h = (s.L + 1).toNat := by omega
         exact fun w' hw' => ⟨rfl, hw'.fr (w0 := w) (S := []) MI.m⟩)))
end Go.Sp
/-
  Package sample: who has a bottle, hour by hour.
-/
namespace Go.Sp
open Go Go.Proofs
theorem isV_one (l : List Int) : ∀ v ∈ (isV l).toList, v.oneCell' = true := fun v hv => by
  simp only [isV, List.mem_map] at hv
  obtain ⟨_, _, rfl⟩ := hv; rfl
theorem e_storeI {P : Program} {N : NN} {F : List (Nat × Value)} {bs : List (World × List Nat)} {H : List (Nat × Obj)} {ty : TypeId} {pos : String} {after : Array Edge} {g : Option (Nat × Bool)} {t : TypeId} {z : Value} [h : TyOne P t z] {x y : Operand} {b o : Nat} {v : Int} {l : List Int} {e : TypeId} {H' : List (Nat × Obj)}
    (hx : evalO F x = some (.pointer (some ⟨b, o, none⟩))) (hy : evalO F y = some (.int .i64 v)) (hlt : o < l.length)
    (hu : HU b (.cells (isV l) e (0, 0)) (.cells (isV (l.set o v)) e (0, 0)) H H') :
    OpE P ⟨none, .store t x y, ty, pos, after, g⟩ N F bs H (fun _ : Unit => True) (fun _ => F) (fun _ => bs) (fun _ => H') :=
  e_store1g hx hy rfl rfl (by rw [isV_size]; exact hlt) (by rw [isV_set]; exact hu)
theorem cellAt_is {l : List Int} {e : TypeId} {f : Nat × Nat} {o : Nat} (h : o < l.length) : cellAt (.cells (isV l) e f) o = some (vi (l.getD o 0)) := by
  unfold isV
  simp only [cellAt, lget_eq]
  rw [List.getElem?_map, List.getD_eq_getElem?_getD, List.getElem?_eq_getElem h]; rfl
def pasN (s : Smp) (b : Int) (ts : List Int) (h : Int) (a0 : Int) : Nat → Option Int
  | 0 => some a0
  | n + 1 => match pasN s b ts h a0 n with
    | none => none
    | some a => if (s.ps.getD n pas0).b = b ∧ ts.getD n 0 = h then (if (s.ps.getD n pas0).fr = a then some (s.ps.getD n pas0).to else none) else some a
def chN (s : Smp) (b : Int) (ts : List Int) : Nat → Option (List Int × Int)
  | 0 => some ([], s.F)
  | h + 1 => match chN s b ts h with
    | none => none
    | some (c, a) => match pasN s b ts h a s.ps.length with
      | none => none
      | some a' => some (c ++ [a'], a')
def padC (c : List Int) : List Int := c ++ List.replicate (10 - c.length) 0
def chF (s : Smp) (b : Int) (ts : List Int) : Option (List Int) := (chN s b ts (s.L + 1).toNat).map fun q => padC q.1
theorem pasN_none {s : Smp} {b : Int} {ts : List Int} {h a0 : Int} {n : Nat} (hn : pasN s b ts h a0 n = none) : ∀ m, n ≤ m → pasN s b ts h a0 m = none := by
  intro m hm
  obtain ⟨d, rfl⟩ : ∃ d, m = n + d := ⟨m - n, by omega⟩
  clear hm
  induction d with
  | zero => exact hn
  | succ d ih => rw [← Nat.add_assoc, pasN, ih]
theorem chN_none {s : Smp} {b : Int} {ts : List Int} {n : Nat} (hn : chN s b ts n = none) : ∀ m, n ≤ m → chN s b ts m = none := by
  intro m hm
  obtain ⟨d, rfl⟩ : ∃ d, m = n + d := ⟨m - n, by omega⟩
  clear hm
  induction d with
  | zero => exact hn
  | succ d ih => rw [← Nat.add_assoc, chN, ih]
theorem chN_len {s : Smp} {b : Int} {ts : List Int} : ∀ {h : Nat} {q : List Int × Int}, chN s b ts h = some q → q.1.length = h
  | 0, q, e => by cases e; rfl
  | h + 1, q, e => by
    rw [chN] at e
    split at e
    · cases e
    · rename_i c a h1
      split at e
      · cases e
      · cases e
        rw [List.length_append, chN_len h1]; rfl
theorem pasN_ok {s : Smp} (hv : VSm s) {b : Int} {ts : List Int} {h a0 : Int} (h0 : 0 ≤ a0 ∧ a0 < s.P) : ∀ {n : Nat} {a : Int}, n ≤ s.ps.length → pasN s b ts h a0 n = some a → 0 ≤ a ∧ a < s.P
  | 0, a, _, e => by cases e; exact h0
  | n + 1, a, hn, e => by
    rw [pasN] at e
    split at e
    · cases e
    · rename_i a1 h1
      have ih := pasN_ok hv h0 (by omega) h1
      split at e
      · split at e
        · cases e; exact (hv.ps _ (getD_memG (n := n) (d := pas0) (by omega))).2.2.1
        · cases e
      · cases e; exact ih
theorem chN_ok {s : Smp} (hv : VSm s) {b : Int} {ts : List Int} : ∀ {h : Nat} {q : List Int × Int}, chN s b ts h = some q → (0 ≤ q.2 ∧ q.2 < s.P) ∧ ∀ x ∈ q.1, 0 ≤ x ∧ x < s.P
  | 0, q, e => by cases e; exact ⟨⟨hv.f0, hv.f1⟩, fun x hx => by cases hx⟩
  | h + 1, q, e => by
    rw [chN] at e
    split at e
    · cases e
    · rename_i c a h1
      have ih := chN_ok hv h1
      split at e
      · cases e
      · rename_i a' h2
        cases e
        have h3 := pasN_ok hv ih.1 (Nat.le_refl _) h2
        refine ⟨h3, fun x hx => ?_⟩
        rcases List.mem_append.1 hx with hx | hx
        · exact ih.2 x hx
        · obtain rfl := List.mem_singleton.1 hx; exact h3
theorem padC_len {c : List Int} (h : c.length ≤ 10) : (padC c).length = 10 := by unfold padC; simp; omega
theorem chF_ok {s : Smp} (hv : VSm s) {b : Int} {ts c : List Int} (h : chF s b ts = some c) : ChOk s c := by
  unfold chF at h
  obtain ⟨q, h1, rfl⟩ := Option.map_eq_some_iff.1 h
  have hl := chN_len h1
  have hl0 := hv.l0
  have hl9 := hv.l9
  refine ⟨padC_len (by omega), fun n hn => ?_⟩
  have hlt : n < q.1.length := by omega
  have := (chN_ok hv h1).2 _ (getD_memG (n := n) (d := 0) hlt)
  unfold padC
  rw [List.getD_eq_getElem?_getD, List.getElem?_append_left hlt, ← List.getD_eq_getElem?_getD]
  exact this
theorem padC_set {c : List Int} {a : Int} {h : Nat} (hl : c.length = h) (hh : h < 10) : (padC c).set h a = padC (c ++ [a]) := by
  unfold padC
  rw [List.set_append_right _ _ (by omega), hl, Nat.sub_self, List.length_append, List.length_singleton, hl]
  obtain ⟨m, hm⟩ : ∃ m, 10 - h = m + 1 := ⟨10 - h - 1, by omega⟩
  rw [hm, List.replicate_succ, List.set_cons_zero, show 10 - (h + 1) = m from by omega, List.append_assoc]; rfl
set_option maxHeartbeats 1000000 in
theorem chained_c (s : Smp) (hf : Few s) (hv : VSm s) (b : Int) (ts : List Int) (hts : ts.length = s.ps.length) (tv pv gv hv' : Value) (w : World) (hr : RdSm w s tv pv gv) (hh : RdI w hv' ts) :
    CnX Tryz.prog 78 #[smV s tv pv gv, vi b, hv'] w [] (fun y : List Int => .tuple #[.agg (isV y), .bool (chF s b ts).isSome]) (fun y _ => y.length = 10 ∧ ∀ c, chF s b ts = some c → y = c) := by
  have hl0 := hv.l0
  have hl9 := hv.l9
  have hn6 := hv.n6
  obtain ⟨adp, cpp, bp, op, rfl, hadp, hcp⟩ := hr.ps.open psE_len pas0
  obtain ⟨adh, cph, bh, oh, rfl, hadh, hch⟩ := hh.open
  refine cnx0 (vs := [_, _, _]) Tryz.func78 rfl rfl ?_
  all_goals refine tc_seq fun K1 hK1 => ?_
  all_goals refine tc_region ?_
  all_goals refine tl_e (e_box rfl rfl rfl) rfl (fun b3 _ => ?_)
  all_goals refine tl_e (e_allocN rfl) rfl (fun b6 _ => ?_)
  all_goals refine tl_q (y_assign rfl) rfl ?_
  all_goals refine tl_nil ?_
  all_goals (refine hK1 ?_; try (clear hK1; clear K1))
  all_goals refine tc_seq fun K2 hK2 => ?_
  all_goals refine tc_region ?_
  all_goals refine tl_q (y_field rfl) rfl ?_
  all_goals (first | refine tl_q (y_load1 rfl (by repeat constructor) (by rfl)) rfl ?_ | refine tl_q (y_loadNo (n := 5) (vs := [vi (s.ps.getD n pas0).b, vi (s.ps.getD n pas0).fr, vi (s.ps.getD n pas0).to, vi (s.ps.getD n pas0).lo, vi (s.ps.getD n pas0).hi]) rfl (fun w' hw' => by rw [show Int.toNat (n : Int) * 5 = n * 5 from by omega]; exact hcp w' [] (hw'.fr (w0 := w) (S := []) MI.m) (by simp) n (by omega))) rfl ?_ | refine tl_q (y_load1o (v := vi (ts.getD n 0)) rfl (fun w' hw' => by rw [show Int.toNat (n : Int) * 1 = n from by omega]; exact hch w' (hw'.fr (w0 := w) (S := []) MI.m) n (by omega))) rfl ?_)
  all_goals refine tl_q (y_assign rfl) rfl ?_
  all_goals refine tl_nil ?_
  all_goals (refine hK2 ?_; try (clear hK2; clear K2))
  all_goals refine tc_seq fun K3 hK3 => ?_
  all_goals refine tc_seq fun K4 hK4 => ?_
  all_goals refine tc_region ?_
  all_goals refine tl_q (y_field rfl) rfl ?_
  all_goals (first | refine tl_q (y_load1 rfl (by repeat constructor) (by rfl)) rfl ?_ | refine tl_q (y_loadNo (n := 5) (vs := [vi (s.ps.getD n pas0).b, vi (s.ps.getD n pas0).fr, vi (s.ps.getD n pas0).to, vi (s.ps.getD n pas0).lo, vi (s.ps.getD n pas0).hi]) rfl (fun w' hw' => by rw [show Int.toNat (n : Int) * 5 = n * 5 from by omega]; exact hcp w' [] (hw'.fr (w0 := w) (S := []) MI.m) (by simp) n (by omega))) rfl ?_ | refine tl_q (y_load1o (v := vi (ts.getD n 0)) rfl (fun w' hw' => by rw [show Int.toNat (n : Int) * 1 = n from by omega]; exact hch w' (hw'.fr (w0 := w) (S := []) MI.m) n (by omega))) rfl ?_)
  all_goals refine tl_q (y_add rfl rfl (by omega)) rfl ?_
  all_goals refine tl_q (y_move rfl) rfl ?_
  all_goals refine tl_nil ?_
  all_goals (refine hK4 ?_; try (clear hK4; clear K4))
  all_goals refine tc_block ?_
  all_goals (
   refine tc_loop (fun p : Nat × List Int × Int => (p.1 : Int) ≤ s.L + 1 ∧ chN s b ts p.1 = some p.2) (fun p => [(1, vi b), (2, .slice adh ts.length cph), (3, ptr b3), (6, ptr b6), (8, vi p.2.2), (16, vi (s.L + 1)), (17, vi p.1)]) (fun _ => [(w, [])]) (fun p => [(b6, .cells (isV (padC p.2.1)) 124 (0, 0)), (b3, .cells #[vi s.B, vi s.P, vi s.L, vi s.F, tv, .slice adp s.ps.length cpp, gv] 36 (0, 0))]) (fun p => (s.L + 1).toNat - p.1) ?_ ?_
   · exact tk_start (0, [], s.F) ⟨by dsimp only; omega, rfl⟩ (.cons rfl (.cons rfl (.cons rfl (.cons rfl (.cons rfl (.cons rfl (.cons rfl .nil))))))) (fun _ h => h.subl SB.s SB.s)
   · rintro ⟨h, c, a⟩ ⟨hh2, hcn⟩
     dsimp only at hh2 hcn ⊢
     have hcl := chN_len hcn
     dsimp only at hcl
     all_goals refine tc_seq fun K5 hK5 => ?_
     all_goals refine tc_region ?_
     all_goals refine tl_q (y_lss rfl rfl) rfl ?_
     all_goals refine tl_nil ?_
     all_goals (refine hK5 ?_; try (clear hK5; clear K5))
     all_goals refine tc_seq fun K6 hK6 => ?_
     all_goals (
      refine tc_cond rfl (fun hc => ?_) (fun hc => ?_)
      · try simp only [qn1, qn2, qn3, qn4, qn5, qn6, qn7, qn8] at hc
        all_goals first | (exfalso; with_reducible exact bft hc) | (exfalso; with_reducible exact btf hc) | (exfalso; omega) | skip
        all_goals refine tc_skip ?_
        all_goals (refine hK6 ?_; try (clear hK6; clear K6))
        all_goals refine tc_seq fun K7 hK7 => ?_
        all_goals refine tc_block ?_
        all_goals refine tc_seq fun K8 hK8 => ?_
        all_goals refine tc_region ?_
        all_goals refine tl_q (y_move rfl) rfl ?_
        all_goals refine tl_q (y_assign rfl) rfl ?_
        all_goals refine tl_nil ?_
        all_goals (refine hK8 ?_; try (clear hK8; clear K8))
        all_goals refine tc_seq fun K9 hK9 => ?_
        all_goals refine tc_seq fun K10 hK10 => ?_
        all_goals refine tc_region ?_
        all_goals refine tl_q (y_field rfl) rfl ?_
        all_goals (first | refine tl_q (y_load1 rfl (by repeat constructor) (by rfl)) rfl ?_ | refine tl_q (y_loadNo (n := 5) (vs := [vi (s.ps.getD n pas0).b, vi (s.ps.getD n pas0).fr, vi (s.ps.getD n pas0).to, vi (s.ps.getD n pas0).lo, vi (s.ps.getD n pas0).hi]) rfl (fun w' hw' => by rw [show Int.toNat (n : Int) * 5 = n * 5 from by omega]; exact hcp w' [] (hw'.fr (w0 := w) (S := []) MI.m) (by simp) n (by omega))) rfl ?_ | refine tl_q (y_load1o (v := vi (ts.getD n 0)) rfl (fun w' hw' => by rw [show Int.toNat (n : Int) * 1 = n from by omega]; exact hch w' (hw'.fr (w0 := w) (S := []) MI.m) n (by omega))) rfl ?_)
        all_goals refine tl_q (y_len rfl) rfl ?_
        all_goals refine tl_q (y_move rfl) rfl ?_
        all_goals refine tl_nil ?_
        all_goals (refine hK10 ?_; try (clear hK10; clear K10))
        all_goals refine tc_block ?_
        all_goals (
         refine tc_loop (fun p : Nat × Int => p.1 ≤ s.ps.length ∧ pasN s b ts h a p.1 = some p.2) (fun p => [(1, vi b), (2, .slice adh ts.length cph), (3, ptr b3), (6, ptr b6), (8, vi p.2), (9, vi h), (16, vi (s.L + 1)), (17, vi h), (21, .slice adp s.ps.length cpp), (22, vi s.ps.length), (23, vi p.1)]) (fun _ => [(w, [])]) (fun p => [(b6, .cells (isV (padC c)) 124 (0, 0)), (b3, .cells #[vi s.B, vi s.P, vi s.L, vi s.F, tv, .slice adp s.ps.length cpp, gv] 36 (0, 0))]) (fun p => s.ps.length - p.1) ?_ ?_
         · exact tk_start (0, a) ⟨Nat.zero_le _, rfl⟩ (.cons rfl (.cons rfl (.cons rfl (.cons rfl (.cons rfl (.cons rfl (.cons rfl (.cons rfl (.cons rfl (.cons rfl (.cons rfl .nil))))))))))) (fun _ h => h.subl SB.s SB.s)
         · rintro ⟨n, a1⟩ ⟨hn, hpn⟩
           dsimp only at hn hpn ⊢
           all_goals refine tc_seq fun K11 hK11 => ?_
           all_goals refine tc_region ?_
           all_goals refine tl_q (y_lss rfl rfl) rfl ?_
           all_goals refine tl_nil ?_
           all_goals (refine hK11 ?_; try (clear hK11; clear K11))
           all_goals refine tc_seq fun K12 hK12 => ?_
           all_goals (
            refine tc_cond rfl (fun hc => ?_) (fun hc => ?_)
            · try simp only [qn1, qn2, qn3, qn4, qn5, qn6, qn7, qn8] at hc
              all_goals first | (exfalso; with_reducible exact bft hc) | (exfalso; with_reducible exact btf hc) | (exfalso; omega) | skip
              all_goals refine tc_skip ?_
              all_goals (refine hK12 ?_; try (clear hK12; clear K12))
              all_goals refine tc_seq fun K13 hK13 => ?_
              all_goals refine tc_block ?_
              all_goals refine tc_seq fun K14 hK14 => ?_
              all_goals refine tc_region ?_
              all_goals refine tl_q (y_move rfl) rfl ?_
              all_goals (first | refine tl_q (y_index rfl rfl (by omega) (hadp (by omega))) rfl ?_ | refine tl_q (y_index rfl rfl (by omega) (hadh (by omega))) rfl ?_ | refine tl_q (y_indexA rfl rfl (by omega)) rfl ?_ | refine tl_q (y_index rfl rfl (by omega) rfl) rfl ?_ | refine tl_q (y_indexA rfl rfl (by omega)) rfl ?_)
              all_goals (first | refine tl_q (y_loadW rfl (by repeat constructor) (by rw [isV_size, padC_len (by omega)])) rfl ?_ | refine tl_q (y_loadW rfl (by repeat constructor) (by rfl)) rfl ?_ | refine tl_q (y_loadN rfl (by repeat constructor) (by (repeat (first | exact .nil | apply CA.cons rfl)); done)) rfl ?_ | refine tl_q (y_loadNo (n := 5) (vs := [vi (s.ps.getD n pas0).b, vi (s.ps.getD n pas0).fr, vi (s.ps.getD n pas0).to, vi (s.ps.getD n pas0).lo, vi (s.ps.getD n pas0).hi]) rfl (fun w' hw' => by rw [show Int.toNat (n : Int) * 5 = n * 5 from by omega]; exact hcp w' [] (hw'.fr (w0 := w) (S := []) MI.m) (by simp) n (by omega))) rfl ?_ | refine tl_q (y_load1o (v := vi (ts.getD n 0)) rfl (fun w' hw' => by rw [show Int.toNat (n : Int) * 1 = n from by omega]; exact hch w' (hw'.fr (w0 := w) (S := []) MI.m) n (by omega))) rfl ?_)
              all_goals refine tl_e (e_allocN rfl) rfl (fun b11 _ => ?_)
              all_goals refine tl_q (y_assign rfl) rfl ?_
              all_goals refine tl_e (e_storeW rfl rfl (by repeat constructor) (by rfl) (by rfl) (by simp [Value.oneCell'])) rfl (fun _ _ => ?_)
              all_goals refine tl_nil ?_
              all_goals (refine hK14 ?_; try (clear hK14; clear K14))
              all_goals refine tc_seq fun K15 hK15 => ?_
              all_goals refine tc_seq fun K16 hK16 => ?_
              all_goals refine tc_region ?_
              all_goals refine tl_q (y_field rfl) rfl ?_
              all_goals (first | refine tl_q (y_load1 rfl (by repeat constructor) (by rfl)) rfl ?_ | refine tl_q (y_loadNo (n := 5) (vs := [vi (s.ps.getD n pas0).b, vi (s.ps.getD n pas0).fr, vi (s.ps.getD n pas0).to, vi (s.ps.getD n pas0).lo, vi (s.ps.getD n pas0).hi]) rfl (fun w' hw' => by rw [show Int.toNat (n : Int) * 5 = n * 5 from by omega]; exact hcp w' [] (hw'.fr (w0 := w) (S := []) MI.m) (by simp) n (by omega))) rfl ?_ | refine tl_q (y_load1o (v := vi (ts.getD n 0)) rfl (fun w' hw' => by rw [show Int.toNat (n : Int) * 1 = n from by omega]; exact hch w' (hw'.fr (w0 := w) (S := []) MI.m) n (by omega))) rfl ?_)
              all_goals refine tl_q (y_move rfl) rfl ?_
              all_goals refine tl_q (y_neq rfl rfl) rfl ?_
              all_goals refine tl_q (y_move rfl) rfl ?_
              all_goals (first | refine tl_sk rfl rfl rfl rfl ?_ | refine tl_qg rfl rfl (y_move rfl) rfl ?_ | refine tl_su rfl rfl rfl ?_ | (refine tl_gs rfl rfl (fun hc => ?_) (fun hc => ?_) <;> (try simp only [qn1, qn2, qn3, qn4, qn5, qn6, qn7, qn8] at hc) <;> (first | (exfalso; omega) | refine tl_sk rfl rfl rfl rfl ?_ | refine tl_qg rfl rfl (y_move rfl) rfl ?_ | refine tl_su rfl rfl rfl ?_)))
              all_goals (first | refine tl_sk rfl rfl rfl rfl ?_ | refine tl_qg rfl rfl (y_move rfl) rfl ?_ | refine tl_su rfl rfl rfl ?_ | (refine tl_gs rfl rfl (fun hc => ?_) (fun hc => ?_) <;> (try simp only [qn1, qn2, qn3, qn4, qn5, qn6, qn7, qn8] at hc) <;> (first | (exfalso; omega) | refine tl_sk rfl rfl rfl rfl ?_ | refine tl_qg rfl rfl (y_move rfl) rfl ?_ | refine tl_su rfl rfl rfl ?_)))
              all_goals (first | refine tl_sk rfl rfl rfl rfl ?_ | refine tl_qg rfl rfl (y_index rfl rfl (by omega) (hadp (by omega))) rfl ?_ | refine tl_qg rfl rfl (y_index rfl rfl (by omega) (hadh (by omega))) rfl ?_ | refine tl_qg rfl rfl (y_indexA rfl rfl (by omega)) rfl ?_ | refine tl_qg rfl rfl (y_index rfl rfl (by omega) rfl) rfl ?_ | refine tl_qg rfl rfl (y_indexA rfl rfl (by omega)) rfl ?_ | refine tl_su rfl rfl rfl ?_ | (refine tl_gs rfl rfl (fun hc => ?_) (fun hc => ?_) <;> (try simp only [qn1, qn2, qn3, qn4, qn5, qn6, qn7, qn8] at hc) <;> (first | (exfalso; omega) | refine tl_sk rfl rfl rfl rfl ?_ | refine tl_qg rfl rfl (y_index rfl rfl (by omega) (hadp (by omega))) rfl ?_ | refine tl_qg rfl rfl (y_index rfl rfl (by omega) (hadh (by omega))) rfl ?_ | refine tl_qg rfl rfl (y_indexA rfl rfl (by omega)) rfl ?_ | refine tl_qg rfl rfl (y_index rfl rfl (by omega) rfl) rfl ?_ | refine tl_qg rfl rfl (y_indexA rfl rfl (by omega)) rfl ?_ | refine tl_su rfl rfl rfl ?_)))
              all_goals (first | refine tl_sk rfl rfl rfl rfl ?_ | refine tl_qg rfl rfl (y_load1 rfl (by repeat constructor) (by rfl)) rfl ?_ | refine tl_qg rfl rfl (y_loadNo (n := 5) (vs := [vi (s.ps.getD n pas0).b, vi (s.ps.getD n pas0).fr, vi (s.ps.getD n pas0).to, vi (s.ps.getD n pas0).lo, vi (s.ps.getD n pas0).hi]) rfl (fun w' hw' => by rw [show Int.toNat (n : Int) * 5 = n * 5 from by omega]; exact hcp w' [] (hw'.fr (w0 := w) (S := []) MI.m) (by simp) n (by omega))) rfl ?_ | refine tl_qg rfl rfl (y_load1o (v := vi (ts.getD n 0)) rfl (fun w' hw' => by rw [show Int.toNat (n : Int) * 1 = n from by omega]; exact hch w' (hw'.fr (w0 := w) (S := []) MI.m) n (by omega))) rfl ?_ | refine tl_su rfl rfl rfl ?_ | (refine tl_gs rfl rfl (fun hc => ?_) (fun hc => ?_) <;> (try simp only [qn1, qn2, qn3, qn4, qn5, qn6, qn7, qn8] at hc) <;> (first | (exfalso; omega) | refine tl_sk rfl rfl rfl rfl ?_ | refine tl_qg rfl rfl (y_load1 rfl (by repeat constructor) (by rfl)) rfl ?_ | refine tl_qg rfl rfl (y_loadNo (n := 5) (vs := [vi (s.ps.getD n pas0).b, vi (s.ps.getD n pas0).fr, vi (s.ps.getD n pas0).to, vi (s.ps.getD n pas0).lo, vi (s.ps.getD n pas0).hi]) rfl (fun w' hw' => by rw [show Int.toNat (n : Int) * 5 = n * 5 from by omega]; exact hcp w' [] (hw'.fr (w0 := w) (S := []) MI.m) (by simp) n (by omega))) rfl ?_ | refine tl_qg rfl rfl (y_load1o (v := vi (ts.getD n 0)) rfl (fun w' hw' => by rw [show Int.toNat (n : Int) * 1 = n from by omega]; exact hch w' (hw'.fr (w0 := w) (S := []) MI.m) n (by omega))) rfl ?_ | refine tl_su rfl rfl rfl ?_)))
              all_goals (first | refine tl_sk rfl rfl rfl rfl ?_ | refine tl_qg rfl rfl (y_move rfl) rfl ?_ | refine tl_su rfl rfl rfl ?_ | (refine tl_gs rfl rfl (fun hc => ?_) (fun hc => ?_) <;> (try simp only [qn1, qn2, qn3, qn4, qn5, qn6, qn7, qn8] at hc) <;> (first | (exfalso; omega) | refine tl_sk rfl rfl rfl rfl ?_ | refine tl_qg rfl rfl (y_move rfl) rfl ?_ | refine tl_su rfl rfl rfl ?_)))
              all_goals (first | refine tl_sk rfl rfl rfl rfl ?_ | refine tl_qg rfl rfl (y_neq rfl rfl) rfl ?_ | refine tl_su rfl rfl rfl ?_ | (refine tl_gs rfl rfl (fun hc => ?_) (fun hc => ?_) <;> (try simp only [qn1, qn2, qn3, qn4, qn5, qn6, qn7, qn8] at hc) <;> (first | (exfalso; omega) | refine tl_sk rfl rfl rfl rfl ?_ | refine tl_qg rfl rfl (y_neq rfl rfl) rfl ?_ | refine tl_su rfl rfl rfl ?_)))
              all_goals (first | refine tl_q (y_pick_t rfl rfl) rfl ?_ | refine tl_q (y_pick_f rfl rfl) rfl ?_)
              all_goals refine tl_nil ?_
              all_goals (refine hK16 ?_; try (clear hK16; clear K16))
              all_goals (
               refine tc_cond rfl (fun hc => ?_) (fun hc => ?_)
               · try simp only [qn1, qn2, qn3, qn4, qn5, qn6, qn7, qn8] at hc
                 all_goals first | (exfalso; with_reducible exact bft hc) | (exfalso; with_reducible exact btf hc) | (exfalso; omega) | skip
                 all_goals refine tc_exit ?_
                 all_goals (refine hK13 ?_; try (clear hK13; clear K13))
                 all_goals refine tc_region ?_
                 all_goals refine tl_q (y_add rfl rfl (by omega)) rfl ?_
                 all_goals refine tl_q (y_move rfl) rfl ?_
                 all_goals refine tl_nil ?_
                 all_goals (
                  first
                  | (have hs : pasN s b ts h a (n + 1) = some (s.ps.getD n pas0).to := by rw [pasN, hpn]; simp only; rw [if_pos (by omega), if_pos (by omega)]
                     exact tk_round (n + 1, (s.ps.getD n pas0).to) ⟨by dsimp only; omega, hs⟩ (by dsimp only; omega) (.cons rfl (.cons rfl (.cons rfl (.cons rfl (.cons rfl (.cons rfl (.cons rfl (.cons rfl (.cons rfl (.cons rfl (.cons rfl .nil))))))))))) (fun _ h => h.subl SB.s SB.s))
                  | (have hs : pasN s b ts h a (n + 1) = some a1 := by rw [pasN, hpn]; simp only; rw [if_neg (by omega)]
                     exact tk_round (n + 1, a1) ⟨by dsimp only; omega, hs⟩ (by dsimp only; omega) (.cons rfl (.cons rfl (.cons rfl (.cons rfl (.cons rfl (.cons rfl (.cons rfl (.cons rfl (.cons rfl (.cons rfl (.cons rfl .nil))))))))))) (fun _ h => h.subl SB.s SB.s)))
               · try simp only [qn1, qn2, qn3, qn4, qn5, qn6, qn7, qn8] at hc
                 all_goals first | (exfalso; with_reducible exact bft hc) | (exfalso; with_reducible exact btf hc) | (exfalso; omega) | skip
                 all_goals refine tc_skip ?_
                 all_goals (refine hK15 ?_; try (clear hK15; clear K15))
                 all_goals refine tc_seq fun K17 hK17 => ?_
                 all_goals refine tc_seq fun K18 hK18 => ?_
                 all_goals refine tc_region ?_
                 all_goals refine tl_q (y_field rfl) rfl ?_
                 all_goals (first | refine tl_q (y_load1 rfl (by repeat constructor) (by rfl)) rfl ?_ | refine tl_q (y_loadNo (n := 5) (vs := [vi (s.ps.getD n pas0).b, vi (s.ps.getD n pas0).fr, vi (s.ps.getD n pas0).to, vi (s.ps.getD n pas0).lo, vi (s.ps.getD n pas0).hi]) rfl (fun w' hw' => by rw [show Int.toNat (n : Int) * 5 = n * 5 from by omega]; exact hcp w' [] (hw'.fr (w0 := w) (S := []) MI.m) (by simp) n (by omega))) rfl ?_ | refine tl_q (y_load1o (v := vi (ts.getD n 0)) rfl (fun w' hw' => by rw [show Int.toNat (n : Int) * 1 = n from by omega]; exact hch w' (hw'.fr (w0 := w) (S := []) MI.m) n (by omega))) rfl ?_)
                 all_goals refine tl_q (y_move rfl) rfl ?_
                 all_goals refine tl_q (y_neq rfl rfl) rfl ?_
                 all_goals refine tl_nil ?_
                 all_goals (refine hK18 ?_; try (clear hK18; clear K18))
                 all_goals (
                  refine tc_cond rfl (fun hc => ?_) (fun hc => ?_)
                  · try simp only [qn1, qn2, qn3, qn4, qn5, qn6, qn7, qn8] at hc
                    all_goals first | (exfalso; with_reducible exact bft hc) | (exfalso; with_reducible exact btf hc) | (exfalso; omega) | skip
                    all_goals refine tc_seq fun K19 hK19 => ?_
                    all_goals refine tc_region ?_
                    all_goals (first | refine tl_q (y_loadW rfl (by repeat constructor) (by rw [isV_size, padC_len (by omega)])) rfl ?_ | refine tl_q (y_loadW rfl (by repeat constructor) (by rfl)) rfl ?_ | refine tl_q (y_loadN rfl (by repeat constructor) (by (repeat (first | exact .nil | apply CA.cons rfl)); done)) rfl ?_ | refine tl_q (y_loadNo (n := 5) (vs := [vi (s.ps.getD n pas0).b, vi (s.ps.getD n pas0).fr, vi (s.ps.getD n pas0).to, vi (s.ps.getD n pas0).lo, vi (s.ps.getD n pas0).hi]) rfl (fun w' hw' => by rw [show Int.toNat (n : Int) * 5 = n * 5 from by omega]; exact hcp w' [] (hw'.fr (w0 := w) (S := []) MI.m) (by simp) n (by omega))) rfl ?_ | refine tl_q (y_load1o (v := vi (ts.getD n 0)) rfl (fun w' hw' => by rw [show Int.toNat (n : Int) * 1 = n from by omega]; exact hch w' (hw'.fr (w0 := w) (S := []) MI.m) n (by omega))) rfl ?_)
                    all_goals refine tl_e (e_storeW rfl rfl (by repeat constructor) (by rw [isV_size, padC_len (by omega)]) (by rw [isV_size, padC_len (by omega)]) (isV_one _)) rfl (fun _ _ => ?_)
                    all_goals refine tl_q (y_assign rfl) rfl ?_
                    all_goals refine tl_nil ?_
                    all_goals (refine hK19 ?_; try (clear hK19; clear K19))
                    all_goals refine tc_ret ?_
                    all_goals (repeat (first | refine tk_then_ret ?_ | refine tk_block_ret ?_ | refine tk_scope_ret ?_))
                    all_goals first | refine tk_ret rfl rfl (.cons (.agg inferInstance rfl (by repeat constructor) (by rw [isV_size, padC_len (by omega)])) (.cons (.tmp rfl) .nil)) ?_ | refine tk_retM rfl (by repeat constructor) rfl (.cons (.agg inferInstance rfl (by repeat constructor) (by rw [isV_size, padC_len (by omega)])) (.cons (.tmp rfl) .nil)) ?_
                    all_goals (
                     first
                     | (have hs : pasN s b ts h a (n + 1) = none := by rw [pasN, hpn]; simp only; rw [if_pos (by omega), if_neg (by omega)]
                        have hs2 : chN s b ts (h + 1) = none := by rw [chN, hcn]; simp only; rw [pasN_none hs _ (by omega)]
                        have hs3 : chF s b ts = none := by unfold chF; rw [chN_none hs2 _ (by omega)]; rfl
                        exact fun w' hw' => ⟨padC c, by rw [hs3]; rfl, hw'.fr (w0 := w) (S := []) MI.m, padC_len (by omega), fun c2 hc2 => by rw [hs3] at hc2; cases hc2⟩)
                     | (obtain rfl : h = (s.L + 1).toNat := by omega
                        have hs3 : chF s b ts = some (padC c) := by unfold chF; rw [hcn]; rfl
                        exact fun w' hw' => ⟨padC c, by rw [hs3]; rfl, hw'.fr (w0 := w) (S := []) MI.m, padC_len (by omega), fun c2 hc2 => by rw [hs3] at hc2; exact Option.some.inj hc2⟩))
                  · try simp only [qn1, qn2, qn3, qn4, qn5, qn6, qn7, qn8] at hc
                    all_goals first | (exfalso; with_reducible exact bft hc) | (exfalso; with_reducible exact btf hc) | (exfalso; omega) | skip
                    all_goals refine tc_skip ?_
                    all_goals (refine hK17 ?_; try (clear hK17; clear K17))
                    all_goals refine tc_region ?_
                    all_goals refine tl_q (y_field rfl) rfl ?_
                    all_goals (first | refine tl_q (y_load1 rfl (by repeat constructor) (by rfl)) rfl ?_ | refine tl_q (y_loadNo (n := 5) (vs := [vi (s.ps.getD n pas0).b, vi (s.ps.getD n pas0).fr, vi (s.ps.getD n pas0).to, vi (s.ps.getD n pas0).lo, vi (s.ps.getD n pas0).hi]) rfl (fun w' hw' => by rw [show Int.toNat (n : Int) * 5 = n * 5 from by omega]; exact hcp w' [] (hw'.fr (w0 := w) (S := []) MI.m) (by simp) n (by omega))) rfl ?_ | refine tl_q (y_load1o (v := vi (ts.getD n 0)) rfl (fun w' hw' => by rw [show Int.toNat (n : Int) * 1 = n from by omega]; exact hch w' (hw'.fr (w0 := w) (S := []) MI.m) n (by omega))) rfl ?_)
                    all_goals refine tl_q (y_assign rfl) rfl ?_
                    all_goals refine tl_nil ?_
                    all_goals (refine hK13 ?_; try (clear hK13; clear K13))
                    all_goals refine tc_region ?_
                    all_goals refine tl_q (y_add rfl rfl (by omega)) rfl ?_
                    all_goals refine tl_q (y_move rfl) rfl ?_
                    all_goals refine tl_nil ?_
                    all_goals (
                     first
                     | (have hs : pasN s b ts h a (n + 1) = some (s.ps.getD n pas0).to := by rw [pasN, hpn]; simp only; rw [if_pos (by omega), if_pos (by omega)]
                        exact tk_round (n + 1, (s.ps.getD n pas0).to) ⟨by dsimp only; omega, hs⟩ (by dsimp only; omega) (.cons rfl (.cons rfl (.cons rfl (.cons rfl (.cons rfl (.cons rfl (.cons rfl (.cons rfl (.cons rfl (.cons rfl (.cons rfl .nil))))))))))) (fun _ h => h.subl SB.s SB.s))
                     | (have hs : pasN s b ts h a (n + 1) = some a1 := by rw [pasN, hpn]; simp only; rw [if_neg (by omega)]
                        exact tk_round (n + 1, a1) ⟨by dsimp only; omega, hs⟩ (by dsimp only; omega) (.cons rfl (.cons rfl (.cons rfl (.cons rfl (.cons rfl (.cons rfl (.cons rfl (.cons rfl (.cons rfl (.cons rfl (.cons rfl .nil))))))))))) (fun _ h => h.subl SB.s SB.s)))))
            · try simp only [qn1, qn2, qn3, qn4, qn5, qn6, qn7, qn8] at hc
              all_goals first | (exfalso; with_reducible exact bft hc) | (exfalso; with_reducible exact btf hc) | (exfalso; omega) | skip
              all_goals refine tc_exit ?_
              all_goals (refine hK9 ?_; try (clear hK9; clear K9))
              all_goals refine tc_region ?_
              all_goals refine tl_q (y_move rfl) rfl ?_
              all_goals refine tl_q (y_move rfl) rfl ?_
              all_goals (first | refine tl_q (y_index rfl rfl (by omega) (hadp (by omega))) rfl ?_ | refine tl_q (y_index rfl rfl (by omega) (hadh (by omega))) rfl ?_ | refine tl_q (y_indexA rfl rfl (by omega)) rfl ?_ | refine tl_q (y_index rfl rfl (by omega) rfl) rfl ?_ | refine tl_q (y_indexA rfl rfl (by omega)) rfl ?_)
              all_goals (first | refine tl_e (e_store1 rfl rfl (by repeat constructor) (by repeat constructor) (by rfl) (by rfl)) rfl (fun _ _ => ?_) | refine tl_e (e_storeI (l := padC c) rfl rfl (by rw [padC_len (by omega)]; omega) (by repeat constructor)) rfl (fun _ _ => ?_))
              all_goals refine tl_nil ?_
              all_goals (refine hK7 ?_; try (clear hK7; clear K7))
              all_goals refine tc_region ?_
              all_goals refine tl_q (y_add rfl rfl (by omega)) rfl ?_
              all_goals refine tl_q (y_move rfl) rfl ?_
              all_goals refine tl_nil ?_
              all_goals (
               obtain rfl : n = s.ps.length := by omega
               have hs : chN s b ts (h + 1) = some (c ++ [a1], a1) := by rw [chN, hcn]; simp only; rw [hpn]
               exact tk_round (h + 1, c ++ [a1], a1) ⟨by dsimp only; omega, hs⟩ (by dsimp only; omega) (.cons rfl (.cons rfl (.cons rfl (.cons rfl (.cons rfl (.cons rfl (.cons rfl .nil))))))) (fun _ hg => by dsimp only; rw [← padC_set hcl (by omega)]; rw [show 0 + Int.toNat (h : Int) * 1 = h from by omega] at hg; exact hg.subl SB.s SB.s))))
      · try simp only [qn1, qn2, qn3, qn4, qn5, qn6, qn7, qn8] at hc
        all_goals first | (exfalso; with_reducible exact bft hc) | (exfalso; with_reducible exact btf hc) | (exfalso; omega) | skip
        all_goals refine tc_exit ?_
        all_goals (refine hK3 ?_; try (clear hK3; clear K3))
        all_goals refine tc_seq fun K20 hK20 => ?_
        all_goals refine tc_region ?_
        all_goals (first | refine tl_q (y_loadW rfl (by repeat constructor) (by rw [isV_size, padC_len (by omega)])) rfl ?_ | refine tl_q (y_loadW rfl (by repeat constructor) (by rfl)) rfl ?_ | refine tl_q (y_loadN rfl (by repeat constructor) (by (repeat (first | exact .nil | apply CA.cons rfl)); done)) rfl ?_ | refine tl_q (y_loadNo (n := 5) (vs := [vi (s.ps.getD n pas0).b, vi (s.ps.getD n pas0).fr, vi (s.ps.getD n pas0).to, vi (s.ps.getD n pas0).lo, vi (s.ps.getD n pas0).hi]) rfl (fun w' hw' => by rw [show Int.toNat (n : Int) * 5 = n * 5 from by omega]; exact hcp w' [] (hw'.fr (w0 := w) (S := []) MI.m) (by simp) n (by omega))) rfl ?_ | refine tl_q (y_load1o (v := vi (ts.getD n 0)) rfl (fun w' hw' => by rw [show Int.toNat (n : Int) * 1 = n from by omega]; exact hch w' (hw'.fr (w0 := w) (S := []) MI.m) n (by omega))) rfl ?_)
        all_goals refine tl_e (e_storeW rfl rfl (by repeat constructor) (by rw [isV_size, padC_len (by omega)]) (by rw [isV_size, padC_len (by omega)]) (isV_one _)) rfl (fun _ _ => ?_)
        all_goals refine tl_q (y_assign rfl) rfl ?_
        all_goals refine tl_nil ?_
        all_goals (refine hK20 ?_; try (clear hK20; clear K20))
        all_goals refine tc_ret ?_
        all_goals (repeat (first | refine tk_then_ret ?_ | refine tk_block_ret ?_ | refine tk_scope_ret ?_))
        all_goals first | refine tk_ret rfl rfl (.cons (.agg inferInstance rfl (by repeat constructor) (by rw [isV_size, padC_len (by omega)])) (.cons (.tmp rfl) .nil)) ?_ | refine tk_retM rfl (by repeat constructor) rfl (.cons (.agg inferInstance rfl (by repeat constructor) (by rw [isV_size, padC_len (by omega)])) (.cons (.tmp rfl) .nil)) ?_
        all_goals (
         first
         | (have hs : pasN s b ts h a (n + 1) = none := by rw [pasN, hpn]; simp only; rw [if_pos (by omega), if_neg (by omega)]
            have hs2 : chN s b ts (h + 1) = none := by rw [chN, hcn]; simp only; rw [pasN_none hs _ (by omega)]
            have hs3 : chF s b ts = none := by unfold chF; rw [chN_none hs2 _ (by omega)]; rfl
            exact fun w' hw' => ⟨padC c, by rw [hs3]; rfl, hw'.fr (w0 := w) (S := []) MI.m, padC_len (by omega), fun c2 hc2 => by rw [hs3] at hc2; cases hc2⟩)
         | (obtain rfl : h = (s.L + 1).toNat := by omega
            have hs3 : chF s b ts = some (padC c) := by unfold chF; rw [hcn]; rfl
            exact fun w' hw' => ⟨padC c, by rw [hs3]; rfl, hw'.fr (w0 := w) (S := []) MI.m, padC_len (by omega), fun c2 hc2 => by rw [hs3] at hc2; exact Option.some.inj hc2⟩))))
end Go.Sp
/-
  Package sample: the hours of all passes of a bottle, in all ways.
-/
namespace Go.Sp
open Go Go.Proofs
theorem e_mkS {P : Program} {N : NN} {F : List (Nat × Value)} {bs : List (World × List Nat)} {H : List (Nat × Obj)} {ty : TypeId} {pos : String} {after : Array Edge} {g : Option (Nat × Bool)} {dd : Tmp} {t e : TypeId} {sz by_ : Nat} {x y : Operand} {z : Value} {n : Nat} {out : List Value} [hs : TySlice P t e sz] (hi : (P.info? e).map (fun i => (i.zero, i.size, i.bytes)) = some (some z, sz, by_)) (hd : Nat.blt dd N.n = true)
    (hx : evalO F x = some (.int .i64 n)) (hy : evalO F y = some (.int .i64 n)) (hb : by_ * n ≤ 1000000) (hn : n * sz ≤ 1000000) (hn2 : n ≤ 1000000) (hout : madeCells z.cells (n * sz) = out.toArray) :
    OpE P ⟨some dd, .makeSlice t x y, ty, pos, after, g⟩ N F bs H (fun _ : Nat => True) (fun b => (dd, .slice (some ⟨b, 0, none⟩) n n) :: F) (fun _ => bs) (fun b => (b, .cells out.toArray e (0, 0)) :: H) := by
  unfold OpE
  intro a w ht hw K Q hK
  obtain ⟨i, h1, h2⟩ := Option.map_eq_some_iff.1 hi
  simp only [Prod.mk.injEq] at h2
  have hbb : (i.bytes : Int) * (n : Int) ≤ 281474976710656 := by
    have : ((i.bytes * n : Nat) : Int) ≤ 1000000 := by rw [h2.2.2]; omega
    rw [Int.natCast_mul] at this; omega
  have hrun := run_makeSlice (P := P) w t e i z hs.ty h1 h2.1 .i64 .i64 n n (by omega) (Int.le_refl _) (by rw [h2.2.1, Int.toNat_natCast]; omega) hbb (by omega)
  simp only [Int.toNat_natCast, h2.2.1, hout] at hrun
  unfold Oper.wp
  simp only [execOp, Sem.run_bind, ht.eval hx, ht.eval hy, hrun, Result.andThen, Sem.run_pure, Oper.upon]
  exact hK w.heap.size _ _ trivial (ht.put hd _) (hw.alloc _)
theorem e_y {P : Program} {N : NN} {F : List (Nat × Value)} {bs : List (World × List Nat)} {H : List (Nat × Obj)} {d : Tmp} {op : Op} {ty : TypeId} {pos : String} {after : Array Edge} {g : Option (Nat × Bool)} {v : Value} (hd : Nat.blt d N.n = true) (hy : OpY P ⟨some d, op, ty, pos, after, g⟩ F bs H v) :
    OpE P ⟨some d, op, ty, pos, after, g⟩ N F bs H (fun _ : Unit => True) (fun _ => (d, v) :: F) (fun _ => bs) (fun _ => H) := by
  unfold OpE
  unfold OpY at hy
  intro a w ht hw K Q hK
  unfold Oper.wp
  rw [hy N a w ht hw]
  simp only [Oper.upon]
  exact hK () _ _ trivial (ht.put hd _) hw
/-- Yield is called: what it does is said. -/
theorem e_yieldG {P : Program} {N : NN} {F : List (Nat × Value)} {bs : List (World × List Nat)} {H : List (Nat × Obj)} {d : Tmp} {ty : TypeId} {pos : String} {after : Array Edge} {g : Option (Nat × Bool)} {α : Type} {x : Operand} {xo : List Operand} {tys : Array TypeId} {vs : List Value} {l : Nat} {Hx : List (Nat × Obj)} {Hn : α → List (Nat × Obj)} {R : Bool → α → Prop} (H2 : List (Nat × Obj))
    (hd : Nat.blt d N.n = true) (hx : evalO F x = some (.func (.yield l) #[] #[])) (hxs : EA F xo vs) (hH : H = H2 ++ Hx) (hc : ∀ w, HG bs (H2 ++ Hx) w → YieldC P (.func (.yield l) #[] #[]) vs w (fun b w3 => Fr (Hx.map Prod.fst) w w3 ∧ ∃ s', KnS (Hn s') (Hx.map Prod.fst) w w3 ∧ R b s')) :
    OpR P ⟨some d, .call ⟨.value x, xo.toArray, tys⟩, ty, pos, after, g⟩ N F bs H (fun q : Bool × α => R q.1 q.2) (fun q => (d, .bool q.1) :: F) (fun _ => bs) (fun q => H2 ++ Hn q.2) := by
  unfold OpR
  intro r a w ht hw K Q hK
  subst hH
  obtain ⟨l', f, tmps, assign, body, h1, h2, h3⟩ := hc w hw
  cases h1
  have he : (execOp a.eval ⟨some d, .call ⟨.value x, xo.toArray, tys⟩, ty, pos, after, g⟩).run P w = .ok (.round l f tmps assign body) w := by
    simp only [execOp, resolve, Sem.run_bind, ht.eval hx, Deferred.ofValue, Sem.run_pure, Result.andThen, invoke, hxs.map ht]
    simpa using h2
  refine ⟨fun _ _ => trivial, ?_⟩
  rw [Oper.semAt_eq _ _ _ (by simp), he]
  refine ⟨fun h => (by cases h), RoundIn.mono (F := FW r) h3 fun e w' hq => ?_⟩
  obtain ⟨b, rfl, hf, s', hk', hor⟩ := hq
  exact hK (b, s') _ _ hor (ht.put hd _) (((hw.perm List.perm_append_comm).callS hf hk').perm List.perm_append_comm)
/-- A function value is called; all blocks of H1 are turned. -/
theorem e_callQ2 {P : Program} {N : NN} {F : List (Nat × Value)} {bs : List (World × List Nat)} {H : List (Nat × Obj)} {d : Tmp} {ty : TypeId} {pos : String} {after : Array Edge} {g : Option (Nat × Bool)} {f : FuncId} [GoFn P f] {x : Operand} {xs : List Operand} {tys : Array TypeId} {vs : List Value} {first cap : Array Value} {α : Type} {val : α → Value} {p : α → Prop} {H1 : List (Nat × Obj)} {Hn : α → List (Nat × Obj)} (H2 : List (Nat × Obj))
    (hd : Nat.blt d N.n = true) (hx : evalO F x = some (.func (.func f) first cap)) (hxs : EA F xs vs) (hH : H = H2 ++ H1) (hc : ∀ w, HG bs (H2 ++ H1) w → CnX P f (first ++ vs.toArray ++ cap) w (H1.map Prod.fst) val (fun x w' => p x ∧ KnS (Hn x) (H1.map Prod.fst) w w')) :
    OpE P ⟨some d, .call ⟨.value x, xs.toArray, tys⟩, ty, pos, after, g⟩ N F bs H p (fun y => (d, val y) :: F) (fun _ => bs) (fun y => H2 ++ Hn y) := by
  have h := e_callQf (P := P) (N := N) (F := F) (bs := bs) (H := H1 ++ H2) (H1 := H1) (H2 := H2) (ty := ty) (pos := pos) (after := after) (g := g) (tys := tys) (d := d) (x := x) (xs := xs) hd hx hxs rfl (fun w hw => hc w (hw.perm List.perm_append_comm))
  unfold OpE at h ⊢
  subst hH
  exact fun a w ht hw K Q hK => h a w ht (hw.perm List.perm_append_comm) K Q (fun q a' w' hp h1 h2 => hK q a' w' hp h1 (h2.perm List.perm_append_comm))
def genT (b : Int) : List Pas → List Int → List (List Int)
  | [], pre => [pre]
  | p :: ps, pre => if p.b = b then (List.range (p.hi - p.lo + 1).toNat).flatMap fun (j : Nat) => genT b ps (pre ++ [p.lo + (j : Int)]) else genT b ps (pre ++ [-1])
def timesL (s : Smp) (b : Int) : List (List Int) := genT b s.ps []
def genR (b : Int) (p : Pas) (ps : List Pas) (pre : List Int) (n : Nat) : List (List Int) := (List.range n).flatMap fun (j : Nat) => genT b ps (pre ++ [p.lo + (j : Int)])
theorem genR_succ (b : Int) (p : Pas) (ps : List Pas) (pre : List Int) (n : Nat) : genR b p ps pre (n + 1) = genR b p ps pre n ++ genT b ps (pre ++ [p.lo + (n : Int)]) := by simp [genR, List.range_succ]
theorem genR_pre (b : Int) (p : Pas) (ps : List Pas) (pre : List Int) {n m : Nat} (h : n ≤ m) : ∃ t, genR b p ps pre m = genR b p ps pre n ++ t := by
  obtain ⟨d, rfl⟩ : ∃ d, m = n + d := ⟨m - n, by omega⟩
  clear h
  induction d with
  | zero => exact ⟨[], by simp⟩
  | succ d ih => obtain ⟨t, ht⟩ := ih; exact ⟨t ++ _, by rw [← Nat.add_assoc, genR_succ, ht, List.append_assoc]⟩
theorem drop_at {s : Smp} {i : Nat} (hi : i < s.ps.length) : s.ps.drop i = s.ps.getD i pas0 :: s.ps.drop (i + 1) := by
  rw [List.drop_eq_getElem_cons hi, List.getD_eq_getElem?_getD, List.getElem?_eq_getElem hi]; rfl
abbrev chooseV (bH bY b1 b2 bC : Nat) : Value := .func (.func 147) #[] #[ptr bH, ptr bY, ptr b1, ptr b2, ptr bC]
structure EnvT (n : Nat) (s : Smp) (b : Int) (tv pv gv : Value) (l bH bY b1 b2 bC bh : Nat) (S : List Nat) (w : World) : Prop where
  hH : w.heap[bH]? = some (.cells #[.slice (some ⟨bh, 0, none⟩) n n] 29 (0, 0))
  hY : w.heap[bY]? = some (.cells #[.func (.yield l) #[] #[]] 142 (0, 0))
  h1 : w.heap[b1]? = some (.cells #[vi s.B, vi s.P, vi s.L, vi s.F, tv, pv, gv] 36 (0, 0))
  h2 : w.heap[b2]? = some (.cells #[vi b] 3 (0, 0))
  hC : w.heap[bC]? = some (.cells #[chooseV bH bY b1 b2 bC] 98 (0, 0))
  nn : ∀ x ∈ [bH, bY, b1, b2, bC], x ∉ S
  rd : ∀ w', Fr S w w' → RdS 5 psE w' pv s.ps
theorem lt_of {w : World} {b : Nat} {o : Obj} (h : w.heap[b]? = some o) : b < w.heap.size := (Array.getElem?_eq_some_iff.1 h).1
theorem EnvT.step {n : Nat} {s : Smp} {b : Int} {tv pv gv : Value} {l bH bY b1 b2 bC bh : Nat} {S S' : List Nat} {w w' : World} (h : EnvT n s b tv pv gv l bH bY b1 b2 bC bh S w) (f : Fr S w w') (hS : ∀ x ∈ S', x ∈ S ∨ w.heap.size ≤ x) : EnvT n s b tv pv gv l bH bY b1 b2 bC bh S' w' := by
  have m1 := h.nn bH (by simp)
  have m2 := h.nn bY (by simp)
  have m3 := h.nn b1 (by simp)
  have m4 := h.nn b2 (by simp)
  have m5 := h.nn bC (by simp)
  refine ⟨f.keepS m1 h.hH, f.keepS m2 h.hY, f.keepS m3 h.h1, f.keepS m4 h.h2, f.keepS m5 h.hC, fun x hx hx' => ?_, fun w2 f2 => h.rd w2 (f.trans f2 hS)⟩
  have hlt : x < w.heap.size := by
    simp only [List.mem_cons, List.not_mem_nil, or_false] at hx
    rcases hx with rfl | rfl | rfl | rfl | rfl
    · exact lt_of h.hH
    · exact lt_of h.hY
    · exact lt_of h.h1
    · exact lt_of h.h2
    · exact lt_of h.hC
  rcases hS x hx' with g | g
  · exact h.nn x hx g
  · omega
/-- The hours at hand lie in block bh. -/
abbrev hrsO (x : List Int) : Obj := .cells (isV x) 3 (0, 0)
def preT (x : List Int) (y : Nat) (S : List Nat) (w : World) : Prop := w.heap[y]? = some (hrsO x) ∧ y ∉ S
abbrev encT (n : Nat) (y : Nat) : List Value := [.slice (some ⟨y, 0, none⟩) n n]
abbrev HqT {σ : Type} (Hx : σ → List (Nat × Obj)) (bh : Nat) (q : σ × List Int) : List (Nat × Obj) := (bh, hrsO q.2) :: Hx q.1
set_option maxHeartbeats 4000000 in
theorem choose_c {σ : Type} (s : Smp) (hv : VSm s) (b : Int) (tv pv gv : Value) (l bH bY b1 b2 bC bh : Nat) (Hx : σ → List (Nat × Obj)) (I : Nat → σ → Prop) (J : σ → Prop) (xs : List (List Int)) (S1 : List Nat) (w1 : World)
    (hYd : YdQ Tryz.prog (.func (.yield l) #[] #[]) (encT s.ps.length) preT xs S1 Hx I J w1) :
    ∀ (m i : Nat) (arr : List Int) (k : Nat) (st : σ) (w : World), i + m = s.ps.length → arr.length = s.ps.length → I k st → EnvT s.ps.length s b tv pv gv l bH bY b1 b2 bC bh ((HqT Hx bh (st, arr)).map Prod.fst) w → Fr S1 w1 w → KnS (HqT Hx bh (st, arr)) S1 w1 w →
      (∀ (j : Nat) (x : List Int), (genT b (s.ps.drop i) (arr.take i))[j]? = some x → xs[k + j]? = some x) →
      CnX Tryz.prog 147 #[vi i, ptr bH, ptr bY, ptr b1, ptr b2, ptr bC] w ((HqT Hx bh (st, arr)).map Prod.fst) (fun q : Bool × σ × List Int => .bool q.1)
        (fun q w' => (q.2.2.length = s.ps.length ∧ q.2.2.take i = arr.take i ∧ (q.1 = true ∧ I (k + (genT b (s.ps.drop i) (arr.take i)).length) q.2.1 ∨ q.1 = false ∧ J q.2.1)) ∧ KnS (HqT Hx bh q.2) ((HqT Hx bh (st, arr)).map Prod.fst) w w') := by
  have hn6 := hv.n6
  intro m
  induction m with
  | zero =>
    intro i arr k st w him hal hI hE hf1 hk1 hxs
    obtain rfl : i = s.ps.length := by omega
    have htk : arr.take s.ps.length = arr := List.take_of_length_le (by omega)
    rw [htk, List.drop_length] at hxs ⊢
    have hxk : xs[k]? = some arr := hxs 0 arr rfl
    obtain ⟨adp, cpp, bp, op, hpv, hadp, hcp⟩ := (hE.rd w (Fr.refl _ _)).open psE_len pas0
    refine cnxS (vs := [_, _, _, _, _, _]) (S := (HqT Hx bh (st, arr)).map Prod.fst) (HqT Hx bh (st, arr)) Tryz.func147 rfl rfl ⟨hk1.kn, hk1.nd, fun p hp => List.mem_map.2 ⟨p, hp, rfl⟩⟩ ?_
    have hEf : ∀ w', Fr ((HqT Hx bh (st, arr)).map Prod.fst) w w' → EnvT s.ps.length s b tv pv gv l bH bY b1 b2 bC bh ((HqT Hx bh (st, arr)).map Prod.fst) w' := fun w' f => hE.step f (fun x hx => .inl hx)
    have hyc : ∀ w', HG [(w, (HqT Hx bh (st, arr)).map Prod.fst)] ([(bh, hrsO arr)] ++ Hx st) w' → YieldC Tryz.prog (.func (.yield l) #[] #[]) [.slice (some ⟨bh, 0, none⟩) s.ps.length s.ps.length] w' (fun b' w3 => Fr ((Hx st).map Prod.fst) w' w3 ∧ ∃ s', KnS (Hx s') ((Hx st).map Prod.fst) w' w3 ∧ (b' = true ∧ I (k + 1) s' ∨ b' = false ∧ J s')) := fun w' hw' =>
      hYd k st arr bh w' hxk hI (hf1.trans (hw'.fr (w0 := w) (S := (HqT Hx bh (st, arr)).map Prod.fst) MI.m) hk1.own) ⟨fun q hq => hw'.heap q (List.mem_append_right _ hq), (List.nodup_cons.1 hk1.nd).2, fun x hx => hk1.own x (List.mem_cons_of_mem _ hx)⟩ ⟨hw'.heap (bh, hrsO arr) List.mem_cons_self, (List.nodup_cons.1 hk1.nd).1⟩
    all_goals refine tc_seq fun K1 hK1 => ?_; refine tc_region ?_; refine tl_q (y_assign rfl) rfl ?_; refine tl_nil ?_; ((refine hK1 ?_; try (clear hK1; clear K1)))
    all_goals refine tc_seq fun K2 hK2 => ?_; refine tc_seq fun K3 hK3 => ?_; refine tc_region ?_; refine tl_q (y_move rfl) rfl ?_; refine tl_q (y_load1o (v := .slice (some ⟨bh, 0, none⟩) s.ps.length s.ps.length) rfl (fun w' hw' => cell0 (hEf w' (hw'.fr (w0 := w) (S := (HqT Hx bh (st, arr)).map Prod.fst) MI.m)).hH rfl)) rfl ?_; refine tl_q (y_len rfl) rfl ?_; refine tl_q (y_eql rfl rfl) rfl ?_; refine tl_nil ?_; ((refine hK3 ?_; try (clear hK3; clear K3)))
    all_goals (
     refine tc_cond rfl (fun hc => ?_) (fun hc => ?_)
     · try simp only [qn1, qn2, qn3, qn4, qn5, qn6, qn7, qn8] at hc
       all_goals refine tc_seq fun K4 hK4 => ?_; refine tc_region ?_; refine tl_q (y_load1o (v := .func (.yield l) #[] #[]) rfl (fun w' hw' => cell0 (hEf w' (hw'.fr (w0 := w) (S := (HqT Hx bh (st, arr)).map Prod.fst) MI.m)).hY rfl)) rfl ?_; refine tl_q (y_load1o (v := .slice (some ⟨bh, 0, none⟩) s.ps.length s.ps.length) rfl (fun w' hw' => cell0 (hEf w' (hw'.fr (w0 := w) (S := (HqT Hx bh (st, arr)).map Prod.fst) MI.m)).hH rfl)) rfl ?_; refine tl_r (e_yieldG (α := σ) (l := l) (Hx := Hx st) (Hn := Hx) (R := fun b' s' => b' = true ∧ I (k + 1) s' ∨ b' = false ∧ J s') [(bh, hrsO arr)] rfl rfl (.cons rfl .nil) rfl hyc) rfl (fun q hq => ?_); refine tl_q (y_assign rfl) rfl ?_; refine tl_nil ?_; ((refine hK4 ?_; try (clear hK4; clear K4)))
       all_goals refine tc_ret ?_; (repeat (refine tk_then_ret ?_))
       all_goals (refine tk_ret rfl rfl (.cons (.tmp rfl) .nil) ?_)
       all_goals (
        exact fun w' hw' => ⟨(q.1, q.2, arr), rfl, hw'.fr (w0 := w) (S := (HqT Hx bh (st, arr)).map Prod.fst) MI.m, ⟨hal, htk, hq⟩, hw'.knS MI.m⟩)
     · try simp only [qn1, qn2, qn3, qn4, qn5, qn6, qn7, qn8] at hc
       all_goals (
        refine tc_cond rfl (fun hc => ?_) (fun hc => ?_)
        · skip
        · skip
          all_goals skip))
  | succ m ih =>
    intro i arr k st w him hal hI hE hf1 hk1 hxs
    have hi : i < s.ps.length := by omega
    rw [drop_at hi] at hxs ⊢
    obtain ⟨p, hp⟩ : ∃ p, s.ps.getD i pas0 = p := ⟨_, rfl⟩
    rw [hp] at hxs ⊢
    have hpm := hv.ps p (hp ▸ getD_memG hi)
    have hl9 := hv.l9
    obtain ⟨adp, cpp, bp, op, rfl, hadp, _⟩ := (hE.rd w (Fr.refl _ _)).open psE_len pas0
    have hEf : ∀ w', Fr ((HqT Hx bh (st, arr)).map Prod.fst) w w' → EnvT s.ps.length s b tv (.slice adp s.ps.length cpp) gv l bH bY b1 b2 bC bh ((HqT Hx bh (st, arr)).map Prod.fst) w' := fun w' f => hE.step f (fun x hx => .inl hx)
    have hcell : ∀ w', Fr ((HqT Hx bh (st, arr)).map Prod.fst) w w' → CA (fun n => w'.cell? ⟨bp, n, none⟩) (op + Int.toNat (i : Int) * 5) 5 [vi p.b, vi p.fr, vi p.to, vi p.lo, vi p.hi] := fun w' f => by
      have := (hE.rd w' f).at (hadp (by omega)) psE_len pas0 hi
      rw [hp] at this
      rw [show Int.toNat (i : Int) * 5 = i * 5 from by omega]; exact this
    have hih : ∀ (w' : World) (L : List (Nat × Obj)) (arr' : List Int) (k' : Nat) (st' : σ), HG [(w, (HqT Hx bh (st, arr)).map Prod.fst)] (L ++ HqT Hx bh (st', arr')) w' → arr'.length = s.ps.length → I k' st' → (∀ (j : Nat) (x : List Int), (genT b (s.ps.drop (i + 1)) (arr'.take (i + 1)))[j]? = some x → xs[k' + j]? = some x) →
        CnX Tryz.prog 147 (#[] ++ #[vi ((i : Int) + 1)] ++ #[ptr bH, ptr bY, ptr b1, ptr b2, ptr bC]) w' ((HqT Hx bh (st', arr')).map Prod.fst) (fun q : Bool × σ × List Int => .bool q.1)
          (fun q w2 => (q.2.2.length = s.ps.length ∧ q.2.2.take (i + 1) = arr'.take (i + 1) ∧ (q.1 = true ∧ I (k' + (genT b (s.ps.drop (i + 1)) (arr'.take (i + 1))).length) q.2.1 ∨ q.1 = false ∧ J q.2.1)) ∧ KnS (HqT Hx bh q.2) ((HqT Hx bh (st', arr')).map Prod.fst) w' w2) := fun w' L arr' k' st' hw' hl' hI' hx' => by
      rw [show (#[] ++ #[vi ((i : Int) + 1)] ++ #[ptr bH, ptr bY, ptr b1, ptr b2, ptr bC] : Array Value) = #[vi ((i : Int) + 1), ptr bH, ptr bY, ptr b1, ptr b2, ptr bC] from by simp]
      have f := hw'.fr (w0 := w) (S := (HqT Hx bh (st, arr)).map Prod.fst) MI.m
      have hown : ∀ x ∈ (HqT Hx bh (st', arr')).map Prod.fst, x ∈ (HqT Hx bh (st, arr)).map Prod.fst ∨ w.heap.size ≤ x := fun x hx => by
        obtain ⟨q, hq, rfl⟩ := List.mem_map.1 hx
        exact hw'.own q (List.mem_append_right _ hq) _ MI.m
      have hnd := hw'.nodup
      rw [List.map_append, List.nodup_append] at hnd
      exact ih (i + 1) arr' k' st' w' (by omega) hl' hI' (hE.step f hown) (hf1.trans f hk1.own) ⟨fun q hq => hw'.heap q (List.mem_append_right _ hq), hnd.2.1, fun x hx => (hown x hx).elim (hk1.own x) (fun g => .inr (Nat.le_trans hf1.size g))⟩ hx'
    have hgp : p.b = b → genT b (p :: s.ps.drop (i + 1)) (arr.take i) = genR b p (s.ps.drop (i + 1)) (arr.take i) (p.hi - p.lo + 1).toNat := fun h => by rw [genT, if_pos h]; rfl
    have hxj : p.b = b → ∀ (j : Nat) (a : List Int), j < (p.hi - p.lo + 1).toNat → a.take (i + 1) = arr.take i ++ [p.lo + (j : Int)] → ∀ (t : Nat) (x : List Int), (genT b (s.ps.drop (i + 1)) (a.take (i + 1)))[t]? = some x → xs[k + (genR b p (s.ps.drop (i + 1)) (arr.take i) j).length + t]? = some x := fun hpb j a hj ha t x ht => by
      rw [ha] at ht
      obtain ⟨tl, htl⟩ := genR_pre b p (s.ps.drop (i + 1)) (arr.take i) (n := j + 1) (m := (p.hi - p.lo + 1).toNat) (by omega)
      rw [Nat.add_assoc]
      refine hxs _ x ?_
      rw [hgp hpb, htl, genR_succ, List.append_assoc, List.getElem?_append_right (by omega), show (genR b p (s.ps.drop (i + 1)) (arr.take i) j).length + t - (genR b p (s.ps.drop (i + 1)) (arr.take i) j).length = t from by omega, List.getElem?_append_left (List.getElem?_eq_some_iff.1 ht).1]
      exact ht
    have hset : ∀ (a : List Int) (v : Int), a.length = s.ps.length → a.take i = arr.take i → (a.set (0 + Int.toNat (i : Int) * 1) v).length = s.ps.length ∧ (a.set (0 + Int.toNat (i : Int) * 1) v).take (i + 1) = arr.take i ++ [v] := fun a v ha hta => by
      rw [show 0 + Int.toNat (i : Int) * 1 = i from by omega]
      refine ⟨by simpa using ha, ?_⟩
      rw [List.take_succ, List.take_set_of_le (Nat.le_refl _), hta, List.getElem?_set_self (by omega)]; rfl
    have hdn : ∀ (a c : List Int) (v : Int), c.take (i + 1) = arr.take i ++ [v] → a.take (i + 1) = c.take (i + 1) → a.take i = arr.take i := fun a c v h1 h2 => by
      have h3 := congrArg (List.take i) (h2.trans h1)
      rw [List.take_take, Nat.min_eq_left (by omega), List.take_left' (by simp; omega)] at h3
      exact h3
    refine cnxS (vs := [_, _, _, _, _, _]) (S := (HqT Hx bh (st, arr)).map Prod.fst) (HqT Hx bh (st, arr)) Tryz.func147 rfl rfl ⟨hk1.kn, hk1.nd, fun p hp => List.mem_map.2 ⟨p, hp, rfl⟩⟩ ?_
    all_goals refine tc_seq fun K1 hK1 => ?_; refine tc_region ?_; refine tl_q (y_assign rfl) rfl ?_; refine tl_nil ?_; ((refine hK1 ?_; try (clear hK1; clear K1)))
    all_goals refine tc_seq fun K2 hK2 => ?_; refine tc_seq fun K3 hK3 => ?_; refine tc_region ?_; refine tl_q (y_move rfl) rfl ?_; refine tl_q (y_load1o (v := .slice (some ⟨bh, 0, none⟩) s.ps.length s.ps.length) rfl (fun w' hw' => cell0 (hEf w' (hw'.fr (w0 := w) (S := (HqT Hx bh (st, arr)).map Prod.fst) MI.m)).hH rfl)) rfl ?_; refine tl_q (y_len rfl) rfl ?_; refine tl_q (y_eql rfl rfl) rfl ?_; refine tl_nil ?_; ((refine hK3 ?_; try (clear hK3; clear K3)))
    all_goals (
     refine tc_cond rfl (fun hc => ?_) (fun hc => ?_)
     · try simp only [qn1, qn2, qn3, qn4, qn5, qn6, qn7, qn8] at hc
       all_goals ((exfalso; omega))
     · try simp only [qn1, qn2, qn3, qn4, qn5, qn6, qn7, qn8] at hc
       all_goals refine tc_skip ?_; ((refine hK2 ?_; try (clear hK2; clear K2)))
       all_goals refine tc_seq fun K5 hK5 => ?_; refine tc_region ?_; refine tl_q (y_field rfl) rfl ?_; refine tl_q (y_load1o (v := .slice adp s.ps.length cpp) rfl (fun w' hw' => cell0 (hEf w' (hw'.fr (w0 := w) (S := (HqT Hx bh (st, arr)).map Prod.fst) MI.m)).h1 rfl)) rfl ?_; refine tl_q (y_move rfl) rfl ?_; refine tl_q (y_index rfl rfl (by omega) (hadp (by omega))) rfl ?_; refine tl_q (y_loadNo (n := 5) (vs := [vi p.b, vi p.fr, vi p.to, vi p.lo, vi p.hi]) rfl (fun w' hw' => hcell w' (hw'.fr (w0 := w) (S := (HqT Hx bh (st, arr)).map Prod.fst) MI.m))) rfl ?_; refine tl_e (e_allocN rfl) rfl (fun b8 _ => ?_); refine tl_e (e_storeW rfl rfl (by repeat constructor) (by rfl) (by rfl) (by simp [Value.oneCell'])) rfl (fun _ _ => ?_); refine tl_nil ?_; ((refine hK5 ?_; try (clear hK5; clear K5)))
       all_goals refine tc_seq fun K6 hK6 => ?_; refine tc_seq fun K7 hK7 => ?_; refine tc_region ?_; refine tl_q (y_field rfl) rfl ?_; refine tl_q (y_load1 rfl (by repeat constructor) (by rfl)) rfl ?_; refine tl_q (y_load1o (v := vi b) rfl (fun w' hw' => cell0 (hEf w' (hw'.fr (w0 := w) (S := (HqT Hx bh (st, arr)).map Prod.fst) MI.m)).h2 rfl)) rfl ?_; refine tl_q (y_neq rfl rfl) rfl ?_; refine tl_nil ?_; ((refine hK7 ?_; try (clear hK7; clear K7)))
       all_goals (
        refine tc_cond rfl (fun hc => ?_) (fun hc => ?_)
        · try simp only [qn1, qn2, qn3, qn4, qn5, qn6, qn7, qn8] at hc
          all_goals refine tc_seq fun K8 hK8 => ?_; refine tc_region ?_; refine tl_q (y_load1o (v := .slice (some ⟨bh, 0, none⟩) s.ps.length s.ps.length) rfl (fun w' hw' => cell0 (hEf w' (hw'.fr (w0 := w) (S := (HqT Hx bh (st, arr)).map Prod.fst) MI.m)).hH rfl)) rfl ?_; refine tl_q (y_move rfl) rfl ?_; refine tl_q (y_index rfl rfl (by omega) rfl) rfl ?_; refine tl_e (e_storeI (l := arr) rfl rfl (by omega) (by repeat constructor)) rfl (fun _ _ => ?_); refine tl_nil ?_; ((refine hK8 ?_; try (clear hK8; clear K8)))
          all_goals refine tc_seq fun K9 hK9 => ?_; (have hst := hset arr (-1) hal rfl)
          all_goals (have hgn : genT b (p :: s.ps.drop (i + 1)) (arr.take i) = genT b (s.ps.drop (i + 1)) ((arr.set (0 + Int.toNat (i : Int) * 1) (-1)).take (i + 1)) := by rw [genT, if_neg hc, hst.2])
          all_goals refine tc_region ?_; refine tl_q (y_load1o (v := chooseV bH bY b1 b2 bC) rfl (fun w' hw' => cell0 (hEf w' (hw'.fr (w0 := w) (S := (HqT Hx bh (st, arr)).map Prod.fst) MI.m)).hC rfl)) rfl ?_; refine tl_q (y_move rfl) rfl ?_; refine tl_q (y_add rfl rfl (by omega)) rfl ?_; ((refine tl_e (e_callQ2 (H1 := HqT Hx bh (st, arr.set (0 + Int.toNat (i : Int) * 1) (-1))) (Hn := fun q : Bool × σ × List Int => HqT Hx bh q.2) [(b8, _)] rfl rfl (.cons rfl .nil) rfl (fun w' hw' => hih w' _ _ k st hw' hst.1 hI (fun j x hj => hxs j x (by rw [hgn]; exact hj)))) rfl (fun q hq => ?_)))
          all_goals refine tl_q (y_assign rfl) rfl ?_; refine tl_nil ?_; ((refine hK9 ?_; try (clear hK9; clear K9)))
          all_goals refine tc_ret ?_; (repeat (refine tk_then_ret ?_))
          all_goals (refine tk_ret rfl rfl (.cons (.tmp rfl) .nil) ?_)
          all_goals (
           first
           | (have hI4 : I (k + (genT b (p :: s.ps.drop (i + 1)) (arr.take i)).length) st2 := by
                obtain rfl : j = (p.hi - p.lo + 1).toNat := by omega
                rw [hgp (by omega)]; exact hI2
              exact fun w' hw' => ⟨(true, st2, arr2), rfl, hw'.fr (w0 := w) (S := (HqT Hx bh (st, arr)).map Prod.fst) MI.m, ⟨hal2, hta2, .inl ⟨rfl, hI4⟩⟩, (hw'.subl (bs' := [(w, (HqT Hx bh (st, arr)).map Prod.fst)]) (H' := HqT Hx bh (st2, arr2)) SB.s SB.s).knS MI.m⟩)
           | exact fun w' hw' => ⟨(false, q.2), rfl, hw'.fr (w0 := w) (S := (HqT Hx bh (st, arr)).map Prod.fst) MI.m, ⟨hq.1, hdn _ _ _ hst.2 hq.2.1, .inr ⟨rfl, (hq.2.2.resolve_left (fun h => by rw [h.1] at hc; cases hc)).2⟩⟩, (hw'.subl (bs' := [(w, (HqT Hx bh (st, arr)).map Prod.fst)]) (H' := HqT Hx bh q.2) SB.s SB.s).knS MI.m⟩
           | exact fun w' hw' => ⟨q, rfl, hw'.fr (w0 := w) (S := (HqT Hx bh (st, arr)).map Prod.fst) MI.m, ⟨hq.1, hdn _ _ _ hst.2 hq.2.1, by rw [hgn]; exact hq.2.2⟩, (hw'.subl (bs' := [(w, (HqT Hx bh (st, arr)).map Prod.fst)]) (H' := HqT Hx bh q.2) SB.s SB.s).knS MI.m⟩)
        · try simp only [qn1, qn2, qn3, qn4, qn5, qn6, qn7, qn8] at hc
          all_goals refine tc_skip ?_; ((refine hK6 ?_; try (clear hK6; clear K6)))
          all_goals refine tc_seq fun K10 hK10 => ?_; refine tc_seq fun K11 hK11 => ?_; refine tc_region ?_; refine tl_q (y_field rfl) rfl ?_; refine tl_q (y_field rfl) rfl ?_; refine tl_q (y_load1 rfl (by repeat constructor) (by rfl)) rfl ?_; refine tl_q (y_assign rfl) rfl ?_; refine tl_nil ?_; ((refine hK11 ?_; try (clear hK11; clear K11)))
          all_goals refine tc_block ?_
          all_goals (
           refine tc_loop (fun q : Nat × σ × List Int => q.1 ≤ (p.hi - p.lo + 1).toNat ∧ q.2.2.length = s.ps.length ∧ q.2.2.take i = arr.take i ∧ I (k + (genR b p (s.ps.drop (i + 1)) (arr.take i) q.1).length) q.2.1) (fun q => [(0, vi i), (1, ptr bH), (2, ptr bY), (3, ptr b1), (4, ptr b2), (5, ptr bC), (8, ptr b8), (9, vi (p.lo + q.1))]) (fun _ => [(w, (HqT Hx bh (st, arr)).map Prod.fst)]) (fun q => (b8, .cells #[vi p.b, vi p.fr, vi p.to, vi p.lo, vi p.hi] 92 (0, 0)) :: HqT Hx bh q.2) (fun q => (p.hi - p.lo + 1).toNat - q.1) ?_ ?_
           · exact tk_start (0, st, arr) ⟨Nat.zero_le _, hal, rfl, hI⟩ (.cons rfl (.cons rfl (.cons rfl (.cons rfl (.cons rfl (.cons rfl (.cons rfl (.cons (by dsimp only; rw [show p.lo + ((0 : Nat) : Int) = p.lo from by omega]; rfl) .nil)))))))) (fun _ h => h.subl SB.s SB.s)
           · rintro ⟨j, st2, arr2⟩ ⟨hj, hal2, hta2, hI2⟩
             dsimp only at hj hal2 hta2 hI2 ⊢
             all_goals refine tc_seq fun K12 hK12 => ?_; refine tc_seq fun K13 hK13 => ?_; refine tc_region ?_; refine tl_q (y_move rfl) rfl ?_; refine tl_q (y_field rfl) rfl ?_; refine tl_q (y_field rfl) rfl ?_; refine tl_q (y_load1 rfl (by repeat constructor) (by rfl)) rfl ?_; refine tl_q (y_leq rfl rfl) rfl ?_; refine tl_nil ?_; ((refine hK13 ?_; try (clear hK13; clear K13)))
             all_goals (
              refine tc_cond rfl (fun hc => ?_) (fun hc => ?_)
              · try simp only [qn1, qn2, qn3, qn4, qn5, qn6, qn7, qn8] at hc
                all_goals refine tc_skip ?_; ((refine hK12 ?_; try (clear hK12; clear K12)))
                all_goals refine tc_seq fun K14 hK14 => ?_; refine tc_block ?_; refine tc_seq fun K15 hK15 => ?_; refine tc_region ?_; refine tl_q (y_load1o (v := .slice (some ⟨bh, 0, none⟩) s.ps.length s.ps.length) rfl (fun w' hw' => cell0 (hEf w' (hw'.fr (w0 := w) (S := (HqT Hx bh (st, arr)).map Prod.fst) MI.m)).hH rfl)) rfl ?_; refine tl_q (y_move rfl) rfl ?_; refine tl_q (y_move rfl) rfl ?_; refine tl_q (y_index rfl rfl (by omega) rfl) rfl ?_; refine tl_e (e_storeI (l := arr2) rfl rfl (by omega) (by repeat constructor)) rfl (fun _ _ => ?_); refine tl_nil ?_; ((refine hK15 ?_; try (clear hK15; clear K15)))
                all_goals refine tc_seq fun K16 hK16 => ?_; (have hst := hset arr2 (p.lo + j) hal2 hta2)
                all_goals refine tc_region ?_; refine tl_q (y_load1o (v := chooseV bH bY b1 b2 bC) rfl (fun w' hw' => cell0 (hEf w' (hw'.fr (w0 := w) (S := (HqT Hx bh (st, arr)).map Prod.fst) MI.m)).hC rfl)) rfl ?_; refine tl_q (y_move rfl) rfl ?_; refine tl_q (y_add rfl rfl (by omega)) rfl ?_; refine tl_e (e_callQ2 (H1 := HqT Hx bh (st2, arr2.set (0 + Int.toNat (i : Int) * 1) (p.lo + j))) (Hn := fun q : Bool × σ × List Int => HqT Hx bh q.2) [(b8, _)] rfl rfl (.cons rfl .nil) rfl (fun w' hw' => hih w' _ _ (k + (genR b p (s.ps.drop (i + 1)) (arr.take i) j).length) st2 hw' hst.1 hI2 (hxj (by omega) j _ (by omega) hst.2))) rfl (fun q hq => ?_); refine tl_q (y_not rfl) rfl ?_; refine tl_nil ?_; ((refine hK16 ?_; try (clear hK16; clear K16)))
                all_goals (
                 refine tc_cond rfl (fun hc => ?_) (fun hc => ?_)
                 · try simp only [qn1, qn2, qn3, qn4, qn5, qn6, qn7, qn8] at hc
                   all_goals refine tc_seq fun K17 hK17 => ?_; refine tc_region ?_; refine tl_q (y_assign rfl) rfl ?_; refine tl_nil ?_; ((refine hK17 ?_; try (clear hK17; clear K17)))
                   all_goals refine tc_ret ?_; (repeat (first | refine tk_then_ret ?_ | refine tk_block_ret ?_))
                   all_goals (refine tk_ret rfl rfl (.cons (.tmp rfl) .nil) ?_)
                   all_goals (
                    first
                    | (have hI4 : I (k + (genT b (p :: s.ps.drop (i + 1)) (arr.take i)).length) st2 := by
                         obtain rfl : j = (p.hi - p.lo + 1).toNat := by omega
                         rw [hgp (by omega)]; exact hI2
                       exact fun w' hw' => ⟨(true, st2, arr2), rfl, hw'.fr (w0 := w) (S := (HqT Hx bh (st, arr)).map Prod.fst) MI.m, ⟨hal2, hta2, .inl ⟨rfl, hI4⟩⟩, (hw'.subl (bs' := [(w, (HqT Hx bh (st, arr)).map Prod.fst)]) (H' := HqT Hx bh (st2, arr2)) SB.s SB.s).knS MI.m⟩)
                    | exact fun w' hw' => ⟨(false, q.2), rfl, hw'.fr (w0 := w) (S := (HqT Hx bh (st, arr)).map Prod.fst) MI.m, ⟨hq.1, hdn _ _ _ hst.2 hq.2.1, .inr ⟨rfl, (hq.2.2.resolve_left (fun h => by rw [h.1] at hc; cases hc)).2⟩⟩, (hw'.subl (bs' := [(w, (HqT Hx bh (st, arr)).map Prod.fst)]) (H' := HqT Hx bh q.2) SB.s SB.s).knS MI.m⟩
                    | exact fun w' hw' => ⟨q, rfl, hw'.fr (w0 := w) (S := (HqT Hx bh (st, arr)).map Prod.fst) MI.m, ⟨hq.1, hdn _ _ _ hst.2 hq.2.1, by rw [hgn]; exact hq.2.2⟩, (hw'.subl (bs' := [(w, (HqT Hx bh (st, arr)).map Prod.fst)]) (H' := HqT Hx bh q.2) SB.s SB.s).knS MI.m⟩)
                 · try simp only [qn1, qn2, qn3, qn4, qn5, qn6, qn7, qn8] at hc
                   all_goals refine tc_skip ?_; ((refine hK14 ?_; try (clear hK14; clear K14)))
                   all_goals refine tc_region ?_; refine tl_q (y_move rfl) rfl ?_; refine tl_q (y_add rfl rfl (by omega)) rfl ?_; refine tl_q (y_assign rfl) rfl ?_; refine tl_nil ?_
                   all_goals (
                    have hI3 := (hq.2.2.resolve_right (fun h => by rw [h.1] at hc; cases hc)).2
                    rw [hst.2] at hI3
                    exact tk_round (j + 1, q.2) ⟨by dsimp only; omega, hq.1, hdn _ _ _ hst.2 hq.2.1, by dsimp only; rw [genR_succ, List.length_append, ← Nat.add_assoc]; exact hI3⟩ (by dsimp only; omega) (.cons rfl (.cons rfl (.cons rfl (.cons rfl (.cons rfl (.cons rfl (.cons rfl (.cons (by dsimp only; rw [show p.lo + ((j + 1 : Nat) : Int) = p.lo + j + 1 from by omega]; rfl) .nil)))))))) (fun _ h => h.subl SB.s SB.s)))
              · try simp only [qn1, qn2, qn3, qn4, qn5, qn6, qn7, qn8] at hc
                all_goals refine tc_exit ?_; ((refine hK10 ?_; try (clear hK10; clear K10)))
                all_goals refine tc_seq fun K18 hK18 => ?_; refine tc_region ?_; refine tl_q (y_assign rfl) rfl ?_; refine tl_nil ?_; ((refine hK18 ?_; try (clear hK18; clear K18)))
                all_goals refine tc_ret ?_; (repeat (first | refine tk_then_ret ?_))
                all_goals (refine tk_ret rfl rfl (.cons (.tmp rfl) .nil) ?_)
                all_goals (
                 first
                 | (have hI4 : I (k + (genT b (p :: s.ps.drop (i + 1)) (arr.take i)).length) st2 := by
                      obtain rfl : j = (p.hi - p.lo + 1).toNat := by omega
                      rw [hgp (by omega)]; exact hI2
                    exact fun w' hw' => ⟨(true, st2, arr2), rfl, hw'.fr (w0 := w) (S := (HqT Hx bh (st, arr)).map Prod.fst) MI.m, ⟨hal2, hta2, .inl ⟨rfl, hI4⟩⟩, (hw'.subl (bs' := [(w, (HqT Hx bh (st, arr)).map Prod.fst)]) (H' := HqT Hx bh (st2, arr2)) SB.s SB.s).knS MI.m⟩)
                 | exact fun w' hw' => ⟨(false, q.2), rfl, hw'.fr (w0 := w) (S := (HqT Hx bh (st, arr)).map Prod.fst) MI.m, ⟨hq.1, hdn _ _ _ hst.2 hq.2.1, .inr ⟨rfl, (hq.2.2.resolve_left (fun h => by rw [h.1] at hc; cases hc)).2⟩⟩, (hw'.subl (bs' := [(w, (HqT Hx bh (st, arr)).map Prod.fst)]) (H' := HqT Hx bh q.2) SB.s SB.s).knS MI.m⟩
                 | exact fun w' hw' => ⟨q, rfl, hw'.fr (w0 := w) (S := (HqT Hx bh (st, arr)).map Prod.fst) MI.m, ⟨hq.1, hdn _ _ _ hst.2 hq.2.1, by rw [hgn]; exact hq.2.2⟩, (hw'.subl (bs' := [(w, (HqT Hx bh (st, arr)).map Prod.fst)]) (H' := HqT Hx bh q.2) SB.s SB.s).knS MI.m⟩)))))
end Go.Sp
/-
  Package sample: the iterators times and chains.
-/
namespace Go.Sp
open Go Go.Proofs
theorem tc_perm {r : Option Nat} {P : Program} {c : Code} {Q : Exit → Act → World → Prop} {N : NN} {F : List (Nat × Value)} {bs : List (World × List Nat)} {H : List (Nat × Obj)} (H' : List (Nat × Obj)) (hp : H.Perm H') (h : TC r P c Q N F bs H') : TC r P c Q N F bs H := by
  unfold TC at h ⊢
  exact fun a w ht hw => h a w ht (hw.perm hp)
abbrev smO (s : Smp) (tv pv gv : Value) : Obj := .cells #[vi s.B, vi s.P, vi s.L, vi s.F, tv, pv, gv] 36 (0, 0)
theorem times_c (s : Smp) (b : Int) (tv pv gv : Value) (w : World) :
    CnX Tryz.prog 134 #[smV s tv pv gv, vi b] w [] (fun q : Nat × Nat => .func (.func 146) #[] #[ptr q.1, ptr q.2])
      (fun q w' => True ∧ (∀ p ∈ [(q.2, Obj.cells #[vi b] 3 (0, 0)), (q.1, smO s tv pv gv)], w.heap.size ≤ p.1 ∧ w'.heap[p.1]? = some p.2) ∧ ([(q.2, Obj.cells #[vi b] 3 (0, 0)), (q.1, smO s tv pv gv)].map Prod.fst).Nodup) := by
  refine cnx0 (vs := [_, _]) Tryz.func134 rfl rfl ?_
  all_goals refine tc_seq fun K1 hK1 => ?_
  all_goals refine tc_region ?_
  all_goals refine tl_e (e_box rfl rfl rfl) rfl (fun b2 _ => ?_)
  all_goals refine tl_e (e_box rfl rfl rfl) rfl (fun b3 _ => ?_)
  all_goals refine tl_q (y_assign rfl) rfl ?_
  all_goals refine tl_nil ?_
  all_goals (refine hK1 ?_; try (clear hK1; clear K1))
  all_goals refine tc_seq fun K2 hK2 => ?_
  all_goals refine tc_region ?_
  all_goals refine tl_q (y_fn .nil (.cons rfl (.cons rfl .nil))) rfl ?_
  all_goals refine tl_q (y_assign rfl) rfl ?_
  all_goals refine tl_nil ?_
  all_goals (refine hK2 ?_; try (clear hK2; clear K2))
  all_goals refine tc_ret ?_
  all_goals (repeat (first | refine tk_then_ret ?_ | refine tk_block_ret ?_ | refine tk_scope_ret ?_))
  all_goals first | refine tk_ret rfl rfl (.cons (.tmp rfl) .nil) ?_ | refine tk_retM rfl (by repeat constructor) rfl (.cons (.tmp rfl) .nil) ?_
  all_goals (
   refine fun w' hw' => ⟨(b2, b3), rfl, hw'.fr (w0 := w) (S := []) MI.m, trivial, fun p hp => ?_, ?_⟩
   · rcases List.mem_cons.1 hp with rfl | hp
     · exact ⟨(hw'.own _ (HM.mem (b := b3) (by repeat constructor)) (w, []) (by simp)).resolve_left (by simp), hw'.heap _ (HM.mem (b := b3) (by repeat constructor))⟩
     · obtain rfl := List.mem_singleton.1 hp
       exact ⟨(hw'.own _ (HM.mem (b := b2) (by repeat constructor)) (w, []) (by simp)).resolve_left (by simp), hw'.heap _ (HM.mem (b := b2) (by repeat constructor))⟩
   · have := hw'.nodup
     simp at this ⊢; exact this)
theorem madeI {n : Nat} (h : n ≤ 6) : madeCells (vi 0).cells (n * 1) = ((List.replicate n (0 : Int)).map vi).toArray := by
  rcases (by omega : n = 0 ∨ n = 1 ∨ n = 2 ∨ n = 3 ∨ n = 4 ∨ n = 5 ∨ n = 6) with rfl | rfl | rfl | rfl | rfl | rfl | rfl <;> kernel_rfl
set_option maxHeartbeats 1000000 in
theorem times_seq (s : Smp) (hv : VSm s) (b : Int) (tv pv gv : Value) (w : World) (b1 b2 : Nat) (S0 : List Nat) (h1 : w.heap[b1]? = some (smO s tv pv gv)) (hb1 : b1 ∉ S0) (h2 : w.heap[b2]? = some (.cells #[vi b] 3 (0, 0))) (hb2 : b2 ∉ S0) (hrd : ∀ w', Fr S0 w w' → RdS 5 psE w' pv s.ps) :
    SeqQ Tryz.prog 146 #[ptr b1, ptr b2] (encT s.ps.length) preT (timesL s b) S0 w := by
  intro σ l S Hx I J s0 w1 f0 hS hK0 h0 hY
  have hn6 := hv.n6
  have hnS : ∀ x, x ∉ S0 → x < w.heap.size → x ∉ S := fun x hx hl hm => (hS x hm).elim hx (fun g => by omega)
  have n1 := hnS b1 hb1 (lt_of h1)
  have n2 := hnS b2 hb2 (lt_of h2)
  have g1 := f0.keep h1
  have g2 := f0.keep h2
  have hrd1 : ∀ w', Fr S w1 w' → RdS 5 psE w' pv s.ps := fun w' f => hrd w' (f0.mono (fun x hx => by simp at hx) |>.trans f (fun x hx => hS x hx))
  obtain ⟨adp, cpp, bp, op, rfl, hadp, _⟩ := (hrd1 w1 (Fr.refl _ _)).open psE_len pas0
  rw [show (#[.func (.yield l) #[] #[]] ++ #[ptr b1, ptr b2] : Array Value) = #[.func (.yield l) #[] #[], ptr b1, ptr b2] from by simp]
  refine cnxS (vs := [_, _, _]) (S := S) (Hx s0) Tryz.func146 rfl rfl ⟨hK0.kn, hK0.nd, hK0.mem⟩ ?_
  all_goals refine tc_seq fun K1 hK1 => ?_
  all_goals refine tc_region ?_
  all_goals refine tl_e (e_box rfl rfl rfl) rfl (fun b3 _ => ?_)
  all_goals refine tl_nil ?_
  all_goals (refine hK1 ?_; try (clear hK1; clear K1))
  all_goals refine tc_seq fun K2 hK2 => ?_
  all_goals refine tc_region ?_
  all_goals refine tl_q (y_field rfl) rfl ?_
  all_goals (first | refine tl_q (y_load1 rfl (by repeat constructor) (by rfl)) rfl ?_ | refine tl_q (y_load1o (v := .slice adp s.ps.length cpp) rfl (fun w' hw' => cell0 ((hw'.fr (w0 := w1) (S := S) MI.m).keepS n1 g1) rfl)) rfl ?_)
  all_goals refine tl_q (y_len rfl) rfl ?_
  all_goals refine tl_e (e_mkS (sz := 1) (z := vi 0) (by_ := 8) (n := s.ps.length) (out := (List.replicate s.ps.length (0 : Int)).map vi) (by kernel_rfl) rfl rfl rfl (by omega) (by omega) (by omega) (madeI hn6)) rfl (fun b9 _ => ?_)
  all_goals refine tl_e (e_alloc1 rfl) rfl (fun b4 _ => ?_)
  all_goals refine tl_e (e_store1 rfl rfl (by repeat constructor) (by repeat constructor) (by rfl) (by rfl)) rfl (fun _ _ => ?_)
  all_goals refine tl_nil ?_
  all_goals (refine hK2 ?_; try (clear hK2; clear K2))
  all_goals refine tc_seq fun K3 hK3 => ?_
  all_goals refine tc_region ?_
  all_goals refine tl_e (e_alloc1 rfl) rfl (fun b5 _ => ?_)
  all_goals refine tl_nil ?_
  all_goals (refine hK3 ?_; try (clear hK3; clear K3))
  all_goals refine tc_seq fun K4 hK4 => ?_
  all_goals refine tc_region ?_
  all_goals refine tl_q (y_fn .nil (.cons rfl (.cons rfl (.cons rfl (.cons rfl (.cons rfl .nil)))))) rfl ?_
  all_goals refine tl_e (e_store1 rfl rfl (by repeat constructor) (by repeat constructor) (by rfl) (by rfl)) rfl (fun _ _ => ?_)
  all_goals refine tl_nil ?_
  all_goals (refine hK4 ?_; try (clear hK4; clear K4))
  all_goals refine tc_perm ([(b5, Obj.cells #[chooseV b4 b3 b1 b2 b5] 98 (0, 0)), (b4, .cells #[.slice (some ⟨b9, 0, none⟩) s.ps.length s.ps.length] 29 (0, 0)), (b3, .cells #[.func (.yield l) #[] #[]] 142 (0, 0))] ++ HqT Hx b9 (s0, List.replicate s.ps.length 0)) (.cons _ (.cons _ (.swap _ _ _))) ?_
  all_goals (have hcc : ∀ w', HG [(w1, S)] ([(b5, Obj.cells #[chooseV b4 b3 b1 b2 b5] 98 (0, 0)), (b4, .cells #[.slice (some ⟨b9, 0, none⟩) s.ps.length s.ps.length] 29 (0, 0)), (b3, .cells #[.func (.yield l) #[] #[]] 142 (0, 0))] ++ HqT Hx b9 (s0, List.replicate s.ps.length 0)) w' → CnX Tryz.prog 147 (#[] ++ #[vi 0] ++ #[ptr b4, ptr b3, ptr b1, ptr b2, ptr b5]) w' ((HqT Hx b9 (s0, List.replicate s.ps.length 0)).map Prod.fst) (fun q : Bool × σ × List Int => .bool q.1) (fun q w2 => (q.1 = true ∧ I (timesL s b).length q.2.1 ∨ q.1 = false ∧ J q.2.1) ∧ KnS (HqT Hx b9 q.2) ((HqT Hx b9 (s0, List.replicate s.ps.length 0)).map Prod.fst) w' w2) := ?_)
  rotate_left
  focus (
    intro w' hw'
    rw [show (#[] ++ #[vi 0] ++ #[ptr b4, ptr b3, ptr b1, ptr b2, ptr b5] : Array Value) = #[vi ((0 : Nat) : Int), ptr b4, ptr b3, ptr b1, ptr b2, ptr b5] from by simp]
    have f := hw'.fr (w0 := w1) (S := S) MI.m
    have hown : ∀ x ∈ (HqT Hx b9 (s0, List.replicate s.ps.length 0)).map Prod.fst, x ∈ S ∨ w1.heap.size ≤ x := fun x hx => by
      obtain ⟨q, hq, rfl⟩ := List.mem_map.1 hx
      exact hw'.own q (List.mem_append_right _ hq) _ MI.m
    have hnd := hw'.nodup
    rw [List.map_append, List.nodup_append] at hnd
    have e0 : genT b (s.ps.drop 0) ((List.replicate s.ps.length (0 : Int)).take 0) = timesL s b := by rw [List.drop_zero, List.take_zero]; rfl
    have := choose_c s hv b tv (.slice adp s.ps.length cpp) gv l b4 b3 b1 b2 b5 b9 Hx I J (timesL s b) S w1 hY s.ps.length 0 (List.replicate s.ps.length 0) 0 s0 w' (by omega) (by simp) h0
      ⟨hw'.heap (b4, _) (by simp), hw'.heap (b3, _) (by simp), f.keepS n1 g1, f.keepS n2 g2, hw'.heap (b5, _) (by simp), fun x hx hx' => by
        simp only [List.mem_cons, List.not_mem_nil, or_false] at hx
        rcases hx with rfl | rfl | rfl | rfl | rfl
        · exact hnd.2.2 x (by simp) x hx' rfl
        · exact hnd.2.2 x (by simp) x hx' rfl
        · exact (hown x hx').elim n1 (fun g => by have := lt_of g1; omega)
        · exact (hown x hx').elim n2 (fun g => by have := lt_of g2; omega)
        · exact hnd.2.2 x (by simp) x hx' rfl, fun w2 f2 => hrd1 w2 (f.trans f2 hown)⟩
      f ⟨fun q hq => hw'.heap q (List.mem_append_right _ hq), hnd.2.1, hown⟩ (fun j x hj => by rw [e0] at hj; rw [Nat.zero_add]; exact hj)
    rw [e0] at this
    refine this.imp id (fun _ => rfl) (fun _ h => h) (fun q w2 _ hq => ⟨?_, hq.2⟩)
    rw [Nat.zero_add] at hq
    exact hq.1.2.2)
  all_goals refine tc_region ?_
  all_goals (first | refine tl_q (y_load1 rfl (by repeat constructor) (by rfl)) rfl ?_ | refine tl_q (y_load1o (v := .slice adp s.ps.length cpp) rfl (fun w' hw' => cell0 ((hw'.fr (w0 := w1) (S := S) MI.m).keepS n1 g1) rfl)) rfl ?_)
  all_goals refine tl_e (e_callQ2 (H1 := HqT Hx b9 (s0, List.replicate s.ps.length 0)) (Hn := fun q : Bool × σ × List Int => HqT Hx b9 q.2) [(b5, _), (b4, _), (b3, _)] rfl rfl (.cons rfl .nil) rfl hcc) rfl (fun q hq => ?_)
  all_goals refine tl_nil ?_
  all_goals first | refine tk_end rfl rfl .nil ?_ | refine tk_endM rfl (by repeat constructor) rfl .nil ?_
  all_goals (
   exact fun w' hw' => ⟨q.2.1, rfl, hw'.fr (w0 := w1) (S := S) MI.m, (hw'.subl (bs' := [(w1, S)]) (H' := Hx q.2.1) SB.s SB.s).knS MI.m, hq.elim (fun h => .inl h.2) (fun h => .inr h.2)⟩)
end Go.Sp
/-
  Package sample: the chains.
-/
namespace Go.Sp
open Go Go.Proofs
/-- The chains of some lists of hours, without those that come twice in a row. -/
def ddC (s : Smp) (b : Int) (l : List (List Int)) : List (List Int) := l.foldl (fun acc ts => match chF s b ts with
  | none => acc
  | some c => if acc.getLast? = some c then acc else acc ++ [c]) []
theorem ddC_snoc (s : Smp) (b : Int) (l : List (List Int)) (ts : List Int) : ddC s b (l ++ [ts]) = match chF s b ts with
  | none => ddC s b l
  | some c => if (ddC s b l).getLast? = some c then ddC s b l else ddC s b l ++ [c] := by unfold ddC; rw [List.foldl_append]; rfl
abbrev chainsL (s : Smp) (b : Int) : List (List Int) := ddC s b (timesL s b)
theorem ddC_pre (s : Smp) (b : Int) (l : List (List Int)) : ∀ t : List (List Int), ∃ m, ddC s b (l ++ t) = ddC s b l ++ m := by
  intro t
  induction t generalizing l with
  | nil => exact ⟨[], by simp⟩
  | cons x t ih =>
    obtain ⟨m, hm⟩ := ih (l ++ [x])
    rw [List.append_assoc, List.singleton_append] at hm
    rw [hm, ddC_snoc]
    split
    · exact ⟨m, rfl⟩
    · split
      · exact ⟨m, rfl⟩
      · exact ⟨[_] ++ m, by rw [List.append_assoc]⟩
theorem ddC_take {s : Smp} {b : Int} {l : List (List Int)} {i : Nat} {x : List Int} (h : l[i]? = some x) : ddC s b (l.take (i + 1)) = match chF s b x with
  | none => ddC s b (l.take i)
  | some c => if (ddC s b (l.take i)).getLast? = some c then ddC s b (l.take i) else ddC s b (l.take i) ++ [c] := by
  rw [List.take_succ, h]
  exact ddC_snoc s b _ x
theorem ddC_get {s : Smp} {b : Int} {l : List (List Int)} {i : Nat} {c : List Int} (h : ddC s b (l.take (i + 1)) = ddC s b (l.take i) ++ [c]) : (ddC s b l)[(ddC s b (l.take i)).length]? = some c := by
  obtain ⟨m, hm⟩ := ddC_pre s b (l.take (i + 1)) (l.drop (i + 1))
  rw [List.take_append_drop] at hm
  rw [hm, h, List.append_assoc, List.getElem?_append_right (Nat.le_refl _), Nat.sub_self]; rfl
theorem ddC_mem (s : Smp) (b : Int) (c : List Int) : ∀ l : List (List Int), c ∈ ddC s b l ↔ ∃ ts ∈ l, chF s b ts = some c := by
  have h : ∀ (t : List (List Int)) (l : List (List Int)), (c ∈ ddC s b l ↔ ∃ ts ∈ l, chF s b ts = some c) → (c ∈ ddC s b (l ++ t) ↔ ∃ ts ∈ l ++ t, chF s b ts = some c) := by
    intro t
    induction t with
    | nil => intro l hl; simpa using hl
    | cons x t ih =>
      intro l hl
      have := ih (l ++ [x]) ?_
      · rwa [List.append_assoc, List.singleton_append] at this
      · rw [ddC_snoc]
        have hr : (∃ ts ∈ l ++ [x], chF s b ts = some c) ↔ (∃ ts ∈ l, chF s b ts = some c) ∨ chF s b x = some c := by
          constructor
          · rintro ⟨ts, h1, h2⟩
            rcases List.mem_append.1 h1 with h1 | h1
            · exact .inl ⟨ts, h1, h2⟩
            · obtain rfl := List.mem_singleton.1 h1; exact .inr h2
          · rintro (⟨ts, h1, h2⟩ | h2)
            · exact ⟨ts, List.mem_append_left _ h1, h2⟩
            · exact ⟨x, by simp, h2⟩
        rw [hr, ← hl]
        split
        · rename_i h0; rw [h0]; simp
        · rename_i c' h0
          rw [h0]
          split
          · rename_i h3
            constructor
            · exact .inl
            · rintro (h | h)
              · exact h
              · cases h; exact List.mem_of_getLast? h3
          · rw [List.mem_append, List.mem_singleton]
            constructor
            · rintro (h | rfl)
              · exact .inl h
              · exact .inr rfl
            · rintro (h | h)
              · exact .inl h
              · cases h; exact .inr rfl
  intro l
  simpa using h l [] (by simp [ddC])
theorem chains_c (s : Smp) (b : Int) (tv pv gv : Value) (w : World) :
    CnX Tryz.prog 106 #[smV s tv pv gv, vi b] w [] (fun q : Nat × Nat => .func (.func 133) #[] #[ptr q.1, ptr q.2])
      (fun q w' => True ∧ (∀ p ∈ [(q.2, Obj.cells #[vi b] 3 (0, 0)), (q.1, smO s tv pv gv)], w.heap.size ≤ p.1 ∧ w'.heap[p.1]? = some p.2) ∧ ([(q.2, Obj.cells #[vi b] 3 (0, 0)), (q.1, smO s tv pv gv)].map Prod.fst).Nodup) := by
  refine cnx0 (vs := [_, _]) Tryz.func106 rfl rfl ?_
  all_goals refine tc_seq fun K1 hK1 => ?_
  all_goals refine tc_region ?_
  all_goals refine tl_e (e_box rfl rfl rfl) rfl (fun b2 _ => ?_)
  all_goals refine tl_e (e_box rfl rfl rfl) rfl (fun b3 _ => ?_)
  all_goals refine tl_q (y_assign rfl) rfl ?_
  all_goals refine tl_nil ?_
  all_goals (refine hK1 ?_; try (clear hK1; clear K1))
  all_goals refine tc_seq fun K2 hK2 => ?_
  all_goals refine tc_region ?_
  all_goals refine tl_q (y_fn .nil (.cons rfl (.cons rfl .nil))) rfl ?_
  all_goals refine tl_q (y_assign rfl) rfl ?_
  all_goals refine tl_nil ?_
  all_goals (refine hK2 ?_; try (clear hK2; clear K2))
  all_goals refine tc_ret ?_
  all_goals (repeat (first | refine tk_then_ret ?_ | refine tk_block_ret ?_ | refine tk_scope_ret ?_))
  all_goals first | refine tk_ret rfl rfl (.cons (.tmp rfl) .nil) ?_ | refine tk_retM rfl (by repeat constructor) rfl (.cons (.tmp rfl) .nil) ?_
  all_goals (
   refine fun w' hw' => ⟨(b2, b3), rfl, hw'.fr (w0 := w) (S := []) MI.m, trivial, fun p hp => ?_, ?_⟩
   · rcases List.mem_cons.1 hp with rfl | hp
     · exact ⟨(hw'.own _ (HM.mem (b := b3) (by repeat constructor)) (w, []) (by simp)).resolve_left (by simp), hw'.heap _ (HM.mem (b := b3) (by repeat constructor))⟩
     · obtain rfl := List.mem_singleton.1 hp
       exact ⟨(hw'.own _ (HM.mem (b := b2) (by repeat constructor)) (w, []) (by simp)).resolve_left (by simp), hw'.heap _ (HM.mem (b := b2) (by repeat constructor))⟩
   · have := hw'.nodup
     simp at this ⊢; exact this)
abbrev encC (c : List Int) : List Value := [.agg (isV c)]
/-- The state between two rounds: the outer one, the last chain, whether there is none yet. -/
abbrev HcT {σ : Type} (Hx : σ → List (Nat × Obj)) (b5 b4 : Nat) (q : σ × List Int × Bool) : List (Nat × Obj) := (b5, .cells #[.bool q.2.2] 4 (0, 0)) :: (b4, .cells (isV q.2.1) 124 (0, 0)) :: Hx q.1
def IcT {σ : Type} (s : Smp) (b : Int) (I : Nat → σ → Prop) (i : Nat) (q : σ × List Int × Bool) : Prop :=
  I (ddC s b ((timesL s b).take i)).length q.1 ∧ q.2.1.length = 10 ∧ (ddC s b ((timesL s b).take i)).getLast? = if q.2.2 = true then none else some q.2.1
theorem genT_len (b : Int) : ∀ (ps : List Pas) (pre x : List Int), x ∈ genT b ps pre → x.length = pre.length + ps.length
  | [], pre, x, h => by obtain rfl := List.mem_singleton.1 h; rfl
  | p :: ps, pre, x, h => by
    rw [genT] at h
    split at h
    · obtain ⟨j, _, hj⟩ := List.mem_flatMap.1 h
      have := genT_len b ps _ x hj
      simp at this ⊢; omega
    · have := genT_len b ps _ x h
      simp at this ⊢; omega
theorem timesL_len {s : Smp} {b : Int} {x : List Int} (h : x ∈ timesL s b) : x.length = s.ps.length := by
  have := genT_len b s.ps [] x h
  simpa using this
theorem nd5 {a b c d e : Nat} {M : List Nat} (h : (a :: b :: c :: d :: e :: M).Nodup) : e ∉ c :: d :: M ∧ b ∉ c :: d :: M ∧ a ∉ c :: d :: M := by
  simp only [List.nodup_cons, List.mem_cons, not_or] at h ⊢
  obtain ⟨⟨_, h2, h3, _, h5⟩, ⟨h6, h7, _, h9⟩, ⟨_, h11, _⟩, ⟨h13, _⟩, h15, _⟩ := h
  exact ⟨⟨fun g => h11 g.symm, fun g => h13 g.symm, h15⟩, ⟨h6, h7, h9⟩, h2, h3, h5⟩
theorem KnS.ofR {bs : List (World × List Nat)} {L H : List (Nat × Obj)} {w w1 : World} {S : List Nat} (h : HG bs (L ++ H) w) (hb : (w1, S) ∈ bs) : KnS H S w1 w :=
  ⟨fun q hq => h.heap q (List.mem_append_right _ hq), by have := h.nodup; rw [List.map_append, List.nodup_append] at this; exact this.2.1, fun x hx => by
    obtain ⟨q, hq, rfl⟩ := List.mem_map.1 hx
    exact h.own q (List.mem_append_right _ hq) _ hb⟩
theorem RdI.ofO {w : World} {y n : Nat} {x : List Int} (h : w.heap[y]? = some (hrsO x)) (hn : x.length = n) : RdI w (.slice (some ⟨y, 0, none⟩) n n) x := by
  subst hn
  refine ⟨by simp, some ⟨y, 0, none⟩, x.length, rfl, fun _ => ⟨y, 0, rfl, ?_⟩⟩
  have := (CA_whole (c := isV x) (t := 3) (f := (0, 0)) (isV_size x)).cells h
  rw [Nat.mul_one]
  simpa [isV] using this
set_option maxHeartbeats 4000000 in
theorem chains_seq (s : Smp) (hf : Few s) (hv : VSm s) (b : Int) (tv pv gv : Value) (w : World) (b1 b2 : Nat) (S0 : List Nat) (h1 : w.heap[b1]? = some (smO s tv pv gv)) (hb1 : b1 ∉ S0) (h2 : w.heap[b2]? = some (.cells #[vi b] 3 (0, 0))) (hb2 : b2 ∉ S0) (hrd : ∀ w', Fr S0 w w' → RdSm w' s tv pv gv) :
    Seq Tryz.prog 133 #[ptr b1, ptr b2] encC (chainsL s b) S0 w := by
  intro σ l0 S Hx I J s0 w1 f0 hS hK0 h0 hY
  have hn6 := hv.n6
  have hnS : ∀ x, x ∉ S0 → x < w.heap.size → x ∉ S := fun x hx hl hm => (hS x hm).elim hx (fun g => by omega)
  have n1 := hnS b1 hb1 (lt_of h1)
  have n2 := hnS b2 hb2 (lt_of h2)
  have g1 := f0.keep h1
  have g2 := f0.keep h2
  have hrd1 : ∀ w', Fr S w1 w' → RdSm w' s tv pv gv := fun w' f => hrd w' (f0.mono (fun x hx => by simp at hx) |>.trans f (fun x hx => hS x hx))
  rw [show (#[.func (.yield l0) #[] #[]] ++ #[ptr b1, ptr b2] : Array Value) = #[.func (.yield l0) #[] #[], ptr b1, ptr b2] from by simp]
  refine cnxS (vs := [_, _, _]) (S := S) (Hx s0) Tryz.func133 rfl rfl ⟨hK0.kn, hK0.nd, hK0.mem⟩ ?_
  all_goals refine tc_seq fun K1 hK1 => ?_
  all_goals refine tc_region ?_
  all_goals refine tl_e (e_box rfl rfl rfl) rfl (fun b3 _ => ?_)
  all_goals refine tl_nil ?_
  all_goals (refine hK1 ?_; try (clear hK1; clear K1))
  all_goals refine tc_seq fun K2 hK2 => ?_
  all_goals refine tc_region ?_
  all_goals refine tl_e (e_allocN rfl) rfl (fun b4 _ => ?_)
  all_goals refine tl_nil ?_
  all_goals (refine hK2 ?_; try (clear hK2; clear K2))
  all_goals refine tc_seq fun K3 hK3 => ?_
  all_goals refine tc_region ?_
  all_goals refine tl_e (e_alloc1 rfl) rfl (fun b5 _ => ?_)
  all_goals refine tl_e (e_store1 rfl rfl (by repeat constructor) (by repeat constructor) (by rfl) (by rfl)) rfl (fun _ _ => ?_)
  all_goals refine tl_nil ?_
  all_goals (refine hK3 ?_; try (clear hK3; clear K3))
  all_goals refine tc_seq fun K4 hK4 => ?_
  all_goals refine tc_region ?_
  all_goals (first | refine tl_q (y_loadW rfl (by repeat constructor) (by rw [isV_size]; omega)) rfl ?_ | refine tl_q (y_loadW rfl (by repeat constructor) (by rfl)) rfl ?_ | refine tl_q (y_loadN rfl (by repeat constructor) (by (repeat (first | exact .nil | apply CA.cons rfl)); done)) rfl ?_ | refine tl_q (y_load1o (v := vi b) rfl (fun w' hw' => cell0 ((hw'.fr (w0 := w1) (S := S) MI.m).keepS n2 g2) rfl)) rfl ?_ | refine tl_q (y_loadNo (n := 7) (vs := [vi s.B, vi s.P, vi s.L, vi s.F, tv, pv, gv]) rfl (fun w' hw' => (CA_whole (c := #[vi s.B, vi s.P, vi s.L, vi s.F, tv, pv, gv]) (t := 36) (f := (0, 0)) rfl).cells ((hw'.fr (w0 := w1) (S := S) MI.m).keepS n1 g1))) rfl ?_ | refine tl_q (y_load1o (v := .func (.yield l0) #[] #[]) rfl (fun w' hw' => cell0 ((hw'.fr (w0 := wl3) (S := (HcT Hx b5 b4 (s0, List.replicate 10 0, true)).map Prod.fst) MI.m).keepS hb3n hb3c) rfl)) rfl ?_)
  all_goals (first | refine tl_q (y_load1 rfl (by repeat constructor) (by rfl)) rfl ?_ | refine tl_q (y_load1o (v := vi b) rfl (fun w' hw' => cell0 ((hw'.fr (w0 := w1) (S := S) MI.m).keepS n2 g2) rfl)) rfl ?_ | refine tl_q (y_loadNo (n := 7) (vs := [vi s.B, vi s.P, vi s.L, vi s.F, tv, pv, gv]) rfl (fun w' hw' => (CA_whole (c := #[vi s.B, vi s.P, vi s.L, vi s.F, tv, pv, gv]) (t := 36) (f := (0, 0)) rfl).cells ((hw'.fr (w0 := w1) (S := S) MI.m).keepS n1 g1))) rfl ?_ | refine tl_q (y_load1o (v := .func (.yield l0) #[] #[]) rfl (fun w' hw' => cell0 ((hw'.fr (w0 := wl3) (S := (HcT Hx b5 b4 (s0, List.replicate 10 0, true)).map Prod.fst) MI.m).keepS hb3n hb3c) rfl)) rfl ?_)
  all_goals refine tl_e (e_callN rfl (.cons rfl (.cons rfl .nil)) (fun w' hw' => times_c s b tv pv gv w')) rfl (fun tq htq => ?_)
  all_goals refine tl_nil ?_
  all_goals (refine hK4 ?_; try (clear hK4; clear K4))
  all_goals refine tc_block ?_
  all_goals (
   refine tc_lay (HcT Hx b5 b4 (s0, List.replicate 10 0, true)) SB.s (fun wl3 hl3 => ?_)
   have hb3c := hl3.heap (b3, .cells #[.func (.yield l0) #[] #[]] 179 (0, 0)) (HM.mem (by repeat constructor))
   have hnd3 := hl3.nodup
   obtain ⟨hb3n, hq1n, hq2n⟩ := nd5 hnd3
   have hS3 : ∀ x ∈ (HcT Hx b5 b4 (s0, List.replicate 10 0, true)).map Prod.fst, x ∈ S ∨ w1.heap.size ≤ x := fun x hx => by
     simp only [List.map_cons, List.mem_cons] at hx
     rcases hx with rfl | rfl | hx
     · exact hl3.own (x, _) (HM.mem (by repeat constructor)) _ MI.m
     · exact hl3.own (x, _) (HM.mem (by repeat constructor)) _ MI.m
     · exact hK0.own x hx
   have hq1c := hl3.heap (tq.1, smO s tv pv gv) (HM.mem (by repeat constructor))
   have hq2c := hl3.heap (tq.2, Obj.cells #[vi b] 3 (0, 0)) (HM.mem (by repeat constructor))
   refine tc_rangeQ (α := List Int) (β := Nat) (σ := σ × List Int × Bool) (gf := 146) (lb := #[ptr tq.1, ptr tq.2]) (enc := encT s.ps.length) (pre := preT) (timesL s b) ((HcT Hx b5 b4 (s0, List.replicate 10 0, true)).map Prod.fst) (HcT Hx b5 b4) (IcT s b I) (fun c q => c = .ret ∧ J q.1) (s0, List.replicate 10 0, true) rfl rfl (fun _ => rfl) ⟨h0, rfl, rfl⟩ (fun q hq => List.mem_map.2 ⟨q, hq, rfl⟩) (fun w' h => h) (fun w' hw' => ?hseq) ?_ ?_ ?_
   case hseq =>
     have f3 := hw'.fr (w0 := wl3) (S := (HcT Hx b5 b4 (s0, List.replicate 10 0, true)).map Prod.fst) MI.m
     exact times_seq s hv b tv pv gv w' tq.1 tq.2 _ (f3.keepS hq1n hq1c) hq1n (f3.keepS hq2n hq2c) hq2n (fun w'' f => (hrd1 w'' ((hw'.fr (w0 := w1) (S := S) MI.m).trans f hS3)).ps)
   · rintro lr R0 R1 i ⟨st, lst, fst⟩ x y w2 hx hI hpre hkn K hK
     obtain ⟨hI1, hI2, hI3⟩ := hI
     dsimp only at hI1 hI2 hI3 hpre hkn
     have hxl := timesL_len (List.mem_of_getElem? hx)
     have hdt := ddC_take (s := s) (b := b) hx
     cases fst
     all_goals skip
     all_goals refine tc_region ?_
     all_goals refine tl_q (y_assign rfl) rfl ?_
     all_goals refine tl_nil ?_
     all_goals refine hK ?_
     all_goals clear hK
     all_goals refine tc_block ?_
     all_goals refine tc_seq fun K5 hK5 => ?_
     all_goals refine tc_region ?_
     all_goals (first | refine tl_q (y_loadW rfl (by repeat constructor) (by rw [isV_size]; omega)) rfl ?_ | refine tl_q (y_loadW rfl (by repeat constructor) (by rfl)) rfl ?_ | refine tl_q (y_loadN rfl (by repeat constructor) (by (repeat (first | exact .nil | apply CA.cons rfl)); done)) rfl ?_ | refine tl_q (y_load1o (v := vi b) rfl (fun w' hw' => cell0 ((hw'.fr (w0 := w1) (S := S) MI.m).keepS n2 g2) rfl)) rfl ?_ | refine tl_q (y_loadNo (n := 7) (vs := [vi s.B, vi s.P, vi s.L, vi s.F, tv, pv, gv]) rfl (fun w' hw' => (CA_whole (c := #[vi s.B, vi s.P, vi s.L, vi s.F, tv, pv, gv]) (t := 36) (f := (0, 0)) rfl).cells ((hw'.fr (w0 := w1) (S := S) MI.m).keepS n1 g1))) rfl ?_ | refine tl_q (y_load1o (v := .func (.yield l0) #[] #[]) rfl (fun w' hw' => cell0 ((hw'.fr (w0 := wl3) (S := (HcT Hx b5 b4 (s0, List.replicate 10 0, true)).map Prod.fst) MI.m).keepS hb3n hb3c) rfl)) rfl ?_)
     all_goals (first | refine tl_q (y_load1 rfl (by repeat constructor) (by rfl)) rfl ?_ | refine tl_q (y_load1o (v := vi b) rfl (fun w' hw' => cell0 ((hw'.fr (w0 := w1) (S := S) MI.m).keepS n2 g2) rfl)) rfl ?_ | refine tl_q (y_loadNo (n := 7) (vs := [vi s.B, vi s.P, vi s.L, vi s.F, tv, pv, gv]) rfl (fun w' hw' => (CA_whole (c := #[vi s.B, vi s.P, vi s.L, vi s.F, tv, pv, gv]) (t := 36) (f := (0, 0)) rfl).cells ((hw'.fr (w0 := w1) (S := S) MI.m).keepS n1 g1))) rfl ?_ | refine tl_q (y_load1o (v := .func (.yield l0) #[] #[]) rfl (fun w' hw' => cell0 ((hw'.fr (w0 := wl3) (S := (HcT Hx b5 b4 (s0, List.replicate 10 0, true)).map Prod.fst) MI.m).keepS hb3n hb3c) rfl)) rfl ?_)
     all_goals refine tl_q (y_move rfl) rfl ?_
     all_goals refine tl_e (e_callX rfl (.cons rfl (.cons rfl (.cons rfl .nil))) (fun w' hw' => chained_c s hf hv b x hxl tv pv gv _ w' (hrd1 w' (hw'.fr (w0 := w1) (S := S) MI.m)) (RdI.ofO ((hw'.fr (w0 := w2) (S := lr :: (HcT Hx b5 b4 (st, lst, _)).map Prod.fst) MI.m).keepS hpre.2 hpre.1) hxl))) rfl (fun z hz => ?_)
     all_goals (have hzl := hz.1.1)
     all_goals refine tl_q (y_move rfl) rfl ?_
     all_goals refine tl_q (y_extract rfl rfl) rfl ?_
     all_goals refine tl_q (y_extract rfl rfl) rfl ?_
     all_goals refine tl_e (e_allocN rfl) rfl (fun b7 _ => ?_)
     all_goals refine tl_e (e_storeW rfl rfl (by repeat constructor) (by rw [isV_size, hzl]) (by rfl) (isV_one _)) rfl (fun _ _ => ?_)
     all_goals refine tl_q (y_assign rfl) rfl ?_
     all_goals refine tl_nil ?_
     all_goals (refine hK5 ?_; try (clear hK5; clear K5))
     all_goals refine tc_seq fun K6 hK6 => ?_
     all_goals refine tc_seq fun K7 hK7 => ?_
     all_goals refine tc_region ?_
     all_goals refine tl_q (y_move rfl) rfl ?_
     all_goals (first | refine tl_q (y_not_dec rfl) rfl ?_ | refine tl_q (y_not rfl) rfl ?_)
     all_goals refine tl_q (y_move rfl) rfl ?_
     all_goals (first | refine tl_sk rfl rfl rfl rfl ?_ | refine tl_qg rfl rfl (y_load1 rfl (by repeat constructor) (by rfl)) rfl ?_ | refine tl_qg rfl rfl (y_load1o (v := vi b) rfl (fun w' hw' => cell0 ((hw'.fr (w0 := w1) (S := S) MI.m).keepS n2 g2) rfl)) rfl ?_ | refine tl_qg rfl rfl (y_loadNo (n := 7) (vs := [vi s.B, vi s.P, vi s.L, vi s.F, tv, pv, gv]) rfl (fun w' hw' => (CA_whole (c := #[vi s.B, vi s.P, vi s.L, vi s.F, tv, pv, gv]) (t := 36) (f := (0, 0)) rfl).cells ((hw'.fr (w0 := w1) (S := S) MI.m).keepS n1 g1))) rfl ?_ | refine tl_qg rfl rfl (y_load1o (v := .func (.yield l0) #[] #[]) rfl (fun w' hw' => cell0 ((hw'.fr (w0 := wl3) (S := (HcT Hx b5 b4 (s0, List.replicate 10 0, true)).map Prod.fst) MI.m).keepS hb3n hb3c) rfl)) rfl ?_ | refine tl_su rfl rfl rfl ?_ | (refine tl_gs rfl rfl (fun hc => ?_) (fun hc => ?_) <;> (try simp only [qn1, qn2, qn3, qn4, qn5, qn6, qn7, qn8] at hc) <;> (first | (exfalso; omega) | refine tl_sk rfl rfl rfl rfl ?_ | refine tl_qg rfl rfl (y_load1 rfl (by repeat constructor) (by rfl)) rfl ?_ | refine tl_qg rfl rfl (y_load1o (v := vi b) rfl (fun w' hw' => cell0 ((hw'.fr (w0 := w1) (S := S) MI.m).keepS n2 g2) rfl)) rfl ?_ | refine tl_qg rfl rfl (y_loadNo (n := 7) (vs := [vi s.B, vi s.P, vi s.L, vi s.F, tv, pv, gv]) rfl (fun w' hw' => (CA_whole (c := #[vi s.B, vi s.P, vi s.L, vi s.F, tv, pv, gv]) (t := 36) (f := (0, 0)) rfl).cells ((hw'.fr (w0 := w1) (S := S) MI.m).keepS n1 g1))) rfl ?_ | refine tl_qg rfl rfl (y_load1o (v := .func (.yield l0) #[] #[]) rfl (fun w' hw' => cell0 ((hw'.fr (w0 := wl3) (S := (HcT Hx b5 b4 (s0, List.replicate 10 0, true)).map Prod.fst) MI.m).keepS hb3n hb3c) rfl)) rfl ?_ | refine tl_su rfl rfl rfl ?_)))
     all_goals (first | refine tl_sk rfl rfl rfl rfl ?_ | refine tl_qg rfl rfl (y_not_dec rfl) rfl ?_ | refine tl_qg rfl rfl (y_not rfl) rfl ?_ | refine tl_su rfl rfl rfl ?_ | (refine tl_gs rfl rfl (fun hc => ?_) (fun hc => ?_) <;> (try simp only [qn1, qn2, qn3, qn4, qn5, qn6, qn7, qn8] at hc) <;> (first | (exfalso; omega) | refine tl_sk rfl rfl rfl rfl ?_ | refine tl_qg rfl rfl (y_not_dec rfl) rfl ?_ | refine tl_qg rfl rfl (y_not rfl) rfl ?_ | refine tl_su rfl rfl rfl ?_)))
     all_goals (first | refine tl_sk rfl rfl rfl rfl ?_ | refine tl_qg rfl rfl (y_move rfl) rfl ?_ | refine tl_su rfl rfl rfl ?_ | (refine tl_gs rfl rfl (fun hc => ?_) (fun hc => ?_) <;> (try simp only [qn1, qn2, qn3, qn4, qn5, qn6, qn7, qn8] at hc) <;> (first | (exfalso; omega) | refine tl_sk rfl rfl rfl rfl ?_ | refine tl_qg rfl rfl (y_move rfl) rfl ?_ | refine tl_su rfl rfl rfl ?_)))
     all_goals (first | refine tl_sk rfl rfl rfl rfl ?_ | refine tl_qg rfl rfl (y_loadW rfl (by repeat constructor) (by rw [isV_size]; omega)) rfl ?_ | refine tl_qg rfl rfl (y_loadW rfl (by repeat constructor) (by rfl)) rfl ?_ | refine tl_qg rfl rfl (y_loadN rfl (by repeat constructor) (by (repeat (first | exact .nil | apply CA.cons rfl)); done)) rfl ?_ | refine tl_qg rfl rfl (y_load1o (v := vi b) rfl (fun w' hw' => cell0 ((hw'.fr (w0 := w1) (S := S) MI.m).keepS n2 g2) rfl)) rfl ?_ | refine tl_qg rfl rfl (y_loadNo (n := 7) (vs := [vi s.B, vi s.P, vi s.L, vi s.F, tv, pv, gv]) rfl (fun w' hw' => (CA_whole (c := #[vi s.B, vi s.P, vi s.L, vi s.F, tv, pv, gv]) (t := 36) (f := (0, 0)) rfl).cells ((hw'.fr (w0 := w1) (S := S) MI.m).keepS n1 g1))) rfl ?_ | refine tl_qg rfl rfl (y_load1o (v := .func (.yield l0) #[] #[]) rfl (fun w' hw' => cell0 ((hw'.fr (w0 := wl3) (S := (HcT Hx b5 b4 (s0, List.replicate 10 0, true)).map Prod.fst) MI.m).keepS hb3n hb3c) rfl)) rfl ?_ | refine tl_su rfl rfl rfl ?_ | (refine tl_gs rfl rfl (fun hc => ?_) (fun hc => ?_) <;> (try simp only [qn1, qn2, qn3, qn4, qn5, qn6, qn7, qn8] at hc) <;> (first | (exfalso; omega) | refine tl_sk rfl rfl rfl rfl ?_ | refine tl_qg rfl rfl (y_loadW rfl (by repeat constructor) (by rw [isV_size]; omega)) rfl ?_ | refine tl_qg rfl rfl (y_loadW rfl (by repeat constructor) (by rfl)) rfl ?_ | refine tl_qg rfl rfl (y_loadN rfl (by repeat constructor) (by (repeat (first | exact .nil | apply CA.cons rfl)); done)) rfl ?_ | refine tl_qg rfl rfl (y_load1o (v := vi b) rfl (fun w' hw' => cell0 ((hw'.fr (w0 := w1) (S := S) MI.m).keepS n2 g2) rfl)) rfl ?_ | refine tl_qg rfl rfl (y_loadNo (n := 7) (vs := [vi s.B, vi s.P, vi s.L, vi s.F, tv, pv, gv]) rfl (fun w' hw' => (CA_whole (c := #[vi s.B, vi s.P, vi s.L, vi s.F, tv, pv, gv]) (t := 36) (f := (0, 0)) rfl).cells ((hw'.fr (w0 := w1) (S := S) MI.m).keepS n1 g1))) rfl ?_ | refine tl_qg rfl rfl (y_load1o (v := .func (.yield l0) #[] #[]) rfl (fun w' hw' => cell0 ((hw'.fr (w0 := wl3) (S := (HcT Hx b5 b4 (s0, List.replicate 10 0, true)).map Prod.fst) MI.m).keepS hb3n hb3c) rfl)) rfl ?_ | refine tl_su rfl rfl rfl ?_)))
     all_goals (first | refine tl_sk rfl rfl rfl rfl ?_ | refine tl_qg rfl rfl (y_loadW rfl (by repeat constructor) (by rw [isV_size]; omega)) rfl ?_ | refine tl_qg rfl rfl (y_loadW rfl (by repeat constructor) (by rfl)) rfl ?_ | refine tl_qg rfl rfl (y_loadN rfl (by repeat constructor) (by (repeat (first | exact .nil | apply CA.cons rfl)); done)) rfl ?_ | refine tl_qg rfl rfl (y_load1o (v := vi b) rfl (fun w' hw' => cell0 ((hw'.fr (w0 := w1) (S := S) MI.m).keepS n2 g2) rfl)) rfl ?_ | refine tl_qg rfl rfl (y_loadNo (n := 7) (vs := [vi s.B, vi s.P, vi s.L, vi s.F, tv, pv, gv]) rfl (fun w' hw' => (CA_whole (c := #[vi s.B, vi s.P, vi s.L, vi s.F, tv, pv, gv]) (t := 36) (f := (0, 0)) rfl).cells ((hw'.fr (w0 := w1) (S := S) MI.m).keepS n1 g1))) rfl ?_ | refine tl_qg rfl rfl (y_load1o (v := .func (.yield l0) #[] #[]) rfl (fun w' hw' => cell0 ((hw'.fr (w0 := wl3) (S := (HcT Hx b5 b4 (s0, List.replicate 10 0, true)).map Prod.fst) MI.m).keepS hb3n hb3c) rfl)) rfl ?_ | refine tl_su rfl rfl rfl ?_ | (refine tl_gs rfl rfl (fun hc => ?_) (fun hc => ?_) <;> (try simp only [qn1, qn2, qn3, qn4, qn5, qn6, qn7, qn8] at hc) <;> (first | (exfalso; omega) | refine tl_sk rfl rfl rfl rfl ?_ | refine tl_qg rfl rfl (y_loadW rfl (by repeat constructor) (by rw [isV_size]; omega)) rfl ?_ | refine tl_qg rfl rfl (y_loadW rfl (by repeat constructor) (by rfl)) rfl ?_ | refine tl_qg rfl rfl (y_loadN rfl (by repeat constructor) (by (repeat (first | exact .nil | apply CA.cons rfl)); done)) rfl ?_ | refine tl_qg rfl rfl (y_load1o (v := vi b) rfl (fun w' hw' => cell0 ((hw'.fr (w0 := w1) (S := S) MI.m).keepS n2 g2) rfl)) rfl ?_ | refine tl_qg rfl rfl (y_loadNo (n := 7) (vs := [vi s.B, vi s.P, vi s.L, vi s.F, tv, pv, gv]) rfl (fun w' hw' => (CA_whole (c := #[vi s.B, vi s.P, vi s.L, vi s.F, tv, pv, gv]) (t := 36) (f := (0, 0)) rfl).cells ((hw'.fr (w0 := w1) (S := S) MI.m).keepS n1 g1))) rfl ?_ | refine tl_qg rfl rfl (y_load1o (v := .func (.yield l0) #[] #[]) rfl (fun w' hw' => cell0 ((hw'.fr (w0 := wl3) (S := (HcT Hx b5 b4 (s0, List.replicate 10 0, true)).map Prod.fst) MI.m).keepS hb3n hb3c) rfl)) rfl ?_ | refine tl_su rfl rfl rfl ?_)))
     all_goals (first | refine tl_sk rfl rfl rfl rfl ?_ | refine tl_qg rfl rfl (y_eqlI rfl rfl hzl hI2) rfl ?_ | refine tl_qg rfl rfl (y_eql2 rfl rfl) rfl ?_ | refine tl_su rfl rfl rfl ?_ | (refine tl_gs rfl rfl (fun hc => ?_) (fun hc => ?_) <;> (try simp only [qn1, qn2, qn3, qn4, qn5, qn6, qn7, qn8] at hc) <;> (first | (exfalso; omega) | refine tl_sk rfl rfl rfl rfl ?_ | refine tl_qg rfl rfl (y_eqlI rfl rfl hzl hI2) rfl ?_ | refine tl_qg rfl rfl (y_eql2 rfl rfl) rfl ?_ | refine tl_su rfl rfl rfl ?_)))
     all_goals (first | refine tl_sk rfl rfl rfl rfl ?_ | refine tl_qg rfl rfl (y_pick_t rfl rfl) rfl ?_ | refine tl_qg rfl rfl (y_pick_f rfl rfl) rfl ?_ | refine tl_su rfl rfl rfl ?_ | (refine tl_gs rfl rfl (fun hc => ?_) (fun hc => ?_) <;> (try simp only [qn1, qn2, qn3, qn4, qn5, qn6, qn7, qn8] at hc) <;> (first | (exfalso; omega) | refine tl_sk rfl rfl rfl rfl ?_ | refine tl_qg rfl rfl (y_pick_t rfl rfl) rfl ?_ | refine tl_qg rfl rfl (y_pick_f rfl rfl) rfl ?_ | refine tl_su rfl rfl rfl ?_)))
     all_goals (first | refine tl_q (y_pick_t rfl rfl) rfl ?_ | refine tl_q (y_pick_f rfl rfl) rfl ?_)
     all_goals refine tl_nil ?_
     all_goals (refine hK7 ?_; try (clear hK7; clear K7))
     all_goals (
      refine tc_cond rfl (fun hc => ?_) (fun hc => ?_)
      · try simp only [qn1, qn2, qn3, qn4, qn5, qn6, qn7, qn8] at hc
        all_goals first | (exfalso; with_reducible exact bft hc) | (exfalso; with_reducible exact btf hc) | (exfalso; omega) | skip
        all_goals refine tc_exit ?_
        all_goals (
         repeat (refine tk_ib ?_)
         first
         | (have hI4 := (hqy.resolve_right (fun h => by rw [h.1] at hc; cases hc)).2
            have h0 := hcx
            refine tk_rq (qy.2, z.1, false) ⟨?_, hzl, ?_⟩ (fun _ h => h.subl SB.s SB.s)
            · rw [hdt, List.length_append]; exact hI4
            · rw [hdt, List.getLast?_concat]; rfl)
         | (have hun : ddC s b ((timesL s b).take (i + 1)) = ddC s b ((timesL s b).take i) := by
              rw [hdt]
              rcases hch : chF s b x with _ | c
              · rfl
              · by_cases hs : (chF s b x).isSome = false
                · rw [hch] at hs; cases hs
                · have hz1 := hz.1.2 c hch
                  first
                  | contradiction
                  | (have hl : z.1 = lst := by assumption
                     simp only
                     rw [if_pos (by rw [hI3, if_neg Bool.false_ne_true, ← hl, hz1])])
            refine tk_rq (Jx := fun c q => c = .ret ∧ J q.1) (st, lst, _) ⟨?_, hI2, ?_⟩ (fun _ h => h.subl SB.s SB.s)
            · rw [hun]; exact hI1
            · rw [hun]; exact hI3))
      · try simp only [qn1, qn2, qn3, qn4, qn5, qn6, qn7, qn8] at hc
        all_goals first | (exfalso; with_reducible exact bft hc) | (exfalso; with_reducible exact btf hc) | (exfalso; omega) | skip
        all_goals refine tc_skip ?_
        all_goals (refine hK6 ?_; try (clear hK6; clear K6))
        all_goals refine tc_seq fun K8 hK8 => ?_
        all_goals refine tc_seq fun K9 hK9 => ?_
        all_goals (obtain ⟨c, hcx⟩ := opt_some (by assumption : (chF s b x).isSome = true); obtain rfl : z.1 = c := hz.1.2 c hcx)
        all_goals (have hne : ¬ (ddC s b ((timesL s b).take i)).getLast? = some z.1 := by
                     rw [hI3]
                     intro e
                     first
                     | (rw [if_pos rfl] at e; cases e; done)
                     | (rw [if_neg Bool.false_ne_true] at e; exact absurd (Option.some.inj e).symm (by assumption)))
        all_goals (rw [hcx] at hdt; simp only at hdt; rw [if_neg hne] at hdt)
        all_goals (have hget := ddC_get hdt)
        all_goals refine tc_region ?_
        all_goals (first | refine tl_q (y_load1 rfl (by repeat constructor) (by rfl)) rfl ?_ | refine tl_q (y_load1o (v := vi b) rfl (fun w' hw' => cell0 ((hw'.fr (w0 := w1) (S := S) MI.m).keepS n2 g2) rfl)) rfl ?_ | refine tl_q (y_loadNo (n := 7) (vs := [vi s.B, vi s.P, vi s.L, vi s.F, tv, pv, gv]) rfl (fun w' hw' => (CA_whole (c := #[vi s.B, vi s.P, vi s.L, vi s.F, tv, pv, gv]) (t := 36) (f := (0, 0)) rfl).cells ((hw'.fr (w0 := w1) (S := S) MI.m).keepS n1 g1))) rfl ?_ | refine tl_q (y_load1o (v := .func (.yield l0) #[] #[]) rfl (fun w' hw' => cell0 ((hw'.fr (w0 := wl3) (S := (HcT Hx b5 b4 (s0, List.replicate 10 0, true)).map Prod.fst) MI.m).keepS hb3n hb3c) rfl)) rfl ?_)
        all_goals (first | refine tl_q (y_loadW rfl (by repeat constructor) (by rw [isV_size]; omega)) rfl ?_ | refine tl_q (y_loadW rfl (by repeat constructor) (by rfl)) rfl ?_ | refine tl_q (y_loadN rfl (by repeat constructor) (by (repeat (first | exact .nil | apply CA.cons rfl)); done)) rfl ?_ | refine tl_q (y_load1o (v := vi b) rfl (fun w' hw' => cell0 ((hw'.fr (w0 := w1) (S := S) MI.m).keepS n2 g2) rfl)) rfl ?_ | refine tl_q (y_loadNo (n := 7) (vs := [vi s.B, vi s.P, vi s.L, vi s.F, tv, pv, gv]) rfl (fun w' hw' => (CA_whole (c := #[vi s.B, vi s.P, vi s.L, vi s.F, tv, pv, gv]) (t := 36) (f := (0, 0)) rfl).cells ((hw'.fr (w0 := w1) (S := S) MI.m).keepS n1 g1))) rfl ?_ | refine tl_q (y_load1o (v := .func (.yield l0) #[] #[]) rfl (fun w' hw' => cell0 ((hw'.fr (w0 := wl3) (S := (HcT Hx b5 b4 (s0, List.replicate 10 0, true)).map Prod.fst) MI.m).keepS hb3n hb3c) rfl)) rfl ?_)
        all_goals refine tl_r (e_yieldG (α := σ) (l := l0) (Hx := Hx st) (Hn := Hx) (R := fun b' s' => b' = true ∧ I ((ddC s b ((timesL s b).take i)).length + 1) s' ∨ b' = false ∧ J s') [(b7, _), (lr, R1), (b5, _), (b4, _)] rfl rfl (.cons rfl .nil) rfl (fun w' hw' => hY _ st z.1 w' hget hI1 (hw'.fr (w0 := w1) (S := S) MI.m) (KnS.ofR hw' MI.m))) rfl (fun qy hqy => ?_)
        all_goals (first | refine tl_q (y_not_dec rfl) rfl ?_ | refine tl_q (y_not rfl) rfl ?_)
        all_goals refine tl_nil ?_
        all_goals (refine hK9 ?_; try (clear hK9; clear K9))
        all_goals (
         refine tc_cond rfl (fun hc => ?_) (fun hc => ?_)
         · try simp only [qn1, qn2, qn3, qn4, qn5, qn6, qn7, qn8] at hc
           all_goals first | (exfalso; with_reducible exact bft hc) | (exfalso; with_reducible exact btf hc) | (exfalso; omega) | skip
           all_goals refine tc_ret ?_
           all_goals (repeat (first | refine tk_then_ret ?_ | refine tk_block_ret ?_ | refine tk_scope_ret ?_))
           all_goals (
            exact tk_rret (qy.2, lst, _) ⟨rfl, (hqy.resolve_left (fun h => by rw [h.1] at hc; cases hc)).2⟩ (fun _ h => h.subl SB.s SB.s))
         · try simp only [qn1, qn2, qn3, qn4, qn5, qn6, qn7, qn8] at hc
           all_goals first | (exfalso; with_reducible exact bft hc) | (exfalso; with_reducible exact btf hc) | (exfalso; omega) | skip
           all_goals refine tc_skip ?_
           all_goals (refine hK8 ?_; try (clear hK8; clear K8))
           all_goals refine tc_region ?_
           all_goals (first | refine tl_q (y_loadW rfl (by repeat constructor) (by rw [isV_size]; omega)) rfl ?_ | refine tl_q (y_loadW rfl (by repeat constructor) (by rfl)) rfl ?_ | refine tl_q (y_loadN rfl (by repeat constructor) (by (repeat (first | exact .nil | apply CA.cons rfl)); done)) rfl ?_ | refine tl_q (y_load1o (v := vi b) rfl (fun w' hw' => cell0 ((hw'.fr (w0 := w1) (S := S) MI.m).keepS n2 g2) rfl)) rfl ?_ | refine tl_q (y_loadNo (n := 7) (vs := [vi s.B, vi s.P, vi s.L, vi s.F, tv, pv, gv]) rfl (fun w' hw' => (CA_whole (c := #[vi s.B, vi s.P, vi s.L, vi s.F, tv, pv, gv]) (t := 36) (f := (0, 0)) rfl).cells ((hw'.fr (w0 := w1) (S := S) MI.m).keepS n1 g1))) rfl ?_ | refine tl_q (y_load1o (v := .func (.yield l0) #[] #[]) rfl (fun w' hw' => cell0 ((hw'.fr (w0 := wl3) (S := (HcT Hx b5 b4 (s0, List.replicate 10 0, true)).map Prod.fst) MI.m).keepS hb3n hb3c) rfl)) rfl ?_)
           all_goals refine tl_e (e_storeW rfl rfl (by repeat constructor) (by rw [isV_size, hzl]) (by rw [isV_size, hI2]) (isV_one _)) rfl (fun _ _ => ?_)
           all_goals refine tl_e (e_store1 rfl rfl (by repeat constructor) (by repeat constructor) (by rfl) (by rfl)) rfl (fun _ _ => ?_)
           all_goals refine tl_nil ?_
           all_goals (
            repeat (refine tk_ib ?_)
            first
            | (have hI4 := (hqy.resolve_right (fun h => by rw [h.1] at hc; cases hc)).2
               have h0 := hcx
               refine tk_rq (qy.2, z.1, false) ⟨?_, hzl, ?_⟩ (fun _ h => h.subl SB.s SB.s)
               · rw [hdt, List.length_append]; exact hI4
               · rw [hdt, List.getLast?_concat]; rfl)
            | (have hun : ddC s b ((timesL s b).take (i + 1)) = ddC s b ((timesL s b).take i) := by
                 rw [hdt]
                 rcases hch : chF s b x with _ | c
                 · rfl
                 · by_cases hs : (chF s b x).isSome = false
                   · rw [hch] at hs; cases hs
                   · have hz1 := hz.1.2 c hch
                     first
                     | contradiction
                     | (have hl : z.1 = lst := by assumption
                        simp only
                        rw [if_pos (by rw [hI3, if_neg Bool.false_ne_true, ← hl, hz1])])
               refine tk_rq (Jx := fun c q => c = .ret ∧ J q.1) (st, lst, _) ⟨?_, hI2, ?_⟩ (fun _ h => h.subl SB.s SB.s)
               · rw [hun]; exact hI1
               · rw [hun]; exact hI3))))
   · intro D q hI
     obtain ⟨hI1, _, _⟩ := hI
     rw [List.take_length] at hI1
     all_goals first | refine tk_end rfl rfl .nil ?_ | refine tk_endM rfl (by repeat constructor) rfl .nil ?_
     all_goals (
      exact fun w' hw' => ⟨q.1, rfl, hw'.fr (w0 := w1) (S := S) MI.m, KnS.ofR (L := [_, _, _]) hw' MI.m, .inl hI1⟩)
   · intro D c q hJ
     obtain ⟨rfl, hJ⟩ := hJ
     refine tc_ret ?_
     repeat (first | refine tk_then_ret ?_ | refine tk_block_ret ?_ | refine tk_scope_ret ?_)
     refine tk_retM rfl (by repeat constructor) rfl .nil ?_
     exact fun w' hw' => ⟨q.1, rfl, hw'.fr (w0 := w1) (S := S) MI.m, KnS.ofR (L := [_, _, _]) hw' MI.m, .inr hJ⟩)
end Go.Sp
/-
  Package sample: whether a bottle, and a sample, has a truth.
-/
namespace Go.Sp
open Go Go.Proofs
theorem CnX.weak {P : Program} {f : FuncId} {args : Array Value} {w : World} {S : List Nat} {α : Type} {val : α → Value} {p p' : α → World → Prop} (h : CnX P f args w S val p) (hp : ∀ x w', Fr S w w' → p x w' → p' x w') : CnX P f args w S val p' := h.imp id (fun _ => rfl) (fun _ h => h) hp
def possF (s : Smp) (b : Int) : Bool := (chainsL s b).any (canF s b)
theorem chainsL_ok {s : Smp} (hv : VSm s) {b : Int} {c : List Int} (h : c ∈ chainsL s b) : ChOk s c := by
  obtain ⟨ts, _, h2⟩ := (ddC_mem s b c _).1 h
  exact chF_ok hv h2
theorem possF_yes {s : Smp} {b : Int} {c : List Int} {i : Nat} (h : (chainsL s b)[i]? = some c) (hc : canF s b c = true) : possF s b = true := List.any_eq_true.2 ⟨c, List.mem_of_getElem? h, hc⟩
theorem possF_no {s : Smp} {b : Int} (h : ∀ c ∈ (chainsL s b).take (chainsL s b).length, canF s b c = false) : possF s b = false := by
  rw [List.take_length] at h
  cases hp : possF s b
  · rfl
  · obtain ⟨c, h1, h2⟩ := List.any_eq_true.1 hp
    rw [h c h1] at h2; cases h2
theorem take_all {α : Type} {p : α → Prop} {l : List α} {i : Nat} {x : α} (h : l[i]? = some x) (h1 : ∀ c ∈ l.take i, p c) (h2 : p x) : ∀ c ∈ l.take (i + 1), p c := fun c hc => by
  rw [List.take_succ, h] at hc
  rcases List.mem_append.1 hc with hc | hc
  · exact h1 c hc
  · obtain rfl := List.mem_singleton.1 hc; exact h2
set_option maxHeartbeats 1000000 in
theorem possible_c (s : Smp) (hf : Few s) (hv : VSm s) (b : Int) (tv pv gv : Value) (w : World) (hr : RdSm w s tv pv gv) : CnV Tryz.prog 90 #[smV s tv pv gv, vi b] w (.bool (possF s b)) := by
  have hr0 := hr
  refine cnv (vs := [_, _]) Tryz.func90 rfl rfl ?_
  all_goals refine tc_seq fun K1 hK1 => ?_
  all_goals refine tc_region ?_
  all_goals refine tl_e (e_box rfl rfl rfl) rfl (fun b2 _ => ?_)
  all_goals refine tl_e (e_box rfl rfl rfl) rfl (fun b3 _ => ?_)
  all_goals refine tl_e (e_alloc1 rfl) rfl (fun b4 _ => ?_)
  all_goals refine tl_nil ?_
  all_goals (refine hK1 ?_; try (clear hK1; clear K1))
  all_goals refine tc_seq fun K2 hK2 => ?_
  all_goals refine tc_seq fun K3 hK3 => ?_
  all_goals refine tc_region ?_
  all_goals (first | refine tl_q (y_loadW rfl (by repeat constructor) (by rw [isV_size, hcl])) rfl ?_ | refine tl_q (y_loadW rfl (by repeat constructor) (by rfl)) rfl ?_ | refine tl_q (y_loadN rfl (by repeat constructor) (by (repeat (first | exact .nil | apply CA.cons rfl)); done)) rfl ?_ | refine tl_q (y_load1o (v := vi b) rfl (fun w' hw' => cell0 ((hw'.fr (w0 := wl1) (S := [b4]) MI.m).keepS hn.2.2.1 (hl1.at (b := b3) (by repeat constructor))) rfl)) rfl ?_ | refine tl_q (y_loadNo (n := 7) (vs := [vi s.B, vi s.P, vi s.L, vi s.F, tv, pv, gv]) rfl (fun w' hw' => (CA_whole (c := #[vi s.B, vi s.P, vi s.L, vi s.F, tv, pv, gv]) (t := 36) (f := (0, 0)) rfl).cells ((hw'.fr (w0 := wl1) (S := [b4]) MI.m).keepS hn.2.2.2 (hl1.at (b := b2) (by repeat constructor))))) rfl ?_)
  all_goals (first | refine tl_q (y_load1 rfl (by repeat constructor) (by rfl)) rfl ?_ | refine tl_q (y_load1o (v := vi b) rfl (fun w' hw' => cell0 ((hw'.fr (w0 := wl1) (S := [b4]) MI.m).keepS hn.2.2.1 (hl1.at (b := b3) (by repeat constructor))) rfl)) rfl ?_ | refine tl_q (y_loadNo (n := 7) (vs := [vi s.B, vi s.P, vi s.L, vi s.F, tv, pv, gv]) rfl (fun w' hw' => (CA_whole (c := #[vi s.B, vi s.P, vi s.L, vi s.F, tv, pv, gv]) (t := 36) (f := (0, 0)) rfl).cells ((hw'.fr (w0 := wl1) (S := [b4]) MI.m).keepS hn.2.2.2 (hl1.at (b := b2) (by repeat constructor))))) rfl ?_)
  all_goals refine tl_e (e_callN rfl (.cons rfl (.cons rfl .nil)) (fun w' hw' => chains_c s b tv pv gv w')) rfl (fun tq htq => ?_)
  all_goals refine tl_nil ?_
  all_goals (refine hK3 ?_; try (clear hK3; clear K3))
  all_goals refine tc_block ?_
  all_goals (
   refine tc_lay [(b4, Obj.cells #[.bool false] 4 (0, 0))] SB.s (fun wl1 hl1 => ?_)
   have hn : tq.1 ∉ [b4] ∧ tq.2 ∉ [b4] ∧ b3 ∉ [b4] ∧ b2 ∉ [b4] := by have := hl1.nodup; simp at this ⊢; omega
   have hb4 : w.heap.size ≤ b4 := (hl1.own _ (HM.mem (b := b4) (by repeat constructor)) (w, []) (by simp)).resolve_left (by simp)
   refine tc_rangeU (α := List Int) (σ := Bool) (gf := 133) (lb := #[ptr tq.1, ptr tq.2]) (enc := encC) (chainsL s b) [b4] (fun v => [(b4, Obj.cells #[.bool v] 4 (0, 0))]) (fun i v => v = false ∧ ∀ c ∈ (chainsL s b).take i, canF s b c = false) (fun c v => c = .ret ∧ v = true ∧ possF s b = true) false rfl rfl (fun _ => rfl) ⟨rfl, fun c hc => by simp at hc⟩ (fun q hq => by obtain rfl := List.mem_singleton.1 hq; simp) (fun w' h => h) (fun w' hw' => ?hseq) ?_ ?_ ?_
   case hseq =>
     have f3 := hw'.fr (w0 := wl1) (S := [b4]) MI.m
     exact chains_seq s hf hv b tv pv gv w' tq.1 tq.2 _ (f3.keepS hn.1 (hl1.at (by repeat constructor))) hn.1 (f3.keepS hn.2.1 (hl1.at (by repeat constructor))) hn.2.1 (fun w'' f => hr0.fr ((hw'.fr (w0 := w) (S := []) MI.m).trans f (fun x hx => .inr (by obtain rfl := List.mem_singleton.1 hx; exact hb4))))
   · intro lr R0 R1 i v c w2 hx hI K hK
     obtain ⟨rfl, hI⟩ := hI
     have hco := chainsL_ok hv (List.mem_of_getElem? hx)
     have hcl := hco.len
     all_goals refine tc_region ?_
     all_goals refine tl_e (e_allocN rfl) rfl (fun b5 _ => ?_)
     all_goals refine tl_e (e_storeW rfl rfl (by repeat constructor) (by rw [isV_size, hcl]) (by rfl) (isV_one _)) rfl (fun _ _ => ?_)
     all_goals refine tl_nil ?_
     all_goals refine hK (by repeat constructor) ?_
     all_goals clear hK
     all_goals refine tc_block ?_
     all_goals refine tc_seq fun K4 hK4 => ?_
     all_goals refine tc_region ?_
     all_goals (first | refine tl_q (y_loadW rfl (by repeat constructor) (by rw [isV_size, hcl])) rfl ?_ | refine tl_q (y_loadW rfl (by repeat constructor) (by rfl)) rfl ?_ | refine tl_q (y_loadN rfl (by repeat constructor) (by (repeat (first | exact .nil | apply CA.cons rfl)); done)) rfl ?_ | refine tl_q (y_load1o (v := vi b) rfl (fun w' hw' => cell0 ((hw'.fr (w0 := wl1) (S := [b4]) MI.m).keepS hn.2.2.1 (hl1.at (b := b3) (by repeat constructor))) rfl)) rfl ?_ | refine tl_q (y_loadNo (n := 7) (vs := [vi s.B, vi s.P, vi s.L, vi s.F, tv, pv, gv]) rfl (fun w' hw' => (CA_whole (c := #[vi s.B, vi s.P, vi s.L, vi s.F, tv, pv, gv]) (t := 36) (f := (0, 0)) rfl).cells ((hw'.fr (w0 := wl1) (S := [b4]) MI.m).keepS hn.2.2.2 (hl1.at (b := b2) (by repeat constructor))))) rfl ?_)
     all_goals (first | refine tl_q (y_load1 rfl (by repeat constructor) (by rfl)) rfl ?_ | refine tl_q (y_load1o (v := vi b) rfl (fun w' hw' => cell0 ((hw'.fr (w0 := wl1) (S := [b4]) MI.m).keepS hn.2.2.1 (hl1.at (b := b3) (by repeat constructor))) rfl)) rfl ?_ | refine tl_q (y_loadNo (n := 7) (vs := [vi s.B, vi s.P, vi s.L, vi s.F, tv, pv, gv]) rfl (fun w' hw' => (CA_whole (c := #[vi s.B, vi s.P, vi s.L, vi s.F, tv, pv, gv]) (t := 36) (f := (0, 0)) rfl).cells ((hw'.fr (w0 := wl1) (S := [b4]) MI.m).keepS hn.2.2.2 (hl1.at (b := b2) (by repeat constructor))))) rfl ?_)
     all_goals (first | refine tl_q (y_loadW rfl (by repeat constructor) (by rw [isV_size, hcl])) rfl ?_ | refine tl_q (y_loadW rfl (by repeat constructor) (by rfl)) rfl ?_ | refine tl_q (y_loadN rfl (by repeat constructor) (by (repeat (first | exact .nil | apply CA.cons rfl)); done)) rfl ?_ | refine tl_q (y_load1o (v := vi b) rfl (fun w' hw' => cell0 ((hw'.fr (w0 := wl1) (S := [b4]) MI.m).keepS hn.2.2.1 (hl1.at (b := b3) (by repeat constructor))) rfl)) rfl ?_ | refine tl_q (y_loadNo (n := 7) (vs := [vi s.B, vi s.P, vi s.L, vi s.F, tv, pv, gv]) rfl (fun w' hw' => (CA_whole (c := #[vi s.B, vi s.P, vi s.L, vi s.F, tv, pv, gv]) (t := 36) (f := (0, 0)) rfl).cells ((hw'.fr (w0 := wl1) (S := [b4]) MI.m).keepS hn.2.2.2 (hl1.at (b := b2) (by repeat constructor))))) rfl ?_)
     all_goals refine tl_e (e_callX rfl (.cons rfl (.cons rfl (.cons rfl .nil))) (fun w' hw' => (work_c s hf hv b c hco tv pv gv w' (hr0.fr (hw'.fr (w0 := w) (S := []) MI.m))).weak (p' := fun y w2 => Wd w2 s tv pv gv b c y.1 y.2.1 y.2.2.1 y.2.2.2) (fun y w2 _ h => ⟨h.1.1, h.1.2.1, h.1.2.2.1, h.1.2.2.2⟩))) rfl (fun y hy => ?_)
     all_goals refine tl_e (e_callV rfl (.cons rfl .nil) (fun w' hw' => can_c s hv.l0 b c hcl tv pv gv y.1.1 y.1.2.1 y.1.2.2.1 y.1.2.2.2 w' (hy.1.fr (hw'.calm hy.2 MI.m SB.s)))) rfl (fun _ _ => ?_)
     all_goals refine tl_nil ?_
     all_goals (refine hK4 ?_; try (clear hK4; clear K4))
     all_goals (
      refine tc_cond rfl (fun hc => ?_) (fun hc => ?_)
      · try simp only [qn1, qn2, qn3, qn4, qn5, qn6, qn7, qn8] at hc
        all_goals first | (exfalso; with_reducible exact bft hc) | (exfalso; with_reducible exact btf hc) | (exfalso; omega) | skip
        all_goals refine tc_seq fun K5 hK5 => ?_
        all_goals refine tc_region ?_
        all_goals refine tl_e (e_store1 rfl rfl (by repeat constructor) (by repeat constructor) (by rfl) (by rfl)) rfl (fun _ _ => ?_)
        all_goals refine tl_nil ?_
        all_goals (refine hK5 ?_; try (clear hK5; clear K5))
        all_goals refine tc_ret ?_
        all_goals (repeat (first | refine tk_then_ret ?_ | refine tk_block_ret ?_ | refine tk_scope_ret ?_))
        all_goals (
         exact tk_rret true ⟨rfl, rfl, possF_yes hx hc⟩ (fun _ h => h.subl SB.s SB.s))
      · try simp only [qn1, qn2, qn3, qn4, qn5, qn6, qn7, qn8] at hc
        all_goals first | (exfalso; with_reducible exact bft hc) | (exfalso; with_reducible exact btf hc) | (exfalso; omega) | skip
        all_goals refine tc_skip ?_
        all_goals (
         repeat (refine tk_ib ?_)
         exact tk_rq (Jx := fun c v => c = .ret ∧ v = true ∧ possF s b = true) false ⟨rfl, take_all hx hI hc⟩ (fun _ h => h.subl SB.s SB.s)))
   · intro D v hI
     obtain ⟨rfl, hI⟩ := hI
     all_goals (refine hK2 ?_; try (clear hK2; clear K2))
     all_goals refine tc_seq fun K6 hK6 => ?_
     all_goals refine tc_region ?_
     all_goals refine tl_e (e_store1 rfl rfl (by repeat constructor) (by repeat constructor) (by rfl) (by rfl)) rfl (fun _ _ => ?_)
     all_goals refine tl_nil ?_
     all_goals (refine hK6 ?_; try (clear hK6; clear K6))
     all_goals refine tc_ret ?_
     all_goals (repeat (first | refine tk_then_ret ?_ | refine tk_block_ret ?_ | refine tk_scope_ret ?_))
     all_goals first | refine tk_ret rfl rfl (.cons (.one inferInstance rfl (by repeat constructor) (by rfl)) .nil) ?_ | refine tk_retM rfl (by repeat constructor) rfl (.cons (.one inferInstance rfl (by repeat constructor) (by rfl)) .nil) ?_
     all_goals (
      exact fun w' hw' => ⟨by rw [possF_no hI]; rfl, hw'.fr (w0 := w) (S := []) MI.m⟩)
   · intro D c v hJ
     obtain ⟨rfl, rfl, hJ⟩ := hJ
     refine tc_ret ?_
     repeat (first | refine tk_then_ret ?_ | refine tk_block_ret ?_ | refine tk_scope_ret ?_)
     refine tk_retM rfl (by repeat constructor) rfl (.cons (.one inferInstance rfl (by repeat constructor) (by rfl)) .nil) ?_
     exact fun w' hw' => ⟨by rw [hJ]; rfl, hw'.fr (w0 := w) (S := []) MI.m⟩)
/-- Whether a sample has a truth: each bottle by itself. -/
def consF (s : Smp) : Bool := (List.range s.B.toNat).all fun b => possF s (b : Int)
theorem consF_no {s : Smp} {k : Nat} (hk : k < s.B.toNat) (h : possF s (k : Int) = false) : consF s = false := by
  cases hg : consF s
  · rfl
  · have := List.all_eq_true.1 hg k (List.mem_range.2 hk)
    rw [h] at this; cases this
theorem consF_yes {s : Smp} (h : ∀ k : Nat, k < s.B.toNat → possF s (k : Int) = true) : consF s = true := List.all_eq_true.2 fun k hk => h k (List.mem_range.1 hk)
theorem consistent_c (s : Smp) (hf : Few s) (hv : VSm s) (tv pv gv : Value) (w : World) (hr : RdSm w s tv pv gv) : CnV Tryz.prog 67 #[smV s tv pv gv] w (.bool (consF s)) := by
  have hb1 := hv.b1
  have hb3 := hv.b3
  have hr0 := hr
  refine cnv (vs := [_]) Tryz.func67 rfl rfl ?_
  all_goals refine tc_seq fun K1 hK1 => ?_
  all_goals refine tc_region ?_
  all_goals refine tl_e (e_box rfl rfl rfl) rfl (fun b1 _ => ?_)
  all_goals refine tl_q (y_assign rfl) rfl ?_
  all_goals refine tl_nil ?_
  all_goals (refine hK1 ?_; try (clear hK1; clear K1))
  all_goals refine tc_seq fun K2 hK2 => ?_
  all_goals refine tc_seq fun K3 hK3 => ?_
  all_goals refine tc_region ?_
  all_goals refine tl_q (y_field rfl) rfl ?_
  all_goals refine tl_q (y_load1 rfl (by repeat constructor) (by rfl)) rfl ?_
  all_goals refine tl_q (y_move rfl) rfl ?_
  all_goals refine tl_nil ?_
  all_goals (refine hK3 ?_; try (clear hK3; clear K3))
  all_goals refine tc_block ?_
  all_goals (
   refine tc_loop (fun k : Nat => (k : Int) ≤ s.B ∧ ∀ j, j < k → possF s (j : Int) = true) (fun k => [(1, ptr b1), (2, .bool false), (5, vi s.B), (6, vi k)]) (fun _ => [(w, [])]) (fun _ => [(b1, smO s tv pv gv)]) (fun k => s.B.toNat - k) ?_ ?_
   · exact tk_start 0 ⟨by omega, fun j hj => absurd hj (Nat.not_lt_zero j)⟩ (.cons rfl (.cons rfl (.cons rfl (.cons rfl .nil)))) (fun _ h => h.subl SB.s SB.s)
   · rintro k ⟨hk, hj⟩
     all_goals refine tc_seq fun K4 hK4 => ?_
     all_goals refine tc_region ?_
     all_goals refine tl_q (y_lss rfl rfl) rfl ?_
     all_goals refine tl_nil ?_
     all_goals (refine hK4 ?_; try (clear hK4; clear K4))
     all_goals refine tc_seq fun K5 hK5 => ?_
     all_goals (
      refine tc_cond rfl (fun hc => ?_) (fun hc => ?_)
      · try simp only [qn1, qn2, qn3, qn4, qn5, qn6, qn7, qn8] at hc
        all_goals first | (exfalso; with_reducible exact bft hc) | (exfalso; with_reducible exact btf hc) | (exfalso; omega) | skip
        all_goals refine tc_skip ?_
        all_goals (refine hK5 ?_; try (clear hK5; clear K5))
        all_goals refine tc_seq fun K6 hK6 => ?_
        all_goals refine tc_block ?_
        all_goals refine tc_seq fun K7 hK7 => ?_
        all_goals refine tc_region ?_
        all_goals refine tl_q (y_move rfl) rfl ?_
        all_goals refine tl_q (y_assign rfl) rfl ?_
        all_goals refine tl_nil ?_
        all_goals (refine hK7 ?_; try (clear hK7; clear K7))
        all_goals refine tc_seq fun K8 hK8 => ?_
        all_goals refine tc_region ?_
        all_goals (first | refine tl_q (y_loadW rfl (by repeat constructor) (by rfl)) rfl ?_ | refine tl_q (y_loadN rfl (by repeat constructor) (by (repeat (first | exact .nil | apply CA.cons rfl)); done)) rfl ?_)
        all_goals refine tl_q (y_move rfl) rfl ?_
        all_goals refine tl_e (e_callV rfl (.cons rfl (.cons rfl .nil)) (fun w' hw' => possible_c s hf hv k tv pv gv w' (hr0.fr (hw'.fr (w0 := w) (S := []) MI.m)))) rfl (fun _ _ => ?_)
        all_goals (first | refine tl_q (y_not_dec rfl) rfl ?_ | refine tl_q (y_not rfl) rfl ?_)
        all_goals refine tl_nil ?_
        all_goals (refine hK8 ?_; try (clear hK8; clear K8))
        all_goals (
         refine tc_cond rfl (fun hc => ?_) (fun hc => ?_)
         · try simp only [qn1, qn2, qn3, qn4, qn5, qn6, qn7, qn8] at hc
           all_goals first | (exfalso; with_reducible exact bft hc) | (exfalso; with_reducible exact btf hc) | (exfalso; omega) | skip
           all_goals refine tc_seq fun K9 hK9 => ?_
           all_goals refine tc_region ?_
           all_goals refine tl_q (y_assign rfl) rfl ?_
           all_goals refine tl_nil ?_
           all_goals (refine hK9 ?_; try (clear hK9; clear K9))
           all_goals refine tc_ret ?_
           all_goals (repeat (first | refine tk_then_ret ?_ | refine tk_block_ret ?_ | refine tk_scope_ret ?_))
           all_goals first | refine tk_ret rfl rfl (.cons (.tmp rfl) .nil) ?_ | refine tk_retM rfl (by repeat constructor) rfl (.cons (.tmp rfl) .nil) ?_
           all_goals (
            first
            | exact fun w' hw' => ⟨by rw [consF_no (k := k) (by omega) hc]; rfl, hw'.fr (by simp)⟩
            | exact fun w' hw' => ⟨by rw [consF_yes (fun j hjj => hj j (by omega))]; rfl, hw'.fr (by simp)⟩)
         · try simp only [qn1, qn2, qn3, qn4, qn5, qn6, qn7, qn8] at hc
           all_goals first | (exfalso; with_reducible exact bft hc) | (exfalso; with_reducible exact btf hc) | (exfalso; omega) | skip
           all_goals refine tc_skip ?_
           all_goals (refine hK6 ?_; try (clear hK6; clear K6))
           all_goals refine tc_region ?_
           all_goals refine tl_q (y_add rfl rfl (by omega)) rfl ?_
           all_goals refine tl_q (y_move rfl) rfl ?_
           all_goals refine tl_nil ?_
           all_goals (
            exact tk_round (k + 1) ⟨by omega, fun j hj' => by rcases Nat.lt_succ_iff_lt_or_eq.1 hj' with h | rfl; exact hj j h; exact hc⟩ (by omega) (.cons rfl (.cons rfl (.cons rfl (.cons rfl .nil)))) (fun _ h => h.subl SB.s SB.s)))
      · try simp only [qn1, qn2, qn3, qn4, qn5, qn6, qn7, qn8] at hc
        all_goals first | (exfalso; with_reducible exact bft hc) | (exfalso; with_reducible exact btf hc) | (exfalso; omega) | skip
        all_goals refine tc_exit ?_
        all_goals (refine hK2 ?_; try (clear hK2; clear K2))
        all_goals refine tc_seq fun K10 hK10 => ?_
        all_goals refine tc_region ?_
        all_goals refine tl_q (y_assign rfl) rfl ?_
        all_goals refine tl_nil ?_
        all_goals (refine hK10 ?_; try (clear hK10; clear K10))
        all_goals refine tc_ret ?_
        all_goals (repeat (first | refine tk_then_ret ?_ | refine tk_block_ret ?_ | refine tk_scope_ret ?_))
        all_goals first | refine tk_ret rfl rfl (.cons (.tmp rfl) .nil) ?_ | refine tk_retM rfl (by repeat constructor) rfl (.cons (.tmp rfl) .nil) ?_
        all_goals (
         first
         | exact fun w' hw' => ⟨by rw [consF_no (k := k) (by omega) hc]; rfl, hw'.fr (by simp)⟩
         | exact fun w' hw' => ⟨by rw [consF_yes (fun j hjj => hj j (by omega))]; rfl, hw'.fr (by simp)⟩)))
end Go.Sp
/-
  Package sample: what is so of a bottle.
-/
namespace Go.Sp
open Go Go.Proofs
structure Kwn where
  hol : List Bool
  opn : List Bool
  least : Int
  sm : Bool
def knL (q : Kwn) : List Value := q.hol.map Value.bool ++ (q.opn.map Value.bool ++ [vi q.least, .bool q.sm])
abbrev knO (q : Kwn) : Obj := .cells (knL q).toArray 101 (0, 0)
structure KnOk (q : Kwn) : Prop where
  h : q.hol.length = 40
  o : q.opn.length = 4
def kn0 : Kwn := ⟨List.replicate 40 false, List.replicate 4 false, 0, false⟩
theorem knL_len {q : Kwn} (h : KnOk q) : (knL q).length = 46 := by unfold knL; simp [h.h, h.o]
theorem knL_one (q : Kwn) : ∀ v ∈ (knL q).toArray.toList, v.oneCell' = true := fun v hv => by
  simp only [knL, List.mem_append, List.mem_map, List.mem_cons, List.not_mem_nil, or_false] at hv
  rcases hv with ⟨_, _, rfl⟩ | ⟨_, _, rfl⟩ | rfl | rfl <;> rfl
theorem cellK_o {q : Kwn} (hq : KnOk q) {e : TypeId} {f : Nat × Nat} {o : Nat} (ho : o < 4) : cellAt (.cells (knL q).toArray e f) (40 + o) = some (.bool (q.opn.getD o false)) := by
  simp only [cellAt, lget_eq]
  unfold knL
  rw [List.getElem?_append_right (by simp [hq.h]), List.getElem?_append_left (by simp [hq.h, hq.o]; exact ho), List.getElem?_map, List.getD_eq_getElem?_getD]
  simp only [List.length_map, hq.h, Nat.add_sub_cancel_left]
  rw [List.getElem?_eq_getElem (by rw [hq.o]; exact ho)]; rfl
theorem cellK_l {q : Kwn} (hq : KnOk q) {e : TypeId} {f : Nat × Nat} : cellAt (.cells (knL q).toArray e f) 44 = some (vi q.least) := by
  simp only [cellAt, lget_eq]
  unfold knL
  rw [List.getElem?_append_right (by simp [hq.h]), List.getElem?_append_right (by simp [hq.h, hq.o])]
  simp [hq.h, hq.o]
theorem cellK_s {q : Kwn} (hq : KnOk q) {e : TypeId} {f : Nat × Nat} : cellAt (.cells (knL q).toArray e f) 45 = some (.bool q.sm) := by
  simp only [cellAt, lget_eq]
  unfold knL
  rw [List.getElem?_append_right (by simp [hq.h]), List.getElem?_append_right (by simp [hq.h, hq.o])]
  simp [hq.h, hq.o]
theorem setK_h {q : Kwn} (hq : KnOk q) {o : Nat} (ho : o < 40) (v : Bool) : (knL q).toArray.setIfInBounds o (.bool v) = (knL { q with hol := q.hol.set o v }).toArray := by
  rw [List.setIfInBounds_toArray]
  unfold knL
  rw [List.set_append_left _ _ (by simp [hq.h]; exact ho), List.map_set]
theorem setK_o {q : Kwn} (hq : KnOk q) {o : Nat} (ho : o < 4) (v : Bool) : (knL q).toArray.setIfInBounds (40 + o) (.bool v) = (knL { q with opn := q.opn.set o v }).toArray := by
  rw [List.setIfInBounds_toArray]
  unfold knL
  rw [List.set_append_right _ _ (by simp [hq.h]), List.length_map, hq.h, Nat.add_sub_cancel_left, List.set_append_left _ _ (by simp [hq.o]; exact ho), List.map_set]
theorem setK_l {q : Kwn} (hq : KnOk q) (v : Int) : (knL q).toArray.setIfInBounds 44 (vi v) = (knL { q with least := v }).toArray := by
  rw [List.setIfInBounds_toArray]
  unfold knL
  rw [List.set_append_right _ _ (by simp [hq.h]), List.set_append_right _ _ (by simp [hq.h, hq.o])]
  simp [hq.h, hq.o]
theorem setK_s {q : Kwn} (hq : KnOk q) (v : Bool) : (knL q).toArray.setIfInBounds 45 (.bool v) = (knL { q with sm := v }).toArray := by
  rw [List.setIfInBounds_toArray]
  unfold knL
  rw [List.set_append_right _ _ (by simp [hq.h]), List.set_append_right _ _ (by simp [hq.h, hq.o])]
  simp [hq.h, hq.o]
section
variable {P : Program} {N : NN} {F : List (Nat × Value)} {bs : List (World × List Nat)} {H : List (Nat × Obj)} {ty : TypeId} {pos : String} {after : Array Edge} {g : Option (Nat × Bool)} {x y : Operand} {b o : Nat} {e : TypeId} {H' : List (Nat × Obj)}
theorem e_storeKh {t : TypeId} {z : Value} [TyOne P t z] {q : Kwn} {v : Bool} (hq : KnOk q) (ho : o < 40) (hx : evalO F x = some (.pointer (some ⟨b, o, none⟩))) (hy : evalO F y = some (.bool v))
    (hu : HU b (.cells (knL q).toArray e (0, 0)) (.cells (knL { q with hol := q.hol.set o v }).toArray e (0, 0)) H H') :
    OpE P ⟨none, .store t x y, ty, pos, after, g⟩ N F bs H (fun _ : Unit => True) (fun _ => F) (fun _ => bs) (fun _ => H') :=
  e_store1g hx hy rfl rfl (by rw [List.size_toArray, knL_len hq]; omega) (by rw [setK_h hq ho]; exact hu)
theorem e_storeKo {t : TypeId} {z : Value} [TyOne P t z] {q : Kwn} {v : Bool} {i : Nat} (hq : KnOk q) (ho : i < 4) (hx : evalO F x = some (.pointer (some ⟨b, 40 + i, none⟩))) (hy : evalO F y = some (.bool v))
    (hu : HU b (.cells (knL q).toArray e (0, 0)) (.cells (knL { q with opn := q.opn.set i v }).toArray e (0, 0)) H H') :
    OpE P ⟨none, .store t x y, ty, pos, after, g⟩ N F bs H (fun _ : Unit => True) (fun _ => F) (fun _ => bs) (fun _ => H') :=
  e_store1g hx hy rfl rfl (by rw [List.size_toArray, knL_len hq]; omega) (by rw [setK_o hq ho]; exact hu)
theorem e_storeKl {t : TypeId} {z : Value} [TyOne P t z] {q : Kwn} {v : Int} (hq : KnOk q) (hx : evalO F x = some (.pointer (some ⟨b, 44, none⟩))) (hy : evalO F y = some (vi v))
    (hu : HU b (.cells (knL q).toArray e (0, 0)) (.cells (knL { q with least := v }).toArray e (0, 0)) H H') :
    OpE P ⟨none, .store t x y, ty, pos, after, g⟩ N F bs H (fun _ : Unit => True) (fun _ => F) (fun _ => bs) (fun _ => H') :=
  e_store1g hx hy rfl rfl (by rw [List.size_toArray, knL_len hq]; omega) (by rw [setK_l hq]; exact hu)
theorem e_storeKs {t : TypeId} {z : Value} [TyOne P t z] {q : Kwn} {v : Bool} (hq : KnOk q) (hx : evalO F x = some (.pointer (some ⟨b, 45, none⟩))) (hy : evalO F y = some (.bool v))
    (hu : HU b (.cells (knL q).toArray e (0, 0)) (.cells (knL { q with sm := v }).toArray e (0, 0)) H H') :
    OpE P ⟨none, .store t x y, ty, pos, after, g⟩ N F bs H (fun _ : Unit => True) (fun _ => F) (fun _ => bs) (fun _ => H') :=
  e_store1g hx hy rfl rfl (by rw [List.size_toArray, knL_len hq]; omega) (by rw [setK_s hq]; exact hu)
end
def hlN (c : List Int) (q : Kwn) : Nat → List Bool
  | 0 => q.hol
  | n + 1 => (hlN c q n).set (0 + Int.toNat (n : Int) * 4 + Int.toNat (c.getD (0 + Int.toNat (n : Int) * 1) 0) * 1) true
def opN (c : List Int) (o : List Bool) (q : Kwn) : Nat → List Bool
  | 0 => q.opn
  | n + 1 => (opN c o q n).set (Int.toNat (c.getD (0 + Int.toNat (n : Int) * 1) 0) * 1) ((opN c o q n).getD (Int.toNat (c.getD (0 + Int.toNat (n : Int) * 1) 0) * 1) false || o.getD (0 + Int.toNat (n : Int) * 1) false)
def lsN (s : Smp) (b : Int) (c : List Int) : Int := (rstF s b c (s.L + 1).toNat false).getD 0
def kqN (s : Smp) (b : Int) (c : List Int) (q : Kwn) (n : Nat) : Kwn := { q with hol := hlN c q n, opn := opN c (opnL s b c) q n }
def askU (s : Smp) (b : Int) (q : Kwn) (c : List Int) : Kwn :=
  if canF s b c = true then ⟨hlN c q (s.L + 1).toNat, opN c (opnL s b c) q (s.L + 1).toNat, if q.sm = true ∧ ¬ lsN s b c < q.least then q.least else lsN s b c, true⟩ else q
def askF (s : Smp) (b : Int) : Kwn := (chainsL s b).foldl (askU s b) kn0
theorem kqN_ok {s : Smp} {b : Int} {c : List Int} {q : Kwn} (h : KnOk q) (n : Nat) : KnOk (kqN s b c q n) := by
  constructor
  · show (hlN c q n).length = 40
    induction n with
    | zero => exact h.h
    | succ n ih => rw [hlN, List.length_set]; exact ih
  · show (opN c (opnL s b c) q n).length = 4
    induction n with
    | zero => exact h.o
    | succ n ih => rw [opN, List.length_set]; exact ih
theorem askU_ok {s : Smp} {b : Int} {c : List Int} {q : Kwn} (h : KnOk q) : KnOk (askU s b q c) := by
  unfold askU
  split
  · exact ⟨(kqN_ok (s := s) (b := b) h _).h, (kqN_ok (s := s) (b := b) h _).o⟩
  · exact h
theorem opN_t {c : List Int} {o : List Bool} {q : Kwn} {n : Nat} (h : (opN c o q n).getD (Int.toNat (c.getD (0 + Int.toNat (n : Int) * 1) 0) * 1) false = true) : opN c o q (n + 1) = (opN c o q n).set (Int.toNat (c.getD (0 + Int.toNat (n : Int) * 1) 0) * 1) true := by rw [opN, h]; rfl
theorem opN_f {c : List Int} {o : List Bool} {q : Kwn} {n : Nat} (h : (opN c o q n).getD (Int.toNat (c.getD (0 + Int.toNat (n : Int) * 1) 0) * 1) false = false) : opN c o q (n + 1) = (opN c o q n).set (Int.toNat (c.getD (0 + Int.toNat (n : Int) * 1) 0) * 1) (o.getD (0 + Int.toNat (n : Int) * 1) false) := by rw [opN, h]; rfl
theorem foldl_take {α β : Type} (f : β → α → β) (z : β) {l : List α} {i : Nat} {x : α} (h : l[i]? = some x) : (l.take (i + 1)).foldl f z = f ((l.take i).foldl f z) x := by
  rw [List.take_succ, h, List.foldl_append]; rfl
theorem foldl_ok {s : Smp} {b : Int} (l : List (List Int)) : KnOk (l.foldl (askU s b) kn0) := by
  have : ∀ (l : List (List Int)) (q : Kwn), KnOk q → KnOk (l.foldl (askU s b) q) := fun l => by
    induction l with
    | nil => intro q h; exact h
    | cons c l ih => intro q h; exact ih _ (askU_ok h)
  exact this l kn0 ⟨rfl, rfl⟩
set_option maxHeartbeats 4000000 in
theorem ask_c (s : Smp) (hf : Few s) (hv : VSm s) (b : Int) (tv pv gv : Value) (w : World) (hr : RdSm w s tv pv gv) : CnV Tryz.prog 88 #[smV s tv pv gv, vi b] w (.agg (knL (askF s b)).toArray) := by
  have hr0 := hr
  have hl0 := hv.l0
  have hl9 := hv.l9
  have hp4 := hv.p4
  refine cnv (vs := [_, _]) Tryz.func88 rfl rfl ?_
  all_goals refine tc_seq fun K1 hK1 => ?_; refine tc_region ?_; refine tl_e (e_box rfl rfl rfl) rfl (fun b2 _ => ?_); refine tl_e (e_box rfl rfl rfl) rfl (fun b3 _ => ?_); refine tl_e (e_allocN rfl) rfl (fun b4 _ => ?_); refine tl_nil ?_; ((refine hK1 ?_; try (clear hK1; clear K1)))
  all_goals refine tc_seq fun K2 hK2 => ?_; refine tc_seq fun K3 hK3 => ?_; refine tc_region ?_; refine tl_q (y_loadW rfl (by repeat constructor) (by rfl)) rfl ?_; refine tl_q (y_load1 rfl (by repeat constructor) (by rfl)) rfl ?_; refine tl_e (e_callN rfl (.cons rfl (.cons rfl .nil)) (fun w' hw' => chains_c s b tv pv gv w')) rfl (fun tq htq => ?_); refine tl_nil ?_; ((refine hK3 ?_; try (clear hK3; clear K3)))
  all_goals refine tc_block ?_
  all_goals (
   refine tc_lay [(b4, knO kn0)] SB.s (fun wl1 hl1 => ?_)
   have hn : tq.1 ∉ [b4] ∧ tq.2 ∉ [b4] ∧ b3 ∉ [b4] ∧ b2 ∉ [b4] := by have := hl1.nodup; simp at this ⊢; omega
   have hb4 : w.heap.size ≤ b4 := (hl1.own _ (HM.mem (b := b4) (by repeat constructor)) (w, []) (by simp)).resolve_left (by simp)
   refine tc_rangeU (α := List Int) (σ := Kwn) (gf := 133) (lb := #[ptr tq.1, ptr tq.2]) (enc := encC) (chainsL s b) [b4] (fun q => [(b4, knO q)]) (fun i q => q = ((chainsL s b).take i).foldl (askU s b) kn0) (fun _ _ => False) kn0 rfl rfl (fun _ => rfl) rfl (fun q hq => by obtain rfl := List.mem_singleton.1 hq; simp) (fun w' h => h) (fun w' hw' => ?hseq) ?_ ?_ ?_
   case hseq =>
     have f3 := hw'.fr (w0 := wl1) (S := [b4]) MI.m
     exact chains_seq s hf hv b tv pv gv w' tq.1 tq.2 _ (f3.keepS hn.1 (hl1.at (by repeat constructor))) hn.1 (f3.keepS hn.2.1 (hl1.at (by repeat constructor))) hn.2.1 (fun w'' f => hr0.fr ((hw'.fr (w0 := w) (S := []) MI.m).trans f (fun x hx => .inr (by obtain rfl := List.mem_singleton.1 hx; exact hb4))))
   · intro lr R0 R1 i q c w2 hx hI K hK
     have hco := chainsL_ok hv (List.mem_of_getElem? hx)
     have hcl := hco.len
     have hqk : KnOk q := by rw [hI]; exact foldl_ok _
     all_goals refine tc_region ?_; refine tl_e (e_allocN rfl) rfl (fun b5 _ => ?_); refine tl_e (e_storeW rfl rfl (by repeat constructor) (by rw [isV_size, hcl]) (by rfl) (isV_one _)) rfl (fun _ _ => ?_); refine tl_nil ?_; refine hK (by repeat constructor) ?_; clear hK
     all_goals refine tc_block ?_; refine tc_seq fun K4 hK4 => ?_; refine tc_region ?_; refine tl_q (y_loadNo (n := 7) (vs := [vi s.B, vi s.P, vi s.L, vi s.F, tv, pv, gv]) rfl (fun w' hw' => (CA_whole (c := #[vi s.B, vi s.P, vi s.L, vi s.F, tv, pv, gv]) (t := 36) (f := (0, 0)) rfl).cells ((hw'.fr (w0 := wl1) (S := [b4]) MI.m).keepS hn.2.2.2 (hl1.at (b := b2) (by repeat constructor))))) rfl ?_; refine tl_q (y_load1o (v := vi b) rfl (fun w' hw' => cell0 ((hw'.fr (w0 := wl1) (S := [b4]) MI.m).keepS hn.2.2.1 (hl1.at (b := b3) (by repeat constructor))) rfl)) rfl ?_; refine tl_q (y_loadW rfl (by repeat constructor) (by rw [isV_size, hcl])) rfl ?_; (refine tl_e (e_callX rfl (.cons rfl (.cons rfl (.cons rfl .nil))) (fun w' hw' => (work_c s hf hv b c hco tv pv gv w' (hr0.fr (hw'.fr (w0 := w) (S := []) MI.m))).weak (p' := fun y w2 => Wd w2 s tv pv gv b c y.1 y.2.1 y.2.2.1 y.2.2.2 ∧ y.1 ∉ [b5, lr, b4] ∧ y.2.1 ∉ [b5, lr, b4]) (fun y w2 _ h => ⟨⟨h.1.1, h.1.2.1, h.1.2.2.1, h.1.2.2.2⟩, by have h2 := hw'.lt (HM.mem (b := b5) (by repeat constructor)); have h3 := hw'.lt (HM.mem (b := b4) (by repeat constructor)); have h4 := hw'.lt (HM.mem (b := lr) (by repeat constructor)); have h5 := h.2; simp only [List.mem_cons, List.not_mem_nil, or_false]; omega⟩))) rfl (fun y hy => ?_))
     all_goals refine tl_q (y_assign rfl) rfl ?_; refine tl_nil ?_; ((refine hK4 ?_; try (clear hK4; clear K4)))
     all_goals refine tc_seq fun K5 hK5 => ?_; refine tc_seq fun K6 hK6 => ?_; (have hWd : ∀ w', Fr [b5, lr, b4] y.2 w' → Fr [] w w' → Wd w' s tv pv gv b c y.1.1 y.1.2.1 y.1.2.2.1 y.1.2.2.2 := fun w' f f0 => ⟨⟨f.keepS hy.1.2.1 hy.1.1.wk.hw, hr0.fr f0⟩, f.keepS hy.1.2.2 hy.1.1.hm, hy.1.1.kb, hy.1.1.fb⟩)
     all_goals refine tc_region ?_; refine tl_q (y_move rfl) rfl ?_; refine tl_e (e_callV rfl (.cons rfl .nil) (fun w' hw' => can_c s hv.l0 b c hcl tv pv gv y.1.1 y.1.2.1 y.1.2.2.1 y.1.2.2.2 w' (hWd w' (hw'.fr (w0 := y.2) (S := [b5, lr, b4]) MI.m) (hw'.fr (w0 := w) (S := []) MI.m)))) rfl (fun _ _ => ?_); refine tl_q (y_not rfl) rfl ?_; refine tl_nil ?_; ((refine hK6 ?_; try (clear hK6; clear K6)))
     all_goals (
      refine tc_cond rfl (fun hc => ?_) (fun hc => ?_)
      · try simp only [qn1, qn2, qn3, qn4, qn5, qn6, qn7, qn8] at hc
        all_goals refine tc_exit ?_
        all_goals (
         repeat (refine tk_ib ?_)
         have hfold := foldl_take (askU s b) kn0 hx
         rw [← hI] at hfold
         first
         | (have hcy' := hcy
            first
            | (have hls' := hls
               have hu : askU s b q c = ⟨hlN c q (s.L + 1).toNat, opN c (opnL s b c) q (s.L + 1).toNat, lsN s b c, true⟩ := by unfold askU; rw [if_pos hcy', if_neg hls']
               rw [hu] at hfold
               exact tk_rq (Jx := fun _ _ => False) ⟨hlN c q (s.L + 1).toNat, opN c (opnL s b c) q (s.L + 1).toNat, lsN s b c, true⟩ hfold.symm (fun _ h => h.subl SB.s SB.s))
            | (have hns : q.sm = true ∧ ¬ lsN s b c < q.least := ⟨by assumption, by unfold lsN; omega⟩
               have hu : askU s b q c = ⟨hlN c q (s.L + 1).toNat, opN c (opnL s b c) q (s.L + 1).toNat, q.least, true⟩ := by unfold askU; rw [if_pos hcy', if_pos hns]
               rw [hu] at hfold
               exact tk_rq (Jx := fun _ _ => False) ⟨hlN c q (s.L + 1).toNat, opN c (opnL s b c) q (s.L + 1).toNat, q.least, true⟩ hfold.symm (fun _ h => h.subl SB.s SB.s)))
         | (have hu : askU s b q c = q := by unfold askU; rw [if_neg (by rw [hc]; exact Bool.false_ne_true)]
            rw [hu] at hfold
            exact tk_rq (Jx := fun _ _ => False) q hfold.symm (fun _ h => h.subl SB.s SB.s)))
      · try simp only [qn1, qn2, qn3, qn4, qn5, qn6, qn7, qn8] at hc
        all_goals refine tc_skip ?_; ((refine hK5 ?_; try (clear hK5; clear K5)))
        all_goals refine tc_seq fun K7 hK7 => ?_; have hcy := hc
        all_goals refine tc_region ?_; refine tl_q (y_move rfl) rfl ?_; refine tl_e (e_callV rfl (.cons rfl .nil) (fun w' hw' => open_c s hf hv b c hco tv pv gv y.1.1 y.1.2.1 y.1.2.2.1 y.1.2.2.2 w' (hWd w' (hw'.fr (w0 := y.2) (S := [b5, lr, b4]) MI.m) (hw'.fr (w0 := w) (S := []) MI.m)))) rfl (fun _ _ => ?_); refine tl_e (e_allocN rfl) rfl (fun b7 _ => ?_); refine tl_e (e_storeW rfl rfl (by repeat constructor) (by rw [bsV_size, outN_len]) (by rfl) (bsV_one _)) rfl (fun _ _ => ?_); refine tl_nil ?_; ((refine hK7 ?_; try (clear hK7; clear K7)))
        all_goals refine tc_seq fun K8 hK8 => ?_; refine tc_seq fun K9 hK9 => ?_; refine tc_region ?_; refine tl_q (y_field rfl) rfl ?_; refine tl_q (y_load1o (v := vi s.L) rfl (fun w' hw' => cell0 ((hw'.fr (w0 := wl1) (S := [b4]) MI.m).keepS hn.2.2.2 (hl1.at (b := b2) (by repeat constructor))) rfl)) rfl ?_; refine tl_q (y_add rfl rfl (by omega)) rfl ?_; refine tl_q (y_move rfl) rfl ?_; refine tl_nil ?_; ((refine hK9 ?_; try (clear hK9; clear K9)))
        all_goals refine tc_block ?_
        all_goals (
         refine tc_loop (fun h : Nat => (h : Int) ≤ s.L + 1) (fun h => [(4, ptr b4), (5, ptr b5), (6, ptr y.1.1), (7, ptr b7), (25, vi (s.L + 1)), (26, vi h)]) (fun _ => [(y.2, [b5, lr, b4]), (w2, [lr, b4]), (wl1, [b4]), (w, [])]) (fun h => [(b7, .cells (bsV (opnL s b c)) 156 (0, 0)), (b5, .cells (isV c) 124 (0, 0)), (lr, R1), (b4, knO (kqN s b c q h))]) (fun h => (s.L + 1).toNat - h) ?_ ?_
         · exact tk_start 0 (by omega) (.cons rfl (.cons rfl (.cons rfl (.cons rfl (.cons rfl (.cons rfl .nil)))))) (fun _ h => h.subl SB.s SB.s)
         · rintro h hh
           have hko := kqN_ok (s := s) (b := b) (c := c) hqk h
           all_goals refine tc_seq fun K10 hK10 => ?_; refine tc_region ?_; refine tl_q (y_lss rfl rfl) rfl ?_; refine tl_nil ?_; ((refine hK10 ?_; try (clear hK10; clear K10)))
           all_goals refine tc_seq fun K11 hK11 => ?_
           all_goals (
            refine tc_cond rfl (fun hc => ?_) (fun hc => ?_)
            · try simp only [qn1, qn2, qn3, qn4, qn5, qn6, qn7, qn8] at hc
              all_goals refine tc_skip ?_; ((refine hK11 ?_; try (clear hK11; clear K11)))
              all_goals refine tc_seq fun K12 hK12 => ?_; refine tc_block ?_; refine tc_seq fun K13 hK13 => ?_; refine tc_region ?_; refine tl_q (y_move rfl) rfl ?_; refine tl_q (y_assign rfl) rfl ?_; refine tl_nil ?_; ((refine hK13 ?_; try (clear hK13; clear K13)))
              all_goals refine tc_seq fun K14 hK14 => ?_; ((have hch := hco.pp h (by omega); rw [show h = 0 + Int.toNat (h : Int) * 1 from by omega] at hch))
              all_goals refine tc_draw (by kernel_rfl) ?_; refine tx_p 0 rfl (by kernel_rfl) (y_move rfl) rfl (fun _ _ _ h => h) (fun _ h => h) ?_; refine tx_p 1 rfl (by kernel_rfl) (y_move rfl) rfl (fun _ _ _ h => h) (fun _ h => h) ?_; refine tx_p 2 rfl (by kernel_rfl) (y_indexA rfl rfl (by omega)) rfl (fun _ _ _ h => h) (fun _ h => h) ?_; refine tx_q 3 rfl (by kernel_rfl) (y_load1 (v := vi (c.getD (0 + Int.toNat (h : Int) * 1) 0)) rfl (by repeat constructor) (cellAt_is (by omega))) rfl (fun _ _ _ h => h) (fun _ h => h) ?_; refine tx_p 4 rfl (by kernel_rfl) (y_field rfl) rfl (fun _ _ _ h => h) (fun _ h => h) ?_; refine tx_p 5 rfl (by kernel_rfl) (y_indexA rfl rfl (by omega)) rfl (fun _ _ _ h => h) (fun _ h => h) ?_; refine tx_p 6 rfl (by kernel_rfl) (y_indexA rfl rfl (by omega)) rfl (fun _ _ _ h => h) (fun _ h => h) ?_; refine tx_e 7 rfl (by kernel_rfl) rfl (e_storeKh (q := kqN s b c q h) hko (by omega) rfl rfl (by repeat constructor)) (.inl (by kernel_rfl)) (fun _ _ => ?_); refine tx_done (by kernel_rfl) ?_; ((refine hK14 ?_; try (clear hK14; clear K14)))
              all_goals refine tc_drawS ([(b7, .cells (bsV (opnL s b c)) 156 (0, 0)), (b5, .cells (isV c) 124 (0, 0))]) (by kernel_rfl) ?_; refine tx_p 0 rfl (by kernel_rfl) (y_move rfl) rfl (fun _ _ _ h => h) (fun _ h => h.subl SB.s SB.s) ?_; refine tx_p 1 rfl (by kernel_rfl) (y_indexA rfl rfl (by omega)) rfl (fun _ _ _ h => h) (fun _ h => h.subl SB.s SB.s) ?_; refine tx_qS 2 rfl (by kernel_rfl) (y_load1 (v := vi (c.getD (0 + Int.toNat (h : Int) * 1) 0)) rfl (by repeat constructor) (cellAt_is (by omega))) rfl (fun _ _ _ h => h) (fun _ h => h.subl SB.s SB.s) ?_; refine tx_p 3 rfl (by kernel_rfl) (y_move rfl) rfl (fun _ _ _ h => h) (fun _ h => h.subl SB.s SB.s) ?_; refine tx_p 4 rfl (by kernel_rfl) (y_indexA rfl rfl (by omega)) rfl (fun _ _ _ h => h) (fun _ h => h.subl SB.s SB.s) ?_; refine tx_qS 5 rfl (by kernel_rfl) (y_load1 (v := vi (c.getD (0 + Int.toNat (h : Int) * 1) 0)) rfl (by repeat constructor) (cellAt_is (by omega))) rfl (fun _ _ _ h => h) (fun _ h => h.subl SB.s SB.s) ?_; refine tx_p 6 rfl (by kernel_rfl) (y_field rfl) rfl (fun _ _ _ h => h) (fun _ h => h.subl SB.s SB.s) ?_; refine tx_p 7 rfl (by kernel_rfl) (y_indexA rfl rfl (by omega)) rfl (fun _ _ _ h => h) (fun _ h => h.subl SB.s SB.s) ?_; refine tx_p 14 rfl (by kernel_rfl) (y_field rfl) rfl (fun _ _ _ h => h) (fun _ h => h.subl SB.s SB.s) ?_; refine tx_single 8 (by kernel_rfl) (to_e rfl rfl (e_y rfl (y_load1 (v := .bool ((kqN s b c q h).opn.getD (Int.toNat (c.getD (0 + Int.toNat (h : Int) * 1) 0) * 1) false)) rfl (by repeat constructor) (cellK_o (q := { kqN s b c q h with hol := hlN c q (h + 1) }) ⟨(kqN_ok (s := s) (b := b) hqk (h + 1)).h, hko.o⟩ (by omega)))) (.inr ⟨fun _ _ h => h.subl SB.s SB.s, fun _ h => h⟩) (fun _ _ => ?_)); refine tx_p 9 rfl (by kernel_rfl) (y_move rfl) rfl (fun _ _ _ h => h) (fun _ h => h.subl SB.s SB.s) ?_; ((refine tx_gs 45 rfl (fun hc => ?_) (fun hc => ?_) <;> (try simp only [qn1, qn2, qn3, qn4, qn5, qn6, qn7, qn8] at hc) <;> (first | refine tx_sk 10 rfl (by kernel_rfl) rfl rfl rfl rfl (fun _ _ _ h => h) (fun _ h => h.subl SB.s SB.s) ?_ | refine tx_pg 10 rfl (by kernel_rfl) rfl rfl (y_move rfl) rfl (fun _ _ _ h => h) (fun _ h => h.subl SB.s SB.s) ?_)))
              all_goals (first | refine tx_sk 11 rfl (by kernel_rfl) rfl rfl rfl rfl (fun _ _ _ h => h) (fun _ h => h.subl SB.s SB.s) ?_ | refine tx_pg 11 rfl (by kernel_rfl) rfl rfl (y_indexA rfl rfl (by omega)) rfl (fun _ _ _ h => h) (fun _ h => h.subl SB.s SB.s) ?_); ((first | refine tx_sk 12 rfl (by kernel_rfl) rfl rfl rfl rfl (fun _ _ _ h => h) (fun _ h => h.subl SB.s SB.s) ?_ | refine tx_qg 12 rfl (by kernel_rfl) rfl rfl (y_load1 (v := .bool ((opnL s b c).getD (0 + Int.toNat (h : Int) * 1) false)) rfl (by repeat constructor) (cellAt_bs (by rw [outN_len]; omega))) rfl (fun _ _ _ h => h) (fun _ h => h.subl SB.s SB.s) ?_))
              all_goals (first | refine tx_p 13 rfl (by kernel_rfl) (y_pick_t rfl rfl) rfl (fun _ _ _ h => h) (fun _ h => h.subl SB.s SB.s) ?_ | refine tx_p 13 rfl (by kernel_rfl) (y_pick_f rfl rfl) rfl (fun _ _ _ h => h) (fun _ h => h.subl SB.s SB.s) ?_); refine tx_p 15 rfl (by kernel_rfl) (y_indexA rfl rfl (by omega)) rfl (fun _ _ _ h => h) (fun _ h => h.subl SB.s SB.s) ?_; refine tx_single 16 (by kernel_rfl) (to_e (S' := HG [] []) rfl rfl (e_storeKo (q := { kqN s b c q h with hol := hlN c q (h + 1) }) (i := Int.toNat (c.getD (0 + Int.toNat (h : Int) * 1) 0) * 1) ⟨(kqN_ok (s := s) (b := b) hqk (h + 1)).h, hko.o⟩ (by omega) rfl rfl (by repeat constructor)) (.inl (by kernel_rfl)) (fun _ _ => ?_)); refine tx_done (by kernel_rfl) ?_; have hcv := hc
              all_goals ((refine hK12 ?_; try (clear hK12; clear K12)))
              all_goals refine tc_region ?_; refine tl_q (y_add rfl rfl (by omega)) rfl ?_; refine tl_q (y_move rfl) rfl ?_; refine tl_nil ?_
              all_goals (
               first
               | have ho := opN_t hcv
               | have ho := opN_f hcv
               exact tk_round (h + 1) (by omega) (by omega) (.cons rfl (.cons rfl (.cons rfl (.cons rfl (.cons rfl (.cons rfl .nil)))))) (fun _ hg => by unfold kqN; rw [ho]; exact hg.subl SB.s SB.s))
            · try simp only [qn1, qn2, qn3, qn4, qn5, qn6, qn7, qn8] at hc
              all_goals refine tc_exit ?_; ((refine hK8 ?_; try (clear hK8; clear K8)))
              all_goals refine tc_seq fun K15 hK15 => ?_; (obtain rfl : h = (s.L + 1).toNat := by omega)
              all_goals (have hko2 := hko)
              all_goals refine tc_draw (by kernel_rfl) ?_; refine tx_p 0 rfl (by kernel_rfl) (y_move rfl) rfl (fun _ _ _ h => h) (fun _ h => h) ?_; refine tx_p 1 rfl (by kernel_rfl) (y_nil rfl) rfl (fun _ _ _ h => h) (fun _ h => h) ?_; refine tx_p 2 rfl (by kernel_rfl) (y_field rfl) rfl (fun _ _ _ h => h) (fun _ h => h) ?_; refine tx_q 3 rfl (by kernel_rfl) (y_load1o (v := .map (some y.1.2.1)) rfl (fun w' hw' => wk_map (hWd w' (hw'.fr (w0 := y.2) (S := [b5, lr, b4]) MI.m) (hw'.fr (w0 := w) (S := []) MI.m)).wk.hw hcl)) rfl (fun _ _ _ h => h) (fun _ h => h) ?_; refine tx_p 4 rfl (by kernel_rfl) (y_move rfl) rfl (fun _ _ _ h => h) (fun _ h => h) ?_; refine tx_e 5 rfl (by kernel_rfl) rfl (e_callV rfl (.cons rfl .nil) (fun w' _ => begin_c y.1.1 w')) (.inr fun _ _ h => h) (fun _ _ => ?_); refine tx_q 6 rfl (by kernel_rfl) (y_lookupB1o rfl rfl (fun w' hw' => (hWd w' (hw'.fr (w0 := y.2) (S := [b5, lr, b4]) MI.m) (hw'.fr (w0 := w) (S := []) MI.m)).hm) hy.1.1.kb ((hy.1.1.fb _ _).trans (restM_ini hl0 false))) rfl (fun _ _ _ h => h) (fun _ h => h) ?_; refine tx_p 7 rfl (by kernel_rfl) (y_assign rfl) rfl (fun _ _ _ h => h) (fun _ h => h) ?_; refine tx_done (by kernel_rfl) ?_; ((refine hK15 ?_; try (clear hK15; clear K15)))
              all_goals refine tc_seq fun K16 hK16 => ?_; refine tc_seq fun K17 hK17 => ?_; refine tc_region ?_; refine tl_q (y_field rfl) rfl ?_; refine tl_q (y_load1 (v := .bool q.sm) rfl (by repeat constructor) (cellK_s (q := kqN s b c q (s.L + 1).toNat) hko2)) rfl ?_; refine tl_q (y_not rfl) rfl ?_; refine tl_q (y_move rfl) rfl ?_; ((refine tl_gs rfl rfl (fun hc => ?_) (fun hc => ?_) <;> (try simp only [qn1, qn2, qn3, qn4, qn5, qn6, qn7, qn8] at hc) <;> (first | refine tl_sk rfl rfl rfl rfl ?_ | refine tl_qg rfl rfl (y_move rfl) rfl ?_)))
              all_goals (first | refine tl_sk rfl rfl rfl rfl ?_ | refine tl_qg rfl rfl (y_field rfl) rfl ?_); (first | refine tl_sk rfl rfl rfl rfl ?_ | refine tl_qg rfl rfl (y_load1 (v := vi q.least) rfl (by repeat constructor) (cellK_l (q := kqN s b c q (s.L + 1).toNat) hko2)) rfl ?_); (first | refine tl_sk rfl rfl rfl rfl ?_ | refine tl_qg rfl rfl (y_lss rfl rfl) rfl ?_); (first | refine tl_q (y_pick_t rfl rfl) rfl ?_ | refine tl_q (y_pick_f rfl rfl) rfl ?_); refine tl_nil ?_; ((refine hK17 ?_; try (clear hK17; clear K17)))
              all_goals (
               refine tc_cond rfl (fun hc => ?_) (fun hc => ?_)
               · try simp only [qn1, qn2, qn3, qn4, qn5, qn6, qn7, qn8] at hc
                 all_goals (have hls : ¬ (q.sm = true ∧ ¬ lsN s b c < q.least) := by
                              rintro ⟨h1, h2⟩
                              first
                              | exact h2 hc
                              | simp_all)
                 all_goals refine tc_region ?_; refine tl_q (y_move rfl) rfl ?_; refine tl_q (y_field rfl) rfl ?_; refine tl_e (e_storeKl (q := kqN s b c q (s.L + 1).toNat) hko2 rfl rfl (by repeat constructor)) rfl (fun _ _ => ?_); refine tl_nil ?_; ((refine hK16 ?_; try (clear hK16; clear K16)))
                 all_goals refine tc_region ?_; refine tl_q (y_field rfl) rfl ?_; refine tl_e (e_storeKs (q := { kqN s b c q (s.L + 1).toNat with least := lsN s b c }) ⟨hko2.h, hko2.o⟩ rfl rfl (by repeat constructor)) rfl (fun _ _ => ?_); refine tl_nil ?_
                 all_goals (
                  repeat (refine tk_ib ?_)
                  have hfold := foldl_take (askU s b) kn0 hx
                  rw [← hI] at hfold
                  first
                  | (have hcy' := hcy
                     first
                     | (have hls' := hls
                        have hu : askU s b q c = ⟨hlN c q (s.L + 1).toNat, opN c (opnL s b c) q (s.L + 1).toNat, lsN s b c, true⟩ := by unfold askU; rw [if_pos hcy', if_neg hls']
                        rw [hu] at hfold
                        exact tk_rq (Jx := fun _ _ => False) ⟨hlN c q (s.L + 1).toNat, opN c (opnL s b c) q (s.L + 1).toNat, lsN s b c, true⟩ hfold.symm (fun _ h => h.subl SB.s SB.s))
                     | (have hns : q.sm = true ∧ ¬ lsN s b c < q.least := ⟨by assumption, by unfold lsN; omega⟩
                        have hu : askU s b q c = ⟨hlN c q (s.L + 1).toNat, opN c (opnL s b c) q (s.L + 1).toNat, q.least, true⟩ := by unfold askU; rw [if_pos hcy', if_pos hns]
                        rw [hu] at hfold
                        exact tk_rq (Jx := fun _ _ => False) ⟨hlN c q (s.L + 1).toNat, opN c (opnL s b c) q (s.L + 1).toNat, q.least, true⟩ hfold.symm (fun _ h => h.subl SB.s SB.s)))
                  | (have hu : askU s b q c = q := by unfold askU; rw [if_neg (by rw [hc]; exact Bool.false_ne_true)]
                     rw [hu] at hfold
                     exact tk_rq (Jx := fun _ _ => False) q hfold.symm (fun _ h => h.subl SB.s SB.s)))
               · try simp only [qn1, qn2, qn3, qn4, qn5, qn6, qn7, qn8] at hc
                 all_goals ((first | (exfalso; with_reducible exact btf hc) | skip))
                 all_goals refine tc_skip ?_; ((refine hK16 ?_; try (clear hK16; clear K16)))
                 all_goals refine tc_region ?_; refine tl_q (y_field rfl) rfl ?_; refine tl_e (e_storeKs (q := kqN s b c q (s.L + 1).toNat) hko2 rfl rfl (by repeat constructor)) rfl (fun _ _ => ?_); refine tl_nil ?_
                 all_goals (
                  repeat (refine tk_ib ?_)
                  have hfold := foldl_take (askU s b) kn0 hx
                  rw [← hI] at hfold
                  first
                  | (have hcy' := hcy
                     first
                     | (have hls' := hls
                        have hu : askU s b q c = ⟨hlN c q (s.L + 1).toNat, opN c (opnL s b c) q (s.L + 1).toNat, lsN s b c, true⟩ := by unfold askU; rw [if_pos hcy', if_neg hls']
                        rw [hu] at hfold
                        exact tk_rq (Jx := fun _ _ => False) ⟨hlN c q (s.L + 1).toNat, opN c (opnL s b c) q (s.L + 1).toNat, lsN s b c, true⟩ hfold.symm (fun _ h => h.subl SB.s SB.s))
                     | (have hns : q.sm = true ∧ ¬ lsN s b c < q.least := ⟨by assumption, by unfold lsN; omega⟩
                        have hu : askU s b q c = ⟨hlN c q (s.L + 1).toNat, opN c (opnL s b c) q (s.L + 1).toNat, q.least, true⟩ := by unfold askU; rw [if_pos hcy', if_pos hns]
                        rw [hu] at hfold
                        exact tk_rq (Jx := fun _ _ => False) ⟨hlN c q (s.L + 1).toNat, opN c (opnL s b c) q (s.L + 1).toNat, q.least, true⟩ hfold.symm (fun _ h => h.subl SB.s SB.s)))
                  | (have hu : askU s b q c = q := by unfold askU; rw [if_neg (by rw [hc]; exact Bool.false_ne_true)]
                     rw [hu] at hfold
                     exact tk_rq (Jx := fun _ _ => False) q hfold.symm (fun _ h => h.subl SB.s SB.s)))))))
   · intro D q hI
     rw [List.take_length] at hI
     all_goals ((refine hK2 ?_; try (clear hK2; clear K2)))
     all_goals refine tc_seq fun K18 hK18 => ?_; ((have hqk2 : KnOk q := by rw [hI]; exact foldl_ok _))
     all_goals refine tc_region ?_; refine tl_q (y_loadW rfl (by repeat constructor) (by rw [List.size_toArray, knL_len hqk2])) rfl ?_; refine tl_e (e_storeW rfl rfl (by repeat constructor) (by rw [List.size_toArray, knL_len hqk2]) (by rw [List.size_toArray, knL_len hqk2]) (knL_one _)) rfl (fun _ _ => ?_); refine tl_nil ?_; ((refine hK18 ?_; try (clear hK18; clear K18)))
     all_goals refine tc_ret ?_; (repeat (first | refine tk_then_ret ?_))
     all_goals (refine tk_retM rfl (by repeat constructor) rfl (.cons (.agg inferInstance rfl (by repeat constructor) (by rw [List.size_toArray, knL_len hqk2])) .nil) ?_)
     all_goals (
      exact fun w' hw' => ⟨by rw [hI]; rfl, hw'.fr (w0 := w) (S := []) MI.m⟩)
   · intro D c v hJ; exact hJ.elim)
end Go.Sp
/-
  Package sample: what is so of all bottles; Holders, Openers, Verdicts, Alike, Least.
-/
namespace Go.Sp
open Go Go.Proofs
theorem askU_sm (s : Smp) (b : Int) (q : Kwn) (c : List Int) : (askU s b q c).sm = (q.sm || canF s b c) := by
  unfold askU
  cases h : canF s b c
  · rw [if_neg Bool.false_ne_true, Bool.or_false]
  · rw [if_pos rfl, Bool.or_true]
theorem askF_sm (s : Smp) (b : Int) : (askF s b).sm = possF s b := by
  have : ∀ (l : List (List Int)) (q : Kwn), (l.foldl (askU s b) q).sm = (q.sm || l.any (canF s b)) := fun l => by
    induction l with
    | nil => intro q; simp
    | cons c l ih => intro q; rw [List.foldl_cons, ih, askU_sm, List.any_cons, Bool.or_assoc]
  unfold askF possF
  rw [this]; rfl
abbrev KwS := { q : Kwn // KnOk q }
def kwE (q : KwS) : List Value := knL q.1
theorem kwE_len (q : KwS) : (kwE q).length = 46 := knL_len q.2
theorem kwE_one (q : KwS) : one' (kwE q) := fun u hu => knL_one q.1 u (by simpa [kwE] using hu)
def askS (s : Smp) (b : Int) : KwS := ⟨askF s b, foldl_ok _⟩
def kw0 : KwS := ⟨kn0, rfl, rfl⟩
def knsN (s : Smp) (n : Nat) : List KwS := (List.range n).map fun (b : Nat) => askS s (b : Int)
theorem knsN_succ (s : Smp) (n : Nat) : knsN s (n + 1) = knsN s n ++ [askS s n] := by simp [knsN, List.range_succ]
theorem knsN_len (s : Smp) (n : Nat) : (knsN s n).length = n := by simp [knsN]
theorem knsN_get {s : Smp} {n i : Nat} (h : i < n) : (knsN s n).getD i kw0 = askS s i := by
  rw [List.getD_eq_getElem?_getD, knsN, List.getElem?_map, List.getElem?_range h]; rfl
def sureE (s : Smp) (fb : Bool) : Int := if ¬ chkS s = 0 then chkS s else if fb = false then 2 else if consF s = false then 9 else 0
def sureL (s : Smp) (e : Int) : List KwS := if e = 0 then knsN s s.B.toNat else []
theorem sureL_0 (s : Smp) : sureL s 0 = knsN s s.B.toNat := if_pos rfl
theorem sureL_n (s : Smp) {e : Int} (h : ¬ e = 0) : sureL s e = [] := if_neg h
set_option maxHeartbeats 1000000 in
theorem sure_c (s : Smp) (hf : Few s) (tv pv gv : Value) (g : FuncId) [GoFn Tryz.prog g] (first cap : Array Value) (fb : Bool) (w : World) (hr : RdSm w s tv pv gv) (hg : VSm s → ∀ w', Fr [] w w' → CnV Tryz.prog g (first ++ (#[] : Array Value) ++ cap) w' (.bool fb)) :
    CnX Tryz.prog 53 #[smV s tv pv gv, .func (.func g) first cap] w [] (fun y : Option Addr × Nat => .tuple #[slV (sureL s (sureE s fb)).length y, vi (sureE s fb)]) (fun y w' => RdS 46 kwE w' (slV (sureL s (sureE s fb)).length y) (sureL s (sureE s fb))) := by
  have hr0 := hr
  refine cnx0 (vs := [_, _]) Tryz.func53 rfl rfl ?_
  all_goals refine tc_seq fun K1 hK1 => ?_
  all_goals refine tc_region ?_
  all_goals refine tl_e (e_box rfl rfl rfl) rfl (fun b2 _ => ?_)
  all_goals refine tl_q (y_assign rfl) rfl ?_
  all_goals refine tl_q (y_assign rfl) rfl ?_
  all_goals refine tl_nil ?_
  all_goals (refine hK1 ?_; try (clear hK1; clear K1))
  all_goals refine tc_seq fun K2 hK2 => ?_
  all_goals refine tc_seq fun K3 hK3 => ?_
  all_goals refine tc_region ?_
  all_goals (first | refine tl_q (y_loadW rfl (by repeat constructor) (by rw [List.size_toArray]; exact kwE_len (askS s k))) rfl ?_ | refine tl_q (y_loadW rfl (by repeat constructor) (by rfl)) rfl ?_ | refine tl_q (y_loadN rfl (by repeat constructor) (by (repeat (first | exact .nil | apply CA.cons rfl)); done)) rfl ?_ | refine tl_q (y_load1 (v := .bool (askF s k).sm) rfl (by repeat constructor) (cellK_s (foldl_ok _))) rfl ?_)
  all_goals refine tl_e (e_callV rfl (.cons rfl .nil) (fun w' hw' => checkSample_c s hf tv pv gv w' (hr0.fr (hw'.fr (w0 := w) (S := []) MI.m)))) rfl (fun _ _ => ?_)
  all_goals refine tl_q (y_assign rfl) rfl ?_
  all_goals refine tl_nil ?_
  all_goals (refine hK3 ?_; try (clear hK3; clear K3))
  all_goals refine tc_block ?_
  all_goals refine tc_seq fun K4 hK4 => ?_
  all_goals refine tc_region ?_
  all_goals refine tl_q (y_move rfl) rfl ?_
  all_goals refine tl_q (y_neq rfl rfl) rfl ?_
  all_goals refine tl_q (y_assign rfl) rfl ?_
  all_goals refine tl_nil ?_
  all_goals (refine hK4 ?_; try (clear hK4; clear K4))
  all_goals (
   refine tc_cond rfl (fun hc => ?_) (fun hc => ?_)
   · try simp only [qn1, qn2, qn3, qn4, qn5, qn6, qn7, qn8] at hc
     all_goals first | (exfalso; with_reducible exact bft hc) | (exfalso; with_reducible exact btf hc) | (exfalso; omega) | skip
     all_goals refine tc_seq fun K5 hK5 => ?_
     all_goals refine tc_region ?_
     all_goals refine tl_q (y_move rfl) rfl ?_
     all_goals refine tl_q (y_assign rfl) rfl ?_
     all_goals refine tl_q (y_assign rfl) rfl ?_
     all_goals refine tl_nil ?_
     all_goals (refine hK5 ?_; try (clear hK5; clear K5))
     all_goals refine tc_ret ?_
     all_goals (repeat (first | refine tk_then_ret ?_ | refine tk_block_ret ?_ | refine tk_scope_ret ?_))
     all_goals first | refine tk_ret rfl rfl (.cons (.tmp rfl) (.cons (.tmp rfl) .nil)) ?_ | refine tk_retM rfl (by repeat constructor) rfl (.cons (.tmp rfl) (.cons (.tmp rfl) .nil)) ?_
     all_goals (
      first
      | (have hE : sureE s fb = chkS s := if_pos (by assumption)
         rw [hE, sureL_n s (by assumption)]
         exact fun w' hw' => ⟨(none, 0), rfl, hw'.fr (w0 := w) (S := []) MI.m, RdS.nil _ _ _ _⟩)
      | (have hE : sureE s fb = 2 := by unfold sureE; rw [if_neg (by omega), if_pos (by assumption)]
         rw [hE, sureL_n s (by decide)]
         exact fun w' hw' => ⟨(none, 0), rfl, hw'.fr (w0 := w) (S := []) MI.m, RdS.nil _ _ _ _⟩)
      | (have hE : sureE s fb = 9 := by
           rw [askF_sm] at hc
           have hco := consF_no (s := s) (k := k) (by omega) hc
           unfold sureE; rw [if_neg (by omega), if_neg (by rw [show fb = true by assumption]; decide), if_pos hco]
         rw [hE, sureL_n s (by decide)]
         exact fun w' hw' => ⟨(none, 0), rfl, hw'.fr (w0 := w) (S := []) MI.m, RdS.nil _ _ _ _⟩)
      | (have hE : sureE s fb = 0 := by
           have hco := consF_yes (s := s) (fun j hj => hpo j (by omega))
           unfold sureE; rw [if_neg (by omega), if_neg (by rw [show fb = true by assumption]; decide), if_neg (by rw [hco]; decide)]
         obtain rfl : k = s.B.toNat := by omega
         rw [hE, sureL_0]
         exact fun w' hw' => ⟨ouA oo, rfl, hw'.fr (w0 := w) (S := []) MI.m, RdS.ofO kwE_len hok hw' (by repeat constructor)⟩))
   · try simp only [qn1, qn2, qn3, qn4, qn5, qn6, qn7, qn8] at hc
     all_goals first | (exfalso; with_reducible exact bft hc) | (exfalso; with_reducible exact btf hc) | (exfalso; omega) | skip
     all_goals refine tc_seq fun K6 hK6 => ?_
     all_goals (have hv := chkS_0.1 (by omega : chkS s = 0); have hb1 := hv.b1; have hb3 := hv.b3)
     all_goals refine tc_region ?_
     all_goals refine tl_q (y_move rfl) rfl ?_
     all_goals refine tl_e (e_callVf rfl rfl .nil (fun w' hw' => hg hv w' (hw'.fr (w0 := w) (S := []) MI.m))) rfl (fun _ _ => ?_)
     all_goals (first | refine tl_q (y_not_dec rfl) rfl ?_ | refine tl_q (y_not rfl) rfl ?_)
     all_goals refine tl_q (y_assign rfl) rfl ?_
     all_goals refine tl_nil ?_
     all_goals (refine hK6 ?_; try (clear hK6; clear K6))
     all_goals (
      refine tc_cond rfl (fun hc => ?_) (fun hc => ?_)
      · try simp only [qn1, qn2, qn3, qn4, qn5, qn6, qn7, qn8] at hc
        all_goals first | (exfalso; with_reducible exact bft hc) | (exfalso; with_reducible exact btf hc) | (exfalso; omega) | skip
        all_goals refine tc_seq fun K7 hK7 => ?_
        all_goals refine tc_region ?_
        all_goals refine tl_q (y_assign rfl) rfl ?_
        all_goals refine tl_q (y_assign rfl) rfl ?_
        all_goals refine tl_nil ?_
        all_goals (refine hK7 ?_; try (clear hK7; clear K7))
        all_goals refine tc_ret ?_
        all_goals (repeat (first | refine tk_then_ret ?_ | refine tk_block_ret ?_ | refine tk_scope_ret ?_))
        all_goals first | refine tk_ret rfl rfl (.cons (.tmp rfl) (.cons (.tmp rfl) .nil)) ?_ | refine tk_retM rfl (by repeat constructor) rfl (.cons (.tmp rfl) (.cons (.tmp rfl) .nil)) ?_
        all_goals (
         first
         | (have hE : sureE s fb = chkS s := if_pos (by assumption)
            rw [hE, sureL_n s (by assumption)]
            exact fun w' hw' => ⟨(none, 0), rfl, hw'.fr (w0 := w) (S := []) MI.m, RdS.nil _ _ _ _⟩)
         | (have hE : sureE s fb = 2 := by unfold sureE; rw [if_neg (by omega), if_pos (by assumption)]
            rw [hE, sureL_n s (by decide)]
            exact fun w' hw' => ⟨(none, 0), rfl, hw'.fr (w0 := w) (S := []) MI.m, RdS.nil _ _ _ _⟩)
         | (have hE : sureE s fb = 9 := by
              rw [askF_sm] at hc
              have hco := consF_no (s := s) (k := k) (by omega) hc
              unfold sureE; rw [if_neg (by omega), if_neg (by rw [show fb = true by assumption]; decide), if_pos hco]
            rw [hE, sureL_n s (by decide)]
            exact fun w' hw' => ⟨(none, 0), rfl, hw'.fr (w0 := w) (S := []) MI.m, RdS.nil _ _ _ _⟩)
         | (have hE : sureE s fb = 0 := by
              have hco := consF_yes (s := s) (fun j hj => hpo j (by omega))
              unfold sureE; rw [if_neg (by omega), if_neg (by rw [show fb = true by assumption]; decide), if_neg (by rw [hco]; decide)]
            obtain rfl : k = s.B.toNat := by omega
            rw [hE, sureL_0]
            exact fun w' hw' => ⟨ouA oo, rfl, hw'.fr (w0 := w) (S := []) MI.m, RdS.ofO kwE_len hok hw' (by repeat constructor)⟩))
      · try simp only [qn1, qn2, qn3, qn4, qn5, qn6, qn7, qn8] at hc
        all_goals first | (exfalso; with_reducible exact bft hc) | (exfalso; with_reducible exact btf hc) | (exfalso; omega) | skip
        all_goals refine tc_skip ?_
        all_goals (refine hK2 ?_; try (clear hK2; clear K2))
        all_goals refine tc_seq fun K8 hK8 => ?_
        all_goals refine tc_region ?_
        all_goals refine tl_q (y_assign rfl) rfl ?_
        all_goals refine tl_nil ?_
        all_goals (refine hK8 ?_; try (clear hK8; clear K8))
        all_goals refine tc_seq fun K9 hK9 => ?_
        all_goals refine tc_seq fun K10 hK10 => ?_
        all_goals refine tc_region ?_
        all_goals refine tl_q (y_field rfl) rfl ?_
        all_goals (first | refine tl_q (y_load1 rfl (by repeat constructor) (by rfl)) rfl ?_ | refine tl_q (y_load1 (v := .bool (askF s k).sm) rfl (by repeat constructor) (cellK_s (foldl_ok _))) rfl ?_)
        all_goals refine tl_q (y_move rfl) rfl ?_
        all_goals refine tl_nil ?_
        all_goals (refine hK10 ?_; try (clear hK10; clear K10))
        all_goals refine tc_block ?_
        all_goals (
         refine tc_loop (fun p : Nat × OwnB => (p.1 : Int) ≤ s.B ∧ okE 46 (knsN s p.1) p.2 ∧ ∀ j, j < p.1 → possF s (j : Int) = true) (fun p => [(2, ptr b2), (7, ouV (knsN s p.1).length p.2), (21, vi s.B), (22, vi p.1)]) (fun _ => [(w, [])]) (fun p => (b2, smO s tv pv gv) :: slE 101 kwE (knsN s p.1) p.2) (fun p => s.B.toNat - p.1) ?_ ?_
         · exact tk_start (0, none) ⟨by dsimp only; omega, rfl, fun j hj => absurd hj (Nat.not_lt_zero j)⟩ (.cons rfl (.cons rfl (.cons rfl (.cons rfl .nil)))) (fun _ h => by rw [slE_none]; exact h.subl SB.s SB.s)
         · rintro ⟨k, oo⟩ ⟨hk, hok, hpo⟩
           dsimp only at hk hok hpo ⊢
           have hkl := knsN_len s k
           all_goals refine tc_seq fun K11 hK11 => ?_
           all_goals refine tc_region ?_
           all_goals refine tl_q (y_lss rfl rfl) rfl ?_
           all_goals refine tl_nil ?_
           all_goals (refine hK11 ?_; try (clear hK11; clear K11))
           all_goals refine tc_seq fun K12 hK12 => ?_
           all_goals (
            refine tc_cond rfl (fun hc => ?_) (fun hc => ?_)
            · try simp only [qn1, qn2, qn3, qn4, qn5, qn6, qn7, qn8] at hc
              all_goals first | (exfalso; with_reducible exact bft hc) | (exfalso; with_reducible exact btf hc) | (exfalso; omega) | skip
              all_goals refine tc_skip ?_
              all_goals (refine hK12 ?_; try (clear hK12; clear K12))
              all_goals refine tc_seq fun K13 hK13 => ?_
              all_goals refine tc_block ?_
              all_goals refine tc_seq fun K14 hK14 => ?_
              all_goals refine tc_region ?_
              all_goals refine tl_q (y_move rfl) rfl ?_
              all_goals refine tl_q (y_assign rfl) rfl ?_
              all_goals refine tl_nil ?_
              all_goals (refine hK14 ?_; try (clear hK14; clear K14))
              all_goals refine tc_seq fun K15 hK15 => ?_
              all_goals refine tc_region ?_
              all_goals (first | refine tl_q (y_loadW rfl (by repeat constructor) (by rw [List.size_toArray]; exact kwE_len (askS s k))) rfl ?_ | refine tl_q (y_loadW rfl (by repeat constructor) (by rfl)) rfl ?_ | refine tl_q (y_loadN rfl (by repeat constructor) (by (repeat (first | exact .nil | apply CA.cons rfl)); done)) rfl ?_ | refine tl_q (y_load1 (v := .bool (askF s k).sm) rfl (by repeat constructor) (cellK_s (foldl_ok _))) rfl ?_)
              all_goals refine tl_q (y_move rfl) rfl ?_
              all_goals refine tl_e (e_callV rfl (.cons rfl (.cons rfl .nil)) (fun w' hw' => ask_c s hf hv k tv pv gv w' (hr0.fr (hw'.fr (w0 := w) (S := []) MI.m)))) rfl (fun _ _ => ?_)
              all_goals refine tl_e (e_allocN rfl) rfl (fun b9 _ => ?_)
              all_goals refine tl_e (e_storeW rfl rfl (by repeat constructor) (by rw [List.size_toArray]; exact kwE_len (askS s k)) (by rfl) (knL_one _)) rfl (fun _ _ => ?_)
              all_goals refine tl_nil ?_
              all_goals (refine hK15 ?_; try (clear hK15; clear K15))
              all_goals refine tc_seq fun K16 hK16 => ?_
              all_goals refine tc_seq fun K17 hK17 => ?_
              all_goals refine tc_region ?_
              all_goals refine tl_q (y_field rfl) rfl ?_
              all_goals (first | refine tl_q (y_load1 rfl (by repeat constructor) (by rfl)) rfl ?_ | refine tl_q (y_load1 (v := .bool (askF s k).sm) rfl (by repeat constructor) (cellK_s (foldl_ok _))) rfl ?_)
              all_goals (first | refine tl_q (y_not_dec rfl) rfl ?_ | refine tl_q (y_not rfl) rfl ?_)
              all_goals refine tl_nil ?_
              all_goals (refine hK17 ?_; try (clear hK17; clear K17))
              all_goals (
               refine tc_cond rfl (fun hc => ?_) (fun hc => ?_)
               · try simp only [qn1, qn2, qn3, qn4, qn5, qn6, qn7, qn8] at hc
                 all_goals first | (exfalso; with_reducible exact bft hc) | (exfalso; with_reducible exact btf hc) | (exfalso; omega) | skip
                 all_goals refine tc_seq fun K18 hK18 => ?_
                 all_goals refine tc_region ?_
                 all_goals refine tl_q (y_assign rfl) rfl ?_
                 all_goals refine tl_q (y_assign rfl) rfl ?_
                 all_goals refine tl_nil ?_
                 all_goals (refine hK18 ?_; try (clear hK18; clear K18))
                 all_goals refine tc_ret ?_
                 all_goals (repeat (first | refine tk_then_ret ?_ | refine tk_block_ret ?_ | refine tk_scope_ret ?_))
                 all_goals first | refine tk_ret rfl rfl (.cons (.tmp rfl) (.cons (.tmp rfl) .nil)) ?_ | refine tk_retM rfl (by repeat constructor) rfl (.cons (.tmp rfl) (.cons (.tmp rfl) .nil)) ?_
                 all_goals (
                  first
                  | (have hE : sureE s fb = chkS s := if_pos (by assumption)
                     rw [hE, sureL_n s (by assumption)]
                     exact fun w' hw' => ⟨(none, 0), rfl, hw'.fr (w0 := w) (S := []) MI.m, RdS.nil _ _ _ _⟩)
                  | (have hE : sureE s fb = 2 := by unfold sureE; rw [if_neg (by omega), if_pos (by assumption)]
                     rw [hE, sureL_n s (by decide)]
                     exact fun w' hw' => ⟨(none, 0), rfl, hw'.fr (w0 := w) (S := []) MI.m, RdS.nil _ _ _ _⟩)
                  | (have hE : sureE s fb = 9 := by
                       rw [askF_sm] at hc
                       have hco := consF_no (s := s) (k := k) (by omega) hc
                       unfold sureE; rw [if_neg (by omega), if_neg (by rw [show fb = true by assumption]; decide), if_pos hco]
                     rw [hE, sureL_n s (by decide)]
                     exact fun w' hw' => ⟨(none, 0), rfl, hw'.fr (w0 := w) (S := []) MI.m, RdS.nil _ _ _ _⟩)
                  | (have hE : sureE s fb = 0 := by
                       have hco := consF_yes (s := s) (fun j hj => hpo j (by omega))
                       unfold sureE; rw [if_neg (by omega), if_neg (by rw [show fb = true by assumption]; decide), if_neg (by rw [hco]; decide)]
                     obtain rfl : k = s.B.toNat := by omega
                     rw [hE, sureL_0]
                     exact fun w' hw' => ⟨ouA oo, rfl, hw'.fr (w0 := w) (S := []) MI.m, RdS.ofO kwE_len hok hw' (by repeat constructor)⟩))
               · try simp only [qn1, qn2, qn3, qn4, qn5, qn6, qn7, qn8] at hc
                 all_goals first | (exfalso; with_reducible exact bft hc) | (exfalso; with_reducible exact btf hc) | (exfalso; omega) | skip
                 all_goals refine tc_skip ?_
                 all_goals (refine hK16 ?_; try (clear hK16; clear K16))
                 all_goals refine tc_region ?_
                 all_goals refine tl_q (y_move rfl) rfl ?_
                 all_goals (first | refine tl_q (y_loadW rfl (by repeat constructor) (by rw [List.size_toArray]; exact kwE_len (askS s k))) rfl ?_ | refine tl_q (y_loadW rfl (by repeat constructor) (by rfl)) rfl ?_ | refine tl_q (y_loadN rfl (by repeat constructor) (by (repeat (first | exact .nil | apply CA.cons rfl)); done)) rfl ?_ | refine tl_q (y_load1 (v := .bool (askF s k).sm) rfl (by repeat constructor) (cellK_s (foldl_ok _))) rfl ?_)
                 all_goals refine tl_e (e_bsliceG rfl (.agg rfl (kwE_len (askS s k)) .nil) rfl rfl) rfl (fun _ _ => ?_)
                 all_goals refine tl_e (e_appendE (enc := kwE) (xs := knsN s k) (ys := [askS s k]) kwE_len kwE_one rfl rfl rfl hok (fun _ => by repeat constructor) (fun w' hw' => RdS.own0 kwE_len hw' (by repeat constructor)) (by simp only [List.length_cons, List.length_nil]; omega) rfl) rfl (fun oo' hok' => ?_)
                 all_goals refine tl_q (y_assign rfl) rfl ?_
                 all_goals refine tl_nil ?_
                 all_goals (refine hK13 ?_; try (clear hK13; clear K13))
                 all_goals refine tc_region ?_
                 all_goals refine tl_q (y_add rfl rfl (by omega)) rfl ?_
                 all_goals refine tl_q (y_move rfl) rfl ?_
                 all_goals refine tl_nil ?_
                 all_goals (
                  rw [askF_sm] at hc
                  have hs := knsN_succ s k
                  exact tk_round (k + 1, oo') ⟨by dsimp only; omega, by dsimp only; rw [hs]; exact hok', fun j hj' => by rcases Nat.lt_succ_iff_lt_or_eq.1 hj' with h | rfl; exact hpo j h; exact hc⟩ (by dsimp only; omega) (.cons rfl (.cons (by dsimp only; rw [hs]; rfl) (.cons rfl (.cons rfl .nil)))) (fun _ h => by dsimp only; rw [hs]; exact h.subl SB.s SB.s)))
            · try simp only [qn1, qn2, qn3, qn4, qn5, qn6, qn7, qn8] at hc
              all_goals first | (exfalso; with_reducible exact bft hc) | (exfalso; with_reducible exact btf hc) | (exfalso; omega) | skip
              all_goals refine tc_exit ?_
              all_goals (refine hK9 ?_; try (clear hK9; clear K9))
              all_goals refine tc_seq fun K19 hK19 => ?_
              all_goals refine tc_region ?_
              all_goals refine tl_q (y_move rfl) rfl ?_
              all_goals refine tl_q (y_assign rfl) rfl ?_
              all_goals refine tl_q (y_assign rfl) rfl ?_
              all_goals refine tl_nil ?_
              all_goals (refine hK19 ?_; try (clear hK19; clear K19))
              all_goals refine tc_ret ?_
              all_goals (repeat (first | refine tk_then_ret ?_ | refine tk_block_ret ?_ | refine tk_scope_ret ?_))
              all_goals first | refine tk_ret rfl rfl (.cons (.tmp rfl) (.cons (.tmp rfl) .nil)) ?_ | refine tk_retM rfl (by repeat constructor) rfl (.cons (.tmp rfl) (.cons (.tmp rfl) .nil)) ?_
              all_goals (
               first
               | (have hE : sureE s fb = chkS s := if_pos (by assumption)
                  rw [hE, sureL_n s (by assumption)]
                  exact fun w' hw' => ⟨(none, 0), rfl, hw'.fr (w0 := w) (S := []) MI.m, RdS.nil _ _ _ _⟩)
               | (have hE : sureE s fb = 2 := by unfold sureE; rw [if_neg (by omega), if_pos (by assumption)]
                  rw [hE, sureL_n s (by decide)]
                  exact fun w' hw' => ⟨(none, 0), rfl, hw'.fr (w0 := w) (S := []) MI.m, RdS.nil _ _ _ _⟩)
               | (have hE : sureE s fb = 9 := by
                    rw [askF_sm] at hc
                    have hco := consF_no (s := s) (k := k) (by omega) hc
                    unfold sureE; rw [if_neg (by omega), if_neg (by rw [show fb = true by assumption]; decide), if_pos hco]
                  rw [hE, sureL_n s (by decide)]
                  exact fun w' hw' => ⟨(none, 0), rfl, hw'.fr (w0 := w) (S := []) MI.m, RdS.nil _ _ _ _⟩)
               | (have hE : sureE s fb = 0 := by
                    have hco := consF_yes (s := s) (fun j hj => hpo j (by omega))
                    unfold sureE; rw [if_neg (by omega), if_neg (by rw [show fb = true by assumption]; decide), if_neg (by rw [hco]; decide)]
                  obtain rfl : k = s.B.toNat := by omega
                  rw [hE, sureL_0]
                  exact fun w' hw' => ⟨ouA oo, rfl, hw'.fr (w0 := w) (S := []) MI.m, RdS.ofO kwE_len hok hw' (by repeat constructor)⟩))))))
end Go.Sp
