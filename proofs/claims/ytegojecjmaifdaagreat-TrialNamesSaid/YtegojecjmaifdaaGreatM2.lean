
/-
  Package trial: the error of a division, and whether it can be shown.
-/
import Derived.Test.YtegojecjmaifdaaGreatM1
import Derived.Lib.SlicesCompact
set_option linter.unusedVariables false
set_option linter.unusedSimpArgs false
set_option linter.deprecated false
namespace Go.Sp
open Go Go.Proofs
/-- A valid trial. -/
structure VT (t : Tr) : Prop where
  s : VS t.s
  p1 : 1 ≤ t.parts.length
  p3 : t.parts.length ≤ 3
  p0 : t.parts.getD 0 0 = 0
  pq : allS (partQ t) (-1) t.parts = true
  w : 0 ≤ t.worst ∧ t.worst ≤ 3
  l1 : 1 ≤ t.liquids.length
  l3 : t.liquids.length ≤ 3
  lq : t.liquids.all lqB = true
  t6 : t.tests.length ≤ 6
  ts : t.tests.all (tsB t) = true
theorem chkT_0 {t : Tr} : chkT t = 0 ↔ VT t := by
  unfold chkT
  constructor
  · intro h
    split at h
    · omega
    · rename_i h1
      split at h
      · omega
      · rename_i h2
        split at h
        · rename_i h3
          obtain ⟨g1, g2, g3, g4, g5⟩ := h3
          unfold partB at g1
          rw [Bool.and_eq_true] at g1
          have g6 := of_decide_eq_true g1.1
          exact ⟨chkF_valid.1 (by omega), by omega, by omega, g6.2, g1.2, g2, by omega, by omega, g4, by omega, g5⟩
        · omega
  · intro h
    have h0 : chkF t.s = 0 := chkF_valid.2 h.s
    have h1 := h.p1
    have h2 := h.p3
    have h3 := h.l1
    have h4 := h.l3
    have h5 := h.t6
    rw [if_neg (by omega), if_neg (by omega), if_pos]
    refine ⟨?_, h.w, by omega, h.lq, h.ts⟩
    unfold partB
    rw [Bool.and_eq_true]
    exact ⟨decide_eq_true ⟨by omega, h.p0⟩, h.pq⟩
theorem VT.nt {t : Tr} (h : VT t) : NT t := by
  have h1 := h.s.n
  have h2 := h.p3
  have h4 := h.l3
  have h5 := h.t6
  exact ⟨by omega, by omega, by omega, by omega⟩
theorem RdTr.frM {w w' : World} {t : Tr} {sl pl ll tl : Value} {S : List Nat} (h : RdTr w t sl pl ll tl) (f : Fr S w w') (hS : ∀ x ∈ S, ∃ es ck, w.heap[x]? = some (.map es ck)) : RdTr w' t sl pl ll tl :=
  ⟨Reads.frM h.ws f hS, Reads.frM h.ps f hS, Reads.frM h.ls f hS, Reads.frM h.ts f hS⟩
/-- Errors: no other than those that can be. -/
def ErB (e : Int × Int × Int) : Prop := (-3 ≤ e.1 ∧ e.1 ≤ 3) ∧ (-3 ≤ e.2.1 ∧ e.2.1 ≤ 3) ∧ (-3 ≤ e.2.2 ∧ e.2.2 ≤ 3)
def get3 (e : Int × Int × Int) (i : Nat) : Int := if i = 0 then e.1 else if i = 1 then e.2.1 else e.2.2
theorem ErB.get {e : Int × Int × Int} (h : ErB e) (i : Nat) : -3 ≤ get3 e i ∧ get3 e i ≤ 3 := by
  unfold get3
  obtain ⟨h1, h2, h3⟩ := h
  split
  · exact h1
  · split
    · exact h2
    · exact h3
/-- The part in which a division is: the last one that doesn't begin behind it. -/
def ofFrom (ps : List Int) (d : Int) : Nat → Nat
  | 0 => 0
  | n + 1 => if d < ps.getD (n + 1) 0 then ofFrom ps d n else n + 1
def ofF (t : Tr) (e : Int × Int × Int) (d : Int) : Int := get3 e (ofFrom t.parts d (t.parts.length - 1))
theorem ofFrom_succ (ps : List Int) (d : Int) (n : Nat) : ofFrom ps d (n + 1) = if d < ps.getD (n + 1) 0 then ofFrom ps d n else n + 1 := rfl
theorem tk_blk {id : Nat} {Q : Exit → Act → World → Prop} {N : NN} {F : List (Nat × Value)} {bs : List (World × List Nat)} {H : List (Nat × Obj)} (h : TK (Q .normal) N F bs H) : TK (Exit.inBlock id Q .normal) N F bs H := h
theorem tof_c (t : Tr) (hv : VT t) (e : Int × Int × Int) (d : Int) (hd : 0 ≤ d) (sl pl ll tl : Value) (w : World) (hp : RdI w pl t.parts) : CnV Tryz.prog 79 #[trV t sl pl ll tl, tsV e, vi d] w (vi (ofF t e d)) := by
  have h1 := hv.p1
  have h2 := hv.p3
  have h3 := hv.p0
  obtain ⟨ad, cap, b0, o, rfl, had, hcell⟩ := hp.open
  refine cnv (vs := [_, _, _]) Tryz.func79 rfl rfl ?_
  all_goals refine tc_seq fun K1 hK1 => ?_; refine tc_region ?_; refine tl_e (e_box rfl rfl rfl) rfl (fun b3 _ => ?_); refine tl_e (e_box rfl rfl rfl) rfl (fun b4 _ => ?_); refine tl_q (y_assign rfl) rfl ?_; refine tl_nil ?_; ((refine hK1 ?_; try (clear hK1; clear K1)))
  all_goals refine tc_seq fun K2 hK2 => ?_; refine tc_region ?_; refine tl_q (y_field rfl) rfl ?_; refine tl_q (y_load1 rfl (by repeat constructor) (by rfl)) rfl ?_; refine tl_q (y_len rfl) rfl ?_; refine tl_q (y_sub rfl rfl (by omega)) rfl ?_; refine tl_q (y_assign rfl) rfl ?_; refine tl_nil ?_; ((refine hK2 ?_; try (clear hK2; clear K2)))
  all_goals refine tc_seq fun K3 hK3 => ?_; refine tc_block ?_
  all_goals (
   refine tc_loop (fun i : Nat => i < t.parts.length ∧ ofFrom t.parts d i = ofFrom t.parts d (t.parts.length - 1)) (fun i => [(2, vi d), (3, ptr b3), (4, ptr b4), (7, vi i)]) (fun _ => [(w, [])]) (fun _ => [(b4, .cells (tsV e).cells 126 (0, 0)), (b3, .cells (trV t sl (.slice ad t.parts.length cap) ll tl).cells 38 (0, 0))]) (fun i => i) ?_ ?_
   · refine tk_start (t.parts.length - 1) ⟨by omega, rfl⟩ (.cons rfl (.cons rfl (.cons rfl (.cons ?_ .nil)))) (fun _ h => h)
     show some (vi _) = some (vi _); congr 2; omega
   · rintro i ⟨hi, hI⟩
     all_goals refine tc_seq fun K4 hK4 => ?_; refine tc_seq fun K5 hK5 => ?_
     have had' := had (by omega)
     all_goals refine tc_region ?_; refine tl_q (y_field rfl) rfl ?_; refine tl_q (y_load1 rfl (by repeat constructor) (by rfl)) rfl ?_; refine tl_q (y_move rfl) rfl ?_; refine tl_q (y_index rfl rfl (by omega) had') rfl ?_; ((refine tl_q (y_load1o (v := vi (t.parts.getD i 0)) rfl (fun w' hw' => by rw [show Int.toNat (i : Int) * 1 = i from by omega]; exact hcell w' (hw'.fr (by simp)) i (by omega))) rfl ?_))
     all_goals refine tl_q (y_move rfl) rfl ?_; refine tl_q (y_gtr rfl rfl) rfl ?_; refine tl_nil ?_; ((refine hK5 ?_; try (clear hK5; clear K5)))
     all_goals (
      refine tc_cond rfl (fun hc => ?_) (fun hc => ?_)
      · try simp only [qn1, qn2, qn3, qn4, qn5, qn6, qn7, qn8] at hc
        all_goals refine tc_skip ?_; ((refine hK4 ?_; try (clear hK4; clear K4)))
        all_goals refine tc_block ?_; refine tc_region ?_; refine tl_q (y_move rfl) rfl ?_; refine tl_q (y_sub rfl rfl (by omega)) rfl ?_; refine tl_q (y_assign rfl) rfl ?_; refine tl_nil ?_
        all_goals (
         obtain ⟨j, rfl⟩ : ∃ j, i = j + 1 := ⟨i - 1, by by_cases h : i = 0; (subst h; omega); omega⟩
         have hlt : d < t.parts.getD (j + 1) 0 := by omega
         have hj : ofFrom t.parts d j = ofFrom t.parts d (t.parts.length - 1) := by rw [← hI, ofFrom_succ, if_pos hlt]
         refine tk_blk (tk_round j ⟨by omega, hj⟩ (by omega) (.cons rfl (.cons rfl (.cons rfl (.cons ?_ .nil)))) (fun _ h => h))
         show some (vi _) = some (vi _); congr 2; omega)
      · try simp only [qn1, qn2, qn3, qn4, qn5, qn6, qn7, qn8] at hc
        all_goals refine tc_exit ?_; ((refine hK3 ?_; try (clear hK3; clear K3)))
        all_goals refine tc_seq fun K6 hK6 => ?_; ((have hfin : ofFrom t.parts d i = i := by rcases i with _ | i; rfl; rw [ofFrom_succ, if_neg (by omega)]))
        all_goals ((have hof : ofF t e d = get3 e i := by unfold ofF; rw [← hI, hfin]))
        all_goals (rcases (by omega : i = 0 ∨ i = 1 ∨ i = 2) with rfl | rfl | rfl)
        all_goals refine tc_region ?_; refine tl_q (y_move rfl) rfl ?_; refine tl_q (y_indexA rfl rfl (by omega)) rfl ?_; refine tl_q (y_load1 rfl (by repeat constructor) (by rfl)) rfl ?_; refine tl_q (y_assign rfl) rfl ?_; refine tl_nil ?_; ((refine hK6 ?_; try (clear hK6; clear K6)))
        all_goals refine tc_ret ?_; (repeat (first | refine tk_then_ret ?_))
        all_goals (refine tk_ret rfl rfl (.cons (.tmp rfl) .nil) ?_)
        all_goals (
         exact fun w' hw' => ⟨by rw [hof]; rfl, hw'.fr (by simp)⟩)))
end Go.Sp
/-
  Package trial: what can be shown, and whether a test is right.
-/
namespace Go.Sp
open Go Go.Proofs
def canF (t : Tr) (e : Int × Int × Int) (k d x : Int) : Bool := decide ((readT t.s k d).1 ≤ x - ofF t e x ∧ x - ofF t e x ≤ (readT t.s k d).2)
/-- What is known of a trial at work. -/
structure TW (w : World) (t : Tr) (sl pl ll tl : Value) (bw bm : Nat) (es : Array MapEntry) (ck : Nat) : Prop where
  rd : RdTr w t sl pl ll tl
  hw : w.heap[bw]? = some (wkT t sl pl ll tl bm)
  hm : w.heap[bm]? = some (.map es ck)
  hc : Cache (readV t.s) es.toList
  o1 : sl.oneCell' = true
  o2 : pl.oneCell' = true
  o3 : ll.oneCell' = true
  o4 : tl.oneCell' = true
theorem TW.ne {w : World} {t : Tr} {sl pl ll tl : Value} {bw bm : Nat} {es : Array MapEntry} {ck : Nat} (h : TW w t sl pl ll tl bw bm es ck) : bw ≠ bm := by
  rintro rfl
  have h1 := h.hw
  rw [h.hm] at h1; simp at h1
/-- Later, when only the map has turned. -/
theorem TW.fr {w w' : World} {t : Tr} {sl pl ll tl : Value} {bw bm : Nat} {es es' : Array MapEntry} {ck ck' : Nat} (h : TW w t sl pl ll tl bw bm es ck) (f : Fr [bm] w w') (hm : w'.heap[bm]? = some (.map es' ck')) (hc : Cache (readV t.s) es'.toList) : TW w' t sl pl ll tl bw bm es' ck' :=
  ⟨h.rd.frM f (fun x hx => by obtain rfl := List.mem_singleton.1 hx; exact ⟨es, ck, h.hm⟩), f.keepS (by simpa using h.ne) h.hw, hm, hc, h.o1, h.o2, h.o3, h.o4⟩
theorem TW.fr2 {w w' : World} {t : Tr} {sl pl ll tl : Value} {bw bm : Nat} {es es' : Array MapEntry} {ck ck' : Nat} (h : TW w t sl pl ll tl bw bm es ck) (f : Fr [bw, bm] w w') (hw : w'.heap[bw]? = some (wkT t sl pl ll tl bm)) (hm : w'.heap[bm]? = some (.map es' ck')) (hc : Cache (readV t.s) es'.toList) : TW w' t sl pl ll tl bw bm es' ck' :=
  h.fr (Fr.but f (by rw [hw, h.hw])) hm hc
theorem can_c (t : Tr) (hv : VT t) (e : Int × Int × Int) (he : ErB e) (k d x : Int) (hx0 : 0 ≤ x) (hx1 : x ≤ 100) (sl pl ll tl : Value) (w : World) (bw bm : Nat) (es : Array MapEntry) (ck : Nat) (hT : TW w t sl pl ll tl bw bm es ck) :
    CnX Tryz.prog 119 #[ptr bw, tsV e, .agg #[vi k, vi d], vi x] w [bm] (fun _ : Array MapEntry × Nat => .bool (canF t e k d x)) (fun y w' => Cache (readV t.s) y.1.toList ∧ w'.heap[bm]? = some (.map y.1 y.2)) := by
  have hof := ErB.get he (ofFrom t.parts x (t.parts.length - 1))
  have hne := hT.ne
  refine cnxS (vs := [_, _, _, _]) (S := [bw, bm]) [(bw, wkT t sl pl ll tl bm), (bm, .map es ck)] Tryz.func119 rfl rfl ⟨by simp [hT.hw, hT.hm], by simp [hne], by simp⟩ ?_
  all_goals refine tc_seq fun K1 hK1 => ?_
  all_goals refine tc_region ?_
  all_goals refine tl_e (e_box rfl rfl rfl) rfl (fun b5 _ => ?_)
  all_goals refine tl_e (e_box rfl rfl rfl) rfl (fun b6 _ => ?_)
  all_goals refine tl_q (y_assign rfl) rfl ?_
  all_goals refine tl_nil ?_
  all_goals (refine hK1 ?_; try (clear hK1; clear K1))
  all_goals refine tc_seq fun K2 hK2 => ?_
  all_goals refine tc_region ?_
  all_goals refine tl_q (y_move rfl) rfl ?_
  all_goals (first | refine tl_q (y_loadW rfl (by repeat constructor) (by rfl)) rfl ?_ | refine tl_q (y_loadN rfl (by repeat constructor) (by (repeat (first | exact .nil | apply CA.cons rfl)); done)) rfl ?_)
  all_goals refine tl_e (e_callU rfl (.cons rfl (.cons rfl .nil)) (fun w' hw' => tread_c t hv.nt k d sl pl ll tl w' (hT.fr2 (hw'.fr (by simp)) (hw'.heap _ (HM.mem (by repeat constructor))) (hw'.heap _ (HM.mem (b := bm) (by repeat constructor))) hT.hc).rd.ws bw bm es ck (hw'.heap _ (HM.mem (by repeat constructor))) (hw'.heap _ (HM.mem (by repeat constructor))) hT.hc) (fun _ => (by repeat constructor))) rfl (fun y hy => ?_)
  all_goals refine tl_e (e_allocN rfl) rfl (fun b9 _ => ?_)
  all_goals refine tl_e (e_storeW rfl rfl (by repeat constructor) (by rfl) (by rfl) (by simp [Value.oneCell'])) rfl (fun _ _ => ?_)
  all_goals refine tl_nil ?_
  all_goals (refine hK2 ?_; try (clear hK2; clear K2))
  all_goals refine tc_seq fun K3 hK3 => ?_
  all_goals (have hof' : -3 ≤ ofF t e x ∧ ofF t e x ≤ 3 := hof)
  all_goals refine tc_draw (by kernel_rfl) ?_
  all_goals refine tx_p 0 rfl (by kernel_rfl) (y_move rfl) rfl (fun _ _ _ h => h) (fun _ h => h) ?_
  all_goals refine tx_p 1 rfl (by kernel_rfl) (y_move rfl) rfl (fun _ _ _ h => h) (fun _ h => h) ?_
  all_goals refine tx_p 2 rfl (by kernel_rfl) (y_nil rfl) rfl (fun _ _ _ h => h) (fun _ h => h) ?_
  all_goals refine tx_p 3 rfl (by kernel_rfl) (y_field rfl) rfl (fun _ _ _ h => h) (fun _ h => h) ?_
  all_goals (first | refine tx_q 4 rfl (by kernel_rfl) (y_loadW rfl (by repeat constructor) (by rfl)) rfl (fun _ _ _ h => h) (fun _ h => h) ?_ | refine tx_q 4 rfl (by kernel_rfl) (y_loadN rfl (by repeat constructor) (by (repeat (first | exact .nil | apply CA.cons rfl)); done)) rfl (fun _ _ _ h => h) (fun _ h => h) ?_)
  all_goals (first | refine tx_q 5 rfl (by kernel_rfl) (y_loadW rfl (by repeat constructor) (by rfl)) rfl (fun _ _ _ h => h) (fun _ h => h) ?_ | refine tx_q 5 rfl (by kernel_rfl) (y_loadN rfl (by repeat constructor) (by (repeat (first | exact .nil | apply CA.cons rfl)); done)) rfl (fun _ _ _ h => h) (fun _ h => h) ?_)
  all_goals refine tx_p 6 rfl (by kernel_rfl) (y_move rfl) rfl (fun _ _ _ h => h) (fun _ h => h) ?_
  all_goals refine tx_p 9 rfl (by kernel_rfl) (y_field rfl) rfl (fun _ _ _ h => h) (fun _ h => h) ?_
  all_goals refine tx_q 10 rfl (by kernel_rfl) (y_load1 rfl (by repeat constructor) (by rfl)) rfl (fun _ _ _ h => h) (fun _ h => h) ?_
  all_goals refine tx_p 11 rfl (by kernel_rfl) (y_field rfl) rfl (fun _ _ _ h => h) (fun _ h => h) ?_
  all_goals refine tx_q 12 rfl (by kernel_rfl) (y_load1 rfl (by repeat constructor) (by rfl)) rfl (fun _ _ _ h => h) (fun _ h => h) ?_
  all_goals refine tx_e 7 rfl (by kernel_rfl) rfl (e_callV rfl (.cons rfl (.cons rfl (.cons rfl .nil))) (fun w' hw' => tof_c t hv e x hx0 _ _ _ _ w' (hT.fr2 (hw'.fr (by simp)) (hw'.heap _ (HM.mem (by repeat constructor))) (hw'.heap _ (HM.mem (b := bm) (by repeat constructor))) hy).rd.ps)) (.inr fun _ _ h => h) (fun _ _ => ?_)
  all_goals refine tx_p 8 rfl (by kernel_rfl) (y_sub rfl rfl (by omega)) rfl (fun _ _ _ h => h) (fun _ h => h) ?_
  all_goals refine tx_e 13 rfl (by kernel_rfl) rfl (e_callV rfl (.cons rfl (.cons rfl (.cons rfl .nil))) (fun w' _ => twithin_c _ _ _ w')) (.inr fun _ _ h => h) (fun _ _ => ?_)
  all_goals refine tx_p 14 rfl (by kernel_rfl) (y_assign rfl) rfl (fun _ _ _ h => h) (fun _ h => h) ?_
  all_goals refine tx_done (by kernel_rfl) ?_
  all_goals (refine hK3 ?_; try (clear hK3; clear K3))
  all_goals refine tc_ret ?_
  all_goals (repeat (first | refine tk_then_ret ?_ | refine tk_block_ret ?_ | refine tk_scope_ret ?_))
  all_goals first | refine tk_ret rfl rfl (.cons (.tmp rfl) .nil) ?_ | refine tk_retM rfl (by repeat constructor) rfl (.cons (.tmp rfl) .nil) ?_
  all_goals (
   exact fun w' hw' => ⟨y, rfl, Fr.but (hw'.fr (S := [bw, bm]) (by simp)) (by rw [hw'.heap (bw, wkT t sl pl ll tl bm) (HM.mem (by repeat constructor)), hT.hw]), hy, hw'.heap _ (HM.mem (b := bm) (by repeat constructor))⟩)
end Go.Sp
/-
  The loads, Verdicts.
-/
namespace Go.Sp
open Go Go.Proofs
theorem KnS.mem {H : List (Nat × Obj)} {S : List Nat} {w1 : World} (h : KnS H S w1 w1) : ∀ p ∈ H, p.1 ∈ S := fun p hp =>
  (h.own p.1 (List.mem_map.2 ⟨p, hp, rfl⟩)).resolve_right (fun hh => by
    have := h.kn p hp
    rw [Array.getElem?_eq_none hh] at this; cases this)
/-- The slice out of a loop that appends: none yet, or a block of its own. -/
abbrev OutS := Nat × Option (Nat × Nat × List Value)
def outV' : OutS → Value
  | (_, none) => .slice none 0 0
  | (n, some (b, cap, _)) => .slice (some ⟨b, 0, none⟩) n cap
def outOk : OutS → Prop
  | (n, none) => n = 0
  | (n, some (_, cap, junk)) => n ≤ cap ∧ junk.length = cap - n
theorem HG.sw {bs : List (World × List Nat)} {p q : Nat × Obj} {H : List (Nat × Obj)} {w : World} (h : HG bs (p :: q :: H) w) : HG bs (q :: p :: H) w := h.perm (List.Perm.swap _ _ _)
end Go.Sp
/-
  What a load leaves of a range; Best.
-/
namespace Go.Sp
open Go Go.Proofs
end Go.Sp
/-
  Which densities loads cover; Cover, ProveCover.
-/
namespace Go.Sp
open Go Go.Proofs
end Go.Sp
/-
  The reference: what a reading fits, all densities.
-/
namespace Go.Sp
open Go Go.Proofs
end Go.Sp
/-
  The reference: all densities, verdicts, covers, what a load leaves.
-/
namespace Go.Sp
open Go Go.Proofs
end Go.Sp
/-
  The reference: verdicts, covers, what a load leaves, lists.
-/
namespace Go.Sp
open Go Go.Proofs
end Go.Sp
/-
  The reference: lists by bits, which is less; the smallest set, the fewest loads.
-/
namespace Go.Sp
open Go Go.Proofs
/-- The first difference decides. -/
def lexLt : List Int → List Int → Bool
  | [], _ => false
  | _, [] => false
  | x :: xs, y :: ys => if x = y then lexLt xs ys else decide (x < y)
def lessF (a b : List Int) : Bool := if a.length = b.length then lexLt a b else decide (a.length < b.length)
def bitB (b : Int) (i : Nat) : Bool := decide (b / 2 ^ i % 2 = 1)
def bitsN (b : Int) (n : Nat) : List Int := ((List.range n).filter (bitB b)).map fun (i : Nat) => (i : Int)
def bitsL (b : Int) : List Int := bitsN b 16
theorem bitsL_mem {n m : Nat} (h : n < 2 ^ m) {x : Int} (hx : x ∈ bitsL n) : 0 ≤ x ∧ x < m := by
  unfold bitsL bitsN at hx
  obtain ⟨i, hi, rfl⟩ := List.mem_map.1 hx
  have hb := of_decide_eq_true (List.mem_filter.1 hi).2
  refine ⟨by omega, ?_⟩
  rcases Nat.lt_or_ge i m with h1 | h1
  · omega
  · exfalso
    have h2 : (2 : Nat) ^ m ≤ 2 ^ i := Nat.pow_le_pow_right (by decide) h1
    have h3 : (n : Int) / 2 ^ i = 0 := by
      rw [show ((2 : Int) ^ i) = ((2 ^ i : Nat) : Int) from by simp]
      exact Int.ediv_eq_zero_of_lt (by omega) (by omega)
    rw [h3] at hb
    exact absurd hb (by decide)
end Go.Sp
/-
  What the statements are made of: conversions, errors, lists.
-/
namespace Go.Sp
open Go Go.Proofs
abbrev slV (n : Nat) (x : Option Addr × Nat) : Value := .slice x.1 n x.2
/-- The slice's array is newer than w. -/
def NewS (w : World) (v : Value) : Prop := ∀ p m c, v = .slice (some p) m c → w.heap.size ≤ p.block
theorem NewS.nil (w : World) (n c : Nat) : NewS w (.slice none n c) := fun p m c h => by cases h
theorem NewS.own {bs : List (World × List Nat)} {H : List (Nat × Obj)} {w w' : World} {b o n c : Nat} {ob : Obj} (hw : HG bs H w') (hm : HM b ob H) (hb : (w, []) ∈ bs) : NewS w (.slice (some ⟨b, o, none⟩) n c) := fun p m c h => by
  cases h
  exact (hw.own _ hm.mem (w, []) hb).resolve_left (by simp)
theorem CnX.sep {P : Program} {f : FuncId} {args : Array Value} {w : World} {S : List Nat} {α : Type} {val : α → Value} {q : α → World → Prop} {v : α → Value} {bs : List (World × List Nat)} {H : List (Nat × Obj)}
    (h : CnX P f args w S val (fun x w' => q x w' ∧ NewS w (v x))) (hw : HG bs H w) : CnX P f args w S val (fun x w' => q x w' ∧ sepS (v x) (H.map Prod.fst)) :=
  CnX.of (h.out.mono fun e w' he => by
    obtain ⟨x, he, hf, hq, hn⟩ := he
    refine ⟨x, he, hf, hq, fun p m c e hb => ?_⟩
    obtain ⟨a, ha, e2⟩ := List.mem_map.1 hb
    have h1 := hw.lt ha
    have h2 := hn p m c e
    omega)
end Go.Sp
/-
  Package trial: all that can be shown, and whether a test is right.
-/
namespace Go.Sp
open Go Go.Proofs
/-- A call that turns a block that is known, and returns something of which more is known. -/
theorem e_callUX {P : Program} {N : NN} {F : List (Nat × Value)} {bs : List (World × List Nat)} {H : List (Nat × Obj)} {d : Tmp} {ty : TypeId} {pos : String} {after : Array Edge} {g : Option (Nat × Bool)} {f : FuncId} [GoFn P f] {xs : List Operand} {tys : Array TypeId} {vs : List Value} {α : Type} {val : α → Value} {p : α → World → Prop} {b : Nat} {o : Obj} {ob : α → Obj} {H' : α → List (Nat × Obj)}
    (hd : Nat.blt d N.n = true) (hxs : EA F xs vs) (hc : ∀ w, HG bs H w → CnX P f vs.toArray w [b] val (fun x w' => p x w' ∧ w'.heap[b]? = some (ob x))) (hu : ∀ x, HU b o (ob x) H (H' x)) :
    OpE P ⟨some d, .call ⟨.value (.func f), xs.toArray, tys⟩, ty, pos, after, g⟩ N F bs H (fun y : α × World => p y.1 y.2 ∧ HG bs (H' y.1) y.2) (fun y => (d, val y.1) :: F) (fun y => (y.2, (H' y.1).map Prod.fst) :: bs) (fun y => H' y.1) := by
  unfold OpE
  intro a w ht hw K Q hK
  unfold Oper.wp
  rw [exec_call (x := .func f) rfl hxs ht w]
  simp only [Oper.upon]
  simp only [Array.empty_append, Array.append_empty]
  have hcc := hc w hw
  unfold CnX at hcc
  refine hcc.mono fun e w' he => ?_
  obtain ⟨x, rfl, hf, hp, h1⟩ := he
  have hg := hw.callU hf h1 (hu x)
  exact hK (x, w') _ _ ⟨hp, hg⟩ (ht.put hd _) hg.push
def shownN (t : Tr) (e : Int × Int × Int) (k d : Int) (n : Nat) : List Int := ((List.range n).filter fun (x : Nat) => canF t e k d x).map fun (x : Nat) => (x : Int)
theorem shownN_succ (t : Tr) (e : Int × Int × Int) (k d : Int) (n : Nat) : shownN t e k d (n + 1) = if canF t e k d n = true then shownN t e k d n ++ [(n : Int)] else shownN t e k d n := by
  unfold shownN
  rw [List.range_succ, List.filter_append, List.map_append]
  cases h : canF t e k d n <;> simp [h]
theorem shownN_len (t : Tr) (e : Int × Int × Int) (k d : Int) (n : Nat) : (shownN t e k d n).length ≤ n := by
  unfold shownN
  rw [List.length_map]
  exact Nat.le_trans (List.length_filter_le _ _) (by simp)
def shownL (t : Tr) (e : Int × Int × Int) (k d : Int) : List Int := if (shownN t e k d (t.s.divisions + 1).toNat).length = 0 then [-1] else shownN t e k d (t.s.divisions + 1).toNat
theorem shownL_pos (t : Tr) (e : Int × Int × Int) (k d : Int) : 0 < (shownL t e k d).length := by
  unfold shownL
  split
  · simp
  · omega
theorem shown_c (t : Tr) (hv : VT t) (e : Int × Int × Int) (he : ErB e) (k d : Int) (sl pl ll tl : Value) (w : World) (bw bm : Nat) (es : Array MapEntry) (ck : Nat) (hT : TW w t sl pl ll tl bw bm es ck) :
    CnX Tryz.prog 67 #[ptr bw, tsV e, .agg #[vi k, vi d]] w [bm] (fun y : (Option Addr × Nat) × Array MapEntry × Nat => slV (shownL t e k d).length y.1) (fun y w' => (RdI w' (slV (shownL t e k d).length y.1) (shownL t e k d) ∧ Cache (readV t.s) y.2.1.toList) ∧ w'.heap[bm]? = some (.map y.2.1 y.2.2)) := by
  have hne := hT.ne
  have hd1 := hv.s.d1
  have hd2 := hv.s.d2
  refine cnxS (vs := [_, _, _]) (S := [bw, bm]) [(bw, wkT t sl pl ll tl bm), (bm, .map es ck)] Tryz.func67 rfl rfl ⟨by simp [hT.hw, hT.hm], by simp [hne], by simp⟩ ?_
  all_goals refine tc_seq fun K1 hK1 => ?_; refine tc_region ?_; refine tl_e (e_box rfl rfl rfl) rfl (fun b4 _ => ?_); refine tl_e (e_box rfl rfl rfl) rfl (fun b5 _ => ?_); refine tl_q (y_assign rfl) rfl ?_; refine tl_nil ?_; ((refine hK1 ?_; try (clear hK1; clear K1)))
  all_goals refine tc_seq fun K2 hK2 => ?_; refine tc_seq fun K3 hK3 => ?_; refine tc_region ?_; refine tl_q (y_move rfl) rfl ?_; refine tl_q (y_nil rfl) rfl ?_; refine tl_q (y_field rfl) rfl ?_; refine tl_q (y_field rfl) rfl ?_; refine tl_q (y_field rfl) rfl ?_; refine tl_q (y_load1 rfl (by repeat constructor) (by rfl)) rfl ?_; refine tl_q (y_add rfl rfl (by omega)) rfl ?_; refine tl_q (y_move rfl) rfl ?_; refine tl_nil ?_; ((refine hK3 ?_; try (clear hK3; clear K3)))
  all_goals refine tc_block ?_
  all_goals (
   refine tc_loop (fun p : Nat × Option (Nat × Nat × List Value) × Array MapEntry × Nat => p.1 ≤ (t.s.divisions + 1).toNat ∧ outOk ((shownN t e k d p.1).length, p.2.1) ∧ Cache (readV t.s) p.2.2.1.toList ∧ (p.2.1.isSome = true → 0 < (shownN t e k d p.1).length)) (fun p => [(0, ptr bw), (4, ptr b4), (5, ptr b5), (6, outV' ((shownN t e k d p.1).length, p.2.1)), (14, vi (t.s.divisions + 1)), (15, vi p.1)]) (fun _ => [(w, [bw, bm])]) (fun p => match p.2.1 with | none => [(b5, .cells #[vi k, vi d] 123 (0, 0)), (b4, .cells (tsV e).cells 126 (0, 0)), (bw, wkT t sl pl ll tl bm), (bm, .map p.2.2.1 p.2.2.2)] | some (b0, cap, junk) => [(b0, .cells ((shownN t e k d p.1).map vi ++ junk).toArray 3 (0, 0)), (b5, .cells #[vi k, vi d] 123 (0, 0)), (b4, .cells (tsV e).cells 126 (0, 0)), (bw, wkT t sl pl ll tl bm), (bm, .map p.2.2.1 p.2.2.2)]) (fun p => (t.s.divisions + 1).toNat - p.1) ?_ ?_
   · exact tk_start (0, none, es, ck) ⟨Nat.zero_le _, rfl, hT.hc, fun h => Bool.noConfusion h⟩ (.cons rfl (.cons rfl (.cons rfl (.cons rfl (.cons rfl (.cons rfl .nil)))))) (fun _ h => h.subl SB.s SB.s)
   · rintro ⟨n, oo, es', ck'⟩ ⟨hn, hok, hca, hps⟩
     have hlen := shownN_len t e k d n
     rcases oo with _ | ⟨b0, cap, junk⟩
     all_goals ((dsimp only [outOk] at hn hok hca hps ⊢; dsimp only [outV']))
     all_goals refine tc_seq fun K4 hK4 => ?_; refine tc_region ?_; refine tl_q (y_lss rfl rfl) rfl ?_; refine tl_nil ?_; ((refine hK4 ?_; try (clear hK4; clear K4)))
     all_goals refine tc_seq fun K5 hK5 => ?_
     all_goals (
      refine tc_cond rfl (fun hc => ?_) (fun hc => ?_)
      · try simp only [qn1, qn2, qn3, qn4, qn5, qn6, qn7, qn8] at hc
        all_goals refine tc_skip ?_; ((refine hK5 ?_; try (clear hK5; clear K5)))
        all_goals refine tc_seq fun K6 hK6 => ?_; refine tc_block ?_; refine tc_seq fun K7 hK7 => ?_; refine tc_region ?_; refine tl_q (y_move rfl) rfl ?_; refine tl_q (y_assign rfl) rfl ?_; refine tl_nil ?_; ((refine hK7 ?_; try (clear hK7; clear K7)))
        all_goals refine tc_seq fun K8 hK8 => ?_; refine tc_region ?_; refine tl_q (y_move rfl) rfl ?_; refine tl_q (y_loadW rfl (by repeat constructor) (by rfl)) rfl ?_; refine tl_q (y_loadW rfl (by repeat constructor) (by rfl)) rfl ?_; refine tl_q (y_move rfl) rfl ?_; refine tl_e (e_callU rfl (.cons rfl (.cons rfl (.cons rfl (.cons rfl .nil)))) (fun w' hw' => can_c t hv e he k d (n : Nat) (by omega) (by omega) sl pl ll tl w' bw bm es' ck' (hT.fr2 (hw'.fr MI.m) (hw'.heap _ (HM.mem (by repeat constructor))) (hw'.heap _ (HM.mem (b := bm) (by repeat constructor))) hca)) (fun _ => (by repeat constructor))) rfl (fun z hz => ?_); refine tl_nil ?_; ((refine hK8 ?_; try (clear hK8; clear K8)))
        all_goals (
         refine tc_cond rfl (fun hc => ?_) (fun hc => ?_)
         · all_goals (skip)
           all_goals refine tc_region ?_; refine tl_q (y_move rfl) rfl ?_; refine tl_q (y_move rfl) rfl ?_; (refine tl_e (e_bslice rfl (by (repeat (first | exact .nil | apply PV.one rfl rfl)); done) rfl rfl) rfl (fun _ _ => ?_))
           all_goals ((first | refine tl_e (e_append_own (old := (shownN t e k d n).map vi) (junk := junk) rfl rfl rfl (by repeat constructor) (by simp) (by omega) hok.1 (fun w' hw' => RdI.own0 (xs := [(n : Int)]) hw' (by repeat constructor)) (fun u hu => by obtain ⟨_, _, rfl⟩ := List.mem_map.1 hu; rfl) (by simp only [List.length_cons, List.length_nil]; omega) rfl) rfl (fun y hy => ?_) | refine tl_e (e_append_nil rfl rfl rfl (fun w' hw' => RdI.own0 (xs := [(n : Int)]) hw' (by repeat constructor)) (fun u hu => by obtain ⟨_, _, rfl⟩ := List.mem_map.1 hu; rfl) Nat.zero_lt_one (Nat.le_of_ble_eq_true rfl) rfl) rfl (fun y hy => ?_)))
           all_goals refine tl_q (y_assign rfl) rfl ?_; refine tl_nil ?_; ((refine hK6 ?_; try (clear hK6; clear K6)))
           all_goals refine tc_region ?_; refine tl_q (y_add rfl rfl (by omega)) rfl ?_; refine tl_q (y_move rfl) rfl ?_; refine tl_nil ?_
           all_goals (
            first
            | (have hs2 : shownN t e k d (n + 1) = shownN t e k d n ++ [(n : Int)] := by rw [shownN_succ, if_pos hc]
               refine tk_round (n + 1, some (y.1, y.2.1, y.2.2), z.1, z.2) ⟨by omega, ?_, hz, fun _ => by rw [hs2, List.length_append]; simp only [List.length_cons, List.length_nil]; omega⟩ (by omega) (.cons rfl (.cons rfl (.cons rfl (.cons ?_ (.cons rfl (.cons rfl .nil)))))) (fun _ h => ?_)
               · dsimp only [outOk]; rw [hs2, List.length_append]; simp only [List.length_cons, List.length_nil] at hy ⊢; omega
               · dsimp only [outV']; rw [hs2, List.length_append]; first | rfl | (rw [hok]; rfl)
               · dsimp only; rw [hs2, List.map_append]
                 try rw [show shownN t e k d n = [] from List.eq_nil_of_length_eq_zero hok, List.map_nil, List.nil_append]
                 exact h.subl SB.s SB.s)
            | (have hs2 : shownN t e k d (n + 1) = shownN t e k d n := by rw [shownN_succ, if_neg (by rw [hc]; exact Bool.false_ne_true)]
               first
               | (refine tk_round (n + 1, none, z.1, z.2) ⟨by omega, by dsimp only [outOk]; rw [hs2]; exact hok, hz, by rw [hs2]; exact hps⟩ (by omega) (.cons rfl (.cons rfl (.cons rfl (.cons rfl (.cons rfl (.cons rfl .nil)))))) (fun _ h => h.subl SB.s SB.s))
               | (refine tk_round (n + 1, some (b0, cap, junk), z.1, z.2) ⟨by omega, by dsimp only [outOk]; rw [hs2]; exact hok, hz, by rw [hs2]; exact hps⟩ (by omega) (.cons rfl (.cons rfl (.cons rfl (.cons ?_ (.cons rfl (.cons rfl .nil)))))) (fun _ h => ?_)
                  · dsimp only [outV']; rw [hs2]; rfl
                  · dsimp only; rw [hs2]; exact h.subl SB.s SB.s)))
         · all_goals (skip)
           all_goals refine tc_skip ?_; ((refine hK6 ?_; try (clear hK6; clear K6)))
           all_goals refine tc_region ?_; refine tl_q (y_add rfl rfl (by omega)) rfl ?_; refine tl_q (y_move rfl) rfl ?_; refine tl_nil ?_
           all_goals (
            first
            | (have hs2 : shownN t e k d (n + 1) = shownN t e k d n ++ [(n : Int)] := by rw [shownN_succ, if_pos hc]
               refine tk_round (n + 1, some (y.1, y.2.1, y.2.2), z.1, z.2) ⟨by omega, ?_, hz, fun _ => by rw [hs2, List.length_append]; simp only [List.length_cons, List.length_nil]; omega⟩ (by omega) (.cons rfl (.cons rfl (.cons rfl (.cons ?_ (.cons rfl (.cons rfl .nil)))))) (fun _ h => ?_)
               · dsimp only [outOk]; rw [hs2, List.length_append]; simp only [List.length_cons, List.length_nil] at hy ⊢; omega
               · dsimp only [outV']; rw [hs2, List.length_append]; first | rfl | (rw [hok]; rfl)
               · dsimp only; rw [hs2, List.map_append]
                 try rw [show shownN t e k d n = [] from List.eq_nil_of_length_eq_zero hok, List.map_nil, List.nil_append]
                 exact h.subl SB.s SB.s)
            | (have hs2 : shownN t e k d (n + 1) = shownN t e k d n := by rw [shownN_succ, if_neg (by rw [hc]; exact Bool.false_ne_true)]
               first
               | (refine tk_round (n + 1, none, z.1, z.2) ⟨by omega, by dsimp only [outOk]; rw [hs2]; exact hok, hz, by rw [hs2]; exact hps⟩ (by omega) (.cons rfl (.cons rfl (.cons rfl (.cons rfl (.cons rfl (.cons rfl .nil)))))) (fun _ h => h.subl SB.s SB.s))
               | (refine tk_round (n + 1, some (b0, cap, junk), z.1, z.2) ⟨by omega, by dsimp only [outOk]; rw [hs2]; exact hok, hz, by rw [hs2]; exact hps⟩ (by omega) (.cons rfl (.cons rfl (.cons rfl (.cons ?_ (.cons rfl (.cons rfl .nil)))))) (fun _ h => ?_)
                  · dsimp only [outV']; rw [hs2]; rfl
                  · dsimp only; rw [hs2]; exact h.subl SB.s SB.s))))
      · try simp only [qn1, qn2, qn3, qn4, qn5, qn6, qn7, qn8] at hc
        all_goals refine tc_exit ?_; ((refine hK2 ?_; try (clear hK2; clear K2)))
        all_goals refine tc_seq fun K9 hK9 => ?_; refine tc_seq fun K10 hK10 => ?_; (have hnn : n = (t.s.divisions + 1).toNat := by omega)
        all_goals subst hnn
        all_goals refine tc_region ?_; refine tl_q (y_move rfl) rfl ?_; refine tl_q (y_eql_nil rfl rfl) rfl ?_; refine tl_nil ?_; ((refine hK10 ?_; try (clear hK10; clear K10)))
        all_goals (
         refine tc_cond rfl (fun hc => ?_) (fun hc => ?_)
         · all_goals ((first | (exfalso; simp at hc; done) | skip))
           all_goals refine tc_seq fun K11 hK11 => ?_; refine tc_region ?_; (refine tl_e (e_bslice rfl (by (repeat (first | exact .nil | apply PV.one rfl rfl)); done) rfl rfl) rfl (fun b30 _ => ?_))
           all_goals refine tl_q (y_assign rfl) rfl ?_; refine tl_nil ?_; ((refine hK11 ?_; try (clear hK11; clear K11)))
           all_goals refine tc_ret ?_; (repeat (refine tk_then_ret ?_))
           all_goals (refine tk_ret rfl rfl (.cons (.tmp rfl) .nil) ?_)
           all_goals (
            refine fun w' hw' => ?_
            have hb2 : Fr [bm] w w' := Fr.but (hw'.fr (S := [bw, bm]) (by simp)) (by rw [hw'.heap (bw, wkT t sl pl ll tl bm) (HM.mem (by repeat constructor)), hT.hw])
            have hb1 := hw'.heap _ (HM.mem (b := bm) (by repeat constructor))
            first
            | (have hsh : shownL t e k d = [-1] := by unfold shownL; rw [if_pos hok]
               rw [hsh]
               exact ⟨((some ⟨b30, 0, none⟩, 1), es', ck'), rfl, hb2, ⟨RdI.own0 (xs := [-1]) hw' (by repeat constructor), hca⟩, hb1⟩)
            | (have hpos := hps rfl
               have hsh : shownL t e k d = shownN t e k d (t.s.divisions + 1).toNat := by unfold shownL; rw [if_neg (by omega)]
               rw [hsh]
               exact ⟨((some ⟨b0, 0, none⟩, cap), es', ck'), rfl, hb2, ⟨RdI.own (xs := shownN t e k d (t.s.divisions + 1).toNat) (cap := cap) (junk := junk) hw' (by repeat constructor), hca⟩, hb1⟩))
         · all_goals ((first | (exfalso; simp at hc; done) | skip))
           all_goals refine tc_skip ?_; ((refine hK9 ?_; try (clear hK9; clear K9)))
           all_goals refine tc_seq fun K12 hK12 => ?_; refine tc_region ?_; refine tl_q (y_move rfl) rfl ?_; refine tl_q (y_assign rfl) rfl ?_; refine tl_nil ?_; ((refine hK12 ?_; try (clear hK12; clear K12)))
           all_goals refine tc_ret ?_; (repeat (first | refine tk_then_ret ?_))
           all_goals (refine tk_ret rfl rfl (.cons (.tmp rfl) .nil) ?_)
           all_goals (
            refine fun w' hw' => ?_
            have hb2 : Fr [bm] w w' := Fr.but (hw'.fr (S := [bw, bm]) (by simp)) (by rw [hw'.heap (bw, wkT t sl pl ll tl bm) (HM.mem (by repeat constructor)), hT.hw])
            have hb1 := hw'.heap _ (HM.mem (b := bm) (by repeat constructor))
            first
            | (have hsh : shownL t e k d = [-1] := by unfold shownL; rw [if_pos hok]
               rw [hsh]
               exact ⟨((some ⟨b30, 0, none⟩, 1), es', ck'), rfl, hb2, ⟨RdI.own0 (xs := [-1]) hw' (by repeat constructor), hca⟩, hb1⟩)
            | (have hpos := hps rfl
               have hsh : shownL t e k d = shownN t e k d (t.s.divisions + 1).toNat := by unfold shownL; rw [if_neg (by omega)]
               rw [hsh]
               exact ⟨((some ⟨b0, 0, none⟩, cap), es', ck'), rfl, hb2, ⟨RdI.own (xs := shownN t e k d (t.s.divisions + 1).toNat) (cap := cap) (junk := junk) hw' (by repeat constructor), hca⟩, hb1⟩)))))
end Go.Sp
/-
  Package trial: whether a test is right; the densities in which all tests are.
-/
namespace Go.Sp
open Go Go.Proofs
theorem RdI.opensT {w : World} {xs : List Int} {x : Option Addr × Nat} (h : RdI w (slV xs.length x) xs) : ∃ b o, (0 < xs.length → x.1 = some ⟨b, o, none⟩) ∧ ∀ w', Fr [] w w' → ∀ i, i < xs.length → w'.cell? ⟨b, o + i, none⟩ = some (vi (xs.getD i 0)) := by
  obtain ⟨ad, cap, b, o, e, had, hcell⟩ := h.open
  injection e with e1 e2 e3
  subst e1
  exact ⟨b, o, had, hcell⟩
def rightF (t : Tr) (e : Int × Int × Int) (x : Int × Int × Int) (d : Int) : Bool := if x.2.2 = -1 then decide ((shownL t e x.2.1 d).getD 0 0 = -1) else canF t e x.2.1 d x.2.2
theorem right_c (t : Tr) (hv : VT t) (e : Int × Int × Int) (he : ErB e) (x : Int × Int × Int) (hx : tsB t x = true) (d : Int) (sl pl ll tl : Value) (w : World) (bw bm : Nat) (es : Array MapEntry) (ck : Nat) (hT : TW w t sl pl ll tl bw bm es ck) :
    CnX Tryz.prog 115 #[ptr bw, tsV e, tsV x, vi d] w [bm] (fun _ : Array MapEntry × Nat => .bool (rightF t e x d)) (fun y w' => Cache (readV t.s) y.1.toList ∧ w'.heap[bm]? = some (.map y.1 y.2)) := by
  have hne := hT.ne
  have hd2 := hv.s.d2
  have hx' := of_decide_eq_true hx
  have hpos := shownL_pos t e x.2.1 d
  refine cnxS (vs := [_, _, _, _]) (S := [bw, bm]) [(bw, wkT t sl pl ll tl bm), (bm, .map es ck)] Tryz.func115 rfl rfl ⟨by simp [hT.hw, hT.hm], by simp [hne], by simp⟩ ?_
  all_goals refine tc_seq fun K1 hK1 => ?_; refine tc_region ?_; refine tl_e (e_box rfl rfl rfl) rfl (fun b5 _ => ?_); refine tl_e (e_box rfl rfl rfl) rfl (fun b6 _ => ?_); refine tl_q (y_assign rfl) rfl ?_; refine tl_nil ?_; ((refine hK1 ?_; try (clear hK1; clear K1)))
  all_goals refine tc_seq fun K2 hK2 => ?_; refine tc_region ?_; refine tl_q (y_field rfl) rfl ?_; refine tl_q (y_load1 rfl (by repeat constructor) (by rfl)) rfl ?_; refine tl_q (y_move rfl) rfl ?_; refine tl_q (y_build_2 rfl rfl rfl rfl) rfl ?_; refine tl_e (e_allocN rfl) rfl (fun b9 _ => ?_); refine tl_e (e_storeW rfl rfl (by repeat constructor) (by rfl) (by rfl) (by simp [Value.oneCell'])) rfl (fun _ _ => ?_); refine tl_nil ?_; ((refine hK2 ?_; try (clear hK2; clear K2)))
  all_goals refine tc_seq fun K3 hK3 => ?_; refine tc_seq fun K4 hK4 => ?_; refine tc_region ?_; refine tl_q (y_field rfl) rfl ?_; refine tl_q (y_load1 rfl (by repeat constructor) (by rfl)) rfl ?_; refine tl_q (y_eql rfl rfl) rfl ?_; refine tl_nil ?_; ((refine hK4 ?_; try (clear hK4; clear K4)))
  all_goals (
   refine tc_cond rfl (fun hc => ?_) (fun hc => ?_)
   · try simp only [qn1, qn2, qn3, qn4, qn5, qn6, qn7, qn8] at hc
     all_goals refine tc_seq fun K5 hK5 => ?_; refine tc_region ?_; refine tl_q (y_move rfl) rfl ?_; refine tl_q (y_loadW rfl (by repeat constructor) (by rfl)) rfl ?_; refine tl_q (y_loadW rfl (by repeat constructor) (by rfl)) rfl ?_; refine tl_e (e_callUX rfl (.cons rfl (.cons rfl (.cons rfl .nil))) (fun w' hw' => shown_c t hv e he x.2.1 d sl pl ll tl w' bw bm es ck (hT.fr2 (hw'.fr (by simp)) (hw'.heap _ (HM.mem (by repeat constructor))) (hw'.heap _ (HM.mem (b := bm) (by repeat constructor))) hT.hc)) (fun _ => (by repeat constructor))) rfl (fun y hy => ?_); ((obtain ⟨yb, yo, had, hcell⟩ := hy.1.1.opensT; have had' := had hpos))
     all_goals (refine tl_q (y_index rfl rfl (by omega) had') rfl ?_); refine tl_q (y_load1o (v := vi ((shownL t e x.2.1 d).getD 0 0)) rfl (fun w' hw' => hcell w' (hw'.calm hy.2 (by simp) (List.Sublist.refl _)) 0 hpos)) rfl ?_; refine tl_q (y_eql rfl rfl) rfl ?_; refine tl_q (y_assign rfl) rfl ?_; refine tl_nil ?_; ((refine hK5 ?_; try (clear hK5; clear K5)))
     all_goals refine tc_ret ?_; (repeat (refine tk_then_ret ?_))
     all_goals (refine tk_ret rfl rfl (.cons (.tmp rfl) .nil) ?_)
     all_goals (
      refine fun w' hw' => ?_
      have hb2 : Fr [bm] w w' := Fr.but (hw'.fr (S := [bw, bm]) (by simp)) (by rw [hw'.heap (bw, wkT t sl pl ll tl bm) (HM.mem (by repeat constructor)), hT.hw])
      have hb1 := hw'.heap _ (HM.mem (b := bm) (by repeat constructor))
      first
      | exact ⟨(y.1.2.1, y.1.2.2), by unfold rightF; rw [if_pos (by omega)]; rfl, hb2, hy.1.2, hb1⟩
      | exact ⟨z, by unfold rightF; rw [if_neg (by omega)]; rfl, hb2, hz, hb1⟩)
   · try simp only [qn1, qn2, qn3, qn4, qn5, qn6, qn7, qn8] at hc
     all_goals refine tc_skip ?_; ((refine hK3 ?_; try (clear hK3; clear K3)))
     all_goals refine tc_seq fun K6 hK6 => ?_; refine tc_region ?_; refine tl_q (y_move rfl) rfl ?_; refine tl_q (y_loadW rfl (by repeat constructor) (by rfl)) rfl ?_; refine tl_q (y_loadW rfl (by repeat constructor) (by rfl)) rfl ?_; refine tl_q (y_field rfl) rfl ?_; refine tl_q (y_load1 rfl (by repeat constructor) (by rfl)) rfl ?_; refine tl_e (e_callU rfl (.cons rfl (.cons rfl (.cons rfl (.cons rfl .nil)))) (fun w' hw' => can_c t hv e he x.2.1 d x.2.2 (by omega) (by omega) sl pl ll tl w' bw bm es ck (hT.fr2 (hw'.fr (by simp)) (hw'.heap _ (HM.mem (by repeat constructor))) (hw'.heap _ (HM.mem (b := bm) (by repeat constructor))) hT.hc)) (fun _ => (by repeat constructor))) rfl (fun z hz => ?_); refine tl_q (y_assign rfl) rfl ?_; refine tl_nil ?_; ((refine hK6 ?_; try (clear hK6; clear K6)))
     all_goals refine tc_ret ?_; (repeat (first | refine tk_then_ret ?_))
     all_goals (refine tk_ret rfl rfl (.cons (.tmp rfl) .nil) ?_)
     all_goals (
      refine fun w' hw' => ?_
      have hb2 : Fr [bm] w w' := Fr.but (hw'.fr (S := [bw, bm]) (by simp)) (by rw [hw'.heap (bw, wkT t sl pl ll tl bm) (HM.mem (by repeat constructor)), hT.hw])
      have hb1 := hw'.heap _ (HM.mem (b := bm) (by repeat constructor))
      first
      | exact ⟨(y.1.2.1, y.1.2.2), by unfold rightF; rw [if_pos (by omega)]; rfl, hb2, hy.1.2, hb1⟩
      | exact ⟨z, by unfold rightF; rw [if_neg (by omega)]; rfl, hb2, hz, hb1⟩))
end Go.Sp
/-
  Package trial: the densities of a liquid in which all tests are right.
-/
namespace Go.Sp
open Go Go.Proofs
theorem HM.app {b : Nat} {o : Obj} : ∀ (X : List (Nat × Obj)) {Y : List (Nat × Obj)}, HM b o (X ++ (b, o) :: Y)
  | [], _ => .head
  | _ :: X, _ => .tail (HM.app X)
theorem HU.app {b : Nat} {o o' : Obj} : ∀ (X : List (Nat × Obj)) {Y : List (Nat × Obj)}, HU b o o' (X ++ (b, o) :: Y) (X ++ (b, o') :: Y)
  | [], _ => .head
  | _ :: X, _ => .tail (HU.app X)
theorem RdR.at {w : World} {b o cp : Nat} {l : List (Int × Int)} (h : RdR w (.slice (some ⟨b, o, none⟩) l.length cp) l) {i : Nat} (hi : i < l.length) : w.cell? ⟨b, o + i * 2, none⟩ = some (vi (l.getD i (0, 0)).1) ∧ w.cell? ⟨b, o + i * 2 + 1, none⟩ = some (vi (l.getD i (0, 0)).2) := by
  obtain ⟨_, _, _, _, e, had, hcell⟩ := h.open
  cases e
  cases had (by omega)
  have := hcell w [] (Fr.refl _ _) (by simp) i hi
  exact ⟨this.get 0 _ rfl, this.get 1 _ rfl⟩
theorem RdT.at {w : World} {b o cp : Nat} {l : List (Int × Int × Int)} (h : RdT w (.slice (some ⟨b, o, none⟩) l.length cp) l) {i : Nat} (hi : i < l.length) : CA (fun k => w.cell? ⟨b, k, none⟩) (o + i * 3) 3 [vi (l.getD i (0, 0, 0)).1, vi (l.getD i (0, 0, 0)).2.1, vi (l.getD i (0, 0, 0)).2.2] := by
  obtain ⟨_, _, _, _, e, had, hcell⟩ := h.open
  cases e
  cases had (by omega)
  exact hcell w [] (Fr.refl _ _) (by simp) i hi
/-- A test is passed by: it is of another liquid, or left out, or right. -/
def passF (t : Tr) (e : Int × Int × Int) (i : Nat) (out : List Int) (d : Int) (j : Nat) : Bool := decide (¬ (t.tests.getD j (0, 0, 0)).1 = i) || (decide ((j : Int) ∈ out) || rightF t e (t.tests.getD j (0, 0, 0)) d)
def passN (t : Tr) (e : Int × Int × Int) (i : Nat) (out : List Int) (d : Int) (n : Nat) : Bool := (List.range n).all (passF t e i out d)
theorem passN_succ (t : Tr) (e : Int × Int × Int) (i : Nat) (out : List Int) (d : Int) (n : Nat) : passN t e i out d (n + 1) = (passN t e i out d n && passF t e i out d n) := by simp [passN, List.range_succ, List.all_append]
def lqAt (t : Tr) (i : Nat) : Int × Int := t.liquids.getD i (0, 0)
def denseN (t : Tr) (e : Int × Int × Int) (i : Nat) (out : List Int) (n : Nat) : List Int := ((List.range n).filter fun (j : Nat) => passN t e i out ((lqAt t i).1 + j) t.tests.length).map fun (j : Nat) => (lqAt t i).1 + j
theorem denseN_succ (t : Tr) (e : Int × Int × Int) (i : Nat) (out : List Int) (n : Nat) : denseN t e i out (n + 1) = if passN t e i out ((lqAt t i).1 + n) t.tests.length = true then denseN t e i out n ++ [(lqAt t i).1 + n] else denseN t e i out n := by
  unfold denseN
  rw [List.range_succ, List.filter_append, List.map_append]
  cases h : passN t e i out ((lqAt t i).1 + n) t.tests.length <;> simp [h]
def lqC (t : Tr) (i : Nat) : Nat := ((lqAt t i).2 - (lqAt t i).1 + 1).toNat
def denseL (t : Tr) (e : Int × Int × Int) (i : Nat) (out : List Int) : List Int := denseN t e i out (lqC t i)
theorem denseN_pre (t : Tr) (e : Int × Int × Int) (i : Nat) (out : List Int) {n : Nat} : ∀ {m : Nat}, n ≤ m → ∃ r, denseN t e i out m = denseN t e i out n ++ r := by
  intro m
  induction m with
  | zero => intro h; obtain rfl : n = 0 := by omega
            exact ⟨[], by simp⟩
  | succ m ih =>
    intro h
    by_cases e1 : n = m + 1
    · subst e1; exact ⟨[], by simp⟩
    · obtain ⟨r, hr⟩ := ih (by omega)
      rw [denseN_succ]
      split
      · exact ⟨r ++ [(lqAt t i).1 + m], by rw [hr, List.append_assoc]⟩
      · exact ⟨r, hr⟩
theorem denseN_get {t : Tr} {e : Int × Int × Int} {i : Nat} {out : List Int} {n : Nat} (hn : n < lqC t i) (h : passN t e i out ((lqAt t i).1 + n) t.tests.length = true) : (denseL t e i out)[(denseN t e i out n).length]? = some ((lqAt t i).1 + n) := by
  obtain ⟨r, hr⟩ := denseN_pre t e i out (n := n + 1) (m := lqC t i) (by omega)
  unfold denseL
  rw [hr, denseN_succ, if_pos h]
  simp
theorem VT.lqb {t : Tr} (h : VT t) {i : Nat} (hi : i < t.liquids.length) : 1 ≤ (lqAt t i).1 ∧ (lqAt t i).1 ≤ (lqAt t i).2 ∧ (lqAt t i).2 ≤ 2000 ∧ (lqAt t i).2 - (lqAt t i).1 ≤ 40 := by
  have := List.all_eq_true.1 h.lq (lqAt t i) (by unfold lqAt; rw [List.getD_eq_getElem?_getD, List.getElem?_eq_getElem hi]; exact List.getElem_mem hi)
  exact of_decide_eq_true this
theorem tdense_c (e : Int × Int × Int) (i : Int) (bw : Nat) (oa : Option Addr) (on oc : Nat) (w : World) :
    CnX Tryz.prog 109 #[ptr bw, tsV e, vi i, .slice oa on oc] w [] (fun x : Nat × Nat × Nat × Nat => .func (.func 154) #[] #[ptr x.1, ptr x.2.1, ptr x.2.2.1, ptr x.2.2.2])
    (fun x w' => True ∧ (∀ q ∈ [(x.2.2.1, Obj.cells #[.slice oa on oc] 22 (0, 0)), (x.2.1, .cells #[vi i] 3 (0, 0)), (x.2.2.2, .cells (tsV e).cells 126 (0, 0)), (x.1, .cells #[ptr bw] 130 (0, 0))], w.heap.size ≤ q.1 ∧ w'.heap[q.1]? = some q.2) ∧ (([(x.2.2.1, Obj.cells #[.slice oa on oc] 22 (0, 0)), (x.2.1, .cells #[vi i] 3 (0, 0)), (x.2.2.2, .cells (tsV e).cells 126 (0, 0)), (x.1, .cells #[ptr bw] 130 (0, 0))] : List (Nat × Obj)).map Prod.fst).Nodup) := by
  refine cnx0 (vs := [_, _, _, _]) Tryz.func109 rfl rfl ?_
  all_goals refine tc_seq fun K1 hK1 => ?_
  all_goals refine tc_region ?_
  all_goals refine tl_e (e_box rfl rfl rfl) rfl (fun b4 _ => ?_)
  all_goals refine tl_e (e_box rfl rfl rfl) rfl (fun b5 _ => ?_)
  all_goals refine tl_e (e_box rfl rfl rfl) rfl (fun b6 _ => ?_)
  all_goals refine tl_e (e_box rfl rfl rfl) rfl (fun b7 _ => ?_)
  all_goals refine tl_q (y_assign rfl) rfl ?_
  all_goals refine tl_nil ?_
  all_goals (refine hK1 ?_; try (clear hK1; clear K1))
  all_goals refine tc_seq fun K2 hK2 => ?_
  all_goals refine tc_region ?_
  all_goals refine tl_q (y_fn .nil (.cons rfl (.cons rfl (.cons rfl (.cons rfl .nil))))) rfl ?_
  all_goals refine tl_q (y_assign rfl) rfl ?_
  all_goals refine tl_nil ?_
  all_goals (refine hK2 ?_; try (clear hK2; clear K2))
  all_goals refine tc_ret ?_
  all_goals (repeat (first | refine tk_then_ret ?_ | refine tk_block_ret ?_ | refine tk_scope_ret ?_))
  all_goals first | refine tk_ret rfl rfl (.cons (.tmp rfl) .nil) ?_ | refine tk_retM rfl (by repeat constructor) rfl (.cons (.tmp rfl) .nil) ?_
  all_goals (
   exact fun w' hw' => ⟨(b4, b6, b7, b5), rfl, hw'.fr (by simp), trivial, fun q hq => ⟨by
       have := hw'.own q hq (w, []) (by simp)
       simpa using this, hw'.heap q hq⟩, hw'.nodup⟩)
end Go.Sp
/-
  Package trial: a range over the densities of a liquid.
-/
namespace Go.Sp
open Go Go.Proofs
def JMt (t : Tr) (o : Obj) : Prop := ∃ es ck, o = .map es ck ∧ Cache (readV t.s) es.toList
theorem dense_seq (t : Tr) (hv : VT t) (e : Int × Int × Int) (he : ErB e) (i : Nat) (hi : i < t.liquids.length) (out : List Int) (ho : (out.length : Int) ≤ 9000000000000000000) (ov sl pl ll tl : Value) (w : World) (bw bm b1 b2 b3 b4 : Nat) (S0 : List Nat)
    (h1 : w.heap[b1]? = some (.cells #[ptr bw] 130 (0, 0))) (h2 : w.heap[b2]? = some (.cells #[vi i] 3 (0, 0))) (h3 : w.heap[b3]? = some (.cells #[ov] 22 (0, 0))) (h4 : w.heap[b4]? = some (.cells (tsV e).cells 126 (0, 0)))
    (hb1 : b1 ∉ S0) (hb2 : b2 ∉ S0) (hb3 : b3 ∉ S0) (hb4 : b4 ∉ S0) (hbw : w.heap[bw]? = some (wkT t sl pl ll tl bm)) (hbwS : bw ∉ S0) (hmS : bm ∈ S0)
    (o1 : sl.oneCell' = true) (o2 : pl.oneCell' = true) (o3 : ll.oneCell' = true) (o4 : tl.oneCell' = true)
    (hrd : ∀ w', Fr S0 w w' → RdTr w' t sl pl ll tl ∧ RdI w' ov out) :
    SeqP Tryz.prog 154 #[ptr b1, ptr b2, ptr b3, ptr b4] (fun d : Int => [vi d]) (denseL t e i out) bm (JMt t) S0 w := by
  intro σ l S Hx I J s0 w1 ob f0 hbS hS hbo hJb hbx hK0 h0 hY
  obtain ⟨es0, ck0, rfl, hc0⟩ := hJb
  have hlq := hv.lqb hi
  have hl3 := hv.l3
  have ht6 := hv.t6
  have hlt : ∀ b, w.heap[b]? ≠ none → b < w.heap.size := fun b h => by
    rcases Nat.lt_or_ge b w.heap.size with g | g
    · exact g
    · exact absurd (Array.getElem?_eq_none g) h
  have hnS : ∀ b, b ∉ S0 → w.heap[b]? ≠ none → b ∉ S := fun b hb h hm => (hS b hm).elim hb (fun g => by have := hlt b h; omega)
  have n1 := hnS b1 hb1 (by rw [h1]; simp)
  have n2 := hnS b2 hb2 (by rw [h2]; simp)
  have n3 := hnS b3 hb3 (by rw [h3]; simp)
  have n4 := hnS b4 hb4 (by rw [h4]; simp)
  have nw := hnS bw hbwS (by rw [hbw]; simp)
  have g1 := f0.keep h1
  have g2 := f0.keep h2
  have g3 := f0.keep h3
  have g4 := f0.keep h4
  have gw := f0.keep hbw
  have hrd1 : ∀ w', Fr S w1 w' → RdTr w' t sl pl ll tl ∧ RdI w' ov out := fun w' f => hrd w' (f0.mono (fun x hx => by simp at hx) |>.trans f (fun x hx => hS x hx))
  have hTW : ∀ (w' : World) (es : Array MapEntry) (ck : Nat), Fr S w1 w' → w'.heap[bm]? = some (.map es ck) → Cache (readV t.s) es.toList → TW w' t sl pl ll tl bw bm es ck := fun w' es ck f hm hc =>
    ⟨(hrd1 w' f).1, f.keepS nw gw, hm, hc, o1, o2, o3, o4⟩
  obtain ⟨ad1, cp1, bl, ol, rfl, hadl, _⟩ := (hrd1 w1 (Fr.refl _ _)).1.ls.open
  obtain ⟨ad2, cp2, bt, ot, rfl, hadt, _⟩ := (hrd1 w1 (Fr.refl _ _)).1.ts.open
  cases hadl (by omega)
  have hwk : ∀ w', Fr S w1 w' → w'.cell? ⟨bw, 8, none⟩ = some (.slice (some ⟨bl, ol, none⟩) t.liquids.length cp1) ∧ w'.cell? ⟨bw, 9, none⟩ = some (.slice ad2 t.tests.length cp2) := fun w' f => ⟨cell0 (f.keepS nw gw) rfl, cell0 (f.keepS nw gw) rfl⟩
  rw [show (#[.func (.yield l) #[] #[]] ++ #[ptr b1, ptr b2, ptr b3, ptr b4] : Array Value) = #[.func (.yield l) #[] #[], ptr b1, ptr b2, ptr b3, ptr b4] from by simp]
  refine cnxS (vs := [_, _, _, _, _]) (S := S) (Hx s0 ++ [(bm, .map es0 ck0)]) Tryz.func154 rfl rfl ⟨fun p hp => ?_, ?_, fun p hp => ?_⟩ ?_
  · rcases List.mem_append.1 hp with hp | hp
    · exact hK0.kn p hp
    · obtain rfl := List.mem_singleton.1 hp; exact hbo
  · rw [List.map_append, List.nodup_append]
    refine ⟨hK0.nd, by simp, fun a ha b hb e => ?_⟩
    simp only [List.map_cons, List.map_nil, List.mem_singleton] at hb
    subst hb; subst e
    exact hbx s0 (.inl ⟨0, h0⟩) ha
  · rcases List.mem_append.1 hp with hp | hp
    · exact hK0.mem p hp
    · obtain rfl := List.mem_singleton.1 hp; exact hbS
  all_goals refine tc_seq fun K1 hK1 => ?_; refine tc_draw (by kernel_rfl) ?_; refine tx_q 0 rfl (by kernel_rfl) (y_load1o (v := ptr bw) rfl (fun w' hw' => cell0 ((hw'.fr (w0 := w1) (S := S) MI.m).keepS n1 g1) rfl)) rfl (fun _ _ _ h => h) (fun _ h => h) ?_; refine tx_p 1 rfl (by kernel_rfl) (y_nil rfl) rfl (fun _ _ _ h => h) (fun _ h => h) ?_; refine tx_p 2 rfl (by kernel_rfl) (y_field rfl) rfl (fun _ _ _ h => h) (fun _ h => h) ?_; refine tx_p 3 rfl (by kernel_rfl) (y_field rfl) rfl (fun _ _ _ h => h) (fun _ h => h) ?_; refine tx_q 4 rfl (by kernel_rfl) (y_load1o (v := .slice (some ⟨bl, ol, none⟩) t.liquids.length cp1) rfl (fun w' hw' => (hwk w' (hw'.fr (w0 := w1) (S := S) MI.m)).1)) rfl (fun _ _ _ h => h) (fun _ h => h) ?_; refine tx_q 5 rfl (by kernel_rfl) (y_load1o (v := vi i) rfl (fun w' hw' => cell0 ((hw'.fr (w0 := w1) (S := S) MI.m).keepS n2 g2) rfl)) rfl (fun _ _ _ h => h) (fun _ h => h) ?_; refine tx_p 6 rfl (by kernel_rfl) (y_index rfl rfl (by omega) rfl) rfl (fun _ _ _ h => h) (fun _ h => h) ?_; refine tx_p 7 rfl (by kernel_rfl) (y_field rfl) rfl (fun _ _ _ h => h) (fun _ h => h) ?_; ((refine tx_q 8 rfl (by kernel_rfl) (y_load1o (v := vi (lqAt t i).1) rfl (fun w' hw' => by rw [show Int.toNat (i : Int) * 2 = i * 2 from by omega]; exact ((hrd1 w' (hw'.fr (w0 := w1) (S := S) MI.m)).1.ls.at hi).1)) rfl (fun _ _ _ h => h) (fun _ h => h) ?_))
  all_goals refine tx_p 9 rfl (by kernel_rfl) (y_assign rfl) rfl (fun _ _ _ h => h) (fun _ h => h) ?_; refine tx_done (by kernel_rfl) ?_; ((refine hK1 ?_; try (clear hK1; clear K1)))
  all_goals refine tc_block ?_
  all_goals (
   refine tc_loop (fun p : Nat × σ × Array MapEntry × Nat => p.1 ≤ lqC t i ∧ I (denseN t e i out p.1).length p.2.1 ∧ Cache (readV t.s) p.2.2.1.toList) (fun p => [(0, .func (.yield l) #[] #[]), (1, ptr b1), (2, ptr b2), (3, ptr b3), (4, ptr b4), (6, vi ((lqAt t i).1 + p.1))]) (fun _ => [(w1, S)]) (fun p => Hx p.2.1 ++ [(bm, .map p.2.2.1 p.2.2.2)]) (fun p => lqC t i - p.1) ?_ ?_
   · refine tk_start (0, s0, es0, ck0) ⟨Nat.zero_le _, h0, hc0⟩ (.cons rfl (.cons rfl (.cons rfl (.cons rfl (.cons rfl (.cons ?_ .nil)))))) (fun _ h => h)
     show some (vi (lqAt t i).1) = some (vi ((lqAt t i).1 + ((0 : Nat) : Int))); congr 2; omega
   · rintro ⟨m, st, es, ck⟩ ⟨hm, hI, hca⟩
     have hlc : (lqC t i : Int) = (lqAt t i).2 - (lqAt t i).1 + 1 := by unfold lqC; omega
     dsimp only at hm hI hca ⊢
     all_goals refine tc_seq fun K2 hK2 => ?_; refine tc_seq fun K3 hK3 => ?_; refine tc_draw (by kernel_rfl) ?_; refine tx_p 0 rfl (by kernel_rfl) (y_move rfl) rfl (fun _ _ _ h => h) (fun _ h => h) ?_; refine tx_q 1 rfl (by kernel_rfl) (y_load1o (v := ptr bw) rfl (fun w' hw' => cell0 ((hw'.fr (w0 := w1) (S := S) MI.m).keepS n1 g1) rfl)) rfl (fun _ _ _ h => h) (fun _ h => h) ?_; refine tx_p 2 rfl (by kernel_rfl) (y_nil rfl) rfl (fun _ _ _ h => h) (fun _ h => h) ?_; refine tx_p 3 rfl (by kernel_rfl) (y_field rfl) rfl (fun _ _ _ h => h) (fun _ h => h) ?_; refine tx_p 4 rfl (by kernel_rfl) (y_field rfl) rfl (fun _ _ _ h => h) (fun _ h => h) ?_; refine tx_q 5 rfl (by kernel_rfl) (y_load1o (v := .slice (some ⟨bl, ol, none⟩) t.liquids.length cp1) rfl (fun w' hw' => (hwk w' (hw'.fr (w0 := w1) (S := S) MI.m)).1)) rfl (fun _ _ _ h => h) (fun _ h => h) ?_; refine tx_q 6 rfl (by kernel_rfl) (y_load1o (v := vi i) rfl (fun w' hw' => cell0 ((hw'.fr (w0 := w1) (S := S) MI.m).keepS n2 g2) rfl)) rfl (fun _ _ _ h => h) (fun _ h => h) ?_; refine tx_p 7 rfl (by kernel_rfl) (y_index rfl rfl (by omega) rfl) rfl (fun _ _ _ h => h) (fun _ h => h) ?_; refine tx_p 8 rfl (by kernel_rfl) (y_field rfl) rfl (fun _ _ _ h => h) (fun _ h => h) ?_; ((refine tx_q 9 rfl (by kernel_rfl) (y_load1o (v := vi (lqAt t i).2) rfl (fun w' hw' => by rw [show Int.toNat (i : Int) * 2 = i * 2 from by omega]; exact ((hrd1 w' (hw'.fr (w0 := w1) (S := S) MI.m)).1.ls.at hi).2)) rfl (fun _ _ _ h => h) (fun _ h => h) ?_))
     all_goals refine tx_p 10 rfl (by kernel_rfl) (y_leq rfl rfl) rfl (fun _ _ _ h => h) (fun _ h => h) ?_; refine tx_done (by kernel_rfl) ?_; ((refine hK3 ?_; try (clear hK3; clear K3)))
     all_goals (
      refine tc_cond rfl (fun hc => ?_) (fun hc => ?_)
      · try simp only [qn1, qn2, qn3, qn4, qn5, qn6, qn7, qn8] at hc
        all_goals refine tc_skip ?_; ((refine hK2 ?_; try (clear hK2; clear K2)))
        all_goals refine tc_seq fun K4 hK4 => ?_; refine tc_block ?_; refine tc_seq fun K5 hK5 => ?_; refine tc_region ?_; refine tl_q (y_assign rfl) rfl ?_; refine tl_nil ?_; ((refine hK5 ?_; try (clear hK5; clear K5)))
        all_goals refine tc_seq fun K6 hK6 => ?_; refine tc_seq fun K7 hK7 => ?_; refine tc_region ?_; refine tl_q (y_load1o (v := ptr bw) rfl (fun w' hw' => cell0 ((hw'.fr (w0 := w1) (S := S) MI.m).keepS n1 g1) rfl)) rfl ?_; refine tl_q (y_nil rfl) rfl ?_; refine tl_q (y_field rfl) rfl ?_; refine tl_q (y_field rfl) rfl ?_; refine tl_q (y_load1o (v := .slice ad2 t.tests.length cp2) rfl (fun w' hw' => (hwk w' (hw'.fr (w0 := w1) (S := S) MI.m)).2)) rfl ?_; refine tl_q (y_len rfl) rfl ?_; refine tl_q (y_move rfl) rfl ?_; refine tl_nil ?_; ((refine hK7 ?_; try (clear hK7; clear K7)))
        all_goals refine tc_block ?_
        all_goals (
         refine tc_loop (fun q : Nat × Array MapEntry × Nat => q.1 ≤ t.tests.length ∧ Cache (readV t.s) q.2.1.toList) (fun q => [(0, .func (.yield l) #[] #[]), (1, ptr b1), (2, ptr b2), (3, ptr b3), (4, ptr b4), (6, vi ((lqAt t i).1 + m)), (7, .bool (passN t e i out ((lqAt t i).1 + m) q.1)), (36, .slice ad2 t.tests.length cp2), (37, vi t.tests.length), (38, vi q.1)]) (fun _ => [(w1, S)]) (fun q => Hx st ++ [(bm, .map q.2.1 q.2.2)]) (fun q => t.tests.length - q.1) ?_ ?_
         · exact tk_start (0, es, ck) ⟨Nat.zero_le _, hca⟩ (.cons rfl (.cons rfl (.cons rfl (.cons rfl (.cons rfl (.cons rfl (.cons rfl (.cons rfl (.cons rfl (.cons rfl .nil)))))))))) (fun _ h => h)
         · rintro ⟨j, es2, ck2⟩ ⟨hj, hca2⟩
           dsimp only at hj hca2 ⊢
           all_goals refine tc_seq fun K8 hK8 => ?_; refine tc_region ?_; refine tl_q (y_lss rfl rfl) rfl ?_; refine tl_nil ?_; ((refine hK8 ?_; try (clear hK8; clear K8)))
           all_goals refine tc_seq fun K9 hK9 => ?_
           all_goals (
            refine tc_cond rfl (fun hc => ?_) (fun hc => ?_)
            · try simp only [qn1, qn2, qn3, qn4, qn5, qn6, qn7, qn8] at hc
              all_goals refine tc_skip ?_; ((refine hK9 ?_; try (clear hK9; clear K9)))
              all_goals refine tc_seq fun K10 hK10 => ?_; refine tc_block ?_; refine tc_seq fun K11 hK11 => ?_; ((have had' := hadt (by omega); subst had'))
              all_goals ((have htj : tsB t (t.tests.getD j (0, 0, 0)) = true := List.all_eq_true.1 hv.ts _ (by rw [List.getD_eq_getElem?_getD, List.getElem?_eq_getElem (by omega)]; exact List.getElem_mem (by omega))))
              all_goals refine tc_region ?_; refine tl_q (y_move rfl) rfl ?_; refine tl_q (y_index rfl rfl (by omega) rfl) rfl ?_; ((refine tl_q (y_loadNo (n := 3) rfl (fun w' hw' => by rw [show Int.toNat (j : Int) * 3 = j * 3 from by omega]; exact (hrd1 w' (hw'.fr (w0 := w1) (S := S) MI.m)).1.ts.at (by omega))) rfl ?_))
              all_goals refine tl_e (e_allocN rfl) rfl (fun b9 _ => ?_); refine tl_q (y_assign rfl) rfl ?_; refine tl_e (e_storeW rfl rfl (by repeat constructor) (by rfl) (by rfl) (by simp [Value.oneCell'])) rfl (fun _ _ => ?_); refine tl_nil ?_; ((refine hK11 ?_; try (clear hK11; clear K11)))
              all_goals refine tc_region ?_; refine tl_q (y_move rfl) rfl ?_; refine tl_q (y_move rfl) rfl ?_; ((refine tl_gs rfl rfl (fun hc => ?_) (fun hc => ?_) <;> (try simp only [qn1, qn2, qn3, qn4, qn5, qn6, qn7, qn8] at hc) <;> (first | refine tl_sk rfl rfl rfl rfl ?_ | refine tl_qg rfl rfl (y_field rfl) rfl ?_)))
              all_goals (first | refine tl_sk rfl rfl rfl rfl ?_ | refine tl_qg rfl rfl (y_load1 rfl (by repeat constructor) (by rfl)) rfl ?_); (first | refine tl_sk rfl rfl rfl rfl ?_ | refine tl_qg rfl rfl (y_load1o (v := vi i) rfl (fun w' hw' => cell0 ((hw'.fr (w0 := w1) (S := S) MI.m).keepS n2 g2) rfl)) rfl ?_); (first | refine tl_sk rfl rfl rfl rfl ?_ | refine tl_qg rfl rfl (y_neq rfl rfl) rfl ?_); (first | refine tl_sk rfl rfl rfl rfl ?_ | refine tl_qg rfl rfl (y_move rfl) rfl ?_); ((first | refine tl_su rfl rfl rfl ?_ | (refine tl_gs rfl rfl (fun hc => ?_) (fun hc => ?_) <;> (try simp only [qn1, qn2, qn3, qn4, qn5, qn6, qn7, qn8] at hc) <;> (first | refine tl_sk rfl rfl rfl rfl ?_ | refine tl_qg rfl rfl (y_load1o (v := ov) rfl (fun w' hw' => cell0 ((hw'.fr (w0 := w1) (S := S) MI.m).keepS n3 g3) rfl)) rfl ?_))))
              all_goals (first | refine tl_sk rfl rfl rfl rfl ?_ | refine tl_qg rfl rfl (y_move rfl) rfl ?_ | refine tl_su rfl rfl rfl ?_); (first | refine tl_sk rfl rfl rfl rfl ?_ | refine tl_eg rfl rfl rfl (e_callV rfl (.cons rfl (.cons rfl .nil)) (fun w' hw' => contains_c out ho _ _ w' (hrd1 w' (hw'.fr (w0 := w1) (S := S) MI.m)).2)) (fun _ _ => ?_) | refine tl_su rfl rfl rfl ?_); (first | refine tl_sk rfl rfl rfl rfl ?_ | refine tl_qg rfl rfl (y_pick_t rfl rfl) rfl ?_ | refine tl_qg rfl rfl (y_pick_f rfl rfl) rfl ?_); (first | refine tl_sk rfl rfl rfl rfl ?_ | refine tl_qg rfl rfl (y_move rfl) rfl ?_); ((first | refine tl_sk rfl rfl rfl rfl ?_ | refine tl_su rfl rfl rfl ?_ | (refine tl_gs rfl rfl (fun hc => ?_) (fun hc => ?_) <;> (try simp only [qn1, qn2, qn3, qn4, qn5, qn6, qn7, qn8] at hc) <;> (first | refine tl_sk rfl rfl rfl rfl ?_ | refine tl_qg rfl rfl (y_load1o (v := ptr bw) rfl (fun w' hw' => cell0 ((hw'.fr (w0 := w1) (S := S) MI.m).keepS n1 g1) rfl)) rfl ?_))))
              all_goals (first | refine tl_sk rfl rfl rfl rfl ?_ | refine tl_qg rfl rfl (y_loadNo (n := 3) (vs := [vi e.1, vi e.2.1, vi e.2.2]) rfl (fun w' hw' => (CA_whole (c := (tsV e).cells) (t := 126) (f := (0, 0)) rfl).cells ((hw'.fr (w0 := w1) (S := S) MI.m).keepS n4 g4))) rfl ?_ | refine tl_su rfl rfl rfl ?_); (first | refine tl_sk rfl rfl rfl rfl ?_ | refine tl_qg rfl rfl (y_loadW rfl (by repeat constructor) (by rfl)) rfl ?_ | refine tl_su rfl rfl rfl ?_); (first | refine tl_sk rfl rfl rfl rfl ?_ | refine tl_qg rfl rfl (y_move rfl) rfl ?_ | refine tl_su rfl rfl rfl ?_); (first | refine tl_sk rfl rfl rfl rfl ?_ | refine tl_eg rfl rfl rfl (e_callU rfl (.cons rfl (.cons rfl (.cons rfl (.cons rfl .nil)))) (fun w' hw' => right_c t hv e he (t.tests.getD j (0, 0, 0)) htj ((lqAt t i).1 + m) _ _ _ _ w' bw bm es2 ck2 (hTW w' es2 ck2 (hw'.fr (w0 := w1) (S := S) MI.m) (hw'.heap _ (HM.mem (.tail (HM.app _)))) hca2)) (fun _ => .tail (HU.app _))) (fun z hz => ?_) | refine tl_su rfl rfl rfl ?_); (first | refine tl_sk rfl rfl rfl rfl ?_ | refine tl_qg rfl rfl (y_pick_t rfl rfl) rfl ?_ | refine tl_qg rfl rfl (y_pick_f rfl rfl) rfl ?_); (first | refine tl_q (y_pick_t rfl rfl) rfl ?_ | refine tl_q (y_pick_f rfl rfl) rfl ?_); refine tl_q (y_assign rfl) rfl ?_; refine tl_nil ?_; ((refine hK10 ?_; try (clear hK10; clear K10)))
              all_goals refine tc_region ?_; refine tl_q (y_add rfl rfl (by omega)) rfl ?_; refine tl_q (y_move rfl) rfl ?_; refine tl_nil ?_
              all_goals (
               first
               | (refine tk_round (j + 1, z.1, z.2) ⟨by dsimp only; omega, hz⟩ (by dsimp only; omega) (.cons rfl (.cons rfl (.cons rfl (.cons rfl (.cons rfl (.cons rfl (.cons ?_ (.cons rfl (.cons rfl (.cons rfl .nil)))))))))) (fun _ h => h.subl SB.s SB.s)
                  show some (Value.bool _) = some (Value.bool _); congr 2; rw [passN_succ]; unfold passF; simp_all)
               | (refine tk_round (j + 1, es2, ck2) ⟨by dsimp only; omega, hca2⟩ (by dsimp only; omega) (.cons rfl (.cons rfl (.cons rfl (.cons rfl (.cons rfl (.cons rfl (.cons ?_ (.cons rfl (.cons rfl (.cons rfl .nil)))))))))) (fun _ h => h.subl SB.s SB.s)
                  show some (Value.bool _) = some (Value.bool _); congr 2; rw [passN_succ]; unfold passF; simp_all))
            · try simp only [qn1, qn2, qn3, qn4, qn5, qn6, qn7, qn8] at hc
              all_goals refine tc_exit ?_; ((refine hK6 ?_; try (clear hK6; clear K6)))
              all_goals refine tc_seq fun K12 hK12 => ?_; (have hjt : j = t.tests.length := by omega)
              all_goals subst hjt
              all_goals refine tc_region ?_; refine tl_q (y_move rfl) rfl ?_; refine tl_q (y_move rfl) rfl ?_; ((refine tl_gs rfl rfl (fun hc => ?_) (fun hc => ?_) <;> (try simp only [qn1, qn2, qn3, qn4, qn5, qn6, qn7, qn8] at hc) <;> (first | refine tl_sk rfl rfl rfl rfl ?_ | refine tl_qg rfl rfl (y_move rfl) rfl ?_)))
              all_goals (first | refine tl_sk rfl rfl rfl rfl ?_ | refine tl_qg rfl rfl (y_move rfl) rfl ?_); (first | refine tl_sk rfl rfl rfl rfl ?_ | refine tl_rg rfl rfl (e_yield [(bm, .map es2 ck2)] (denseN t e i out m).length st ((lqAt t i).1 + m) rfl rfl rfl (.cons rfl .nil) rfl (denseN_get (by omega) (by assumption)) hI hY (by simp) rfl) (fun q hq => ?_)); (first | refine tl_sk rfl rfl rfl rfl ?_ | refine tl_qg rfl rfl (y_not rfl) rfl ?_); (first | refine tl_q (y_pick_t rfl rfl) rfl ?_ | refine tl_q (y_pick_f rfl rfl) rfl ?_); refine tl_nil ?_; ((refine hK12 ?_; try (clear hK12; clear K12)))
              all_goals (
               refine tc_cond rfl (fun hc => ?_) (fun hc => ?_)
               · try simp only [qn1, qn2, qn3, qn4, qn5, qn6, qn7, qn8] at hc
                 all_goals ((first | (exfalso; with_reducible exact bft hc) | skip))
                 all_goals refine tc_ret ?_; (repeat (first | refine tk_then_ret ?_ | refine tk_block_ret ?_))
                 all_goals (refine tk_ret rfl rfl .nil ?_)
                 all_goals (
                  first
                  | (rcases hq with hq | hq
                     · rw [hq.1] at hc; cases hc
                     · exact fun w' hw' => ⟨(q.2, .map es2 ck2), rfl, hw'.fr (by simp), (hw'.sub (bs' := [(w1, S)]) (by simp) (List.sublist_append_left _ _)).knS (by simp), .inr hq.2, hw'.heap _ (HM.mem (HM.app _)), es2, ck2, rfl, hca2⟩)
                  | (have hml : m = lqC t i := by omega
                     subst hml
                     exact fun w' hw' => ⟨(st, .map es ck), rfl, hw'.fr (by simp), (hw'.sub (bs' := [(w1, S)]) (by simp) (List.sublist_append_left _ _)).knS (by simp), .inl hI, hw'.heap _ (HM.mem (HM.app _)), es, ck, rfl, hca⟩))
               · try simp only [qn1, qn2, qn3, qn4, qn5, qn6, qn7, qn8] at hc
                 all_goals refine tc_skip ?_; ((refine hK4 ?_; try (clear hK4; clear K4)))
                 all_goals refine tc_region ?_; refine tl_q (y_move rfl) rfl ?_; refine tl_q (y_add rfl rfl (by omega)) rfl ?_; refine tl_q (y_assign rfl) rfl ?_; refine tl_nil ?_
                 all_goals (
                  first
                  | (have hs2 : denseN t e i out (m + 1) = denseN t e i out m ++ [(lqAt t i).1 + m] := by rw [denseN_succ, if_pos (by assumption)]
                     rcases hq with hq | hq
                     · refine tk_round (m + 1, q.2, es2, ck2) ⟨by dsimp only; omega, by dsimp only; rw [hs2, List.length_append]; exact hq.2, hca2⟩ (by dsimp only; omega) (.cons rfl (.cons rfl (.cons rfl (.cons rfl (.cons rfl (.cons ?_ .nil)))))) (fun _ h => h)
                       show some (vi _) = some (vi _); congr 2; dsimp only; omega
                     · rw [hq.1] at hc; cases hc)
                  | (have hs2 : denseN t e i out (m + 1) = denseN t e i out m := by rw [denseN_succ, if_neg (by simp_all)]
                     refine tk_round (m + 1, st, es2, ck2) ⟨by dsimp only; omega, by dsimp only; rw [hs2]; exact hI, hca2⟩ (by dsimp only; omega) (.cons rfl (.cons rfl (.cons rfl (.cons rfl (.cons rfl (.cons ?_ .nil)))))) (fun _ h => h)
                     show some (vi _) = some (vi _); congr 2; dsimp only; omega)))))
      · try simp only [qn1, qn2, qn3, qn4, qn5, qn6, qn7, qn8] at hc
        all_goals refine tc_exit ?_; refine tk_end rfl rfl .nil ?_
        all_goals (
         first
         | (rcases hq with hq | hq
            · rw [hq.1] at hc; cases hc
            · exact fun w' hw' => ⟨(q.2, .map es2 ck2), rfl, hw'.fr (by simp), (hw'.sub (bs' := [(w1, S)]) (by simp) (List.sublist_append_left _ _)).knS (by simp), .inr hq.2, hw'.heap _ (HM.mem (HM.app _)), es2, ck2, rfl, hca2⟩)
         | (have hml : m = lqC t i := by omega
            subst hml
            exact fun w' hw' => ⟨(st, .map es ck), rfl, hw'.fr (by simp), (hw'.sub (bs' := [(w1, S)]) (by simp) (List.sublist_append_left _ _)).knS (by simp), .inl hI, hw'.heap _ (HM.mem (HM.app _)), es, ck, rfl, hca⟩))))
end Go.Sp
/-
  Package trial: one density for each liquid.
-/
namespace Go.Sp
open Go Go.Proofs
theorem tk_ibe {id id' : Nat} {Q : Exit → Act → World → Prop} {N : NN} {F : List (Nat × Value)} {bs : List (World × List Nat)} {H : List (Nat × Obj)} (hne : ¬ id' = id) (h : TK (Q (.exit id')) N F bs H) : TK (Exit.inBlock id Q (.exit id')) N F bs H := by
  unfold TK at h ⊢
  intro a w ht hw
  show if id' = id then Q .normal a w else Q (.exit id') a w
  rw [if_neg hne]
  exact h a w ht hw
/-- The first densities, of the first liquids. -/
def dlN (t : Tr) (e : Int × Int × Int) (out : List Int) (n : Nat) : List Int := (List.range n).map fun i => (denseL t e i out).headD 0
theorem dlN_succ (t : Tr) (e : Int × Int × Int) (out : List Int) (n : Nat) : dlN t e out (n + 1) = dlN t e out n ++ [(denseL t e n out).headD 0] := by simp [dlN, List.range_succ]
theorem dlN_len (t : Tr) (e : Int × Int × Int) (out : List Int) (n : Nat) : (dlN t e out n).length = n := by simp [dlN]
def denOk (t : Tr) (e : Int × Int × Int) (out : List Int) : Bool := (List.range t.liquids.length).all fun i => !(denseL t e i out).isEmpty
def denD (t : Tr) (e : Int × Int × Int) (out : List Int) : List Int := if denOk t e out = true then dlN t e out t.liquids.length else []
theorem denOk_no {t : Tr} {e : Int × Int × Int} {out : List Int} {i : Nat} (hi : i < t.liquids.length) (h : (denseL t e i out).length = 0) : denOk t e out = false := by
  cases hb : denOk t e out
  · rfl
  · have := List.all_eq_true.1 hb i (List.mem_range.2 hi)
    rw [List.eq_nil_of_length_eq_zero h] at this; simp at this
theorem denOk_yes {t : Tr} {e : Int × Int × Int} {out : List Int} (h : ∀ i : Nat, i < t.liquids.length → 0 < (denseL t e i out).length) : denOk t e out = true :=
  List.all_eq_true.2 fun i hi => by
    have := h i (List.mem_range.1 hi)
    cases hd : denseL t e i out with
    | nil => rw [hd] at this; simp at this
    | cons _ _ => rfl
/-- The cell of the result, its own block, and the rest. -/
def dnH (t : Tr) (e : Int × Int × Int) (out : List Int) (b6 b4 : Nat) (Ds : List Nat) : OutS → List (Nat × Obj)
  | (_, none) => (b6, .cells #[.slice none 0 0] 22 (0, 0)) :: (b4, .cells (tsV e).cells 126 (0, 0)) :: Dl Ds
  | (n, some (b, cap, junk)) => (b, .cells ((dlN t e out n).map vi ++ junk).toArray 3 (0, 0)) :: (b6, .cells #[.slice (some ⟨b, 0, none⟩) n cap] 22 (0, 0)) :: (b4, .cells (tsV e).cells 126 (0, 0)) :: Dl Ds
def outM : OutS → Prop
  | (n, none) => n = 0
  | (n, some (_, cap, junk)) => n ≤ cap ∧ junk.length = cap - n
theorem nodup4 {a b c d : Nat} {M : List Nat} (h : (a :: b :: c :: d :: M).Nodup) : a ∉ M ∧ b ∉ M ∧ c ∉ M ∧ d ∉ M := by
  simp only [List.nodup_cons, List.mem_cons, not_or] at h
  exact ⟨h.1.2.2.2, h.2.1.2.2, h.2.2.1.2, h.2.2.2.1⟩
theorem den_seq (t : Tr) (hv : VT t) (e : Int × Int × Int) (he : ErB e) (out : List Int) (ho : (out.length : Int) ≤ 9000000000000000000) (oa : Option Addr) (oc : Nat) (sl pl ll tl : Value) (w : World) (bw bm : Nat) (es : Array MapEntry) (ck : Nat) (hT : TW w t sl pl ll tl bw bm es ck) (hO : RdI w (.slice oa out.length oc) out) (i : Nat) (hi : i < t.liquids.length) (w' : World) (x : Nat × Nat × Nat × Nat) {bs : List (World × List Nat)} (ob : Obj) (H : List (Nat × Obj))
    (hw : HG bs ([(x.2.2.1, Obj.cells #[.slice oa out.length oc] 22 (0, 0)), (x.2.1, .cells #[vi i] 3 (0, 0)), (x.2.2.2, .cells (tsV e).cells 126 (0, 0)), (x.1, .cells #[ptr bw] 130 (0, 0))] ++ (bm, ob) :: H) w') (hb : (w, [bm]) ∈ bs) :
    SeqP Tryz.prog 154 #[ptr x.1, ptr x.2.1, ptr x.2.2.1, ptr x.2.2.2] (fun d : Int => [vi d]) (denseL t e i out) bm (JMt t) (bm :: H.map Prod.fst) w' := by
  have hn := hw.nodup
  simp only [List.cons_append, List.nil_append, List.map_cons] at hn
  obtain ⟨n1, n2, n3, n4⟩ := nodup4 hn
  have hbwlt : bw < w.heap.size := (Array.getElem?_eq_some_iff.1 hT.hw).1
  have hf := hw.base _ hb
  have hown : ∀ z ∈ bm :: H.map Prod.fst, z ∈ [bm] ∨ w.heap.size ≤ z := fun z hz => by
    rcases List.mem_cons.1 hz with rfl | hz
    · exact .inl (by simp)
    · obtain ⟨q, hq, rfl⟩ := List.mem_map.1 hz
      exact hw.own q (by simp [hq]) _ hb
  refine dense_seq t hv e he i hi out ho _ sl pl ll tl w' bw bm x.1 x.2.1 x.2.2.1 x.2.2.2 _ (hw.heap (x.1, .cells #[ptr bw] 130 (0, 0)) (by simp)) (hw.heap (x.2.1, .cells #[vi i] 3 (0, 0)) (by simp)) (hw.heap (x.2.2.1, Obj.cells #[.slice oa out.length oc] 22 (0, 0)) (by simp)) (hw.heap (x.2.2.2, .cells (tsV e).cells 126 (0, 0)) (by simp)) n4 n2 n1 n3 (hf.keepS (by simpa using hT.ne) hT.hw) (fun h => ?_) (by simp) hT.o1 hT.o2 hT.o3 hT.o4 (fun w2 f => ?_)
  · rcases hown _ h with g | g
    · exact hT.ne (by simpa using g)
    · omega
  · have f2 := hf.trans f hown
    exact ⟨hT.rd.frM f2 (fun x hx => by obtain rfl := List.mem_singleton.1 hx; exact ⟨es, ck, hT.hm⟩), Reads.frM hO f2 (fun x hx => by obtain rfl := List.mem_singleton.1 hx; exact ⟨es, ck, hT.hm⟩)⟩
set_option maxHeartbeats 1000000 in
theorem densities_c (t : Tr) (hv : VT t) (e : Int × Int × Int) (he : ErB e) (out : List Int) (ho : (out.length : Int) ≤ 9000000000000000000) (oa : Option Addr) (oc : Nat) (sl pl ll tl : Value) (w : World) (bw bm : Nat) (es : Array MapEntry) (ck : Nat) (hT : TW w t sl pl ll tl bw bm es ck) (hO : RdI w (.slice oa out.length oc) out) :
    CnX Tryz.prog 112 #[ptr bw, tsV e, .slice oa out.length oc] w [bm] (fun y : Value × Array MapEntry × Nat => .tuple #[y.1, .bool (denOk t e out)]) (fun y w' => (RdI w' y.1 (denD t e out) ∧ Cache (readV t.s) y.2.1.toList) ∧ w'.heap[bm]? = some (.map y.2.1 y.2.2)) := by
  have hne := hT.ne
  have hl3 := hv.l3
  have hbwlt : bw < w.heap.size := (Array.getElem?_eq_some_iff.1 hT.hw).1
  have hkeep : ∀ w', Fr [bm] w w' → w'.heap[bw]? = some (wkT t sl pl ll tl bm) := fun w' f => f.keepS (by simpa using hne) hT.hw
  have hrd : ∀ w', Fr [bm] w w' → RdTr w' t sl pl ll tl ∧ RdI w' (.slice oa out.length oc) out := fun w' f =>
    ⟨hT.rd.frM f (fun x hx => by obtain rfl := List.mem_singleton.1 hx; exact ⟨es, ck, hT.hm⟩), Reads.frM hO f (fun x hx => by obtain rfl := List.mem_singleton.1 hx; exact ⟨es, ck, hT.hm⟩)⟩
  obtain ⟨ad1, cp1, bl, ol, rfl, _, _⟩ := hT.rd.ls.open
  refine cnxS (vs := [_, _, _]) (S := [bm]) [(bm, .map es ck)] Tryz.func112 rfl rfl ⟨by simp [hT.hm], by simp, by simp⟩ ?_
  all_goals refine tc_seq fun K1 hK1 => ?_; refine tc_region ?_; refine tl_e (e_box rfl rfl rfl) rfl (fun b4 _ => ?_); refine tl_e (e_alloc1 rfl) rfl (fun b6 _ => ?_); refine tl_q (y_assign rfl) rfl ?_; refine tl_nil ?_; ((refine hK1 ?_; try (clear hK1; clear K1)))
  all_goals refine tc_seq fun K2 hK2 => ?_; refine tc_seq fun K3 hK3 => ?_; refine tc_region ?_; refine tl_q (y_move rfl) rfl ?_; refine tl_q (y_nil rfl) rfl ?_; refine tl_q (y_field rfl) rfl ?_; refine tl_q (y_field rfl) rfl ?_; refine tl_q (y_load1o (v := .slice ad1 t.liquids.length cp1) rfl (fun w' hw' => cell0 (hkeep w' (hw'.fr (w0 := w) (S := [bm]) MI.m)) rfl)) rfl ?_; refine tl_q (y_len rfl) rfl ?_; refine tl_q (y_move rfl) rfl ?_; refine tl_nil ?_; ((refine hK3 ?_; try (clear hK3; clear K3)))
  all_goals refine tc_block ?_
  all_goals (
   refine tc_loopN (fun p : Nat × Option (Nat × Nat × List Value) × (Array MapEntry × Nat) × List Nat => p.1 ≤ t.liquids.length ∧ outM (p.1, p.2.1) ∧ Cache (readV t.s) p.2.2.1.1.toList ∧ ∀ j : Nat, j < p.1 → 0 < (denseL t e j out).length) (fun p => ⟨Tryz.f112.ntmps, p.2.2.2.map coll⟩) (fun p => [(0, ptr bw), (2, .slice oa out.length oc), (4, ptr b4), (6, ptr b6), (15, vi t.liquids.length), (16, vi p.1)]) (fun _ => [(w, [bm])]) (fun p => (bm, .map p.2.2.1.1 p.2.2.1.2) :: dnH t e out b6 b4 p.2.2.2 (p.1, p.2.1)) (fun p => t.liquids.length - p.1) ?_ ?_
   · exact tk_startN (0, none, (es, ck), []) ⟨Nat.zero_le _, rfl, hT.hc, fun j hj => absurd hj (Nat.not_lt_zero j)⟩ rfl (.cons rfl (.cons rfl (.cons rfl (.cons rfl (.cons rfl (.cons rfl .nil)))))) (fun _ h => h.perm (List.perm_append_comm (l₁ := [_, _]) (l₂ := [_])))
   · rintro ⟨i, oo, ⟨es2, ck2⟩, Ds⟩ ⟨hi, hok, hca, hall⟩
     dsimp only at hi hok hca hall ⊢
     refine tc_fact (bm ∉ (dnH t e out b6 b4 Ds (i, oo)).map Prod.fst) (fun w' h => (List.nodup_cons.1 h.nodup).1) (fun hbm0 => ?_)
     rcases oo with _ | ⟨b0, cap, junk⟩
     all_goals ((dsimp only [outM] at hok; dsimp only [dnH]))
     all_goals refine tc_seq fun K4 hK4 => ?_; refine tc_region ?_; refine tl_q (y_lss rfl rfl) rfl ?_; refine tl_nil ?_; ((refine hK4 ?_; try (clear hK4; clear K4)))
     all_goals refine tc_seq fun K5 hK5 => ?_
     all_goals (
      refine tc_cond rfl (fun hc => ?_) (fun hc => ?_)
      · try simp only [qn1, qn2, qn3, qn4, qn5, qn6, qn7, qn8] at hc
        all_goals refine tc_skip ?_; ((refine hK5 ?_; try (clear hK5; clear K5)))
        all_goals refine tc_seq fun K6 hK6 => ?_; refine tc_block ?_; refine tc_seq fun K7 hK7 => ?_; refine tc_region ?_; refine tl_q (y_move rfl) rfl ?_; refine tl_q (y_assign rfl) rfl ?_; refine tl_nil ?_; ((refine hK7 ?_; try (clear hK7; clear K7)))
        all_goals refine tc_seq fun K8 hK8 => ?_; refine tc_seq fun K9 hK9 => ?_; refine tc_region ?_; refine tl_q (y_move rfl) rfl ?_; refine tl_q (y_loadW rfl (by repeat constructor) (by rfl)) rfl ?_; refine tl_q (y_move rfl) rfl ?_; refine tl_q (y_move rfl) rfl ?_; refine tl_e (e_callN rfl (.cons rfl (.cons rfl (.cons rfl (.cons rfl .nil)))) (fun w' hw' => tdense_c e i bw oa out.length oc w')) rfl (fun x hx => ?_); refine tl_nil ?_; ((refine hK9 ?_; try (clear hK9; clear K9)))
        all_goals refine tc_block ?_
        all_goals (
         first
         | refine tc_rangeP (α := Int) (σ := OutS) (gf := 154) (lb := #[ptr x.1, ptr x.2.1, ptr x.2.2.1, ptr x.2.2.2]) (enc := fun d => [vi d]) (denseL t e i out) (bm :: (dnH t e out b6 b4 Ds (i, none)).map Prod.fst) bm (.map es2 ck2) (JMt t) (dnH t e out b6 b4 Ds) (fun k st => k = 0 ∧ st = (i, none)) (fun c st => c = .exit 2 ∧ outM st ∧ st.1 = i + 1 ∧ st.2.isSome = true ∧ 0 < (denseL t e i out).length ∧ bm ∉ (dnH t e out b6 b4 Ds st).map Prod.fst) (i, none) rfl rfl (fun _ => rfl) ⟨rfl, rfl⟩ (fun q hq => List.mem_cons_of_mem _ (List.mem_map.2 ⟨q, hq, rfl⟩)) (fun w' h => h.subl SB.s SB.s) (by simp) ⟨es2, ck2, rfl, hca⟩ (fun st h => by rcases h with ⟨_, _, rfl⟩ | ⟨_, _, _, _, _, _, h⟩; exact hbm0; exact h) (fun w' hw' => den_seq t hv e he out ho oa oc sl pl _ tl w bw bm es ck hT hO i (by omega) w' x _ _ hw' (by simp)) ?_ ?_ ?_
         | refine tc_rangeP (α := Int) (σ := OutS) (gf := 154) (lb := #[ptr x.1, ptr x.2.1, ptr x.2.2.1, ptr x.2.2.2]) (enc := fun d => [vi d]) (denseL t e i out) (bm :: (dnH t e out b6 b4 Ds (i, some (b0, cap, junk))).map Prod.fst) bm (.map es2 ck2) (JMt t) (dnH t e out b6 b4 Ds) (fun k st => k = 0 ∧ st = (i, some (b0, cap, junk))) (fun c st => c = .exit 2 ∧ outM st ∧ st.1 = i + 1 ∧ st.2.isSome = true ∧ 0 < (denseL t e i out).length ∧ bm ∉ (dnH t e out b6 b4 Ds st).map Prod.fst) (i, some (b0, cap, junk)) rfl rfl (fun _ => rfl) ⟨rfl, rfl⟩ (fun q hq => List.mem_cons_of_mem _ (List.mem_map.2 ⟨q, hq, rfl⟩)) (fun w' h => h.subl SB.s SB.s) (by simp) ⟨es2, ck2, rfl, hca⟩ (fun st h => by rcases h with ⟨_, _, rfl⟩ | ⟨_, _, _, _, _, _, h⟩; exact hbm0; exact h) (fun w' hw' => den_seq t hv e he out ho oa oc sl pl _ tl w bw bm es ck hT hO i (by omega) w' x _ _ hw' (by simp)) ?_ ?_ ?_
         · intro l R0 R1 k st d w2 hlb hb2 hx2 hI K hK
           obtain ⟨rfl, rfl⟩ := hI
           have hdp : 0 < (denseL t e i out).length := (List.getElem?_eq_some_iff.1 hx2).1
           have hdh : (denseL t e i out).headD 0 = d := by rw [List.headD_eq_head?_getD, List.head?_eq_getElem?, hx2]; rfl
           all_goals (dsimp only [dnH] at hK ⊢)
           all_goals refine tc_region ?_; refine tl_q (y_assign rfl) rfl ?_; refine tl_nil ?_; refine hK ?_; clear hK
           all_goals refine tc_block ?_; refine tc_seq fun K10 hK10 => ?_; refine tc_region ?_; refine tl_q (y_load1 rfl (by repeat constructor) (by rfl)) rfl ?_; refine tl_q (y_move rfl) rfl ?_; (refine tl_e (e_bslice rfl (by (repeat (first | exact .nil | apply PV.one rfl rfl)); done) rfl rfl) rfl (fun _ _ => ?_))
           all_goals ((first | refine tl_e (e_append_own (old := (dlN t e out i).map vi) (junk := junk) rfl rfl rfl (by repeat constructor) (by simp [dlN_len]) (by omega) hok.1 (fun w' hw' => RdI.own0 (xs := [d]) hw' (by repeat constructor)) (fun u hu => by obtain ⟨_, _, rfl⟩ := List.mem_map.1 hu; rfl) (by simp only [List.length_cons, List.length_nil]; omega) rfl) rfl (fun y hy => ?_) | refine tl_e (e_append_nil rfl rfl rfl (fun w' hw' => RdI.own0 (xs := [d]) hw' (by repeat constructor)) (fun u hu => by obtain ⟨_, _, rfl⟩ := List.mem_map.1 hu; rfl) Nat.zero_lt_one (Nat.le_of_ble_eq_true rfl) rfl) rfl (fun y hy => ?_)))
           all_goals refine tl_e (e_store1 rfl rfl (by repeat constructor) (by repeat constructor) (by rfl) (by rfl)) rfl (fun _ _ => ?_); refine tl_nil ?_; ((refine hK10 ?_; try (clear hK10; clear K10)))
           all_goals refine tc_exit ?_
           all_goals (
            refine tk_ibe (by decide) ?_
            refine tk_fact (y.1 ≠ bm) (fun w' h => ?_) (fun hyb => ?_)
            · intro hyb
              rcases h.own (y.1, _) List.mem_cons_self (w2, _) List.mem_cons_self with g | g
              · rw [hyb] at g
                rcases List.mem_cons.1 g with g | g
                · exact hlb g.symm
                · exact hbm0 g
              · dsimp only at g; omega
            · have hs2 := dlN_succ t e out i
              rw [hdh] at hs2
              refine tk_rexit (i + 1, some (y.1, y.2.1, y.2.2)) ⟨rfl, ?_, rfl, rfl, hdp, ?_⟩ (fun w' h => ?_)
              · dsimp only [outM]; simp only [List.length_cons, List.length_nil] at hy; omega
              · dsimp only [dnH] at hbm0 ⊢
                simp only [List.map_cons, List.mem_cons, not_or] at hbm0 ⊢
                first
                | exact ⟨Ne.symm hyb, hbm0.1, hbm0.2⟩
                | exact ⟨Ne.symm hyb, hbm0.2.1, hbm0.2.2⟩
              · dsimp only [dnH]
                rw [hs2, List.map_append]
                first
                | (rw [show dlN t e out i = [] from List.eq_nil_of_length_eq_zero (by rw [dlN_len]; exact hok), List.map_nil, List.nil_append, show i + 1 = [d].length from by simp only [List.length_cons, List.length_nil]; omega]
                   exact (h.subl SB.s SB.s).sw)
                | exact (h.subl SB.s SB.s).sw)
         · intro D st o' hJo hI
           obtain ⟨hl0, rfl⟩ := hI
           obtain ⟨es3, ck3, rfl, hca3⟩ := hJo
           dsimp only [dnH]
           all_goals ((refine hK8 ?_; try (clear hK8; clear K8)))
           all_goals refine tc_seq fun K11 hK11 => ?_; refine tc_region ?_; refine tl_q (y_load1 rfl (by repeat constructor) (by rfl)) rfl ?_; refine tl_q (y_len rfl) rfl ?_; refine tl_q (y_move rfl) rfl ?_; refine tl_q (y_leq rfl rfl) rfl ?_; refine tl_nil ?_; ((refine hK11 ?_; try (clear hK11; clear K11)))
           all_goals (
            refine tc_cond rfl (fun hc => ?_) (fun hc => ?_)
            · try simp only [qn1, qn2, qn3, qn4, qn5, qn6, qn7, qn8] at hc
              all_goals refine tc_seq fun K12 hK12 => ?_; refine tc_region ?_; refine tl_e (e_store1 rfl rfl (by repeat constructor) (by repeat constructor) (by rfl) (by rfl)) rfl (fun _ _ => ?_); refine tl_q (y_assign rfl) rfl ?_; refine tl_nil ?_; ((refine hK12 ?_; try (clear hK12; clear K12)))
              all_goals refine tc_ret ?_; (repeat (first | refine tk_then_ret ?_ | refine tk_block_ret ?_))
              all_goals (first
              | refine tk_retD (D :: Ds) rfl (fun _ h => h.perm (.cons _ (List.perm_append_comm (l₁ := [_, _, _])))) rfl (.cons (.one inferInstance rfl (by repeat constructor) (by rfl)) (.cons (.tmp rfl) .nil)) ?_
              | refine tk_retD (D :: Ds) rfl (fun _ h => h.perm (.cons _ (List.perm_append_comm (l₁ := [_, _, _, _])))) rfl (.cons (.one inferInstance rfl (by repeat constructor) (by rfl)) (.cons (.tmp rfl) .nil)) ?_
              | refine tk_retD Ds rfl (fun _ h => h.perm (List.perm_append_comm (l₁ := [_, _, _]))) rfl (.cons (.one inferInstance rfl (by repeat constructor) (by rfl)) (.cons (.tmp rfl) .nil)) ?_
              | refine tk_retD Ds rfl (fun _ h => h.perm (List.perm_append_comm (l₁ := [_, _, _, _]))) rfl (.cons (.one inferInstance rfl (by repeat constructor) (by rfl)) (.cons (.tmp rfl) .nil)) ?_)
              all_goals (
               first
               | (have hno := denOk_no (t := t) (e := e) (out := out) (i := i) (by omega) hl0
                  exact fun w' hw' => ⟨(.slice none 0 0, es3, ck3), by rw [hno]; rfl, hw'.fr (by simp), ⟨by unfold denD; rw [hno]; exact RdI.nil _, hca3⟩, hw'.heap _ (HM.mem (b := bm) (by repeat constructor))⟩)
               | (have hil : i = t.liquids.length := by omega
                  subst hil
                  have hyes := denOk_yes (t := t) (e := e) (out := out) hall
                  refine fun w' hw' => ⟨(.slice (some ⟨b0, 0, none⟩) t.liquids.length cap, es2, ck2), by rw [hyes]; rfl, hw'.fr (by simp), ⟨?_, hca⟩, hw'.heap _ (HM.mem (b := bm) (by repeat constructor))⟩
                  have := RdI.own (xs := dlN t e out t.liquids.length) (cap := cap) (junk := junk) hw' (b := b0) (by repeat constructor)
                  rw [dlN_len] at this
                  unfold denD; rw [if_pos hyes]; exact this)
               | (have := hv.l1; exfalso; omega))
            · try simp only [qn1, qn2, qn3, qn4, qn5, qn6, qn7, qn8] at hc
              all_goals ((exfalso; omega))
              all_goals (
               refine tk_roundN (i + 1, some (b2, cap2, junk2), (es3, ck3), D :: Ds) ⟨by dsimp only; omega, hok2, hca3, fun j hj => ?_⟩ (by dsimp only; omega) rfl (.cons rfl (.cons rfl (.cons rfl (.cons rfl (.cons rfl (.cons rfl .nil)))))) (fun _ h => h.perm (List.perm_middle (l₁ := [_, _, _, _])).symm)
               rcases Nat.lt_succ_iff_lt_or_eq.1 hj with g | rfl
               · exact hall j g
               · exact hdp))
         · intro D c st o' hJo hJ
           obtain ⟨rfl, hok2, hst, hsome, hdp, _⟩ := hJ
           obtain ⟨es3, ck3, rfl, hca3⟩ := hJo
           obtain ⟨n, o2⟩ := st
           rcases o2 with _ | ⟨b2, cap2, junk2⟩
           · simp at hsome
           dsimp only at hst
           subst hst
           dsimp only [dnH, outM] at hok2 ⊢
           all_goals refine tc_exit ?_; ((refine hK8 ?_; try (clear hK8; clear K8)))
           all_goals refine tc_seq fun K13 hK13 => ?_; refine tc_region ?_; refine tl_q (y_load1 rfl (by repeat constructor) (by rfl)) rfl ?_; refine tl_q (y_len rfl) rfl ?_; refine tl_q (y_move rfl) rfl ?_; refine tl_q (y_leq rfl rfl) rfl ?_; refine tl_nil ?_; ((refine hK13 ?_; try (clear hK13; clear K13)))
           all_goals (
            refine tc_cond rfl (fun hc => ?_) (fun hc => ?_)
            · try simp only [qn1, qn2, qn3, qn4, qn5, qn6, qn7, qn8] at hc
              all_goals ((exfalso; omega))
              all_goals (first
              | refine tk_retD (D :: Ds) rfl (fun _ h => h.perm (.cons _ (List.perm_append_comm (l₁ := [_, _, _])))) rfl (.cons (.one inferInstance rfl (by repeat constructor) (by rfl)) (.cons (.tmp rfl) .nil)) ?_
              | refine tk_retD (D :: Ds) rfl (fun _ h => h.perm (.cons _ (List.perm_append_comm (l₁ := [_, _, _, _])))) rfl (.cons (.one inferInstance rfl (by repeat constructor) (by rfl)) (.cons (.tmp rfl) .nil)) ?_
              | refine tk_retD Ds rfl (fun _ h => h.perm (List.perm_append_comm (l₁ := [_, _, _]))) rfl (.cons (.one inferInstance rfl (by repeat constructor) (by rfl)) (.cons (.tmp rfl) .nil)) ?_
              | refine tk_retD Ds rfl (fun _ h => h.perm (List.perm_append_comm (l₁ := [_, _, _, _]))) rfl (.cons (.one inferInstance rfl (by repeat constructor) (by rfl)) (.cons (.tmp rfl) .nil)) ?_)
            · try simp only [qn1, qn2, qn3, qn4, qn5, qn6, qn7, qn8] at hc
              all_goals refine tc_skip ?_; ((refine hK6 ?_; try (clear hK6; clear K6)))
              all_goals refine tc_region ?_; refine tl_q (y_add rfl rfl (by omega)) rfl ?_; refine tl_q (y_move rfl) rfl ?_; refine tl_nil ?_
              all_goals (
               refine tk_roundN (i + 1, some (b2, cap2, junk2), (es3, ck3), D :: Ds) ⟨by dsimp only; omega, hok2, hca3, fun j hj => ?_⟩ (by dsimp only; omega) rfl (.cons rfl (.cons rfl (.cons rfl (.cons rfl (.cons rfl (.cons rfl .nil)))))) (fun _ h => h.perm (List.perm_middle (l₁ := [_, _, _, _])).symm)
               rcases Nat.lt_succ_iff_lt_or_eq.1 hj with g | rfl
               · exact hall j g
               · exact hdp)))
      · try simp only [qn1, qn2, qn3, qn4, qn5, qn6, qn7, qn8] at hc
        all_goals refine tc_exit ?_; ((refine hK2 ?_; try (clear hK2; clear K2)))
        all_goals refine tc_seq fun K15 hK15 => ?_; refine tc_region ?_; refine tl_q (y_load1 rfl (by repeat constructor) (by rfl)) rfl ?_; refine tl_e (e_store1 rfl rfl (by repeat constructor) (by repeat constructor) (by rfl) (by rfl)) rfl (fun _ _ => ?_); refine tl_q (y_assign rfl) rfl ?_; refine tl_nil ?_; ((refine hK15 ?_; try (clear hK15; clear K15)))
        all_goals refine tc_ret ?_; (repeat (first | refine tk_then_ret ?_))
        all_goals (first
        | refine tk_retD (D :: Ds) rfl (fun _ h => h.perm (.cons _ (List.perm_append_comm (l₁ := [_, _, _])))) rfl (.cons (.one inferInstance rfl (by repeat constructor) (by rfl)) (.cons (.tmp rfl) .nil)) ?_
        | refine tk_retD (D :: Ds) rfl (fun _ h => h.perm (.cons _ (List.perm_append_comm (l₁ := [_, _, _, _])))) rfl (.cons (.one inferInstance rfl (by repeat constructor) (by rfl)) (.cons (.tmp rfl) .nil)) ?_
        | refine tk_retD Ds rfl (fun _ h => h.perm (List.perm_append_comm (l₁ := [_, _, _]))) rfl (.cons (.one inferInstance rfl (by repeat constructor) (by rfl)) (.cons (.tmp rfl) .nil)) ?_
        | refine tk_retD Ds rfl (fun _ h => h.perm (List.perm_append_comm (l₁ := [_, _, _, _]))) rfl (.cons (.one inferInstance rfl (by repeat constructor) (by rfl)) (.cons (.tmp rfl) .nil)) ?_)
        all_goals (
         first
         | (have hno := denOk_no (t := t) (e := e) (out := out) (i := i) (by omega) hl0
            exact fun w' hw' => ⟨(.slice none 0 0, es3, ck3), by rw [hno]; rfl, hw'.fr (by simp), ⟨by unfold denD; rw [hno]; exact RdI.nil _, hca3⟩, hw'.heap _ (HM.mem (b := bm) (by repeat constructor))⟩)
         | (have hil : i = t.liquids.length := by omega
            subst hil
            have hyes := denOk_yes (t := t) (e := e) (out := out) hall
            refine fun w' hw' => ⟨(.slice (some ⟨b0, 0, none⟩) t.liquids.length cap, es2, ck2), by rw [hyes]; rfl, hw'.fr (by simp), ⟨?_, hca⟩, hw'.heap _ (HM.mem (b := bm) (by repeat constructor))⟩
            have := RdI.own (xs := dlN t e out t.liquids.length) (cap := cap) (junk := junk) hw' (b := b0) (by repeat constructor)
            rw [dlN_len] at this
            unfold denD; rw [if_pos hyes]; exact this)
         | (have := hv.l1; exfalso; omega))))
end Go.Sp
/-
  Package trial: all errors, one after the other.
-/
namespace Go.Sp
open Go Go.Proofs
def nth3 (W n k : Nat) : Int × Int × Int := (((k % (2 * W + 1) : Nat) : Int) - W, if 2 ≤ n then ((k / (2 * W + 1) % (2 * W + 1) : Nat) : Int) - W else 0, if 3 ≤ n then ((k / (2 * W + 1) / (2 * W + 1) % (2 * W + 1) : Nat) : Int) - W else 0)
def cntE (W n : Nat) : Nat := (2 * W + 1) ^ n
def lastE (W n : Nat) : Int × Int × Int := (if 0 < n then (W : Int) else 0, if 1 < n then (W : Int) else 0, if 2 < n then (W : Int) else 0)
def iniE (W n : Nat) : Int × Int × Int := (if 0 < n then -(W : Int) else 0, if 1 < n then -(W : Int) else 0, if 2 < n then -(W : Int) else 0)
def stepE (W : Nat) (e : Int × Int × Int) : Int × Int × Int := if ¬ e.1 = W then (e.1 + 1, e.2) else if ¬ e.2.1 = W then (-(W : Int), e.2.1 + 1, e.2.2) else (-(W : Int), -(W : Int), e.2.2 + 1)
theorem nth_all : ∀ W : Fin 4, ∀ n : Fin 4, 1 ≤ n.1 → ∀ k : Fin 343, k.1 < cntE W n → (nth3 W n k = lastE W n ↔ k.1 = cntE W n - 1) ∧ (k.1 + 1 < cntE W n → stepE W (nth3 W n k) = nth3 W n (k.1 + 1) ∧ ¬ ((nth3 W n k).1 = W.1 ∧ (nth3 W n k).2.1 = W.1 ∧ (nth3 W n k).2.2 = W.1)) := by decide +kernel
theorem ini_all : ∀ W : Fin 4, ∀ n : Fin 4, 1 ≤ n.1 → iniE W n = nth3 W n 0 ∧ 0 < cntE W n ∧ cntE W n ≤ 343 := by decide +kernel
theorem nth_bd {W n k : Nat} (hW : W ≤ 3) : ErB (nth3 W n k) := by
  unfold ErB nth3
  dsimp only
  have h1 := Nat.mod_lt k (show 0 < 2 * W + 1 by omega)
  have h2 := Nat.mod_lt (k / (2 * W + 1)) (show 0 < 2 * W + 1 by omega)
  have h3 := Nat.mod_lt (k / (2 * W + 1) / (2 * W + 1)) (show 0 < 2 * W + 1 by omega)
  generalize k % (2 * W + 1) = a at h1 ⊢
  generalize k / (2 * W + 1) % (2 * W + 1) = b at h2 ⊢
  generalize k / (2 * W + 1) / (2 * W + 1) % (2 * W + 1) = c at h3 ⊢
  refine ⟨by omega, ?_, ?_⟩
  · split <;> omega
  · split <;> omega
def everyL (t : Tr) : List (Int × Int × Int) := (List.range (cntE t.worst.toNat t.parts.length)).map (nth3 t.worst.toNat t.parts.length)
def midE (W : Nat) (e : Int × Int × Int) (i : Nat) : Int × Int × Int := (if 0 < i then -(W : Int) else e.1, if 1 < i then -(W : Int) else e.2.1, e.2.2)
theorem mid_bd {W : Nat} {e : Int × Int × Int} (hW : W ≤ 3) (he : ErB e) (i : Nat) : ErB (midE W e i) := by
  obtain ⟨h1, h2, h3⟩ := he
  unfold ErB midE
  dsimp only
  refine ⟨?_, ?_, h3⟩
  · split <;> omega
  · split <;> omega
theorem stepE_0 {W : Nat} {e : Int × Int × Int} (h : ¬ e.1 = W) : stepE W e = (e.1 + 1, e.2) := by unfold stepE; rw [if_pos h]
theorem stepE_1 {W : Nat} {e : Int × Int × Int} (h0 : e.1 = W) (h : ¬ e.2.1 = W) : stepE W e = (-(W : Int), e.2.1 + 1, e.2.2) := by unfold stepE; rw [if_neg (fun g => g h0), if_pos h]
theorem stepE_2 {W : Nat} {e : Int × Int × Int} (h0 : e.1 = W) (h : e.2.1 = W) : stepE W e = (-(W : Int), -(W : Int), e.2.2 + 1) := by unfold stepE; rw [if_neg (fun g => g h0), if_neg (fun g => g h)]
theorem lt_last {W n k : Nat} (hlast : nth3 W n k = lastE W n ↔ k = cntE W n - 1) (hk : k < cntE W n) (hc : ¬((nth3 W n k).1 = (lastE W n).1 ∧ (nth3 W n k).2.1 = (lastE W n).2.1 ∧ (nth3 W n k).2.2 = (lastE W n).2.2)) : k + 1 < cntE W n := by
  have h1 : ¬ nth3 W n k = lastE W n := fun h => hc (by rw [h]; exact ⟨rfl, rfl, rfl⟩)
  have h2 := mt hlast.2 h1
  omega
theorem yq {b : Bool} {A B : Prop} (h : b = true ∧ A ∨ b = false ∧ B) (hb : b = true) : A := by
  rcases h with h | h
  · exact h.2
  · rw [h.1] at hb; cases hb
theorem yq2 {b : Bool} {A B : Prop} (h : b = true ∧ A ∨ b = false ∧ B) (hb : b = false) : B := by
  rcases h with h | h
  · rw [h.1] at hb; cases hb
  · exact h.2
theorem tevery_c (bw : Nat) (w : World) :
    CnX Tryz.prog 145 #[ptr bw] w [] (fun b : Nat => .func (.func 177) #[] #[ptr b])
    (fun b w' => True ∧ w.heap.size ≤ b ∧ w'.heap[b]? = some (.cells #[ptr bw] 130 (0, 0))) := by
  refine cnx0 (vs := [_]) Tryz.func145 rfl rfl ?_
  all_goals refine tc_seq fun K1 hK1 => ?_; refine tc_region ?_; refine tl_e (e_box rfl rfl rfl) rfl (fun b _ => ?_); refine tl_q (y_assign rfl) rfl ?_; refine tl_nil ?_; ((refine hK1 ?_; try (clear hK1; clear K1)))
  all_goals refine tc_seq fun K2 hK2 => ?_; refine tc_region ?_; refine tl_q (y_fn .nil (.cons rfl .nil)) rfl ?_; refine tl_q (y_assign rfl) rfl ?_; refine tl_nil ?_; ((refine hK2 ?_; try (clear hK2; clear K2)))
  all_goals refine tc_ret ?_; (repeat (first | refine tk_then_ret ?_))
  all_goals (refine tk_ret rfl rfl (.cons (.tmp rfl) .nil) ?_)
  all_goals (
   exact fun w' hw' => ⟨b, rfl, hw'.fr (by simp), trivial, (hw'.own _ (HM.mem (b := b) (by repeat constructor)) (w, []) (by simp)).resolve_left (by simp), hw'.heap _ (HM.mem (by repeat constructor))⟩)
theorem every_seq (t : Tr) (hv : VT t) (sl pl ll tl : Value) (hpl : ∃ ad cp, pl = .slice ad t.parts.length cp) (w : World) (bw bm b1 : Nat) (S0 : List Nat) (h1 : w.heap[b1]? = some (.cells #[ptr bw] 130 (0, 0))) (hb1 : b1 ∉ S0) (hbw : w.heap[bw]? = some (wkT t sl pl ll tl bm)) (hbwS : bw ∉ S0) :
    Seq Tryz.prog 177 #[ptr b1] (fun e : Int × Int × Int => [tsV e]) (everyL t) S0 w := by
  intro σ l S Hx I J s0 w1 f0 hS hK0 h0 hY
  obtain ⟨adp, cpp, rfl⟩ := hpl
  obtain ⟨W, hW⟩ : ∃ W : Nat, t.worst = (W : Int) := ⟨t.worst.toNat, by have := hv.w; omega⟩
  have hW3 : W ≤ 3 := by have := hv.w; omega
  have hWn : t.worst.toNat = W := by omega
  obtain ⟨n, hn⟩ : ∃ n, n = t.parts.length := ⟨_, rfl⟩
  have hn1 : 1 ≤ n := by rw [hn]; exact hv.p1
  have hn3 : n ≤ 3 := by rw [hn]; exact hv.p3
  obtain ⟨i1, i2, i3⟩ := ini_all ⟨W, by omega⟩ ⟨n, by omega⟩ hn1
  dsimp only at i1 i2 i3
  have hall := fun (k : Nat) (hk : k < cntE W n) => nth_all ⟨W, by omega⟩ ⟨n, by omega⟩ hn1 ⟨k, by omega⟩ hk
  dsimp only at hall
  have hL : everyL t = (List.range (cntE W n)).map (nth3 W n) := by unfold everyL; rw [hWn, ← hn]
  have hLl : (everyL t).length = cntE W n := by rw [hL]; simp
  have hLg : ∀ k, k < cntE W n → (everyL t)[k]? = some (nth3 W n k) := fun k hk => by rw [hL, List.getElem?_map, List.getElem?_range hk]; rfl
  have hlt : ∀ b, w.heap[b]? ≠ none → b < w.heap.size := fun b h => by
    rcases Nat.lt_or_ge b w.heap.size with g | g
    · exact g
    · exact absurd (Array.getElem?_eq_none g) h
  have n1 : b1 ∉ S := fun hm => (hS b1 hm).elim hb1 (fun g => by have := hlt b1 (by rw [h1]; simp); omega)
  have nw : bw ∉ S := fun hm => (hS bw hm).elim hbwS (fun g => by have := hlt bw (by rw [hbw]; simp); omega)
  have g1 := f0.keep h1
  have gw := f0.keep hbw
  rw [show (#[.func (.yield l) #[] #[]] ++ #[ptr b1] : Array Value) = #[.func (.yield l) #[] #[], ptr b1] from by simp]
  refine cnxS (vs := [_, _]) (S := S) (Hx s0) Tryz.func177 rfl rfl ⟨hK0.kn, hK0.nd, hK0.mem⟩ ?_
  all_goals refine tc_seq fun K1 hK1 => ?_; refine tc_region ?_; refine tl_e (e_allocN rfl) rfl (fun b3 _ => ?_); refine tl_nil ?_; ((refine hK1 ?_; try (clear hK1; clear K1)))
  all_goals refine tc_seq fun K2 hK2 => ?_; refine tc_region ?_; refine tl_e (e_allocN rfl) rfl (fun b4 _ => ?_); refine tl_nil ?_; ((refine hK2 ?_; try (clear hK2; clear K2)))
  all_goals refine tc_seq fun K3 hK3 => ?_; refine tc_seq fun K4 hK4 => ?_; refine tc_region ?_; refine tl_q (y_load1o (v := ptr bw) rfl (fun w' hw' => cell0 ((hw'.fr (w0 := w1) (S := S) MI.m).keepS n1 g1) rfl)) rfl ?_; refine tl_q (y_nil rfl) rfl ?_; refine tl_q (y_field rfl) rfl ?_; refine tl_q (y_field rfl) rfl ?_; ((refine tl_q (y_load1o (v := .slice adp n cpp) rfl (fun w' hw' => cell0 ((hw'.fr (w0 := w1) (S := S) MI.m).keepS nw gw) (by rw [hn]; rfl))) rfl ?_))
  all_goals refine tl_q (y_len rfl) rfl ?_; refine tl_q (y_move rfl) rfl ?_; refine tl_nil ?_; ((refine hK4 ?_; try (clear hK4; clear K4)))
  all_goals refine tc_block ?_
  all_goals (
   refine tc_loop (fun i : Nat => i ≤ n) (fun i => [(0, .func (.yield l) #[] #[]), (1, ptr b1), (3, ptr b3), (4, ptr b4), (12, vi n), (13, vi i)]) (fun _ => [(w1, S)]) (fun i => (b4, .cells (tsV (lastE W i)).cells 126 (0, 0)) :: (b3, .cells (tsV (iniE W i)).cells 126 (0, 0)) :: Hx s0) (fun i => n - i) ?_ ?_
   · exact tk_start 0 (Nat.zero_le _) (.cons rfl (.cons rfl (.cons rfl (.cons rfl (.cons rfl (.cons rfl .nil)))))) (fun _ h => h)
   · rintro i hi
     all_goals refine tc_seq fun K5 hK5 => ?_; refine tc_region ?_; refine tl_q (y_lss rfl rfl) rfl ?_; refine tl_nil ?_; ((refine hK5 ?_; try (clear hK5; clear K5)))
     all_goals refine tc_seq fun K6 hK6 => ?_
     all_goals (
      refine tc_cond rfl (fun hc => ?_) (fun hc => ?_)
      · try simp only [qn1, qn2, qn3, qn4, qn5, qn6, qn7, qn8] at hc
        all_goals refine tc_skip ?_; ((refine hK6 ?_; try (clear hK6; clear K6)))
        all_goals refine tc_seq fun K7 hK7 => ?_; refine tc_block ?_; refine tc_seq fun K8 hK8 => ?_; refine tc_region ?_; refine tl_q (y_move rfl) rfl ?_; refine tl_q (y_assign rfl) rfl ?_; refine tl_nil ?_; ((refine hK8 ?_; try (clear hK8; clear K8)))
        all_goals (rcases (by omega : i = 0 ∨ i = 1 ∨ i = 2) with rfl | rfl | rfl)
        all_goals refine tc_drawS (Hx s0) (by kernel_rfl) ?_; refine tx_p 0 rfl (by kernel_rfl) (y_move rfl) rfl (fun _ _ _ h => h) (fun _ h => h.subl SB.s SB.s) ?_; refine tx_p 1 rfl (by kernel_rfl) (y_move rfl) rfl (fun _ _ _ h => h) (fun _ h => h.subl SB.s SB.s) ?_; refine tx_qS 2 rfl (by kernel_rfl) (y_load1o (v := ptr bw) rfl (fun w' hw' => cell0 ((hw'.fr (w0 := w1) (S := S) MI.m).keepS n1 g1) rfl)) rfl (fun _ _ _ h => h) (fun _ h => h.subl SB.s SB.s) ?_; refine tx_p 3 rfl (by kernel_rfl) (y_nil rfl) rfl (fun _ _ _ h => h) (fun _ h => h.subl SB.s SB.s) ?_; refine tx_p 4 rfl (by kernel_rfl) (y_field rfl) rfl (fun _ _ _ h => h) (fun _ h => h.subl SB.s SB.s) ?_; refine tx_p 5 rfl (by kernel_rfl) (y_field rfl) rfl (fun _ _ _ h => h) (fun _ h => h.subl SB.s SB.s) ?_; ((refine tx_qS 6 rfl (by kernel_rfl) (y_load1o (v := vi W) rfl (fun w' hw' => cell0 ((hw'.fr (w0 := w1) (S := S) MI.m).keepS nw gw) (by rw [← hW]; rfl))) rfl (fun _ _ _ h => h) (fun _ h => h.subl SB.s SB.s) ?_))
        all_goals refine tx_p 7 rfl (by kernel_rfl) (y_neg rfl (by omega)) rfl (fun _ _ _ h => h) (fun _ h => h.subl SB.s SB.s) ?_; refine tx_qS 8 rfl (by kernel_rfl) (y_load1o (v := ptr bw) rfl (fun w' hw' => cell0 ((hw'.fr (w0 := w1) (S := S) MI.m).keepS n1 g1) rfl)) rfl (fun _ _ _ h => h) (fun _ h => h.subl SB.s SB.s) ?_; refine tx_p 9 rfl (by kernel_rfl) (y_nil rfl) rfl (fun _ _ _ h => h) (fun _ h => h.subl SB.s SB.s) ?_; refine tx_p 10 rfl (by kernel_rfl) (y_field rfl) rfl (fun _ _ _ h => h) (fun _ h => h.subl SB.s SB.s) ?_; refine tx_p 11 rfl (by kernel_rfl) (y_field rfl) rfl (fun _ _ _ h => h) (fun _ h => h.subl SB.s SB.s) ?_; ((refine tx_qS 12 rfl (by kernel_rfl) (y_load1o (v := vi W) rfl (fun w' hw' => cell0 ((hw'.fr (w0 := w1) (S := S) MI.m).keepS nw gw) (by rw [← hW]; rfl))) rfl (fun _ _ _ h => h) (fun _ h => h.subl SB.s SB.s) ?_))
        all_goals (refine tx_p 13 rfl (by kernel_rfl) (y_indexA rfl rfl (by omega)) rfl (fun _ _ _ h => h) (fun _ h => h.subl SB.s SB.s) ?_); refine tx_single 14 (by kernel_rfl) (to_e rfl rfl (e_store1 rfl rfl (by repeat constructor) (by repeat constructor) (by rfl) (by rfl)) (.inr ⟨fun _ _ h => h.subl SB.s SB.s, fun _ h => h⟩) (fun _ _ => ?_)); refine tx_p 15 rfl (by kernel_rfl) (y_indexA rfl rfl (by omega)) rfl (fun _ _ _ h => h) (fun _ h => h.subl SB.s SB.s) ?_; refine tx_single 16 (by kernel_rfl) (to_e (S' := HG [] []) rfl rfl (e_store1 rfl rfl (by repeat constructor) (by repeat constructor) (by rfl) (by rfl)) (.inl (by kernel_rfl)) (fun _ _ => ?_)); refine tx_done (by kernel_rfl) ?_; ((refine hK7 ?_; try (clear hK7; clear K7)))
        all_goals refine tc_region ?_; refine tl_q (y_add rfl rfl (by omega)) rfl ?_; refine tl_q (y_move rfl) rfl ?_; refine tl_nil ?_
        all_goals (
         first
         | exact tk_round 1 (by omega) (by omega) (.cons rfl (.cons rfl (.cons rfl (.cons rfl (.cons rfl (.cons rfl .nil)))))) (fun _ h => h)
         | exact tk_round 2 (by omega) (by omega) (.cons rfl (.cons rfl (.cons rfl (.cons rfl (.cons rfl (.cons rfl .nil)))))) (fun _ h => h)
         | exact tk_round 3 (by omega) (by omega) (.cons rfl (.cons rfl (.cons rfl (.cons rfl (.cons rfl (.cons rfl .nil)))))) (fun _ h => h))
      · try simp only [qn1, qn2, qn3, qn4, qn5, qn6, qn7, qn8] at hc
        all_goals refine tc_exit ?_; ((refine hK3 ?_; try (clear hK3; clear K3)))
        all_goals refine tc_block ?_
        all_goals (
         refine tc_loop (fun p : Nat × σ => p.1 < cntE W n ∧ I p.1 p.2) (fun p => [(0, .func (.yield l) #[] #[]), (1, ptr b1), (3, ptr b3), (4, ptr b4)]) (fun _ => [(w1, S)]) (fun p => (b4, .cells (tsV (lastE W n)).cells 126 (0, 0)) :: (b3, .cells (tsV (nth3 W n p.1)).cells 126 (0, 0)) :: Hx p.2) (fun p => cntE W n - p.1) ?_ ?_
         · refine tk_start (0, s0) ⟨i2, h0⟩ (.cons rfl (.cons rfl (.cons rfl (.cons rfl .nil)))) (fun _ h => ?_)
           have hin : i = n := by omega
           subst hin
           dsimp only; rw [← i1]; exact h
         · rintro ⟨k, st⟩ ⟨hk, hI⟩
           dsimp only at hk hI ⊢
           obtain ⟨hlast, hstep⟩ := hall k hk
           all_goals refine tc_block ?_; refine tc_seq fun K9 hK9 => ?_; refine tc_seq fun K10 hK10 => ?_; refine tc_region ?_; refine tl_q (y_move rfl) rfl ?_; refine tl_q (y_loadW rfl (by repeat constructor) (by rfl)) rfl ?_; refine tl_r (e_yieldF [(b4, .cells (tsV (lastE W n)).cells 126 (0, 0)), (b3, .cells (tsV (nth3 W n k)).cells 126 (0, 0))] k st (nth3 W n k) rfl rfl rfl (.cons rfl .nil) rfl (hLg k hk) hI hY (by simp) rfl) rfl (fun q hq => ?_); refine tl_q (y_not rfl) rfl ?_; refine tl_q (y_move rfl) rfl ?_; ((refine tl_gs rfl rfl (fun hc => ?_) (fun hc => ?_) <;> (try simp only [qn1, qn2, qn3, qn4, qn5, qn6, qn7, qn8] at hc) <;> (first | refine tl_sk rfl rfl rfl rfl ?_ | refine tl_qg rfl rfl (y_loadW rfl (by repeat constructor) (by rfl)) rfl ?_)))
           all_goals (first | refine tl_sk rfl rfl rfl rfl ?_ | refine tl_qg rfl rfl (y_loadW rfl (by repeat constructor) (by rfl)) rfl ?_); (first | refine tl_sk rfl rfl rfl rfl ?_ | refine tl_qg rfl rfl (y_eqlA3 rfl rfl) rfl ?_); (first | refine tl_q (y_pick_t rfl rfl) rfl ?_ | refine tl_q (y_pick_f rfl rfl) rfl ?_); refine tl_nil ?_; ((refine hK10 ?_; try (clear hK10; clear K10)))
           all_goals (
            refine tc_cond rfl (fun hc => ?_) (fun hc => ?_)
            · try simp only [qn1, qn2, qn3, qn4, qn5, qn6, qn7, qn8] at hc
              all_goals refine tc_ret ?_; (repeat (first | refine tk_then_ret ?_ | refine tk_block_ret ?_))
              all_goals (refine tk_ret rfl rfl .nil ?_)
              all_goals (
               first
               | (have hk1 : nth3 W n k = lastE W n := Prod.ext hc.1 (Prod.ext hc.2.1 hc.2.2)
                  have hk2 := hlast.1 hk1
                  have hq1 : I (everyL t).length q.2 := by
                    rw [hLl, show cntE W n = k + 1 by omega]
                    exact yq hq (by assumption)
                  exact fun w' hw' => ⟨q.2, rfl, hw'.fr (by simp), (hw'.sub (bs' := [(w1, S)]) (by simp) (List.sublist_append_right _ _)).knS (by simp), .inl hq1⟩)
               | (have hJ : J q.2 := by
                    exact yq2 hq (by assumption)
                  exact fun w' hw' => ⟨q.2, rfl, hw'.fr (by simp), (hw'.sub (bs' := [(w1, S)]) (by simp) (List.sublist_append_right _ _)).knS (by simp), .inr hJ⟩))
            · try simp only [qn1, qn2, qn3, qn4, qn5, qn6, qn7, qn8] at hc
              all_goals ((first | (exfalso; with_reducible exact btf hc) | skip))
              all_goals refine tc_skip ?_; ((refine hK9 ?_; try (clear hK9; clear K9)))
              all_goals refine tc_seq fun K11 hK11 => ?_; ((have hkn : k + 1 < cntE W n := lt_last hlast hk hc; obtain ⟨hst, hno⟩ := hstep hkn; have hq1 : I (k + 1) q.2 := yq hq (by assumption)))
              all_goals refine tc_region ?_; refine tl_q (y_assign rfl) rfl ?_; refine tl_nil ?_; ((refine hK11 ?_; try (clear hK11; clear K11)))
              all_goals refine tc_seq fun K12 hK12 => ?_; refine tc_block ?_
              all_goals (
               refine tc_loop (fun i : Nat => i ≤ 2 ∧ (0 < i → (nth3 W n k).1 = W) ∧ (1 < i → (nth3 W n k).2.1 = W)) (fun i => [(0, .func (.yield l) #[] #[]), (1, ptr b1), (3, ptr b3), (4, ptr b4), (6, vi i)]) (fun _ => [(w1, S)]) (fun i => (b4, .cells (tsV (lastE W n)).cells 126 (0, 0)) :: (b3, .cells (tsV (midE W (nth3 W n k) i)).cells 126 (0, 0)) :: Hx q.2) (fun i => 3 - i) ?_ ?_
               · exact tk_start 0 ⟨by omega, fun h => absurd h (Nat.lt_irrefl _), fun h => absurd h (by omega)⟩ (.cons rfl (.cons rfl (.cons rfl (.cons rfl (.cons rfl .nil))))) (fun _ h => h)
               · rintro i ⟨hi2, hm0, hm1⟩
                 all_goals refine tc_seq fun K13 hK13 => ?_; refine tc_seq fun K14 hK14 => ?_; (obtain ⟨hb1, hb2, hb3⟩ := mid_bd hW3 (nth_bd (W := W) (n := n) (k := k) hW3) i)
                 all_goals (rcases (by omega : i = 0 ∨ i = 1 ∨ i = 2) with rfl | rfl | rfl)
                 all_goals refine tc_draw (by kernel_rfl) ?_; refine tx_p 0 rfl (by kernel_rfl) (y_move rfl) rfl (fun _ _ _ h => h) (fun _ h => h) ?_; refine tx_p 1 rfl (by kernel_rfl) (y_indexA rfl rfl (by omega)) rfl (fun _ _ _ h => h) (fun _ h => h) ?_; refine tx_q 2 rfl (by kernel_rfl) (y_load1 rfl (by repeat constructor) (by rfl)) rfl (fun _ _ _ h => h) (fun _ h => h) ?_; refine tx_q 3 rfl (by kernel_rfl) (y_load1o (v := ptr bw) rfl (fun w' hw' => cell0 ((hw'.fr (w0 := w1) (S := S) MI.m).keepS n1 g1) rfl)) rfl (fun _ _ _ h => h) (fun _ h => h) ?_; refine tx_p 4 rfl (by kernel_rfl) (y_nil rfl) rfl (fun _ _ _ h => h) (fun _ h => h) ?_; refine tx_p 5 rfl (by kernel_rfl) (y_field rfl) rfl (fun _ _ _ h => h) (fun _ h => h) ?_; refine tx_p 6 rfl (by kernel_rfl) (y_field rfl) rfl (fun _ _ _ h => h) (fun _ h => h) ?_; ((refine tx_q 7 rfl (by kernel_rfl) (y_load1o (v := vi W) rfl (fun w' hw' => cell0 ((hw'.fr (w0 := w1) (S := S) MI.m).keepS nw gw) (by rw [← hW]; rfl))) rfl (fun _ _ _ h => h) (fun _ h => h) ?_))
                 all_goals (refine tx_p 8 rfl (by kernel_rfl) (y_eql rfl rfl) rfl (fun _ _ _ h => h) (fun _ h => h) ?_); refine tx_done (by kernel_rfl) ?_; ((refine hK14 ?_; try (clear hK14; clear K14)))
                 all_goals (
                  refine tc_cond rfl (fun hc => ?_) (fun hc => ?_)
                  · try simp only [qn1, qn2, qn3, qn4, qn5, qn6, qn7, qn8] at hc
                    all_goals refine tc_skip ?_; ((refine hK13 ?_; try (clear hK13; clear K13)))
                    all_goals refine tc_block ?_; refine tc_seq fun K15 hK15 => ?_; refine tc_region ?_; refine tl_q (y_move rfl) rfl ?_; refine tl_q (y_load1o (v := ptr bw) rfl (fun w' hw' => cell0 ((hw'.fr (w0 := w1) (S := S) MI.m).keepS n1 g1) rfl)) rfl ?_; refine tl_q (y_nil rfl) rfl ?_; refine tl_q (y_field rfl) rfl ?_; refine tl_q (y_field rfl) rfl ?_; ((refine tl_q (y_load1o (v := vi W) rfl (fun w' hw' => cell0 ((hw'.fr (w0 := w1) (S := S) MI.m).keepS nw gw) (by rw [← hW]; rfl))) rfl ?_))
                    all_goals refine tl_q (y_neg rfl (by omega)) rfl ?_; refine tl_q (y_indexA rfl rfl (by omega)) rfl ?_; refine tl_e (e_store1 rfl rfl (by repeat constructor) (by repeat constructor) (by rfl) (by rfl)) rfl (fun _ _ => ?_); refine tl_nil ?_; ((refine hK15 ?_; try (clear hK15; clear K15)))
                    all_goals refine tc_region ?_; refine tl_q (y_move rfl) rfl ?_; refine tl_q (y_add rfl rfl (by omega)) rfl ?_; refine tl_q (y_assign rfl) rfl ?_; refine tl_nil ?_
                    all_goals (
                     first
                     | exact tk_blk (tk_round 1 ⟨by omega, fun _ => hc, fun h => absurd h (by omega)⟩ (by omega) (.cons rfl (.cons rfl (.cons rfl (.cons rfl (.cons rfl .nil))))) (fun _ h => h))
                     | exact tk_blk (tk_round 2 ⟨by omega, fun _ => hm0 (by omega), fun _ => hc⟩ (by omega) (.cons rfl (.cons rfl (.cons rfl (.cons rfl (.cons rfl .nil))))) (fun _ h => h))
                     | exact absurd ⟨hm0 (by omega), hm1 (by omega), hc⟩ hno)
                  · try simp only [qn1, qn2, qn3, qn4, qn5, qn6, qn7, qn8] at hc
                    all_goals refine tc_exit ?_; ((refine hK12 ?_; try (clear hK12; clear K12)))
                    all_goals refine tc_region ?_; refine tl_q (y_move rfl) rfl ?_; refine tl_q (y_indexA rfl rfl (by omega)) rfl ?_; refine tl_q (y_load1 rfl (by repeat constructor) (by rfl)) rfl ?_; refine tl_q (y_add rfl rfl (by omega)) rfl ?_; refine tl_q (y_indexA rfl rfl (by omega)) rfl ?_; refine tl_e (e_store1 rfl rfl (by repeat constructor) (by repeat constructor) (by rfl) (by rfl)) rfl (fun _ _ => ?_); refine tl_nil ?_
                    all_goals (
                     first
                     | (have hs3 : nth3 W n (k + 1) = _ := hst.symm.trans (stepE_0 hc)
                        refine tk_blk (tk_round (k + 1, q.2) ⟨hkn, hq1⟩ (by dsimp only; omega) (.cons rfl (.cons rfl (.cons rfl (.cons rfl .nil)))) (fun _ h => ?_))
                        dsimp only; rw [hs3]; exact h)
                     | (have hs3 : nth3 W n (k + 1) = _ := hst.symm.trans (stepE_1 (hm0 Nat.zero_lt_one) hc)
                        refine tk_blk (tk_round (k + 1, q.2) ⟨hkn, hq1⟩ (by dsimp only; omega) (.cons rfl (.cons rfl (.cons rfl (.cons rfl .nil)))) (fun _ h => ?_))
                        dsimp only; rw [hs3]; exact h)
                     | (have hs3 : nth3 W n (k + 1) = _ := hst.symm.trans (stepE_2 (hm0 Nat.zero_lt_two) (hm1 Nat.one_lt_two))
                        refine tk_blk (tk_round (k + 1, q.2) ⟨hkn, hq1⟩ (by dsimp only; omega) (.cons rfl (.cons rfl (.cons rfl (.cons rfl .nil)))) (fun _ h => ?_))
                        dsimp only; rw [hs3]; exact h))))))))
end Go.Sp
/-
  Package trial: the errors of all truths.
-/
namespace Go.Sp
open Go Go.Proofs
theorem e_bslice31 {P : Program} {N : NN} {F : List (Nat × Value)} {bs : List (World × List Nat)} {H : List (Nat × Obj)} {ty : TypeId} {pos : String} {after : Array Edge} {g : Option (Nat × Bool)} {dd : Tmp} {t e : TypeId} {by_ : Nat} {x : Operand} {a b c : Value} [hs : TySlice P t e 3] [hi : TyElem P e 3 by_] (hd : Nat.blt dd N.n = true) (hx : evalO F x = some (.agg #[a, b, c])) :
    OpE P ⟨some dd, .buildSlice t 1 #[(0, x)], ty, pos, after, g⟩ N F bs H (fun _ : Nat => True) (fun b0 => (dd, .slice (some ⟨b0, 0, none⟩) 1 1) :: F) (fun _ => bs) (fun b0 => (b0, .cells #[a, b, c] e (0, 0)) :: H) := by
  unfold OpE
  intro a' w ht hw K Q hK
  obtain ⟨i, z, h1, h2, h3, h4, h5⟩ := hi.info
  have key : ∀ zero : Array Value, Instr.fill (fun i => some (i * 3, 3)) ((Array.range (1 * 3)).map (zero[· % zero.size]!)) [(0, .agg #[a, b, c])] = some #[a, b, c] := fun zero => by
    simp [Instr.fill, Array.zipIdx, Array.range, Value.cells]
    apply Array.ext (by simp)
    intro i g1 g2
    have g3 : i < 3 := g2
    rcases (by omega : i = 0 ∨ i = 1 ∨ i = 2) with rfl | rfl | rfl <;> simp
  have hrun : (Instr.buildSlice t 1 #[(0, .agg #[a, b, c])]).run P w = .ok (.slice (some ⟨w.heap.size, 0, none⟩) 1 1) (w.alloc (.cells #[a, b, c] e)) := by
    unfold Instr.buildSlice
    simp only [Sem.run_bind, underlying_run hs.ty, Result.andThen, sizeOf_run hs.info]
    rw [if_neg (by omega)]
    split
    · rename_i hz; omega
    · simp only [Sem.run_bind, zeroValue_run h1 h2, Sem.run_pure, Result.andThen, key, newRow, run_newObj]; rfl
  unfold Oper.wp
  simp only [execOp, Sem.run_bind, List.map_toArray, List.map_cons, List.map_nil, ht.eval hx, hrun, Result.andThen, Sem.run_pure, Oper.upon]
  exact hK w.heap.size _ _ trivial (ht.put hd _) (hw.alloc _)
def truN (t : Tr) (out : List Int) (i : Nat) : List (Int × Int × Int) := ((everyL t).take i).filter fun e => denOk t e out
def truthsL (t : Tr) (out : List Int) : List (Int × Int × Int) := (everyL t).filter fun e => denOk t e out
theorem truN_succ {t : Tr} {out : List Int} {i : Nat} {e : Int × Int × Int} (h : (everyL t)[i]? = some e) : truN t out (i + 1) = if denOk t e out = true then truN t out i ++ [e] else truN t out i := by
  unfold truN
  rw [List.take_add_one, h, List.filter_append]
  cases hd : denOk t e out <;> simp [hd]
theorem truN_all (t : Tr) (out : List Int) : truN t out (everyL t).length = truthsL t out := by unfold truN truthsL; rw [List.take_length]
theorem truN_len (t : Tr) (out : List Int) (i : Nat) : (truN t out i).length ≤ i := by
  unfold truN
  exact Nat.le_trans (List.length_filter_le _ _) (by rw [List.length_take]; omega)
theorem every_len {t : Tr} (hv : VT t) : (everyL t).length ≤ 343 := by
  have h1 := hv.p1
  have h3 := hv.p3
  have hw := hv.w
  have := (ini_all ⟨t.worst.toNat, by omega⟩ ⟨t.parts.length, by omega⟩ h1).2.2
  unfold everyL; rw [List.length_map, List.length_range]; exact this
theorem every_bd {t : Tr} (hv : VT t) {e : Int × Int × Int} (h : e ∈ everyL t) : ErB e := by
  unfold everyL at h
  obtain ⟨k, _, rfl⟩ := List.mem_map.1 h
  exact nth_bd (by have := hv.w; omega)
theorem flatT_append (l m : List (Int × Int × Int)) : flatT (l ++ m) = flatT l ++ flatT m := by simp [flatT]
theorem flatT_len (l : List (Int × Int × Int)) : (flatT l).length = l.length * 3 := by
  induction l with
  | nil => rfl
  | cons x l ih => simp [flatT] at ih ⊢; omega
theorem flatT_one (l : List (Int × Int × Int)) : one' (flatT l) := fun u hu => by
  obtain ⟨x, _, h⟩ := List.mem_flatMap.1 hu
  simp only [List.mem_cons, List.not_mem_nil, or_false] at h
  rcases h with rfl | rfl | rfl <;> rfl
theorem RdT.nil (w : World) : RdT w (.slice none 0 0) [] := ⟨rfl, none, 0, rfl, fun h => absurd rfl h⟩
theorem RdT.own {bs : List (World × List Nat)} {H : List (Nat × Obj)} {w : World} {b : Nat} {xs : List (Int × Int × Int)} {e : TypeId} {f : Nat × Nat} {cap : Nat} {junk : List Value} (hw : HG bs H w) (hm : HM b (.cells (flatT xs ++ junk).toArray e f) H) : RdT w (.slice (some ⟨b, 0, none⟩) xs.length cap) xs := by
  refine ⟨flatT_len xs, _, _, rfl, fun _ => ⟨b, 0, rfl, ?_⟩⟩
  have := CA_pre (flatT xs) junk e f
  rw [flatT_len] at this
  exact this.cells (hw.heap _ hm.mem)
theorem RdT.own0 {bs : List (World × List Nat)} {H : List (Nat × Obj)} {w : World} {b : Nat} {xs : List (Int × Int × Int)} {e : TypeId} {f : Nat × Nat} {cap : Nat} (hw : HG bs H w) (hm : HM b (.cells (flatT xs).toArray e f) H) : RdT w (.slice (some ⟨b, 0, none⟩) xs.length cap) xs :=
  RdT.own (junk := []) hw (by rw [List.append_nil]; exact hm)
abbrev TrS := (Nat × Option (Nat × Nat × List Value)) × (Array MapEntry × Nat)
def truH (t : Tr) (out : List Int) (b4 b3 b2 bm bw : Nat) (ov : Value) : TrS → List (Nat × Obj)
  | ((_, none), (es, ck)) => (b4, .cells #[.slice none 0 0] 139 (0, 0)) :: (b3, .cells #[ov] 22 (0, 0)) :: (b2, .cells #[ptr bw] 130 (0, 0)) :: (bm, .map es ck) :: []
  | ((i, some (b, cap, junk)), (es, ck)) => (b, .cells (flatT (truN t out i) ++ junk).toArray 126 (0, 0)) :: (b4, .cells #[.slice (some ⟨b, 0, none⟩) (truN t out i).length cap] 139 (0, 0)) :: (b3, .cells #[ov] 22 (0, 0)) :: (b2, .cells #[ptr bw] 130 (0, 0)) :: (bm, .map es ck) :: []
def truO (t : Tr) (out : List Int) : TrS → Prop
  | ((i, none), _) => (truN t out i).length = 0
  | ((i, some (_, cap, junk)), _) => (truN t out i).length ≤ cap ∧ junk.length = (cap - (truN t out i).length) * 3
set_option maxHeartbeats 1000000 in
theorem truths_c (t : Tr) (hv : VT t) (out : List Int) (ho : (out.length : Int) ≤ 9000000000000000000) (oa : Option Addr) (oc : Nat) (sl pl ll tl : Value) (w : World) (bw bm : Nat) (es : Array MapEntry) (ck : Nat) (hT : TW w t sl pl ll tl bw bm es ck) (hO : RdI w (.slice oa out.length oc) out) :
    CnX Tryz.prog 99 #[ptr bw, .slice oa out.length oc] w [bm] (fun y : (Option Addr × Nat) × Array MapEntry × Nat => slV (truthsL t out).length y.1) (fun y w' => (RdT w' (slV (truthsL t out).length y.1) (truthsL t out) ∧ Cache (readV t.s) y.2.1.toList) ∧ w'.heap[bm]? = some (.map y.2.1 y.2.2)) := by
  have hne := hT.ne
  have hel := every_len hv
  have hbwlt : bw < w.heap.size := (Array.getElem?_eq_some_iff.1 hT.hw).1
  have hkeep : ∀ w', Fr [bm] w w' → w'.heap[bw]? = some (wkT t sl pl ll tl bm) := fun w' f => f.keepS (by simpa using hne) hT.hw
  have hOr : ∀ w', Fr [bm] w w' → RdI w' (.slice oa out.length oc) out := fun w' f => Reads.frM hO f (fun x hx => by obtain rfl := List.mem_singleton.1 hx; exact ⟨es, ck, hT.hm⟩)
  obtain ⟨adp, cpp, bp, op, rfl, _, _⟩ := hT.rd.ps.open
  refine cnxS (vs := [_, _]) (S := [bm]) [(bm, .map es ck)] Tryz.func99 rfl rfl ⟨by simp [hT.hm], by simp, by simp⟩ ?_
  all_goals refine tc_seq fun K1 hK1 => ?_; refine tc_region ?_; refine tl_e (e_box rfl rfl rfl) rfl (fun b2 _ => ?_); refine tl_e (e_box rfl rfl rfl) rfl (fun b3 _ => ?_); refine tl_e (e_alloc1 rfl) rfl (fun b4 _ => ?_); refine tl_nil ?_; ((refine hK1 ?_; try (clear hK1; clear K1)))
  all_goals refine tc_seq fun K2 hK2 => ?_; refine tc_seq fun K3 hK3 => ?_; refine tc_region ?_; refine tl_q (y_load1 rfl (by repeat constructor) (by rfl)) rfl ?_; refine tl_e (e_callB rfl (.cons rfl .nil) (fun w' _ => tevery_c bw w')) rfl (fun bL _ => ?_); refine tl_nil ?_; ((refine hK3 ?_; try (clear hK3; clear K3)))
  all_goals refine tc_block ?_
  all_goals (
   refine tc_rangeU (α := Int × Int × Int) (σ := TrS) (gf := 177) (lb := #[ptr bL]) (enc := fun e => [tsV e]) (everyL t) [b4, b3, b2, bm] (truH t out b4 b3 b2 bm bw (.slice oa out.length oc)) (fun i st => st.1.1 = i ∧ truO t out st ∧ Cache (readV t.s) st.2.1.toList) (fun _ _ => False) ((0, none), (es, ck)) rfl rfl (fun _ => rfl) ⟨rfl, rfl, hT.hc⟩ (by simp [truH]) (fun _ h => h.subl SB.s SB.s) (fun w' hw' => every_seq t hv sl _ ll tl ⟨_, _, rfl⟩ w' bw bm bL _ (hw'.heap _ (HM.mem (by repeat constructor))) (by have := hw'.nodup; simp at this ⊢; omega) (hkeep w' (hw'.fr (by simp))) (fun hm => by have h4 := hw'.own _ (HM.mem (b := b4) (by repeat constructor)) (w, [bm]) (by simp); have h3 := hw'.own _ (HM.mem (b := b3) (by repeat constructor)) (w, [bm]) (by simp); have h2 := hw'.own _ (HM.mem (b := b2) (by repeat constructor)) (w, [bm]) (by simp); simp at hm h4 h3 h2; omega)) ?_ ?_ ?_
   · intro l R0 R1 i st e w2 hx hI K hK
     obtain ⟨rfl, hok, hca⟩ := hI
     have heb := every_bd hv (List.mem_of_getElem? hx)
     have hil := (List.getElem?_eq_some_iff.1 hx).1
     have hsu := truN_succ (out := out) hx
     obtain ⟨⟨i, o⟩, ⟨es2, ck2⟩⟩ := st
     have hlen := truN_len t out i
     rcases o with _ | ⟨b0, cap, junk⟩
     all_goals ((dsimp only [truO] at hok hca hil hsu; dsimp only [truH] at hK ⊢))
     all_goals refine tc_region ?_; refine tl_e (e_allocN rfl) rfl (fun b5 _ => ?_); refine tl_e (e_storeW rfl rfl (by repeat constructor) (by rfl) (by rfl) (by simp [Value.oneCell'])) rfl (fun _ _ => ?_); refine tl_nil ?_; refine hK (by repeat constructor) ?_; clear hK
     all_goals refine tc_block ?_; refine tc_seq fun K4 hK4 => ?_; refine tc_region ?_; refine tl_q (y_load1 rfl (by repeat constructor) (by rfl)) rfl ?_; refine tl_q (y_loadW rfl (by repeat constructor) (by rfl)) rfl ?_; refine tl_q (y_load1 rfl (by repeat constructor) (by rfl)) rfl ?_; refine tl_e (e_callU (val := fun y : Value × Array MapEntry × Nat => .tuple #[y.1, .bool (denOk t e out)]) (p := fun y => Cache (readV t.s) y.2.1.toList) (ob := fun y => .map y.2.1 y.2.2) rfl (.cons rfl (.cons rfl (.cons rfl .nil))) (fun w' hw' => (densities_c t hv e heb out ho oa oc sl _ ll tl w' bw bm es2 ck2 (hT.fr (hw'.fr (w0 := w) (S := [bm]) MI.m) (hw'.heap _ (HM.mem (b := bm) (by repeat constructor))) hca) (hOr w' (hw'.fr (w0 := w) (S := [bm]) MI.m))).imp id (fun _ => rfl) (fun _ h => h) (fun y w' _ h => ⟨h.1.2, h.2⟩)) (fun _ => (by repeat constructor))) rfl (fun z hz => ?_); refine tl_q (y_move rfl) rfl ?_; refine tl_q (y_extract rfl rfl) rfl ?_; refine tl_q (y_extract rfl rfl) rfl ?_; refine tl_q (y_assign rfl) rfl ?_; refine tl_q (y_assign rfl) rfl ?_; refine tl_nil ?_; ((refine hK4 ?_; try (clear hK4; clear K4)))
     all_goals refine tc_seq fun K5 hK5 => ?_; refine tc_region ?_; refine tl_q (y_move rfl) rfl ?_; refine tl_nil ?_; ((refine hK5 ?_; try (clear hK5; clear K5)))
     all_goals (
      refine tc_cond rfl (fun hc => ?_) (fun hc => ?_)
      · all_goals (skip)
        all_goals refine tc_region ?_; refine tl_q (y_load1 rfl (by repeat constructor) (by rfl)) rfl ?_; refine tl_q (y_loadW rfl (by repeat constructor) (by rfl)) rfl ?_; refine tl_e (e_bslice31 rfl rfl) rfl (fun _ _ => ?_); ((first | refine tl_e (e_append_own (old := flatT (truN t out i)) (junk := junk) rfl rfl rfl (by repeat constructor) (flatT_len _) hok.2 hok.1 (fun w' hw' => RdT.own0 (xs := [e]) hw' (by repeat constructor)) (flatT_one _) (by simp only [List.length_cons, List.length_nil]; omega) rfl) rfl (fun y hy => ?_) | refine tl_e (e_append_nil rfl rfl rfl (fun w' hw' => RdT.own0 (xs := [e]) hw' (by repeat constructor)) (flatT_one _) Nat.zero_lt_one (Nat.le_of_ble_eq_true rfl) rfl) rfl (fun y hy => ?_)))
        all_goals refine tl_e (e_store1 rfl rfl (by repeat constructor) (by repeat constructor) (by rfl) (by rfl)) rfl (fun _ _ => ?_); refine tl_nil ?_
        all_goals (
         repeat (refine tk_ib ?_)
         first
         | (have hs2 : truN t out (i + 1) = truN t out i ++ [e] := by rw [hsu, if_pos hc]
            refine tk_rq ((i + 1, some (y.1, y.2.1, y.2.2)), (z.2.1, z.2.2)) ⟨rfl, ?_, hz⟩ (fun _ h => ?_)
            · dsimp only [truO]; rw [hs2, List.length_append]; simp only [List.length_cons, List.length_nil] at hy ⊢; omega
            · dsimp only [truH]
              rw [hs2, flatT_append, List.length_append]
              first
              | (rw [show truN t out i = [] from List.eq_nil_of_length_eq_zero hok, show flatT [] = [] from rfl, List.nil_append]; exact (h.subl SB.s SB.s).sw)
              | exact (h.subl SB.s SB.s).sw)
         | (have hs2 : truN t out (i + 1) = truN t out i := by rw [hsu, if_neg (by rw [hc]; exact Bool.false_ne_true)]
            first
            | (refine tk_rq ((i + 1, none), (z.2.1, z.2.2)) ⟨rfl, by dsimp only [truO]; rw [hs2]; exact hok, hz⟩ (fun _ h => ?_)
               dsimp only [truH]; exact h.subl SB.s SB.s)
            | (refine tk_rq ((i + 1, some (b0, cap, junk)), (z.2.1, z.2.2)) ⟨rfl, by dsimp only [truO]; rw [hs2]; exact hok, hz⟩ (fun _ h => ?_)
               dsimp only [truH]; rw [hs2]; exact h.subl SB.s SB.s)))
      · all_goals (skip)
        all_goals refine tc_skip ?_
        all_goals (
         repeat (refine tk_ib ?_)
         first
         | (have hs2 : truN t out (i + 1) = truN t out i ++ [e] := by rw [hsu, if_pos hc]
            refine tk_rq ((i + 1, some (y.1, y.2.1, y.2.2)), (z.2.1, z.2.2)) ⟨rfl, ?_, hz⟩ (fun _ h => ?_)
            · dsimp only [truO]; rw [hs2, List.length_append]; simp only [List.length_cons, List.length_nil] at hy ⊢; omega
            · dsimp only [truH]
              rw [hs2, flatT_append, List.length_append]
              first
              | (rw [show truN t out i = [] from List.eq_nil_of_length_eq_zero hok, show flatT [] = [] from rfl, List.nil_append]; exact (h.subl SB.s SB.s).sw)
              | exact (h.subl SB.s SB.s).sw)
         | (have hs2 : truN t out (i + 1) = truN t out i := by rw [hsu, if_neg (by rw [hc]; exact Bool.false_ne_true)]
            first
            | (refine tk_rq ((i + 1, none), (z.2.1, z.2.2)) ⟨rfl, by dsimp only [truO]; rw [hs2]; exact hok, hz⟩ (fun _ h => ?_)
               dsimp only [truH]; exact h.subl SB.s SB.s)
            | (refine tk_rq ((i + 1, some (b0, cap, junk)), (z.2.1, z.2.2)) ⟨rfl, by dsimp only [truO]; rw [hs2]; exact hok, hz⟩ (fun _ h => ?_)
               dsimp only [truH]; rw [hs2]; exact h.subl SB.s SB.s))))
   · intro D st hI
     obtain ⟨hi, hok, hca⟩ := hI
     obtain ⟨⟨i, o⟩, ⟨es2, ck2⟩⟩ := st
     dsimp only at hi
     subst hi
     rcases o with _ | ⟨b0, cap, junk⟩
     all_goals ((dsimp only [truO] at hok hca; dsimp only [truH]))
     all_goals rw [truN_all] at hok
     all_goals try rw [truN_all]
     all_goals ((refine hK2 ?_; try (clear hK2; clear K2)))
     all_goals refine tc_seq fun K6 hK6 => ?_; refine tc_region ?_; refine tl_q (y_load1 rfl (by repeat constructor) (by rfl)) rfl ?_; refine tl_e (e_store1 rfl rfl (by repeat constructor) (by repeat constructor) (by rfl) (by rfl)) rfl (fun _ _ => ?_); refine tl_nil ?_; ((refine hK6 ?_; try (clear hK6; clear K6)))
     all_goals refine tc_ret ?_; (repeat (first | refine tk_then_ret ?_))
     all_goals (refine tk_retM rfl (by repeat constructor) rfl (.cons (.one inferInstance rfl (by repeat constructor) (by rfl)) .nil) ?_)
     all_goals (
      first
      | exact fun w' hw' => ⟨((none, 0), es2, ck2), by unfold slV; rw [hok]; rfl, hw'.fr (by simp), ⟨by unfold slV; rw [hok, List.eq_nil_of_length_eq_zero hok]; exact RdT.nil _, hca⟩, hw'.heap _ (HM.mem (b := bm) (by repeat constructor))⟩
      | exact fun w' hw' => ⟨((some ⟨b0, 0, none⟩, cap), es2, ck2), rfl, hw'.fr (by simp), ⟨RdT.own (xs := truthsL t out) (cap := cap) (junk := junk) (b := b0) hw' (by repeat constructor), hca⟩, hw'.heap _ (HM.mem (b := bm) (by repeat constructor))⟩)
   · intro D c s hJ; exact hJ.elim)
end Go.Sp
/-
  Package trial: the errors of all truths, or the error.
-/
namespace Go.Sp
open Go Go.Proofs
def askedE (t : Tr) : Int := if ¬ chkT t = 0 then chkT t else if (truthsL t []).length = 0 then 11 else 0
theorem askedE_0 {t : Tr} (h : askedE t = 0) : VT t ∧ 0 < (truthsL t []).length := by
  unfold askedE at h
  split at h
  · omega
  · split at h
    · omega
    · exact ⟨chkT_0.1 (by omega), by omega⟩
theorem tw0 {w : World} {t : Tr} {sl pl ll tl : Value} {bw bm : Nat} (hr : RdTr w t sl pl ll tl) (hw : w.heap[bw]? = some (wkT t sl pl ll tl bm)) (hm : w.heap[bm]? = some (.map #[] 0)) : TW w t sl pl ll tl bw bm #[] 0 :=
  ⟨hr, hw, hm, fun e he => by simp at he, hr.ws.one, hr.ps.one, hr.ls.one, hr.ts.one⟩
theorem asked_no (t : Tr) (hn : NT t) (he : ¬ askedE t = 0) (sl pl ll tl : Value) (w : World) (hr : RdTr w t sl pl ll tl) : CnV Tryz.prog 77 #[trV t sl pl ll tl] w (.tuple #[.pointer none, .slice none 0 0, vi (askedE t)]) := by
  have hr0 := hr
  unfold askedE at he ⊢
  refine cnv (vs := [_]) Tryz.func77 rfl rfl ?_
  all_goals refine tc_seq fun K1 hK1 => ?_; refine tc_region ?_; refine tl_e (e_box rfl rfl rfl) rfl (fun b1 _ => ?_); refine tl_q (y_assign rfl) rfl ?_; refine tl_q (y_assign rfl) rfl ?_; refine tl_q (y_assign rfl) rfl ?_; refine tl_nil ?_; ((refine hK1 ?_; try (clear hK1; clear K1)))
  all_goals refine tc_seq fun K2 hK2 => ?_; refine tc_seq fun K3 hK3 => ?_; refine tc_region ?_; refine tl_q (y_loadW rfl (by repeat constructor) (by rfl)) rfl ?_; refine tl_e (e_callV rfl (.cons rfl .nil) (fun w' hw' => checkTrial_c t hn _ _ _ _ w' (hr0.fr (hw'.fr (by simp))))) rfl (fun _ _ => ?_); refine tl_q (y_assign rfl) rfl ?_; refine tl_nil ?_; ((refine hK3 ?_; try (clear hK3; clear K3)))
  all_goals refine tc_seq fun K4 hK4 => ?_; refine tc_region ?_; refine tl_q (y_move rfl) rfl ?_; refine tl_q (y_neq rfl rfl) rfl ?_; refine tl_nil ?_; ((refine hK4 ?_; try (clear hK4; clear K4)))
  all_goals (
   refine tc_cond rfl (fun hc => ?_) (fun hc => ?_)
   · try simp only [qn1, qn2, qn3, qn4, qn5, qn6, qn7, qn8] at hc
     all_goals refine tc_seq fun K5 hK5 => ?_; refine tc_region ?_; refine tl_q (y_move rfl) rfl ?_; refine tl_q (y_assign rfl) rfl ?_; refine tl_q (y_assign rfl) rfl ?_; refine tl_q (y_assign rfl) rfl ?_; refine tl_nil ?_; ((refine hK5 ?_; try (clear hK5; clear K5)))
     all_goals refine tc_ret ?_; (repeat (refine tk_then_ret ?_))
     all_goals (refine tk_ret rfl rfl (.cons (.tmp rfl) (.cons (.tmp rfl) (.cons (.tmp rfl) .nil))) ?_)
     all_goals (
      refine fun w' hw' => ⟨?_, hw'.fr (by simp)⟩
      first
      | (rw [if_pos (by assumption)]; rfl)
      | (rw [if_neg (by omega), if_pos (by omega)]; rfl)
      | (exfalso; rw [if_neg (by omega), if_neg (by omega)] at he; exact he rfl))
   · try simp only [qn1, qn2, qn3, qn4, qn5, qn6, qn7, qn8] at hc
     all_goals refine tc_skip ?_; ((refine hK2 ?_; try (clear hK2; clear K2)))
     all_goals refine tc_seq fun K6 hK6 => ?_; refine tc_region ?_; refine tl_q (y_loadW rfl (by repeat constructor) (by rfl)) rfl ?_; refine tl_e (e_callN rfl (.cons rfl .nil) (fun w' hw' => twork_c t sl pl ll tl hr0.ws.one hr0.ps.one hr0.ls.one hr0.ts.one w')) rfl (fun x hx => ?_); refine tl_q (y_assign rfl) rfl ?_; refine tl_nil ?_; ((refine hK6 ?_; try (clear hK6; clear K6)))
     all_goals refine tc_seq fun K7 hK7 => ?_; refine tc_region ?_; refine tl_q (y_move rfl) rfl ?_; refine tl_e (e_callU (val := fun y : (Option Addr × Nat) × Array MapEntry × Nat => slV (truthsL t []).length y.1) (p := fun y => Cache (readV t.s) y.2.1.toList) (ob := fun y => .map y.2.1 y.2.2) rfl (.cons rfl (.cons rfl .nil)) (fun w' hw' => (truths_c t (chkT_0.1 (by omega)) [] (by simp) none 0 sl pl ll tl w' x.1 x.2 #[] 0 (tw0 (hr0.fr (hw'.fr (by simp))) (hw'.heap _ (HM.mem (by repeat constructor))) (hw'.heap _ (HM.mem (b := x.2) (by repeat constructor)))) (RdI.nil w')).imp id (fun _ => rfl) (fun _ h => h) (fun y w' _ h => ⟨h.1.2, h.2⟩)) (fun _ => (by repeat constructor))) rfl (fun _ _ => ?_); refine tl_q (y_assign rfl) rfl ?_; refine tl_nil ?_; ((refine hK7 ?_; try (clear hK7; clear K7)))
     all_goals refine tc_seq fun K8 hK8 => ?_; refine tc_seq fun K9 hK9 => ?_; refine tc_region ?_; refine tl_q (y_move rfl) rfl ?_; refine tl_q (y_len rfl) rfl ?_; refine tl_q (y_eql rfl rfl) rfl ?_; refine tl_nil ?_; ((refine hK9 ?_; try (clear hK9; clear K9)))
     all_goals (
      refine tc_cond rfl (fun hc => ?_) (fun hc => ?_)
      · try simp only [qn1, qn2, qn3, qn4, qn5, qn6, qn7, qn8] at hc
        all_goals refine tc_seq fun K10 hK10 => ?_; refine tc_region ?_; refine tl_q (y_assign rfl) rfl ?_; refine tl_q (y_assign rfl) rfl ?_; refine tl_q (y_assign rfl) rfl ?_; refine tl_nil ?_; ((refine hK10 ?_; try (clear hK10; clear K10)))
        all_goals refine tc_ret ?_; (repeat (refine tk_then_ret ?_))
        all_goals (refine tk_ret rfl rfl (.cons (.tmp rfl) (.cons (.tmp rfl) (.cons (.tmp rfl) .nil))) ?_)
        all_goals (
         refine fun w' hw' => ⟨?_, hw'.fr (by simp)⟩
         first
         | (rw [if_pos (by assumption)]; rfl)
         | (rw [if_neg (by omega), if_pos (by omega)]; rfl)
         | (exfalso; rw [if_neg (by omega), if_neg (by omega)] at he; exact he rfl))
      · try simp only [qn1, qn2, qn3, qn4, qn5, qn6, qn7, qn8] at hc
        all_goals ((exfalso; omega))
        all_goals (
         refine fun w' hw' => ⟨?_, hw'.fr (by simp)⟩
         first
         | (rw [if_pos (by assumption)]; rfl)
         | (rw [if_neg (by omega), if_pos (by omega)]; rfl)
         | (exfalso; rw [if_neg (by omega), if_neg (by omega)] at he; exact he rfl))))
theorem asked_ok (t : Tr) (hn : NT t) (he : askedE t = 0) (sl pl ll tl : Value) (w : World) (hr : RdTr w t sl pl ll tl) :
    CnX Tryz.prog 77 #[trV t sl pl ll tl] w [] (fun y : (Nat × Nat) × (Option Addr × Nat) × Array MapEntry × Nat => .tuple #[ptr y.1.1, slV (truthsL t []).length y.2.1, vi 0])
      (fun y w' => (RdT w' (slV (truthsL t []).length y.2.1) (truthsL t []) ∧ Cache (readV t.s) y.2.2.1.toList ∧ w'.heap[y.1.1]? = some (wkT t sl pl ll tl y.1.2) ∧ y.1.1 ≠ y.1.2) ∧ w.heap.size ≤ y.1.2 ∧ w'.heap[y.1.2]? = some (.map y.2.2.1 y.2.2.2)) := by
  have hr0 := hr
  obtain ⟨hv, hpos⟩ := askedE_0 he
  have hck := chkT_0.2 hv
  refine cnx0 (vs := [_]) Tryz.func77 rfl rfl ?_
  all_goals refine tc_seq fun K1 hK1 => ?_; refine tc_region ?_; refine tl_e (e_box rfl rfl rfl) rfl (fun b1 _ => ?_); refine tl_q (y_assign rfl) rfl ?_; refine tl_q (y_assign rfl) rfl ?_; refine tl_q (y_assign rfl) rfl ?_; refine tl_nil ?_; ((refine hK1 ?_; try (clear hK1; clear K1)))
  all_goals refine tc_seq fun K2 hK2 => ?_; refine tc_seq fun K3 hK3 => ?_; refine tc_region ?_; refine tl_q (y_loadW rfl (by repeat constructor) (by rfl)) rfl ?_; refine tl_e (e_callV rfl (.cons rfl .nil) (fun w' hw' => checkTrial_c t hn _ _ _ _ w' (hr0.fr (hw'.fr (by simp))))) rfl (fun _ _ => ?_); refine tl_q (y_assign rfl) rfl ?_; refine tl_nil ?_; ((refine hK3 ?_; try (clear hK3; clear K3)))
  all_goals refine tc_seq fun K4 hK4 => ?_; refine tc_region ?_; refine tl_q (y_move rfl) rfl ?_; refine tl_q (y_neq rfl rfl) rfl ?_; refine tl_nil ?_; ((refine hK4 ?_; try (clear hK4; clear K4)))
  all_goals (
   refine tc_cond rfl (fun hc => ?_) (fun hc => ?_)
   · try simp only [qn1, qn2, qn3, qn4, qn5, qn6, qn7, qn8] at hc
     all_goals ((exfalso; omega))
   · try simp only [qn1, qn2, qn3, qn4, qn5, qn6, qn7, qn8] at hc
     all_goals refine tc_skip ?_; ((refine hK2 ?_; try (clear hK2; clear K2)))
     all_goals refine tc_seq fun K6 hK6 => ?_; refine tc_region ?_; refine tl_q (y_loadW rfl (by repeat constructor) (by rfl)) rfl ?_; refine tl_e (e_callN rfl (.cons rfl .nil) (fun w' hw' => twork_c t sl pl ll tl hr0.ws.one hr0.ps.one hr0.ls.one hr0.ts.one w')) rfl (fun x hx => ?_); refine tl_q (y_assign rfl) rfl ?_; refine tl_nil ?_; ((refine hK6 ?_; try (clear hK6; clear K6)))
     all_goals refine tc_seq fun K7 hK7 => ?_; refine tc_region ?_; refine tl_q (y_move rfl) rfl ?_; refine tl_e (e_callUX rfl (.cons rfl (.cons rfl .nil)) (fun w' hw' => truths_c t hv [] (by simp) none 0 sl pl ll tl w' x.1 x.2 #[] 0 (tw0 (hr0.fr (hw'.fr (by simp))) (hw'.heap _ (HM.mem (by repeat constructor))) (hw'.heap _ (HM.mem (b := x.2) (by repeat constructor)))) (RdI.nil w')) (fun _ => (by repeat constructor))) rfl (fun y hy => ?_); refine tl_q (y_assign rfl) rfl ?_; refine tl_nil ?_; ((refine hK7 ?_; try (clear hK7; clear K7)))
     all_goals refine tc_seq fun K8 hK8 => ?_; refine tc_seq fun K9 hK9 => ?_; refine tc_region ?_; refine tl_q (y_move rfl) rfl ?_; refine tl_q (y_len rfl) rfl ?_; refine tl_q (y_eql rfl rfl) rfl ?_; refine tl_nil ?_; ((refine hK9 ?_; try (clear hK9; clear K9)))
     all_goals (
      refine tc_cond rfl (fun hc => ?_) (fun hc => ?_)
      · try simp only [qn1, qn2, qn3, qn4, qn5, qn6, qn7, qn8] at hc
        all_goals ((exfalso; omega))
      · try simp only [qn1, qn2, qn3, qn4, qn5, qn6, qn7, qn8] at hc
        all_goals refine tc_skip ?_; ((refine hK8 ?_; try (clear hK8; clear K8)))
        all_goals refine tc_seq fun K11 hK11 => ?_; refine tc_region ?_; refine tl_q (y_move rfl) rfl ?_; refine tl_q (y_move rfl) rfl ?_; refine tl_q (y_assign rfl) rfl ?_; refine tl_q (y_assign rfl) rfl ?_; refine tl_q (y_assign rfl) rfl ?_; refine tl_nil ?_; ((refine hK11 ?_; try (clear hK11; clear K11)))
        all_goals refine tc_ret ?_; (repeat (first | refine tk_then_ret ?_))
        all_goals (refine tk_ret rfl rfl (.cons (.tmp rfl) (.cons (.tmp rfl) (.cons (.tmp rfl) .nil))) ?_)
        all_goals (
         refine fun w' hw' => ?_
         first
         | exact ⟨((x.1, x.2), y.1.1, y.1.2.1, y.1.2.2), rfl, hw'.fr (by simp), ⟨hy.1.1.fr (hw'.calm hy.2 (by simp) (List.Sublist.refl _)), hy.1.2, hw'.heap _ (HM.mem (by repeat constructor)), by have := hw'.nodup; simp at this; dsimp only; omega⟩, (hw'.own _ (HM.mem (b := x.2) (by repeat constructor)) (w, []) (by simp)).resolve_left (by simp), hw'.heap _ (HM.mem (b := x.2) (by repeat constructor))⟩
         | (exfalso; omega))))
end Go.Sp
/-
  What the statements are made of: readings, words, awake.
-/
namespace Go.Sp
open Go Go.Proofs
theorem flatR_append (l m : List (Int × Int)) : flatR (l ++ m) = flatR l ++ flatR m := by simp [flatR]
theorem flatR_len (l : List (Int × Int)) : (flatR l).length = l.length * 2 := by
  induction l with
  | nil => rfl
  | cons r l ih => simp only [flatR, List.flatMap_cons, List.length_append, List.length_cons, List.length_nil] at ih ⊢; omega
theorem flatR_one (l : List (Int × Int)) : one' (flatR l) := fun u hu => by
  obtain ⟨r, _, h⟩ := List.mem_flatMap.1 hu
  simp at h
  rcases h with rfl | rfl <;> rfl
theorem RdR.nil (w : World) : RdR w (.slice none 0 0) [] := ⟨rfl, none, 0, rfl, fun h => absurd rfl h⟩
theorem RdR.own {bs : List (World × List Nat)} {H : List (Nat × Obj)} {w : World} {b : Nat} {xs : List (Int × Int)} {e : TypeId} {f : Nat × Nat} {cap : Nat} {junk : List Value} (hw : HG bs H w) (hm : HM b (.cells (flatR xs ++ junk).toArray e f) H) : RdR w (.slice (some ⟨b, 0, none⟩) xs.length cap) xs := by
  refine ⟨flatR_len xs, _, _, rfl, fun _ => ⟨b, 0, rfl, ?_⟩⟩
  have := CA_pre (flatR xs) junk e f
  rw [flatR_len] at this
  exact this.cells (hw.heap _ hm.mem)
theorem RdR.own0 {bs : List (World × List Nat)} {H : List (Nat × Obj)} {w : World} {b : Nat} {xs : List (Int × Int)} {e : TypeId} {f : Nat × Nat} {cap : Nat} (hw : HG bs H w) (hm : HM b (.cells (flatR xs).toArray e f) H) : RdR w (.slice (some ⟨b, 0, none⟩) xs.length cap) xs :=
  RdR.own (junk := []) hw (by rw [List.append_nil]; exact hm)
def outOkR : Nat × Option (Nat × Nat × List Value) → Prop
  | (n, none) => n = 0
  | (n, some (_, cap, junk)) => n ≤ cap ∧ junk.length = (cap - n) * 2
end Go.Sp
/-
  Package trial: the bounds of all densities.
-/
namespace Go.Sp
open Go Go.Proofs
def widN (l : List Int) (r : Int × Int) (n : Nat) : Int × Int := (l.take n).foldl (fun r d => (min r.1 d, max r.2 d)) r
theorem widN_succ {l : List Int} {r : Int × Int} {n : Nat} {d : Int} (h : l[n]? = some d) : widN l r (n + 1) = (min (widN l r n).1 d, max (widN l r n).2 d) := by
  unfold widN
  rw [List.take_add_one, h, List.foldl_append]; rfl
/-- The bounds of a liquid's density: over so many errors. -/
def bouN (t : Tr) (i : Nat) (n : Nat) : Int × Int := ((truthsL t []).take n).foldl (fun r e => widN (denseL t e i []) r (denseL t e i []).length) ((lqAt t i).2, (lqAt t i).1)
theorem bouN_succ {t : Tr} {i n : Nat} {e : Int × Int × Int} (h : (truthsL t [])[n]? = some e) : bouN t i (n + 1) = widN (denseL t e i []) (bouN t i n) (denseL t e i []).length := by
  unfold bouN
  rw [List.take_add_one, h, List.foldl_append]; rfl
def densR (t : Tr) (n : Nat) : List (Int × Int) := (List.range n).map fun i => bouN t i (truthsL t []).length
theorem densR_succ (t : Tr) (n : Nat) : densR t (n + 1) = densR t n ++ [bouN t n (truthsL t []).length] := by simp [densR, List.range_succ]
theorem densR_len (t : Tr) (n : Nat) : (densR t n).length = n := by simp [densR]
theorem densities_no (t : Tr) (hn : NT t) (he : ¬ askedE t = 0) (sl pl ll tl : Value) (w : World) (hr : RdTr w t sl pl ll tl) : CnV Tryz.prog 46 #[trV t sl pl ll tl] w (.tuple #[.slice none 0 0, vi (askedE t)]) := by
  have hr0 := hr
  refine cnv (vs := [_]) Tryz.func46 rfl rfl ?_
  all_goals refine tc_seq fun K1 hK1 => ?_; refine tc_region ?_; refine tl_e (e_box rfl rfl rfl) rfl (fun b1 _ => ?_); refine tl_q (y_assign rfl) rfl ?_; refine tl_q (y_assign rfl) rfl ?_; refine tl_nil ?_; ((refine hK1 ?_; try (clear hK1; clear K1)))
  all_goals refine tc_seq fun K2 hK2 => ?_; refine tc_region ?_; refine tl_q (y_loadW rfl (by repeat constructor) (by rfl)) rfl ?_; refine tl_e (e_callV rfl (.cons rfl .nil) (fun w' hw' => asked_no t hn he _ _ _ _ w' (hr0.fr (hw'.fr (by simp))))) rfl (fun _ _ => ?_); refine tl_q (y_move rfl) rfl ?_; refine tl_q (y_extract rfl rfl) rfl ?_; refine tl_q (y_extract rfl rfl) rfl ?_; refine tl_q (y_extract rfl rfl) rfl ?_; refine tl_q (y_assign rfl) rfl ?_; refine tl_q (y_assign rfl) rfl ?_; refine tl_q (y_assign rfl) rfl ?_; refine tl_nil ?_; ((refine hK2 ?_; try (clear hK2; clear K2)))
  all_goals refine tc_seq fun K3 hK3 => ?_; refine tc_seq fun K4 hK4 => ?_; refine tc_region ?_; refine tl_q (y_move rfl) rfl ?_; refine tl_q (y_neq rfl rfl) rfl ?_; refine tl_nil ?_; ((refine hK4 ?_; try (clear hK4; clear K4)))
  all_goals (
   refine tc_cond rfl (fun hc => ?_) (fun hc => ?_)
   · try simp only [qn1, qn2, qn3, qn4, qn5, qn6, qn7, qn8] at hc
     all_goals refine tc_seq fun K5 hK5 => ?_; refine tc_region ?_; refine tl_q (y_move rfl) rfl ?_; refine tl_q (y_assign rfl) rfl ?_; refine tl_q (y_assign rfl) rfl ?_; refine tl_nil ?_; ((refine hK5 ?_; try (clear hK5; clear K5)))
     all_goals refine tc_ret ?_; (repeat (refine tk_then_ret ?_))
     all_goals (refine tk_ret rfl rfl (.cons (.tmp rfl) (.cons (.tmp rfl) .nil)) ?_)
     all_goals (
      refine fun w' hw' => ⟨rfl, hw'.fr (by simp)⟩)
   · try simp only [qn1, qn2, qn3, qn4, qn5, qn6, qn7, qn8] at hc
     all_goals ((exfalso; omega))
     all_goals skip)
/-- A call that makes a block that is known, and returns something of which more is known. -/
theorem RdT.opens1 {w : World} {xs : List (Int × Int × Int)} {x : Option Addr × Nat} (h : RdT w (slV xs.length x) xs) : ∃ b o, 0 < xs.length → x.1 = some ⟨b, o, none⟩ := by
  obtain ⟨ad, cap, b, o, e, had, _⟩ := h.open
  injection e with e1 e2 e3
  subst e1
  exact ⟨b, o, had⟩
theorem RdT.at1 {w : World} {b o : Nat} {xs : List (Int × Int × Int)} {x : Option Addr × Nat} (h : RdT w (slV xs.length x) xs) (hx : x.1 = some ⟨b, o, none⟩) {i : Nat} (hi : i < xs.length) : CA (fun k => w.cell? ⟨b, k, none⟩) (o + i * 3) 3 [vi (xs.getD i (0, 0, 0)).1, vi (xs.getD i (0, 0, 0)).2.1, vi (xs.getD i (0, 0, 0)).2.2] := by
  unfold slV at h
  rw [hx] at h
  exact h.at hi
theorem e_callBX {P : Program} {N : NN} {F : List (Nat × Value)} {bs : List (World × List Nat)} {H : List (Nat × Obj)} {d : Tmp} {ty : TypeId} {pos : String} {after : Array Edge} {g : Option (Nat × Bool)} {f : FuncId} [GoFn P f] {xs : List Operand} {tys : Array TypeId} {vs : List Value} {α : Type} {val : α → Value} {p : α → World → Prop} {bk : α → Nat} {ob : α → Obj}
    (hd : Nat.blt d N.n = true) (hxs : EA F xs vs) (hc : ∀ w, HG bs H w → CnX P f vs.toArray w [] val (fun x w' => p x w' ∧ w.heap.size ≤ bk x ∧ w'.heap[bk x]? = some (ob x))) :
    OpE P ⟨some d, .call ⟨.value (.func f), xs.toArray, tys⟩, ty, pos, after, g⟩ N F bs H (fun y : α × World => p y.1 y.2 ∧ HG bs ((bk y.1, ob y.1) :: H) y.2) (fun y => (d, val y.1) :: F) (fun y => (y.2, bk y.1 :: H.map Prod.fst) :: bs) (fun y => (bk y.1, ob y.1) :: H) := by
  unfold OpE
  intro a w ht hw K Q hK
  unfold Oper.wp
  rw [exec_call (x := .func f) rfl hxs ht w]
  simp only [Oper.upon]
  simp only [Array.empty_append, Array.append_empty]
  have hcc := hc w hw
  unfold CnX at hcc
  refine hcc.mono fun e w' he => ?_
  obtain ⟨x, rfl, hf, hp, h1, h2⟩ := he
  have hg := hw.add hf h1 h2
  exact hK (x, w') _ _ ⟨hp, hg⟩ (ht.put hd _) hg.push
def ownD (t : Tr) : Nat × Option (Nat × Nat × List Value) → List (Nat × Obj)
  | (_, none) => []
  | (n, some (b, _, junk)) => [(b, .cells (flatR (densR t n) ++ junk).toArray 50 (0, 0))]
set_option maxHeartbeats 1000000 in
theorem densities_ok (t : Tr) (hn : NT t) (he : askedE t = 0) (sl pl ll tl : Value) (w : World) (hr : RdTr w t sl pl ll tl) :
    CnX Tryz.prog 46 #[trV t sl pl ll tl] w [] (fun y : Option Addr × Nat => .tuple #[slV t.liquids.length y, vi 0]) (fun y w' => RdR w' (slV t.liquids.length y) (densR t t.liquids.length)) := by
  have hr0 := hr
  obtain ⟨hv, hpos⟩ := askedE_0 he
  have hl3 := hv.l3
  have hl1 := hv.l1
  have htl : (truthsL t []).length ≤ 343 := Nat.le_trans (List.length_filter_le _ _) (every_len hv)
  obtain ⟨ad, cp, b0, o0, rfl, had, hcell⟩ := hr.ls.open
  cases had (by omega)
  refine cnx0 (vs := [_]) Tryz.func46 rfl rfl ?_
  all_goals refine tc_seq fun K1 hK1 => ?_; refine tc_region ?_; refine tl_e (e_box rfl rfl rfl) rfl (fun b1 _ => ?_); refine tl_q (y_assign rfl) rfl ?_; refine tl_q (y_assign rfl) rfl ?_; refine tl_nil ?_; ((refine hK1 ?_; try (clear hK1; clear K1)))
  all_goals refine tc_seq fun K2 hK2 => ?_; refine tc_lay ([]) (SB.s .nil) (fun wl1 hl1 => ?_); refine tc_region ?_; refine tl_q (y_loadWf rfl (hl1.at (by repeat constructor)) MI.m (by simp) (by rfl)) rfl ?_; refine tl_e (e_callBX (bk := fun y : (Nat × Nat) × (Option Addr × Nat) × Array MapEntry × Nat => y.1.2) (ob := fun y => .map y.2.2.1 y.2.2.2) rfl (.cons rfl .nil) (fun w' hw' => asked_ok t hn he _ _ _ _ w' (hr0.fr (hw'.fr (w0 := w) (S := []) MI.m)))) rfl (fun y hy => ?_); refine tl_q (y_move rfl) rfl ?_; refine tl_q (y_extract rfl rfl) rfl ?_; refine tl_q (y_extract rfl rfl) rfl ?_; refine tl_q (y_extract rfl rfl) rfl ?_; refine tl_q (y_assign rfl) rfl ?_; refine tl_q (y_assign rfl) rfl ?_; refine tl_q (y_assign rfl) rfl ?_; refine tl_nil ?_; ((refine hK2 ?_; try (clear hK2; clear K2)))
  all_goals refine tc_seq fun K3 hK3 => ?_; refine tc_seq fun K4 hK4 => ?_; (have hTW : TW y.2 t _ _ _ _ y.1.1.1 y.1.1.2 y.1.2.2.1 y.1.2.2.2 := ⟨hr0.fr (hy.2.fr (w0 := w) (S := []) MI.m), hy.1.2.2.1, hy.2.heap _ (HM.mem (by repeat constructor)), hy.1.2.1, hr0.ws.one, hr0.ps.one, hr0.ls.one, hr0.ts.one⟩)
  all_goals ((have hrdT : ∀ w', Fr [y.1.1.2] y.2 w' → RdT w' (slV (truthsL t []).length y.1.2.1) (truthsL t []) := fun w' f => Reads.frM hy.1.1 f (fun z hz => by obtain rfl := List.mem_singleton.1 hz; exact ⟨_, _, hy.2.heap _ (HM.mem .head)⟩)))
  all_goals (obtain ⟨bT, oT, hadT⟩ := hy.1.1.opens1)
  all_goals refine tc_region ?_; refine tl_q (y_move rfl) rfl ?_; refine tl_q (y_neq rfl rfl) rfl ?_; refine tl_nil ?_; ((refine hK4 ?_; try (clear hK4; clear K4)))
  all_goals (
   refine tc_cond rfl (fun hc => ?_) (fun hc => ?_)
   · try simp only [qn1, qn2, qn3, qn4, qn5, qn6, qn7, qn8] at hc
   · try simp only [qn1, qn2, qn3, qn4, qn5, qn6, qn7, qn8] at hc
     all_goals refine tc_skip ?_; ((refine hK3 ?_; try (clear hK3; clear K3)))
     all_goals refine tc_seq fun K6 hK6 => ?_; refine tc_region ?_; refine tl_q (y_assign rfl) rfl ?_; refine tl_nil ?_; ((refine hK6 ?_; try (clear hK6; clear K6)))
     all_goals refine tc_seq fun K7 hK7 => ?_; refine tc_seq fun K8 hK8 => ?_; refine tc_region ?_; refine tl_q (y_field rfl) rfl ?_; refine tl_q (y_load1f rfl (hl1.at (by repeat constructor)) MI.m (by simp) (by rfl)) rfl ?_; refine tl_q (y_len rfl) rfl ?_; refine tl_q (y_move rfl) rfl ?_; refine tl_nil ?_; ((refine hK8 ?_; try (clear hK8; clear K8)))
     all_goals refine tc_block ?_
     all_goals (
      refine tc_loopN (fun p : Nat × Option (Nat × Nat × List Value) × (Array MapEntry × Nat) × List Nat => p.1 ≤ t.liquids.length ∧ outOkR (p.1, p.2.1) ∧ Cache (readV t.s) p.2.2.1.1.toList) (fun p => ⟨Tryz.f46.ntmps, p.2.2.2.map coll⟩) (fun p => [(1, ptr b1), (4, ptr y.1.1.1), (5, slV (truthsL t []).length y.1.2.1), (7, outV' (p.1, p.2.1)), (24, .slice (some ⟨b0, o0, none⟩) t.liquids.length cp), (25, vi t.liquids.length), (26, vi p.1)]) (fun _ => [(y.2, [y.1.1.2]), (wl1, []), (w, [])]) (fun p => (y.1.1.2, .map p.2.2.1.1 p.2.2.1.2) :: (ownD t (p.1, p.2.1) ++ Dl p.2.2.2)) (fun p => t.liquids.length - p.1) ?_ ?_
      · exact tk_startN (0, none, (y.1.2.2.1, y.1.2.2.2), []) ⟨Nat.zero_le _, rfl, hy.1.2.1⟩ rfl (.cons rfl (.cons rfl (.cons rfl (.cons rfl (.cons rfl (.cons rfl (.cons rfl .nil))))))) (fun _ h => h.subl SB.s SB.s)
      · rintro ⟨i, oo, ⟨es2, ck2⟩, Ds⟩ ⟨hi, hok, hca⟩
        dsimp only at hi hok hca ⊢
        all_goals refine tc_seq fun K9 hK9 => ?_; refine tc_region ?_; refine tl_q (y_lss rfl rfl) rfl ?_; refine tl_nil ?_; ((refine hK9 ?_; try (clear hK9; clear K9)))
        all_goals refine tc_seq fun K10 hK10 => ?_
        all_goals (
         refine tc_cond rfl (fun hc => ?_) (fun hc => ?_)
         · try simp only [qn1, qn2, qn3, qn4, qn5, qn6, qn7, qn8] at hc
           all_goals refine tc_skip ?_; ((refine hK10 ?_; try (clear hK10; clear K10)))
           all_goals refine tc_seq fun K11 hK11 => ?_; refine tc_block ?_; refine tc_seq fun K12 hK12 => ?_; refine tc_region ?_; refine tl_q (y_move rfl) rfl ?_; refine tl_q (y_index rfl rfl (by omega) rfl) rfl ?_; ((refine tl_q (y_loadNo (n := 2) (vs := [vi (lqAt t i).1, vi (lqAt t i).2]) rfl (fun w' hw' => by rw [show Int.toNat (i : Int) * 2 = i * 2 from by omega]; exact hcell w' [] (hw'.fr (w0 := w) (S := []) MI.m) (by simp) i (by omega))) rfl ?_))
           all_goals refine tl_e (e_allocN rfl) rfl (fun b9 _ => ?_); refine tl_q (y_assign rfl) rfl ?_; refine tl_e (e_storeW rfl rfl (by repeat constructor) (by rfl) (by rfl) (by simp [Value.oneCell'])) rfl (fun _ _ => ?_); refine tl_nil ?_; ((refine hK12 ?_; try (clear hK12; clear K12)))
           all_goals refine tc_seq fun K13 hK13 => ?_; refine tc_region ?_; refine tl_q (y_field rfl) rfl ?_; refine tl_q (y_load1 rfl (by repeat constructor) (by rfl)) rfl ?_; refine tl_q (y_field rfl) rfl ?_; refine tl_q (y_load1 rfl (by repeat constructor) (by rfl)) rfl ?_; refine tl_q (y_build_2 rfl rfl rfl rfl) rfl ?_; refine tl_e (e_allocN rfl) rfl (fun b10 _ => ?_); refine tl_e (e_storeW rfl rfl (by repeat constructor) (by rfl) (by rfl) (by simp [Value.oneCell'])) rfl (fun _ _ => ?_); refine tl_nil ?_; ((refine hK13 ?_; try (clear hK13; clear K13)))
           all_goals refine tc_seq fun K14 hK14 => ?_; refine tc_seq fun K15 hK15 => ?_; refine tc_region ?_; refine tl_q (y_move rfl) rfl ?_; refine tl_q (y_len rfl) rfl ?_; refine tl_q (y_move rfl) rfl ?_; refine tl_nil ?_; ((refine hK15 ?_; try (clear hK15; clear K15)))
           all_goals refine tc_block ?_
           all_goals (
            refine tc_loopN (fun q : Nat × (Array MapEntry × Nat) × List Nat => q.1 ≤ (truthsL t []).length ∧ Cache (readV t.s) q.2.1.1.toList) (fun q => ⟨Tryz.f46.ntmps, q.2.2.map coll⟩) (fun q => [(1, ptr b1), (4, ptr y.1.1.1), (5, slV (truthsL t []).length y.1.2.1), (7, outV' (i, oo)), (8, vi i), (10, ptr b10), (24, .slice (some ⟨b0, o0, none⟩) t.liquids.length cp), (25, vi t.liquids.length), (26, vi i), (36, slV (truthsL t []).length y.1.2.1), (37, vi (truthsL t []).length), (38, vi q.1)]) (fun _ => [(y.2, [y.1.1.2]), (wl1, []), (w, [])]) (fun q => (y.1.1.2, .map q.2.1.1 q.2.1.2) :: (b10, .cells #[vi (bouN t i q.1).1, vi (bouN t i q.1).2] 50 (0, 0)) :: (ownD t (i, oo) ++ Dl q.2.2)) (fun q => (truthsL t []).length - q.1) ?_ ?_
            · exact tk_startN (0, (es2, ck2), Ds) ⟨Nat.zero_le _, hca⟩ rfl (.cons rfl (.cons rfl (.cons rfl (.cons rfl (.cons rfl (.cons rfl (.cons rfl (.cons rfl (.cons rfl (.cons rfl (.cons rfl (.cons rfl .nil)))))))))))) (fun _ h => (h.subl (H' := [_, _] ++ (ownD t (i, oo) ++ Dl Ds)) SB.s SB.s).sw)
            · rintro ⟨j, ⟨es3, ck3⟩, Ds2⟩ ⟨hj, hca3⟩
              dsimp only at hj hca3 ⊢
              refine tc_fact (y.1.1.2 ∉ (b10 :: (ownD t (i, oo) ++ Dl Ds2).map Prod.fst)) (fun w' h => (List.nodup_cons.1 h.nodup).1) (fun hbm2 => ?_)
              all_goals refine tc_seq fun K16 hK16 => ?_; refine tc_region ?_; refine tl_q (y_lss rfl rfl) rfl ?_; refine tl_nil ?_; ((refine hK16 ?_; try (clear hK16; clear K16)))
              all_goals refine tc_seq fun K17 hK17 => ?_
              all_goals (
               refine tc_cond rfl (fun hc => ?_) (fun hc => ?_)
               · try simp only [qn1, qn2, qn3, qn4, qn5, qn6, qn7, qn8] at hc
                 all_goals refine tc_skip ?_; ((refine hK17 ?_; try (clear hK17; clear K17)))
                 all_goals refine tc_seq fun K18 hK18 => ?_; refine tc_block ?_; refine tc_seq fun K19 hK19 => ?_; (have hadT' := hadT (by omega))
                 all_goals (have hbmT : y.1.1.2 ∉ (b10 :: (ownD t (i, oo) ++ Dl Ds2).map Prod.fst) := hbm2)
                 all_goals (obtain ⟨ej, hej0⟩ : ∃ e, (truthsL t [])[j]? = some e := ⟨_, List.getElem?_eq_getElem (by omega)⟩)
                 all_goals ((have hejd : (truthsL t []).getD j (0, 0, 0) = ej := by rw [List.getD_eq_getElem?_getD, hej0]; rfl))
                 all_goals (have hej : ErB ej := every_bd hv (List.mem_filter.1 (List.mem_of_getElem? hej0)).1)
                 all_goals refine tc_region ?_; refine tl_q (y_index rfl rfl (by omega) hadT') rfl ?_; ((refine tl_q (y_loadNo (n := 3) (vs := [vi ej.1, vi ej.2.1, vi ej.2.2]) rfl (fun w' hw' => by rw [show Int.toNat (j : Int) * 3 = j * 3 from by omega, ← hejd]; exact (hrdT w' (hw'.fr (w0 := y.2) (S := [y.1.1.2]) MI.m)).at1 hadT' (by omega))) rfl ?_))
                 all_goals refine tl_e (e_allocN rfl) rfl (fun b12 _ => ?_); refine tl_e (e_storeW rfl rfl (by repeat constructor) (by rfl) (by rfl) (by simp [Value.oneCell'])) rfl (fun _ _ => ?_); refine tl_nil ?_; ((refine hK19 ?_; try (clear hK19; clear K19)))
                 all_goals refine tc_seq fun K20 hK20 => ?_; refine tc_region ?_; refine tl_q (y_move rfl) rfl ?_; refine tl_q (y_loadW rfl (by repeat constructor) (by rfl)) rfl ?_; refine tl_q (y_move rfl) rfl ?_; refine tl_e (e_callN rfl (.cons rfl (.cons rfl (.cons rfl (.cons rfl .nil)))) (fun w' hw' => tdense_c ej i y.1.1.1 none 0 0 w')) rfl (fun x hx => ?_); refine tl_nil ?_; ((refine hK20 ?_; try (clear hK20; clear K20)))
                 all_goals refine tc_block ?_
                 all_goals (
                  refine tc_rangeP (α := Int) (σ := Nat) (gf := 154) (lb := #[ptr x.1, ptr x.2.1, ptr x.2.2.1, ptr x.2.2.2]) (enc := fun d => [vi d]) (denseL t ej i []) (y.1.1.2 :: (b10 :: (ownD t (i, oo) ++ Dl Ds2).map Prod.fst)) y.1.1.2 (.map es3 ck3) (JMt t) (fun c => (b10, .cells #[vi (widN (denseL t ej i []) (bouN t i j) c).1, vi (widN (denseL t ej i []) (bouN t i j) c).2] 50 (0, 0)) :: (ownD t (i, oo) ++ Dl Ds2)) (fun k c => c = k) (fun _ _ => False) 0 rfl rfl (fun _ => rfl) rfl (fun q hq => List.mem_cons_of_mem _ (by rcases List.mem_cons.1 hq with rfl | hq; simp; exact List.mem_cons_of_mem _ (List.mem_map.2 ⟨q, hq, rfl⟩))) (fun w' h => h.subl SB.s SB.s) (by simp) ⟨es3, ck3, rfl, hca3⟩ (fun _ _ => hbmT) (fun w' hw' => den_seq t hv ej hej [] (by simp) none 0 sl pl _ tl y.2 y.1.1.1 y.1.1.2 _ _ hTW (RdI.nil _) i (by omega) w' x (.map es3 ck3) ((b10, .cells #[vi (bouN t i j).1, vi (bouN t i j).2] 50 (0, 0)) :: (ownD t (i, oo) ++ Dl Ds2)) (hw'.subl (H' := (x.2.2.1, Obj.cells #[.slice none 0 0] 22 (0, 0)) :: (x.2.1, .cells #[vi i] 3 (0, 0)) :: (x.2.2.2, .cells (tsV ej).cells 126 (0, 0)) :: (x.1, .cells #[ptr y.1.1.1] 130 (0, 0)) :: (y.1.1.2, .map es3 ck3) :: (b10, .cells #[vi (bouN t i j).1, vi (bouN t i j).2] 50 (0, 0)) :: (ownD t (i, oo) ++ Dl Ds2)) (List.Sublist.refl _) SB.s) List.mem_cons_self) ?_ ?_ ?_
                  · intro l R0 R1 k c d w2 hlb hb2 hx2 hI K hK
                    subst hI
                    have hws := widN_succ (r := bouN t i j) hx2
                    all_goals refine tc_region ?_; refine tl_q (y_assign rfl) rfl ?_; refine tl_nil ?_; refine hK ?_; clear hK
                    all_goals refine tc_block ?_; refine tc_region ?_; refine tl_q (y_loadW rfl (by repeat constructor) (by rfl)) rfl ?_; refine tl_q (y_move rfl) rfl ?_; refine tl_e (e_callV rfl (.cons rfl (.cons rfl .nil)) (fun w' _ => wider_c _ _ w')) rfl (fun _ _ => ?_); refine tl_e (e_storeW rfl rfl (by repeat constructor) (by rfl) (by rfl) (by simp [Value.oneCell'])) rfl (fun _ _ => ?_); refine tl_nil ?_
                    all_goals (
                     repeat (refine tk_ib ?_)
                     refine tk_rq (c + 1) rfl (fun _ h => ?_)
                     show HG _ ((l, R1) :: (b10, .cells #[vi (widN (denseL t ej i []) (bouN t i j) (c + 1)).1, vi (widN (denseL t ej i []) (bouN t i j) (c + 1)).2] 50 (0, 0)) :: (ownD t (i, oo) ++ Dl Ds2)) _
                     rw [hws]; exact h)
                  · intro D c o' hJo hI
                    subst hI
                    obtain ⟨es4, ck4, rfl, hca4⟩ := hJo
                    all_goals ((refine hK18 ?_; try (clear hK18; clear K18)))
                    all_goals refine tc_region ?_; refine tl_q (y_add rfl rfl (by omega)) rfl ?_; refine tl_q (y_move rfl) rfl ?_; refine tl_nil ?_
                    all_goals (
                     refine tk_roundN (j + 1, (es4, ck4), D :: Ds2) ⟨by dsimp only; omega, hca4⟩ (by dsimp only; omega) rfl (.cons rfl (.cons rfl (.cons rfl (.cons rfl (.cons rfl (.cons rfl (.cons rfl (.cons rfl (.cons rfl (.cons rfl (.cons rfl (.cons rfl .nil)))))))))))) (fun _ h => ?_)
                     dsimp only; rw [bouN_succ hej0]; exact h.perm (List.perm_middle (l₁ := _ :: _ :: ownD t (i, oo))).symm)
                  · intro D c st o' hJo hJ; exact hJ.elim)
               · try simp only [qn1, qn2, qn3, qn4, qn5, qn6, qn7, qn8] at hc
                 all_goals refine tc_exit ?_; ((refine hK14 ?_; try (clear hK14; clear K14)))
                 all_goals (have hjl : j = (truthsL t []).length := by omega)
                 all_goals subst hjl
                 all_goals (rcases oo with _ | ⟨bo, cap, junk⟩)
                 all_goals ((dsimp only [outOkR] at hok; dsimp only [ownD, outV']))
                 all_goals refine tc_region ?_; refine tl_q (y_move rfl) rfl ?_; refine tl_q (y_loadW rfl (by repeat constructor) (by rfl)) rfl ?_; (refine tl_e (e_bslice rfl (by (repeat (first | exact .nil | apply PV.two rfl)); done) rfl rfl) rfl (fun _ _ => ?_))
                 all_goals ((first | refine tl_e (e_append_own (old := flatR (densR t i)) (junk := junk) rfl rfl rfl (by repeat constructor) (by rw [flatR_len, densR_len]) (by omega) hok.1 (fun w' hw' => RdR.own0 (xs := [bouN t i (truthsL t []).length]) hw' (by repeat constructor)) (flatR_one _) (by simp only [List.length_cons, List.length_nil]; omega) rfl) rfl (fun v hv2 => ?_) | refine tl_e (e_append_nil rfl rfl rfl (fun w' hw' => RdR.own0 (xs := [bouN t i (truthsL t []).length]) hw' (by repeat constructor)) (flatR_one _) Nat.zero_lt_one (Nat.le_of_ble_eq_true rfl) rfl) rfl (fun v hv2 => ?_)))
                 all_goals refine tl_q (y_assign rfl) rfl ?_; refine tl_nil ?_; ((refine hK11 ?_; try (clear hK11; clear K11)))
                 all_goals refine tc_region ?_; refine tl_q (y_add rfl rfl (by omega)) rfl ?_; refine tl_q (y_move rfl) rfl ?_; refine tl_nil ?_
                 all_goals (
                  have hs2 := densR_succ t i
                  refine tk_roundN (i + 1, some (v.1, v.2.1, v.2.2), (es3, ck3), Ds2) ⟨by dsimp only; omega, ?_, hca3⟩ (by dsimp only; omega) rfl (.cons rfl (.cons rfl (.cons rfl (.cons ?_ (.cons rfl (.cons rfl (.cons rfl .nil))))))) (fun _ h => ?_)
                  · dsimp only [outOkR]; simp only [List.length_cons, List.length_nil] at hv2; omega
                  · dsimp only [outV']; first | rfl | (rw [hok]; rfl)
                  · dsimp only [ownD]
                    rw [hs2, flatR_append]
                    first
                    | (rw [show densR t i = [] from List.eq_nil_of_length_eq_zero (by rw [densR_len]; exact hok), show flatR [] = [] from rfl, List.nil_append]; exact (h.subl (H' := [_, _] ++ Dl Ds2) (List.Sublist.refl _) SB.s).sw)
                    | exact (h.subl (H' := [_, _] ++ Dl Ds2) (List.Sublist.refl _) SB.s).sw)))
         · try simp only [qn1, qn2, qn3, qn4, qn5, qn6, qn7, qn8] at hc
           all_goals refine tc_exit ?_; ((refine hK7 ?_; try (clear hK7; clear K7)))
           all_goals refine tc_seq fun K21 hK21 => ?_; (have hil : i = t.liquids.length := by omega)
           all_goals subst hil
           all_goals (rcases oo with _ | ⟨bo, cap, junk⟩)
           all_goals ((dsimp only [outOkR] at hok; dsimp only [ownD, outV']))
           all_goals (try (exfalso; omega))
           all_goals refine tc_region ?_; refine tl_q (y_move rfl) rfl ?_; refine tl_q (y_assign rfl) rfl ?_; refine tl_q (y_assign rfl) rfl ?_; refine tl_nil ?_; ((refine hK21 ?_; try (clear hK21; clear K21)))
           all_goals refine tc_ret ?_; (repeat (first | refine tk_then_ret ?_))
           all_goals (refine tk_retD Ds rfl (fun _ h => h.perm (List.perm_append_comm (l₁ := [_, _]))) rfl (.cons (.tmp rfl) (.cons (.tmp rfl) .nil)) ?_)
           all_goals (
            refine fun w' hw' => ⟨(some ⟨bo, 0, none⟩, cap), rfl, hw'.fr (by simp), ?_⟩
            have := RdR.own (xs := densR t t.liquids.length) (cap := cap) (junk := junk) (b := bo) hw' (by repeat constructor)
            rw [densR_len] at this
            exact this))))
end Go.Sp
/-
  Package trial: lists of numbers in order, the shortest first.
-/
namespace Go.Sp
open Go Go.Proofs
abbrev taddV (bf bp bb ba : Nat) : Value := .func (.func 138) #[] #[ptr bf, ptr bp, ptr bb, ptr ba]
theorem tadd_c (g : FuncId) [GoFn Tryz.prog g] (cap : Array Value) (p : List Int → Bool) (below : Int) (hbl : 0 ≤ below) (hbl2 : below ≤ 20) (bf bm bp bb ba : Nat) (hnd : [bf, bm, bp, bb, ba].Nodup) (J : Obj → Prop) :
    ∀ (m : Nat) (mi : Int) (l : List Int) (fr : Int) (sl vf : Value) (om : Obj) (w : World), mi = m → l.length + m ≤ 20 → 0 ≤ fr → fr ≤ 30 → vf.oneCell' = true →
    w.heap[bf]? = some (.cells #[vf] 22 (0, 0)) → w.heap[bm]? = some om → J om → w.heap[bp]? = some (.cells #[.func (.func g) #[] cap] 155 (0, 0)) →
    w.heap[bb]? = some (.cells #[vi below] 3 (0, 0)) → w.heap[ba]? = some (.cells #[taddV bf bp bb ba] 187 (0, 0)) →
    SlSt w sl l [bf, bm, bp, bb, ba] → Pass Tryz.prog g cap p below [bf, bm] bm J w → (∀ x ∈ l, 0 ≤ x ∧ x < below) →
    CnX Tryz.prog 138 #[sl, vi fr, vi mi, ptr bf, ptr bp, ptr bb, ptr ba] w [bf, bm] (fun _ : Value × Obj => .bool (srch p below m l fr).isSome)
      (fun x w' => (w'.heap[bf]? = some (.cells #[x.1] 22 (0, 0)) ∧ w'.heap[bm]? = some x.2) ∧ J x.2 ∧ x.1.oneCell' = true ∧ ∀ r, srch p below m l fr = some r → RdI w' x.1 r) := by
  intro m
  induction m with
  | zero =>
    intro mi l fr sl vf om w hmi hlen hf0 hf1 hvf h1 h2 hJ h3 h4 h5 hsl hp hle
    have hone : sl.oneCell' = true := by rcases hsl with ⟨_, rfl⟩ | ⟨b, n, c, j, _, rfl, _⟩ <;> rfl
    have hcl : sl.cells = #[sl] := by rcases hsl with ⟨_, rfl⟩ | ⟨b, n, c, j, _, rfl, _⟩ <;> rfl
    have hsep2 : sepS sl [bf, bm] := fun q mm c h => by have := hsl.sep q mm c h; simp at this ⊢; exact ⟨this.1, this.2.1⟩
    refine cnxS (vs := [_, _, _, _, _, _, _]) (S := [ba, bb, bp, bf, bm]) [(bf, .cells #[vf] 22 (0, 0)), (bm, om), (bp, .cells #[.func (.func g) #[] cap] 155 (0, 0)), (bb, .cells #[vi below] 3 (0, 0)), (ba, .cells #[taddV bf bp bb ba] 187 (0, 0))] Tryz.func138 rfl rfl
      ⟨by simp [h1, h2, h3, h4, h5], by simpa using hnd, by simp⟩ ?_
    have hbut : ∀ w', HG [(w, [ba, bb, bp, bf, bm])] [(bp, .cells #[.func (.func g) #[] cap] 155 (0, 0)), (bb, .cells #[vi below] 3 (0, 0)), (ba, .cells #[taddV bf bp bb ba] 187 (0, 0))] w' → Fr [bf, bm] w w' := fun w' hw' =>
      Fr.but (Fr.but (Fr.but (hw'.fr (S := [ba, bb, bp, bf, bm]) (by simp)) (by rw [hw'.heap (ba, _) (HM.mem (by repeat constructor)), h5])) (by rw [hw'.heap (bb, _) (HM.mem (by repeat constructor)), h4])) (by rw [hw'.heap (bp, _) (HM.mem (by repeat constructor)), h3])
    all_goals refine tc_seq fun K1 hK1 => ?_; refine tc_region ?_; refine tl_q (y_assign rfl) rfl ?_; refine tl_nil ?_; ((refine hK1 ?_; try (clear hK1; clear K1)))
    all_goals refine tc_seq fun K2 hK2 => ?_; refine tc_seq fun K3 hK3 => ?_; refine tc_region ?_; refine tl_q (y_move rfl) rfl ?_; refine tl_q (y_eql rfl rfl) rfl ?_; refine tl_nil ?_; ((refine hK3 ?_; try (clear hK3; clear K3)))
    all_goals (
     refine tc_cond rfl (fun hc => ?_) (fun hc => ?_)
     · try simp only [qn1, qn2, qn3, qn4, qn5, qn6, qn7, qn8] at hc
       all_goals refine tc_seq fun K4 hK4 => ?_; refine tc_region ?_; refine tl_q (y_move rfl) rfl ?_; refine tl_e (e_store1 rfl rfl (by repeat constructor) (by repeat constructor) hcl hone) rfl (fun _ _ => ?_); refine tl_nil ?_; ((refine hK4 ?_; try (clear hK4; clear K4)))
       all_goals refine tc_seq fun K5 hK5 => ?_; refine tc_region ?_; refine tl_q (y_load1 rfl (by repeat constructor) (by rfl)) rfl ?_; refine tl_q (y_move rfl) rfl ?_; refine tl_e (e_callUf rfl rfl (.cons rfl .nil) (fun w' hw' => hp w' om l sl (hbut w' (hw'.sub (fun _ h => h) SB.s)) (hw'.heap _ (HM.mem (by repeat constructor))) hJ (hsl.rd.frS (hbut w' (hw'.sub (fun _ h => h) SB.s)) hsep2) hsep2 hone (by omega) hle) (fun _ => (by repeat constructor))) rfl (fun o' hJ' => ?_); refine tl_q (y_assign rfl) rfl ?_; refine tl_nil ?_; ((refine hK5 ?_; try (clear hK5; clear K5)))
       all_goals refine tc_ret ?_; (repeat (refine tk_then_ret ?_))
       all_goals (refine tk_ret rfl rfl (.cons (.tmp rfl) .nil) ?_)
       all_goals (
        refine fun w' hw' => ⟨(sl, o'), by simp only [outV, srch]; cases p l <;> rfl, hbut w' (hw'.sub (fun _ h => h) SB.s), ⟨hw'.heap _ (HM.mem (by repeat constructor)), hw'.heap _ (HM.mem (by repeat constructor))⟩, hJ', hone, fun r hr => ?_⟩
        have : l = r := by simp only [srch] at hr; split at hr; exact Option.some.inj hr; cases hr
        subst this
        exact hsl.rd.frS (hbut w' (hw'.sub (fun _ h => h) SB.s)) hsep2)
     · try simp only [qn1, qn2, qn3, qn4, qn5, qn6, qn7, qn8] at hc
       all_goals ((exfalso; omega))
       all_goals skip)
  | succ m ih =>
    intro mi l fr sl vf om w hmi hlen hf0 hf1 hvf h1 h2 hJ h3 h4 h5 hsl hp hle
    have hone : sl.oneCell' = true := by rcases hsl with ⟨_, rfl⟩ | ⟨b, n, c, j, _, rfl, _⟩ <;> rfl
    have hbut : ∀ w', HG [(w, [ba, bb, bp, bf, bm])] [(bp, .cells #[.func (.func g) #[] cap] 155 (0, 0)), (bb, .cells #[vi below] 3 (0, 0)), (ba, .cells #[taddV bf bp bb ba] 187 (0, 0))] w' → Fr [bf, bm] w w' := fun w' hw' =>
      Fr.but (Fr.but (Fr.but (hw'.fr (S := [ba, bb, bp, bf, bm]) (by simp)) (by rw [hw'.heap (ba, _) (HM.mem (by repeat constructor)), h5])) (by rw [hw'.heap (bb, _) (HM.mem (by repeat constructor)), h4])) (by rw [hw'.heap (bp, _) (HM.mem (by repeat constructor)), h3])
    have hsep2 : sepS sl [bf, bm] := fun q mm c h => by have := hsl.sep q mm c h; simp at this ⊢; exact ⟨this.1, this.2.1⟩
    have hp' : ∀ w', Fr [bf, bm] w w' → Pass Tryz.prog g cap p below [bf, bm] bm J w' := fun w' f w1 o xs v f1 => hp w1 o xs v (f.trans f1 (fun x hx => .inl hx))
    have hrd : ∀ w', Fr [bf, bm] w w' → RdI w' sl l := fun w' f => hsl.rd.frS f hsep2
    -- the slice that is handed on: of the call's own
    have hst : ∀ (w' : World) (H : List (Nat × Obj)) (b n c : Nat) (x : Int) (junk : List Value), HG [(w, [ba, bb, bp, bf, bm])] ((b, .cells (l.map vi ++ [vi x] ++ junk).toArray 3 (0, 0)) :: H) w' → n = l.length + 1 → (∀ y ∈ [bf, bm, bp, bb, ba], y ∈ H.map Prod.fst) → SlSt w' (.slice (some ⟨b, 0, none⟩) n c) (l ++ [x]) [bf, bm, bp, bb, ba] := fun w' H b n c x junk hw' hn hy =>
      .inr ⟨b, n, c, junk, by simp [hn], rfl, by have := hw'.heap _ (HM.mem (b := b) .head); simpa using this, fun hb => by have hnn := hw'.nodup; simp only [List.map_cons, List.nodup_cons] at hnn; exact hnn.1 (hy b hb)⟩
    have hih : ∀ (w' : World) (H : List (Nat × Obj)) (b n c : Nat) (j : Nat) (junk : List Value) (vf' : Value) (om' : Obj), HG [(w, [ba, bb, bp, bf, bm])] ((b, .cells (l.map vi ++ [vi (fr + (j : Int))] ++ junk).toArray 3 (0, 0)) :: H) w' → n = l.length + 1 → (∀ y ∈ [bf, bm, bp, bb, ba], y ∈ H.map Prod.fst) → vf'.oneCell' = true → J om' → fr + (j : Int) < below →
        HM bf (.cells #[vf'] 22 (0, 0)) H → HM bm om' H → HM bp (.cells #[.func (.func g) #[] cap] 155 (0, 0)) H → HM bb (.cells #[vi below] 3 (0, 0)) H → HM ba (.cells #[taddV bf bp bb ba] 187 (0, 0)) H →
        CnX Tryz.prog 138 (#[] ++ #[.slice (some ⟨b, 0, none⟩) n c, vi (fr + (j : Int) + 1), vi (mi - 1)] ++ #[ptr bf, ptr bp, ptr bb, ptr ba]) w' [bf, bm] (fun _ : Value × Obj => .bool (srch p below m (l ++ [fr + (j : Int)]) (fr + (j : Int) + 1)).isSome)
          (fun x w2 => (w2.heap[bf]? = some (.cells #[x.1] 22 (0, 0)) ∧ w2.heap[bm]? = some x.2) ∧ J x.2 ∧ x.1.oneCell' = true ∧ ∀ r, srch p below m (l ++ [fr + (j : Int)]) (fr + (j : Int) + 1) = some r → RdI w2 x.1 r) := fun w' H b n c j junk vf' om' hw' hn hy hv hJ' hj2 m1 m2 m3 m4 m5 => by
      rw [show (#[] ++ #[.slice (some ⟨b, 0, none⟩) n c, vi (fr + (j : Int) + 1), vi (mi - 1)] ++ #[ptr bf, ptr bp, ptr bb, ptr ba] : Array Value) = #[.slice (some ⟨b, 0, none⟩) n c, vi (fr + (j : Int) + 1), vi (mi - 1), ptr bf, ptr bp, ptr bb, ptr ba] from by simp]
      exact ih (mi - 1) (l ++ [fr + (j : Int)]) (fr + (j : Int) + 1) _ vf' om' w' (by omega) (by simp; omega) (by omega) (by omega) hv (hw'.heap _ (HM.mem (.tail m1))) (hw'.heap _ (HM.mem (.tail m2))) hJ' (hw'.heap _ (HM.mem (.tail m3))) (hw'.heap _ (HM.mem (.tail m4))) (hw'.heap _ (HM.mem (.tail m5))) (hst w' H b n c _ junk hw' hn hy)
        (hp' w' (hbut w' (hw'.pick _ (fun q hq => by
          rcases (by simpa using hq : q = _ ∨ q = _ ∨ q = _) with rfl | rfl | rfl
          · exact HM.mem (.tail m3)
          · exact HM.mem (.tail m4)
          · exact HM.mem (.tail m5)) (by simp at hnd ⊢; omega)))) (fun x hx => by
          rcases List.mem_append.1 hx with h | h
          · exact hle x h
          · obtain rfl := List.mem_singleton.1 h; omega)
    refine cnxS (vs := [_, _, _, _, _, _, _]) (S := [ba, bb, bp, bf, bm]) [(bf, .cells #[vf] 22 (0, 0)), (bm, om), (bp, .cells #[.func (.func g) #[] cap] 155 (0, 0)), (bb, .cells #[vi below] 3 (0, 0)), (ba, .cells #[taddV bf bp bb ba] 187 (0, 0))] Tryz.func138 rfl rfl
      ⟨by simp [h1, h2, h3, h4, h5], by simpa using hnd, by simp⟩ ?_
    all_goals refine tc_seq fun K1 hK1 => ?_; refine tc_region ?_; refine tl_q (y_assign rfl) rfl ?_; refine tl_nil ?_; ((refine hK1 ?_; try (clear hK1; clear K1)))
    all_goals refine tc_seq fun K2 hK2 => ?_; refine tc_seq fun K3 hK3 => ?_; refine tc_region ?_; refine tl_q (y_move rfl) rfl ?_; refine tl_q (y_eql rfl rfl) rfl ?_; refine tl_nil ?_; ((refine hK3 ?_; try (clear hK3; clear K3)))
    all_goals (
     refine tc_cond rfl (fun hc => ?_) (fun hc => ?_)
     · try simp only [qn1, qn2, qn3, qn4, qn5, qn6, qn7, qn8] at hc
       all_goals ((exfalso; omega))
     · try simp only [qn1, qn2, qn3, qn4, qn5, qn6, qn7, qn8] at hc
       all_goals refine tc_skip ?_; ((refine hK2 ?_; try (clear hK2; clear K2)))
       all_goals refine tc_seq fun K6 hK6 => ?_; refine tc_seq fun K7 hK7 => ?_; refine tc_region ?_; refine tl_q (y_move rfl) rfl ?_; refine tl_q (y_assign rfl) rfl ?_; refine tl_nil ?_; ((refine hK7 ?_; try (clear hK7; clear K7)))
       all_goals refine tc_block ?_
       all_goals (
        refine tc_loop (fun p' : Nat × Value × Obj => p'.1 ≤ (below - m - fr).toNat ∧ J p'.2.2 ∧ p'.2.1.oneCell' = true ∧ ∀ k : Nat, k < p'.1 → srch p below m (l ++ [fr + (k : Int)]) (fr + (k : Int) + 1) = none) (fun p' => [(0, sl), (2, vi mi), (3, ptr bf), (4, ptr bp), (5, ptr bb), (6, ptr ba), (11, vi (fr + (p'.1 : Int)))]) (fun _ => [(w, [ba, bb, bp, bf, bm])]) (fun p' => [(bf, .cells #[p'.2.1] 22 (0, 0)), (bm, p'.2.2), (bp, .cells #[.func (.func g) #[] cap] 155 (0, 0)), (bb, .cells #[vi below] 3 (0, 0)), (ba, .cells #[taddV bf bp bb ba] 187 (0, 0))]) (fun p' => (below - m - fr).toNat - p'.1) ?_ ?_
        · refine tk_start (0, vf, om) ⟨Nat.zero_le _, hJ, hvf, fun k hk => absurd hk (Nat.not_lt_zero k)⟩ ?_ (fun _ h => h.sub (fun _ h => h) SB.s)
          dsimp only
          rw [show fr + ((0 : Nat) : Int) = fr from by omega]
          exact .cons rfl (.cons rfl (.cons rfl (.cons rfl (.cons rfl (.cons rfl (.cons rfl .nil))))))
        · rintro ⟨j, vf', om'⟩ ⟨hj, hJ', hvf', hno⟩
          dsimp only at hj hJ' hvf' hno ⊢
          all_goals refine tc_seq fun K8 hK8 => ?_; refine tc_seq fun K9 hK9 => ?_; refine tc_region ?_; refine tl_q (y_move rfl) rfl ?_; refine tl_q (y_load1 rfl (by repeat constructor) (by rfl)) rfl ?_; refine tl_q (y_move rfl) rfl ?_; refine tl_q (y_sub rfl rfl (by omega)) rfl ?_; refine tl_q (y_leq rfl rfl) rfl ?_; refine tl_nil ?_; ((refine hK9 ?_; try (clear hK9; clear K9)))
          all_goals (
           refine tc_cond rfl (fun hc => ?_) (fun hc => ?_)
           · try simp only [qn1, qn2, qn3, qn4, qn5, qn6, qn7, qn8] at hc
             all_goals refine tc_skip ?_; ((refine hK8 ?_; try (clear hK8; clear K8)))
             all_goals refine tc_seq fun K10 hK10 => ?_; refine tc_block ?_; refine tc_seq fun K11 hK11 => ?_; ((rcases hsr : srch p below m (l ++ [fr + (j : Int)]) (fr + (j : Int) + 1) with _ | rs <;> rcases hsl with ⟨rfl, rfl⟩ | ⟨b0, _, c0, j0, rfl, rfl, hh0, hb0⟩))
             all_goals refine tc_draw (by kernel_rfl) ?_; refine tx_qS 0 rfl (by kernel_rfl) (y_load1 rfl (by repeat constructor) (by rfl)) rfl (fun _ _ _ h => h) (fun _ h => h.subl SB.s SB.s) ?_; refine tx_p 1 rfl (by kernel_rfl) (y_move rfl) rfl (fun _ _ _ h => h) (fun _ h => h.subl SB.s SB.s) ?_; refine tx_p 3 rfl (by kernel_rfl) (y_move rfl) rfl (fun _ _ _ h => h) (fun _ h => h.subl SB.s SB.s) ?_; refine tx_p 6 rfl (by kernel_rfl) (y_move rfl) rfl (fun _ _ _ h => h) (fun _ h => h.subl SB.s SB.s) ?_; refine tx_p 7 rfl (by kernel_rfl) (y_add rfl rfl (by omega)) rfl (fun _ _ _ h => h) (fun _ h => h.subl SB.s SB.s) ?_; refine tx_p 8 rfl (by kernel_rfl) (y_move rfl) rfl (fun _ _ _ h => h) (fun _ h => h.subl SB.s SB.s) ?_; refine tx_p 9 rfl (by kernel_rfl) (y_sub rfl rfl (by omega)) rfl (fun _ _ _ h => h) (fun _ h => h.subl SB.s SB.s) ?_
             all_goals (
              refine tx_pair 2 4 (by kernel_rfl) ?_ ?_
              rotate_left
              focus (
               (refine to_e rfl rfl (e_bslice rfl (by (repeat (first | exact .nil | apply PV.one rfl rfl)); done) rfl rfl) (.inr ⟨fun _ _ h => h.subl SB.s SB.s, fun _ h => h⟩) (fun _ _ => ?_))
               all_goals (first | refine tx_single 2 (by kernel_rfl) (to_e rfl rfl (e_callB rfl (.cons rfl .nil) (fun w' hw' => clone_own b0 c0 l (by omega) w' (hrd w' (hbut w' (hw'.sub (fun _ h => h) SB.s))))) (.inr ⟨fun _ _ h => h.subl SB.s SB.s, fun _ h => h⟩) (fun r hr3 => ?_)) | refine tx_single 2 (by kernel_rfl) (to_e rfl rfl (e_callV rfl (.cons rfl .nil) (fun w' _ => clone_nil w')) (.inr ⟨fun _ _ h => h.subl SB.s SB.s, fun _ h => h⟩) (fun r hr3 => ?_))); ((first | refine tx_single 5 (by kernel_rfl) (to_e rfl rfl (e_append_own (old := l.map vi) (junk := r.2.2) rfl rfl rfl (by repeat constructor) (by simp) (by omega) hr3.1 (fun w' hw' => RdI.own0 (xs := [fr + (j : Int)]) hw' (by repeat constructor)) (fun u hu => by obtain ⟨_, _, rfl⟩ := List.mem_map.1 hu; rfl) (by simp only [List.length_cons, List.length_nil]; omega) rfl) (.inr ⟨fun _ _ h => h.subl SB.s SB.s, fun _ h => h⟩) (fun q hq => ?_)) | refine tx_single 5 (by kernel_rfl) (to_e rfl rfl (e_append_nil rfl rfl rfl (fun w' hw' => RdI.own0 (xs := [fr + (j : Int)]) hw' (by repeat constructor)) (fun u hu => by obtain ⟨_, _, rfl⟩ := List.mem_map.1 hu; rfl) Nat.zero_lt_one (Nat.le_of_ble_eq_true rfl) rfl) (.inr ⟨fun _ _ h => h.subl SB.s SB.s, fun _ h => h⟩) (fun q hq => ?_))))
               all_goals ((first | refine tx_single 10 (by kernel_rfl) (to_e (S' := HG [] []) rfl rfl (e_callU2f (val := fun _ => .bool false) (p := fun y : Value × Obj => J y.2 ∧ y.1.oneCell' = true) (ob := fun x : Value × Obj => .cells #[x.1] 22 (0, 0)) (oc := fun x : Value × Obj => x.2) rfl rfl (.cons rfl (.cons rfl (.cons rfl .nil))) (fun w' hw' => CnX.imp (val' := fun _ : Value × Obj => .bool false) (hih w' _ _ _ _ j _ _ _ hw' rfl (by simp) hvf' hJ' (by omega) (by repeat constructor) (by repeat constructor) (by repeat constructor) (by repeat constructor) (by repeat constructor)) id (fun _ => congrArg (fun o : Option (List Int) => Value.bool o.isSome) hsr.symm) (fun _ h => h) (fun x w2 _ hx => ⟨⟨hx.2.1, hx.2.2.1⟩, hx.1⟩)) (fun _ => (by repeat constructor)) (fun _ => (by repeat constructor))) (.inl (by kernel_rfl)) (fun y hy => ?_)) | refine tx_single 10 (by kernel_rfl) (to_e (S' := HG [] []) rfl rfl (e_callEnd (val := fun _ => .bool true) (p := fun (x : Value × Obj) (w2 : World) => (w2.heap[bf]? = some (.cells #[x.1] 22 (0, 0)) ∧ w2.heap[bm]? = some x.2) ∧ J x.2 ∧ x.1.oneCell' = true ∧ RdI w2 x.1 rs) rfl rfl (.cons rfl (.cons rfl (.cons rfl .nil))) (fun w' hw' => CnX.imp (val' := fun _ : Value × Obj => .bool true) (hih w' _ _ _ _ j _ _ _ hw' rfl (by simp) hvf' hJ' (by omega) (by repeat constructor) (by repeat constructor) (by repeat constructor) (by repeat constructor) (by repeat constructor)) id (fun _ => congrArg (fun o : Option (List Int) => Value.bool o.isSome) hsr.symm) (fun _ h => h) (fun x w2 _ hx => ⟨hx.1, hx.2.1, hx.2.2.1, hx.2.2.2 rs hsr⟩)) (fun w' hw' β hβ x hx => .inl (by obtain rfl := List.mem_singleton.1 hβ; simp only [List.mem_cons, List.not_mem_nil, or_false] at hx ⊢; omega))) (.inl (by kernel_rfl)) (fun y hy => ?_))))
               all_goals refine tx_done (by kernel_rfl) ?_)
              rotate_right
              focus (
               (first | refine to_e rfl rfl (e_callB rfl (.cons rfl .nil) (fun w' hw' => clone_own b0 c0 l (by omega) w' (hrd w' (hbut w' (hw'.sub (fun _ h => h) SB.s))))) (.inr ⟨fun _ _ h => h.subl SB.s SB.s, fun _ h => h⟩) (fun r hr3 => ?_) | refine to_e rfl rfl (e_callV rfl (.cons rfl .nil) (fun w' _ => clone_nil w')) (.inr ⟨fun _ _ h => h.subl SB.s SB.s, fun _ h => h⟩) (fun r hr3 => ?_))
               all_goals (refine tx_single 4 (by kernel_rfl) (to_e rfl rfl (e_bslice rfl (by (repeat (first | exact .nil | apply PV.one rfl rfl)); done) rfl rfl) (.inr ⟨fun _ _ h => h.subl SB.s SB.s, fun _ h => h⟩) (fun _ _ => ?_)))
               all_goals ((first | refine tx_single 5 (by kernel_rfl) (to_e rfl rfl (e_append_own (old := l.map vi) (junk := r.2.2) rfl rfl rfl (by repeat constructor) (by simp) (by omega) hr3.1 (fun w' hw' => RdI.own0 (xs := [fr + (j : Int)]) hw' (by repeat constructor)) (fun u hu => by obtain ⟨_, _, rfl⟩ := List.mem_map.1 hu; rfl) (by simp only [List.length_cons, List.length_nil]; omega) rfl) (.inr ⟨fun _ _ h => h.subl SB.s SB.s, fun _ h => h⟩) (fun q hq => ?_)) | refine tx_single 5 (by kernel_rfl) (to_e rfl rfl (e_append_nil rfl rfl rfl (fun w' hw' => RdI.own0 (xs := [fr + (j : Int)]) hw' (by repeat constructor)) (fun u hu => by obtain ⟨_, _, rfl⟩ := List.mem_map.1 hu; rfl) Nat.zero_lt_one (Nat.le_of_ble_eq_true rfl) rfl) (.inr ⟨fun _ _ h => h.subl SB.s SB.s, fun _ h => h⟩) (fun q hq => ?_))))
               all_goals ((first | refine tx_single 10 (by kernel_rfl) (to_e (S' := HG [] []) rfl rfl (e_callU2f (val := fun _ => .bool false) (p := fun y : Value × Obj => J y.2 ∧ y.1.oneCell' = true) (ob := fun x : Value × Obj => .cells #[x.1] 22 (0, 0)) (oc := fun x : Value × Obj => x.2) rfl rfl (.cons rfl (.cons rfl (.cons rfl .nil))) (fun w' hw' => CnX.imp (val' := fun _ : Value × Obj => .bool false) (hih w' _ _ _ _ j _ _ _ hw' rfl (by simp) hvf' hJ' (by omega) (by repeat constructor) (by repeat constructor) (by repeat constructor) (by repeat constructor) (by repeat constructor)) id (fun _ => congrArg (fun o : Option (List Int) => Value.bool o.isSome) hsr.symm) (fun _ h => h) (fun x w2 _ hx => ⟨⟨hx.2.1, hx.2.2.1⟩, hx.1⟩)) (fun _ => (by repeat constructor)) (fun _ => (by repeat constructor))) (.inl (by kernel_rfl)) (fun y hy => ?_)) | refine tx_single 10 (by kernel_rfl) (to_e (S' := HG [] []) rfl rfl (e_callEnd (val := fun _ => .bool true) (p := fun (x : Value × Obj) (w2 : World) => (w2.heap[bf]? = some (.cells #[x.1] 22 (0, 0)) ∧ w2.heap[bm]? = some x.2) ∧ J x.2 ∧ x.1.oneCell' = true ∧ RdI w2 x.1 rs) rfl rfl (.cons rfl (.cons rfl (.cons rfl .nil))) (fun w' hw' => CnX.imp (val' := fun _ : Value × Obj => .bool true) (hih w' _ _ _ _ j _ _ _ hw' rfl (by simp) hvf' hJ' (by omega) (by repeat constructor) (by repeat constructor) (by repeat constructor) (by repeat constructor) (by repeat constructor)) id (fun _ => congrArg (fun o : Option (List Int) => Value.bool o.isSome) hsr.symm) (fun _ h => h) (fun x w2 _ hx => ⟨hx.1, hx.2.1, hx.2.2.1, hx.2.2.2 rs hsr⟩)) (fun w' hw' β hβ x hx => .inl (by obtain rfl := List.mem_singleton.1 hβ; simp only [List.mem_cons, List.not_mem_nil, or_false] at hx ⊢; omega))) (.inl (by kernel_rfl)) (fun y hy => ?_))))
               all_goals refine tx_done (by kernel_rfl) ?_))
             all_goals ((refine hK11 ?_; try (clear hK11; clear K11)))
             all_goals (
              refine tc_cond rfl (fun hc => ?_) (fun hc => ?_)
              · try simp only [qn1, qn2, qn3, qn4, qn5, qn6, qn7, qn8] at hc
                all_goals ((first | (exfalso; with_reducible exact bft hc) | skip))
                all_goals refine tc_seq fun K12 hK12 => ?_; refine tc_region ?_; refine tl_q (y_assign rfl) rfl ?_; refine tl_nil ?_; ((refine hK12 ?_; try (clear hK12; clear K12)))
                all_goals refine tc_ret ?_; (repeat (first | refine tk_then_ret ?_ | refine tk_block_ret ?_))
                all_goals (refine tk_ret rfl rfl (.cons (.tmp rfl) .nil) ?_)
                all_goals (
                 first
                 | (refine fun w' hw' => ?_
                    have f0 : Fr [] y.2.2 w' := hw'.fr (by simp)
                    have f1 := hbut y.2.1 (hy.1.sub (fun _ h => h) SB.s)
                    have e1 : srch p below (m + 1) _ fr = some rs := fs_hit (j := j) (by omega) hsr hno
                    exact ⟨y.1, by rw [e1]; rfl, (f1.trans hy.2.1 (fun x hx => .inl hx)).trans f0 (by simp), ⟨f0.keep hy.2.2.1.1, f0.keep hy.2.2.1.2⟩, hy.2.2.2.1, hy.2.2.2.2.1, fun r hr => by rw [e1] at hr; cases hr; exact hy.2.2.2.2.2.fr f0⟩)
                 | (have e1 : srch p below (m + 1) l fr = none := fs_miss (fun k hk => hno k (by omega))
                    exact fun w' hw' => ⟨(vf', om'), by rw [e1]; rfl, hbut w' (hw'.sub (fun _ h => h) SB.s), ⟨hw'.heap _ (HM.mem (by repeat constructor)), hw'.heap _ (HM.mem (by repeat constructor))⟩, hJ', hvf', fun r hr => by rw [e1] at hr; cases hr⟩))
              · try simp only [qn1, qn2, qn3, qn4, qn5, qn6, qn7, qn8] at hc
                all_goals ((first | (exfalso; with_reducible exact btf hc) | skip))
                all_goals refine tc_skip ?_; ((refine hK10 ?_; try (clear hK10; clear K10)))
                all_goals refine tc_region ?_; refine tl_q (y_move rfl) rfl ?_; refine tl_q (y_add rfl rfl (by omega)) rfl ?_; refine tl_q (y_assign rfl) rfl ?_; refine tl_nil ?_
                all_goals (
                 all_goals refine tk_round (j + 1, y.1, y.2) ⟨by omega, hy.1, hy.2, fun k hk => ?_⟩ (by omega) ?_ (fun _ h => h.sub (fun _ h => h) SB.s)
                 · rcases Nat.lt_succ_iff_lt_or_eq.1 hk with h | rfl
                   · exact hno k h
                   · exact hsr
                 · dsimp only
                   rw [show fr + ((j + 1 : Nat) : Int) = fr + (j : Int) + 1 from by omega]
                   exact .cons rfl (.cons rfl (.cons rfl (.cons rfl (.cons rfl (.cons rfl (.cons rfl .nil))))))))
           · try simp only [qn1, qn2, qn3, qn4, qn5, qn6, qn7, qn8] at hc
             all_goals refine tc_exit ?_; ((refine hK6 ?_; try (clear hK6; clear K6)))
             all_goals refine tc_seq fun K13 hK13 => ?_; refine tc_region ?_; refine tl_q (y_assign rfl) rfl ?_; refine tl_nil ?_; ((refine hK13 ?_; try (clear hK13; clear K13)))
             all_goals refine tc_ret ?_; (repeat (first | refine tk_then_ret ?_))
             all_goals (refine tk_ret rfl rfl (.cons (.tmp rfl) .nil) ?_)
             all_goals (
              first
              | (refine fun w' hw' => ?_
                 have f0 : Fr [] y.2.2 w' := hw'.fr (by simp)
                 have f1 := hbut y.2.1 (hy.1.sub (fun _ h => h) SB.s)
                 have e1 : srch p below (m + 1) _ fr = some rs := fs_hit (j := j) (by omega) hsr hno
                 exact ⟨y.1, by rw [e1]; rfl, (f1.trans hy.2.1 (fun x hx => .inl hx)).trans f0 (by simp), ⟨f0.keep hy.2.2.1.1, f0.keep hy.2.2.1.2⟩, hy.2.2.2.1, hy.2.2.2.2.1, fun r hr => by rw [e1] at hr; cases hr; exact hy.2.2.2.2.2.fr f0⟩)
              | (have e1 : srch p below (m + 1) l fr = none := fs_miss (fun k hk => hno k (by omega))
                 exact fun w' hw' => ⟨(vf', om'), by rw [e1]; rfl, hbut w' (hw'.sub (fun _ h => h) SB.s), ⟨hw'.heap _ (HM.mem (by repeat constructor)), hw'.heap _ (HM.mem (by repeat constructor))⟩, hJ', hvf', fun r hr => by rw [e1] at hr; cases hr⟩)))))
def searchT (p : List Int → Bool) (below : Nat) : Option (List Int) := (List.range (below + 1)).findSome? fun (k : Nat) => srch p below k [] 0
theorem tlists_c (g : FuncId) [GoFn Tryz.prog g] (cap : Array Value) (p : List Int → Bool) (below : Nat) (hbl2 : below ≤ 18) (bm : Nat) (om : Obj) (J : Obj → Prop) (w : World) (h2 : w.heap[bm]? = some om) (hJ : J om) (hp : Pass Tryz.prog g cap p below [bm] bm J w) :
    CnX Tryz.prog 88 #[vi below, .func (.func g) #[] cap] w [bm] (fun x : Value × Obj => .tuple #[x.1, .bool (searchT p below).isSome])
      (fun x w' => w'.heap[bm]? = some x.2 ∧ J x.2 ∧ x.1.oneCell' = true ∧ ∀ r, searchT p below = some r → RdI w' x.1 r) := by
  have hadd : ∀ (w' : World) (H : List (Nat × Obj)) (bf bp bb ba : Nat) (m : Nat) (vf : Value) (om' : Obj), HG [(w, [bm])] H w' → [bf, bm, bp, bb, ba].Nodup → m ≤ 20 → vf.oneCell' = true → J om' → HM bf (.cells #[vf] 22 (0, 0)) H → HM bm om' H → HM bp (.cells #[.func (.func g) #[] cap] 155 (0, 0)) H → HM bb (.cells #[vi below] 3 (0, 0)) H → HM ba (.cells #[taddV bf bp bb ba] 187 (0, 0)) H →
      CnX Tryz.prog 138 (#[] ++ #[.slice none 0 0, vi 0, vi m] ++ #[ptr bf, ptr bp, ptr bb, ptr ba]) w' [bf, bm] (fun _ : Value × Obj => .bool (srch p below m [] 0).isSome)
        (fun x w' => (w'.heap[bf]? = some (.cells #[x.1] 22 (0, 0)) ∧ w'.heap[bm]? = some x.2) ∧ J x.2 ∧ x.1.oneCell' = true ∧ ∀ r, srch p below m [] 0 = some r → RdI w' x.1 r) := fun w' H bf bp bb ba m vf om' hw' hnd hm hvf hJ' m1 m2 m3 m4 m5 => by
    rw [show (#[] ++ #[.slice none 0 0, vi 0, vi m] ++ #[ptr bf, ptr bp, ptr bb, ptr ba] : Array Value) = #[.slice none 0 0, vi 0, vi m, ptr bf, ptr bp, ptr bb, ptr ba] from by simp]
    have hbf : w.heap.size ≤ bf := (hw'.own _ (HM.mem m1) (w, [bm]) (by simp)).resolve_left (by simp at hnd ⊢; omega)
    exact tadd_c g cap p below (by omega) (by omega) bf bm bp bb ba hnd J m m [] 0 (.slice none 0 0) vf om' w' rfl (by simpa using hm) (by omega) (by omega) hvf (hw'.heap _ (HM.mem m1)) (hw'.heap _ (HM.mem m2)) hJ' (hw'.heap _ (HM.mem m3)) (hw'.heap _ (HM.mem m4)) (hw'.heap _ (HM.mem m5)) (.inl ⟨rfl, rfl⟩)
      (hp.more (hw'.fr (by simp)) (fun x hx => by rcases (by simpa using hx : x = bf ∨ x = bm) with rfl | rfl; exact .inr hbf; exact .inl (by simp)) (by simp)) (fun x hx => by simp at hx)
  refine cnxS (vs := [_, _]) (S := [bm]) [(bm, om)] Tryz.func88 rfl rfl ⟨by simp [h2], by simp, by simp⟩ ?_
  all_goals refine tc_seq fun K1 hK1 => ?_; refine tc_region ?_; refine tl_e (e_box rfl rfl rfl) rfl (fun bb _ => ?_); refine tl_e (e_box rfl rfl rfl) rfl (fun bp _ => ?_); refine tl_q (y_assign rfl) rfl ?_; refine tl_q (y_assign rfl) rfl ?_; refine tl_nil ?_; ((refine hK1 ?_; try (clear hK1; clear K1)))
  all_goals refine tc_scope ?_; refine tc_seq fun K2 hK2 => ?_; refine tc_region ?_; refine tl_e (e_alloc1 rfl) rfl (fun bf _ => ?_); refine tl_nil ?_; ((refine hK2 ?_; try (clear hK2; clear K2)))
  all_goals refine tc_seq fun K3 hK3 => ?_; refine tc_region ?_; refine tl_e (e_alloc1 rfl) rfl (fun ba _ => ?_); refine tl_nil ?_; ((refine hK3 ?_; try (clear hK3; clear K3)))
  all_goals refine tc_seq fun K4 hK4 => ?_; refine tc_region ?_; refine tl_q (y_fn .nil (.cons rfl (.cons rfl (.cons rfl (.cons rfl .nil))))) rfl ?_; refine tl_e (e_store1 rfl rfl (by repeat constructor) (by repeat constructor) (by rfl) (by rfl)) rfl (fun _ _ => ?_); refine tl_nil ?_; ((refine hK4 ?_; try (clear hK4; clear K4)))
  all_goals refine tc_seq fun K5 hK5 => ?_; (refine tc_fact ([bf, bm, bp, bb, ba].Nodup ∧ w.heap.size ≤ bf) (fun w' hw' => ⟨by have := hw'.nodup; simp at this ⊢; omega, ?_⟩) (fun hf => ?_))
  · have := hw'.nodup
    exact (hw'.own (bf, _) (HM.mem (by repeat constructor)) (w, [bm]) (by simp)).resolve_left (by simp at this ⊢; omega)
  have hSx : ∀ x ∈ [bf, bm], x ∈ [bm] ∨ w.heap.size ≤ x := fun x hx => by
    rcases (by simpa using hx : x = bf ∨ x = bm) with rfl | rfl
    · exact .inr hf.2
    · exact .inl (by simp)
  all_goals refine tc_region ?_; refine tl_q (y_assign rfl) rfl ?_; refine tl_nil ?_; ((refine hK5 ?_; try (clear hK5; clear K5)))
  all_goals refine tc_seq fun K6 hK6 => ?_; refine tc_label ?_; ((refine hK6 ?_; try (clear hK6; clear K6)))
  all_goals refine tc_seq fun K7 hK7 => ?_; refine tc_seq fun K8 hK8 => ?_; refine tc_region ?_; refine tl_q (y_load1 rfl (by repeat constructor) (by rfl)) rfl ?_; refine tl_q (y_add rfl rfl (by omega)) rfl ?_; refine tl_q (y_move rfl) rfl ?_; refine tl_nil ?_; ((refine hK8 ?_; try (clear hK8; clear K8)))
  all_goals refine tc_block ?_
  all_goals (
   refine tc_loop (fun q : Nat × Value × Obj => q.1 ≤ below + 1 ∧ J q.2.2 ∧ q.2.1.oneCell' = true ∧ ∀ k : Nat, k < q.1 → srch p below k [] 0 = none) (fun q => [(2, ptr bb), (3, ptr bp), (6, ptr bf), (7, ptr ba), (8, .bool false), (12, vi ((below : Int) + 1)), (13, vi q.1)]) (fun _ => [(w, [bm])]) (fun q => [(ba, .cells #[taddV bf bp bb ba] 187 (0, 0)), (bf, .cells #[q.2.1] 22 (0, 0)), (bp, .cells #[.func (.func g) #[] cap] 155 (0, 0)), (bb, .cells #[vi below] 3 (0, 0)), (bm, q.2.2)]) (fun q => below + 1 - q.1) ?_ ?_
   · exact tk_start (0, .slice none 0 0, om) ⟨Nat.zero_le _, hJ, rfl, fun k hk => absurd hk (Nat.not_lt_zero k)⟩ (.cons rfl (.cons rfl (.cons rfl (.cons rfl (.cons rfl (.cons rfl (.cons rfl .nil))))))) (fun _ h => h)
   · rintro ⟨k, vf, om'⟩ ⟨hk, hJ', hvf, hno⟩
     dsimp only at hk hJ' hvf hno ⊢
     all_goals refine tc_seq fun K9 hK9 => ?_; refine tc_region ?_; refine tl_q (y_lss rfl rfl) rfl ?_; refine tl_nil ?_; ((refine hK9 ?_; try (clear hK9; clear K9)))
     all_goals refine tc_seq fun K10 hK10 => ?_
     all_goals (
      refine tc_cond rfl (fun hc => ?_) (fun hc => ?_)
      · try simp only [qn1, qn2, qn3, qn4, qn5, qn6, qn7, qn8] at hc
        all_goals refine tc_skip ?_; ((refine hK10 ?_; try (clear hK10; clear K10)))
        all_goals refine tc_seq fun K11 hK11 => ?_; refine tc_block ?_; refine tc_seq fun K12 hK12 => ?_; refine tc_region ?_; refine tl_q (y_move rfl) rfl ?_; refine tl_q (y_assign rfl) rfl ?_; refine tl_nil ?_; ((refine hK12 ?_; try (clear hK12; clear K12)))
        all_goals refine tc_seq fun K13 hK13 => ?_
        rcases hsr : srch p below k [] 0 with _ | rs
        all_goals refine tc_region ?_; refine tl_q (y_load1 rfl (by repeat constructor) (by rfl)) rfl ?_; refine tl_q (y_move rfl) rfl ?_; ((first | refine tl_e (e_callU2f (val := fun _ => .bool false) (p := fun y : Value × Obj => J y.2 ∧ y.1.oneCell' = true) (ob := fun x : Value × Obj => .cells #[x.1] 22 (0, 0)) (oc := fun x : Value × Obj => x.2) rfl rfl (.cons rfl (.cons rfl (.cons rfl .nil))) (fun w' hw' => CnX.imp (val' := fun _ : Value × Obj => .bool false) (hadd w' _ bf bp bb ba k _ _ hw' hf.1 (by omega) hvf hJ' (by repeat constructor) (by repeat constructor) (by repeat constructor) (by repeat constructor) (by repeat constructor)) id (fun _ => congrArg (fun o : Option (List Int) => Value.bool o.isSome) hsr.symm) (fun _ h => h) (fun x w2 _ hx => ⟨⟨hx.2.1, hx.2.2.1⟩, hx.1⟩)) (fun _ => (by repeat constructor)) (fun _ => (by repeat constructor))) rfl (fun y hy => ?_) | refine tl_e (e_callEnd (val := fun _ => .bool true) (p := fun (x : Value × Obj) (w2 : World) => (w2.heap[bf]? = some (.cells #[x.1] 22 (0, 0)) ∧ w2.heap[bm]? = some x.2) ∧ J x.2 ∧ x.1.oneCell' = true ∧ RdI w2 x.1 rs) rfl rfl (.cons rfl (.cons rfl (.cons rfl .nil))) (fun w' hw' => CnX.imp (val' := fun _ : Value × Obj => .bool true) (hadd w' _ bf bp bb ba k _ _ hw' hf.1 (by omega) hvf hJ' (by repeat constructor) (by repeat constructor) (by repeat constructor) (by repeat constructor) (by repeat constructor)) id (fun _ => congrArg (fun o : Option (List Int) => Value.bool o.isSome) hsr.symm) (fun _ h => h) (fun x w2 _ hx => ⟨hx.1, hx.2.1, hx.2.2.1, hx.2.2.2 rs hsr⟩)) (fun w' hw' β hβ x hx => by obtain rfl := List.mem_singleton.1 hβ; exact hSx x hx)) rfl (fun y hy => ?_)))
        all_goals refine tl_q (y_assign rfl) rfl ?_; refine tl_nil ?_; ((refine hK13 ?_; try (clear hK13; clear K13)))
        all_goals refine tc_seq fun K14 hK14 => ?_; refine tc_region ?_; refine tl_q (y_move rfl) rfl ?_; refine tl_nil ?_; ((refine hK14 ?_; try (clear hK14; clear K14)))
        all_goals (
         refine tc_cond rfl (fun hc => ?_) (fun hc => ?_)
         · try simp only [qn1, qn2, qn3, qn4, qn5, qn6, qn7, qn8] at hc
           all_goals ((first | (exfalso; with_reducible exact bft hc) | skip))
           all_goals refine tc_exit ?_; ((refine hK7 ?_; try (clear hK7; clear K7)))
           all_goals refine tc_seq fun K15 hK15 => ?_; refine tc_region ?_; refine tl_q (y_load1o rfl (fun w' hw' => cell0 ((hw'.fr (w0 := y.2.2) (S := []) (by simp)).keep hy.2.2.1.1) rfl)) rfl ?_; refine tl_q (y_move rfl) rfl ?_; refine tl_q (y_assign rfl) rfl ?_; refine tl_q (y_assign rfl) rfl ?_; refine tl_nil ?_; ((refine hK15 ?_; try (clear hK15; clear K15)))
           all_goals refine tc_ret ?_; (repeat (refine tk_scope_ret ?_))
           all_goals (refine tk_ret rfl rfl (.cons (.tmp rfl) (.cons (.tmp rfl) .nil)) ?_)
           all_goals (
            first
            | (have e1 : searchT p below = some rs := by unfold searchT; exact fs_hit (j := k) (by omega) hsr hno
               refine fun w' hw' => ?_
               have f0 : Fr [] y.2.2 w' := hw'.fr (by simp)
               have f1 : Fr [bm] w y.2.1 := hy.1.fr (by simp)
               exact ⟨y.1, by rw [e1]; rfl, (f1.trans hy.2.1 hSx).trans f0 (by simp), f0.keep hy.2.2.1.2, hy.2.2.2.1, hy.2.2.2.2.1, fun r hr => by rw [e1] at hr; cases hr; exact hy.2.2.2.2.2.fr f0⟩)
            | (have e1 : searchT p below = none := by unfold searchT; exact fs_miss (fun q hq => hno q (by omega))
               exact fun w' hw' => ⟨(vf, om'), by rw [e1]; rfl, hw'.fr (by simp), hw'.heap _ (HM.mem (b := bm) (by repeat constructor)), hJ', hvf, fun r hr => by rw [e1] at hr; cases hr⟩))
         · try simp only [qn1, qn2, qn3, qn4, qn5, qn6, qn7, qn8] at hc
           all_goals ((first | (exfalso; with_reducible exact btf hc) | skip))
           all_goals refine tc_skip ?_; ((refine hK11 ?_; try (clear hK11; clear K11)))
           all_goals refine tc_region ?_; refine tl_q (y_add rfl rfl (by omega)) rfl ?_; refine tl_q (y_move rfl) rfl ?_; refine tl_nil ?_
           all_goals (
            exact tk_round (k + 1, y.1, y.2) ⟨by dsimp only; omega, hy.1, hy.2, fun q hq => by rcases Nat.lt_succ_iff_lt_or_eq.1 hq with h | rfl; exact hno q h; exact hsr⟩ (by dsimp only; omega) (.cons rfl (.cons rfl (.cons rfl (.cons rfl (.cons rfl (.cons rfl (.cons rfl .nil))))))) (fun _ h => h)))
      · try simp only [qn1, qn2, qn3, qn4, qn5, qn6, qn7, qn8] at hc
        all_goals refine tc_exit ?_; ((refine hK7 ?_; try (clear hK7; clear K7)))
        all_goals refine tc_seq fun K16 hK16 => ?_; refine tc_region ?_; refine tl_q (y_load1 rfl (by repeat constructor) (by rfl)) rfl ?_; refine tl_q (y_move rfl) rfl ?_; refine tl_q (y_assign rfl) rfl ?_; refine tl_q (y_assign rfl) rfl ?_; refine tl_nil ?_; ((refine hK16 ?_; try (clear hK16; clear K16)))
        all_goals refine tc_ret ?_; (repeat (refine tk_scope_ret ?_))
        all_goals (refine tk_ret rfl rfl (.cons (.tmp rfl) (.cons (.tmp rfl) .nil)) ?_)
        all_goals (
         first
         | (have e1 : searchT p below = some rs := by unfold searchT; exact fs_hit (j := k) (by omega) hsr hno
            refine fun w' hw' => ?_
            have f0 : Fr [] y.2.2 w' := hw'.fr (by simp)
            have f1 : Fr [bm] w y.2.1 := hy.1.fr (by simp)
            exact ⟨y.1, by rw [e1]; rfl, (f1.trans hy.2.1 hSx).trans f0 (by simp), f0.keep hy.2.2.1.2, hy.2.2.2.1, hy.2.2.2.2.1, fun r hr => by rw [e1] at hr; cases hr; exact hy.2.2.2.2.2.fr f0⟩)
         | (have e1 : searchT p below = none := by unfold searchT; exact fs_miss (fun q hq => hno q (by omega))
            exact fun w' hw' => ⟨(vf, om'), by rw [e1]; rfl, hw'.fr (by simp), hw'.heap _ (HM.mem (b := bm) (by repeat constructor)), hJ', hvf, fun r hr => by rw [e1] at hr; cases hr⟩))))
end Go.Sp
/-
  The smallest list that passes: in order of length, then lexicographic; found by search, and by all bits.
-/
namespace Go.Sp
open Go Go.Proofs
/-- An increasing list of numbers from lo on, below N. -/
def Inc (lo N : Int) (t : List Int) : Prop := t.Pairwise (· < ·) ∧ ∀ x ∈ t, lo ≤ x ∧ x < N
theorem Inc.nil {lo N : Int} : Inc lo N [] := ⟨.nil, by simp⟩
theorem Inc.cons_iff {lo N x : Int} {t : List Int} : Inc lo N (x :: t) ↔ lo ≤ x ∧ x < N ∧ Inc (x + 1) N t := by
  unfold Inc
  rw [List.pairwise_cons]
  constructor
  · rintro ⟨⟨h1, h2⟩, h3⟩
    have hx := h3 x List.mem_cons_self
    exact ⟨hx.1, hx.2, h2, fun y hy => ⟨by have := h1 y hy; omega, (h3 y (List.mem_cons_of_mem _ hy)).2⟩⟩
  · rintro ⟨h1, h2, h3, h4⟩
    refine ⟨⟨fun y hy => by have := h4 y hy; omega, h3⟩, fun y hy => ?_⟩
    rcases List.mem_cons.1 hy with rfl | hy
    · exact ⟨h1, h2⟩
    · have := h4 y hy; omega
theorem Inc.len {N : Int} : ∀ {lo : Int} {t : List Int}, Inc lo N t → lo ≤ N → (t.length : Int) ≤ N - lo
  | lo, [], _, h => by simp; omega
  | lo, x :: t, h, _ => by
    obtain ⟨h1, h2, h3⟩ := Inc.cons_iff.1 h
    have := h3.len (by omega)
    simp only [List.length_cons]; omega
theorem inc_ext : ∀ {a b : List Int}, a.Pairwise (· < ·) → b.Pairwise (· < ·) → (∀ x, x ∈ a ↔ x ∈ b) → a = b
  | [], [], _, _, _ => rfl
  | [], y :: b, _, _, h => absurd ((h y).2 List.mem_cons_self) List.not_mem_nil
  | x :: a, [], _, _, h => absurd ((h x).1 List.mem_cons_self) List.not_mem_nil
  | x :: a, y :: b, ha, hb, h => by
    rw [List.pairwise_cons] at ha hb
    have hxy : x = y := by
      rcases List.mem_cons.1 ((h x).1 List.mem_cons_self) with e | e
      · exact e
      · rcases List.mem_cons.1 ((h y).2 List.mem_cons_self) with e' | e'
        · exact e'.symm
        · have := hb.1 x e; have := ha.1 y e'; omega
    subst hxy
    congr 1
    refine inc_ext ha.2 hb.2 fun z => ?_
    have hz := h z
    constructor
    · intro hm
      rcases List.mem_cons.1 (hz.1 (List.mem_cons_of_mem _ hm)) with e | e
      · have := ha.1 z hm; omega
      · exact e
    · intro hm
      rcases List.mem_cons.1 (hz.2 (List.mem_cons_of_mem _ hm)) with e | e
      · have := hb.1 z hm; omega
      · exact e
theorem srch_some {p : List Int → Bool} {N : Int} : ∀ (m : Nat) (l : List Int) (fr : Int) (r : List Int), srch p N m l fr = some r →
    ∃ t, r = l ++ t ∧ Inc fr N t ∧ t.length = m ∧ p r = true ∧ ∀ t', Inc fr N t' → t'.length = m → p (l ++ t') = true → lexLt t' t = false := by
  intro m
  induction m with
  | zero =>
    intro l fr r h
    unfold srch at h
    split at h
    · rename_i hp
      cases h
      exact ⟨[], by simp, Inc.nil, rfl, hp, fun t' _ ht _ => by rw [List.eq_nil_of_length_eq_zero ht]; rfl⟩
    · cases h
  | succ m ih =>
    intro l fr r h
    unfold srch at h
    obtain ⟨l1, j, l2, e, hj, hno⟩ := List.findSome?_eq_some_iff.1 h
    have hjm : j ∈ List.range (N - m - fr).toNat := by rw [e]; simp
    have hjl := List.mem_range.1 hjm
    have hbefore : ∀ k, k < j → srch p N m (l ++ [fr + (k : Int)]) (fr + (k : Int) + 1) = none := fun k hk => by
      refine hno k ?_
      have hl1 : l1 = List.range l1.length ∧ l1.length = j := by
        have h1 : l1 = (List.range (N - m - fr).toNat).take l1.length := by rw [e]; simp
        have h2 : (List.range (N - m - fr).toNat)[l1.length]? = some j := by rw [e]; simp
        have hlt : l1.length < (N - m - fr).toNat := by
          rcases Nat.lt_or_ge l1.length (N - m - fr).toNat with h | h
          · exact h
          · rw [List.getElem?_eq_none (by simpa using h)] at h2; cases h2
        rw [List.getElem?_range hlt] at h2
        have e2 : l1.length = j := by injection h2
        refine ⟨?_, e2⟩
        rw [h1]
        simp only [List.length_take, List.length_range]
        rw [List.take_range, Nat.min_eq_left (by omega)]
      rw [hl1.1, hl1.2]
      exact List.mem_range.2 hk
    obtain ⟨t, rfl, h1, h2, h3, h4⟩ := ih _ _ _ hj
    refine ⟨(fr + (j : Int)) :: t, by simp, Inc.cons_iff.2 ⟨by omega, by omega, h1⟩, by simp [h2], h3, fun t' ht hl hp => ?_⟩
    match t', hl with
    | x :: t'', hl =>
      obtain ⟨g1, g2, g3⟩ := Inc.cons_iff.1 ht
      have hlen := g3.len (by omega)
      simp only [List.length_cons] at hl
      simp only [lexLt]
      by_cases e2 : x = fr + (j : Int)
      · rw [if_pos e2]
        subst e2
        exact h4 t'' g3 (by omega) (by simpa using hp)
      · rw [if_neg e2]
        refine decide_eq_false fun hlt => ?_
        have hn := hbefore (x - fr).toNat (by omega)
        rw [show fr + ((x - fr).toNat : Int) = x by omega] at hn
        have hk : ∀ (m : Nat) (l : List Int) (fr : Int), srch p N m l fr = none → ∀ t', Inc fr N t' → t'.length = m → p (l ++ t') = false := by
          intro m
          induction m with
          | zero =>
            intro l fr h t' _ hl
            rw [List.eq_nil_of_length_eq_zero hl, List.append_nil]
            unfold srch at h
            split at h
            · cases h
            · simpa using ‹¬ p l = true›
          | succ m ih2 =>
            intro l fr h t' ht hl
            match t', hl with
            | y :: t3, hl =>
              obtain ⟨k1, k2, k3⟩ := Inc.cons_iff.1 ht
              have hl3 := k3.len (by omega)
              simp only [List.length_cons] at hl
              unfold srch at h
              rw [List.findSome?_eq_none_iff] at h
              have := h (y - fr).toNat (List.mem_range.2 (by omega))
              rw [show fr + ((y - fr).toNat : Int) = y by omega] at this
              have := ih2 _ _ this t3 k3 (by omega)
              simpa using this
        have := hk m _ _ hn t'' g3 (by omega)
        rw [List.append_assoc] at this
        simp only [List.cons_append, List.nil_append] at this
        rw [this] at hp
        cases hp
theorem srch_none {p : List Int → Bool} {N : Int} : ∀ (m : Nat) (l : List Int) (fr : Int), srch p N m l fr = none → ∀ t', Inc fr N t' → t'.length = m → p (l ++ t') = false := by
  intro m
  induction m with
  | zero =>
    intro l fr h t' _ hl
    rw [List.eq_nil_of_length_eq_zero hl, List.append_nil]
    unfold srch at h
    split at h
    · cases h
    · simpa using ‹¬ p l = true›
  | succ m ih2 =>
    intro l fr h t' ht hl
    match t', hl with
    | y :: t3, hl =>
      obtain ⟨k1, k2, k3⟩ := Inc.cons_iff.1 ht
      have hl3 := k3.len (by omega)
      simp only [List.length_cons] at hl
      unfold srch at h
      rw [List.findSome?_eq_none_iff] at h
      have := h (y - fr).toNat (List.mem_range.2 (by omega))
      rw [show fr + ((y - fr).toNat : Int) = y by omega] at this
      have := ih2 _ _ this t3 k3 (by omega)
      simpa using this
/-- r is the smallest list below N that passes. -/
structure Least (p : List Int → Bool) (N : Int) (r : List Int) : Prop where
  inc : Inc 0 N r
  ok : p r = true
  least : ∀ t, Inc 0 N t → p t = true → lessF t r = false
theorem search_some {p : List Int → Bool} {N : Nat} {r : List Int} {M : Nat} (hM : N < M) (h : ((List.range M).findSome? fun (k : Nat) => srch p N k [] 0) = some r) : Least p N r := by
  obtain ⟨l1, k, l2, e, hk, hno⟩ := List.findSome?_eq_some_iff.1 h
  obtain ⟨t, h0, h1, h2, h3, h4⟩ := srch_some _ _ _ _ hk
  rw [List.nil_append] at h0
  subst h0
  have hl1 : l1 = List.range k := by
    have h1 : l1 = (List.range M).take l1.length := by rw [e]; simp
    have h2 : (List.range M)[l1.length]? = some k := by rw [e]; simp
    have hlt : l1.length < M := by
      rcases Nat.lt_or_ge l1.length M with h | h
      · exact h
      · rw [List.getElem?_eq_none (by simpa using h)] at h2; cases h2
    rw [List.getElem?_range hlt] at h2
    have e2 : l1.length = k := by injection h2
    rw [h1, List.take_range, e2, Nat.min_eq_left (by omega)]
  refine ⟨h1, h3, fun t' ht hp => ?_⟩
  unfold lessF
  split
  · exact h4 t' ht (by omega) (by simpa using hp)
  · refine decide_eq_false fun hlt => ?_
    have := srch_none _ _ _ (hno t'.length (by rw [hl1]; exact List.mem_range.2 (by omega))) t' ht rfl
    rw [List.nil_append, hp] at this; cases this
theorem search_none {p : List Int → Bool} {N : Nat} {M : Nat} (hM : N < M) (h : ((List.range M).findSome? fun (k : Nat) => srch p N k [] 0) = none) {t : List Int} (ht : Inc 0 N t) : p t = false := by
  have hl := ht.len (by omega)
  rw [List.findSome?_eq_none_iff] at h
  have := srch_none _ _ _ (h t.length (List.mem_range.2 (by omega))) t ht rfl
  simpa using this
theorem bitB_nat (n i : Nat) : bitB n i = n.testBit i := by
  unfold bitB
  rw [Nat.testBit_eq_decide_div_mod_eq]
  exact decide_eq_decide.2 (by
    have : ((n : Int) / 2 ^ i % 2) = ((n / 2 ^ i % 2 : Nat) : Int) := by simp
    rw [this]; omega)
theorem bitsL_sorted (n : Int) : (bitsL n).Pairwise (· < ·) := by
  unfold bitsL bitsN
  rw [List.pairwise_map]
  exact (List.pairwise_lt_range.filter _).imp fun h => by omega
theorem bitsL_inc {n m : Nat} (h : n < 2 ^ m) : Inc 0 m (bitsL n) := ⟨bitsL_sorted _, fun _ hx => bitsL_mem h hx⟩
theorem bitsL_iff {n i : Nat} (hi : i < 16) : (i : Int) ∈ bitsL n ↔ n.testBit i = true := by
  unfold bitsL bitsN
  rw [List.mem_map]
  constructor
  · rintro ⟨j, hj, e⟩
    obtain rfl : j = i := by omega
    rw [← bitB_nat]; exact (List.mem_filter.1 hj).2
  · intro h
    exact ⟨i, List.mem_filter.2 ⟨List.mem_range.2 hi, by rw [bitB_nat]; exact h⟩, rfl⟩
end Go.Sp
/-
  Package trial: the smallest set of tests.
-/
namespace Go.Sp
open Go Go.Proofs
def fitsT (t : Tr) (xs : List Int) : Bool := decide (0 < (truthsL t xs).length)
theorem fits_full {t : Tr} (hv : VT t) {xs : List Int} (h : ∀ i : Nat, i < t.tests.length → (i : Int) ∈ xs) : fitsT t xs = true := by
  have hp : ∀ (e : Int × Int × Int) (i : Nat) (d : Int), passN t e i xs d t.tests.length = true := fun e i d => List.all_eq_true.2 fun j hj => by
    unfold passF
    rw [decide_eq_true (h j (List.mem_range.1 hj)), Bool.true_or, Bool.or_true]
  have hd : ∀ (e : Int × Int × Int) (i : Nat), i < t.liquids.length → 0 < (denseL t e i xs).length := fun e i hi => by
    have hb := hv.lqb hi
    have hc : 0 < lqC t i := by unfold lqC; omega
    have := denseN_get hc (hp e i _)
    exact Nat.lt_of_le_of_lt (Nat.zero_le _) (List.getElem?_eq_some_iff.1 this).1
  have hn : 0 < (everyL t).length := by
    have h1 := hv.p1
    have h3 := hv.p3
    have hw := hv.w
    have := (ini_all ⟨t.worst.toNat, by omega⟩ ⟨t.parts.length, by omega⟩ h1).2.1
    unfold everyL; rw [List.length_map, List.length_range]; exact this
  have ht : truthsL t xs = everyL t := by
    unfold truthsL
    exact List.filter_eq_self.2 fun e _ => denOk_yes fun i hi => hd e i hi
  unfold fitsT
  rw [ht]; exact decide_eq_true hn
theorem leaveT_p (t : Tr) (hv : VT t) (sl pl ll tl : Value) (w : World) (bt bw bm : Nat) (es : Array MapEntry) (ck : Nat) (hbt : w.heap[bt]? = some (.cells #[ptr bw] 130 (0, 0))) (hT : TW w t sl pl ll tl bw bm es ck) :
    Pass Tryz.prog 98 #[ptr bt] (fitsT t) t.tests.length [bm] bm (JMt t) w := by
  intro w1 o xs v f1 h1 hJ hx hsep hone hlen _
  obtain ⟨es1, ck1, rfl, hc1⟩ := hJ
  have hnb : bt ∉ [bm] := fun hb => by
    obtain rfl := List.mem_singleton.1 hb
    rw [hT.hm] at hbt; cases hbt
  have g1 := f1.keepS hnb hbt
  have hT1 := hT.fr f1 h1 hc1
  obtain ⟨adv, cpv, _, _, rfl, _, _⟩ := hx.open
  rw [show (#[] ++ #[.slice adv xs.length cpv] ++ #[ptr bt] : Array Value) = #[.slice adv xs.length cpv, ptr bt] from by simp]
  refine cnxS (vs := [_, _]) (S := [bm]) [(bm, .map es1 ck1)] Tryz.func98 rfl rfl ⟨by simp [h1], by simp, by simp⟩ ?_
  all_goals refine tc_seq fun K1 hK1 => ?_; refine tc_region ?_; refine tl_q (y_assign rfl) rfl ?_; refine tl_nil ?_; ((refine hK1 ?_; try (clear hK1; clear K1)))
  all_goals refine tc_seq fun K2 hK2 => ?_; refine tc_region ?_; refine tl_q (y_load1o rfl (fun w' hw' => cell0 ((hw'.fr (w0 := w1) (S := [bm]) (by simp)).keepS hnb g1) rfl)) rfl ?_; refine tl_q (y_move rfl) rfl ?_; (refine tl_e (e_callU (val := fun y : (Option Addr × Nat) × Array MapEntry × Nat => slV (truthsL t xs).length y.1) (p := fun y => Cache (readV t.s) y.2.1.toList) (ob := fun y => .map y.2.1 y.2.2) rfl (.cons rfl (.cons rfl .nil)) (fun w' hw' => (truths_c t hv xs (by omega) adv cpv sl pl ll tl w' bw bm es1 ck1 (hT1.fr (hw'.fr (by simp)) (hw'.heap _ (HM.mem (by repeat constructor))) hc1) (Reads.frM hx (hw'.fr (S := [bm]) (by simp)) (fun x hx => by obtain rfl := List.mem_singleton.1 hx; exact ⟨_, _, h1⟩))).imp id (fun _ => rfl) (fun _ h => h) (fun y w' _ h => ⟨h.1.2, h.2⟩)) (fun _ => (by repeat constructor))) rfl (fun y hy => ?_))
  all_goals refine tl_q (y_len rfl) rfl ?_; refine tl_q (y_gtr rfl rfl) rfl ?_; refine tl_q (y_assign rfl) rfl ?_; refine tl_nil ?_; ((refine hK2 ?_; try (clear hK2; clear K2)))
  all_goals refine tc_ret ?_; (repeat (first | refine tk_then_ret ?_))
  all_goals (refine tk_ret rfl rfl (.cons (.tmp rfl) .nil) ?_)
  all_goals (
   refine fun w' hw' => ⟨.map y.2.1 y.2.2, ?_, hw'.fr (by simp), ⟨_, _, rfl, hy⟩, hw'.heap _ (HM.mem (by repeat constructor))⟩
   refine congrArg (fun b => Ending.returned (Value.bool b)) ?_
   unfold fitsT
   exact decide_eq_decide.2 (by omega))
def leaveTL (t : Tr) : List Int := (searchT (fitsT t) t.tests.length).getD []
theorem leaveTL_some {t : Tr} (hv : VT t) : searchT (fitsT t) t.tests.length = some (leaveTL t) ∧ Least (fitsT t) t.tests.length (leaveTL t) := by
  have h6 := hv.t6
  unfold leaveTL
  rcases h : searchT (fitsT t) t.tests.length with _ | r
  · have hn := search_none (N := t.tests.length) (M := t.tests.length + 1) (by omega) h (bitsL_inc (n := 2 ^ t.tests.length - 1) (m := t.tests.length) (by have := Nat.two_pow_pos t.tests.length; omega))
    rw [fits_full hv (fun i hi => by rw [bitsL_iff (by omega), Nat.testBit_two_pow_sub_one]; exact decide_eq_true hi)] at hn
    cases hn
  · exact ⟨rfl, search_some (N := t.tests.length) (M := t.tests.length + 1) (by omega) h⟩
theorem leaveT_ok (t : Tr) (hv : VT t) (sl pl ll tl : Value) (w : World) (hr : RdTr w t sl pl ll tl) :
    CnX Tryz.prog 37 #[trV t sl pl ll tl] w [] (fun y : Value => .tuple #[y, vi 0]) (fun y w' => RdI w' y (leaveTL t)) := by
  have hr0 := hr
  have hn := hv.nt
  have hck := chkT_0.2 hv
  have h6 := hv.t6
  obtain ⟨hls, _⟩ := leaveTL_some hv
  obtain ⟨ad, cp, b0, o0, rfl, _, _⟩ := hr.ts.open
  refine cnx0 (vs := [_]) Tryz.func37 rfl rfl ?_
  all_goals refine tc_seq fun K1 hK1 => ?_; refine tc_region ?_; refine tl_e (e_box rfl rfl rfl) rfl (fun b1 _ => ?_); refine tl_q (y_assign rfl) rfl ?_; refine tl_q (y_assign rfl) rfl ?_; refine tl_nil ?_; ((refine hK1 ?_; try (clear hK1; clear K1)))
  all_goals refine tc_seq fun K2 hK2 => ?_; refine tc_seq fun K3 hK3 => ?_; refine tc_region ?_; refine tl_q (y_loadW rfl (by repeat constructor) (by rfl)) rfl ?_; refine tl_e (e_callV rfl (.cons rfl .nil) (fun w' hw' => checkTrial_c t hn _ _ _ _ w' (hr0.fr (hw'.fr (by simp))))) rfl (fun _ _ => ?_); refine tl_q (y_assign rfl) rfl ?_; refine tl_nil ?_; ((refine hK3 ?_; try (clear hK3; clear K3)))
  all_goals refine tc_seq fun K4 hK4 => ?_; refine tc_region ?_; refine tl_q (y_move rfl) rfl ?_; refine tl_q (y_neq rfl rfl) rfl ?_; refine tl_nil ?_; ((refine hK4 ?_; try (clear hK4; clear K4)))
  all_goals (
   refine tc_cond rfl (fun hc => ?_) (fun hc => ?_)
   · try simp only [qn1, qn2, qn3, qn4, qn5, qn6, qn7, qn8] at hc
     all_goals ((exfalso; omega))
   · try simp only [qn1, qn2, qn3, qn4, qn5, qn6, qn7, qn8] at hc
     all_goals refine tc_skip ?_; ((refine hK2 ?_; try (clear hK2; clear K2)))
     all_goals refine tc_seq fun K6 hK6 => ?_; refine tc_region ?_; refine tl_q (y_loadW rfl (by repeat constructor) (by rfl)) rfl ?_; refine tl_e (e_callN rfl (.cons rfl .nil) (fun w' hw' => twork_c t sl pl ll _ hr0.ws.one hr0.ps.one hr0.ls.one hr0.ts.one w')) rfl (fun x hx => ?_); refine tl_e (e_alloc1 rfl) rfl (fun b5 _ => ?_); refine tl_e (e_store1 rfl rfl (by repeat constructor) (by repeat constructor) (by rfl) (by rfl)) rfl (fun _ _ => ?_); refine tl_nil ?_; ((refine hK6 ?_; try (clear hK6; clear K6)))
     all_goals refine tc_seq fun K7 hK7 => ?_; refine tc_region ?_; refine tl_q (y_field rfl) rfl ?_; refine tl_q (y_load1 rfl (by repeat constructor) (by rfl)) rfl ?_; refine tl_q (y_len rfl) rfl ?_; refine tl_q (y_fn .nil (.cons rfl .nil)) rfl ?_; (refine tl_e (e_callEndF (val := fun z : Value × Obj => .tuple #[z.1, .bool true]) (p := fun z w' => RdI w' z.1 (leaveTL t)) (S := [x.2]) rfl (.cons rfl (.cons rfl .nil)) (fun w' hw' => CnX.imp (val' := fun z : Value × Obj => .tuple #[z.1, .bool true]) (tlists_c 98 #[ptr b5] (fitsT t) t.tests.length (by omega) x.2 (.map #[] 0) (JMt t) w' (hw'.heap _ (HM.mem (by repeat constructor))) ⟨_, _, rfl, fun e he => by simp at he⟩ (leaveT_p t hv sl pl ll _ w' b5 x.1 x.2 #[] 0 (hw'.heap _ (HM.mem (by repeat constructor))) (tw0 (hr0.fr (hw'.fr (by simp))) (hw'.heap _ (HM.mem (by repeat constructor))) (hw'.heap _ (HM.mem (b := x.2) (by repeat constructor)))))) id (fun z => by rw [hls]; rfl) (fun _ h => h) (fun z w2 _ hx => hx.2.2.2 _ hls)) (fun w' hw' β hβ q hq => .inr (by obtain rfl := List.mem_singleton.1 hβ; obtain rfl := List.mem_singleton.1 hq; exact (hw'.own (x.2, _) (HM.mem (by repeat constructor)) (w, []) (by simp)).resolve_left (by simp)))) rfl (fun y hy => ?_))
     all_goals refine tl_q (y_move rfl) rfl ?_; refine tl_q (y_extract rfl rfl) rfl ?_; refine tl_q (y_extract rfl rfl) rfl ?_; refine tl_q (y_assign rfl) rfl ?_; refine tl_q (y_assign rfl) rfl ?_; refine tl_nil ?_; ((refine hK7 ?_; try (clear hK7; clear K7)))
     all_goals refine tc_seq fun K8 hK8 => ?_; refine tc_region ?_; refine tl_q (y_move rfl) rfl ?_; refine tl_q (y_assign rfl) rfl ?_; refine tl_q (y_assign rfl) rfl ?_; refine tl_nil ?_; ((refine hK8 ?_; try (clear hK8; clear K8)))
     all_goals refine tc_ret ?_; (repeat (first | refine tk_then_ret ?_))
     all_goals (refine tk_ret rfl rfl (.cons (.tmp rfl) (.cons (.tmp rfl) .nil)) ?_)
     all_goals (
      first
      | exact fun w' hw' => ⟨y.1.1, rfl, hw'.fr (by simp), hy.2.2.fr (hw'.fr (by simp))⟩
      | (exfalso; omega)))
end Go.Sp
/-
  Package trial: the reference's error of a trial.
-/
namespace Go.Sp
open Go Go.Proofs
end Go.Sp
/-
  Literals of structs, whatever fields are named: their laws lie in the frame.
-/
namespace Go.Sp
open Go Go.Proofs
end Go.Sp
/-
  What the statements about trials are made of.
-/
namespace Go.Sp
open Go Go.Proofs
end Go.Sp
/-
  Package trial: errors of a list; what can be shown.
-/
namespace Go.Sp
open Go Go.Proofs
/-- A list as errors. -/
def er3 (l : List Int) : Int × Int × Int := (l.getD 0 0, l.getD 1 0, l.getD 2 0)
def errB (t : Tr) (l : List Int) : Bool := decide (l.length = t.parts.length) && l.all fun n => decide (-t.worst ≤ n ∧ n ≤ t.worst)
def errE (t : Tr) (l : List Int) : (Int × Int × Int) × Bool := if errB t l = true then (er3 l, true) else ((0, 0, 0), false)
theorem errors1_c (t : Tr) (hw0 : 0 ≤ t.worst ∧ t.worst ≤ 3) (sl pl ll tl : Value) (n : Int) (bt : Nat) (w : World) (hbt : w.heap[bt]? = some (.cells (trV t sl pl ll tl).cells 38 (0, 0))) :
    CnV Tryz.prog 118 #[vi n, ptr bt] w (.bool (decide (-t.worst ≤ n ∧ n ≤ t.worst))) := by
  refine cnv (vs := [_, _]) Tryz.func118 rfl rfl ?_
  all_goals refine tc_seq fun K1 hK1 => ?_; refine tc_region ?_; refine tl_q (y_assign rfl) rfl ?_; refine tl_nil ?_; ((refine hK1 ?_; try (clear hK1; clear K1)))
  all_goals refine tc_seq fun K2 hK2 => ?_; refine tc_region ?_; refine tl_q (y_move rfl) rfl ?_; refine tl_q (y_field rfl) rfl ?_; refine tl_q (y_load1o (v := vi t.worst) rfl (fun w' hw' => cell0 ((hw'.fr (w0 := w) (S := []) (by simp)).keep hbt) rfl)) rfl ?_; refine tl_q (y_neg rfl (by omega)) rfl ?_; refine tl_q (y_field rfl) rfl ?_; refine tl_q (y_load1o (v := vi t.worst) rfl (fun w' hw' => cell0 ((hw'.fr (w0 := w) (S := []) (by simp)).keep hbt) rfl)) rfl ?_; refine tl_e (e_callV rfl (.cons rfl (.cons rfl (.cons rfl .nil))) (fun w' _ => twithin_c _ _ _ w')) rfl (fun _ _ => ?_); refine tl_q (y_assign rfl) rfl ?_; refine tl_nil ?_; ((refine hK2 ?_; try (clear hK2; clear K2)))
  all_goals refine tc_ret ?_; (repeat (first | refine tk_then_ret ?_))
  all_goals (refine tk_ret rfl rfl (.cons (.tmp rfl) .nil) ?_)
  all_goals (
   exact fun w' hw' => ⟨rfl, hw'.fr (by simp)⟩)
theorem errorsOf_c (t : Tr) (hv : VT t) (l : List Int) (hl : (l.length : Int) ≤ 9000000000000000000) (sl pl ll tl lv : Value) (w : World) (hp : RdI w pl t.parts) (hr : RdI w lv l) :
    CnV Tryz.prog 63 #[trV t sl pl ll tl, lv] w (.tuple #[tsV (errE t l).1, .bool (errE t l).2]) := by
  have hr0 := hr
  have h1 := hv.p1
  have h3 := hv.p3
  have hw0 := hv.w
  obtain ⟨ad, cp, b0, o, rfl, _, _⟩ := hp.open
  obtain ⟨ad2, cp2, b2', o2, rfl, _, _⟩ := hr.open
  refine cnv (vs := [_, _]) Tryz.func63 rfl rfl ?_
  all_goals refine tc_seq fun K1 hK1 => ?_; refine tc_region ?_; refine tl_e (e_box rfl rfl rfl) rfl (fun b2 _ => ?_); refine tl_e (e_allocN rfl) rfl (fun b4 _ => ?_); refine tl_q (y_assign rfl) rfl ?_; refine tl_nil ?_; ((refine hK1 ?_; try (clear hK1; clear K1)))
  all_goals refine tc_seq fun K2 hK2 => ?_; refine tc_seq fun K3 hK3 => ?_; refine tc_region ?_; refine tl_q (y_move rfl) rfl ?_; refine tl_q (y_len rfl) rfl ?_; refine tl_q (y_field rfl) rfl ?_; refine tl_q (y_load1 rfl (by repeat constructor) (by rfl)) rfl ?_; refine tl_q (y_len rfl) rfl ?_; refine tl_q (y_neq rfl rfl) rfl ?_; refine tl_q (y_move rfl) rfl ?_; ((refine tl_gs rfl rfl (fun hc => ?_) (fun hc => ?_) <;> (try simp only [qn1, qn2, qn3, qn4, qn5, qn6, qn7, qn8] at hc) <;> (first | refine tl_sk rfl rfl rfl rfl ?_ | refine tl_qg rfl rfl (y_move rfl) rfl ?_)))
  all_goals (first | refine tl_sk rfl rfl rfl rfl ?_ | refine tl_qg rfl rfl (y_fn .nil (.cons rfl .nil)) rfl ?_); (first | refine tl_sk rfl rfl rfl rfl ?_ | refine tl_eg rfl rfl rfl (e_callV rfl (.cons rfl (.cons rfl .nil)) (fun w' hw' => allI_c 118 #[] #[ptr b2] (fun n => decide (-t.worst ≤ n ∧ n ≤ t.worst)) l hl _ w' (hr0.fr (hw'.fr (by simp))) (fun x w2 f => by simpa using errors1_c t hw0 sl _ ll tl x b2 w2 (f.keep (hw'.heap _ (HM.mem (b := b2) (by repeat constructor))))))) (fun _ _ => ?_)); (first | refine tl_sk rfl rfl rfl rfl ?_ | refine tl_qg rfl rfl (y_not rfl) rfl ?_); (first | refine tl_q (y_pick_t rfl rfl) rfl ?_ | refine tl_q (y_pick_f rfl rfl) rfl ?_); refine tl_nil ?_; ((refine hK3 ?_; try (clear hK3; clear K3)))
  all_goals (
   refine tc_cond rfl (fun hc => ?_) (fun hc => ?_)
   · try simp only [qn1, qn2, qn3, qn4, qn5, qn6, qn7, qn8] at hc
     all_goals refine tc_seq fun K4 hK4 => ?_; refine tc_region ?_; refine tl_q (y_loadW rfl (by repeat constructor) (by rfl)) rfl ?_; refine tl_e (e_storeW rfl rfl (by repeat constructor) (by rfl) (by rfl) (by simp [Value.oneCell'])) rfl (fun _ _ => ?_); refine tl_q (y_assign rfl) rfl ?_; refine tl_nil ?_; ((refine hK4 ?_; try (clear hK4; clear K4)))
     all_goals refine tc_ret ?_; (repeat (refine tk_then_ret ?_))
     all_goals (refine tk_ret rfl rfl (.cons (.agg inferInstance rfl (by repeat constructor) (by rfl)) (.cons (.tmp rfl) .nil)) ?_)
     all_goals (
      refine fun w' hw' => ⟨?_, hw'.fr (by simp)⟩
      first
      | (have e : errE t _ = (er3 _, true) := if_pos hall
         rw [e]; rfl)
      | (have hb : errB t l = false := by unfold errB; first | rw [decide_eq_false (by omega), Bool.false_and] | rw [hc, Bool.and_false]
         have e : errE t l = ((0, 0, 0), false) := by unfold errE; rw [hb]; rfl
         rw [e]; rfl))
   · try simp only [qn1, qn2, qn3, qn4, qn5, qn6, qn7, qn8] at hc
     all_goals ((first | (exfalso; with_reducible exact btf hc) | skip))
     all_goals refine tc_skip ?_; ((refine hK2 ?_; try (clear hK2; clear K2)))
     all_goals refine tc_seq fun K5 hK5 => ?_; refine tc_region ?_; refine tl_q (y_sliceA rfl) rfl ?_; refine tl_q (y_move rfl) rfl ?_; (refine tl_e (e_copy (vs := l.map vi) (n := l.length) (l := [vi 0, vi 0, vi 0]) rfl rfl rfl (fun w' hw' => hr0.fr (hw'.fr (by simp))) (fun u hu => by obtain ⟨_, _, rfl⟩ := List.mem_map.1 hu; rfl) (by omega) (by simp; omega) (by repeat constructor)) rfl (fun _ _ => ?_))
     all_goals refine tl_nil ?_; ((refine hK5 ?_; try (clear hK5; clear K5)))
     all_goals refine tc_seq fun K6 hK6 => ?_; ((have hall : errB t l = true := by unfold errB; rw [decide_eq_true (by omega), hc]; rfl))
     all_goals (have hll : l.length = 1 ∨ l.length = 2 ∨ l.length = 3 := by omega)
     all_goals ((clear hc; rcases l with _ | ⟨x0, _ | ⟨x1, _ | ⟨x2, _ | ⟨x3, l⟩⟩⟩⟩))
     all_goals ((first | (exfalso; simp only [List.length_cons, List.length_nil] at hll; omega) | skip))
     all_goals refine tc_region ?_; refine tl_q (y_loadW rfl (by repeat constructor) (by rfl)) rfl ?_; refine tl_e (e_storeW rfl rfl (by repeat constructor) (by rfl) (by rfl) (by simp [Value.oneCell'])) rfl (fun _ _ => ?_); refine tl_q (y_assign rfl) rfl ?_; refine tl_nil ?_; ((refine hK6 ?_; try (clear hK6; clear K6)))
     all_goals refine tc_ret ?_; (repeat (first | refine tk_then_ret ?_))
     all_goals (refine tk_ret rfl rfl (.cons (.agg inferInstance rfl (by repeat constructor) (by rfl)) (.cons (.tmp rfl) .nil)) ?_)
     all_goals (
      refine fun w' hw' => ⟨?_, hw'.fr (by simp)⟩
      first
      | (have e : errE t _ = (er3 _, true) := if_pos hall
         rw [e]; rfl)
      | (have hb : errB t l = false := by unfold errB; first | rw [decide_eq_false (by omega), Bool.false_and] | rw [hc, Bool.and_false]
         have e : errE t l = ((0, 0, 0), false) := by unfold errE; rw [hb]; rfl
         rw [e]; rfl)))
theorem errE_bd {t : Tr} (hv : VT t) (l : List Int) : ErB (errE t l).1 := by
  have hw := hv.w
  unfold errE
  split
  · rename_i h
    unfold errB at h
    rw [Bool.and_eq_true] at h
    have hb : ∀ i, -3 ≤ l.getD i 0 ∧ l.getD i 0 ≤ 3 := fun i => by
      rcases Nat.lt_or_ge i l.length with hi | hi
      · have := of_decide_eq_true (List.all_eq_true.1 h.2 (l.getD i 0) (by rw [List.getD_eq_getElem?_getD, List.getElem?_eq_getElem hi]; exact List.getElem_mem hi))
        omega
      · rw [List.getD_eq_getElem?_getD, List.getElem?_eq_none hi]; simp
    exact ⟨hb 0, hb 1, hb 2⟩
  · exact ⟨by dsimp only; omega, by dsimp only; omega, by dsimp only; omega⟩
def shownE (t : Tr) (l : List Int) (k d : Int) : List Int × Int :=
  if ¬ chkT t = 0 then ([], chkT t) else if errB t l = false ∨ ¬ (0 ≤ k ∧ k ≤ t.s.weights.length) ∨ ¬ (1 ≤ d ∧ d ≤ 2000) then ([], 2) else (shownL t (er3 l) k d, 0)
theorem shown_no (t : Tr) (hn : NT t) (l : List Int) (hl : (l.length : Int) ≤ 9000000000000000000) (k d : Int) {e : Int} (he : ¬ e = 0) (hE : shownE t l k d = ([], e)) (sl pl ll tl lv : Value) (w : World) (hr : RdTr w t sl pl ll tl) (hl2 : RdI w lv l) :
    CnV Tryz.prog 17 #[trV t sl pl ll tl, lv, vi k, vi d] w (.tuple #[.slice none 0 0, vi e]) := by
  have hr0 := hr
  refine cnv (vs := [_, _, _, _]) Tryz.func17 rfl rfl ?_
  all_goals refine tc_seq fun K1 hK1 => ?_; refine tc_region ?_; refine tl_e (e_box rfl rfl rfl) rfl (fun b4 _ => ?_); refine tl_q (y_assign rfl) rfl ?_; refine tl_q (y_assign rfl) rfl ?_; refine tl_nil ?_; ((refine hK1 ?_; try (clear hK1; clear K1)))
  all_goals refine tc_seq fun K2 hK2 => ?_; refine tc_seq fun K3 hK3 => ?_; refine tc_region ?_; refine tl_q (y_loadW rfl (by repeat constructor) (by rfl)) rfl ?_; refine tl_e (e_callV rfl (.cons rfl .nil) (fun w' hw' => checkTrial_c t hn sl pl ll tl w' (hr0.fr (hw'.fr (by simp))))) rfl (fun _ _ => ?_); refine tl_q (y_assign rfl) rfl ?_; refine tl_nil ?_; ((refine hK3 ?_; try (clear hK3; clear K3)))
  all_goals refine tc_seq fun K4 hK4 => ?_; refine tc_region ?_; refine tl_q (y_move rfl) rfl ?_; refine tl_q (y_neq rfl rfl) rfl ?_; refine tl_nil ?_; ((refine hK4 ?_; try (clear hK4; clear K4)))
  all_goals (
   refine tc_cond rfl (fun hc => ?_) (fun hc => ?_)
   · try simp only [qn1, qn2, qn3, qn4, qn5, qn6, qn7, qn8] at hc
     all_goals refine tc_seq fun K5 hK5 => ?_; refine tc_region ?_; refine tl_q (y_move rfl) rfl ?_; refine tl_q (y_assign rfl) rfl ?_; refine tl_q (y_assign rfl) rfl ?_; refine tl_nil ?_; ((refine hK5 ?_; try (clear hK5; clear K5)))
     all_goals refine tc_ret ?_; (repeat (refine tk_then_ret ?_))
     all_goals (refine tk_ret rfl rfl (.cons (.tmp rfl) (.cons (.tmp rfl) .nil)) ?_)
     all_goals (
      refine fun w' hw' => ⟨?_, hw'.fr (by simp)⟩
      unfold shownE at hE
      first
      | (rw [if_pos (by omega)] at hE; rw [(Prod.mk.inj hE).2]; rfl)
      | (rw [if_neg (by omega), if_pos (by rw [← hb]; simp_all)] at hE; rw [← (Prod.mk.inj hE).2]; rfl)
      | (rw [if_neg (by omega), if_pos (by omega)] at hE; rw [← (Prod.mk.inj hE).2]; rfl))
   · try simp only [qn1, qn2, qn3, qn4, qn5, qn6, qn7, qn8] at hc
     all_goals refine tc_skip ?_; ((refine hK2 ?_; try (clear hK2; clear K2)))
     all_goals refine tc_seq fun K6 hK6 => ?_; (have hv := chkT_0.1 (show chkT t = 0 by omega))
     all_goals refine tc_region ?_; refine tl_q (y_loadW rfl (by repeat constructor) (by rfl)) rfl ?_; refine tl_q (y_move rfl) rfl ?_; refine tl_e (e_callV rfl (.cons rfl (.cons rfl .nil)) (fun w' hw' => errorsOf_c t hv l hl sl pl ll tl lv w' (hr0.ps.fr (hw'.fr (by simp))) (hl2.fr (hw'.fr (by simp))))) rfl (fun _ _ => ?_); refine tl_q (y_move rfl) rfl ?_; refine tl_q (y_extract rfl rfl) rfl ?_; refine tl_q (y_extract rfl rfl) rfl ?_; refine tl_e (e_allocN rfl) rfl (fun b11 _ => ?_); refine tl_e (e_storeW rfl rfl (by repeat constructor) (by rfl) (by rfl) (by simp [Value.oneCell'])) rfl (fun _ _ => ?_); refine tl_q (y_assign rfl) rfl ?_; refine tl_nil ?_; ((refine hK6 ?_; try (clear hK6; clear K6)))
     all_goals refine tc_seq fun K7 hK7 => ?_; refine tc_seq fun K8 hK8 => ?_; ((have hb : (errE t l).2 = errB t l := by unfold errE; split <;> simp_all))
     all_goals refine tc_region ?_; refine tl_q (y_move rfl) rfl ?_; refine tl_q (y_not rfl) rfl ?_; refine tl_q (y_move rfl) rfl ?_; ((refine tl_gs rfl rfl (fun hc => ?_) (fun hc => ?_) <;> (try simp only [qn1, qn2, qn3, qn4, qn5, qn6, qn7, qn8] at hc) <;> (first | refine tl_sk rfl rfl rfl rfl ?_ | refine tl_qg rfl rfl (y_loadW rfl (by repeat constructor) (by rfl)) rfl ?_)))
     all_goals (first | refine tl_sk rfl rfl rfl rfl ?_ | refine tl_qg rfl rfl (y_move rfl) rfl ?_); (first | refine tl_sk rfl rfl rfl rfl ?_ | refine tl_eg rfl rfl rfl (e_callV rfl (.cons rfl (.cons rfl .nil)) (fun w' hw' => tload_c t k sl pl ll tl w' (hr0.ws.fr (hw'.fr (by simp))))) (fun _ _ => ?_)); (first | refine tl_sk rfl rfl rfl rfl ?_ | refine tl_qg rfl rfl (y_not_dec rfl) rfl ?_); (first | refine tl_q (y_pick_t rfl rfl) rfl ?_ | refine tl_q (y_pick_f rfl rfl) rfl ?_); refine tl_q (y_move rfl) rfl ?_; ((first | refine tl_sk rfl rfl rfl rfl ?_ | (refine tl_gs rfl rfl (fun hc => ?_) (fun hc => ?_) <;> (try simp only [qn1, qn2, qn3, qn4, qn5, qn6, qn7, qn8] at hc) <;> (first | refine tl_sk rfl rfl rfl rfl ?_ | refine tl_qg rfl rfl (y_move rfl) rfl ?_))))
     all_goals (first | refine tl_sk rfl rfl rfl rfl ?_ | refine tl_eg rfl rfl rfl (e_callV rfl (.cons rfl (.cons rfl (.cons rfl .nil))) (fun w' _ => twithin_c _ _ _ w')) (fun _ _ => ?_)); (first | refine tl_sk rfl rfl rfl rfl ?_ | refine tl_qg rfl rfl (y_not_dec rfl) rfl ?_); (first | refine tl_q (y_pick_t rfl rfl) rfl ?_ | refine tl_q (y_pick_f rfl rfl) rfl ?_); refine tl_nil ?_; ((refine hK8 ?_; try (clear hK8; clear K8)))
     all_goals (
      refine tc_cond rfl (fun hc => ?_) (fun hc => ?_)
      · try simp only [qn1, qn2, qn3, qn4, qn5, qn6, qn7, qn8] at hc
        all_goals refine tc_seq fun K9 hK9 => ?_; refine tc_region ?_; refine tl_q (y_assign rfl) rfl ?_; refine tl_q (y_assign rfl) rfl ?_; refine tl_nil ?_; ((refine hK9 ?_; try (clear hK9; clear K9)))
        all_goals refine tc_ret ?_; (repeat (refine tk_then_ret ?_))
        all_goals (refine tk_ret rfl rfl (.cons (.tmp rfl) (.cons (.tmp rfl) .nil)) ?_)
        all_goals (
         refine fun w' hw' => ⟨?_, hw'.fr (by simp)⟩
         unfold shownE at hE
         first
         | (rw [if_pos (by omega)] at hE; rw [(Prod.mk.inj hE).2]; rfl)
         | (rw [if_neg (by omega), if_pos (by rw [← hb]; simp_all)] at hE; rw [← (Prod.mk.inj hE).2]; rfl)
         | (rw [if_neg (by omega), if_pos (by omega)] at hE; rw [← (Prod.mk.inj hE).2]; rfl))
      · try simp only [qn1, qn2, qn3, qn4, qn5, qn6, qn7, qn8] at hc
        all_goals ((first | (exfalso; with_reducible exact btf hc) | skip))
        all_goals refine tc_skip ?_; ((refine hK7 ?_; try (clear hK7; clear K7)))
        all_goals refine tc_seq fun K10 hK10 => ?_; ((exfalso; unfold shownE at hE; rw [if_neg (by omega), if_neg (by rw [← hb]; simp_all)] at hE; exact he (Prod.mk.inj hE).2.symm))
        all_goals (
         refine fun w' hw' => ⟨?_, hw'.fr (by simp)⟩
         unfold shownE at hE
         first
         | (rw [if_pos (by omega)] at hE; rw [(Prod.mk.inj hE).2]; rfl)
         | (rw [if_neg (by omega), if_pos (by rw [← hb]; simp_all)] at hE; rw [← (Prod.mk.inj hE).2]; rfl)
         | (rw [if_neg (by omega), if_pos (by omega)] at hE; rw [← (Prod.mk.inj hE).2]; rfl))))
theorem shownE_0 {t : Tr} {l : List Int} {k d : Int} (h : (shownE t l k d).2 = 0) : VT t ∧ errB t l = true ∧ (0 ≤ k ∧ k ≤ t.s.weights.length) ∧ (1 ≤ d ∧ d ≤ 2000) ∧ (shownE t l k d).1 = shownL t (er3 l) k d := by
  unfold shownE at h ⊢
  split at h
  · rename_i h1; exact absurd h h1
  · rename_i h1
    split at h
    · cases h
    · rename_i h2
      rw [if_neg h1, if_neg h2]
      simp only [not_or, Bool.not_eq_false, Decidable.not_not] at h2
      exact ⟨chkT_0.1 (by omega), h2.1, h2.2.1, h2.2.2, rfl⟩
theorem shown_ok (t : Tr) (hn : NT t) (l : List Int) (hl : (l.length : Int) ≤ 9000000000000000000) (k d : Int) (hE : (shownE t l k d).2 = 0) (sl pl ll tl lv : Value) (w : World) (hr : RdTr w t sl pl ll tl) (hl2 : RdI w lv l) :
    CnX Tryz.prog 17 #[trV t sl pl ll tl, lv, vi k, vi d] w [] (fun y : Option Addr × Nat => .tuple #[slV (shownL t (er3 l) k d).length y, vi 0]) (fun y w' => RdI w' (slV (shownL t (er3 l) k d).length y) (shownL t (er3 l) k d)) := by
  have hr0 := hr
  obtain ⟨hv, heb, hk, hd, _⟩ := shownE_0 hE
  have hck := chkT_0.2 hv
  have hee : errE t l = (er3 l, true) := if_pos heb
  have hbd := errE_bd hv l
  rw [hee] at hbd
  refine cnx0 (vs := [_, _, _, _]) Tryz.func17 rfl rfl ?_
  all_goals refine tc_seq fun K1 hK1 => ?_; refine tc_region ?_; refine tl_e (e_box rfl rfl rfl) rfl (fun b4 _ => ?_); refine tl_q (y_assign rfl) rfl ?_; refine tl_q (y_assign rfl) rfl ?_; refine tl_nil ?_; ((refine hK1 ?_; try (clear hK1; clear K1)))
  all_goals refine tc_seq fun K2 hK2 => ?_; refine tc_seq fun K3 hK3 => ?_; refine tc_region ?_; refine tl_q (y_loadW rfl (by repeat constructor) (by rfl)) rfl ?_; refine tl_e (e_callV rfl (.cons rfl .nil) (fun w' hw' => checkTrial_c t hn sl pl ll tl w' (hr0.fr (hw'.fr (by simp))))) rfl (fun _ _ => ?_); refine tl_q (y_assign rfl) rfl ?_; refine tl_nil ?_; ((refine hK3 ?_; try (clear hK3; clear K3)))
  all_goals refine tc_seq fun K4 hK4 => ?_; refine tc_region ?_; refine tl_q (y_move rfl) rfl ?_; refine tl_q (y_neq rfl rfl) rfl ?_; refine tl_nil ?_; ((refine hK4 ?_; try (clear hK4; clear K4)))
  all_goals (
   refine tc_cond rfl (fun hc => ?_) (fun hc => ?_)
   · try simp only [qn1, qn2, qn3, qn4, qn5, qn6, qn7, qn8] at hc
     all_goals ((exfalso; omega))
   · try simp only [qn1, qn2, qn3, qn4, qn5, qn6, qn7, qn8] at hc
     all_goals refine tc_skip ?_; ((refine hK2 ?_; try (clear hK2; clear K2)))
     all_goals refine tc_seq fun K6 hK6 => ?_; refine tc_region ?_; refine tl_q (y_loadW rfl (by repeat constructor) (by rfl)) rfl ?_; refine tl_q (y_move rfl) rfl ?_; (refine tl_e (e_callV rfl (.cons rfl (.cons rfl .nil)) (fun w' hw' => by have h := errorsOf_c t hv l hl sl pl ll tl lv w' (hr0.ps.fr (hw'.fr (by simp))) (hl2.fr (hw'.fr (by simp))); rw [hee] at h; exact h)) rfl (fun _ _ => ?_))
     all_goals refine tl_q (y_move rfl) rfl ?_; refine tl_q (y_extract rfl rfl) rfl ?_; refine tl_q (y_extract rfl rfl) rfl ?_; refine tl_e (e_allocN rfl) rfl (fun b11 _ => ?_); refine tl_e (e_storeW rfl rfl (by repeat constructor) (by rfl) (by rfl) (by simp [Value.oneCell'])) rfl (fun _ _ => ?_); refine tl_q (y_assign rfl) rfl ?_; refine tl_nil ?_; ((refine hK6 ?_; try (clear hK6; clear K6)))
     all_goals refine tc_seq fun K7 hK7 => ?_; refine tc_seq fun K8 hK8 => ?_; refine tc_region ?_; refine tl_q (y_move rfl) rfl ?_; refine tl_q (y_not rfl) rfl ?_; refine tl_q (y_move rfl) rfl ?_; refine tl_qg rfl rfl (y_loadW rfl (by repeat constructor) (by rfl)) rfl ?_; refine tl_qg rfl rfl (y_move rfl) rfl ?_; refine tl_eg rfl rfl rfl (e_callV rfl (.cons rfl (.cons rfl .nil)) (fun w' hw' => tload_c t k sl pl ll tl w' (hr0.ws.fr (hw'.fr (by simp))))) (fun _ _ => ?_); refine tl_qg rfl rfl (y_not_dec rfl) rfl ?_; refine tl_q (y_pick_f rfl rfl) rfl ?_; refine tl_q (y_move rfl) rfl ?_; ((refine tl_gs rfl rfl (fun hc => ?_) (fun hc => ?_) <;> (try simp only [qn1, qn2, qn3, qn4, qn5, qn6, qn7, qn8] at hc) <;> (first | (exfalso; omega) | refine tl_qg rfl rfl (y_move rfl) rfl ?_)))
     all_goals (refine tl_eg rfl rfl rfl (e_callV rfl (.cons rfl (.cons rfl (.cons rfl .nil))) (fun w' _ => twithin_c _ _ _ w')) (fun _ _ => ?_)); refine tl_qg rfl rfl (y_not_dec rfl) rfl ?_; refine tl_q (y_pick_f rfl rfl) rfl ?_; refine tl_nil ?_; ((refine hK8 ?_; try (clear hK8; clear K8)))
     all_goals (
      refine tc_cond rfl (fun hc => ?_) (fun hc => ?_)
      · try simp only [qn1, qn2, qn3, qn4, qn5, qn6, qn7, qn8] at hc
        all_goals ((exfalso; omega))
      · try simp only [qn1, qn2, qn3, qn4, qn5, qn6, qn7, qn8] at hc
        all_goals refine tc_skip ?_; ((refine hK7 ?_; try (clear hK7; clear K7)))
        all_goals refine tc_seq fun K10 hK10 => ?_; refine tc_drawS ([(b11, .cells #[vi (er3 l).1, vi (er3 l).2.1, vi (er3 l).2.2] 126 (0, 0)), (b4, .cells (trV t sl pl ll tl).cells 38 (0, 0))]) (by kernel_rfl) ?_; refine tx_qS 0 rfl (by kernel_rfl) (y_loadW rfl (by repeat constructor) (by rfl)) rfl (fun _ _ _ h => h) (fun _ h => h.subl SB.s SB.s) ?_; refine tx_qS 2 rfl (by kernel_rfl) (y_loadW rfl (by repeat constructor) (by rfl)) rfl (fun _ _ _ h => h) (fun _ h => h.subl SB.s SB.s) ?_; refine tx_p 3 rfl (by kernel_rfl) (y_move rfl) rfl (fun _ _ _ h => h) (fun _ h => h.subl SB.s SB.s) ?_; refine tx_p 4 rfl (by kernel_rfl) (y_move rfl) rfl (fun _ _ _ h => h) (fun _ h => h.subl SB.s SB.s) ?_; refine tx_p 5 rfl (by kernel_rfl) (y_build_2 rfl rfl rfl rfl) rfl (fun _ _ _ h => h) (fun _ h => h.subl SB.s SB.s) ?_; refine tx_single 1 (by kernel_rfl) (to_e rfl rfl (e_callN rfl (.cons rfl .nil) (fun w' hw' => twork_c t sl pl ll tl hr0.ws.one hr0.ps.one hr0.ls.one hr0.ts.one w')) (.inr ⟨fun _ _ h => h.subl SB.s SB.s, fun _ h => h⟩) (fun x hx => ?_)); refine tx_single 6 (by kernel_rfl) (to_e rfl rfl (e_callUX rfl (.cons rfl (.cons rfl (.cons rfl .nil))) (fun w' hw' => shown_c t hv (er3 l) hbd k d sl pl ll tl w' x.1 x.2 #[] 0 (tw0 (hr0.fr (hw'.fr (by simp))) (hw'.heap _ (HM.mem (by repeat constructor))) (hw'.heap _ (HM.mem (b := x.2) (by repeat constructor))))) (fun _ => (by repeat constructor))) (.inr ⟨fun _ _ h => h.subl SB.s SB.s, fun _ h => h⟩) (fun y hy => ?_)); refine tx_p 7 rfl (by kernel_rfl) (y_assign rfl) rfl (fun _ _ _ h => h) (fun _ h => h.subl SB.s SB.s) ?_; refine tx_p 8 rfl (by kernel_rfl) (y_assign rfl) rfl (fun _ _ _ h => h) (fun _ h => h.subl SB.s SB.s) ?_; refine tx_done (by kernel_rfl) ?_; ((refine hK10 ?_; try (clear hK10; clear K10)))
        all_goals refine tc_ret ?_; (repeat (first | refine tk_then_ret ?_))
        all_goals (refine tk_ret rfl rfl (.cons (.tmp rfl) (.cons (.tmp rfl) .nil)) ?_)
        all_goals (
         first
         | (exfalso; omega)
         | exact fun w' hw' => ⟨y.1.1, rfl, hw'.fr (by simp), hy.1.1.fr (hw'.calm hy.2 (by simp) (List.Sublist.refl _))⟩)))
end Go.Sp
/-
  Slices of slices; what sorting and compacting leave.
-/
namespace Go.Sp
open Go Go.Proofs
/-- A slice of values of one cell, laid open. -/
theorem Reads.openV {w : World} {v : Value} {n : Nat} {vs : List Value} (h : Reads w v 1 n vs) : ∃ ad cap b o, v = .slice ad n cap ∧ (0 < n → ad = some ⟨b, o, none⟩) ∧ ∀ w' S, Fr S w w' → b ∉ S → ∀ i, i < n → w'.cell? ⟨b, o + i, none⟩ = some (vs.getD i (.slice none 0 0)) := by
  by_cases hn : n = 0
  · obtain ⟨_, ad, cap, h2, _⟩ := h
    exact ⟨ad, cap, 0, 0, h2, fun h => by omega, fun _ _ _ _ i hi => by omega⟩
  · obtain ⟨h1, ad, cap, h2, h3⟩ := h
    obtain ⟨b, o, h4, h5⟩ := h3 hn
    refine ⟨ad, cap, b, o, h2, fun _ => h4, fun w' S f hb i hi => ?_⟩
    have hl : i < vs.length := by omega
    have := h5.get i (vs.getD i (.slice none 0 0)) (by rw [List.getD_eq_getElem?_getD, List.getElem?_eq_getElem hl]; rfl)
    exact f.cell (p := ⟨b, o + i, none⟩) hb this
/-- A slice that reads as lists. -/
def RdLL (w : World) (v : Value) (ls : List (List Int)) : Prop := ∃ vs : List Value, Reads w v 1 ls.length vs ∧ ∀ i, i < ls.length → RdI w (vs.getD i (.slice none 0 0)) (ls.getD i [])
theorem RdLL.fr {w w' : World} {v : Value} {ls : List (List Int)} (h : RdLL w v ls) (f : Fr [] w w') : RdLL w' v ls := by
  obtain ⟨vs, h1, h2⟩ := h
  exact ⟨vs, Reads.frS h1 f (by simp), fun i hi => (h2 i hi).fr f⟩
theorem RdLL.one {w : World} {v : Value} {ls : List (List Int)} (h : RdLL w v ls) : v.oneCell' = true := by obtain ⟨_, ⟨_, ad, cap, rfl, _⟩, _⟩ := h; rfl
theorem RdLL.nil (w : World) : RdLL w (.slice none 0 0) [] := ⟨[], ⟨rfl, none, 0, rfl, fun h => absurd rfl h⟩, fun i hi => absurd hi (Nat.not_lt_zero i)⟩
theorem RdLL.open {w : World} {v : Value} {ls : List (List Int)} (h : RdLL w v ls) : ∃ ad cap b o, ∃ vs : List Value, v = .slice ad ls.length cap ∧ (0 < ls.length → ad = some ⟨b, o, none⟩) ∧
    (∀ w', Fr [] w w' → ∀ i, i < ls.length → w'.cell? ⟨b, o + i, none⟩ = some (vs.getD i (.slice none 0 0))) ∧ ∀ w', Fr [] w w' → ∀ i, i < ls.length → RdI w' (vs.getD i (.slice none 0 0)) (ls.getD i []) := by
  obtain ⟨vs, h1, h2⟩ := h
  obtain ⟨ad, cap, b, o, e, had, hc⟩ := h1.openV
  exact ⟨ad, cap, b, o, vs, e, had, fun w' f i hi => hc w' [] f (by simp) i hi, fun w' f i hi => (h2 i hi).fr f⟩
/-- What is asked of a function value that tests a list. -/
def TestsLL (P : Program) (g : FuncId) (first cap : Array Value) (p : List Int → Bool) (ls : List (List Int)) (w : World) : Prop := ∀ (v : Value) (l : List Int) (w' : World), Fr [] w w' → l ∈ ls → RdI w' v l → CnV P g (first ++ #[v] ++ cap) w' (.bool (p l))
theorem TestsLL.fr {P : Program} {g : FuncId} {first cap : Array Value} {p : List Int → Bool} {ls : List (List Int)} {w w1 : World} (h : TestsLL P g first cap p ls w) (f : Fr [] w w1) : TestsLL P g first cap p ls w1 := fun v l w' f' hm hr => h v l w' (f.trans f' (by simp)) hm hr
theorem getD_memL {xs : List (List Int)} {k : Nat} (h : k < xs.length) : xs.getD k [] ∈ xs := by rw [List.getD_eq_getElem?_getD, List.getElem?_eq_getElem h]; exact List.getElem_mem h
def idxLL (xs : List (List Int)) (p : List Int → Bool) : Int := if xs.any p then (xs.findIdx p : Int) else -1
theorem idxLL_hit {xs : List (List Int)} {p : List Int → Bool} {k : Nat} (hk : k < xs.length) (hp : p (xs.getD k []) = true) (hn : ∀ j, j < k → p (xs.getD j []) = false) : idxLL xs p = k := by
  rw [List.getD_eq_getElem?_getD, List.getElem?_eq_getElem hk] at hp
  simp only [Option.getD_some] at hp
  have h1 : xs.any p = true := List.any_eq_true.2 ⟨_, List.getElem_mem hk, hp⟩
  unfold idxLL
  rw [if_pos h1]
  have : xs.findIdx p = k := by
    apply (List.findIdx_eq hk).2
    refine ⟨hp, fun j hj => ?_⟩
    have := hn j hj
    rw [List.getD_eq_getElem?_getD, List.getElem?_eq_getElem (Nat.lt_trans hj hk)] at this
    simpa using this
  rw [this]
theorem idxLL_miss {xs : List (List Int)} {p : List Int → Bool} (hn : ∀ j, j < xs.length → p (xs.getD j []) = false) : idxLL xs p = -1 := by
  unfold idxLL
  rw [if_neg]
  intro h
  obtain ⟨x, hx, hp⟩ := List.any_eq_true.1 h
  obtain ⟨j, hj, rfl⟩ := List.getElem_of_mem hx
  have := hn j hj
  rw [List.getD_eq_getElem?_getD, List.getElem?_eq_getElem hj] at this
  simp only [Option.getD_some] at this
  rw [this] at hp; cases hp
theorem idxLL_any (xs : List (List Int)) (p : List Int → Bool) : decide (0 ≤ idxLL xs p) = xs.any p := by
  unfold idxLL
  cases h : xs.any p
  · simp
  · simp
theorem indexFuncLL_c (g : FuncId) [GoFn Tryz.prog g] (first cap : Array Value) (p : List Int → Bool) (xs : List (List Int)) (hx : (xs.length : Int) ≤ 9000000000000000000) (sl : Value) (w : World) (hr : RdLL w sl xs) (ht : TestsLL Tryz.prog g first cap p xs w) :
    CnV Tryz.prog 165 #[sl, .func (.func g) first cap] w (vi (idxLL xs p)) := by
  obtain ⟨ad, cp, b0, o, vs, rfl, had, hcell, hin⟩ := hr.open
  refine cnv (vs := [_, _]) Tryz.func165 rfl rfl ?_
  all_goals refine tc_seq fun K1 hK1 => ?_; refine tc_region ?_; refine tl_q (y_assign rfl) rfl ?_; refine tl_nil ?_; ((refine hK1 ?_; try (clear hK1; clear K1)))
  all_goals refine tc_seq fun K2 hK2 => ?_; refine tc_seq fun K3 hK3 => ?_; refine tc_region ?_; refine tl_q (y_move rfl) rfl ?_; refine tl_q (y_len rfl) rfl ?_; refine tl_q (y_move rfl) rfl ?_; refine tl_nil ?_; ((refine hK3 ?_; try (clear hK3; clear K3)))
  all_goals refine tc_block ?_
  all_goals (
   refine tc_loop (fun k : Nat => k ≤ xs.length ∧ ∀ j, j < k → p (xs.getD j []) = false) (fun k => [(0, .slice ad xs.length cp), (1, .func (.func g) first cap), (7, vi xs.length), (8, vi k)]) (fun _ => [(w, [])]) (fun _ => []) (fun k => xs.length - k) ?_ ?_
   · exact tk_start 0 ⟨Nat.zero_le _, fun j hj => absurd hj (Nat.not_lt_zero j)⟩ (.cons rfl (.cons rfl (.cons rfl (.cons rfl .nil)))) (fun _ h => h)
   · rintro k ⟨hk, hj⟩
     all_goals refine tc_seq fun K4 hK4 => ?_; refine tc_region ?_; refine tl_q (y_lss rfl rfl) rfl ?_; refine tl_nil ?_; ((refine hK4 ?_; try (clear hK4; clear K4)))
     all_goals refine tc_seq fun K5 hK5 => ?_
     all_goals (
      refine tc_cond rfl (fun hc => ?_) (fun hc => ?_)
      · try simp only [qn1, qn2, qn3, qn4, qn5, qn6, qn7, qn8] at hc
        all_goals refine tc_skip ?_; ((refine hK5 ?_; try (clear hK5; clear K5)))
        all_goals refine tc_seq fun K6 hK6 => ?_; refine tc_block ?_; refine tc_seq fun K7 hK7 => ?_; refine tc_region ?_; refine tl_q (y_move rfl) rfl ?_; refine tl_q (y_assign rfl) rfl ?_; refine tl_nil ?_; ((refine hK7 ?_; try (clear hK7; clear K7)))
        all_goals refine tc_seq fun K8 hK8 => ?_
        have had' := had (by omega)
        all_goals refine tc_region ?_; refine tl_q (y_move rfl) rfl ?_; refine tl_q (y_move rfl) rfl ?_; refine tl_q (y_move rfl) rfl ?_; refine tl_q (y_index rfl rfl (by omega) had') rfl ?_; ((refine tl_q (y_load1o (v := vs.getD k (.slice none 0 0)) rfl (fun w' hw' => by rw [show Int.toNat (k : Int) * 1 = k from by omega]; exact hcell w' (hw'.fr (by simp)) k (by omega))) rfl ?_))
        all_goals refine tl_e (e_callVf rfl rfl (.cons rfl .nil) (fun w' hw' => ht _ (xs.getD k []) w' (hw'.fr (by simp)) (getD_memL (by omega)) (hin w' (hw'.fr (by simp)) k (by omega)))) rfl (fun _ _ => ?_); refine tl_nil ?_; ((refine hK8 ?_; try (clear hK8; clear K8)))
        all_goals (
         refine tc_cond rfl (fun hc => ?_) (fun hc => ?_)
         · all_goals (skip)
           all_goals refine tc_seq fun K9 hK9 => ?_; refine tc_region ?_; refine tl_q (y_move rfl) rfl ?_; refine tl_q (y_assign rfl) rfl ?_; refine tl_nil ?_; ((refine hK9 ?_; try (clear hK9; clear K9)))
           all_goals refine tc_ret ?_; (repeat (first | refine tk_then_ret ?_ | refine tk_block_ret ?_))
           all_goals (refine tk_ret rfl rfl (.cons (.tmp rfl) .nil) ?_)
           all_goals (
            first | exact fun w' hw' => ⟨by rw [idxLL_hit (k := k) (by omega) (by simpa using hc) hj]; rfl, hw'.fr (by simp)⟩ | exact fun w' hw' => ⟨by rw [idxLL_miss (fun j hjj => hj j (by omega))]; rfl, hw'.fr (by simp)⟩)
         · all_goals (skip)
           all_goals refine tc_skip ?_; ((refine hK6 ?_; try (clear hK6; clear K6)))
           all_goals refine tc_region ?_; refine tl_q (y_add rfl rfl (by omega)) rfl ?_; refine tl_q (y_move rfl) rfl ?_; refine tl_nil ?_
           all_goals (
            exact tk_round (k + 1) ⟨by omega, fun j hj' => by rcases Nat.lt_succ_iff_lt_or_eq.1 hj' with h | rfl; exact hj j h; simpa using hc⟩ (by omega) (.cons rfl (.cons rfl (.cons rfl (.cons rfl .nil)))) (fun _ h => h)))
      · try simp only [qn1, qn2, qn3, qn4, qn5, qn6, qn7, qn8] at hc
        all_goals refine tc_exit ?_; ((refine hK2 ?_; try (clear hK2; clear K2)))
        all_goals refine tc_seq fun K10 hK10 => ?_; refine tc_region ?_; refine tl_q (y_assign rfl) rfl ?_; refine tl_nil ?_; ((refine hK10 ?_; try (clear hK10; clear K10)))
        all_goals refine tc_ret ?_; (repeat (first | refine tk_then_ret ?_))
        all_goals (refine tk_ret rfl rfl (.cons (.tmp rfl) .nil) ?_)
        all_goals (
         first | exact fun w' hw' => ⟨by rw [idxLL_hit (k := k) (by omega) (by simpa using hc) hj]; rfl, hw'.fr (by simp)⟩ | exact fun w' hw' => ⟨by rw [idxLL_miss (fun j hjj => hj j (by omega))]; rfl, hw'.fr (by simp)⟩)))
theorem containsFuncLL_c (g : FuncId) [GoFn Tryz.prog g] (first cap : Array Value) (p : List Int → Bool) (xs : List (List Int)) (hx : (xs.length : Int) ≤ 9000000000000000000) (sl : Value) (w : World) (hr : RdLL w sl xs) (ht : TestsLL Tryz.prog g first cap p xs w) :
    CnV Tryz.prog 139 #[sl, .func (.func g) first cap] w (.bool (xs.any p)) := by
  refine cnv (vs := [_, _]) Tryz.func139 rfl rfl ?_
  all_goals refine tc_seq fun K1 hK1 => ?_; refine tc_region ?_; refine tl_q (y_assign rfl) rfl ?_; refine tl_nil ?_; ((refine hK1 ?_; try (clear hK1; clear K1)))
  all_goals refine tc_seq fun K2 hK2 => ?_; refine tc_region ?_; refine tl_q (y_move rfl) rfl ?_; refine tl_q (y_move rfl) rfl ?_; refine tl_e (e_callV rfl (.cons rfl (.cons rfl .nil)) (fun w' hw' => indexFuncLL_c g first cap p xs hx _ w' (hr.fr (hw'.fr (by simp))) (ht.fr (hw'.fr (by simp))))) rfl (fun _ _ => ?_); refine tl_q (y_geq rfl rfl) rfl ?_; refine tl_q (y_assign rfl) rfl ?_; refine tl_nil ?_; ((refine hK2 ?_; try (clear hK2; clear K2)))
  all_goals refine tc_ret ?_; (repeat (first | refine tk_then_ret ?_))
  all_goals (refine tk_ret rfl rfl (.cons (.tmp rfl) .nil) ?_)
  all_goals (
   exact fun w' hw' => ⟨by rw [← idxLL_any]; rfl, hw'.fr (by simp)⟩)
theorem allLL1_c (g : FuncId) [GoFn Tryz.prog g] (first cap : Array Value) (p : List Int → Bool) (v : Value) (l : List Int) (b : Nat) (w : World) (hv : RdI w v l) (hb : w.cell? ⟨b, 0, none⟩ = some (.func (.func g) first cap)) (xs : List (List Int)) (hm : l ∈ xs) (ht : TestsLL Tryz.prog g first cap p xs w) :
    CnV Tryz.prog 140 #[v, .pointer (some ⟨b, 0, none⟩)] w (.bool (!(p l))) := by
  refine cnv (vs := [_, _]) Tryz.func140 rfl rfl ?_
  all_goals refine tc_seq fun K1 hK1 => ?_; refine tc_region ?_; refine tl_q (y_assign rfl) rfl ?_; refine tl_nil ?_; ((refine hK1 ?_; try (clear hK1; clear K1)))
  all_goals refine tc_seq fun K2 hK2 => ?_; refine tc_region ?_; refine tl_q (y_load1o rfl (fun w' hw' => (hw'.fr (S := []) (w0 := w) (by simp)).cell (by simp) hb)) rfl ?_; refine tl_q (y_move rfl) rfl ?_; refine tl_e (e_callVf rfl rfl (.cons rfl .nil) (fun w' hw' => ht v l w' (hw'.fr (by simp)) hm (hv.fr (hw'.fr (by simp))))) rfl (fun _ _ => ?_); refine tl_q (y_not rfl) rfl ?_; refine tl_q (y_assign rfl) rfl ?_; refine tl_nil ?_; ((refine hK2 ?_; try (clear hK2; clear K2)))
  all_goals refine tc_ret ?_; (repeat (first | refine tk_then_ret ?_))
  all_goals (refine tk_ret rfl rfl (.cons (.tmp rfl) .nil) ?_)
  all_goals (
   exact fun w' hw' => ⟨rfl, hw'.fr (by simp)⟩)
theorem allLL_c (g : FuncId) [GoFn Tryz.prog g] (first cap : Array Value) (p : List Int → Bool) (xs : List (List Int)) (hx : (xs.length : Int) ≤ 9000000000000000000) (sl : Value) (w : World) (hr : RdLL w sl xs) (ht : TestsLL Tryz.prog g first cap p xs w) :
    CnV Tryz.prog 90 #[sl, .func (.func g) first cap] w (.bool (xs.all p)) := by
  refine cnv (vs := [_, _]) Tryz.func90 rfl rfl ?_
  all_goals refine tc_seq fun K1 hK1 => ?_; refine tc_region ?_; refine tl_e (e_box rfl rfl rfl) rfl (fun b _ => ?_); refine tl_q (y_assign rfl) rfl ?_; refine tl_nil ?_; ((refine hK1 ?_; try (clear hK1; clear K1)))
  all_goals refine tc_seq fun K2 hK2 => ?_; refine tc_region ?_; refine tl_q (y_move rfl) rfl ?_; refine tl_q (y_fn .nil (.cons rfl .nil)) rfl ?_; refine tl_e (e_callV rfl (.cons rfl (.cons rfl .nil)) (fun w' hw' => containsFuncLL_c 140 #[] #[.pointer (some ⟨b, 0, none⟩)] (fun x => !(p x)) xs hx _ w' (hr.fr (hw'.fr (by simp))) (fun v x w2 f hm hv => by simpa using allLL1_c g first cap p v x b w2 hv (f.cell (by simp) (cellAt_cell? (hw'.heap _ (HM.mem (by repeat constructor))) rfl)) xs hm ((ht.fr (hw'.fr (by simp))).fr f)))) rfl (fun _ _ => ?_); refine tl_q (y_not rfl) rfl ?_; refine tl_q (y_assign rfl) rfl ?_; refine tl_nil ?_; ((refine hK2 ?_; try (clear hK2; clear K2)))
  all_goals refine tc_ret ?_; (repeat (first | refine tk_then_ret ?_))
  all_goals (refine tk_ret rfl rfl (.cons (.tmp rfl) .nil) ?_)
  all_goals (
   exact fun w' hw' => ⟨by simp [outV, List.all_eq_not_any_not], hw'.fr (by simp)⟩)
def uniqS (L : List Int) : List Int := Lib.compact (L.mergeSort fun x y => decide (x ≤ y))
theorem sortedS (L : List Int) : (L.mergeSort fun x y => decide (x ≤ y)).Pairwise (· ≤ ·) := by
  have := List.pairwise_mergeSort (le := fun x y : Int => decide (x ≤ y)) (fun a b c h1 h2 => decide_eq_true (by have := of_decide_eq_true h1; have := of_decide_eq_true h2; omega)) (fun a b => by rw [Bool.or_eq_true, decide_eq_true_eq, decide_eq_true_eq]; omega) L
  exact this.imp fun h => of_decide_eq_true h
theorem compact_sorted {zs : List Int} (h : zs.Pairwise (· ≤ ·)) : (Lib.compact zs).Pairwise (· < ·) ∧ ∀ x, x ∈ Lib.compact zs ↔ x ∈ zs := by
  have hget : ∀ i, i < zs.length → zs.toArray[i]! = zs.getD i 0 := fun i hi => by
    rw [List.getD_eq_getElem?_getD, List.getElem?_eq_getElem hi]
    simp [hi]
  have hle : ∀ i j, i ≤ j → j < zs.length → zs.getD i 0 ≤ zs.getD j 0 := fun i j hij hj => by
    rcases Nat.lt_or_eq_of_le hij with hlt | rfl
    · rw [List.getD_eq_getElem?_getD, List.getD_eq_getElem?_getD, List.getElem?_eq_getElem hj, List.getElem?_eq_getElem (by omega)]
      exact List.pairwise_iff_getElem.1 h i j (by omega) hj hlt
    · exact Int.le_refl _
  have hk : ∀ j, j < zs.length → (Lib.keeps zs.toArray j = true ↔ (j = 0 ∨ zs.getD j 0 ≠ zs.getD (j - 1) 0)) := fun j hj => by
    unfold Lib.keeps
    rw [decide_eq_true_eq, hget j hj, hget (j - 1) (by omega)]
  unfold Lib.compact Lib.compactUpTo
  constructor
  · rw [List.pairwise_map]
    refine (List.pairwise_lt_range.filter _).imp_of_mem fun {i j} hi hj hij => ?_
    have hi1 := List.mem_range.1 (List.mem_filter.1 hi).1
    have hj1 := List.mem_range.1 (List.mem_filter.1 hj).1
    have hj2 := (hk j hj1).1 (List.mem_filter.1 hj).2
    rw [hget i hi1, hget j hj1]
    have h1 := hle i (j - 1) (by omega) (by omega)
    have h2 := hle (j - 1) j (by omega) hj1
    rcases hj2 with e | e
    · omega
    · omega
  · intro x
    constructor
    · intro hx
      obtain ⟨i, hi, rfl⟩ := List.mem_map.1 hx
      have hi1 := List.mem_range.1 (List.mem_filter.1 hi).1
      rw [hget i hi1, List.getD_eq_getElem?_getD, List.getElem?_eq_getElem hi1]
      exact List.getElem_mem hi1
    · intro hx
      obtain ⟨i, hi, rfl⟩ := List.getElem_of_mem hx
      have hex : ∃ j, j < zs.length ∧ zs.getD j 0 = zs[i] := ⟨i, hi, by rw [List.getD_eq_getElem?_getD, List.getElem?_eq_getElem hi]; rfl⟩
      have key : ∀ n j, j ≤ n → j < zs.length → zs.getD j 0 = zs[i] → ∃ k, k < zs.length ∧ zs.getD k 0 = zs[i] ∧ (k = 0 ∨ zs.getD k 0 ≠ zs.getD (k - 1) 0) := by
        intro n
        induction n with
        | zero => intro j hj hjl he; exact ⟨j, hjl, he, .inl (by omega)⟩
        | succ n ih =>
          intro j hj hjl he
          by_cases h0 : j = 0
          · exact ⟨j, hjl, he, .inl h0⟩
          · by_cases h1 : zs.getD j 0 = zs.getD (j - 1) 0
            · exact ih (j - 1) (by omega) (by omega) (by rw [← h1]; exact he)
            · exact ⟨j, hjl, he, .inr h1⟩
      obtain ⟨j, hj, he⟩ := hex
      obtain ⟨k, hk1, hk2, hk3⟩ := key j j (Nat.le_refl _) hj he
      exact List.mem_map.2 ⟨k, List.mem_filter.2 ⟨List.mem_range.2 hk1, (hk k hk1).2 hk3⟩, by rw [hget k hk1, hk2]⟩
theorem uniqS_inc (L : List Int) : (uniqS L).Pairwise (· < ·) := (compact_sorted (sortedS L)).1
theorem uniqS_mem (L : List Int) (x : Int) : x ∈ uniqS L ↔ x ∈ L := by
  unfold uniqS
  rw [(compact_sorted (sortedS L)).2 x]
  exact (List.mergeSort_perm L _).mem_iff
theorem uniqS_eq {L M : List Int} (hM : M.Pairwise (· < ·)) (h : ∀ x, x ∈ M ↔ x ∈ L) : uniqS L = M := inc_ext (uniqS_inc L) hM fun x => by rw [uniqS_mem, h x]
end Go.Sp
/-
  What the statements are made of: two readings, ranges, what is seen.
-/
namespace Go.Sp
open Go Go.Proofs
abbrev v8 (n : Int) : Value := .int .u8 n
end Go.Sp
/-
  The plain laws: what the program computes is what the reference says.
-/
namespace Go.Sp
open Go Go.Proofs
end Go.Sp
/-
  The plain laws: what loads cover, what is seen.
-/
namespace Go.Sp
open Go Go.Proofs
end Go.Sp
/-
  The document's examples hold.
-/
namespace Go.Sp
open Go Go.Proofs
end Go.Sp
/-
  Contracts with known values.
-/
namespace Go.Sp
open Go Go.Proofs
end Go.Sp
/-
  What See returns is what the reference says.
-/
namespace Go.Sp
open Go Go.Proofs
end Go.Sp
/-
  What See and Mean return.
-/
namespace Go.Sp
open Go Go.Proofs
end Go.Sp
/-
  Trials, plainly: judging; what more tests, wider liquids and other tolerances do.
-/
namespace Go.Sp
open Go Go.Proofs
def possL (t : Tr) (i : Nat) : List Int := ([-3, -2, -1, 0, 1, 2, 3] : List Int).filter fun x => (truthsL t []).any fun e => decide (get3 e i = x)
def possLL (t : Tr) (n : Nat) : List (List Int) := (List.range n).map (possL t)
theorem possLL_succ (t : Tr) (n : Nat) : possLL t (n + 1) = possLL t n ++ [possL t n] := by simp [possLL, List.range_succ]
theorem possLL_len (t : Tr) (n : Nat) : (possLL t n).length = n := by simp [possLL]
theorem mem_truths {t : Tr} {out : List Int} {e : Int × Int × Int} : e ∈ truthsL t out ↔ e ∈ everyL t ∧ denOk t e out = true := List.mem_filter
theorem truths_bd {t : Tr} (hv : VT t) {out : List Int} {e : Int × Int × Int} (h : e ∈ truthsL t out) : ErB e := every_bd hv (mem_truths.1 h).1
theorem poss_mem {t : Tr} (hv : VT t) {i : Nat} {x : Int} : x ∈ possL t i ↔ ∃ e ∈ truthsL t [], get3 e i = x := by
  unfold possL
  rw [List.mem_filter, List.any_eq_true]
  constructor
  · rintro ⟨_, e, he, h⟩
    exact ⟨e, he, of_decide_eq_true h⟩
  · rintro ⟨e, he, rfl⟩
    have := (truths_bd hv he).get i
    refine ⟨?_, e, he, decide_eq_true rfl⟩
    simp only [List.mem_cons, List.not_mem_nil, or_false]
    omega
def goodB (t : Tr) (tol : Int) (e : Int × Int × Int) : Bool := (List.range t.parts.length).all fun i => decide (get3 e i ≤ tol) && decide (-get3 e i ≤ tol)
def judgeJ (t : Tr) (tol : Int) : Int := if (truthsL t []).all (goodB t tol) = true then 1 else if (truthsL t []).any (goodB t tol) = false then 2 else 3
def judgeE (t : Tr) (tol : Int) : Int × Int := if ¬ chkT t = 0 then (0, chkT t) else if tol < 0 then (0, 2) else if ¬ askedE t = 0 then (0, askedE t) else (judgeJ t tol, 0)
theorem pass_iffT {t : Tr} {e : Int × Int × Int} {i : Nat} {out : List Int} {d : Int} {n : Nat} : passN t e i out d n = true ↔ ∀ j : Nat, j < n → ¬ (t.tests.getD j (0, 0, 0)).1 = i ∨ (j : Int) ∈ out ∨ rightF t e (t.tests.getD j (0, 0, 0)) d = true := by
  unfold passN passF
  simp only [List.all_eq_true, List.mem_range, Bool.or_eq_true, decide_eq_true_eq]
theorem dense_memT {t : Tr} {e : Int × Int × Int} {i : Nat} {out : List Int} {d : Int} : d ∈ denseL t e i out ↔ ((lqAt t i).1 ≤ d ∧ d ≤ (lqAt t i).2) ∧ passN t e i out d t.tests.length = true := by
  unfold denseL denseN lqC
  rw [List.mem_map]
  constructor
  · rintro ⟨j, hj, rfl⟩
    rw [List.mem_filter, List.mem_range] at hj
    exact ⟨by omega, hj.2⟩
  · rintro ⟨h1, h2⟩
    refine ⟨(d - (lqAt t i).1).toNat, ?_, by omega⟩
    rw [List.mem_filter, List.mem_range]
    refine ⟨by omega, ?_⟩
    rw [show (lqAt t i).1 + ((d - (lqAt t i).1).toNat : Int) = d from by omega]
    exact h2
theorem denOk_iff {t : Tr} {e : Int × Int × Int} {out : List Int} : denOk t e out = true ↔ ∀ i : Nat, i < t.liquids.length → ∃ d, d ∈ denseL t e i out := by
  constructor
  · intro h i hi
    rcases Nat.eq_zero_or_pos (denseL t e i out).length with g | g
    · rw [denOk_no hi g] at h; cases h
    · exact List.exists_mem_of_length_pos g
  · intro h
    exact denOk_yes fun i hi => by
      obtain ⟨d, hd⟩ := h i hi
      exact List.length_pos_of_mem hd
end Go.Sp
/-
  Trials, plainly: wider liquids, and one more test.
-/
namespace Go.Sp
open Go Go.Proofs
theorem rightF_eq {t u : Tr} (hs : u.s = t.s) (hp : u.parts = t.parts) (e x : Int × Int × Int) (d : Int) : rightF u e x d = rightF t e x d := by
  have hc : ∀ k y : Int, canF u e k d y = canF t e k d y := fun k y => by unfold canF ofF; rw [hs, hp]
  have hsh : ∀ k : Int, shownL u e k d = shownL t e k d := fun k => by
    have : ∀ n, shownN u e k d n = shownN t e k d n := fun n => by
      unfold shownN
      congr 1
      exact List.filter_congr fun x _ => hc k x
    unfold shownL
    rw [this, hs]
  unfold rightF
  rw [hsh, hc]
theorem every_eq {t u : Tr} (hw : u.worst = t.worst) (hp : u.parts = t.parts) : everyL u = everyL t := by unfold everyL; rw [hw, hp]
/-- What fits in one trial fits in the other, with other tests left out. -/
theorem truths_sub {t u : Tr} (hs : u.s = t.s) (hp : u.parts = t.parts) (hw : u.worst = t.worst) {out out2 : List Int}
    (hd : ∀ e i, i < u.liquids.length → (∃ d, d ∈ denseL t e i out) → ∃ d, d ∈ denseL u e i out2) (hl : u.liquids.length = t.liquids.length) {e : Int × Int × Int} (h : e ∈ truthsL t out) : e ∈ truthsL u out2 := by
  rw [mem_truths] at h ⊢
  rw [every_eq hw hp]
  refine ⟨h.1, denOk_iff.2 fun i hi => hd e i hi ?_⟩
  exact denOk_iff.1 h.2 i (by omega)
/-- One more test. -/
structure Mor (t u : Tr) (x : Int × Int × Int) : Prop where
  s : u.s = t.s
  p : u.parts = t.parts
  w : u.worst = t.worst
  ts : u.tests = t.tests ++ [x]
  l : u.liquids = t.liquids
theorem Mor.old {t u : Tr} {x : Int × Int × Int} (h : Mor t u x) {j : Nat} (hj : j < t.tests.length) : u.tests.getD j (0, 0, 0) = t.tests.getD j (0, 0, 0) := by
  rw [h.ts, List.getD_eq_getElem?_getD, List.getElem?_append_left hj, ← List.getD_eq_getElem?_getD]
theorem Mor.len {t u : Tr} {x : Int × Int × Int} (h : Mor t u x) : u.tests.length = t.tests.length + 1 := by rw [h.ts]; simp
theorem Mor.lqAt {t u : Tr} {x : Int × Int × Int} (h : Mor t u x) (i : Nat) : lqAt u i = lqAt t i := by unfold Go.Sp.lqAt; rw [h.l]
theorem Mor.more {t u : Tr} {x : Int × Int × Int} (h : Mor t u x) {out : List Int} {e : Int × Int × Int} (he : e ∈ truthsL t out) : e ∈ truthsL u (out ++ [(t.tests.length : Int)]) :=
  truths_sub h.s h.p h.w (fun e i hi ⟨d, hd⟩ => ⟨d, by
    rw [dense_memT, pass_iffT] at hd ⊢
    rw [h.lqAt]
    refine ⟨hd.1, fun j hj => ?_⟩
    rw [h.len] at hj
    rcases Nat.lt_succ_iff_lt_or_eq.1 hj with g | rfl
    · have := hd.2 j g
      rw [h.old g, rightF_eq h.s h.p]
      exact this.imp id (Or.imp (fun q => List.mem_append_left _ q) id)
    · exact .inr (.inl (by simp))⟩) (by rw [h.l]) he
theorem poss_ne {t : Tr} (hv : VT t) (ha : askedE t = 0) (i : Nat) : 0 < (possL t i).length := by
  obtain ⟨e, he⟩ := List.exists_mem_of_length_pos (askedE_0 ha).2
  exact List.length_pos_of_mem ((poss_mem hv).2 ⟨e, he, rfl⟩)
end Go.Sp
