
/-
  Package sample: Holders, Openers, Verdicts, Alike, Least.
-/
import Derived.Test.YtgfpkpiigkcndaaGreatM2
import Derived.Ground.NamesProg
import Derived.Ground.Names2Prog
import Derived.Shelf.Sort.Plain
import Derived.Test.YtgfpkpiigkcndaaGreatProg
import Derived.Shelf.Slices.In.SortNone
set_option linter.unusedVariables false
set_option linter.unusedSimpArgs false
set_option linter.deprecated false
namespace Go.Sp
open Go Go.Proofs
theorem CA.sub {f : Nat → Option Value} {o n : Nat} {vs : List Value} (h : CA f o n vs) (hl : vs.length = n) (i m : Nat) (him : i + m ≤ n) : CA f (o + i) m ((vs.drop i).take m) :=
  CA.ofGet _ _ _ (by simp; omega) fun j hj => by
    have hlt : i + j < vs.length := by omega
    have := h.get (i + j) vs[i + j] (List.getElem?_eq_getElem hlt)
    rw [Nat.add_assoc, this, List.getElem?_take_of_lt hj, List.getElem?_drop, List.getElem?_eq_getElem hlt]
theorem knL_hol {q : Kwn} (hq : KnOk q) {i m : Nat} (h : i + m ≤ 40) : ((knL q).drop i).take m = ((q.hol.drop i).take m).map Value.bool := by
  unfold knL
  rw [List.drop_append_of_le_length (by simp [hq.h]; omega), List.take_append_of_le_length (by simp [hq.h]; omega), List.map_take, List.map_drop]
theorem knL_opn {q : Kwn} (hq : KnOk q) : ((knL q).drop 40).take 4 = q.opn.map Value.bool := by
  unfold knL
  rw [List.drop_left' (by simp [hq.h]), List.take_left' (by simp [hq.o])]
def pplN (l : List Bool) (n : Nat) : List Int := ((List.range n).filter fun i => l.getD i false).map fun (i : Nat) => (i : Int)
theorem pplN_yes {l : List Bool} {n : Nat} (h : l.getD n false = true) : pplN l (n + 1) = pplN l n ++ [(n : Int)] := by
  unfold pplN
  rw [List.range_succ, List.filter_append, List.filter_cons, if_pos h]; simp
theorem pplN_no {l : List Bool} {n : Nat} (h : l.getD n false = false) : pplN l (n + 1) = pplN l n := by
  unfold pplN
  rw [List.range_succ, List.filter_append, List.filter_cons, if_neg (by rw [h]; exact Bool.false_ne_true)]; simp
theorem pplN_len (l : List Bool) (n : Nat) : (pplN l n).length ≤ n := by
  unfold pplN
  rw [List.length_map]
  exact Nat.le_trans (List.length_filter_le _ _) (by simp)
abbrev pplL (s : Smp) (l : List Bool) : List Int := pplN l s.P.toNat
theorem people_c (s : Smp) (hp : s.P ≤ 4) (l : List Bool) (hl : l.length = 4) (tv pv gv : Value) (w : World) :
    CnX Tryz.prog 57 #[smV s tv pv gv, .agg (bsV l)] w [] (fun y : Option Addr × Nat => slV (pplL s l).length y) (fun y w' => RdS 1 inE w' (slV (pplL s l).length y) (pplL s l)) := by
  refine cnx0 (vs := [_, _]) Tryz.func57 rfl rfl ?_
  all_goals refine tc_seq fun K1 hK1 => ?_; refine tc_region ?_; refine tl_e (e_box rfl rfl rfl) rfl (fun b2 _ => ?_); refine tl_e (e_box rfl rfl rfl) rfl (fun b3 _ => ?_); refine tl_q (y_assign rfl) rfl ?_; refine tl_nil ?_; ((refine hK1 ?_; try (clear hK1; clear K1)))
  all_goals refine tc_seq fun K2 hK2 => ?_; refine tc_seq fun K3 hK3 => ?_; refine tc_region ?_; refine tl_q (y_field rfl) rfl ?_; refine tl_q (y_load1 rfl (by repeat constructor) (by rfl)) rfl ?_; refine tl_q (y_move rfl) rfl ?_; refine tl_nil ?_; ((refine hK3 ?_; try (clear hK3; clear K3)))
  all_goals refine tc_block ?_
  all_goals (
   refine tc_loop (fun p : Nat × OwnB => p.1 ≤ s.P.toNat ∧ okE 1 (pplN l p.1) p.2) (fun p => [(3, ptr b3), (4, ouV (pplN l p.1).length p.2), (7, vi s.P), (8, vi p.1)]) (fun _ => [(w, [])]) (fun p => (b3, .cells (bsV l) 41 (0, 0)) :: slE 3 inE (pplN l p.1) p.2) (fun p => s.P.toNat - p.1) ?_ ?_
   · exact tk_start (0, none) ⟨Nat.zero_le _, rfl⟩ (.cons rfl (.cons rfl (.cons rfl (.cons rfl .nil)))) (fun _ h => by rw [slE_none]; exact h.subl SB.s SB.s)
   · rintro ⟨k, oo⟩ ⟨hk, hok⟩
     dsimp only at hk hok ⊢
     have hkl := pplN_len l k
     all_goals refine tc_seq fun K4 hK4 => ?_; refine tc_region ?_; refine tl_q (y_lss rfl rfl) rfl ?_; refine tl_nil ?_; ((refine hK4 ?_; try (clear hK4; clear K4)))
     all_goals refine tc_seq fun K5 hK5 => ?_
     all_goals (
      refine tc_cond rfl (fun hc => ?_) (fun hc => ?_)
      · try simp only [qn1, qn2, qn3, qn4, qn5, qn6, qn7, qn8] at hc
        all_goals refine tc_skip ?_; ((refine hK5 ?_; try (clear hK5; clear K5)))
        all_goals refine tc_seq fun K6 hK6 => ?_; refine tc_block ?_; refine tc_seq fun K7 hK7 => ?_; refine tc_region ?_; refine tl_q (y_move rfl) rfl ?_; refine tl_q (y_assign rfl) rfl ?_; refine tl_nil ?_; ((refine hK7 ?_; try (clear hK7; clear K7)))
        all_goals refine tc_seq fun K8 hK8 => ?_; refine tc_region ?_; refine tl_q (y_move rfl) rfl ?_; refine tl_q (y_indexA rfl rfl (by omega)) rfl ?_; ((refine tl_q (y_load1 (v := .bool (l.getD k false)) rfl (by repeat constructor) (by rw [show 0 + Int.toNat (k : Int) * 1 = k from by omega]; exact cellAt_bs (by omega))) rfl ?_))
        all_goals refine tl_nil ?_; ((refine hK8 ?_; try (clear hK8; clear K8)))
        all_goals (
         refine tc_cond rfl (fun hc => ?_) (fun hc => ?_)
         · all_goals (skip)
           all_goals refine tc_region ?_; refine tl_q (y_move rfl) rfl ?_; refine tl_q (y_move rfl) rfl ?_; (refine tl_e (e_bslice rfl (by (repeat (first | exact .nil | apply PV.one rfl rfl)); done) rfl rfl) rfl (fun _ _ => ?_))
           all_goals (refine tl_e (e_appendE (enc := inE) (xs := pplN l k) (ys := [(k : Int)]) inE_len inE_one rfl rfl rfl hok (fun _ => by repeat constructor) (fun w' hw' => RdS.own0 inE_len hw' (by repeat constructor)) (by simp only [List.length_cons, List.length_nil]; omega) rfl) rfl (fun oo' hok' => ?_))
           all_goals refine tl_q (y_assign rfl) rfl ?_; refine tl_nil ?_; ((refine hK6 ?_; try (clear hK6; clear K6)))
           all_goals refine tc_region ?_; refine tl_q (y_add rfl rfl (by omega)) rfl ?_; refine tl_q (y_move rfl) rfl ?_; refine tl_nil ?_
           all_goals (
            first
            | (have hs := pplN_yes hc
               exact tk_round (k + 1, oo') ⟨by dsimp only; omega, by dsimp only; rw [hs]; exact hok'⟩ (by dsimp only; omega) (.cons rfl (.cons (by dsimp only; rw [hs]; rfl) (.cons rfl (.cons rfl .nil)))) (fun _ h => by dsimp only; rw [hs]; exact h.subl SB.s SB.s))
            | (have hs := pplN_no hc
               exact tk_round (k + 1, oo) ⟨by dsimp only; omega, by dsimp only; rw [hs]; exact hok⟩ (by dsimp only; omega) (.cons rfl (.cons (by dsimp only; rw [hs]; rfl) (.cons rfl (.cons rfl .nil)))) (fun _ h => by dsimp only; rw [hs]; exact h.subl SB.s SB.s)))
         · all_goals (skip)
           all_goals refine tc_skip ?_; ((refine hK6 ?_; try (clear hK6; clear K6)))
           all_goals refine tc_region ?_; refine tl_q (y_add rfl rfl (by omega)) rfl ?_; refine tl_q (y_move rfl) rfl ?_; refine tl_nil ?_
           all_goals (
            first
            | (have hs := pplN_yes hc
               exact tk_round (k + 1, oo') ⟨by dsimp only; omega, by dsimp only; rw [hs]; exact hok'⟩ (by dsimp only; omega) (.cons rfl (.cons (by dsimp only; rw [hs]; rfl) (.cons rfl (.cons rfl .nil)))) (fun _ h => by dsimp only; rw [hs]; exact h.subl SB.s SB.s))
            | (have hs := pplN_no hc
               exact tk_round (k + 1, oo) ⟨by dsimp only; omega, by dsimp only; rw [hs]; exact hok⟩ (by dsimp only; omega) (.cons rfl (.cons (by dsimp only; rw [hs]; rfl) (.cons rfl (.cons rfl .nil)))) (fun _ h => by dsimp only; rw [hs]; exact h.subl SB.s SB.s))))
      · try simp only [qn1, qn2, qn3, qn4, qn5, qn6, qn7, qn8] at hc
        all_goals refine tc_exit ?_; ((refine hK2 ?_; try (clear hK2; clear K2)))
        all_goals refine tc_seq fun K9 hK9 => ?_; refine tc_region ?_; refine tl_q (y_move rfl) rfl ?_; refine tl_q (y_assign rfl) rfl ?_; refine tl_nil ?_; ((refine hK9 ?_; try (clear hK9; clear K9)))
        all_goals refine tc_ret ?_; (repeat (first | refine tk_then_ret ?_))
        all_goals (refine tk_ret rfl rfl (.cons (.tmp rfl) .nil) ?_)
        all_goals (
         obtain rfl : k = s.P.toNat := by omega
         exact fun w' hw' => ⟨ouA oo, rfl, hw'.fr (w0 := w) (S := []) MI.m, RdS.ofO inE_len hok hw' (by repeat constructor)⟩)))
theorem holders1_c (s : Smp) (hb : 1 ≤ s.B ∧ s.B ≤ 3) (b h : Int) (tv pv gv : Value) (b0 b1 b2 : Nat) (w : World) (h0 : w.heap[b0]? = some (smO s tv pv gv)) (h1 : w.heap[b1]? = some (.cells #[vi b] 3 (0, 0))) (h2 : w.heap[b2]? = some (.cells #[vi h] 3 (0, 0))) :
    CnV Tryz.prog 54 #[ptr b0, ptr b1, ptr b2] w (.bool (decide ((0 ≤ b ∧ b ≤ s.B - 1) ∧ (0 ≤ h ∧ h ≤ s.L)))) := by
  refine cnv (vs := [_, _, _]) Tryz.func54 rfl rfl ?_
  all_goals refine tc_seq fun K1 hK1 => ?_; refine tc_region ?_; refine tl_q (y_assign rfl) rfl ?_; refine tl_nil ?_; ((refine hK1 ?_; try (clear hK1; clear K1)))
  all_goals refine tc_seq fun K2 hK2 => ?_; refine tc_region ?_; refine tl_q (y_loadNo (n := 7) (vs := [vi s.B, vi s.P, vi s.L, vi s.F, tv, pv, gv]) rfl (fun w' hw' => (CA_whole (c := #[vi s.B, vi s.P, vi s.L, vi s.F, tv, pv, gv]) (t := 36) (f := (0, 0)) rfl).cells ((hw'.fr (w0 := w) (S := []) MI.m).keep h0))) rfl ?_; refine tl_q (y_load1o (v := vi b) rfl (fun w' hw' => cell0 ((hw'.fr (w0 := w) (S := []) MI.m).keep h1) rfl)) rfl ?_; refine tl_e (e_callV rfl (.cons rfl (.cons rfl .nil)) (fun w' _ => mbottle_c s hb _ _ _ _ w')) rfl (fun _ _ => ?_); refine tl_q (y_move rfl) rfl ?_; ((refine tl_gs rfl rfl (fun hc => ?_) (fun hc => ?_) <;> (try simp only [qn1, qn2, qn3, qn4, qn5, qn6, qn7, qn8] at hc) <;> (first | refine tl_sk rfl rfl rfl rfl ?_ | refine tl_qg rfl rfl (y_loadNo (n := 7) (vs := [vi s.B, vi s.P, vi s.L, vi s.F, tv, pv, gv]) rfl (fun w' hw' => (CA_whole (c := #[vi s.B, vi s.P, vi s.L, vi s.F, tv, pv, gv]) (t := 36) (f := (0, 0)) rfl).cells ((hw'.fr (w0 := w) (S := []) MI.m).keep h0))) rfl ?_)))
  all_goals (first | refine tl_sk rfl rfl rfl rfl ?_ | refine tl_qg rfl rfl (y_load1o (v := vi h) rfl (fun w' hw' => cell0 ((hw'.fr (w0 := w) (S := []) MI.m).keep h2) rfl)) rfl ?_); (first | refine tl_sk rfl rfl rfl rfl ?_ | refine tl_eg rfl rfl rfl (e_callV rfl (.cons rfl (.cons rfl .nil)) (fun w' _ => mhour_c s _ _ _ _ w')) (fun _ _ => ?_)); (first | refine tl_q (y_pick_t rfl rfl) rfl ?_ | refine tl_q (y_pick_f rfl rfl) rfl ?_); refine tl_q (y_assign rfl) rfl ?_; refine tl_nil ?_; ((refine hK2 ?_; try (clear hK2; clear K2)))
  all_goals refine tc_ret ?_; (repeat (first | refine tk_then_ret ?_))
  all_goals (refine tk_ret rfl rfl (.cons (.tmp rfl) .nil) ?_)
  all_goals (
   refine fun w' hw' => ⟨congrArg (fun b => Ending.returned (Value.bool b)) ?_, hw'.fr (by simp)⟩
   first
   | exact (decide_eq_true (by omega)).symm
   | exact (decide_eq_false (by omega)).symm
   | exact decide_eq_decide.2 (by omega))
def hdE (s : Smp) (b h : Int) : Int := sureE s (decide ((0 ≤ b ∧ b ≤ s.B - 1) ∧ (0 ≤ h ∧ h ≤ s.L)))
def hdM (s : Smp) (b h : Int) : List Bool := ((askF s b).hol.drop (h.toNat * 4)).take 4
def hdL (s : Smp) (b h : Int) : List Int := if hdE s b h = 0 then pplL s (hdM s b h) else []
theorem sureE_0 {s : Smp} {fb : Bool} (h : sureE s fb = 0) : VSm s ∧ fb = true ∧ consF s = true := by
  unfold sureE at h
  split at h
  · exact absurd h (by assumption)
  · rename_i h1
    split at h
    · cases h
    · rename_i h2
      split at h
      · cases h
      · rename_i h3
        exact ⟨chkS_0.1 (by omega), by simpa using h2, by simpa using h3⟩
theorem hdM_len {s : Smp} {b h : Int} (h9 : h ≤ 9) (h0 : 0 ≤ h) : (hdM s b h).length = 4 := by
  unfold hdM
  have hq : (askF s b).hol.length = 40 := (foldl_ok (s := s) (b := b) (chainsL s b)).h
  rw [List.length_take, List.length_drop, hq]
  omega
theorem kns_at {s : Smp} {n : Nat} {b : Int} {w : World} {ad : Option Addr} {cap bY oY : Nat} (hyr : RdS 46 kwE w (.slice ad (knsN s n).length cap) (knsN s n)) (had : ad = some ⟨bY, oY, none⟩) (hb : 0 ≤ b ∧ b < n) : CA (fun k => w.cell? ⟨bY, k, none⟩) (oY + b.toNat * 46) 46 (knL (askF s b)) := by
  have hkl := knsN_len s n
  have h1 := hyr.at had kwE_len kw0 (i := b.toNat) (by omega)
  have hkg := knsN_get (s := s) (n := n) (i := b.toNat) (by omega)
  rw [show ((b.toNat : Nat) : Int) = b from by omega] at hkg
  rw [hkg] at h1
  exact h1
theorem hol_at {s : Smp} {n : Nat} {b h : Int} {w : World} {ad : Option Addr} {cap bY oY : Nat} (hyr : RdS 46 kwE w (.slice ad (knsN s n).length cap) (knsN s n)) (had : ad = some ⟨bY, oY, none⟩) (hb : 0 ≤ b ∧ b < n) (h0 : 0 ≤ h ∧ h ≤ 9) : CA (fun k => w.cell? ⟨bY, k, none⟩) (oY + b.toNat * 46 + 0 + h.toNat * 4) 4 ((hdM s b h).map Value.bool) := by
  have h2 := (kns_at hyr had hb).sub (knL_len (foldl_ok _)) (h.toNat * 4) 4 (by omega)
  rw [knL_hol (q := askF s b) (foldl_ok _) (by omega)] at h2
  exact h2
theorem opn_at {s : Smp} {n : Nat} {b : Int} {w : World} {ad : Option Addr} {cap bY oY : Nat} (hyr : RdS 46 kwE w (.slice ad (knsN s n).length cap) (knsN s n)) (had : ad = some ⟨bY, oY, none⟩) (hb : 0 ≤ b ∧ b < n) : CA (fun k => w.cell? ⟨bY, k, none⟩) (oY + b.toNat * 46 + 40) 4 ((askF s b).opn.map Value.bool) := by
  have h2 := (kns_at hyr had hb).sub (knL_len (foldl_ok _)) 40 4 (by omega)
  rw [knL_opn (q := askF s b) (foldl_ok _)] at h2
  exact h2
set_option maxHeartbeats 1000000 in
theorem holders_c (s : Smp) (hf : Few s) (b h : Int) (tv pv gv : Value) (w : World) (hr : RdSm w s tv pv gv) :
    CnX Tryz.prog 17 #[smV s tv pv gv, vi b, vi h] w [] (fun y : Option Addr × Nat => .tuple #[slV (hdL s b h).length y, vi (hdE s b h)]) (fun y w' => RdS 1 inE w' (slV (hdL s b h).length y) (hdL s b h)) := by
  have hr0 := hr
  refine cnx0 (vs := [_, _, _]) Tryz.func17 rfl rfl ?_
  all_goals refine tc_seq fun K1 hK1 => ?_; refine tc_region ?_; refine tl_e (e_box rfl rfl rfl) rfl (fun b3 _ => ?_); refine tl_e (e_box rfl rfl rfl) rfl (fun b4 _ => ?_); refine tl_e (e_box rfl rfl rfl) rfl (fun b5 _ => ?_); refine tl_q (y_assign rfl) rfl ?_; refine tl_q (y_assign rfl) rfl ?_; refine tl_nil ?_; ((refine hK1 ?_; try (clear hK1; clear K1)))
  all_goals refine tc_seq fun K2 hK2 => ?_; refine tc_region ?_; refine tl_q (y_loadW rfl (by repeat constructor) (by rfl)) rfl ?_; refine tl_q (y_fn .nil (.cons rfl (.cons rfl (.cons rfl .nil)))) rfl ?_; refine tl_e (e_callX rfl (.cons rfl (.cons rfl .nil)) (fun w' hw' => sure_c s hf tv pv gv 54 #[] #[ptr b3, ptr b4, ptr b5] (decide ((0 ≤ b ∧ b ≤ s.B - 1) ∧ (0 ≤ h ∧ h ≤ s.L))) w' (hr0.fr (hw'.fr (w0 := w) (S := []) MI.m)) (fun hv w2 f => by simpa using holders1_c s ⟨hv.b1, hv.b3⟩ b h tv pv gv b3 b4 b5 w2 (f.keep (hw'.heap _ (HM.mem (b := b3) (by repeat constructor)))) (f.keep (hw'.heap _ (HM.mem (b := b4) (by repeat constructor)))) (f.keep (hw'.heap _ (HM.mem (b := b5) (by repeat constructor))))))) rfl (fun y hy => ?_); refine tl_q (y_move rfl) rfl ?_; refine tl_q (y_extract rfl rfl) rfl ?_; refine tl_q (y_extract rfl rfl) rfl ?_; refine tl_q (y_assign rfl) rfl ?_; refine tl_q (y_assign rfl) rfl ?_; refine tl_nil ?_; ((refine hK2 ?_; try (clear hK2; clear K2)))
  all_goals refine tc_seq fun K3 hK3 => ?_; refine tc_seq fun K4 hK4 => ?_; refine tc_region ?_; refine tl_q (y_move rfl) rfl ?_; refine tl_q (y_neq rfl rfl) rfl ?_; refine tl_nil ?_; ((refine hK4 ?_; try (clear hK4; clear K4)))
  all_goals (
   refine tc_cond rfl (fun hc => ?_) (fun hc => ?_)
   · try simp only [qn1, qn2, qn3, qn4, qn5, qn6, qn7, qn8] at hc
     all_goals refine tc_seq fun K5 hK5 => ?_; refine tc_region ?_; refine tl_q (y_move rfl) rfl ?_; refine tl_q (y_assign rfl) rfl ?_; refine tl_q (y_assign rfl) rfl ?_; refine tl_nil ?_; ((refine hK5 ?_; try (clear hK5; clear K5)))
     all_goals refine tc_ret ?_; (repeat (refine tk_then_ret ?_))
     all_goals (refine tk_ret rfl rfl (.cons (.tmp rfl) (.cons (.tmp rfl) .nil)) ?_)
     all_goals (
      first
      | (have hE : ¬ hdE s b h = 0 := by assumption
         have hL : hdL s b h = [] := if_neg hE
         rw [hL]
         exact fun w' hw' => ⟨(none, 0), rfl, hw'.fr (w0 := w) (S := []) MI.m, RdS.nil _ _ _ _⟩)
      | (have hL : hdL s b h = pplL s (hdM s b h) := if_pos he
         rw [hL, he]
         exact fun w' hw' => ⟨z.1, rfl, hw'.fr (w0 := w) (S := []) MI.m, hz.1.fr (hw'.calm hz.2 MI.m SB.s)⟩))
   · try simp only [qn1, qn2, qn3, qn4, qn5, qn6, qn7, qn8] at hc
     all_goals refine tc_skip ?_; ((refine hK3 ?_; try (clear hK3; clear K3)))
     all_goals refine tc_seq fun K6 hK6 => ?_; ((have he : hdE s b h = 0 := by unfold hdE; omega))
     all_goals ((obtain ⟨hv, hbh, hcs⟩ := sureE_0 he; rw [decide_eq_true_eq] at hbh; have hb3' := hv.b3; have hl9 := hv.l9))
     all_goals ((obtain ⟨hyr, hyw⟩ := hy; have hse : sureE s (decide ((0 ≤ b ∧ b ≤ s.B - 1) ∧ (0 ≤ h ∧ h ≤ s.L))) = 0 := he; rw [hse, sureL_0] at hyr; rw [hse, sureL_0]))
     all_goals ((have hkl := knsN_len s s.B.toNat; obtain ⟨bY, oY, hady⟩ := hyr.adr (by omega)))
     all_goals refine tc_draw (by kernel_rfl) ?_; refine tx_q 0 rfl (by kernel_rfl) (y_loadW rfl (by repeat constructor) (by rfl)) rfl (fun _ _ _ h => h) (fun _ h => h) ?_; refine tx_p 1 rfl (by kernel_rfl) (y_move rfl) rfl (fun _ _ _ h => h) (fun _ h => h) ?_; refine tx_q 2 rfl (by kernel_rfl) (y_load1 rfl (by repeat constructor) (by rfl)) rfl (fun _ _ _ h => h) (fun _ h => h) ?_; refine tx_q 3 rfl (by kernel_rfl) (y_load1 rfl (by repeat constructor) (by rfl)) rfl (fun _ _ _ h => h) (fun _ h => h) ?_; refine tx_p 4 rfl (by kernel_rfl) (y_index rfl rfl (by omega) hady) rfl (fun _ _ _ h => h) (fun _ h => h) ?_; refine tx_p 5 rfl (by kernel_rfl) (y_field rfl) rfl (fun _ _ _ h => h) (fun _ h => h) ?_; refine tx_p 6 rfl (by kernel_rfl) (y_indexA rfl rfl (by omega)) rfl (fun _ _ _ h => h) (fun _ h => h) ?_; refine tx_q 7 rfl (by kernel_rfl) (y_loadNo (n := 4) (vs := (hdM s b h).map Value.bool) rfl (fun w' hw' => hol_at (hyr.fr (hw'.calm hyw MI.m SB.s)) hady (by omega) (by omega))) rfl (fun _ _ _ h => h) (fun _ h => h) ?_; refine tx_e 8 rfl (by kernel_rfl) rfl (e_callX rfl (.cons rfl (.cons rfl .nil)) (fun w' hw' => people_c s hv.p4 (hdM s b h) (hdM_len (by omega) (by omega)) tv pv gv w')) (.inr fun _ _ h => h.sub (fun _ h => List.mem_cons_of_mem _ h) (List.Sublist.refl _)) (fun z hz => ?_); refine tx_p 9 rfl (by kernel_rfl) (y_assign rfl) rfl (fun _ _ _ h => h) (fun _ h => h) ?_; refine tx_p 10 rfl (by kernel_rfl) (y_assign rfl) rfl (fun _ _ _ h => h) (fun _ h => h) ?_; refine tx_done (by kernel_rfl) ?_; ((refine hK6 ?_; try (clear hK6; clear K6)))
     all_goals refine tc_ret ?_; (repeat (first | refine tk_then_ret ?_))
     all_goals (refine tk_ret rfl rfl (.cons (.tmp rfl) (.cons (.tmp rfl) .nil)) ?_)
     all_goals (
      first
      | (have hE : ¬ hdE s b h = 0 := by assumption
         have hL : hdL s b h = [] := if_neg hE
         rw [hL]
         exact fun w' hw' => ⟨(none, 0), rfl, hw'.fr (w0 := w) (S := []) MI.m, RdS.nil _ _ _ _⟩)
      | (have hL : hdL s b h = pplL s (hdM s b h) := if_pos he
         rw [hL, he]
         exact fun w' hw' => ⟨z.1, rfl, hw'.fr (w0 := w) (S := []) MI.m, hz.1.fr (hw'.calm hz.2 MI.m SB.s)⟩)))
theorem openers1_c (s : Smp) (hb : 1 ≤ s.B ∧ s.B ≤ 3) (b : Int) (tv pv gv : Value) (b0 b1 : Nat) (w : World) (h0 : w.heap[b0]? = some (smO s tv pv gv)) (h1 : w.heap[b1]? = some (.cells #[vi b] 3 (0, 0))) :
    CnV Tryz.prog 58 #[ptr b0, ptr b1] w (.bool (decide (0 ≤ b ∧ b ≤ s.B - 1))) := by
  refine cnv (vs := [_, _]) Tryz.func58 rfl rfl ?_
  all_goals refine tc_seq fun K1 hK1 => ?_; refine tc_region ?_; refine tl_q (y_assign rfl) rfl ?_; refine tl_nil ?_; ((refine hK1 ?_; try (clear hK1; clear K1)))
  all_goals refine tc_seq fun K2 hK2 => ?_; refine tc_region ?_; refine tl_q (y_loadNo (n := 7) (vs := [vi s.B, vi s.P, vi s.L, vi s.F, tv, pv, gv]) rfl (fun w' hw' => (CA_whole (c := #[vi s.B, vi s.P, vi s.L, vi s.F, tv, pv, gv]) (t := 36) (f := (0, 0)) rfl).cells ((hw'.fr (w0 := w) (S := []) MI.m).keep h0))) rfl ?_; refine tl_q (y_load1o (v := vi b) rfl (fun w' hw' => cell0 ((hw'.fr (w0 := w) (S := []) MI.m).keep h1) rfl)) rfl ?_; refine tl_e (e_callV rfl (.cons rfl (.cons rfl .nil)) (fun w' _ => mbottle_c s hb _ _ _ _ w')) rfl (fun _ _ => ?_); refine tl_q (y_assign rfl) rfl ?_; refine tl_nil ?_; ((refine hK2 ?_; try (clear hK2; clear K2)))
  all_goals refine tc_ret ?_; (repeat (first | refine tk_then_ret ?_))
  all_goals (refine tk_ret rfl rfl (.cons (.tmp rfl) .nil) ?_)
  all_goals (
   exact fun w' hw' => ⟨rfl, hw'.fr (by simp)⟩)
def opE (s : Smp) (b : Int) : Int := sureE s (decide (0 ≤ b ∧ b ≤ s.B - 1))
def opL (s : Smp) (b : Int) : List Int := if opE s b = 0 then pplL s (askF s b).opn else []
set_option maxHeartbeats 1000000 in
theorem openers_c (s : Smp) (hf : Few s) (b : Int) (tv pv gv : Value) (w : World) (hr : RdSm w s tv pv gv) :
    CnX Tryz.prog 19 #[smV s tv pv gv, vi b] w [] (fun y : Option Addr × Nat => .tuple #[slV (opL s b).length y, vi (opE s b)]) (fun y w' => RdS 1 inE w' (slV (opL s b).length y) (opL s b)) := by
  have hr0 := hr
  refine cnx0 (vs := [_, _]) Tryz.func19 rfl rfl ?_
  all_goals refine tc_seq fun K1 hK1 => ?_; refine tc_region ?_; refine tl_e (e_box rfl rfl rfl) rfl (fun b2 _ => ?_); refine tl_e (e_box rfl rfl rfl) rfl (fun b3 _ => ?_); refine tl_q (y_assign rfl) rfl ?_; refine tl_q (y_assign rfl) rfl ?_; refine tl_nil ?_; ((refine hK1 ?_; try (clear hK1; clear K1)))
  all_goals refine tc_seq fun K2 hK2 => ?_; refine tc_region ?_; refine tl_q (y_loadW rfl (by repeat constructor) (by rfl)) rfl ?_; refine tl_q (y_fn .nil (.cons rfl (.cons rfl .nil))) rfl ?_; refine tl_e (e_callX rfl (.cons rfl (.cons rfl .nil)) (fun w' hw' => sure_c s hf tv pv gv 58 #[] #[ptr b2, ptr b3] (decide (0 ≤ b ∧ b ≤ s.B - 1)) w' (hr0.fr (hw'.fr (w0 := w) (S := []) MI.m)) (fun hv w2 f => by simpa using openers1_c s ⟨hv.b1, hv.b3⟩ b tv pv gv b2 b3 w2 (f.keep (hw'.heap _ (HM.mem (b := b2) (by repeat constructor)))) (f.keep (hw'.heap _ (HM.mem (b := b3) (by repeat constructor))))))) rfl (fun y hy => ?_); refine tl_q (y_move rfl) rfl ?_; refine tl_q (y_extract rfl rfl) rfl ?_; refine tl_q (y_extract rfl rfl) rfl ?_; refine tl_q (y_assign rfl) rfl ?_; refine tl_q (y_assign rfl) rfl ?_; refine tl_nil ?_; ((refine hK2 ?_; try (clear hK2; clear K2)))
  all_goals refine tc_seq fun K3 hK3 => ?_; refine tc_seq fun K4 hK4 => ?_; refine tc_region ?_; refine tl_q (y_move rfl) rfl ?_; refine tl_q (y_neq rfl rfl) rfl ?_; refine tl_nil ?_; ((refine hK4 ?_; try (clear hK4; clear K4)))
  all_goals (
   refine tc_cond rfl (fun hc => ?_) (fun hc => ?_)
   · try simp only [qn1, qn2, qn3, qn4, qn5, qn6, qn7, qn8] at hc
     all_goals refine tc_seq fun K5 hK5 => ?_; refine tc_region ?_; refine tl_q (y_move rfl) rfl ?_; refine tl_q (y_assign rfl) rfl ?_; refine tl_q (y_assign rfl) rfl ?_; refine tl_nil ?_; ((refine hK5 ?_; try (clear hK5; clear K5)))
     all_goals refine tc_ret ?_; (repeat (refine tk_then_ret ?_))
     all_goals (refine tk_ret rfl rfl (.cons (.tmp rfl) (.cons (.tmp rfl) .nil)) ?_)
     all_goals (
      first
      | (have hE : ¬ opE s b = 0 := by assumption
         have hL : opL s b = [] := if_neg hE
         rw [hL]
         exact fun w' hw' => ⟨(none, 0), rfl, hw'.fr (w0 := w) (S := []) MI.m, RdS.nil _ _ _ _⟩)
      | (have hL : opL s b = pplL s (askF s b).opn := if_pos he
         rw [hL, he]
         exact fun w' hw' => ⟨z.1, rfl, hw'.fr (w0 := w) (S := []) MI.m, hz.1.fr (hw'.calm hz.2 MI.m SB.s)⟩))
   · try simp only [qn1, qn2, qn3, qn4, qn5, qn6, qn7, qn8] at hc
     all_goals refine tc_skip ?_; ((refine hK3 ?_; try (clear hK3; clear K3)))
     all_goals refine tc_seq fun K6 hK6 => ?_; ((have he : opE s b = 0 := by unfold opE; omega))
     all_goals ((obtain ⟨hv, hbh, hcs⟩ := sureE_0 he; rw [decide_eq_true_eq] at hbh; have hb3' := hv.b3))
     all_goals ((obtain ⟨hyr, hyw⟩ := hy; have hse : sureE s (decide (0 ≤ b ∧ b ≤ s.B - 1)) = 0 := he; rw [hse, sureL_0] at hyr; rw [hse, sureL_0]))
     all_goals ((have hkl := knsN_len s s.B.toNat; obtain ⟨bY, oY, hady⟩ := hyr.adr (by omega)))
     all_goals refine tc_draw (by kernel_rfl) ?_; refine tx_q 0 rfl (by kernel_rfl) (y_loadW rfl (by repeat constructor) (by rfl)) rfl (fun _ _ _ h => h) (fun _ h => h) ?_; refine tx_p 1 rfl (by kernel_rfl) (y_move rfl) rfl (fun _ _ _ h => h) (fun _ h => h) ?_; refine tx_q 2 rfl (by kernel_rfl) (y_load1 rfl (by repeat constructor) (by rfl)) rfl (fun _ _ _ h => h) (fun _ h => h) ?_; refine tx_p 3 rfl (by kernel_rfl) (y_index rfl rfl (by omega) hady) rfl (fun _ _ _ h => h) (fun _ h => h) ?_; refine tx_p 4 rfl (by kernel_rfl) (y_field rfl) rfl (fun _ _ _ h => h) (fun _ h => h) ?_; refine tx_q 5 rfl (by kernel_rfl) (y_loadNo (n := 4) (vs := (askF s b).opn.map Value.bool) rfl (fun w' hw' => opn_at (hyr.fr (hw'.calm hyw MI.m SB.s)) hady (by omega))) rfl (fun _ _ _ h => h) (fun _ h => h) ?_; refine tx_e 6 rfl (by kernel_rfl) rfl (e_callX rfl (.cons rfl (.cons rfl .nil)) (fun w' hw' => people_c s hv.p4 (askF s b).opn (foldl_ok _).o tv pv gv w')) (.inr fun _ _ h => h.sub (fun _ h => List.mem_cons_of_mem _ h) (List.Sublist.refl _)) (fun z hz => ?_); refine tx_p 7 rfl (by kernel_rfl) (y_assign rfl) rfl (fun _ _ _ h => h) (fun _ h => h) ?_; refine tx_p 8 rfl (by kernel_rfl) (y_assign rfl) rfl (fun _ _ _ h => h) (fun _ h => h) ?_; refine tx_done (by kernel_rfl) ?_; ((refine hK6 ?_; try (clear hK6; clear K6)))
     all_goals refine tc_ret ?_; (repeat (first | refine tk_then_ret ?_))
     all_goals (refine tk_ret rfl rfl (.cons (.tmp rfl) (.cons (.tmp rfl) .nil)) ?_)
     all_goals (
      first
      | (have hE : ¬ opE s b = 0 := by assumption
         have hL : opL s b = [] := if_neg hE
         rw [hL]
         exact fun w' hw' => ⟨(none, 0), rfl, hw'.fr (w0 := w) (S := []) MI.m, RdS.nil _ _ _ _⟩)
      | (have hL : opL s b = pplL s (askF s b).opn := if_pos he
         rw [hL, he]
         exact fun w' hw' => ⟨z.1, rfl, hw'.fr (w0 := w) (S := []) MI.m, hz.1.fr (hw'.calm hz.2 MI.m SB.s)⟩)))
def verdF (q : Kwn) : Int := if 0 < q.least then 1 else if q.opn = List.replicate 4 false then 2 else 3
theorem verdict_c (q : Kwn) (hq : KnOk q) (w : World) : CnV Tryz.prog 64 #[.agg (knL q).toArray] w (vi (verdF q)) := by
  refine cnv (vs := [_]) Tryz.func64 rfl rfl ?_
  all_goals refine tc_seq fun K1 hK1 => ?_; refine tc_region ?_; refine tl_e (e_box rfl rfl rfl) rfl (fun b1 _ => ?_); refine tl_q (y_assign rfl) rfl ?_; refine tl_nil ?_; ((refine hK1 ?_; try (clear hK1; clear K1)))
  all_goals refine tc_seq fun K2 hK2 => ?_; refine tc_region ?_; refine tl_e (e_allocN rfl) rfl (fun _ _ => ?_); refine tl_nil ?_; ((refine hK2 ?_; try (clear hK2; clear K2)))
  all_goals refine tc_seq fun K3 hK3 => ?_; refine tc_block ?_; refine tc_seq fun K4 hK4 => ?_; refine tc_region ?_; refine tl_q (y_field rfl) rfl ?_; refine tl_q (y_load1 (v := vi q.least) rfl (by repeat constructor) (cellK_l hq)) rfl ?_; refine tl_q (y_gtr rfl rfl) rfl ?_; refine tl_q (y_assign rfl) rfl ?_; refine tl_nil ?_; ((refine hK4 ?_; try (clear hK4; clear K4)))
  all_goals (
   refine tc_cond rfl (fun hc => ?_) (fun hc => ?_)
   · try simp only [qn1, qn2, qn3, qn4, qn5, qn6, qn7, qn8] at hc
     all_goals refine tc_seq fun K5 hK5 => ?_; refine tc_region ?_; refine tl_q (y_assign rfl) rfl ?_; refine tl_nil ?_; ((refine hK5 ?_; try (clear hK5; clear K5)))
     all_goals refine tc_ret ?_; (repeat (first | refine tk_then_ret ?_ | refine tk_block_ret ?_))
     all_goals (refine tk_ret rfl rfl (.cons (.tmp rfl) .nil) ?_)
     all_goals (
      refine fun w' hw' => ⟨?_, hw'.fr (by simp)⟩
      unfold verdF
      first
      | (rw [if_pos (by assumption)]; rfl)
      | (rw [if_neg (by omega), if_pos (by assumption)]; rfl)
      | (rw [if_neg (by omega), if_neg (by assumption)]; rfl))
   · try simp only [qn1, qn2, qn3, qn4, qn5, qn6, qn7, qn8] at hc
     all_goals refine tc_seq fun K6 hK6 => ?_; refine tc_region ?_; refine tl_q (y_field rfl) rfl ?_; ((refine tl_q (y_loadNo (n := 4) (vs := q.opn.map Value.bool) rfl (fun w' hw' => by have := ((CA_whole (c := (knL q).toArray) (t := 101) (f := (0, 0)) (n := 46) (by rw [List.size_toArray, knL_len hq])).cells (hw'.heap _ (HM.mem (b := b1) (by repeat constructor)))).sub (knL_len hq) 40 4 (by omega); rw [knL_opn hq] at this; exact this)) rfl ?_))
     all_goals (refine tl_q (y_loadW rfl (by repeat constructor) (by rfl)) rfl ?_); refine tl_q (y_eqlB (xs := q.opn) (ys := List.replicate 4 false) rfl rfl hq.o rfl) rfl ?_; refine tl_q (y_assign rfl) rfl ?_; refine tl_nil ?_; ((refine hK6 ?_; try (clear hK6; clear K6)))
     all_goals (
      refine tc_cond rfl (fun hc => ?_) (fun hc => ?_)
      · try simp only [qn1, qn2, qn3, qn4, qn5, qn6, qn7, qn8] at hc
        all_goals refine tc_seq fun K7 hK7 => ?_; refine tc_region ?_; refine tl_q (y_assign rfl) rfl ?_; refine tl_nil ?_; ((refine hK7 ?_; try (clear hK7; clear K7)))
        all_goals refine tc_ret ?_; (repeat (first | refine tk_then_ret ?_ | refine tk_block_ret ?_))
        all_goals (refine tk_ret rfl rfl (.cons (.tmp rfl) .nil) ?_)
        all_goals (
         refine fun w' hw' => ⟨?_, hw'.fr (by simp)⟩
         unfold verdF
         first
         | (rw [if_pos (by assumption)]; rfl)
         | (rw [if_neg (by omega), if_pos (by assumption)]; rfl)
         | (rw [if_neg (by omega), if_neg (by assumption)]; rfl))
      · try simp only [qn1, qn2, qn3, qn4, qn5, qn6, qn7, qn8] at hc
        all_goals refine tc_skip ?_; ((refine hK3 ?_; try (clear hK3; clear K3)))
        all_goals refine tc_seq fun K8 hK8 => ?_; refine tc_region ?_; refine tl_q (y_assign rfl) rfl ?_; refine tl_nil ?_; ((refine hK8 ?_; try (clear hK8; clear K8)))
        all_goals refine tc_ret ?_; (repeat (first | refine tk_then_ret ?_))
        all_goals (refine tk_ret rfl rfl (.cons (.tmp rfl) .nil) ?_)
        all_goals (
         refine fun w' hw' => ⟨?_, hw'.fr (by simp)⟩
         unfold verdF
         first
         | (rw [if_pos (by assumption)]; rfl)
         | (rw [if_neg (by omega), if_pos (by assumption)]; rfl)
         | (rw [if_neg (by omega), if_neg (by assumption)]; rfl))))
theorem always_c (w : World) : CnV Tryz.prog 63 #[] w (.bool true) := by
  refine cnv (vs := []) Tryz.func63 rfl rfl ?_
  all_goals refine tc_seq fun K1 hK1 => ?_; refine tc_region ?_; refine tl_q (y_assign rfl) rfl ?_; refine tl_nil ?_; ((refine hK1 ?_; try (clear hK1; clear K1)))
  all_goals refine tc_seq fun K2 hK2 => ?_; refine tc_region ?_; refine tl_q (y_assign rfl) rfl ?_; refine tl_nil ?_; ((refine hK2 ?_; try (clear hK2; clear K2)))
  all_goals refine tc_ret ?_; (repeat (first | refine tk_then_ret ?_))
  all_goals (refine tk_ret rfl rfl (.cons (.tmp rfl) .nil) ?_)
  all_goals (
   exact fun w' hw' => ⟨rfl, hw'.fr (by simp)⟩)
abbrev vdE (s : Smp) : Int := sureE s true
def vdN (s : Smp) (n : Nat) : List Int := (List.range n).map fun (b : Nat) => verdF (askF s (b : Int))
theorem vdN_succ (s : Smp) (n : Nat) : vdN s (n + 1) = vdN s n ++ [verdF (askF s (n : Int))] := by simp [vdN, List.range_succ]
theorem vdN_len (s : Smp) (n : Nat) : (vdN s n).length = n := by simp [vdN]
def vdL (s : Smp) : List Int := if vdE s = 0 then vdN s s.B.toNat else []
def lsN' (s : Smp) (n : Nat) : List Int := (List.range n).map fun (b : Nat) => (askF s (b : Int)).least
theorem lsN'_succ (s : Smp) (n : Nat) : lsN' s (n + 1) = lsN' s n ++ [(askF s (n : Int)).least] := by simp [lsN', List.range_succ]
theorem lsN'_len (s : Smp) (n : Nat) : (lsN' s n).length = n := by simp [lsN']
def lsL (s : Smp) : List Int := if vdE s = 0 then lsN' s s.B.toNat else []
set_option maxHeartbeats 1000000 in
theorem verdicts_c (s : Smp) (hf : Few s) (tv pv gv : Value) (w : World) (hr : RdSm w s tv pv gv) :
    CnX Tryz.prog 26 #[smV s tv pv gv] w [] (fun y : Option Addr × Nat => .tuple #[slV (vdL s).length y, vi (vdE s)]) (fun y w' => RdS 1 inE w' (slV (vdL s).length y) (vdL s)) := by
  have hr0 := hr
  refine cnx0 (vs := [_]) Tryz.func26 rfl rfl ?_
  all_goals refine tc_seq fun K1 hK1 => ?_; refine tc_region ?_; refine tl_e (e_box rfl rfl rfl) rfl (fun b1 _ => ?_); refine tl_q (y_assign rfl) rfl ?_; refine tl_q (y_assign rfl) rfl ?_; refine tl_nil ?_; ((refine hK1 ?_; try (clear hK1; clear K1)))
  all_goals refine tc_seq fun K2 hK2 => ?_; refine tc_region ?_; refine tl_q (y_loadW rfl (by repeat constructor) (by rfl)) rfl ?_; refine tl_e (e_callX rfl (.cons rfl (.cons rfl .nil)) (fun w' hw' => sure_c s hf tv pv gv 63 #[] #[] true w' (hr0.fr (hw'.fr (w0 := w) (S := []) MI.m)) (fun hv w2 f => by simpa using always_c w2))) rfl (fun y hy => ?_); refine tl_q (y_move rfl) rfl ?_; refine tl_q (y_extract rfl rfl) rfl ?_; refine tl_q (y_extract rfl rfl) rfl ?_; refine tl_q (y_assign rfl) rfl ?_; refine tl_q (y_assign rfl) rfl ?_; refine tl_nil ?_; ((refine hK2 ?_; try (clear hK2; clear K2)))
  all_goals refine tc_seq fun K3 hK3 => ?_; refine tc_seq fun K4 hK4 => ?_; refine tc_region ?_; refine tl_q (y_move rfl) rfl ?_; refine tl_q (y_neq rfl rfl) rfl ?_; refine tl_nil ?_; ((refine hK4 ?_; try (clear hK4; clear K4)))
  all_goals (
   refine tc_cond rfl (fun hc => ?_) (fun hc => ?_)
   · try simp only [qn1, qn2, qn3, qn4, qn5, qn6, qn7, qn8] at hc
     all_goals refine tc_seq fun K5 hK5 => ?_; refine tc_region ?_; refine tl_q (y_move rfl) rfl ?_; refine tl_q (y_assign rfl) rfl ?_; refine tl_q (y_assign rfl) rfl ?_; refine tl_nil ?_; ((refine hK5 ?_; try (clear hK5; clear K5)))
     all_goals refine tc_ret ?_; (repeat (refine tk_then_ret ?_))
     all_goals (refine tk_ret rfl rfl (.cons (.tmp rfl) (.cons (.tmp rfl) .nil)) ?_)
     all_goals (
      first
      | (have hE : ¬ vdE s = 0 := by assumption
         have hL : vdL s = [] := if_neg hE
         rw [hL]
         exact fun w' hw' => ⟨(none, 0), rfl, hw'.fr (w0 := w) (S := []) MI.m, RdS.nil _ _ _ _⟩)
      | (have hL : vdL s = vdN s s.B.toNat := if_pos he
         obtain rfl : k = s.B.toNat := by omega
         rw [hL, he]
         exact fun w' hw' => ⟨ouA oo, rfl, hw'.fr (w0 := w) (S := []) MI.m, RdS.ofO inE_len hok hw' (by repeat constructor)⟩))
   · try simp only [qn1, qn2, qn3, qn4, qn5, qn6, qn7, qn8] at hc
     all_goals refine tc_skip ?_; ((refine hK3 ?_; try (clear hK3; clear K3)))
     all_goals refine tc_seq fun K6 hK6 => ?_; ((have he : vdE s = 0 := by unfold vdE; omega))
     all_goals ((obtain ⟨hv, hbh, hcs⟩ := sureE_0 he; have hb1 := hv.b1; have hb3' := hv.b3))
     all_goals ((obtain ⟨hyr, hyw⟩ := hy; have hse : sureE s true = 0 := he; rw [hse, sureL_0] at hyr; rw [hse, sureL_0]))
     all_goals ((have hkl := knsN_len s s.B.toNat; obtain ⟨bY, oY, hady⟩ := hyr.adr (by omega)))
     all_goals refine tc_region ?_; refine tl_q (y_assign rfl) rfl ?_; refine tl_nil ?_; ((refine hK6 ?_; try (clear hK6; clear K6)))
     all_goals refine tc_seq fun K7 hK7 => ?_; refine tc_seq fun K8 hK8 => ?_; refine tc_region ?_; refine tl_q (y_move rfl) rfl ?_; refine tl_q (y_len rfl) rfl ?_; refine tl_q (y_move rfl) rfl ?_; refine tl_nil ?_; ((refine hK8 ?_; try (clear hK8; clear K8)))
     all_goals refine tc_block ?_
     all_goals (
      refine tc_lay [] (SB.s .nil) (fun wl hl => ?_)
      have hyl := hyr.fr (hl.calm hyw MI.m SB.s)
      refine tc_loop (fun p : Nat × OwnB => p.1 ≤ s.B.toNat ∧ okE 1 (vdN s p.1) p.2) (fun p => [(6, ouV (vdN s p.1).length p.2), (17, slV (knsN s s.B.toNat).length y.1), (18, vi (knsN s s.B.toNat).length), (19, vi p.1)]) (fun _ => [(wl, []), (w, [])]) (fun p => slE 3 inE (vdN s p.1) p.2) (fun p => s.B.toNat - p.1) ?_ ?_
      · exact tk_start (0, none) ⟨Nat.zero_le _, rfl⟩ (.cons rfl (.cons rfl (.cons rfl (.cons rfl .nil)))) (fun _ h => by rw [slE_none]; exact h.subl SB.s SB.s)
      · rintro ⟨k, oo⟩ ⟨hk, hok⟩
        dsimp only at hk hok ⊢
        have hkl2 := vdN_len s k
        all_goals refine tc_seq fun K9 hK9 => ?_; refine tc_region ?_; refine tl_q (y_lss rfl rfl) rfl ?_; refine tl_nil ?_; ((refine hK9 ?_; try (clear hK9; clear K9)))
        all_goals refine tc_seq fun K10 hK10 => ?_
        all_goals (
         refine tc_cond rfl (fun hc => ?_) (fun hc => ?_)
         · try simp only [qn1, qn2, qn3, qn4, qn5, qn6, qn7, qn8] at hc
           all_goals refine tc_skip ?_; ((refine hK10 ?_; try (clear hK10; clear K10)))
           all_goals refine tc_seq fun K11 hK11 => ?_; refine tc_block ?_; refine tc_seq fun K12 hK12 => ?_; refine tc_region ?_; refine tl_q (y_index rfl rfl (by omega) hady) rfl ?_; refine tl_q (y_loadNo (n := 46) (vs := knL (askF s (k : Int))) rfl (fun w' hw' => kns_at (hyl.fr (hw'.fr (w0 := wl) (S := []) MI.m)) hady (by omega))) rfl ?_; refine tl_e (e_allocN rfl) rfl (fun b8 _ => ?_); (refine tl_e (e_storeW rfl rfl (by repeat constructor) (by rw [List.size_toArray]; exact kwE_len (askS s k)) (by rfl) (knL_one _)) rfl (fun _ _ => ?_))
           all_goals refine tl_nil ?_; ((refine hK12 ?_; try (clear hK12; clear K12)))
           all_goals refine tc_region ?_; refine tl_q (y_move rfl) rfl ?_; ((refine tl_q (y_loadW rfl (by repeat constructor) (by rw [List.size_toArray]; exact kwE_len (askS s k))) rfl ?_))
           all_goals refine tl_e (e_callV rfl (.cons rfl .nil) (fun w' _ => verdict_c (askF s (k : Int)) (foldl_ok _) w')) rfl (fun _ _ => ?_); (refine tl_e (e_bslice rfl (by (repeat (first | exact .nil | apply PV.one rfl rfl)); done) rfl rfl) rfl (fun _ _ => ?_))
           all_goals (refine tl_e (e_appendE (enc := inE) (xs := vdN s k) (ys := [verdF (askF s (k : Int))]) inE_len inE_one rfl rfl rfl hok (fun _ => by repeat constructor) (fun w' hw' => RdS.own0 inE_len hw' (by repeat constructor)) (by simp only [List.length_cons, List.length_nil]; omega) rfl) rfl (fun oo' hok' => ?_))
           all_goals refine tl_q (y_assign rfl) rfl ?_; refine tl_nil ?_; ((refine hK11 ?_; try (clear hK11; clear K11)))
           all_goals refine tc_region ?_; refine tl_q (y_add rfl rfl (by omega)) rfl ?_; refine tl_q (y_move rfl) rfl ?_; refine tl_nil ?_
           all_goals (
            have hs := vdN_succ s k
            exact tk_round (k + 1, oo') ⟨by dsimp only; omega, by dsimp only; rw [hs]; exact hok'⟩ (by dsimp only; omega) (.cons (by dsimp only; rw [hs]; rfl) (.cons rfl (.cons rfl (.cons rfl .nil)))) (fun _ h => by dsimp only; rw [hs]; exact h.subl SB.s SB.s))
         · try simp only [qn1, qn2, qn3, qn4, qn5, qn6, qn7, qn8] at hc
           all_goals refine tc_exit ?_; ((refine hK7 ?_; try (clear hK7; clear K7)))
           all_goals refine tc_seq fun K13 hK13 => ?_; refine tc_region ?_; refine tl_q (y_move rfl) rfl ?_; refine tl_q (y_assign rfl) rfl ?_; refine tl_q (y_assign rfl) rfl ?_; refine tl_nil ?_; ((refine hK13 ?_; try (clear hK13; clear K13)))
           all_goals refine tc_ret ?_; (repeat (first | refine tk_then_ret ?_))
           all_goals (refine tk_ret rfl rfl (.cons (.tmp rfl) (.cons (.tmp rfl) .nil)) ?_)
           all_goals (
            first
            | (have hE : ¬ vdE s = 0 := by assumption
               have hL : vdL s = [] := if_neg hE
               rw [hL]
               exact fun w' hw' => ⟨(none, 0), rfl, hw'.fr (w0 := w) (S := []) MI.m, RdS.nil _ _ _ _⟩)
            | (have hL : vdL s = vdN s s.B.toNat := if_pos he
               obtain rfl : k = s.B.toNat := by omega
               rw [hL, he]
               exact fun w' hw' => ⟨ouA oo, rfl, hw'.fr (w0 := w) (S := []) MI.m, RdS.ofO inE_len hok hw' (by repeat constructor)⟩)))))
set_option maxHeartbeats 1000000 in
theorem least_c (s : Smp) (hf : Few s) (tv pv gv : Value) (w : World) (hr : RdSm w s tv pv gv) :
    CnX Tryz.prog 28 #[smV s tv pv gv] w [] (fun y : Option Addr × Nat => .tuple #[slV (lsL s).length y, vi (vdE s)]) (fun y w' => RdS 1 inE w' (slV (lsL s).length y) (lsL s)) := by
  have hr0 := hr
  refine cnx0 (vs := [_]) Tryz.func28 rfl rfl ?_
  all_goals refine tc_seq fun K1 hK1 => ?_; refine tc_region ?_; refine tl_e (e_box rfl rfl rfl) rfl (fun b1 _ => ?_); refine tl_q (y_assign rfl) rfl ?_; refine tl_q (y_assign rfl) rfl ?_; refine tl_nil ?_; ((refine hK1 ?_; try (clear hK1; clear K1)))
  all_goals refine tc_seq fun K2 hK2 => ?_; refine tc_region ?_; refine tl_q (y_loadW rfl (by repeat constructor) (by rfl)) rfl ?_; refine tl_e (e_callX rfl (.cons rfl (.cons rfl .nil)) (fun w' hw' => sure_c s hf tv pv gv 63 #[] #[] true w' (hr0.fr (hw'.fr (w0 := w) (S := []) MI.m)) (fun hv w2 f => by simpa using always_c w2))) rfl (fun y hy => ?_); refine tl_q (y_move rfl) rfl ?_; refine tl_q (y_extract rfl rfl) rfl ?_; refine tl_q (y_extract rfl rfl) rfl ?_; refine tl_q (y_assign rfl) rfl ?_; refine tl_q (y_assign rfl) rfl ?_; refine tl_nil ?_; ((refine hK2 ?_; try (clear hK2; clear K2)))
  all_goals refine tc_seq fun K3 hK3 => ?_; refine tc_seq fun K4 hK4 => ?_; refine tc_region ?_; refine tl_q (y_move rfl) rfl ?_; refine tl_q (y_neq rfl rfl) rfl ?_; refine tl_nil ?_; ((refine hK4 ?_; try (clear hK4; clear K4)))
  all_goals (
   refine tc_cond rfl (fun hc => ?_) (fun hc => ?_)
   · try simp only [qn1, qn2, qn3, qn4, qn5, qn6, qn7, qn8] at hc
     all_goals refine tc_seq fun K5 hK5 => ?_; refine tc_region ?_; refine tl_q (y_move rfl) rfl ?_; refine tl_q (y_assign rfl) rfl ?_; refine tl_q (y_assign rfl) rfl ?_; refine tl_nil ?_; ((refine hK5 ?_; try (clear hK5; clear K5)))
     all_goals refine tc_ret ?_; (repeat (refine tk_then_ret ?_))
     all_goals (refine tk_ret rfl rfl (.cons (.tmp rfl) (.cons (.tmp rfl) .nil)) ?_)
     all_goals (
      first
      | (have hE : ¬ vdE s = 0 := by assumption
         have hL : lsL s = [] := if_neg hE
         rw [hL]
         exact fun w' hw' => ⟨(none, 0), rfl, hw'.fr (w0 := w) (S := []) MI.m, RdS.nil _ _ _ _⟩)
      | (have hL : lsL s = lsN' s s.B.toNat := if_pos he
         obtain rfl : k = s.B.toNat := by omega
         rw [hL, he]
         exact fun w' hw' => ⟨ouA oo, rfl, hw'.fr (w0 := w) (S := []) MI.m, RdS.ofO inE_len hok hw' (by repeat constructor)⟩))
   · try simp only [qn1, qn2, qn3, qn4, qn5, qn6, qn7, qn8] at hc
     all_goals refine tc_skip ?_; ((refine hK3 ?_; try (clear hK3; clear K3)))
     all_goals refine tc_seq fun K6 hK6 => ?_; ((have he : vdE s = 0 := by unfold vdE; omega))
     all_goals ((obtain ⟨hv, hbh, hcs⟩ := sureE_0 he; have hb1 := hv.b1; have hb3' := hv.b3))
     all_goals ((obtain ⟨hyr, hyw⟩ := hy; have hse : sureE s true = 0 := he; rw [hse, sureL_0] at hyr; rw [hse, sureL_0]))
     all_goals ((have hkl := knsN_len s s.B.toNat; obtain ⟨bY, oY, hady⟩ := hyr.adr (by omega)))
     all_goals refine tc_region ?_; refine tl_q (y_assign rfl) rfl ?_; refine tl_nil ?_; ((refine hK6 ?_; try (clear hK6; clear K6)))
     all_goals refine tc_seq fun K7 hK7 => ?_; refine tc_seq fun K8 hK8 => ?_; refine tc_region ?_; refine tl_q (y_move rfl) rfl ?_; refine tl_q (y_len rfl) rfl ?_; refine tl_q (y_move rfl) rfl ?_; refine tl_nil ?_; ((refine hK8 ?_; try (clear hK8; clear K8)))
     all_goals refine tc_block ?_
     all_goals (
      refine tc_lay [] (SB.s .nil) (fun wl hl => ?_)
      have hyl := hyr.fr (hl.calm hyw MI.m SB.s)
      refine tc_loop (fun p : Nat × OwnB => p.1 ≤ s.B.toNat ∧ okE 1 (lsN' s p.1) p.2) (fun p => [(6, ouV (lsN' s p.1).length p.2), (17, slV (knsN s s.B.toNat).length y.1), (18, vi (knsN s s.B.toNat).length), (19, vi p.1)]) (fun _ => [(wl, []), (w, [])]) (fun p => slE 3 inE (lsN' s p.1) p.2) (fun p => s.B.toNat - p.1) ?_ ?_
      · exact tk_start (0, none) ⟨Nat.zero_le _, rfl⟩ (.cons rfl (.cons rfl (.cons rfl (.cons rfl .nil)))) (fun _ h => by rw [slE_none]; exact h.subl SB.s SB.s)
      · rintro ⟨k, oo⟩ ⟨hk, hok⟩
        dsimp only at hk hok ⊢
        have hkl2 := lsN'_len s k
        all_goals refine tc_seq fun K9 hK9 => ?_; refine tc_region ?_; refine tl_q (y_lss rfl rfl) rfl ?_; refine tl_nil ?_; ((refine hK9 ?_; try (clear hK9; clear K9)))
        all_goals refine tc_seq fun K10 hK10 => ?_
        all_goals (
         refine tc_cond rfl (fun hc => ?_) (fun hc => ?_)
         · try simp only [qn1, qn2, qn3, qn4, qn5, qn6, qn7, qn8] at hc
           all_goals refine tc_skip ?_; ((refine hK10 ?_; try (clear hK10; clear K10)))
           all_goals refine tc_seq fun K11 hK11 => ?_; refine tc_block ?_; refine tc_seq fun K12 hK12 => ?_; refine tc_region ?_; refine tl_q (y_index rfl rfl (by omega) hady) rfl ?_; refine tl_q (y_loadNo (n := 46) (vs := knL (askF s (k : Int))) rfl (fun w' hw' => kns_at (hyl.fr (hw'.fr (w0 := wl) (S := []) MI.m)) hady (by omega))) rfl ?_; refine tl_e (e_allocN rfl) rfl (fun b8 _ => ?_); (refine tl_e (e_storeW rfl rfl (by repeat constructor) (by rw [List.size_toArray]; exact kwE_len (askS s k)) (by rfl) (knL_one _)) rfl (fun _ _ => ?_))
           all_goals refine tl_nil ?_; ((refine hK12 ?_; try (clear hK12; clear K12)))
           all_goals refine tc_region ?_; refine tl_q (y_move rfl) rfl ?_; refine tl_q (y_field rfl) rfl ?_; refine tl_q (y_load1 (v := vi (askF s (k : Int)).least) rfl (by repeat constructor) (cellK_l (foldl_ok _))) rfl ?_; (refine tl_e (e_bslice rfl (by (repeat (first | exact .nil | apply PV.one rfl rfl)); done) rfl rfl) rfl (fun _ _ => ?_))
           all_goals (refine tl_e (e_appendE (enc := inE) (xs := lsN' s k) (ys := [(askF s (k : Int)).least]) inE_len inE_one rfl rfl rfl hok (fun _ => by repeat constructor) (fun w' hw' => RdS.own0 inE_len hw' (by repeat constructor)) (by simp only [List.length_cons, List.length_nil]; omega) rfl) rfl (fun oo' hok' => ?_))
           all_goals refine tl_q (y_assign rfl) rfl ?_; refine tl_nil ?_; ((refine hK11 ?_; try (clear hK11; clear K11)))
           all_goals refine tc_region ?_; refine tl_q (y_add rfl rfl (by omega)) rfl ?_; refine tl_q (y_move rfl) rfl ?_; refine tl_nil ?_
           all_goals (
            have hs := lsN'_succ s k
            exact tk_round (k + 1, oo') ⟨by dsimp only; omega, by dsimp only; rw [hs]; exact hok'⟩ (by dsimp only; omega) (.cons (by dsimp only; rw [hs]; rfl) (.cons rfl (.cons rfl (.cons rfl .nil)))) (fun _ h => by dsimp only; rw [hs]; exact h.subl SB.s SB.s))
         · try simp only [qn1, qn2, qn3, qn4, qn5, qn6, qn7, qn8] at hc
           all_goals refine tc_exit ?_; ((refine hK7 ?_; try (clear hK7; clear K7)))
           all_goals refine tc_seq fun K13 hK13 => ?_; refine tc_region ?_; refine tl_q (y_move rfl) rfl ?_; refine tl_q (y_assign rfl) rfl ?_; refine tl_q (y_assign rfl) rfl ?_; refine tl_nil ?_; ((refine hK13 ?_; try (clear hK13; clear K13)))
           all_goals refine tc_ret ?_; (repeat (first | refine tk_then_ret ?_))
           all_goals (refine tk_ret rfl rfl (.cons (.tmp rfl) (.cons (.tmp rfl) .nil)) ?_)
           all_goals (
            first
            | (have hE : ¬ vdE s = 0 := by assumption
               have hL : lsL s = [] := if_neg hE
               rw [hL]
               exact fun w' hw' => ⟨(none, 0), rfl, hw'.fr (w0 := w) (S := []) MI.m, RdS.nil _ _ _ _⟩)
            | (have hL : lsL s = lsN' s s.B.toNat := if_pos he
               obtain rfl : k = s.B.toNat := by omega
               rw [hL, he]
               exact fun w' hw' => ⟨ouA oo, rfl, hw'.fr (w0 := w) (S := []) MI.m, RdS.ofO inE_len hok hw' (by repeat constructor)⟩)))))
def alF (s : Smp) : Int := if ¬ vdE s = 0 then 0 else if (1 : Int) ∈ vdL s then 2 else if (3 : Int) ∈ vdL s then 3 else 1
theorem vdL_len (s : Smp) : (vdL s).length ≤ s.B.toNat := by
  unfold vdL
  split
  · rw [vdN_len]; exact Nat.le_refl _
  · simp
theorem alike_c (s : Smp) (hf : Few s) (tv pv gv : Value) (w : World) (hr : RdSm w s tv pv gv) :
    CnV Tryz.prog 27 #[smV s tv pv gv] w (.tuple #[vi (alF s), vi (vdE s)]) := by
  have hr0 := hr
  refine cnv (vs := [_]) Tryz.func27 rfl rfl ?_
  all_goals refine tc_seq fun K1 hK1 => ?_; refine tc_region ?_; refine tl_e (e_box rfl rfl rfl) rfl (fun b1 _ => ?_); refine tl_q (y_assign rfl) rfl ?_; refine tl_q (y_assign rfl) rfl ?_; refine tl_nil ?_; ((refine hK1 ?_; try (clear hK1; clear K1)))
  all_goals refine tc_seq fun K2 hK2 => ?_; refine tc_region ?_; refine tl_q (y_loadW rfl (by repeat constructor) (by rfl)) rfl ?_; refine tl_e (e_callX rfl (.cons rfl .nil) (fun w' hw' => verdicts_c s hf tv pv gv w' (hr0.fr (hw'.fr (w0 := w) (S := []) MI.m)))) rfl (fun y hy => ?_); refine tl_q (y_move rfl) rfl ?_; refine tl_q (y_extract rfl rfl) rfl ?_; refine tl_q (y_extract rfl rfl) rfl ?_; refine tl_q (y_assign rfl) rfl ?_; refine tl_q (y_assign rfl) rfl ?_; refine tl_nil ?_; ((refine hK2 ?_; try (clear hK2; clear K2)))
  all_goals refine tc_seq fun K3 hK3 => ?_; refine tc_block ?_; refine tc_seq fun K4 hK4 => ?_; refine tc_region ?_; refine tl_q (y_move rfl) rfl ?_; refine tl_q (y_neq rfl rfl) rfl ?_; refine tl_q (y_assign rfl) rfl ?_; refine tl_nil ?_; ((refine hK4 ?_; try (clear hK4; clear K4)))
  all_goals (
   refine tc_cond rfl (fun hc => ?_) (fun hc => ?_)
   · try simp only [qn1, qn2, qn3, qn4, qn5, qn6, qn7, qn8] at hc
     all_goals refine tc_seq fun K5 hK5 => ?_; refine tc_region ?_; refine tl_q (y_move rfl) rfl ?_; refine tl_q (y_assign rfl) rfl ?_; refine tl_q (y_assign rfl) rfl ?_; refine tl_nil ?_; ((refine hK5 ?_; try (clear hK5; clear K5)))
     all_goals refine tc_ret ?_; (repeat (first | refine tk_then_ret ?_ | refine tk_block_ret ?_))
     all_goals (refine tk_ret rfl rfl (.cons (.tmp rfl) (.cons (.tmp rfl) .nil)) ?_)
     all_goals (
      refine fun w' hw' => ⟨?_, hw'.fr (w0 := w) (S := []) MI.m⟩
      unfold alF
      first
      | (rw [if_pos (by assumption)]; rfl)
      | (rw [if_neg (by omega), if_pos (by assumption), he]; rfl)
      | (rw [if_neg (by omega), if_neg (by assumption), if_pos (by assumption), he]; rfl)
      | (rw [if_neg (by omega), if_neg (by assumption), if_neg (by assumption), he]; rfl))
   · try simp only [qn1, qn2, qn3, qn4, qn5, qn6, qn7, qn8] at hc
     all_goals refine tc_seq fun K6 hK6 => ?_; ((have he : vdE s = 0 := by unfold vdE; omega))
     all_goals ((have hb3' := (sureE_0 he).1.b3; have hvl := vdL_len s))
     all_goals refine tc_region ?_; refine tl_q (y_move rfl) rfl ?_; refine tl_e (e_callV rfl (.cons rfl (.cons rfl .nil)) (fun w' hw' => contains_c (vdL s) (by omega) _ _ w' ((hy.1.fr (hw'.calm hy.2 MI.m SB.s)).toI))) rfl (fun _ _ => ?_); refine tl_q (y_assign rfl) rfl ?_; refine tl_nil ?_; ((refine hK6 ?_; try (clear hK6; clear K6)))
     all_goals (
      refine tc_cond rfl (fun hc => ?_) (fun hc => ?_)
      · try simp only [qn1, qn2, qn3, qn4, qn5, qn6, qn7, qn8] at hc
        all_goals refine tc_seq fun K7 hK7 => ?_; refine tc_region ?_; refine tl_q (y_assign rfl) rfl ?_; refine tl_q (y_assign rfl) rfl ?_; refine tl_nil ?_; ((refine hK7 ?_; try (clear hK7; clear K7)))
        all_goals refine tc_ret ?_; (repeat (first | refine tk_then_ret ?_ | refine tk_block_ret ?_))
        all_goals (refine tk_ret rfl rfl (.cons (.tmp rfl) (.cons (.tmp rfl) .nil)) ?_)
        all_goals (
         refine fun w' hw' => ⟨?_, hw'.fr (w0 := w) (S := []) MI.m⟩
         unfold alF
         first
         | (rw [if_pos (by assumption)]; rfl)
         | (rw [if_neg (by omega), if_pos (by assumption), he]; rfl)
         | (rw [if_neg (by omega), if_neg (by assumption), if_pos (by assumption), he]; rfl)
         | (rw [if_neg (by omega), if_neg (by assumption), if_neg (by assumption), he]; rfl))
      · try simp only [qn1, qn2, qn3, qn4, qn5, qn6, qn7, qn8] at hc
        all_goals refine tc_seq fun K8 hK8 => ?_; refine tc_region ?_; refine tl_q (y_move rfl) rfl ?_; refine tl_e (e_callV rfl (.cons rfl (.cons rfl .nil)) (fun w' hw' => contains_c (vdL s) (by omega) _ _ w' ((hy.1.fr (hw'.calm hy.2 MI.m SB.s)).toI))) rfl (fun _ _ => ?_); refine tl_q (y_assign rfl) rfl ?_; refine tl_nil ?_; ((refine hK8 ?_; try (clear hK8; clear K8)))
        all_goals (
         refine tc_cond rfl (fun hc => ?_) (fun hc => ?_)
         · try simp only [qn1, qn2, qn3, qn4, qn5, qn6, qn7, qn8] at hc
           all_goals refine tc_seq fun K9 hK9 => ?_; refine tc_region ?_; refine tl_q (y_assign rfl) rfl ?_; refine tl_q (y_assign rfl) rfl ?_; refine tl_nil ?_; ((refine hK9 ?_; try (clear hK9; clear K9)))
           all_goals refine tc_ret ?_; (repeat (first | refine tk_then_ret ?_ | refine tk_block_ret ?_))
           all_goals (refine tk_ret rfl rfl (.cons (.tmp rfl) (.cons (.tmp rfl) .nil)) ?_)
           all_goals (
            refine fun w' hw' => ⟨?_, hw'.fr (w0 := w) (S := []) MI.m⟩
            unfold alF
            first
            | (rw [if_pos (by assumption)]; rfl)
            | (rw [if_neg (by omega), if_pos (by assumption), he]; rfl)
            | (rw [if_neg (by omega), if_neg (by assumption), if_pos (by assumption), he]; rfl)
            | (rw [if_neg (by omega), if_neg (by assumption), if_neg (by assumption), he]; rfl))
         · try simp only [qn1, qn2, qn3, qn4, qn5, qn6, qn7, qn8] at hc
           all_goals refine tc_skip ?_; ((refine hK3 ?_; try (clear hK3; clear K3)))
           all_goals refine tc_seq fun K10 hK10 => ?_; refine tc_region ?_; refine tl_q (y_assign rfl) rfl ?_; refine tl_q (y_assign rfl) rfl ?_; refine tl_nil ?_; ((refine hK10 ?_; try (clear hK10; clear K10)))
           all_goals refine tc_ret ?_; (repeat (first | refine tk_then_ret ?_))
           all_goals (refine tk_ret rfl rfl (.cons (.tmp rfl) (.cons (.tmp rfl) .nil)) ?_)
           all_goals (
            refine fun w' hw' => ⟨?_, hw'.fr (w0 := w) (S := []) MI.m⟩
            unfold alF
            first
            | (rw [if_pos (by assumption)]; rfl)
            | (rw [if_neg (by omega), if_pos (by assumption), he]; rfl)
            | (rw [if_neg (by omega), if_neg (by assumption), if_pos (by assumption), he]; rfl)
            | (rw [if_neg (by omega), if_neg (by assumption), if_neg (by assumption), he]; rfl)))))
end Go.Sp
/-
  Package sample: samples without some entries; the entries of a bottle.
-/
namespace Go.Sp
open Go Go.Proofs
theorem smV_ones {s : Smp} {tv pv gv : Value} (h1 : tv.oneCell' = true) (h2 : pv.oneCell' = true) (h3 : gv.oneCell' = true) : ∀ v ∈ (#[vi s.B, vi s.P, vi s.L, vi s.F, tv, pv, gv] : Array Value).toList, v.oneCell' = true := by
  intro v hv
  simp only [List.mem_cons, List.not_mem_nil, or_false] at hv
  rcases hv with rfl | rfl | rfl | rfl | rfl | rfl | rfl
  all_goals first | rfl | assumption
def wpN (s : Smp) (out : List Int) (n : Nat) : List Pas := ((List.range n).filter fun (i : Nat) => !decide ((i : Int) ∈ out)).map fun i => s.ps.getD i pas0
def wgN (s : Smp) (out : List Int) (n : Nat) : List Sgt := ((List.range n).filter fun (i : Nat) => !decide ((s.ps.length : Int) + (i : Int) ∈ out)).map fun i => s.sg.getD i sgt0
def wthF (s : Smp) (out : List Int) : Smp := { s with ps := wpN s out s.ps.length, sg := wgN s out s.sg.length }
theorem filt_yes {α : Type} {p : Nat → Bool} {f : Nat → α} {n : Nat} (h : p n = true) : ((List.range (n + 1)).filter p).map f = ((List.range n).filter p).map f ++ [f n] := by
  rw [List.range_succ, List.filter_append, List.filter_cons, if_pos h]; simp
theorem filt_no {α : Type} {p : Nat → Bool} {f : Nat → α} {n : Nat} (h : p n = false) : ((List.range (n + 1)).filter p).map f = ((List.range n).filter p).map f := by
  rw [List.range_succ, List.filter_append, List.filter_cons, if_neg (by rw [h]; exact Bool.false_ne_true)]; simp
theorem filt_len {α : Type} {p : Nat → Bool} {f : Nat → α} {n : Nat} : (((List.range n).filter p).map f).length ≤ n := by
  rw [List.length_map]
  exact Nat.le_trans (List.length_filter_le _ _) (by simp)
theorem wpN_yes {s : Smp} {out : List Int} {n : Nat} (h : ¬ (n : Int) ∈ out) : wpN s out (n + 1) = wpN s out n ++ [s.ps.getD n pas0] := filt_yes (by simpa using h)
theorem wpN_no {s : Smp} {out : List Int} {n : Nat} (h : (n : Int) ∈ out) : wpN s out (n + 1) = wpN s out n := filt_no (by simpa using h)
theorem wgN_yes {s : Smp} {out : List Int} {n : Nat} (h : ¬ (s.ps.length : Int) + (n : Int) ∈ out) : wgN s out (n + 1) = wgN s out n ++ [s.sg.getD n sgt0] := filt_yes (by simpa using h)
theorem wgN_no {s : Smp} {out : List Int} {n : Nat} (h : (s.ps.length : Int) + (n : Int) ∈ out) : wgN s out (n + 1) = wgN s out n := filt_no (by simpa using h)
theorem wpN_len (s : Smp) (out : List Int) (n : Nat) : (wpN s out n).length ≤ n := filt_len
theorem wgN_len (s : Smp) (out : List Int) (n : Nat) : (wgN s out n).length ≤ n := filt_len
theorem Few.wth {s : Smp} (h : Few s) (out : List Int) : Few (wthF s out) := ⟨h.st, Nat.le_trans (wpN_len s out _) h.ps, Nat.le_trans (wgN_len s out _) h.sg⟩
set_option maxHeartbeats 2000000 in
theorem without_c (s : Smp) (hf : Few s) (out : List Int) (ho : out.length ≤ 1000) (tv pv gv ov : Value) (w : World) (hr : RdSm w s tv pv gv) (hro : RdI w ov out) :
    CnX Tryz.prog 66 #[smV s tv pv gv, ov] w [] (fun y : (Option Addr × Nat) × (Option Addr × Nat) => smV (wthF s out) tv (slV (wthF s out).ps.length y.1) (slV (wthF s out).sg.length y.2)) (fun y w' => RdSm w' (wthF s out) tv (slV (wthF s out).ps.length y.1) (slV (wthF s out).sg.length y.2)) := by
  have hr0 := hr
  have hfp := hf.ps
  have hfg := hf.sg
  have hot := hr.st.one
  obtain ⟨adp, cpp, bp, op, rfl, hadp, hcp⟩ := hr.ps.open psE_len pas0
  obtain ⟨adg, cpg, bg, og, rfl, hadg, hcg⟩ := hr.sg.open sgE_len sgt0
  refine cnx0 (vs := [_, _]) Tryz.func66 rfl rfl ?_
  all_goals refine tc_seq fun K1 hK1 => ?_
  all_goals refine tc_region ?_
  all_goals refine tl_e (e_box rfl rfl rfl) rfl (fun b2 _ => ?_)
  all_goals refine tl_e (e_allocN rfl) rfl (fun b4 _ => ?_)
  all_goals refine tl_nil ?_
  all_goals (refine hK1 ?_; try (clear hK1; clear K1))
  all_goals refine tc_seq fun K2 hK2 => ?_
  all_goals refine tc_region ?_
  all_goals (first | refine tl_q (y_loadW rfl (by repeat constructor) (by rfl)) rfl ?_ | refine tl_q (y_loadN rfl (by repeat constructor) (by (repeat (first | exact .nil | apply CA.cons rfl)); done)) rfl ?_ | refine tl_q (y_loadNo (n := 5) (vs := [vi (s.ps.getD k pas0).b, vi (s.ps.getD k pas0).fr, vi (s.ps.getD k pas0).to, vi (s.ps.getD k pas0).lo, vi (s.ps.getD k pas0).hi]) rfl (fun w' hw' => by rw [show Int.toNat (k : Int) * 5 = k * 5 from by omega]; exact hcp w' [] (hw'.fr (w0 := w) (S := []) MI.m) (by simp) k (by omega))) rfl ?_ | refine tl_q (y_loadNo (n := 3) (vs := [vi (s.sg.getD j sgt0).b, vi (s.sg.getD j sgt0).h, .bool (s.sg.getD j sgt0).wh]) rfl (fun w' hw' => by rw [show Int.toNat (j : Int) * 3 = j * 3 from by omega]; exact hcg w' [] (hw'.fr (w0 := w) (S := []) MI.m) (by simp) j (by omega))) rfl ?_)
  all_goals refine tl_e (e_allocN rfl) rfl (fun b5 _ => ?_)
  all_goals refine tl_e (e_storeW rfl rfl (by repeat constructor) (by rfl) (by rfl) (smV_ones hot rfl rfl)) rfl (fun _ _ => ?_)
  all_goals refine tl_nil ?_
  all_goals (refine hK2 ?_; try (clear hK2; clear K2))
  all_goals refine tc_seq fun K3 hK3 => ?_
  all_goals refine tc_region ?_
  all_goals refine tl_q (y_field rfl) rfl ?_
  all_goals refine tl_e (e_store1 rfl rfl (by repeat constructor) (by repeat constructor) (by rfl) (by rfl)) rfl (fun _ _ => ?_)
  all_goals refine tl_q (y_field rfl) rfl ?_
  all_goals refine tl_e (e_store1 rfl rfl (by repeat constructor) (by repeat constructor) (by rfl) (by rfl)) rfl (fun _ _ => ?_)
  all_goals refine tl_nil ?_
  all_goals (refine hK3 ?_; try (clear hK3; clear K3))
  all_goals refine tc_seq fun K4 hK4 => ?_
  all_goals refine tc_seq fun K5 hK5 => ?_
  all_goals refine tc_region ?_
  all_goals refine tl_q (y_field rfl) rfl ?_
  all_goals (first | refine tl_q (y_load1 rfl (by repeat constructor) (by rfl)) rfl ?_ | refine tl_q (y_loadNo (n := 5) (vs := [vi (s.ps.getD k pas0).b, vi (s.ps.getD k pas0).fr, vi (s.ps.getD k pas0).to, vi (s.ps.getD k pas0).lo, vi (s.ps.getD k pas0).hi]) rfl (fun w' hw' => by rw [show Int.toNat (k : Int) * 5 = k * 5 from by omega]; exact hcp w' [] (hw'.fr (w0 := w) (S := []) MI.m) (by simp) k (by omega))) rfl ?_ | refine tl_q (y_loadNo (n := 3) (vs := [vi (s.sg.getD j sgt0).b, vi (s.sg.getD j sgt0).h, .bool (s.sg.getD j sgt0).wh]) rfl (fun w' hw' => by rw [show Int.toNat (j : Int) * 3 = j * 3 from by omega]; exact hcg w' [] (hw'.fr (w0 := w) (S := []) MI.m) (by simp) j (by omega))) rfl ?_)
  all_goals refine tl_q (y_len rfl) rfl ?_
  all_goals refine tl_q (y_move rfl) rfl ?_
  all_goals refine tl_nil ?_
  all_goals (refine hK5 ?_; try (clear hK5; clear K5))
  all_goals refine tc_block ?_
  all_goals (
   refine tc_loop (fun p : Nat × OwnB => p.1 ≤ s.ps.length ∧ okE 5 (wpN s out p.1) p.2) (fun p => [(1, ov), (2, ptr b2), (4, ptr b4), (5, ptr b5), (14, .slice adp s.ps.length cpp), (15, vi s.ps.length), (16, vi p.1)]) (fun _ => [(w, [])]) (fun p => (b5, .cells #[vi s.B, vi s.P, vi s.L, vi s.F, tv, ouV (wpN s out p.1).length p.2, .slice none 0 0] 36 (0, 0)) :: (b4, .cells #[vi 0, vi 0, vi 0, vi 0, .slice none 0 0, .slice none 0 0, .slice none 0 0] 36 (0, 0)) :: (b2, .cells #[vi s.B, vi s.P, vi s.L, vi s.F, tv, .slice adp s.ps.length cpp, .slice adg s.sg.length cpg] 36 (0, 0)) :: slE 92 psE (wpN s out p.1) p.2) (fun p => s.ps.length - p.1) ?_ ?_
   · exact tk_start (0, none) ⟨Nat.zero_le _, rfl⟩ (.cons rfl (.cons rfl (.cons rfl (.cons rfl (.cons rfl (.cons rfl (.cons rfl .nil))))))) (fun _ h => by rw [slE_none]; exact h.subl SB.s SB.s)
   · rintro ⟨k, oo⟩ ⟨hk, hok⟩
     dsimp only at hk hok ⊢
     have hkl := wpN_len s out k
     all_goals refine tc_seq fun K6 hK6 => ?_
     all_goals refine tc_region ?_
     all_goals refine tl_q (y_lss rfl rfl) rfl ?_
     all_goals refine tl_nil ?_
     all_goals (refine hK6 ?_; try (clear hK6; clear K6))
     all_goals refine tc_seq fun K7 hK7 => ?_
     all_goals (
      refine tc_cond rfl (fun hc => ?_) (fun hc => ?_)
      · try simp only [qn1, qn2, qn3, qn4, qn5, qn6, qn7, qn8] at hc
        all_goals first | (exfalso; with_reducible exact bft hc) | (exfalso; with_reducible exact btf hc) | (exfalso; omega) | skip
        all_goals refine tc_skip ?_
        all_goals (refine hK7 ?_; try (clear hK7; clear K7))
        all_goals refine tc_seq fun K8 hK8 => ?_
        all_goals refine tc_block ?_
        all_goals refine tc_seq fun K9 hK9 => ?_
        all_goals refine tc_region ?_
        all_goals refine tl_q (y_move rfl) rfl ?_
        all_goals (first | refine tl_q (y_index rfl rfl (by omega) (hadp (by omega))) rfl ?_ | refine tl_q (y_index rfl rfl (by omega) (hadg (by omega))) rfl ?_ | refine tl_q (y_index rfl rfl (by omega) rfl) rfl ?_ | refine tl_q (y_indexA rfl rfl (by omega)) rfl ?_)
        all_goals (first | refine tl_q (y_loadW rfl (by repeat constructor) (by rfl)) rfl ?_ | refine tl_q (y_loadN rfl (by repeat constructor) (by (repeat (first | exact .nil | apply CA.cons rfl)); done)) rfl ?_ | refine tl_q (y_loadNo (n := 5) (vs := [vi (s.ps.getD k pas0).b, vi (s.ps.getD k pas0).fr, vi (s.ps.getD k pas0).to, vi (s.ps.getD k pas0).lo, vi (s.ps.getD k pas0).hi]) rfl (fun w' hw' => by rw [show Int.toNat (k : Int) * 5 = k * 5 from by omega]; exact hcp w' [] (hw'.fr (w0 := w) (S := []) MI.m) (by simp) k (by omega))) rfl ?_ | refine tl_q (y_loadNo (n := 3) (vs := [vi (s.sg.getD j sgt0).b, vi (s.sg.getD j sgt0).h, .bool (s.sg.getD j sgt0).wh]) rfl (fun w' hw' => by rw [show Int.toNat (j : Int) * 3 = j * 3 from by omega]; exact hcg w' [] (hw'.fr (w0 := w) (S := []) MI.m) (by simp) j (by omega))) rfl ?_)
        all_goals refine tl_e (e_allocN rfl) rfl (fun b7 _ => ?_)
        all_goals refine tl_q (y_assign rfl) rfl ?_
        all_goals refine tl_e (e_storeW rfl rfl (by repeat constructor) (by rfl) (by rfl) (by simp [Value.oneCell'])) rfl (fun _ _ => ?_)
        all_goals refine tl_nil ?_
        all_goals (refine hK9 ?_; try (clear hK9; clear K9))
        all_goals refine tc_seq fun K10 hK10 => ?_
        all_goals refine tc_region ?_
        all_goals refine tl_q (y_move rfl) rfl ?_
        all_goals refine tl_q (y_move rfl) rfl ?_
        all_goals refine tl_e (e_callV rfl (.cons rfl (.cons rfl .nil)) (fun w' hw' => contains_c out (by omega) _ _ w' (hro.fr (hw'.fr (w0 := w) (S := []) MI.m)))) rfl (fun _ _ => ?_)
        all_goals (first | refine tl_q (y_not_dec rfl) rfl ?_ | refine tl_q (y_not rfl) rfl ?_)
        all_goals refine tl_nil ?_
        all_goals (refine hK10 ?_; try (clear hK10; clear K10))
        all_goals (
         refine tc_cond rfl (fun hc => ?_) (fun hc => ?_)
         · try simp only [qn1, qn2, qn3, qn4, qn5, qn6, qn7, qn8] at hc
           all_goals first | (exfalso; with_reducible exact bft hc) | (exfalso; with_reducible exact btf hc) | (exfalso; omega) | skip
           all_goals refine tc_region ?_
           all_goals refine tl_q (y_field rfl) rfl ?_
           all_goals (first | refine tl_q (y_load1 rfl (by repeat constructor) (by rfl)) rfl ?_ | refine tl_q (y_loadNo (n := 5) (vs := [vi (s.ps.getD k pas0).b, vi (s.ps.getD k pas0).fr, vi (s.ps.getD k pas0).to, vi (s.ps.getD k pas0).lo, vi (s.ps.getD k pas0).hi]) rfl (fun w' hw' => by rw [show Int.toNat (k : Int) * 5 = k * 5 from by omega]; exact hcp w' [] (hw'.fr (w0 := w) (S := []) MI.m) (by simp) k (by omega))) rfl ?_ | refine tl_q (y_loadNo (n := 3) (vs := [vi (s.sg.getD j sgt0).b, vi (s.sg.getD j sgt0).h, .bool (s.sg.getD j sgt0).wh]) rfl (fun w' hw' => by rw [show Int.toNat (j : Int) * 3 = j * 3 from by omega]; exact hcg w' [] (hw'.fr (w0 := w) (S := []) MI.m) (by simp) j (by omega))) rfl ?_)
           all_goals (first | refine tl_q (y_loadW rfl (by repeat constructor) (by rfl)) rfl ?_ | refine tl_q (y_loadN rfl (by repeat constructor) (by (repeat (first | exact .nil | apply CA.cons rfl)); done)) rfl ?_ | refine tl_q (y_loadNo (n := 5) (vs := [vi (s.ps.getD k pas0).b, vi (s.ps.getD k pas0).fr, vi (s.ps.getD k pas0).to, vi (s.ps.getD k pas0).lo, vi (s.ps.getD k pas0).hi]) rfl (fun w' hw' => by rw [show Int.toNat (k : Int) * 5 = k * 5 from by omega]; exact hcp w' [] (hw'.fr (w0 := w) (S := []) MI.m) (by simp) k (by omega))) rfl ?_ | refine tl_q (y_loadNo (n := 3) (vs := [vi (s.sg.getD j sgt0).b, vi (s.sg.getD j sgt0).h, .bool (s.sg.getD j sgt0).wh]) rfl (fun w' hw' => by rw [show Int.toNat (j : Int) * 3 = j * 3 from by omega]; exact hcg w' [] (hw'.fr (w0 := w) (S := []) MI.m) (by simp) j (by omega))) rfl ?_)
           all_goals refine tl_e (e_bsliceG rfl (.agg rfl rfl .nil) rfl rfl) rfl (fun _ _ => ?_)
           all_goals (first | refine tl_e (e_appendE (enc := psE) (xs := wpN s out k) (ys := [s.ps.getD k pas0]) psE_len psE_one rfl rfl rfl hok (fun _ => by repeat constructor) (fun w' hw' => RdS.own0 psE_len hw' (by repeat constructor)) (by simp only [List.length_cons, List.length_nil]; omega) rfl) rfl (fun oo' hok' => ?_) | refine tl_e (e_appendE (enc := sgE) (xs := wgN s out j) (ys := [s.sg.getD j sgt0]) sgE_len sgE_one rfl rfl rfl hok2 (fun _ => by repeat constructor) (fun w' hw' => RdS.own0 sgE_len hw' (by repeat constructor)) (by simp only [List.length_cons, List.length_nil]; omega) rfl) rfl (fun oo' hok' => ?_))
           all_goals refine tl_q (y_field rfl) rfl ?_
           all_goals refine tl_e (e_store1 rfl rfl (by repeat constructor) (by repeat constructor) (by rfl) (by rfl)) rfl (fun _ _ => ?_)
           all_goals refine tl_nil ?_
           all_goals (refine hK8 ?_; try (clear hK8; clear K8))
           all_goals refine tc_region ?_
           all_goals refine tl_q (y_add rfl rfl (by omega)) rfl ?_
           all_goals refine tl_q (y_move rfl) rfl ?_
           all_goals refine tl_nil ?_
           all_goals (
            first
            | (have hs := wpN_no (s := s) hc
               exact tk_round (k + 1, oo) ⟨by dsimp only; omega, by dsimp only; rw [hs]; exact hok⟩ (by dsimp only; omega) (.cons rfl (.cons rfl (.cons rfl (.cons rfl (.cons rfl (.cons rfl (.cons rfl .nil))))))) (fun _ h => by dsimp only; rw [hs]; exact h.subl SB.s SB.s))
            | (have hs := wpN_yes (s := s) hc
               exact tk_round (k + 1, oo') ⟨by dsimp only; omega, by dsimp only; rw [hs]; exact hok'⟩ (by dsimp only; omega) (.cons rfl (.cons rfl (.cons rfl (.cons rfl (.cons rfl (.cons rfl (.cons rfl .nil))))))) (fun _ h => by dsimp only; rw [hs]; exact h.subl SB.s SB.s)))
         · try simp only [qn1, qn2, qn3, qn4, qn5, qn6, qn7, qn8] at hc
           all_goals first | (exfalso; with_reducible exact bft hc) | (exfalso; with_reducible exact btf hc) | (exfalso; omega) | skip
           all_goals refine tc_skip ?_
           all_goals (refine hK8 ?_; try (clear hK8; clear K8))
           all_goals refine tc_region ?_
           all_goals refine tl_q (y_add rfl rfl (by omega)) rfl ?_
           all_goals refine tl_q (y_move rfl) rfl ?_
           all_goals refine tl_nil ?_
           all_goals (
            first
            | (have hs := wpN_no (s := s) hc
               exact tk_round (k + 1, oo) ⟨by dsimp only; omega, by dsimp only; rw [hs]; exact hok⟩ (by dsimp only; omega) (.cons rfl (.cons rfl (.cons rfl (.cons rfl (.cons rfl (.cons rfl (.cons rfl .nil))))))) (fun _ h => by dsimp only; rw [hs]; exact h.subl SB.s SB.s))
            | (have hs := wpN_yes (s := s) hc
               exact tk_round (k + 1, oo') ⟨by dsimp only; omega, by dsimp only; rw [hs]; exact hok'⟩ (by dsimp only; omega) (.cons rfl (.cons rfl (.cons rfl (.cons rfl (.cons rfl (.cons rfl (.cons rfl .nil))))))) (fun _ h => by dsimp only; rw [hs]; exact h.subl SB.s SB.s))))
      · try simp only [qn1, qn2, qn3, qn4, qn5, qn6, qn7, qn8] at hc
        all_goals first | (exfalso; with_reducible exact bft hc) | (exfalso; with_reducible exact btf hc) | (exfalso; omega) | skip
        all_goals refine tc_exit ?_
        all_goals (refine hK4 ?_; try (clear hK4; clear K4))
        all_goals refine tc_seq fun K11 hK11 => ?_
        all_goals refine tc_seq fun K12 hK12 => ?_
        all_goals refine tc_region ?_
        all_goals refine tl_q (y_field rfl) rfl ?_
        all_goals (first | refine tl_q (y_load1 rfl (by repeat constructor) (by rfl)) rfl ?_ | refine tl_q (y_loadNo (n := 5) (vs := [vi (s.ps.getD k pas0).b, vi (s.ps.getD k pas0).fr, vi (s.ps.getD k pas0).to, vi (s.ps.getD k pas0).lo, vi (s.ps.getD k pas0).hi]) rfl (fun w' hw' => by rw [show Int.toNat (k : Int) * 5 = k * 5 from by omega]; exact hcp w' [] (hw'.fr (w0 := w) (S := []) MI.m) (by simp) k (by omega))) rfl ?_ | refine tl_q (y_loadNo (n := 3) (vs := [vi (s.sg.getD j sgt0).b, vi (s.sg.getD j sgt0).h, .bool (s.sg.getD j sgt0).wh]) rfl (fun w' hw' => by rw [show Int.toNat (j : Int) * 3 = j * 3 from by omega]; exact hcg w' [] (hw'.fr (w0 := w) (S := []) MI.m) (by simp) j (by omega))) rfl ?_)
        all_goals refine tl_q (y_len rfl) rfl ?_
        all_goals refine tl_q (y_move rfl) rfl ?_
        all_goals refine tl_nil ?_
        all_goals (refine hK12 ?_; try (clear hK12; clear K12))
        all_goals refine tc_block ?_
        all_goals (
         refine tc_loop (fun p : Nat × OwnB => p.1 ≤ s.sg.length ∧ okE 3 (wgN s out p.1) p.2) (fun p => [(1, ov), (2, ptr b2), (4, ptr b4), (5, ptr b5), (33, .slice adg s.sg.length cpg), (34, vi s.sg.length), (35, vi p.1)]) (fun _ => [(w, [])]) (fun p => (b5, .cells #[vi s.B, vi s.P, vi s.L, vi s.F, tv, ouV (wpN s out k).length oo, ouV (wgN s out p.1).length p.2] 36 (0, 0)) :: (b4, .cells #[vi 0, vi 0, vi 0, vi 0, .slice none 0 0, .slice none 0 0, .slice none 0 0] 36 (0, 0)) :: (b2, .cells #[vi s.B, vi s.P, vi s.L, vi s.F, tv, .slice adp s.ps.length cpp, .slice adg s.sg.length cpg] 36 (0, 0)) :: (slE 89 sgE (wgN s out p.1) p.2 ++ slE 92 psE (wpN s out k) oo)) (fun p => s.sg.length - p.1) ?_ ?_
         · exact tk_start (0, none) ⟨Nat.zero_le _, rfl⟩ (.cons rfl (.cons rfl (.cons rfl (.cons rfl (.cons rfl (.cons rfl (.cons rfl .nil))))))) (fun _ h => by rw [slE_none]; exact h.subl SB.s SB.s)
         · rintro ⟨j, oo2⟩ ⟨hj, hok2⟩
           dsimp only at hj hok2 ⊢
           have hjl := wgN_len s out j
           all_goals refine tc_seq fun K13 hK13 => ?_
           all_goals refine tc_region ?_
           all_goals refine tl_q (y_lss rfl rfl) rfl ?_
           all_goals refine tl_nil ?_
           all_goals (refine hK13 ?_; try (clear hK13; clear K13))
           all_goals refine tc_seq fun K14 hK14 => ?_
           all_goals (
            refine tc_cond rfl (fun hc => ?_) (fun hc => ?_)
            · try simp only [qn1, qn2, qn3, qn4, qn5, qn6, qn7, qn8] at hc
              all_goals first | (exfalso; with_reducible exact bft hc) | (exfalso; with_reducible exact btf hc) | (exfalso; omega) | skip
              all_goals refine tc_skip ?_
              all_goals (refine hK14 ?_; try (clear hK14; clear K14))
              all_goals refine tc_seq fun K15 hK15 => ?_
              all_goals refine tc_block ?_
              all_goals refine tc_seq fun K16 hK16 => ?_
              all_goals refine tc_region ?_
              all_goals refine tl_q (y_move rfl) rfl ?_
              all_goals (first | refine tl_q (y_index rfl rfl (by omega) (hadp (by omega))) rfl ?_ | refine tl_q (y_index rfl rfl (by omega) (hadg (by omega))) rfl ?_ | refine tl_q (y_index rfl rfl (by omega) rfl) rfl ?_ | refine tl_q (y_indexA rfl rfl (by omega)) rfl ?_)
              all_goals (first | refine tl_q (y_loadW rfl (by repeat constructor) (by rfl)) rfl ?_ | refine tl_q (y_loadN rfl (by repeat constructor) (by (repeat (first | exact .nil | apply CA.cons rfl)); done)) rfl ?_ | refine tl_q (y_loadNo (n := 5) (vs := [vi (s.ps.getD k pas0).b, vi (s.ps.getD k pas0).fr, vi (s.ps.getD k pas0).to, vi (s.ps.getD k pas0).lo, vi (s.ps.getD k pas0).hi]) rfl (fun w' hw' => by rw [show Int.toNat (k : Int) * 5 = k * 5 from by omega]; exact hcp w' [] (hw'.fr (w0 := w) (S := []) MI.m) (by simp) k (by omega))) rfl ?_ | refine tl_q (y_loadNo (n := 3) (vs := [vi (s.sg.getD j sgt0).b, vi (s.sg.getD j sgt0).h, .bool (s.sg.getD j sgt0).wh]) rfl (fun w' hw' => by rw [show Int.toNat (j : Int) * 3 = j * 3 from by omega]; exact hcg w' [] (hw'.fr (w0 := w) (S := []) MI.m) (by simp) j (by omega))) rfl ?_)
              all_goals refine tl_e (e_allocN rfl) rfl (fun b9 _ => ?_)
              all_goals refine tl_q (y_assign rfl) rfl ?_
              all_goals refine tl_e (e_storeW rfl rfl (by repeat constructor) (by rfl) (by rfl) (by simp [Value.oneCell'])) rfl (fun _ _ => ?_)
              all_goals refine tl_nil ?_
              all_goals (refine hK16 ?_; try (clear hK16; clear K16))
              all_goals refine tc_seq fun K17 hK17 => ?_
              all_goals refine tc_region ?_
              all_goals refine tl_q (y_move rfl) rfl ?_
              all_goals refine tl_q (y_field rfl) rfl ?_
              all_goals (first | refine tl_q (y_load1 rfl (by repeat constructor) (by rfl)) rfl ?_ | refine tl_q (y_loadNo (n := 5) (vs := [vi (s.ps.getD k pas0).b, vi (s.ps.getD k pas0).fr, vi (s.ps.getD k pas0).to, vi (s.ps.getD k pas0).lo, vi (s.ps.getD k pas0).hi]) rfl (fun w' hw' => by rw [show Int.toNat (k : Int) * 5 = k * 5 from by omega]; exact hcp w' [] (hw'.fr (w0 := w) (S := []) MI.m) (by simp) k (by omega))) rfl ?_ | refine tl_q (y_loadNo (n := 3) (vs := [vi (s.sg.getD j sgt0).b, vi (s.sg.getD j sgt0).h, .bool (s.sg.getD j sgt0).wh]) rfl (fun w' hw' => by rw [show Int.toNat (j : Int) * 3 = j * 3 from by omega]; exact hcg w' [] (hw'.fr (w0 := w) (S := []) MI.m) (by simp) j (by omega))) rfl ?_)
              all_goals refine tl_q (y_len rfl) rfl ?_
              all_goals refine tl_q (y_move rfl) rfl ?_
              all_goals refine tl_q (y_add rfl rfl (by omega)) rfl ?_
              all_goals refine tl_e (e_callV rfl (.cons rfl (.cons rfl .nil)) (fun w' hw' => contains_c out (by omega) _ _ w' (hro.fr (hw'.fr (w0 := w) (S := []) MI.m)))) rfl (fun _ _ => ?_)
              all_goals (first | refine tl_q (y_not_dec rfl) rfl ?_ | refine tl_q (y_not rfl) rfl ?_)
              all_goals refine tl_nil ?_
              all_goals (refine hK17 ?_; try (clear hK17; clear K17))
              all_goals (
               refine tc_cond rfl (fun hc => ?_) (fun hc => ?_)
               · try simp only [qn1, qn2, qn3, qn4, qn5, qn6, qn7, qn8] at hc
                 all_goals first | (exfalso; with_reducible exact bft hc) | (exfalso; with_reducible exact btf hc) | (exfalso; omega) | skip
                 all_goals refine tc_region ?_
                 all_goals refine tl_q (y_field rfl) rfl ?_
                 all_goals (first | refine tl_q (y_load1 rfl (by repeat constructor) (by rfl)) rfl ?_ | refine tl_q (y_loadNo (n := 5) (vs := [vi (s.ps.getD k pas0).b, vi (s.ps.getD k pas0).fr, vi (s.ps.getD k pas0).to, vi (s.ps.getD k pas0).lo, vi (s.ps.getD k pas0).hi]) rfl (fun w' hw' => by rw [show Int.toNat (k : Int) * 5 = k * 5 from by omega]; exact hcp w' [] (hw'.fr (w0 := w) (S := []) MI.m) (by simp) k (by omega))) rfl ?_ | refine tl_q (y_loadNo (n := 3) (vs := [vi (s.sg.getD j sgt0).b, vi (s.sg.getD j sgt0).h, .bool (s.sg.getD j sgt0).wh]) rfl (fun w' hw' => by rw [show Int.toNat (j : Int) * 3 = j * 3 from by omega]; exact hcg w' [] (hw'.fr (w0 := w) (S := []) MI.m) (by simp) j (by omega))) rfl ?_)
                 all_goals (first | refine tl_q (y_loadW rfl (by repeat constructor) (by rfl)) rfl ?_ | refine tl_q (y_loadN rfl (by repeat constructor) (by (repeat (first | exact .nil | apply CA.cons rfl)); done)) rfl ?_ | refine tl_q (y_loadNo (n := 5) (vs := [vi (s.ps.getD k pas0).b, vi (s.ps.getD k pas0).fr, vi (s.ps.getD k pas0).to, vi (s.ps.getD k pas0).lo, vi (s.ps.getD k pas0).hi]) rfl (fun w' hw' => by rw [show Int.toNat (k : Int) * 5 = k * 5 from by omega]; exact hcp w' [] (hw'.fr (w0 := w) (S := []) MI.m) (by simp) k (by omega))) rfl ?_ | refine tl_q (y_loadNo (n := 3) (vs := [vi (s.sg.getD j sgt0).b, vi (s.sg.getD j sgt0).h, .bool (s.sg.getD j sgt0).wh]) rfl (fun w' hw' => by rw [show Int.toNat (j : Int) * 3 = j * 3 from by omega]; exact hcg w' [] (hw'.fr (w0 := w) (S := []) MI.m) (by simp) j (by omega))) rfl ?_)
                 all_goals refine tl_e (e_bsliceG rfl (.agg rfl rfl .nil) rfl rfl) rfl (fun _ _ => ?_)
                 all_goals (first | refine tl_e (e_appendE (enc := psE) (xs := wpN s out k) (ys := [s.ps.getD k pas0]) psE_len psE_one rfl rfl rfl hok (fun _ => by repeat constructor) (fun w' hw' => RdS.own0 psE_len hw' (by repeat constructor)) (by simp only [List.length_cons, List.length_nil]; omega) rfl) rfl (fun oo' hok' => ?_) | refine tl_e (e_appendE (enc := sgE) (xs := wgN s out j) (ys := [s.sg.getD j sgt0]) sgE_len sgE_one rfl rfl rfl hok2 (fun _ => by repeat constructor) (fun w' hw' => RdS.own0 sgE_len hw' (by repeat constructor)) (by simp only [List.length_cons, List.length_nil]; omega) rfl) rfl (fun oo' hok' => ?_))
                 all_goals refine tl_q (y_field rfl) rfl ?_
                 all_goals refine tl_e (e_store1 rfl rfl (by repeat constructor) (by repeat constructor) (by rfl) (by rfl)) rfl (fun _ _ => ?_)
                 all_goals refine tl_nil ?_
                 all_goals (refine hK15 ?_; try (clear hK15; clear K15))
                 all_goals refine tc_region ?_
                 all_goals refine tl_q (y_add rfl rfl (by omega)) rfl ?_
                 all_goals refine tl_q (y_move rfl) rfl ?_
                 all_goals refine tl_nil ?_
                 all_goals (
                  first
                  | (have hs := wgN_no (s := s) hc
                     exact tk_round (j + 1, oo2) ⟨by dsimp only; omega, by dsimp only; rw [hs]; exact hok2⟩ (by dsimp only; omega) (.cons rfl (.cons rfl (.cons rfl (.cons rfl (.cons rfl (.cons rfl (.cons rfl .nil))))))) (fun _ h => by dsimp only; rw [hs]; exact h.subl SB.s SB.s))
                  | (have hs := wgN_yes (s := s) hc
                     exact tk_round (j + 1, oo') ⟨by dsimp only; omega, by dsimp only; rw [hs]; exact hok'⟩ (by dsimp only; omega) (.cons rfl (.cons rfl (.cons rfl (.cons rfl (.cons rfl (.cons rfl (.cons rfl .nil))))))) (fun _ h => by dsimp only; rw [hs]; exact h.subl SB.s SB.s)))
               · try simp only [qn1, qn2, qn3, qn4, qn5, qn6, qn7, qn8] at hc
                 all_goals first | (exfalso; with_reducible exact bft hc) | (exfalso; with_reducible exact btf hc) | (exfalso; omega) | skip
                 all_goals refine tc_skip ?_
                 all_goals (refine hK15 ?_; try (clear hK15; clear K15))
                 all_goals refine tc_region ?_
                 all_goals refine tl_q (y_add rfl rfl (by omega)) rfl ?_
                 all_goals refine tl_q (y_move rfl) rfl ?_
                 all_goals refine tl_nil ?_
                 all_goals (
                  first
                  | (have hs := wgN_no (s := s) hc
                     exact tk_round (j + 1, oo2) ⟨by dsimp only; omega, by dsimp only; rw [hs]; exact hok2⟩ (by dsimp only; omega) (.cons rfl (.cons rfl (.cons rfl (.cons rfl (.cons rfl (.cons rfl (.cons rfl .nil))))))) (fun _ h => by dsimp only; rw [hs]; exact h.subl SB.s SB.s))
                  | (have hs := wgN_yes (s := s) hc
                     exact tk_round (j + 1, oo') ⟨by dsimp only; omega, by dsimp only; rw [hs]; exact hok'⟩ (by dsimp only; omega) (.cons rfl (.cons rfl (.cons rfl (.cons rfl (.cons rfl (.cons rfl (.cons rfl .nil))))))) (fun _ h => by dsimp only; rw [hs]; exact h.subl SB.s SB.s))))
            · try simp only [qn1, qn2, qn3, qn4, qn5, qn6, qn7, qn8] at hc
              all_goals first | (exfalso; with_reducible exact bft hc) | (exfalso; with_reducible exact btf hc) | (exfalso; omega) | skip
              all_goals refine tc_exit ?_
              all_goals (refine hK11 ?_; try (clear hK11; clear K11))
              all_goals refine tc_seq fun K18 hK18 => ?_
              all_goals refine tc_region ?_
              all_goals (first | refine tl_q (y_loadW rfl (by repeat constructor) (by rfl)) rfl ?_ | refine tl_q (y_loadN rfl (by repeat constructor) (by (repeat (first | exact .nil | apply CA.cons rfl)); done)) rfl ?_ | refine tl_q (y_loadNo (n := 5) (vs := [vi (s.ps.getD k pas0).b, vi (s.ps.getD k pas0).fr, vi (s.ps.getD k pas0).to, vi (s.ps.getD k pas0).lo, vi (s.ps.getD k pas0).hi]) rfl (fun w' hw' => by rw [show Int.toNat (k : Int) * 5 = k * 5 from by omega]; exact hcp w' [] (hw'.fr (w0 := w) (S := []) MI.m) (by simp) k (by omega))) rfl ?_ | refine tl_q (y_loadNo (n := 3) (vs := [vi (s.sg.getD j sgt0).b, vi (s.sg.getD j sgt0).h, .bool (s.sg.getD j sgt0).wh]) rfl (fun w' hw' => by rw [show Int.toNat (j : Int) * 3 = j * 3 from by omega]; exact hcg w' [] (hw'.fr (w0 := w) (S := []) MI.m) (by simp) j (by omega))) rfl ?_)
              all_goals refine tl_e (e_storeW rfl rfl (by repeat constructor) (by rfl) (by rfl) (smV_ones (s := wthF s out) hot rfl rfl)) rfl (fun _ _ => ?_)
              all_goals refine tl_nil ?_
              all_goals (refine hK18 ?_; try (clear hK18; clear K18))
              all_goals refine tc_ret ?_
              all_goals (repeat (first | refine tk_then_ret ?_ | refine tk_block_ret ?_ | refine tk_scope_ret ?_))
              all_goals first | refine tk_ret rfl rfl (.cons (.agg inferInstance rfl (by repeat constructor) (by rfl)) .nil) ?_ | refine tk_retM rfl (by repeat constructor) rfl (.cons (.agg inferInstance rfl (by repeat constructor) (by rfl)) .nil) ?_
              all_goals (
               obtain rfl : k = s.ps.length := by omega
               obtain rfl : j = s.sg.length := by omega
               exact fun w' hw' => ⟨(ouA oo, ouA oo2), rfl, hw'.fr (w0 := w) (S := []) MI.m, hr0.st.fr (hw'.fr (w0 := w) (S := []) MI.m), RdS.ofO psE_len hok hw' (by repeat constructor), RdS.ofO sgE_len hok2 hw' (by repeat constructor)⟩)))))
end Go.Sp
/-
  Package sample: the entries of a bottle; the first entry that contradicts.
-/
namespace Go.Sp
open Go Go.Proofs
def slA (a : Option Addr) (cap n sz : Nat) : Option Addr := if cap = n then a else a.map (·.add (n * sz))
/-- 's[n:]'. -/
theorem y_sliceFrom {P : Program} {F : List (Nat × Value)} {bs : List (World × List Nat)} {H : List (Nat × Obj)} {d : Option Tmp} {ty : TypeId} {pos : String} {after : Array Edge} {g : Option (Nat × Bool)} {x y : Operand} {t e : TypeId} {sz : Nat} [hs : TySlice P t e sz] {a0 : Option Addr} {len cap : Nat} {k : IntKind} {i : Int} {n : Nat} (h : evalO F x = some (.slice a0 len cap)) (hy : evalO F y = some (.int k i)) (hi : i = n) (hn : n ≤ len) :
    OpY P ⟨d, .slice t x (some y) none none, ty, pos, after, g⟩ F bs H (.slice (slA a0 cap n sz) (len - n) (cap - n)) := by
  unfold OpY
  intro N a w ht hw
  subst hi
  have hz := hs.info
  simp [execOp, Instr.sliceAt, Instr.slice, ht.eval h, ht.eval hy, underlying_run hs.ty, Result.andThen, Instr.sliceBounds, Instr.sliceBound, asIntOf, hn, sizeOf_run hz, slA]
theorem RdI.drop {w : World} {a : Option Addr} {cap n : Nat} {xs : List Int} (h : RdI w (.slice a xs.length cap) xs) (hn : n ≤ xs.length) (hc : xs.length ≤ cap) : RdI w (.slice (slA a cap n 1) (xs.length - n) (cap - n)) (xs.drop n) := by
  by_cases h0 : xs.length = n
  · refine ⟨by simp, _, _, by rw [List.length_drop], fun hne => absurd (by rw [List.length_drop]; omega) hne⟩
  · obtain ⟨ad, cp, b, o, e1, e2, e3⟩ := h.open
    cases e1
    have ha := e2 (by omega)
    subst ha
    refine ⟨by simp, some ⟨b, o + n, none⟩, cap - n, ?_, fun _ => ⟨b, o + n, rfl, ?_⟩⟩
    · rw [List.length_drop]
      unfold slA
      rw [if_neg (by omega)]
      simp only [Option.map_some, Nat.mul_one]
      congr 2
      unfold Addr.add
      split
      · rename_i h0; subst h0; rfl
      · rfl
    · refine CA.ofGet _ _ _ (by simp) fun j hj => ?_
      rw [List.length_drop, Nat.mul_one] at hj
      rw [Nat.add_assoc, e3 w (Fr.refl _ _) (n + j) (by omega), List.getElem?_map, List.getElem?_drop, List.getD_eq_getElem?_getD, List.getElem?_eq_getElem (by omega)]; rfl
theorem okE_cap {α : Type} {k : Nat} {xs : List α} {oo : OwnB} (h : okE k xs oo) : xs.length ≤ (ouA oo).2 := by
  rcases oo with _ | ⟨b, cap, junk⟩
  · have : xs = [] := h
    rw [this]; exact Nat.le_refl _
  · exact h.1
def epN (s : Smp) (b : Int) (n : Nat) : List Int := ((List.range n).filter fun i => decide ((s.ps.getD i pas0).b = b)).map fun (i : Nat) => (i : Int)
def egN (s : Smp) (b : Int) (n : Nat) : List Int := ((List.range n).filter fun i => decide ((s.sg.getD i sgt0).b = b)).map fun (i : Nat) => (s.ps.length : Int) + (i : Int)
def entN (s : Smp) (b : Int) (n : Nat) : List Int := epN s b s.ps.length ++ egN s b n
abbrev entL (s : Smp) (b : Int) : List Int := entN s b s.sg.length
theorem epN_yes {s : Smp} {b : Int} {n : Nat} (h : (s.ps.getD n pas0).b = b) : epN s b (n + 1) = epN s b n ++ [(n : Int)] := filt_yes (by simpa using h)
theorem epN_no {s : Smp} {b : Int} {n : Nat} (h : ¬ (s.ps.getD n pas0).b = b) : epN s b (n + 1) = epN s b n := filt_no (by simpa using h)
theorem entN_yes {s : Smp} {b : Int} {n : Nat} (h : (s.sg.getD n sgt0).b = b) : entN s b (n + 1) = entN s b n ++ [(s.ps.length : Int) + (n : Int)] := by
  unfold entN
  rw [show egN s b (n + 1) = egN s b n ++ [(s.ps.length : Int) + (n : Int)] from filt_yes (by simpa using h), List.append_assoc]
theorem entN_no {s : Smp} {b : Int} {n : Nat} (h : ¬ (s.sg.getD n sgt0).b = b) : entN s b (n + 1) = entN s b n := by
  unfold entN
  rw [show egN s b (n + 1) = egN s b n from filt_no (by simpa using h)]
theorem epN_len (s : Smp) (b : Int) (n : Nat) : (epN s b n).length ≤ n := filt_len
theorem entN_len (s : Smp) (b : Int) (n : Nat) : (entN s b n).length ≤ s.ps.length + n := by
  unfold entN
  rw [List.length_append]
  have h1 := epN_len s b s.ps.length
  have h2 : (egN s b n).length ≤ n := filt_len
  omega
set_option maxHeartbeats 2000000 in
theorem entries_c (s : Smp) (hf : Few s) (b : Int) (tv pv gv : Value) (w : World) (hr : RdSm w s tv pv gv) :
    CnX Tryz.prog 91 #[smV s tv pv gv, vi b] w [] (fun y : Option Addr × Nat => slV (entL s b).length y) (fun y w' => RdS 1 inE w' (slV (entL s b).length y) (entL s b)) := by
  have hr0 := hr
  have hfp := hf.ps
  have hfg := hf.sg
  obtain ⟨adp, cpp, bp, op, rfl, hadp, hcp⟩ := hr.ps.open psE_len pas0
  obtain ⟨adg, cpg, bg, og, rfl, hadg, hcg⟩ := hr.sg.open sgE_len sgt0
  refine cnx0 (vs := [_, _]) Tryz.func91 rfl rfl ?_
  all_goals refine tc_seq fun K1 hK1 => ?_; refine tc_region ?_; refine tl_e (e_box rfl rfl rfl) rfl (fun b2 _ => ?_); refine tl_q (y_assign rfl) rfl ?_; refine tl_nil ?_; ((refine hK1 ?_; try (clear hK1; clear K1)))
  all_goals refine tc_seq fun K2 hK2 => ?_; refine tc_seq fun K3 hK3 => ?_; refine tc_region ?_; refine tl_q (y_field rfl) rfl ?_; refine tl_q (y_load1 rfl (by repeat constructor) (by rfl)) rfl ?_; refine tl_q (y_len rfl) rfl ?_; refine tl_q (y_move rfl) rfl ?_; refine tl_nil ?_; ((refine hK3 ?_; try (clear hK3; clear K3)))
  all_goals refine tc_block ?_
  all_goals (
   refine tc_loop (fun p : Nat × OwnB => p.1 ≤ s.ps.length ∧ okE 1 (epN s b p.1) p.2) (fun p => [(1, vi b), (2, ptr b2), (4, ouV (epN s b p.1).length p.2), (10, .slice adp s.ps.length cpp), (11, vi s.ps.length), (12, vi p.1)]) (fun _ => [(w, [])]) (fun p => (b2, .cells #[vi s.B, vi s.P, vi s.L, vi s.F, tv, .slice adp s.ps.length cpp, .slice adg s.sg.length cpg] 36 (0, 0)) :: slE 3 inE (epN s b p.1) p.2) (fun p => s.ps.length - p.1) ?_ ?_
   · exact tk_start (0, none) ⟨Nat.zero_le _, rfl⟩ (.cons rfl (.cons rfl (.cons rfl (.cons rfl (.cons rfl (.cons rfl .nil)))))) (fun _ h => by rw [slE_none]; exact h.subl SB.s SB.s)
   · rintro ⟨k, oo⟩ ⟨hk, hok⟩
     dsimp only at hk hok ⊢
     have hkl := epN_len s b k
     all_goals refine tc_seq fun K4 hK4 => ?_; refine tc_region ?_; refine tl_q (y_lss rfl rfl) rfl ?_; refine tl_nil ?_; ((refine hK4 ?_; try (clear hK4; clear K4)))
     all_goals refine tc_seq fun K5 hK5 => ?_
     all_goals (
      refine tc_cond rfl (fun hc => ?_) (fun hc => ?_)
      · try simp only [qn1, qn2, qn3, qn4, qn5, qn6, qn7, qn8] at hc
        all_goals refine tc_skip ?_; ((refine hK5 ?_; try (clear hK5; clear K5)))
        all_goals refine tc_seq fun K6 hK6 => ?_; refine tc_block ?_; refine tc_seq fun K7 hK7 => ?_; refine tc_region ?_; refine tl_q (y_move rfl) rfl ?_; refine tl_q (y_index rfl rfl (by omega) (hadp (by omega))) rfl ?_; ((refine tl_q (y_loadNo (n := 5) (vs := [vi (s.ps.getD k pas0).b, vi (s.ps.getD k pas0).fr, vi (s.ps.getD k pas0).to, vi (s.ps.getD k pas0).lo, vi (s.ps.getD k pas0).hi]) rfl (fun w' hw' => by rw [show Int.toNat (k : Int) * 5 = k * 5 from by omega]; exact hcp w' [] (hw'.fr (w0 := w) (S := []) MI.m) (by simp) k (by omega))) rfl ?_))
        all_goals refine tl_e (e_allocN rfl) rfl (fun b6 _ => ?_); refine tl_q (y_assign rfl) rfl ?_; refine tl_e (e_storeW rfl rfl (by repeat constructor) (by rfl) (by rfl) (by simp [Value.oneCell'])) rfl (fun _ _ => ?_); refine tl_nil ?_; ((refine hK7 ?_; try (clear hK7; clear K7)))
        all_goals refine tc_seq fun K8 hK8 => ?_; refine tc_region ?_; refine tl_q (y_field rfl) rfl ?_; refine tl_q (y_load1 rfl (by repeat constructor) (by rfl)) rfl ?_; refine tl_q (y_move rfl) rfl ?_; refine tl_q (y_eql rfl rfl) rfl ?_; refine tl_nil ?_; ((refine hK8 ?_; try (clear hK8; clear K8)))
        all_goals (
         refine tc_cond rfl (fun hc => ?_) (fun hc => ?_)
         · try simp only [qn1, qn2, qn3, qn4, qn5, qn6, qn7, qn8] at hc
           all_goals refine tc_region ?_; refine tl_q (y_move rfl) rfl ?_; refine tl_q (y_move rfl) rfl ?_; (refine tl_e (e_bslice rfl (by (repeat (first | exact .nil | apply PV.one rfl rfl)); done) rfl rfl) rfl (fun _ _ => ?_))
           all_goals ((refine tl_e (e_appendE (enc := inE) (xs := epN s b k) (ys := [(k : Int)]) inE_len inE_one rfl rfl rfl hok (fun _ => by repeat constructor) (fun w' hw' => RdS.own0 inE_len hw' (by repeat constructor)) (by simp only [List.length_cons, List.length_nil]; omega) rfl) rfl (fun oo' hok' => ?_)))
           all_goals refine tl_q (y_assign rfl) rfl ?_; refine tl_nil ?_; ((refine hK6 ?_; try (clear hK6; clear K6)))
           all_goals refine tc_region ?_; refine tl_q (y_add rfl rfl (by omega)) rfl ?_; refine tl_q (y_move rfl) rfl ?_; refine tl_nil ?_
           all_goals (
            first
            | (have hs := epN_no (s := s) hc
               exact tk_round (k + 1, oo) ⟨by dsimp only; omega, by dsimp only; rw [hs]; exact hok⟩ (by dsimp only; omega) (.cons rfl (.cons rfl (.cons (by dsimp only; rw [hs]; rfl) (.cons rfl (.cons rfl (.cons rfl .nil)))))) (fun _ h => by dsimp only; rw [hs]; exact h.subl SB.s SB.s))
            | (have hs := epN_yes (s := s) hc
               exact tk_round (k + 1, oo') ⟨by dsimp only; omega, by dsimp only; rw [hs]; exact hok'⟩ (by dsimp only; omega) (.cons rfl (.cons rfl (.cons (by dsimp only; rw [hs]; rfl) (.cons rfl (.cons rfl (.cons rfl .nil)))))) (fun _ h => by dsimp only; rw [hs]; exact h.subl SB.s SB.s)))
         · try simp only [qn1, qn2, qn3, qn4, qn5, qn6, qn7, qn8] at hc
           all_goals refine tc_skip ?_; ((refine hK6 ?_; try (clear hK6; clear K6)))
           all_goals refine tc_region ?_; refine tl_q (y_add rfl rfl (by omega)) rfl ?_; refine tl_q (y_move rfl) rfl ?_; refine tl_nil ?_
           all_goals (
            first
            | (have hs := epN_no (s := s) hc
               exact tk_round (k + 1, oo) ⟨by dsimp only; omega, by dsimp only; rw [hs]; exact hok⟩ (by dsimp only; omega) (.cons rfl (.cons rfl (.cons (by dsimp only; rw [hs]; rfl) (.cons rfl (.cons rfl (.cons rfl .nil)))))) (fun _ h => by dsimp only; rw [hs]; exact h.subl SB.s SB.s))
            | (have hs := epN_yes (s := s) hc
               exact tk_round (k + 1, oo') ⟨by dsimp only; omega, by dsimp only; rw [hs]; exact hok'⟩ (by dsimp only; omega) (.cons rfl (.cons rfl (.cons (by dsimp only; rw [hs]; rfl) (.cons rfl (.cons rfl (.cons rfl .nil)))))) (fun _ h => by dsimp only; rw [hs]; exact h.subl SB.s SB.s))))
      · try simp only [qn1, qn2, qn3, qn4, qn5, qn6, qn7, qn8] at hc
        all_goals refine tc_exit ?_; ((refine hK2 ?_; try (clear hK2; clear K2)))
        all_goals refine tc_seq fun K9 hK9 => ?_; refine tc_seq fun K10 hK10 => ?_; refine tc_region ?_; refine tl_q (y_field rfl) rfl ?_; refine tl_q (y_load1 rfl (by repeat constructor) (by rfl)) rfl ?_; refine tl_q (y_len rfl) rfl ?_; refine tl_q (y_move rfl) rfl ?_; refine tl_nil ?_; ((refine hK10 ?_; try (clear hK10; clear K10)))
        all_goals refine tc_block ?_
        all_goals (
         refine tc_loop (fun p : Nat × OwnB => p.1 ≤ s.sg.length ∧ okE 1 (entN s b p.1) p.2) (fun p => [(1, vi b), (2, ptr b2), (4, ouV (entN s b p.1).length p.2), (27, .slice adg s.sg.length cpg), (28, vi s.sg.length), (29, vi p.1)]) (fun _ => [(w, [])]) (fun p => (b2, .cells #[vi s.B, vi s.P, vi s.L, vi s.F, tv, .slice adp s.ps.length cpp, .slice adg s.sg.length cpg] 36 (0, 0)) :: slE 3 inE (entN s b p.1) p.2) (fun p => s.sg.length - p.1) ?_ ?_
         · obtain rfl : k = s.ps.length := by omega
           have e0 : entN s b 0 = epN s b s.ps.length := by simp [entN, egN]
           exact tk_start (0, oo) ⟨Nat.zero_le _, by dsimp only; rw [e0]; exact hok⟩ (.cons rfl (.cons rfl (.cons (by dsimp only; rw [e0]; rfl) (.cons rfl (.cons rfl (.cons rfl .nil)))))) (fun _ h => by dsimp only; rw [e0]; exact h.subl SB.s SB.s)
         · rintro ⟨j, oo2⟩ ⟨hj, hok2⟩
           dsimp only at hj hok2 ⊢
           have hjl := entN_len s b j
           all_goals refine tc_seq fun K11 hK11 => ?_; refine tc_region ?_; refine tl_q (y_lss rfl rfl) rfl ?_; refine tl_nil ?_; ((refine hK11 ?_; try (clear hK11; clear K11)))
           all_goals refine tc_seq fun K12 hK12 => ?_
           all_goals (
            refine tc_cond rfl (fun hc => ?_) (fun hc => ?_)
            · try simp only [qn1, qn2, qn3, qn4, qn5, qn6, qn7, qn8] at hc
              all_goals refine tc_skip ?_; ((refine hK12 ?_; try (clear hK12; clear K12)))
              all_goals refine tc_seq fun K13 hK13 => ?_; refine tc_block ?_; refine tc_seq fun K14 hK14 => ?_; refine tc_region ?_; refine tl_q (y_move rfl) rfl ?_; refine tl_q (y_index rfl rfl (by omega) (hadg (by omega))) rfl ?_; ((refine tl_q (y_loadNo (n := 3) (vs := [vi (s.sg.getD j sgt0).b, vi (s.sg.getD j sgt0).h, .bool (s.sg.getD j sgt0).wh]) rfl (fun w' hw' => by rw [show Int.toNat (j : Int) * 3 = j * 3 from by omega]; exact hcg w' [] (hw'.fr (w0 := w) (S := []) MI.m) (by simp) j (by omega))) rfl ?_))
              all_goals refine tl_e (e_allocN rfl) rfl (fun b8 _ => ?_); refine tl_q (y_assign rfl) rfl ?_; refine tl_e (e_storeW rfl rfl (by repeat constructor) (by rfl) (by rfl) (by simp [Value.oneCell'])) rfl (fun _ _ => ?_); refine tl_nil ?_; ((refine hK14 ?_; try (clear hK14; clear K14)))
              all_goals refine tc_seq fun K15 hK15 => ?_; refine tc_region ?_; refine tl_q (y_field rfl) rfl ?_; refine tl_q (y_load1 rfl (by repeat constructor) (by rfl)) rfl ?_; refine tl_q (y_move rfl) rfl ?_; refine tl_q (y_eql rfl rfl) rfl ?_; refine tl_nil ?_; ((refine hK15 ?_; try (clear hK15; clear K15)))
              all_goals (
               refine tc_cond rfl (fun hc => ?_) (fun hc => ?_)
               · try simp only [qn1, qn2, qn3, qn4, qn5, qn6, qn7, qn8] at hc
                 all_goals refine tc_region ?_; refine tl_q (y_move rfl) rfl ?_; refine tl_q (y_field rfl) rfl ?_; refine tl_q (y_load1 rfl (by repeat constructor) (by rfl)) rfl ?_; refine tl_q (y_len rfl) rfl ?_; refine tl_q (y_move rfl) rfl ?_; refine tl_q (y_add rfl rfl (by omega)) rfl ?_; (refine tl_e (e_bslice rfl (by (repeat (first | exact .nil | apply PV.one rfl rfl)); done) rfl rfl) rfl (fun _ _ => ?_))
                 all_goals ((refine tl_e (e_appendE (enc := inE) (xs := entN s b j) (ys := [(s.ps.length : Int) + (j : Int)]) inE_len inE_one rfl rfl rfl hok2 (fun _ => by repeat constructor) (fun w' hw' => RdS.own0 inE_len hw' (by repeat constructor)) (by simp only [List.length_cons, List.length_nil]; omega) rfl) rfl (fun oo' hok' => ?_)))
                 all_goals refine tl_q (y_assign rfl) rfl ?_; refine tl_nil ?_; ((refine hK13 ?_; try (clear hK13; clear K13)))
                 all_goals refine tc_region ?_; refine tl_q (y_add rfl rfl (by omega)) rfl ?_; refine tl_q (y_move rfl) rfl ?_; refine tl_nil ?_
                 all_goals (
                  first
                  | (have hs := entN_no (s := s) hc
                     exact tk_round (j + 1, oo2) ⟨by dsimp only; omega, by dsimp only; rw [hs]; exact hok2⟩ (by dsimp only; omega) (.cons rfl (.cons rfl (.cons (by dsimp only; rw [hs]; rfl) (.cons rfl (.cons rfl (.cons rfl .nil)))))) (fun _ h => by dsimp only; rw [hs]; exact h.subl SB.s SB.s))
                  | (have hs := entN_yes (s := s) hc
                     exact tk_round (j + 1, oo') ⟨by dsimp only; omega, by dsimp only; rw [hs]; exact hok'⟩ (by dsimp only; omega) (.cons rfl (.cons rfl (.cons (by dsimp only; rw [hs]; rfl) (.cons rfl (.cons rfl (.cons rfl .nil)))))) (fun _ h => by dsimp only; rw [hs]; exact h.subl SB.s SB.s)))
               · try simp only [qn1, qn2, qn3, qn4, qn5, qn6, qn7, qn8] at hc
                 all_goals refine tc_skip ?_; ((refine hK13 ?_; try (clear hK13; clear K13)))
                 all_goals refine tc_region ?_; refine tl_q (y_add rfl rfl (by omega)) rfl ?_; refine tl_q (y_move rfl) rfl ?_; refine tl_nil ?_
                 all_goals (
                  first
                  | (have hs := entN_no (s := s) hc
                     exact tk_round (j + 1, oo2) ⟨by dsimp only; omega, by dsimp only; rw [hs]; exact hok2⟩ (by dsimp only; omega) (.cons rfl (.cons rfl (.cons (by dsimp only; rw [hs]; rfl) (.cons rfl (.cons rfl (.cons rfl .nil)))))) (fun _ h => by dsimp only; rw [hs]; exact h.subl SB.s SB.s))
                  | (have hs := entN_yes (s := s) hc
                     exact tk_round (j + 1, oo') ⟨by dsimp only; omega, by dsimp only; rw [hs]; exact hok'⟩ (by dsimp only; omega) (.cons rfl (.cons rfl (.cons (by dsimp only; rw [hs]; rfl) (.cons rfl (.cons rfl (.cons rfl .nil)))))) (fun _ h => by dsimp only; rw [hs]; exact h.subl SB.s SB.s))))
            · try simp only [qn1, qn2, qn3, qn4, qn5, qn6, qn7, qn8] at hc
              all_goals refine tc_exit ?_; ((refine hK9 ?_; try (clear hK9; clear K9)))
              all_goals refine tc_seq fun K16 hK16 => ?_; refine tc_region ?_; refine tl_q (y_move rfl) rfl ?_; refine tl_q (y_assign rfl) rfl ?_; refine tl_nil ?_; ((refine hK16 ?_; try (clear hK16; clear K16)))
              all_goals refine tc_ret ?_; (repeat (first | refine tk_then_ret ?_))
              all_goals (refine tk_ret rfl rfl (.cons (.tmp rfl) .nil) ?_)
              all_goals (
               obtain rfl : j = s.sg.length := by omega
               exact fun w' hw' => ⟨ouA oo2, rfl, hw'.fr (w0 := w) (S := []) MI.m, RdS.ofO inE_len hok2 hw' (by repeat constructor)⟩)))))
theorem manyS_sub {l l' : List Pas} (h : l'.Sublist l) (hl : ∀ p ∈ l, 1 ≤ p.hi - p.lo + 1) : 1 ≤ manyS l' ∧ manyS l' ≤ manyS l := by
  induction h with
  | slnil => simp [manyS]
  | @cons l' l p _ ih =>
    obtain ⟨a1, a2⟩ := ih (fun q hq => hl q (List.mem_cons_of_mem _ hq))
    have hp := hl p List.mem_cons_self
    refine ⟨a1, ?_⟩
    rw [manyS]
    have := Int.mul_le_mul (a := 1) (c := p.hi - p.lo + 1) (b := manyS l') (d := manyS l) hp a2 (by omega) (by omega)
    omega
  | @cons_cons l' l p _ ih =>
    obtain ⟨a1, a2⟩ := ih (fun q hq => hl q (List.mem_cons_of_mem _ hq))
    have hp := hl p List.mem_cons_self
    rw [manyS, manyS]
    refine ⟨?_, Int.mul_le_mul_of_nonneg_left a2 (by omega)⟩
    have := Int.mul_le_mul (a := 1) (c := p.hi - p.lo + 1) (b := 1) (d := manyS l') hp a1 (by omega) (by omega)
    omega
theorem filt_sub {α : Type} (l : List α) (d : α) (p : Nat → Bool) : (((List.range l.length).filter p).map fun i => l.getD i d).Sublist l := by
  have h1 : ((List.range l.length).map fun i => l.getD i d) = l := by
    apply List.ext_getElem?
    intro i
    rw [List.getElem?_map]
    by_cases hi : i < l.length
    · rw [List.getElem?_range hi]
      simp [List.getElem?_eq_getElem hi]
    · rw [List.getElem?_eq_none (by simp; omega), List.getElem?_eq_none (by omega)]; rfl
  have h2 : (((List.range l.length).filter p).map fun i => l.getD i d).Sublist ((List.range l.length).map fun i => l.getD i d) := List.filter_sublist.map _
  rwa [h1] at h2
theorem VSm.sub {s : Smp} (hv : VSm s) {ps : List Pas} {sg : List Sgt} (h1 : ps.Sublist s.ps) (h2 : sg.Sublist s.sg) : VSm { s with ps := ps, sg := sg } :=
  ⟨hv.b1, hv.b3, hv.p1, hv.p4, hv.l0, hv.l9, hv.f0, hv.f1, hv.st, Nat.le_trans h1.length_le hv.n6, Nat.le_trans h2.length_le hv.g6, fun p hp => hv.ps p (h1.subset hp), fun g hg => hv.sg g (h2.subset hg),
    Int.le_trans (manyS_sub h1 (fun p hp => by have := hv.ps p hp; omega)).2 hv.many⟩
theorem VSm.wth {s : Smp} (hv : VSm s) (out : List Int) : VSm (wthF s out) := hv.sub (filt_sub s.ps pas0 _) (filt_sub s.sg sgt0 _)
def numN (n : Nat) : List Int := (List.range n).map fun (i : Nat) => (i : Int)
theorem numN_succ (n : Nat) : numN (n + 1) = numN n ++ [(n : Int)] := by simp [numN, List.range_succ]
theorem numN_len (n : Nat) : (numN n).length = n := by simp [numN]
def mnyE (s : Smp) : Nat := s.ps.length + s.sg.length
/-- The sample with the entries to a number. -/
def uptS (s : Smp) (i : Nat) : Smp := wthF s ((numN (mnyE s)).drop (i + 1))
def frsN (s : Smp) : Nat → Option Nat
  | 0 => none
  | n + 1 => match frsN s n with
    | some i => some i
    | none => if consF (uptS s n) = true then none else some n
def frsE (s : Smp) : Int × Int := if ¬ chkS s = 0 then (0, chkS s) else match frsN s (mnyE s) with
  | some i => ((i : Int), 0)
  | none => (0, 7)
theorem frsN_some {s : Smp} {n i : Nat} (h : frsN s n = some i) : ∀ m, n ≤ m → frsN s m = some i := by
  intro m hm
  obtain ⟨d, rfl⟩ : ∃ d, m = n + d := ⟨m - n, by omega⟩
  clear hm
  induction d with
  | zero => exact h
  | succ d ih => rw [← Nat.add_assoc, frsN, ih]
set_option maxHeartbeats 2000000 in
theorem first_c (s : Smp) (hf : Few s) (tv pv gv : Value) (w : World) (hr : RdSm w s tv pv gv) : CnV Tryz.prog 30 #[smV s tv pv gv] w (.tuple #[vi (frsE s).1, vi (frsE s).2]) := by
  have hr0 := hr
  have hfp := hf.ps
  have hfg := hf.sg
  obtain ⟨adp, cpp, bp, op, rfl, hadp, hcp⟩ := hr.ps.open psE_len pas0
  obtain ⟨adg, cpg, bg, og, rfl, hadg, hcg⟩ := hr.sg.open sgE_len sgt0
  obtain ⟨M, hM⟩ : ∃ M, M = s.ps.length + s.sg.length := ⟨_, rfl⟩
  have hMe : mnyE s = M := hM.symm
  have hMi : (s.ps.length : Int) + (s.sg.length : Int) = (M : Int) := by omega
  refine cnv (vs := [_]) Tryz.func30 rfl rfl ?_
  all_goals refine tc_seq fun K1 hK1 => ?_; refine tc_region ?_; refine tl_e (e_box rfl rfl rfl) rfl (fun b1 _ => ?_); refine tl_q (y_assign rfl) rfl ?_; refine tl_q (y_assign rfl) rfl ?_; refine tl_nil ?_; ((refine hK1 ?_; try (clear hK1; clear K1)))
  all_goals refine tc_seq fun K2 hK2 => ?_; refine tc_seq fun K3 hK3 => ?_; refine tc_region ?_; refine tl_q (y_loadW rfl (by repeat constructor) (by rfl)) rfl ?_; refine tl_e (e_callV rfl (.cons rfl .nil) (fun w' hw' => checkSample_c s hf tv _ _ w' (hr0.fr (hw'.fr (w0 := w) (S := []) MI.m)))) rfl (fun _ _ => ?_); refine tl_q (y_assign rfl) rfl ?_; refine tl_nil ?_; ((refine hK3 ?_; try (clear hK3; clear K3)))
  all_goals refine tc_seq fun K4 hK4 => ?_; refine tc_region ?_; refine tl_q (y_move rfl) rfl ?_; refine tl_q (y_neq rfl rfl) rfl ?_; refine tl_nil ?_; ((refine hK4 ?_; try (clear hK4; clear K4)))
  all_goals (
   refine tc_cond rfl (fun hc => ?_) (fun hc => ?_)
   · try simp only [qn1, qn2, qn3, qn4, qn5, qn6, qn7, qn8] at hc
     all_goals refine tc_seq fun K5 hK5 => ?_; refine tc_region ?_; refine tl_q (y_move rfl) rfl ?_; refine tl_q (y_assign rfl) rfl ?_; refine tl_q (y_assign rfl) rfl ?_; refine tl_nil ?_; ((refine hK5 ?_; try (clear hK5; clear K5)))
     all_goals refine tc_ret ?_; (repeat (refine tk_then_ret ?_))
     all_goals (refine tk_ret rfl rfl (.cons (.tmp rfl) (.cons (.tmp rfl) .nil)) ?_)
     all_goals (
      first
      | (have hE : frsE s = (0, chkS s) := if_pos (by assumption)
         rw [hE]
         exact fun w' hw' => ⟨rfl, hw'.fr (w0 := w) (S := []) MI.m⟩)
      | (have hE : frsE s = ((j : Int), 0) := by
           have h1 : frsN s (j + 1) = some j := by rw [frsN, hfr]; simp only; unfold uptS; rw [hMe, if_neg (by rw [hc]; exact Bool.false_ne_true)]
           unfold frsE
           rw [if_neg (by omega), frsN_some h1 (mnyE s) (by omega)]
         rw [hE]
         exact fun w' hw' => ⟨rfl, hw'.fr (w0 := w) (S := []) MI.m⟩)
      | (have hE : frsE s = (0, 7) := by
           obtain rfl : j = k := by omega
           unfold frsE
           rw [if_neg (by omega), hMe, hfr]
         rw [hE]
         exact fun w' hw' => ⟨rfl, hw'.fr (w0 := w) (S := []) MI.m⟩))
   · try simp only [qn1, qn2, qn3, qn4, qn5, qn6, qn7, qn8] at hc
     all_goals refine tc_skip ?_; ((refine hK2 ?_; try (clear hK2; clear K2)))
     all_goals refine tc_seq fun K6 hK6 => ?_; (have hv := chkS_0.1 (by omega : chkS s = 0))
     all_goals refine tc_region ?_; refine tl_q (y_field rfl) rfl ?_; refine tl_q (y_load1 rfl (by repeat constructor) (by rfl)) rfl ?_; refine tl_q (y_len rfl) rfl ?_; refine tl_q (y_field rfl) rfl ?_; refine tl_q (y_load1 rfl (by repeat constructor) (by rfl)) rfl ?_; refine tl_q (y_len rfl) rfl ?_; refine tl_q (y_add rfl rfl (by omega)) rfl ?_; refine tl_q (y_assign rfl) rfl ?_; refine tl_nil ?_; ((refine hK6 ?_; try (clear hK6; clear K6)))
     all_goals refine tc_seq fun K7 hK7 => ?_; refine tc_region ?_; refine tl_q (y_assign rfl) rfl ?_; refine tl_nil ?_; ((refine hK7 ?_; try (clear hK7; clear K7)))
     all_goals refine tc_seq fun K8 hK8 => ?_; refine tc_seq fun K9 hK9 => ?_; refine tc_region ?_; refine tl_q (y_move rfl) rfl ?_; refine tl_q (y_move rfl) rfl ?_; refine tl_nil ?_; ((refine hK9 ?_; try (clear hK9; clear K9)))
     all_goals refine tc_block ?_
     all_goals (
      refine tc_loop (fun p : Nat × OwnB => p.1 ≤ M ∧ okE 1 (numN p.1) p.2) (fun p => [(1, ptr b1), (5, vi M), (6, ouV (numN p.1).length p.2), (21, vi M), (22, vi p.1)]) (fun _ => [(w, [])]) (fun p => (b1, .cells #[vi s.B, vi s.P, vi s.L, vi s.F, tv, .slice adp s.ps.length cpp, .slice adg s.sg.length cpg] 36 (0, 0)) :: slE 3 inE (numN p.1) p.2) (fun p => M - p.1) ?_ ?_
      · exact tk_start (0, none) ⟨Nat.zero_le _, rfl⟩ (.cons rfl (.cons (by rw [← hMi]; rfl) (.cons rfl (.cons (by rw [← hMi]; rfl) (.cons rfl .nil))))) (fun _ h => by rw [slE_none]; exact h.subl SB.s SB.s)
      · rintro ⟨k, oo⟩ ⟨hk, hok⟩
        dsimp only at hk hok ⊢
        have hkl := numN_len k
        all_goals refine tc_seq fun K10 hK10 => ?_; refine tc_region ?_; refine tl_q (y_lss rfl rfl) rfl ?_; refine tl_nil ?_; ((refine hK10 ?_; try (clear hK10; clear K10)))
        all_goals refine tc_seq fun K11 hK11 => ?_
        all_goals (
         refine tc_cond rfl (fun hc => ?_) (fun hc => ?_)
         · try simp only [qn1, qn2, qn3, qn4, qn5, qn6, qn7, qn8] at hc
           all_goals refine tc_skip ?_; ((refine hK11 ?_; try (clear hK11; clear K11)))
           all_goals refine tc_seq fun K12 hK12 => ?_; refine tc_block ?_; refine tc_seq fun K13 hK13 => ?_; refine tc_region ?_; refine tl_q (y_move rfl) rfl ?_; refine tl_q (y_assign rfl) rfl ?_; refine tl_nil ?_; ((refine hK13 ?_; try (clear hK13; clear K13)))
           all_goals refine tc_region ?_; refine tl_q (y_move rfl) rfl ?_; refine tl_q (y_move rfl) rfl ?_; (refine tl_e (e_bslice rfl (by (repeat (first | exact .nil | apply PV.one rfl rfl)); done) rfl rfl) rfl (fun _ _ => ?_))
           all_goals (refine tl_e (e_appendE (enc := inE) (xs := numN k) (ys := [(k : Int)]) inE_len inE_one rfl rfl rfl hok (fun _ => by repeat constructor) (fun w' hw' => RdS.own0 inE_len hw' (by repeat constructor)) (by simp only [List.length_cons, List.length_nil]; omega) rfl) rfl (fun oo' hok' => ?_))
           all_goals refine tl_q (y_assign rfl) rfl ?_; refine tl_nil ?_; ((refine hK12 ?_; try (clear hK12; clear K12)))
           all_goals refine tc_region ?_; refine tl_q (y_add rfl rfl (by omega)) rfl ?_; refine tl_q (y_move rfl) rfl ?_; refine tl_nil ?_
           all_goals (
            have hs := numN_succ k
            exact tk_round (k + 1, oo') ⟨by dsimp only; omega, by dsimp only; rw [hs]; exact hok'⟩ (by dsimp only; omega) (.cons rfl (.cons rfl (.cons (by dsimp only; rw [hs]; rfl) (.cons rfl (.cons rfl .nil))))) (fun _ h => by dsimp only; rw [hs]; exact h.subl SB.s SB.s))
         · try simp only [qn1, qn2, qn3, qn4, qn5, qn6, qn7, qn8] at hc
           all_goals refine tc_exit ?_; ((refine hK8 ?_; try (clear hK8; clear K8)))
           all_goals refine tc_seq fun K14 hK14 => ?_; refine tc_seq fun K15 hK15 => ?_; refine tc_region ?_; refine tl_q (y_move rfl) rfl ?_; refine tl_q (y_move rfl) rfl ?_; refine tl_nil ?_; ((refine hK15 ?_; try (clear hK15; clear K15)))
           all_goals refine tc_block ?_
           all_goals (
            obtain rfl : k = M := by omega
            refine tc_loop (fun j : Nat => j ≤ k ∧ frsN s j = none) (fun j => [(1, ptr b1), (6, ouV (numN k).length oo), (30, vi k), (31, vi j)]) (fun _ => [(w, [])]) (fun _ => (b1, .cells #[vi s.B, vi s.P, vi s.L, vi s.F, tv, .slice adp s.ps.length cpp, .slice adg s.sg.length cpg] 36 (0, 0)) :: slE 3 inE (numN k) oo) (fun j => k - j) ?_ ?_
            · exact tk_start 0 ⟨Nat.zero_le _, rfl⟩ (.cons rfl (.cons rfl (.cons rfl (.cons rfl .nil)))) (fun _ h => h.subl SB.s SB.s)
            · rintro j ⟨hj, hfr⟩
              all_goals refine tc_seq fun K16 hK16 => ?_; refine tc_region ?_; refine tl_q (y_lss rfl rfl) rfl ?_; refine tl_nil ?_; ((refine hK16 ?_; try (clear hK16; clear K16)))
              all_goals refine tc_seq fun K17 hK17 => ?_
              all_goals (
               refine tc_cond rfl (fun hc => ?_) (fun hc => ?_)
               · try simp only [qn1, qn2, qn3, qn4, qn5, qn6, qn7, qn8] at hc
                 all_goals refine tc_skip ?_; ((refine hK17 ?_; try (clear hK17; clear K17)))
                 all_goals refine tc_seq fun K18 hK18 => ?_; refine tc_block ?_; refine tc_seq fun K19 hK19 => ?_; refine tc_region ?_; refine tl_q (y_move rfl) rfl ?_; refine tl_q (y_assign rfl) rfl ?_; refine tl_nil ?_; ((refine hK19 ?_; try (clear hK19; clear K19)))
                 all_goals refine tc_seq fun K20 hK20 => ?_; refine tc_draw (by kernel_rfl) ?_; refine tx_q 0 rfl (by kernel_rfl) (y_loadW rfl (by repeat constructor) (by rfl)) rfl (fun _ _ _ h => h) (fun _ h => h) ?_; refine tx_p 1 rfl (by kernel_rfl) (y_move rfl) rfl (fun _ _ _ h => h) (fun _ h => h) ?_; refine tx_p 2 rfl (by kernel_rfl) (y_move rfl) rfl (fun _ _ _ h => h) (fun _ h => h) ?_; refine tx_p 3 rfl (by kernel_rfl) (y_add rfl rfl (by omega)) rfl (fun _ _ _ h => h) (fun _ h => h) ?_; refine tx_q 4 rfl (by kernel_rfl) (y_sliceFrom (n := j + 1) rfl rfl (by omega) (by omega)) rfl (fun _ _ _ h => h) (fun _ h => h) ?_; (refine tx_e 5 rfl (by kernel_rfl) rfl (e_callX rfl (.cons rfl (.cons rfl .nil)) (fun w' hw' => without_c s hf ((numN k).drop (j + 1)) (by rw [List.length_drop]; omega) tv _ _ _ w' (hr0.fr (hw'.fr (w0 := w) (S := []) MI.m)) (RdI.drop (RdS.ofO inE_len hok hw' (by repeat constructor)).toI (by omega) (okE_cap hok)))) (.inr fun _ _ h => h.sub (fun _ h => List.mem_cons_of_mem _ h) (List.Sublist.refl _)) (fun z hz => ?_))
                 all_goals refine tx_e 6 rfl (by kernel_rfl) rfl (e_callV rfl (.cons rfl .nil) (fun w' hw' => consistent_c (wthF s ((numN k).drop (j + 1))) (hf.wth _) (hv.wth _) tv _ _ w' (hz.1.fr (hw'.calm hz.2 MI.m SB.s)))) (.inr fun _ _ h => h) (fun _ _ => ?_); refine tx_p 7 rfl (by kernel_rfl) (y_not rfl) rfl (fun _ _ _ h => h) (fun _ h => h) ?_; refine tx_done (by kernel_rfl) ?_; ((refine hK20 ?_; try (clear hK20; clear K20)))
                 all_goals (
                  refine tc_cond rfl (fun hc => ?_) (fun hc => ?_)
                  · try simp only [qn1, qn2, qn3, qn4, qn5, qn6, qn7, qn8] at hc
                    all_goals refine tc_seq fun K21 hK21 => ?_; refine tc_region ?_; refine tl_q (y_move rfl) rfl ?_; refine tl_q (y_assign rfl) rfl ?_; refine tl_q (y_assign rfl) rfl ?_; refine tl_nil ?_; ((refine hK21 ?_; try (clear hK21; clear K21)))
                    all_goals refine tc_ret ?_; (repeat (first | refine tk_then_ret ?_ | refine tk_block_ret ?_))
                    all_goals (refine tk_ret rfl rfl (.cons (.tmp rfl) (.cons (.tmp rfl) .nil)) ?_)
                    all_goals (
                     first
                     | (have hE : frsE s = (0, chkS s) := if_pos (by assumption)
                        rw [hE]
                        exact fun w' hw' => ⟨rfl, hw'.fr (w0 := w) (S := []) MI.m⟩)
                     | (have hE : frsE s = ((j : Int), 0) := by
                          have h1 : frsN s (j + 1) = some j := by rw [frsN, hfr]; simp only; unfold uptS; rw [hMe, if_neg (by rw [hc]; exact Bool.false_ne_true)]
                          unfold frsE
                          rw [if_neg (by omega), frsN_some h1 (mnyE s) (by omega)]
                        rw [hE]
                        exact fun w' hw' => ⟨rfl, hw'.fr (w0 := w) (S := []) MI.m⟩)
                     | (have hE : frsE s = (0, 7) := by
                          obtain rfl : j = k := by omega
                          unfold frsE
                          rw [if_neg (by omega), hMe, hfr]
                        rw [hE]
                        exact fun w' hw' => ⟨rfl, hw'.fr (w0 := w) (S := []) MI.m⟩))
                  · try simp only [qn1, qn2, qn3, qn4, qn5, qn6, qn7, qn8] at hc
                    all_goals refine tc_skip ?_; ((refine hK18 ?_; try (clear hK18; clear K18)))
                    all_goals refine tc_region ?_; refine tl_q (y_add rfl rfl (by omega)) rfl ?_; refine tl_q (y_move rfl) rfl ?_; refine tl_nil ?_
                    all_goals (
                     exact tk_round (j + 1) ⟨by omega, by rw [frsN, hfr]; simp only; unfold uptS; rw [hMe, if_pos hc]⟩ (by omega) (.cons rfl (.cons rfl (.cons rfl (.cons rfl .nil)))) (fun _ h => h.subl SB.s SB.s)))
               · try simp only [qn1, qn2, qn3, qn4, qn5, qn6, qn7, qn8] at hc
                 all_goals refine tc_exit ?_; ((refine hK14 ?_; try (clear hK14; clear K14)))
                 all_goals refine tc_seq fun K22 hK22 => ?_; refine tc_region ?_; refine tl_q (y_assign rfl) rfl ?_; refine tl_q (y_assign rfl) rfl ?_; refine tl_nil ?_; ((refine hK22 ?_; try (clear hK22; clear K22)))
                 all_goals refine tc_ret ?_; (repeat (first | refine tk_then_ret ?_))
                 all_goals (refine tk_ret rfl rfl (.cons (.tmp rfl) (.cons (.tmp rfl) .nil)) ?_)
                 all_goals (
                  first
                  | (have hE : frsE s = (0, chkS s) := if_pos (by assumption)
                     rw [hE]
                     exact fun w' hw' => ⟨rfl, hw'.fr (w0 := w) (S := []) MI.m⟩)
                  | (have hE : frsE s = ((j : Int), 0) := by
                       have h1 : frsN s (j + 1) = some j := by rw [frsN, hfr]; simp only; unfold uptS; rw [hMe, if_neg (by rw [hc]; exact Bool.false_ne_true)]
                       unfold frsE
                       rw [if_neg (by omega), frsN_some h1 (mnyE s) (by omega)]
                     rw [hE]
                     exact fun w' hw' => ⟨rfl, hw'.fr (w0 := w) (S := []) MI.m⟩)
                  | (have hE : frsE s = (0, 7) := by
                       obtain rfl : j = k := by omega
                       unfold frsE
                       rw [if_neg (by omega), hMe, hfr]
                     rw [hE]
                     exact fun w' hw' => ⟨rfl, hw'.fr (w0 := w) (S := []) MI.m⟩)))))))
end Go.Sp
/-
  Package sample: the smallest set of entries of a bottle, searched.
-/
namespace Go.Sp
open Go Go.Proofs
/-- The first list of so many more of own, in order, that passes. -/
def srchL (p : List Int → Bool) (own : List Int) : Nat → List Int → Nat → Option (List Int)
  | 0, l, _ => if p l = true then some l else none
  | m + 1, l, fr => (List.range (own.length - m - fr)).findSome? fun (j : Nat) => srchL p own m (l ++ [own.getD (fr + j) 0]) (fr + j + 1)
theorem srchL_0 {p : List Int → Bool} {own l : List Int} {fr : Nat} : (srchL p own 0 l fr).isSome = p l := by
  unfold srchL
  cases h : p l <;> simp
abbrev tryV (bF bS bB bO bT : Nat) : Value := .func (.func 92) #[] #[ptr bF, ptr bS, ptr bB, ptr bO, ptr bT]
abbrev wpB (s : Smp) (b : Int) (l : List Int) : Bool := possF (wthF s l) b
structure EnvL (s : Smp) (b : Int) (own : List Int) (tv pv gv ov : Value) (bF bS bB bO bT : Nat) (w : World) : Prop where
  hS : w.heap[bS]? = some (smO s tv pv gv)
  hB : w.heap[bB]? = some (.cells #[vi b] 3 (0, 0))
  hO : w.heap[bO]? = some (.cells #[ov] 29 (0, 0))
  hT : w.heap[bT]? = some (.cells #[tryV bF bS bB bO bT] 136 (0, 0))
  nn : (bS ≠ bF ∧ bB ≠ bF) ∧ bO ≠ bF ∧ bT ≠ bF
  rd : ∀ w', Fr [bF] w w' → RdSm w' s tv pv gv ∧ RdI w' ov own
theorem EnvL.step {s : Smp} {b : Int} {own : List Int} {tv pv gv ov : Value} {bF bS bB bO bT : Nat} {w w' : World} (h : EnvL s b own tv pv gv ov bF bS bB bO bT w) (f : Fr [bF] w w') : EnvL s b own tv pv gv ov bF bS bB bO bT w' :=
  ⟨f.keepS (by simpa using h.nn.1.1) h.hS, f.keepS (by simpa using h.nn.1.2) h.hB, f.keepS (by simpa using h.nn.2.1) h.hO, f.keepS (by simpa using h.nn.2.2) h.hT, h.nn, fun w2 f2 => h.rd w2 (f.trans f2 (fun x hx => .inl hx))⟩
set_option maxHeartbeats 4000000 in
theorem try_c (s : Smp) (hf : Few s) (hv : VSm s) (b : Int) (own : List Int) (hown : own.length ≤ 18) (tv pv gv ov : Value) (bF bS bB bO bT : Nat) :
    ∀ (m : Nat) (mi : Int) (l : List Int) (fr : Nat) (sl vf : Value) (w : World), mi = m → l.length + m ≤ 18 → fr ≤ own.length → vf.oneCell' = true → w.heap[bF]? = some (.cells #[vf] 29 (0, 0)) → EnvL s b own tv pv gv ov bF bS bB bO bT w → SlSt w sl l [bF] →
    CnX Tryz.prog 92 #[sl, vi fr, vi mi, ptr bF, ptr bS, ptr bB, ptr bO, ptr bT] w [bF] (fun _ : Value => .bool (srchL (wpB s b) own m l fr).isSome)
      (fun x w' => w'.heap[bF]? = some (.cells #[x] 29 (0, 0)) ∧ x.oneCell' = true ∧ ∀ r, srchL (wpB s b) own m l fr = some r → RdI w' x r) := by
  intro m
  induction m with
  | zero =>
    intro mi l fr sl vf w hmi hlen hfr hvf h1 hE hsl
    have hone : sl.oneCell' = true := by rcases hsl with ⟨_, rfl⟩ | ⟨b, n, c, j, _, rfl, _⟩ <;> rfl
    have hcl : sl.cells = #[sl] := by rcases hsl with ⟨_, rfl⟩ | ⟨b, n, c, j, _, rfl, _⟩ <;> rfl
    have hEf : ∀ w', Fr [bF] w w' → EnvL s b own tv pv gv ov bF bS bB bO bT w' := fun w' f => hE.step f
    refine cnxS (vs := [_, _, _, _, _, _, _, _]) (S := [bF]) [(bF, .cells #[vf] 29 (0, 0))] Tryz.func92 rfl rfl ⟨by simp [h1], by simp, by simp⟩ ?_
    all_goals refine tc_seq fun K1 hK1 => ?_
    all_goals refine tc_region ?_
    all_goals refine tl_q (y_assign rfl) rfl ?_
    all_goals refine tl_nil ?_
    all_goals (refine hK1 ?_; try (clear hK1; clear K1))
    all_goals refine tc_seq fun K2 hK2 => ?_
    all_goals refine tc_seq fun K3 hK3 => ?_
    all_goals refine tc_region ?_
    all_goals refine tl_q (y_move rfl) rfl ?_
    all_goals refine tl_q (y_eql rfl rfl) rfl ?_
    all_goals refine tl_nil ?_
    all_goals (refine hK3 ?_; try (clear hK3; clear K3))
    all_goals (
     refine tc_cond rfl (fun hc => ?_) (fun hc => ?_)
     · try simp only [qn1, qn2, qn3, qn4, qn5, qn6, qn7, qn8] at hc
       all_goals first | (exfalso; with_reducible exact bft hc) | (exfalso; with_reducible exact btf hc) | (exfalso; omega) | skip
       all_goals refine tc_seq fun K4 hK4 => ?_
       all_goals refine tc_region ?_
       all_goals refine tl_q (y_move rfl) rfl ?_
       all_goals (first | refine tl_e (e_store1 rfl rfl (by repeat constructor) (by repeat constructor) (by rfl) (by rfl)) rfl (fun _ _ => ?_) | refine tl_e (e_store1 rfl rfl (by repeat constructor) (by repeat constructor) hcl hone) rfl (fun _ _ => ?_))
       all_goals refine tl_nil ?_
       all_goals (refine hK4 ?_; try (clear hK4; clear K4))
       all_goals refine tc_seq fun K5 hK5 => ?_
       all_goals refine tc_lay [] (SB.s .nil) (fun wl hl => ?_)
       all_goals (have hfl := hl.fr (w0 := w) (S := [bF]) MI.m)
       all_goals (have hEl := hEf wl hfl; have hrl := hsl.rd.frS hfl hsl.sep)
       all_goals refine tc_draw (by kernel_rfl) ?_
       all_goals (first | refine tx_q 0 rfl (by kernel_rfl) (y_loadW rfl (by repeat constructor) (by rfl)) rfl (fun _ _ _ h => h) (fun _ h => h) ?_ | refine tx_q 0 rfl (by kernel_rfl) (y_loadN rfl (by repeat constructor) (by (repeat (first | exact .nil | apply CA.cons rfl)); done)) rfl (fun _ _ _ h => h) (fun _ h => h) ?_ | refine tx_q 0 rfl (by kernel_rfl) (y_load1o (v := vi b) rfl (fun w' hw' => cell0 ((hw'.fr (w0 := wl) (S := []) MI.m).keep hEl.hB) rfl)) rfl (fun _ _ _ h => h) (fun _ h => h) ?_ | refine tx_q 0 rfl (by kernel_rfl) (y_loadNo (n := 7) (vs := [vi s.B, vi s.P, vi s.L, vi s.F, tv, pv, gv]) rfl (fun w' hw' => (CA_whole (c := #[vi s.B, vi s.P, vi s.L, vi s.F, tv, pv, gv]) (t := 36) (f := (0, 0)) rfl).cells ((hw'.fr (w0 := wl) (S := []) MI.m).keep hEl.hS))) rfl (fun _ _ _ h => h) (fun _ h => h) ?_)
       all_goals refine tx_p 1 rfl (by kernel_rfl) (y_move rfl) rfl (fun _ _ _ h => h) (fun _ h => h) ?_
       all_goals (first | refine tx_q 3 rfl (by kernel_rfl) (y_load1 rfl (by repeat constructor) (by rfl)) rfl (fun _ _ _ h => h) (fun _ h => h) ?_ | refine tx_q 3 rfl (by kernel_rfl) (y_load1o (v := vi b) rfl (fun w' hw' => cell0 ((hw'.fr (w0 := wl) (S := []) MI.m).keep hEl.hB) rfl)) rfl (fun _ _ _ h => h) (fun _ h => h) ?_ | refine tx_q 3 rfl (by kernel_rfl) (y_loadNo (n := 7) (vs := [vi s.B, vi s.P, vi s.L, vi s.F, tv, pv, gv]) rfl (fun w' hw' => (CA_whole (c := #[vi s.B, vi s.P, vi s.L, vi s.F, tv, pv, gv]) (t := 36) (f := (0, 0)) rfl).cells ((hw'.fr (w0 := wl) (S := []) MI.m).keep hEl.hS))) rfl (fun _ _ _ h => h) (fun _ h => h) ?_)
       all_goals refine tx_e 2 rfl (by kernel_rfl) rfl (e_callX rfl (.cons rfl (.cons rfl .nil)) (fun w' hw' => without_c s hf l (by omega) tv pv gv sl w' ((hEl.rd wl (Fr.refl _ _)).1.fr (hw'.fr (w0 := wl) (S := []) MI.m)) (hrl.fr (hw'.fr (w0 := wl) (S := []) MI.m)))) (.inr fun _ _ h => h.sub (fun _ h => List.mem_cons_of_mem _ h) (List.Sublist.refl _)) (fun z hz => ?_)
       all_goals refine tx_e 4 rfl (by kernel_rfl) rfl (e_callV rfl (.cons rfl (.cons rfl .nil)) (fun w' hw' => possible_c (wthF s l) (hf.wth _) (hv.wth _) b tv _ _ w' (hz.1.fr (hw'.calm hz.2 MI.m SB.s)))) (.inr fun _ _ h => h) (fun _ _ => ?_)
       all_goals refine tx_p 5 rfl (by kernel_rfl) (y_assign rfl) rfl (fun _ _ _ h => h) (fun _ h => h) ?_
       all_goals refine tx_done (by kernel_rfl) ?_
       all_goals (refine hK5 ?_; try (clear hK5; clear K5))
       all_goals refine tc_ret ?_
       all_goals (repeat (first | refine tk_then_ret ?_ | refine tk_block_ret ?_ | refine tk_scope_ret ?_))
       all_goals first | refine tk_ret rfl rfl (.cons (.tmp rfl) .nil) ?_ | refine tk_retM rfl (by repeat constructor) rfl (.cons (.tmp rfl) .nil) ?_
       all_goals (
        refine fun w' hw' => ⟨sl, by rw [srchL_0]; rfl, hfl.trans (hw'.fr (w0 := wl) (S := []) MI.m) (fun x hx => by simp at hx), (hw'.fr (w0 := wl) (S := []) MI.m).keep (hl.at (by repeat constructor)), hone, fun r hr => ?_⟩
        have : l = r := by simp only [srchL] at hr; split at hr; exact Option.some.inj hr; cases hr
        subst this
        exact hrl.fr (hw'.fr (w0 := wl) (S := []) MI.m))
     · try simp only [qn1, qn2, qn3, qn4, qn5, qn6, qn7, qn8] at hc
       all_goals first | (exfalso; with_reducible exact bft hc) | (exfalso; with_reducible exact btf hc) | (exfalso; omega) | skip
       all_goals refine tc_skip ?_
       all_goals (refine hK2 ?_; try (clear hK2; clear K2))
       all_goals refine tc_seq fun K6 hK6 => ?_
       all_goals refine tc_seq fun K7 hK7 => ?_
       all_goals (exfalso; omega)
       all_goals refine tc_region ?_
       all_goals refine tl_q (y_move rfl) rfl ?_
       all_goals refine tl_q (y_assign rfl) rfl ?_
       all_goals refine tl_nil ?_
       all_goals (refine hK7 ?_; try (clear hK7; clear K7))
       all_goals refine tc_block ?_
       all_goals skip)
  | succ m ih =>
    intro mi l fr sl vf w hmi hlen hfr hvf h1 hE hsl
    have hone : sl.oneCell' = true := by rcases hsl with ⟨_, rfl⟩ | ⟨b, n, c, j, _, rfl, _⟩ <;> rfl
    have hEf : ∀ w', Fr [bF] w w' → EnvL s b own tv pv gv ov bF bS bB bO bT w' := fun w' f => hE.step f
    have hrd : ∀ w', Fr [bF] w w' → RdI w' sl l := fun w' f => hsl.rd.frS f hsl.sep
    have hih : ∀ (w' : World) (H : List (Nat × Obj)) (b' n c : Nat) (j : Nat) (junk : List Value) (vf' : Value), HG [(w, [bF])] ((b', .cells (l.map vi ++ [vi (own.getD (fr + j) 0)] ++ junk).toArray 3 (0, 0)) :: H) w' → n = l.length + 1 → bF ∈ H.map Prod.fst → vf'.oneCell' = true → fr + j < own.length → HM bF (.cells #[vf'] 29 (0, 0)) H →
        CnX Tryz.prog 92 (#[] ++ #[.slice (some ⟨b', 0, none⟩) n c, vi ((fr : Int) + (j : Int) + 1), vi (mi - 1)] ++ #[ptr bF, ptr bS, ptr bB, ptr bO, ptr bT]) w' [bF] (fun _ : Value => .bool (srchL (wpB s b) own m (l ++ [own.getD (fr + j) 0]) (fr + j + 1)).isSome)
          (fun x w2 => w2.heap[bF]? = some (.cells #[x] 29 (0, 0)) ∧ x.oneCell' = true ∧ ∀ r, srchL (wpB s b) own m (l ++ [own.getD (fr + j) 0]) (fr + j + 1) = some r → RdI w2 x r) := fun w' H b' n c j junk vf' hw' hn hy hv' hj m1 => by
      rw [show (#[] ++ #[.slice (some ⟨b', 0, none⟩) n c, vi ((fr : Int) + (j : Int) + 1), vi (mi - 1)] ++ #[ptr bF, ptr bS, ptr bB, ptr bO, ptr bT] : Array Value) = #[.slice (some ⟨b', 0, none⟩) n c, vi ((fr + j + 1 : Nat) : Int), vi (mi - 1), ptr bF, ptr bS, ptr bB, ptr bO, ptr bT] from by simp]
      exact ih (mi - 1) (l ++ [own.getD (fr + j) 0]) (fr + j + 1) _ vf' w' (by omega) (by simp; omega) (by omega) hv' (hw'.heap _ (HM.mem (.tail m1))) (hEf w' (hw'.fr (by simp)))
        (.inr ⟨b', n, c, junk, by simp [hn], rfl, by have := hw'.heap _ (HM.mem (b := b') .head); simpa using this, fun hb => by have hnn := hw'.nodup; simp only [List.map_cons, List.nodup_cons] at hnn; exact hnn.1 (by obtain rfl := List.mem_singleton.1 hb; exact hy)⟩)
    obtain ⟨ado, cpo, boo, ooo, rfl, hado, hcello⟩ := (hE.rd w (Fr.refl _ _)).2.open
    have hcel : ∀ w', Fr [bF] w w' → ∀ i : Nat, i < own.length → w'.cell? ⟨boo, ooo + i, none⟩ = some (vi (own.getD i 0)) := fun w' f i hi => by
      obtain ⟨a2, c2, b2, o2, e1, e2, e3⟩ := (hE.rd w' f).2.open
      cases e1
      have e4 := e2 (by omega)
      rw [hado (by omega)] at e4
      cases e4
      exact e3 w' (Fr.refl _ _) i hi
    refine cnxS (vs := [_, _, _, _, _, _, _, _]) (S := [bF]) [(bF, .cells #[vf] 29 (0, 0))] Tryz.func92 rfl rfl ⟨by simp [h1], by simp, by simp⟩ ?_
    all_goals refine tc_seq fun K1 hK1 => ?_
    all_goals refine tc_region ?_
    all_goals refine tl_q (y_assign rfl) rfl ?_
    all_goals refine tl_nil ?_
    all_goals (refine hK1 ?_; try (clear hK1; clear K1))
    all_goals refine tc_seq fun K2 hK2 => ?_
    all_goals refine tc_seq fun K3 hK3 => ?_
    all_goals refine tc_region ?_
    all_goals refine tl_q (y_move rfl) rfl ?_
    all_goals refine tl_q (y_eql rfl rfl) rfl ?_
    all_goals refine tl_nil ?_
    all_goals (refine hK3 ?_; try (clear hK3; clear K3))
    all_goals (
     refine tc_cond rfl (fun hc => ?_) (fun hc => ?_)
     · try simp only [qn1, qn2, qn3, qn4, qn5, qn6, qn7, qn8] at hc
       all_goals first | (exfalso; with_reducible exact bft hc) | (exfalso; with_reducible exact btf hc) | (exfalso; omega) | skip
       all_goals refine tc_seq fun K4 hK4 => ?_
       all_goals (exfalso; omega)
       all_goals refine tc_region ?_
       all_goals refine tl_q (y_move rfl) rfl ?_
       all_goals refine tl_e (e_store1 rfl rfl (by repeat constructor) (by repeat constructor) (by rfl) (by rfl)) rfl (fun _ _ => ?_)
       all_goals refine tl_nil ?_
       all_goals (refine hK4 ?_; try (clear hK4; clear K4))
       all_goals refine tc_seq fun K5 hK5 => ?_
       all_goals refine tc_draw (by kernel_rfl) ?_
       all_goals (first | refine tx_q 0 rfl (by kernel_rfl) (y_loadW rfl (by repeat constructor) (by rfl)) rfl (fun _ _ _ h => h) (fun _ h => h) ?_ | refine tx_q 0 rfl (by kernel_rfl) (y_loadN rfl (by repeat constructor) (by (repeat (first | exact .nil | apply CA.cons rfl)); done)) rfl (fun _ _ _ h => h) (fun _ h => h) ?_ | refine tx_q 0 rfl (by kernel_rfl) (y_load1o (v := .slice ado own.length cpo) rfl (fun w' hw' => cell0 (hEf w' (hw'.fr (w0 := w) (S := [bF]) MI.m)).hO rfl)) rfl (fun _ _ _ h => h) (fun _ h => h) ?_ | refine tx_q 0 rfl (by kernel_rfl) (y_load1o (v := tryV bF bS bB bO bT) rfl (fun w' hw' => cell0 (hEf w' (hw'.fr (w0 := w) (S := [bF]) MI.m)).hT rfl)) rfl (fun _ _ _ h => h) (fun _ h => h) ?_ | refine tx_q 0 rfl (by kernel_rfl) (y_load1o (v := vi (own.getD (fr + j) 0)) rfl (fun w' hw' => by rw [show Int.toNat ((fr : Int) + (j : Int)) * 1 = fr + j from by omega]; exact hcel w' (hw'.fr (w0 := w) (S := [bF]) MI.m) (fr + j) (by omega))) rfl (fun _ _ _ h => h) (fun _ h => h) ?_)
       all_goals refine tx_p 1 rfl (by kernel_rfl) (y_move rfl) rfl (fun _ _ _ h => h) (fun _ h => h) ?_
       all_goals (first | refine tx_q 3 rfl (by kernel_rfl) (y_load1 rfl (by repeat constructor) (by rfl)) rfl (fun _ _ _ h => h) (fun _ h => h) ?_ | refine tx_q 3 rfl (by kernel_rfl) (y_load1o (v := .slice ado own.length cpo) rfl (fun w' hw' => cell0 (hEf w' (hw'.fr (w0 := w) (S := [bF]) MI.m)).hO rfl)) rfl (fun _ _ _ h => h) (fun _ h => h) ?_ | refine tx_q 3 rfl (by kernel_rfl) (y_load1o (v := tryV bF bS bB bO bT) rfl (fun w' hw' => cell0 (hEf w' (hw'.fr (w0 := w) (S := [bF]) MI.m)).hT rfl)) rfl (fun _ _ _ h => h) (fun _ h => h) ?_ | refine tx_q 3 rfl (by kernel_rfl) (y_load1o (v := vi (own.getD (fr + j) 0)) rfl (fun w' hw' => by rw [show Int.toNat ((fr : Int) + (j : Int)) * 1 = fr + j from by omega]; exact hcel w' (hw'.fr (w0 := w) (S := [bF]) MI.m) (fr + j) (by omega))) rfl (fun _ _ _ h => h) (fun _ h => h) ?_)
       all_goals refine tx_e 2 rfl (by kernel_rfl) rfl (e_noContractFor66) _ (fun _ _ => ?_)
       all_goals refine tx_e 4 rfl (by kernel_rfl) rfl (e_noContractFor90) _ (fun _ _ => ?_)
       all_goals refine tx_p 5 rfl (by kernel_rfl) (y_assign rfl) rfl (fun _ _ _ h => h) (fun _ h => h) ?_
       all_goals refine tx_done (by kernel_rfl) ?_
       all_goals (refine hK5 ?_; try (clear hK5; clear K5))
       all_goals refine tc_ret ?_
       all_goals (repeat (first | refine tk_then_ret ?_ | refine tk_block_ret ?_ | refine tk_scope_ret ?_))
       all_goals first | refine tk_ret rfl rfl (.cons (.tmp rfl) .nil) ?_ | refine tk_retM rfl (by repeat constructor) rfl (.cons (.tmp rfl) .nil) ?_
       all_goals (
        first
        | (refine fun w' hw' => ?_
           have f0 : Fr [] y.2.2 w' := hw'.fr (by simp)
           have f1 : Fr [bF] w y.2.1 := hy.1.fr (by simp)
           have e1 : srchL (wpB s b) own (m + 1) _ fr = some rs := fs_hit (j := j) (by omega) hsr hno
           exact ⟨y.1, by rw [e1]; rfl, (f1.trans hy.2.1 (fun x hx => .inl hx)).trans f0 (by simp), f0.keep hy.2.2.1, hy.2.2.2.1, fun r hr => by rw [e1] at hr; cases hr; exact hy.2.2.2.2.fr f0⟩)
        | (have e1 : srchL (wpB s b) own (m + 1) l fr = none := fs_miss (fun k hk => hno k (by omega))
           exact fun w' hw' => ⟨vf', by rw [e1]; rfl, hw'.fr (w0 := w) (S := [bF]) MI.m, hw'.heap _ (HM.mem (by repeat constructor)), hvf', fun r hr => by rw [e1] at hr; cases hr⟩))
     · try simp only [qn1, qn2, qn3, qn4, qn5, qn6, qn7, qn8] at hc
       all_goals first | (exfalso; with_reducible exact bft hc) | (exfalso; with_reducible exact btf hc) | (exfalso; omega) | skip
       all_goals refine tc_skip ?_
       all_goals (refine hK2 ?_; try (clear hK2; clear K2))
       all_goals refine tc_seq fun K6 hK6 => ?_
       all_goals refine tc_seq fun K7 hK7 => ?_
       all_goals refine tc_region ?_
       all_goals refine tl_q (y_move rfl) rfl ?_
       all_goals refine tl_q (y_assign rfl) rfl ?_
       all_goals refine tl_nil ?_
       all_goals (refine hK7 ?_; try (clear hK7; clear K7))
       all_goals refine tc_block ?_
       all_goals (
        refine tc_loop (fun p' : Nat × Value => p'.1 ≤ own.length - m - fr ∧ p'.2.oneCell' = true ∧ ∀ k : Nat, k < p'.1 → srchL (wpB s b) own m (l ++ [own.getD (fr + k) 0]) (fr + k + 1) = none) (fun p' => [(0, sl), (2, vi mi), (3, ptr bF), (4, ptr bS), (5, ptr bB), (6, ptr bO), (7, ptr bT), (12, vi ((fr : Int) + (p'.1 : Int)))]) (fun _ => [(w, [bF])]) (fun p' => [(bF, .cells #[p'.2] 29 (0, 0))]) (fun p' => own.length - m - fr - p'.1) ?_ ?_
        · refine tk_start (0, vf) ⟨Nat.zero_le _, hvf, fun k hk => absurd hk (Nat.not_lt_zero k)⟩ ?_ (fun _ h => h.sub (fun _ h => h) SB.s)
          dsimp only
          rw [show (fr : Int) + ((0 : Nat) : Int) = fr from by omega]
          exact .cons rfl (.cons rfl (.cons rfl (.cons rfl (.cons rfl (.cons rfl (.cons rfl (.cons rfl .nil)))))))
        · rintro ⟨j, vf'⟩ ⟨hj, hvf', hno⟩
          dsimp only at hj hvf' hno ⊢
          all_goals refine tc_seq fun K8 hK8 => ?_
          all_goals refine tc_seq fun K9 hK9 => ?_
          all_goals refine tc_region ?_
          all_goals refine tl_q (y_move rfl) rfl ?_
          all_goals (first | refine tl_q (y_load1 rfl (by repeat constructor) (by rfl)) rfl ?_ | refine tl_q (y_load1o (v := .slice ado own.length cpo) rfl (fun w' hw' => cell0 (hEf w' (hw'.fr (w0 := w) (S := [bF]) MI.m)).hO rfl)) rfl ?_ | refine tl_q (y_load1o (v := tryV bF bS bB bO bT) rfl (fun w' hw' => cell0 (hEf w' (hw'.fr (w0 := w) (S := [bF]) MI.m)).hT rfl)) rfl ?_ | refine tl_q (y_load1o (v := vi (own.getD (fr + j) 0)) rfl (fun w' hw' => by rw [show Int.toNat ((fr : Int) + (j : Int)) * 1 = fr + j from by omega]; exact hcel w' (hw'.fr (w0 := w) (S := [bF]) MI.m) (fr + j) (by omega))) rfl ?_)
          all_goals refine tl_q (y_len rfl) rfl ?_
          all_goals refine tl_q (y_move rfl) rfl ?_
          all_goals refine tl_q (y_sub rfl rfl (by omega)) rfl ?_
          all_goals refine tl_q (y_leq rfl rfl) rfl ?_
          all_goals refine tl_nil ?_
          all_goals (refine hK9 ?_; try (clear hK9; clear K9))
          all_goals (
           refine tc_cond rfl (fun hc => ?_) (fun hc => ?_)
           · try simp only [qn1, qn2, qn3, qn4, qn5, qn6, qn7, qn8] at hc
             all_goals first | (exfalso; with_reducible exact bft hc) | (exfalso; with_reducible exact btf hc) | (exfalso; omega) | skip
             all_goals refine tc_skip ?_
             all_goals (refine hK8 ?_; try (clear hK8; clear K8))
             all_goals refine tc_seq fun K10 hK10 => ?_
             all_goals refine tc_block ?_
             all_goals refine tc_seq fun K11 hK11 => ?_
             all_goals (rcases hsr : srchL (wpB s b) own m (l ++ [own.getD (fr + j) 0]) (fr + j + 1) with _ | rs <;> rcases hsl with ⟨rfl, rfl⟩ | ⟨b0, _, c0, j0, rfl, rfl, hh0, hb0⟩)
             all_goals refine tc_drawS ([]) (by kernel_rfl) ?_
             all_goals (first | refine tx_qS 0 rfl (by kernel_rfl) (y_load1 rfl (by repeat constructor) (by rfl)) rfl (fun _ _ _ h => h) (fun _ h => h.subl SB.s SB.s) ?_ | refine tx_qS 0 rfl (by kernel_rfl) (y_load1o (v := .slice ado own.length cpo) rfl (fun w' hw' => cell0 (hEf w' (hw'.fr (w0 := w) (S := [bF]) MI.m)).hO rfl)) rfl (fun _ _ _ h => h) (fun _ h => h.subl SB.s SB.s) ?_ | refine tx_qS 0 rfl (by kernel_rfl) (y_load1o (v := tryV bF bS bB bO bT) rfl (fun w' hw' => cell0 (hEf w' (hw'.fr (w0 := w) (S := [bF]) MI.m)).hT rfl)) rfl (fun _ _ _ h => h) (fun _ h => h.subl SB.s SB.s) ?_ | refine tx_qS 0 rfl (by kernel_rfl) (y_load1o (v := vi (own.getD (fr + j) 0)) rfl (fun w' hw' => by rw [show Int.toNat ((fr : Int) + (j : Int)) * 1 = fr + j from by omega]; exact hcel w' (hw'.fr (w0 := w) (S := [bF]) MI.m) (fr + j) (by omega))) rfl (fun _ _ _ h => h) (fun _ h => h.subl SB.s SB.s) ?_)
             all_goals refine tx_p 1 rfl (by kernel_rfl) (y_move rfl) rfl (fun _ _ _ h => h) (fun _ h => h.subl SB.s SB.s) ?_
             all_goals (first | refine tx_qS 3 rfl (by kernel_rfl) (y_load1 rfl (by repeat constructor) (by rfl)) rfl (fun _ _ _ h => h) (fun _ h => h.subl SB.s SB.s) ?_ | refine tx_qS 3 rfl (by kernel_rfl) (y_load1o (v := .slice ado own.length cpo) rfl (fun w' hw' => cell0 (hEf w' (hw'.fr (w0 := w) (S := [bF]) MI.m)).hO rfl)) rfl (fun _ _ _ h => h) (fun _ h => h.subl SB.s SB.s) ?_ | refine tx_qS 3 rfl (by kernel_rfl) (y_load1o (v := tryV bF bS bB bO bT) rfl (fun w' hw' => cell0 (hEf w' (hw'.fr (w0 := w) (S := [bF]) MI.m)).hT rfl)) rfl (fun _ _ _ h => h) (fun _ h => h.subl SB.s SB.s) ?_ | refine tx_qS 3 rfl (by kernel_rfl) (y_load1o (v := vi (own.getD (fr + j) 0)) rfl (fun w' hw' => by rw [show Int.toNat ((fr : Int) + (j : Int)) * 1 = fr + j from by omega]; exact hcel w' (hw'.fr (w0 := w) (S := [bF]) MI.m) (fr + j) (by omega))) rfl (fun _ _ _ h => h) (fun _ h => h.subl SB.s SB.s) ?_)
             all_goals refine tx_p 4 rfl (by kernel_rfl) (y_move rfl) rfl (fun _ _ _ h => h) (fun _ h => h.subl SB.s SB.s) ?_
             all_goals (first | refine tx_p 5 rfl (by kernel_rfl) (y_index rfl rfl (by omega) (hado (by omega))) rfl (fun _ _ _ h => h) (fun _ h => h.subl SB.s SB.s) ?_ | refine tx_p 5 rfl (by kernel_rfl) (y_index rfl rfl (by omega) rfl) rfl (fun _ _ _ h => h) (fun _ h => h.subl SB.s SB.s) ?_ | refine tx_p 5 rfl (by kernel_rfl) (y_indexA rfl rfl (by omega)) rfl (fun _ _ _ h => h) (fun _ h => h.subl SB.s SB.s) ?_)
             all_goals (first | refine tx_qS 6 rfl (by kernel_rfl) (y_load1 rfl (by repeat constructor) (by rfl)) rfl (fun _ _ _ h => h) (fun _ h => h.subl SB.s SB.s) ?_ | refine tx_qS 6 rfl (by kernel_rfl) (y_load1o (v := .slice ado own.length cpo) rfl (fun w' hw' => cell0 (hEf w' (hw'.fr (w0 := w) (S := [bF]) MI.m)).hO rfl)) rfl (fun _ _ _ h => h) (fun _ h => h.subl SB.s SB.s) ?_ | refine tx_qS 6 rfl (by kernel_rfl) (y_load1o (v := tryV bF bS bB bO bT) rfl (fun w' hw' => cell0 (hEf w' (hw'.fr (w0 := w) (S := [bF]) MI.m)).hT rfl)) rfl (fun _ _ _ h => h) (fun _ h => h.subl SB.s SB.s) ?_ | refine tx_qS 6 rfl (by kernel_rfl) (y_load1o (v := vi (own.getD (fr + j) 0)) rfl (fun w' hw' => by rw [show Int.toNat ((fr : Int) + (j : Int)) * 1 = fr + j from by omega]; exact hcel w' (hw'.fr (w0 := w) (S := [bF]) MI.m) (fr + j) (by omega))) rfl (fun _ _ _ h => h) (fun _ h => h.subl SB.s SB.s) ?_)
             all_goals refine tx_p 9 rfl (by kernel_rfl) (y_move rfl) rfl (fun _ _ _ h => h) (fun _ h => h.subl SB.s SB.s) ?_
             all_goals refine tx_p 10 rfl (by kernel_rfl) (y_add rfl rfl (by omega)) rfl (fun _ _ _ h => h) (fun _ h => h.subl SB.s SB.s) ?_
             all_goals refine tx_p 11 rfl (by kernel_rfl) (y_move rfl) rfl (fun _ _ _ h => h) (fun _ h => h.subl SB.s SB.s) ?_
             all_goals refine tx_p 12 rfl (by kernel_rfl) (y_sub rfl rfl (by omega)) rfl (fun _ _ _ h => h) (fun _ h => h.subl SB.s SB.s) ?_
             all_goals (
              refine tx_pair 2 7 (by kernel_rfl) ?_ ?_
              rotate_left
              focus (
               (first | refine to_e rfl rfl (e_bslice rfl (by (repeat (first | exact .nil | apply PV.one rfl rfl | apply PV.two rfl)); done) rfl rfl) (.inr ⟨fun _ _ h => h.subl SB.s SB.s, fun _ h => h⟩) (fun _ _ => ?_))
               all_goals (first | refine tx_single 2 (by kernel_rfl) (to_e rfl rfl (e_callB rfl (.cons rfl .nil) (fun w' hw' => clone_own b0 c0 l (by omega) w' (hrd w' (hw'.fr (w0 := w) (S := [bF]) MI.m)))) (.inr ⟨fun _ _ h => h.subl SB.s SB.s, fun _ h => h⟩) (fun r hr3 => ?_)) | refine tx_single 2 (by kernel_rfl) (to_e rfl rfl (e_callV rfl (.cons rfl .nil) (fun w' _ => clone_nil w')) (.inr ⟨fun _ _ h => h.subl SB.s SB.s, fun _ h => h⟩) (fun r hr3 => ?_)))
               all_goals (first | refine tx_single 8 (by kernel_rfl) (to_e rfl rfl (e_append_own (old := l.map vi) (junk := r.2.2) rfl rfl rfl (by repeat constructor) (by simp) (by omega) hr3.1 (fun w' hw' => RdI.own0 (xs := [own.getD (fr + j) 0]) hw' (by repeat constructor)) (fun u hu => by obtain ⟨_, _, rfl⟩ := List.mem_map.1 hu; rfl) (by simp only [List.length_cons, List.length_nil]; omega) rfl) (.inr ⟨fun _ _ h => h.subl SB.s SB.s, fun _ h => h⟩) (fun q hq => ?_)) | refine tx_single 8 (by kernel_rfl) (to_e rfl rfl (e_append_nil rfl rfl rfl (fun w' hw' => RdI.own0 (xs := [own.getD (fr + j) 0]) hw' (by repeat constructor)) (fun u hu => by obtain ⟨_, _, rfl⟩ := List.mem_map.1 hu; rfl) Nat.zero_lt_one (Nat.le_of_ble_eq_true rfl) rfl) (.inr ⟨fun _ _ h => h.subl SB.s SB.s, fun _ h => h⟩) (fun q hq => ?_)))
               all_goals (first | refine tx_single 13 (by kernel_rfl) (to_e rfl rfl (e_callUf (val := fun _ => .bool false) (p := fun y : Value => y.oneCell' = true) (ob := fun x : Value => .cells #[x] 29 (0, 0)) rfl rfl (.cons rfl (.cons rfl (.cons rfl .nil))) (fun w' hw' => CnX.imp (val' := fun _ : Value => .bool false) (hih w' _ _ _ _ j _ _ hw' rfl (by simp) hvf' (by omega) (by repeat constructor)) id (fun _ => congrArg (fun o : Option (List Int) => Value.bool o.isSome) hsr.symm) (fun _ h => h) (fun x w2 _ hx => ⟨hx.2.1, hx.1⟩)) (fun _ => (by repeat constructor))) (.inr ⟨fun _ _ h => h.subl SB.s SB.s, fun _ h => h⟩) (fun y hy => ?_)) | refine tx_single 13 (by kernel_rfl) (to_e rfl rfl (e_callEnd (val := fun _ => .bool true) (p := fun (x : Value) (w2 : World) => w2.heap[bF]? = some (.cells #[x] 29 (0, 0)) ∧ x.oneCell' = true ∧ RdI w2 x rs) rfl rfl (.cons rfl (.cons rfl (.cons rfl .nil))) (fun w' hw' => CnX.imp (val' := fun _ : Value => .bool true) (hih w' _ _ _ _ j _ _ hw' rfl (by simp) hvf' (by omega) (by repeat constructor)) id (fun _ => congrArg (fun o : Option (List Int) => Value.bool o.isSome) hsr.symm) (fun _ h => h) (fun x w2 _ hx => ⟨hx.1, hx.2.1, hx.2.2 rs hsr⟩)) (fun w' hw' β hβ x hx => .inl (by obtain rfl := List.mem_singleton.1 hβ; exact hx))) (.inr ⟨fun _ _ h => h.subl SB.s SB.s, fun _ h => h⟩) (fun y hy => ?_)))
               all_goals refine tx_done (by kernel_rfl) ?_)
              rotate_right
              focus (
               (first | refine to_e rfl rfl (e_callB rfl (.cons rfl .nil) (fun w' hw' => clone_own b0 c0 l (by omega) w' (hrd w' (hw'.fr (w0 := w) (S := [bF]) MI.m)))) (.inr ⟨fun _ _ h => h.subl SB.s SB.s, fun _ h => h⟩) (fun r hr3 => ?_) | refine to_e rfl rfl (e_callV rfl (.cons rfl .nil) (fun w' _ => clone_nil w')) (.inr ⟨fun _ _ h => h.subl SB.s SB.s, fun _ h => h⟩) (fun r hr3 => ?_))
               all_goals refine tx_single 7 (by kernel_rfl) (to_e rfl rfl (e_bslice rfl (by (repeat (first | exact .nil | apply PV.one rfl rfl | apply PV.two rfl)); done) rfl rfl) (.inr ⟨fun _ _ h => h.subl SB.s SB.s, fun _ h => h⟩) (fun _ _ => ?_))
               all_goals (first | refine tx_single 8 (by kernel_rfl) (to_e rfl rfl (e_append_own (old := l.map vi) (junk := r.2.2) rfl rfl rfl (by repeat constructor) (by simp) (by omega) hr3.1 (fun w' hw' => RdI.own0 (xs := [own.getD (fr + j) 0]) hw' (by repeat constructor)) (fun u hu => by obtain ⟨_, _, rfl⟩ := List.mem_map.1 hu; rfl) (by simp only [List.length_cons, List.length_nil]; omega) rfl) (.inr ⟨fun _ _ h => h.subl SB.s SB.s, fun _ h => h⟩) (fun q hq => ?_)) | refine tx_single 8 (by kernel_rfl) (to_e rfl rfl (e_append_nil rfl rfl rfl (fun w' hw' => RdI.own0 (xs := [own.getD (fr + j) 0]) hw' (by repeat constructor)) (fun u hu => by obtain ⟨_, _, rfl⟩ := List.mem_map.1 hu; rfl) Nat.zero_lt_one (Nat.le_of_ble_eq_true rfl) rfl) (.inr ⟨fun _ _ h => h.subl SB.s SB.s, fun _ h => h⟩) (fun q hq => ?_)))
               all_goals (first | refine tx_single 13 (by kernel_rfl) (to_e rfl rfl (e_callUf (val := fun _ => .bool false) (p := fun y : Value => y.oneCell' = true) (ob := fun x : Value => .cells #[x] 29 (0, 0)) rfl rfl (.cons rfl (.cons rfl (.cons rfl .nil))) (fun w' hw' => CnX.imp (val' := fun _ : Value => .bool false) (hih w' _ _ _ _ j _ _ hw' rfl (by simp) hvf' (by omega) (by repeat constructor)) id (fun _ => congrArg (fun o : Option (List Int) => Value.bool o.isSome) hsr.symm) (fun _ h => h) (fun x w2 _ hx => ⟨hx.2.1, hx.1⟩)) (fun _ => (by repeat constructor))) (.inr ⟨fun _ _ h => h.subl SB.s SB.s, fun _ h => h⟩) (fun y hy => ?_)) | refine tx_single 13 (by kernel_rfl) (to_e rfl rfl (e_callEnd (val := fun _ => .bool true) (p := fun (x : Value) (w2 : World) => w2.heap[bF]? = some (.cells #[x] 29 (0, 0)) ∧ x.oneCell' = true ∧ RdI w2 x rs) rfl rfl (.cons rfl (.cons rfl (.cons rfl .nil))) (fun w' hw' => CnX.imp (val' := fun _ : Value => .bool true) (hih w' _ _ _ _ j _ _ hw' rfl (by simp) hvf' (by omega) (by repeat constructor)) id (fun _ => congrArg (fun o : Option (List Int) => Value.bool o.isSome) hsr.symm) (fun _ h => h) (fun x w2 _ hx => ⟨hx.1, hx.2.1, hx.2.2 rs hsr⟩)) (fun w' hw' β hβ x hx => .inl (by obtain rfl := List.mem_singleton.1 hβ; exact hx))) (.inr ⟨fun _ _ h => h.subl SB.s SB.s, fun _ h => h⟩) (fun y hy => ?_)))
               all_goals refine tx_done (by kernel_rfl) ?_))
             all_goals (refine hK11 ?_; try (clear hK11; clear K11))
             all_goals (
              refine tc_cond rfl (fun hc => ?_) (fun hc => ?_)
              · try simp only [qn1, qn2, qn3, qn4, qn5, qn6, qn7, qn8] at hc
                all_goals first | (exfalso; with_reducible exact bft hc) | (exfalso; with_reducible exact btf hc) | (exfalso; omega) | skip
                all_goals refine tc_seq fun K12 hK12 => ?_
                all_goals refine tc_region ?_
                all_goals refine tl_q (y_assign rfl) rfl ?_
                all_goals refine tl_nil ?_
                all_goals (refine hK12 ?_; try (clear hK12; clear K12))
                all_goals refine tc_ret ?_
                all_goals (repeat (first | refine tk_then_ret ?_ | refine tk_block_ret ?_ | refine tk_scope_ret ?_))
                all_goals first | refine tk_ret rfl rfl (.cons (.tmp rfl) .nil) ?_ | refine tk_retM rfl (by repeat constructor) rfl (.cons (.tmp rfl) .nil) ?_
                all_goals (
                 first
                 | (refine fun w' hw' => ?_
                    have f0 : Fr [] y.2.2 w' := hw'.fr (by simp)
                    have f1 : Fr [bF] w y.2.1 := hy.1.fr (by simp)
                    have e1 : srchL (wpB s b) own (m + 1) _ fr = some rs := fs_hit (j := j) (by omega) hsr hno
                    exact ⟨y.1, by rw [e1]; rfl, (f1.trans hy.2.1 (fun x hx => .inl hx)).trans f0 (by simp), f0.keep hy.2.2.1, hy.2.2.2.1, fun r hr => by rw [e1] at hr; cases hr; exact hy.2.2.2.2.fr f0⟩)
                 | (have e1 : srchL (wpB s b) own (m + 1) l fr = none := fs_miss (fun k hk => hno k (by omega))
                    exact fun w' hw' => ⟨vf', by rw [e1]; rfl, hw'.fr (w0 := w) (S := [bF]) MI.m, hw'.heap _ (HM.mem (by repeat constructor)), hvf', fun r hr => by rw [e1] at hr; cases hr⟩))
              · try simp only [qn1, qn2, qn3, qn4, qn5, qn6, qn7, qn8] at hc
                all_goals first | (exfalso; with_reducible exact bft hc) | (exfalso; with_reducible exact btf hc) | (exfalso; omega) | skip
                all_goals refine tc_skip ?_
                all_goals (refine hK10 ?_; try (clear hK10; clear K10))
                all_goals refine tc_region ?_
                all_goals refine tl_q (y_move rfl) rfl ?_
                all_goals refine tl_q (y_add rfl rfl (by omega)) rfl ?_
                all_goals refine tl_q (y_assign rfl) rfl ?_
                all_goals refine tl_nil ?_
                all_goals (
                 all_goals refine tk_round (j + 1, y) ⟨by dsimp only; omega, hy, fun k hk => ?_⟩ (by dsimp only; omega) ?_ (fun _ h => h.sub (fun _ h => h) SB.s)
                 · rcases Nat.lt_succ_iff_lt_or_eq.1 hk with h | rfl
                   · exact hno k h
                   · exact hsr
                 · dsimp only
                   rw [show (fr : Int) + ((j + 1 : Nat) : Int) = (fr : Int) + (j : Int) + 1 from by omega]
                   exact .cons rfl (.cons rfl (.cons rfl (.cons rfl (.cons rfl (.cons rfl (.cons rfl (.cons rfl .nil)))))))))
           · try simp only [qn1, qn2, qn3, qn4, qn5, qn6, qn7, qn8] at hc
             all_goals first | (exfalso; with_reducible exact bft hc) | (exfalso; with_reducible exact btf hc) | (exfalso; omega) | skip
             all_goals refine tc_exit ?_
             all_goals (refine hK6 ?_; try (clear hK6; clear K6))
             all_goals refine tc_seq fun K13 hK13 => ?_
             all_goals refine tc_region ?_
             all_goals refine tl_q (y_assign rfl) rfl ?_
             all_goals refine tl_nil ?_
             all_goals (refine hK13 ?_; try (clear hK13; clear K13))
             all_goals refine tc_ret ?_
             all_goals (repeat (first | refine tk_then_ret ?_ | refine tk_block_ret ?_ | refine tk_scope_ret ?_))
             all_goals first | refine tk_ret rfl rfl (.cons (.tmp rfl) .nil) ?_ | refine tk_retM rfl (by repeat constructor) rfl (.cons (.tmp rfl) .nil) ?_
             all_goals (
              first
              | (refine fun w' hw' => ?_
                 have f0 : Fr [] y.2.2 w' := hw'.fr (by simp)
                 have f1 : Fr [bF] w y.2.1 := hy.1.fr (by simp)
                 have e1 : srchL (wpB s b) own (m + 1) _ fr = some rs := fs_hit (j := j) (by omega) hsr hno
                 exact ⟨y.1, by rw [e1]; rfl, (f1.trans hy.2.1 (fun x hx => .inl hx)).trans f0 (by simp), f0.keep hy.2.2.1, hy.2.2.2.1, fun r hr => by rw [e1] at hr; cases hr; exact hy.2.2.2.2.fr f0⟩)
              | (have e1 : srchL (wpB s b) own (m + 1) l fr = none := fs_miss (fun k hk => hno k (by omega))
                 exact fun w' hw' => ⟨vf', by rw [e1]; rfl, hw'.fr (w0 := w) (S := [bF]) MI.m, hw'.heap _ (HM.mem (by repeat constructor)), hvf', fun r hr => by rw [e1] at hr; cases hr⟩)))))
end Go.Sp
/-
  DERIVED: THE SHELF's CONTRACTS AT THIS DUMP, IN PLAIN WORDS (tools/lay-plain.mjs out of 'TryzShelf.lean', which tools/lay-shelf.mjs wrote): THE SAME DECLARATIONS UNDER THE SAME NAMES: 'import', 'namespace', 'open', 'def', 'theorem' AND NOTHING ELSE: no command of the shelf's: FOR A HAND-IN. Each laying: the table of numbers ('.._ren') and one theorem, a field a fact of the dump's own or the kernel's comparison; each contract: ONE APPLICATION.
-/
namespace Go.Proofs
open Go.Shelf
def Tryz.lays189_ren : Go.Shelf.Ren := ⟨fun | 189 => 69 | 125 => 94 | 257 => 93 | 128 => 120 | 129 => 121 | 294 => 111 | 295 => 112 | 296 => 113 | 297 => 114 | 298 => 115 | 299 => 116 | 216 => 117 | 300 => 118 | 301 => 119 | 328 => 138 | 329 => 139 | 330 => 140 | 331 => 141 | 332 => 142 | 215 => 143 | 343 => 150 | n => n, fun | 28 => 29 | 3 => 3 | 46 => 114 | 0 => 0 | 51 => 173 | 53 => 175 | 4 => 4 | 183 => 166 | 182 => 165 | 131 => 170 | 5 => 5 | 9 => 9 | 218 => 190 | 222 => 194 | 228 => 200 | 229 => 201 | n => n, fun | n => n⟩
theorem Tryz.lays189 : Go.Proofs.Lays.n189 Tryz.prog Tryz.lays189_ren := {
  mixed := by kernel_rfl
  f125 := Tryz.func94.trans (congrArg some (by kernel_rfl))
  f128 := Tryz.func120.trans (congrArg some (by kernel_rfl))
  f129 := Tryz.func121.trans (congrArg some (by kernel_rfl))
  f189 := Tryz.func69.trans (congrArg some (by kernel_rfl))
  f215 := Tryz.func143.trans (congrArg some (by kernel_rfl))
  f216 := Tryz.func117.trans (congrArg some (by kernel_rfl))
  f257 := Tryz.func93.trans (congrArg some (by kernel_rfl))
  f294 := Tryz.func111.trans (congrArg some (by kernel_rfl))
  f295 := Tryz.func112.trans (congrArg some (by kernel_rfl))
  f296 := Tryz.func113.trans (congrArg some (by kernel_rfl))
  f297 := Tryz.func114.trans (congrArg some (by kernel_rfl))
  f298 := Tryz.func115.trans (congrArg some (by kernel_rfl))
  f299 := Tryz.func116.trans (congrArg some (by kernel_rfl))
  f300 := Tryz.func118.trans (congrArg some (by kernel_rfl))
  f301 := Tryz.func119.trans (congrArg some (by kernel_rfl))
  f328 := Tryz.func138.trans (congrArg some (by kernel_rfl))
  f329 := Tryz.func139.trans (congrArg some (by kernel_rfl))
  f330 := Tryz.func140.trans (congrArg some (by kernel_rfl))
  f331 := Tryz.func141.trans (congrArg some (by kernel_rfl))
  f332 := Tryz.func142.trans (congrArg some (by kernel_rfl))
  f343 := Tryz.func150.trans (congrArg some (by kernel_rfl))
  t0 := Tryz.underlying0
  a0 := Tryz.isAgg0
  z0 := Tryz.sizeOf0
  v0 := Tryz.zeroValue0
  t3 := Tryz.underlying3
  a3 := Tryz.isAgg3
  z3 := Tryz.sizeOf3
  v3 := Tryz.zeroValue3
  t4 := Tryz.underlying4
  a4 := Tryz.isAgg4
  z4 := Tryz.sizeOf4
  v4 := Tryz.zeroValue4
  t5 := Tryz.underlying5
  a5 := Tryz.isAgg5
  z5 := Tryz.sizeOf5
  v5 := Tryz.zeroValue5
  t9 := Tryz.underlying9
  a9 := Tryz.isAgg9
  z9 := Tryz.sizeOf9
  v9 := Tryz.zeroValue9
  t28 := Tryz.underlying29
  a28 := Tryz.isAgg29
  z28 := Tryz.sizeOf29
  v28 := Tryz.zeroValue29
  t46 := Tryz.underlying114
  a46 := Tryz.isAgg114
  z46 := Tryz.sizeOf114
  v46 := Tryz.zeroValue114
  t51 := Tryz.underlying173
  a51 := Tryz.isAgg173
  z51 := Tryz.sizeOf173
  v51 := Tryz.zeroValue173
  t53 := Tryz.underlying175
  a53 := Tryz.isAgg175
  z53 := Tryz.sizeOf175
  v53 := Tryz.zeroValue175
  t131 := Tryz.underlying170
  a131 := Tryz.isAgg170
  z131 := Tryz.sizeOf170
  v131 := Tryz.zeroValue170
  t182 := Tryz.underlying165
  a182 := Tryz.isAgg165
  z182 := Tryz.sizeOf165
  v182 := Tryz.zeroValue165
  t183 := Tryz.underlying166
  a183 := Tryz.isAgg166
  z183 := Tryz.sizeOf166
  v183 := Tryz.zeroValue166
  t218 := Tryz.underlying190
  a218 := Tryz.isAgg190
  z218 := Tryz.sizeOf190
  v218 := Tryz.zeroValue190
  t222 := Tryz.underlying194
  a222 := Tryz.isAgg194
  z222 := Tryz.sizeOf194
  v222 := Tryz.zeroValue194
  t228 := Tryz.underlying200
  a228 := Tryz.isAgg200
  z228 := Tryz.sizeOf200
  v228 := Tryz.zeroValue200
  t229 := Tryz.underlying201
  a229 := Tryz.isAgg201
  z229 := Tryz.sizeOf201
  v229 := Tryz.zeroValue201 }
end Go.Proofs
/-
  Package sample: the smallest set of entries.
-/
namespace Go.Sp
open Go Go.Proofs
theorem put_world {w w' : World} {n : Nat} {os : Array Obj} {b : Nat} {e : TypeId} {xs ys : List Int} {junk : List Value} (hb : w.heap[b]? = some (.cells (xs.map vi ++ junk).toArray e (0, 0))) (hl : ys.length = xs.length)
    (hw : w' = Sort.grow (Sort.putRow (Value.int .i64) (Sort.ahead w n) b 0 ys.toArray) os) : Fr [b] w w' ∧ w'.heap[b]? = some (.cells (ys.map vi ++ junk).toArray e (0, 0)) := by
  have hlt : b < w.heap.size := (Array.getElem?_eq_some_iff.1 hb).1
  have hsz : (Sort.putRow (Value.int .i64) (Sort.ahead w n) b 0 ys.toArray).heap.size = w.heap.size := by rw [Sort.size_putRow]; rfl
  have hmod : ∀ k : Nat, (Sort.putRow (Value.int .i64) (Sort.ahead w n) b 0 ys.toArray).heap[k]? = if b = k then (w.heap[k]?).map (Sort.onCells (Sort.putCells (Value.int .i64) 0 ys.toArray)) else w.heap[k]? := fun k => by
    unfold Sort.putRow Sort.mapBlock
    show (w.heap.modify b _)[k]? = _
    rw [Array.getElem?_modify]
  subst hw
  refine ⟨⟨rfl, rfl, rfl, by rw [Sort.size_grow, hsz]; omega, fun k hk hn => ?_⟩, ?_⟩
  · rw [Sort.heap_grow_old _ _ (by rw [hsz]; exact hk), hmod k, if_neg (fun h => hn (by rw [h]; simp))]
  · rw [Sort.heap_grow_old _ _ (by rw [hsz]; exact hlt), hmod b, if_pos rfl, hb]
    simp only [Option.map_some, Sort.onCells]
    congr 2
    apply Array.ext_getElem?
    intro k
    simp only [Sort.putCells, Array.getElem?_mapIdx, List.getElem?_toArray, Nat.zero_le, true_and, Nat.zero_add, List.size_toArray, Nat.sub_zero]
    by_cases hk : k < ys.length
    · rw [List.getElem?_append_left (by simp; omega), List.getElem?_append_left (by simpa using hk)]
      simp [hk, show k < xs.length by omega]
    · rw [List.getElem?_append_right (by simp; omega), List.getElem?_append_right (by simp; omega)]
      simp only [List.length_map, hl]
      rw [show xs.length = ys.length from hl.symm]
      cases junk[k - ys.length]? with
      | none => rfl
      | some v => simp [hk]
theorem holds_own {w : World} {b : Nat} {e : TypeId} {xs : List Int} {junk : List Value} (hb : w.heap[b]? = some (.cells (xs.map vi ++ junk).toArray e (0, 0))) : Sort.Holds (Value.int .i64) w b 0 xs.toArray := fun j hj => by
  have hj' : j < xs.length := by simpa using hj
  refine ⟨?_, unfz_at hb rfl rfl⟩
  rw [Nat.zero_add]
  refine cell0 hb ?_
  simp [List.getElem?_append_left, hj']
theorem sort_own (xs : List Int) (n : Nat) (hn : xs.length = n) (hx : n ≤ 1000000) (b cap : Nat) (junk : List Value) (w : World) (hb : w.heap[b]? = some (.cells (xs.map vi ++ junk).toArray 3 (0, 0))) :
    CnX Tryz.prog 69 #[.slice (some ⟨b, 0, none⟩) n cap] w [b] (fun _ : Unit => .tuple #[]) (fun _ w' => True ∧ w'.heap[b]? = some (.cells ((xs.mergeSort fun x y => decide (x ≤ y)).map vi ++ junk).toArray 3 (0, 0))) := by
  subst hn
  have h : Calls Tryz.prog 69 #[.slice (some ⟨b, 0, none⟩) xs.length cap] w _ := Any.slices_Sort_int Tryz.lays189 b 0 cap xs w (holds_own hb) (Array.getElem?_eq_some_iff.1 hb).1 (by omega)
  refine CnX.of (h.mono fun e w' he => ?_)
  obtain ⟨he, n, os, hw⟩ := he
  obtain ⟨h1, h2⟩ := put_world hb (List.length_mergeSort ..) hw
  exact ⟨(), he, h1, trivial, h2⟩
theorem sort_nil (w : World) : CnV Tryz.prog 69 #[.slice none 0 0] w (.tuple #[]) := by
  have h : Calls Tryz.prog 69 #[.slice none 0 0] w _ := Any.slices_Sort_int_none Tryz.lays189 none 0 w
  exact CnV.of (h.mono fun e w' he => ⟨he.1, by rw [he.2]; exact Fr.refl _ _⟩)
theorem genT_free {b : Int} : ∀ (ps : List Pas) (pre : List Int), (∀ p ∈ ps, ¬ p.b = b) → ∃ x, genT b ps pre = [x]
  | [], pre, _ => ⟨pre, rfl⟩
  | p :: ps, pre, h => by
    rw [genT, if_neg (h p List.mem_cons_self)]
    exact genT_free ps _ (fun q hq => h q (List.mem_cons_of_mem _ hq))
theorem pasN_free {s : Smp} {b : Int} (h : ∀ p ∈ s.ps, ¬ p.b = b) (ts : List Int) (hr a : Int) : ∀ n, n ≤ s.ps.length → pasN s b ts hr a n = some a
  | 0, _ => rfl
  | n + 1, hn => by
    rw [pasN, pasN_free h ts hr a n (by omega)]
    simp only
    rw [if_neg (fun hc => h _ (getD_memG (n := n) (d := pas0) (by omega)) hc.1)]
theorem chN_free {s : Smp} {b : Int} (h : ∀ p ∈ s.ps, ¬ p.b = b) (ts : List Int) : ∀ n, ∃ c, chN s b ts n = some (c, s.F)
  | 0 => ⟨[], rfl⟩
  | n + 1 => by
    obtain ⟨c, hc⟩ := chN_free h ts n
    exact ⟨c ++ [s.F], by rw [chN, hc]; simp only; rw [pasN_free h _ _ _ _ (Nat.le_refl _)]⟩
theorem minP_some {l : List (Bool × Int)} {r : Bool → Option Int} : ∀ {n : Nat}, n ≤ l.length → ∀ {i : Nat}, i < n → (r (l.getD i (false, 0)).1).isSome = true → (minP l r n).isSome = true
  | 0, _, i, hi, _ => absurd hi (Nat.not_lt_zero i)
  | n + 1, hn, i, hi, h => by
    rw [minP]
    split
    · rename_i h0
      rcases Nat.lt_succ_iff_lt_or_eq.1 hi with g | rfl
      · exact minP_some (by omega) g h
      · rw [h0] at h; cases h
    · split <;> rfl
theorem seen_free {s : Smp} {b : Int} (h : ∀ g ∈ s.sg, ¬ g.b = b) (hr : Int) (x : Bool) : seenB s b hr x = true := List.all_eq_true.2 fun g hg => by
  unfold sgB
  rw [decide_eq_true (h g hg)]; rfl
theorem rstF_keep {s : Smp} {b : Int} {c : List Int} (h : ∀ hr : Int, seenB s b hr false = true) : ∀ k, (rstF s b c k false).isSome = true
  | 0 => rfl
  | k + 1 => by
    rw [rstF]
    have h0 : 0 < (stepL s b (s.L - k) (stB s c (s.L - k)) false).length ∧ (stepL s b (s.L - k) (stB s c (s.L - k)) false).getD 0 (false, 0) = (false, 0) := by
      have : stp1 s b (s.L - k) (stB s c (s.L - k)) false 0 = [(false, 0)] := by
        unfold stp1
        rw [if_pos ⟨rfl, h _⟩, if_neg (by decide)]; rfl
      have e : stepL s b (s.L - k) (stB s c (s.L - k)) false = (false, 0) :: ((List.range' 1 3).flatMap (stp1 s b (s.L - k) (stB s c (s.L - k)) false)) := by
        unfold stepL stepN
        rw [show List.range 4 = 0 :: List.range' 1 3 from rfl, List.flatMap_cons, this]; rfl
      rw [e]; exact ⟨by simp, rfl⟩
    refine minP_some (Nat.le_refl _) (i := 0) h0.1 ?_
    rw [h0.2]
    exact rstF_keep h k
theorem possF_free {s : Smp} {b : Int} (h1 : ∀ p ∈ s.ps, ¬ p.b = b) (h2 : ∀ g ∈ s.sg, ¬ g.b = b) : possF s b = true := by
  obtain ⟨x, hx⟩ := genT_free (b := b) s.ps [] h1
  obtain ⟨c, hc⟩ := chN_free h1 x (s.L + 1).toNat
  have hch : chF s b x = some (padC c) := by unfold chF; rw [hc]; rfl
  unfold possF
  refine List.any_eq_true.2 ⟨padC c, (ddC_mem s b _ _).2 ⟨x, ?_, hch⟩, ?_⟩
  · unfold timesL; rw [hx]; simp
  · exact rstF_keep (fun hr => seen_free h2 hr false) _
theorem mem_filt {α : Type} {p : Nat → Bool} {f : Nat → α} {n : Nat} {x : α} (h : x ∈ ((List.range n).filter p).map f) : ∃ i, i < n ∧ p i = true ∧ f i = x := by
  obtain ⟨i, hi, rfl⟩ := List.mem_map.1 h
  obtain ⟨h1, h2⟩ := List.mem_filter.1 hi
  exact ⟨i, List.mem_range.1 h1, h2, rfl⟩
theorem wth_own (s : Smp) (b : Int) : possF (wthF s (entL s b)) b = true := by
  refine possF_free (fun p hp hb => ?_) (fun g hg hb => ?_)
  · obtain ⟨i, hi, hn, rfl⟩ := mem_filt hp
    have : (i : Int) ∈ entL s b := List.mem_append_left _ (List.mem_map.2 ⟨i, List.mem_filter.2 ⟨List.mem_range.2 hi, decide_eq_true hb⟩, rfl⟩)
    rw [decide_eq_true this] at hn; cases hn
  · obtain ⟨i, hi, hn, rfl⟩ := mem_filt hg
    have : (s.ps.length : Int) + (i : Int) ∈ entL s b := List.mem_append_right _ (List.mem_map.2 ⟨i, List.mem_filter.2 ⟨List.mem_range.2 hi, decide_eq_true hb⟩, rfl⟩)
    rw [decide_eq_true this] at hn; cases hn
theorem srchL_all {p : List Int → Bool} {own : List Int} : ∀ (m : Nat) (l : List Int) (fr : Nat), fr + m = own.length → p (l ++ own.drop fr) = true → srchL p own m l fr = some (l ++ own.drop fr)
  | 0, l, fr, h, hp => by
    rw [show own.drop fr = [] from List.drop_of_length_le (by omega), List.append_nil] at hp ⊢
    unfold srchL; rw [if_pos hp]
  | m + 1, l, fr, h, hp => by
    have hfr : fr < own.length := by omega
    have hd : own.drop fr = own.getD fr 0 :: own.drop (fr + 1) := by
      rw [List.drop_eq_getElem_cons hfr, List.getD_eq_getElem?_getD, List.getElem?_eq_getElem hfr]; rfl
    rw [srchL, show own.length - m - fr = 1 from by omega]
    have ih := srchL_all (p := p) (own := own) m (l ++ [own.getD fr 0]) (fr + 1) (by omega) (by rw [List.append_assoc, List.singleton_append, ← hd]; exact hp)
    show (List.findSome? _ [0]) = _
    rw [List.findSome?_cons, Nat.add_zero, ih]
    simp only
    rw [List.append_assoc, List.singleton_append, ← hd]
theorem srchL_own (s : Smp) (b : Int) : srchL (wpB s b) (entL s b) (entL s b).length [] 0 = some (entL s b) := srchL_all _ [] 0 (by omega) (by rw [List.nil_append, List.drop_zero]; exact wth_own s b)
def lvF (s : Smp) (b : Int) : List Int := ((List.range ((entL s b).length + 1)).findSome? fun n => srchL (wpB s b) (entL s b) n [] 0).getD []
set_option maxHeartbeats 2000000 in
theorem leave_c (s : Smp) (hf : Few s) (hv : VSm s) (b : Int) (tv pv gv : Value) (w : World) (hr : RdSm w s tv pv gv) :
    CnX Tryz.prog 68 #[smV s tv pv gv, vi b] w [] (fun y : Value => y) (fun y w' => RdI w' y (lvF s b) ∧ y.oneCell' = true) := by
  have hr0 := hr
  have hfp := hf.ps
  have hfg := hf.sg
  have hel : (entL s b).length ≤ s.ps.length + s.sg.length := entN_len s b s.sg.length
  have hso := srchL_own s b
  refine cnx0 (vs := [_, _]) Tryz.func68 rfl rfl ?_
  all_goals refine tc_seq fun K1 hK1 => ?_
  all_goals refine tc_region ?_
  all_goals refine tl_e (e_box rfl rfl rfl) rfl (fun b2 _ => ?_)
  all_goals refine tl_e (e_box rfl rfl rfl) rfl (fun b3 _ => ?_)
  all_goals refine tl_q (y_assign rfl) rfl ?_
  all_goals refine tl_nil ?_
  all_goals (refine hK1 ?_; try (clear hK1; clear K1))
  all_goals refine tc_scope ?_
  all_goals refine tc_seq fun K2 hK2 => ?_
  all_goals refine tc_region ?_
  all_goals (first | refine tl_q (y_loadW rfl (by repeat constructor) (by rfl)) rfl ?_ | refine tl_q (y_loadN rfl (by repeat constructor) (by (repeat (first | exact .nil | apply CA.cons rfl)); done)) rfl ?_ | refine tl_q (y_load1o (v := slV (entL s b).length y.1) rfl (fun w' hw' => cell0 (hEl.step (hw'.fr (w0 := wl) (S := [b6]) MI.m)).hO rfl)) rfl ?_ | refine tl_q (y_load1o (v := tryV b6 b2 b3 b5 b7) rfl (fun w' hw' => cell0 (hEl.step (hw'.fr (w0 := wl) (S := [b6]) MI.m)).hT rfl)) rfl ?_ | refine tl_q (y_load1o (v := z.1) rfl (fun w' hw' => cell0 ((hw'.fr (w0 := z.2.2) (S := []) MI.m).keep hz.2.2.1) rfl)) rfl ?_)
  all_goals (first | refine tl_q (y_load1 rfl (by repeat constructor) (by rfl)) rfl ?_ | refine tl_q (y_load1o (v := slV (entL s b).length y.1) rfl (fun w' hw' => cell0 (hEl.step (hw'.fr (w0 := wl) (S := [b6]) MI.m)).hO rfl)) rfl ?_ | refine tl_q (y_load1o (v := tryV b6 b2 b3 b5 b7) rfl (fun w' hw' => cell0 (hEl.step (hw'.fr (w0 := wl) (S := [b6]) MI.m)).hT rfl)) rfl ?_ | refine tl_q (y_load1o (v := z.1) rfl (fun w' hw' => cell0 ((hw'.fr (w0 := z.2.2) (S := []) MI.m).keep hz.2.2.1) rfl)) rfl ?_)
  all_goals refine tl_e (e_callX rfl (.cons rfl (.cons rfl .nil)) (fun w' hw' => entries_c s hf b tv pv gv w' (hr0.fr (hw'.fr (w0 := w) (S := []) MI.m)))) rfl (fun y hy => ?_)
  all_goals refine tl_e (e_alloc1 rfl) rfl (fun b5 _ => ?_)
  all_goals refine tl_e (e_store1 rfl rfl (by repeat constructor) (by repeat constructor) (by rfl) (by rfl)) rfl (fun _ _ => ?_)
  all_goals refine tl_nil ?_
  all_goals (refine hK2 ?_; try (clear hK2; clear K2))
  all_goals refine tc_seq fun K3 hK3 => ?_
  all_goals refine tc_region ?_
  all_goals refine tl_e (e_alloc1 rfl) rfl (fun b6 _ => ?_)
  all_goals refine tl_nil ?_
  all_goals (refine hK3 ?_; try (clear hK3; clear K3))
  all_goals refine tc_seq fun K4 hK4 => ?_
  all_goals refine tc_region ?_
  all_goals refine tl_e (e_alloc1 rfl) rfl (fun b7 _ => ?_)
  all_goals refine tl_nil ?_
  all_goals (refine hK4 ?_; try (clear hK4; clear K4))
  all_goals refine tc_seq fun K5 hK5 => ?_
  all_goals refine tc_region ?_
  all_goals refine tl_q (y_fn .nil (.cons rfl (.cons rfl (.cons rfl (.cons rfl (.cons rfl .nil)))))) rfl ?_
  all_goals refine tl_e (e_store1 rfl rfl (by repeat constructor) (by repeat constructor) (by rfl) (by rfl)) rfl (fun _ _ => ?_)
  all_goals refine tl_nil ?_
  all_goals (refine hK5 ?_; try (clear hK5; clear K5))
  all_goals refine tc_seq fun K6 hK6 => ?_
  all_goals refine tc_label ?_
  all_goals (refine hK6 ?_; try (clear hK6; clear K6))
  all_goals refine tc_seq fun K7 hK7 => ?_
  all_goals refine tc_seq fun K8 hK8 => ?_
  all_goals refine tc_lay [(b6, Obj.cells #[.slice none 0 0] 29 (0, 0))] SB.s (fun wl hl => ?_)
  all_goals (obtain ⟨hyr, hyw⟩ := hy; have hnd := hl.nodup; simp only [List.map_cons, List.map_nil, List.nodup_cons, List.mem_cons, not_or, List.not_mem_nil, not_false_eq_true, and_true] at hnd)
  all_goals (have hb6w : w.heap.size ≤ b6 := (hl.own (b6, _) (HM.mem (by repeat constructor)) (w, []) MI.m).resolve_left (by simp))
  all_goals (have hb6y : y.2.heap.size ≤ b6 := (hl.own (b6, _) (HM.mem (by repeat constructor)) (y.2, _) MI.m).resolve_left (by simp only [List.map_cons, List.map_nil, List.mem_cons, List.not_mem_nil, or_false]; omega))
  all_goals (have hfy : Fr [] y.2 wl := hl.calm hyw MI.m SB.s)
  all_goals (have hfw : Fr [] w wl := hl.fr (w0 := w) (S := []) MI.m)
  all_goals (have hEl : EnvL s b (entL s b) tv pv gv (slV (entL s b).length y.1) b6 b2 b3 b5 b7 wl := ⟨hl.heap (b2, _) (HM.mem (by repeat constructor)), hl.heap (b3, _) (HM.mem (by repeat constructor)), hl.heap (b5, _) (HM.mem (by repeat constructor)), hl.heap (b7, _) (HM.mem (by repeat constructor)), ⟨⟨by omega, by omega⟩, by omega, by omega⟩, fun w' f => ⟨hr0.fr (hfw.trans f (fun x hx => .inr (by obtain rfl := List.mem_singleton.1 hx; exact hb6w))), (hyr.fr (hfy.trans f (fun x hx => .inr (by obtain rfl := List.mem_singleton.1 hx; exact hb6y)))).toI⟩⟩)
  all_goals refine tc_region ?_
  all_goals (first | refine tl_q (y_load1 rfl (by repeat constructor) (by rfl)) rfl ?_ | refine tl_q (y_load1o (v := slV (entL s b).length y.1) rfl (fun w' hw' => cell0 (hEl.step (hw'.fr (w0 := wl) (S := [b6]) MI.m)).hO rfl)) rfl ?_ | refine tl_q (y_load1o (v := tryV b6 b2 b3 b5 b7) rfl (fun w' hw' => cell0 (hEl.step (hw'.fr (w0 := wl) (S := [b6]) MI.m)).hT rfl)) rfl ?_ | refine tl_q (y_load1o (v := z.1) rfl (fun w' hw' => cell0 ((hw'.fr (w0 := z.2.2) (S := []) MI.m).keep hz.2.2.1) rfl)) rfl ?_)
  all_goals refine tl_q (y_len rfl) rfl ?_
  all_goals refine tl_q (y_add rfl rfl (by omega)) rfl ?_
  all_goals refine tl_q (y_move rfl) rfl ?_
  all_goals refine tl_nil ?_
  all_goals (refine hK8 ?_; try (clear hK8; clear K8))
  all_goals refine tc_block ?_
  all_goals (
   have hih : ∀ (n : Nat) (vf : Value) (w' : World), HG [(wl, [b6])] [(b6, .cells #[vf] 29 (0, 0))] w' → n ≤ (entL s b).length → vf.oneCell' = true → CnX Tryz.prog 92 (#[] ++ #[.slice none 0 0, vi 0, vi n] ++ #[ptr b6, ptr b2, ptr b3, ptr b5, ptr b7]) w' [b6] (fun _ : Value => .bool (srchL (wpB s b) (entL s b) n [] 0).isSome)
       (fun x w' => w'.heap[b6]? = some (.cells #[x] 29 (0, 0)) ∧ x.oneCell' = true ∧ ∀ r, srchL (wpB s b) (entL s b) n [] 0 = some r → RdI w' x r) := fun n vf w' hw' hn hvf => by
     rw [show (#[] ++ #[.slice none 0 0, vi 0, vi n] ++ #[ptr b6, ptr b2, ptr b3, ptr b5, ptr b7] : Array Value) = #[.slice none 0 0, vi ((0 : Nat) : Int), vi n, ptr b6, ptr b2, ptr b3, ptr b5, ptr b7] from by simp]
     exact try_c s hf hv b (entL s b) (by omega) tv pv gv _ b6 b2 b3 b5 b7 n n [] 0 (.slice none 0 0) vf w' rfl (by simp; omega) (Nat.zero_le _) hvf (hw'.heap _ (HM.mem .head)) (hEl.step (hw'.fr (w0 := wl) (S := [b6]) (by simp))) (.inl ⟨rfl, rfl⟩)
   refine tc_loop (fun p : Nat × Value => p.1 ≤ (entL s b).length + 1 ∧ p.2.oneCell' = true ∧ ∀ k : Nat, k < p.1 → srchL (wpB s b) (entL s b) k [] 0 = none) (fun p => [(5, ptr b5), (6, ptr b6), (7, ptr b7), (15, vi ((entL s b).length + 1)), (16, vi p.1)]) (fun _ => [(wl, [b6])]) (fun p => [(b6, .cells #[p.2] 29 (0, 0))]) (fun p => (entL s b).length + 1 - p.1) ?_ ?_
   · exact tk_start (0, .slice none 0 0) ⟨Nat.zero_le _, rfl, fun k hk => absurd hk (Nat.not_lt_zero k)⟩ (.cons rfl (.cons rfl (.cons rfl (.cons rfl (.cons rfl .nil))))) (fun _ h => h.subl SB.s SB.s)
   · rintro ⟨n, vf⟩ ⟨hn, hvf, hno⟩
     dsimp only at hn hvf hno ⊢
     all_goals refine tc_seq fun K9 hK9 => ?_
     all_goals refine tc_region ?_
     all_goals refine tl_q (y_lss rfl rfl) rfl ?_
     all_goals refine tl_nil ?_
     all_goals (refine hK9 ?_; try (clear hK9; clear K9))
     all_goals refine tc_seq fun K10 hK10 => ?_
     all_goals (
      refine tc_cond rfl (fun hc => ?_) (fun hc => ?_)
      · try simp only [qn1, qn2, qn3, qn4, qn5, qn6, qn7, qn8] at hc
        all_goals first | (exfalso; with_reducible exact bft hc) | (exfalso; with_reducible exact btf hc) | (exfalso; omega) | skip
        all_goals refine tc_skip ?_
        all_goals (refine hK10 ?_; try (clear hK10; clear K10))
        all_goals refine tc_seq fun K11 hK11 => ?_
        all_goals refine tc_block ?_
        all_goals refine tc_seq fun K12 hK12 => ?_
        all_goals refine tc_region ?_
        all_goals refine tl_q (y_move rfl) rfl ?_
        all_goals refine tl_q (y_assign rfl) rfl ?_
        all_goals refine tl_nil ?_
        all_goals (refine hK12 ?_; try (clear hK12; clear K12))
        all_goals refine tc_seq fun K13 hK13 => ?_
        all_goals (rcases hsr : srchL (wpB s b) (entL s b) n [] 0 with _ | rs)
        all_goals refine tc_region ?_
        all_goals (first | refine tl_q (y_load1 rfl (by repeat constructor) (by rfl)) rfl ?_ | refine tl_q (y_load1o (v := slV (entL s b).length y.1) rfl (fun w' hw' => cell0 (hEl.step (hw'.fr (w0 := wl) (S := [b6]) MI.m)).hO rfl)) rfl ?_ | refine tl_q (y_load1o (v := tryV b6 b2 b3 b5 b7) rfl (fun w' hw' => cell0 (hEl.step (hw'.fr (w0 := wl) (S := [b6]) MI.m)).hT rfl)) rfl ?_ | refine tl_q (y_load1o (v := z.1) rfl (fun w' hw' => cell0 ((hw'.fr (w0 := z.2.2) (S := []) MI.m).keep hz.2.2.1) rfl)) rfl ?_)
        all_goals refine tl_q (y_move rfl) rfl ?_
        all_goals (first | refine tl_e (e_callUf (val := fun _ => .bool false) (p := fun y : Value => y.oneCell' = true) (ob := fun x : Value => .cells #[x] 29 (0, 0)) rfl rfl (.cons rfl (.cons rfl (.cons rfl .nil))) (fun w' hw' => CnX.imp (val' := fun _ : Value => .bool false) (hih n vf w' hw' (by omega) hvf) id (fun _ => congrArg (fun o : Option (List Int) => Value.bool o.isSome) hsr.symm) (fun _ h => h) (fun x w2 _ hx => ⟨hx.2.1, hx.1⟩)) (fun _ => (by repeat constructor))) rfl (fun z hz => ?_) | refine tl_e (e_callEnd (val := fun _ => .bool true) (p := fun (x : Value) (w2 : World) => w2.heap[b6]? = some (.cells #[x] 29 (0, 0)) ∧ x.oneCell' = true ∧ RdI w2 x rs) rfl rfl (.cons rfl (.cons rfl (.cons rfl .nil))) (fun w' hw' => CnX.imp (val' := fun _ : Value => .bool true) (hih n vf w' hw' (by omega) hvf) id (fun _ => congrArg (fun o : Option (List Int) => Value.bool o.isSome) hsr.symm) (fun _ h => h) (fun x w2 _ hx => ⟨hx.1, hx.2.1, hx.2.2 rs hsr⟩)) (fun w' hw' β hβ x hx => .inl (by obtain rfl := List.mem_singleton.1 hβ; exact hx))) rfl (fun z hz => ?_))
        all_goals refine tl_nil ?_
        all_goals (refine hK13 ?_; try (clear hK13; clear K13))
        all_goals (
         refine tc_cond rfl (fun hc => ?_) (fun hc => ?_)
         · try simp only [qn1, qn2, qn3, qn4, qn5, qn6, qn7, qn8] at hc
           all_goals first | (exfalso; with_reducible exact bft hc) | (exfalso; with_reducible exact btf hc) | (exfalso; omega) | skip
           all_goals refine tc_exit ?_
           all_goals (refine hK7 ?_; try (clear hK7; clear K7))
           all_goals refine tc_seq fun K14 hK14 => ?_
           all_goals first | (exfalso; have h1 := hno (entL s b).length (by omega); rw [hso] at h1; cases h1) | skip
           all_goals refine tc_region ?_
           all_goals (first | refine tl_q (y_load1 rfl (by repeat constructor) (by rfl)) rfl ?_ | refine tl_q (y_load1o (v := slV (entL s b).length y.1) rfl (fun w' hw' => cell0 (hEl.step (hw'.fr (w0 := wl) (S := [b6]) MI.m)).hO rfl)) rfl ?_ | refine tl_q (y_load1o (v := tryV b6 b2 b3 b5 b7) rfl (fun w' hw' => cell0 (hEl.step (hw'.fr (w0 := wl) (S := [b6]) MI.m)).hT rfl)) rfl ?_ | refine tl_q (y_load1o (v := z.1) rfl (fun w' hw' => cell0 ((hw'.fr (w0 := z.2.2) (S := []) MI.m).keep hz.2.2.1) rfl)) rfl ?_)
           all_goals refine tl_q (y_assign rfl) rfl ?_
           all_goals refine tl_nil ?_
           all_goals (refine hK14 ?_; try (clear hK14; clear K14))
           all_goals refine tc_ret ?_
           all_goals (repeat (first | refine tk_then_ret ?_ | refine tk_block_ret ?_ | refine tk_scope_ret ?_))
           all_goals first | refine tk_ret rfl rfl (.cons (.tmp rfl) .nil) ?_ | refine tk_retM rfl (by repeat constructor) rfl (.cons (.tmp rfl) .nil) ?_
           all_goals (
            refine fun w' hw' => ?_
            have f0 : Fr [] z.2.2 w' := hw'.fr (by simp)
            have f1 : Fr [b6] wl z.2.1 := hz.1.fr (by simp)
            have e1 : lvF s b = rs := by
              unfold lvF
              rw [fs_hit (j := n) (by omega) hsr hno]; rfl
            rw [e1]
            exact ⟨z.1, rfl, ((hfw.trans (f1.trans hz.2.1 (fun x hx => .inl hx)) (fun x hx => .inr (by obtain rfl := List.mem_singleton.1 hx; exact hb6w))).mono (fun x hx => .inl hx)).trans f0 (by simp), hz.2.2.2.2.fr f0, hz.2.2.2.1⟩)
         · try simp only [qn1, qn2, qn3, qn4, qn5, qn6, qn7, qn8] at hc
           all_goals first | (exfalso; with_reducible exact bft hc) | (exfalso; with_reducible exact btf hc) | (exfalso; omega) | skip
           all_goals refine tc_skip ?_
           all_goals (refine hK11 ?_; try (clear hK11; clear K11))
           all_goals refine tc_region ?_
           all_goals refine tl_q (y_add rfl rfl (by omega)) rfl ?_
           all_goals refine tl_q (y_move rfl) rfl ?_
           all_goals refine tl_nil ?_
           all_goals (
            exact tk_round (n + 1, z) ⟨by dsimp only; omega, hz, fun k hk => by rcases Nat.lt_succ_iff_lt_or_eq.1 hk with h | rfl; exact hno k h; exact hsr⟩ (by dsimp only; omega) (.cons rfl (.cons rfl (.cons rfl (.cons rfl (.cons rfl .nil))))) (fun _ h => h.subl SB.s SB.s)))
      · try simp only [qn1, qn2, qn3, qn4, qn5, qn6, qn7, qn8] at hc
        all_goals first | (exfalso; with_reducible exact bft hc) | (exfalso; with_reducible exact btf hc) | (exfalso; omega) | skip
        all_goals refine tc_exit ?_
        all_goals (refine hK7 ?_; try (clear hK7; clear K7))
        all_goals refine tc_seq fun K15 hK15 => ?_
        all_goals first | (exfalso; have h1 := hno (entL s b).length (by omega); rw [hso] at h1; cases h1) | skip
        all_goals refine tc_region ?_
        all_goals (first | refine tl_q (y_load1 rfl (by repeat constructor) (by rfl)) rfl ?_ | refine tl_q (y_load1o (v := slV (entL s b).length y.1) rfl (fun w' hw' => cell0 (hEl.step (hw'.fr (w0 := wl) (S := [b6]) MI.m)).hO rfl)) rfl ?_ | refine tl_q (y_load1o (v := tryV b6 b2 b3 b5 b7) rfl (fun w' hw' => cell0 (hEl.step (hw'.fr (w0 := wl) (S := [b6]) MI.m)).hT rfl)) rfl ?_ | refine tl_q (y_load1o (v := z.1) rfl (fun w' hw' => cell0 ((hw'.fr (w0 := z.2.2) (S := []) MI.m).keep hz.2.2.1) rfl)) rfl ?_)
        all_goals refine tl_q (y_assign rfl) rfl ?_
        all_goals refine tl_nil ?_
        all_goals (refine hK15 ?_; try (clear hK15; clear K15))
        all_goals refine tc_ret ?_
        all_goals (repeat (first | refine tk_then_ret ?_ | refine tk_block_ret ?_ | refine tk_scope_ret ?_))
        all_goals first | refine tk_ret rfl rfl (.cons (.tmp rfl) .nil) ?_ | refine tk_retM rfl (by repeat constructor) rfl (.cons (.tmp rfl) .nil) ?_
        all_goals (
         refine fun w' hw' => ?_
         have f0 : Fr [] z.2.2 w' := hw'.fr (by simp)
         have f1 : Fr [b6] wl z.2.1 := hz.1.fr (by simp)
         have e1 : lvF s b = rs := by
           unfold lvF
           rw [fs_hit (j := n) (by omega) hsr hno]; rfl
         rw [e1]
         exact ⟨z.1, rfl, ((hfw.trans (f1.trans hz.2.1 (fun x hx => .inl hx)) (fun x hx => .inr (by obtain rfl := List.mem_singleton.1 hx; exact hb6w))).mono (fun x hx => .inl hx)).trans f0 (by simp), hz.2.2.2.2.fr f0, hz.2.2.2.1⟩)))
theorem flat_in (l : List Int) : l.flatMap inE = l.map vi := by
  induction l with
  | nil => rfl
  | cons a l ih => rw [List.flatMap_cons, ih]; rfl
def lvN (s : Smp) (n : Nat) : List Int := (List.range n).flatMap fun (b : Nat) => lvF s (b : Int)
theorem lvN_succ (s : Smp) (n : Nat) : lvN s (n + 1) = lvN s n ++ lvF s (n : Int) := by simp [lvN, List.range_succ]
def lvS (s : Smp) : List Int := (lvN s s.B.toNat).mergeSort fun x y => decide (x ≤ y)
def levL (s : Smp) : List Int := if chkS s = 0 then lvS s else []
theorem srchL_len {p : List Int → Bool} {own : List Int} : ∀ (m : Nat) (l : List Int) (fr : Nat) (r : List Int), srchL p own m l fr = some r → r.length = l.length + m
  | 0, l, fr, r, h => by
    unfold srchL at h
    split at h
    · cases h; rfl
    · cases h
  | m + 1, l, fr, r, h => by
    rw [srchL] at h
    obtain ⟨j, _, hj⟩ := List.exists_of_findSome?_eq_some h
    have := srchL_len m _ _ r hj
    simp at this; omega
theorem lvF_len (s : Smp) (b : Int) : (lvF s b).length ≤ (entL s b).length := by
  unfold lvF
  cases h : (List.range ((entL s b).length + 1)).findSome? fun n => srchL (wpB s b) (entL s b) n [] 0 with
  | none => simp
  | some r =>
    obtain ⟨n, hn, hr⟩ := List.exists_of_findSome?_eq_some h
    have := srchL_len n [] 0 r hr
    rw [List.mem_range] at hn
    simp at this ⊢; omega
theorem lvN_len {s : Smp} (hf : Few s) (n : Nat) : (lvN s n).length ≤ 18 * n := by
  have h1 := hf.ps
  have h2 := hf.sg
  induction n with
  | zero => simp [lvN]
  | succ n ih =>
    have h3 := lvF_len s (n : Int)
    have h4 : (entL s (n : Int)).length ≤ s.ps.length + s.sg.length := entN_len s n s.sg.length
    rw [lvN_succ, List.length_append]; omega
set_option maxHeartbeats 2000000 in
theorem leaveAll_c (s : Smp) (hf : Few s) (tv pv gv : Value) (w : World) (hr : RdSm w s tv pv gv) :
    CnX Tryz.prog 31 #[smV s tv pv gv] w [] (fun y : Option Addr × Nat => .tuple #[slV (levL s).length y, vi (chkS s)]) (fun y w' => RdI w' (slV (levL s).length y) (levL s)) := by
  have hr0 := hr
  refine cnx0 (vs := [_]) Tryz.func31 rfl rfl ?_
  all_goals refine tc_seq fun K1 hK1 => ?_
  all_goals refine tc_region ?_
  all_goals refine tl_e (e_box rfl rfl rfl) rfl (fun b1 _ => ?_)
  all_goals refine tl_q (y_assign rfl) rfl ?_
  all_goals refine tl_q (y_assign rfl) rfl ?_
  all_goals refine tl_nil ?_
  all_goals (refine hK1 ?_; try (clear hK1; clear K1))
  all_goals refine tc_seq fun K2 hK2 => ?_
  all_goals refine tc_seq fun K3 hK3 => ?_
  all_goals refine tc_region ?_
  all_goals (first | refine tl_q (y_loadW rfl (by repeat constructor) (by rfl)) rfl ?_ | refine tl_q (y_loadN rfl (by repeat constructor) (by (repeat (first | exact .nil | apply CA.cons rfl)); done)) rfl ?_)
  all_goals refine tl_e (e_callV rfl (.cons rfl .nil) (fun w' hw' => checkSample_c s hf tv _ _ w' (hr0.fr (hw'.fr (w0 := w) (S := []) MI.m)))) rfl (fun _ _ => ?_)
  all_goals refine tl_q (y_assign rfl) rfl ?_
  all_goals refine tl_nil ?_
  all_goals (refine hK3 ?_; try (clear hK3; clear K3))
  all_goals refine tc_seq fun K4 hK4 => ?_
  all_goals refine tc_region ?_
  all_goals refine tl_q (y_move rfl) rfl ?_
  all_goals refine tl_q (y_neq rfl rfl) rfl ?_
  all_goals refine tl_nil ?_
  all_goals (refine hK4 ?_; try (clear hK4; clear K4))
  all_goals (
   refine tc_cond rfl (fun hc => ?_) (fun hc => ?_)
   · try simp only [qn1, qn2, qn3, qn4, qn5, qn6, qn7, qn8] at hc
     all_goals first | (exfalso; with_reducible exact bft hc) | (exfalso; with_reducible exact btf hc) | (exfalso; omega) | skip
     all_goals refine tc_seq fun K5 hK5 => ?_
     all_goals refine tc_region ?_
     all_goals refine tl_q (y_move rfl) rfl ?_
     all_goals refine tl_q (y_assign rfl) rfl ?_
     all_goals refine tl_q (y_assign rfl) rfl ?_
     all_goals refine tl_nil ?_
     all_goals (refine hK5 ?_; try (clear hK5; clear K5))
     all_goals refine tc_ret ?_
     all_goals (repeat (first | refine tk_then_ret ?_ | refine tk_block_ret ?_ | refine tk_scope_ret ?_))
     all_goals first | refine tk_ret rfl rfl (.cons (.tmp rfl) (.cons (.tmp rfl) .nil)) ?_ | refine tk_retM rfl (by repeat constructor) rfl (.cons (.tmp rfl) (.cons (.tmp rfl) .nil)) ?_
     all_goals (
      first
      | (have hL : levL s = [] := if_neg (by assumption)
         rw [hL]
         exact fun w' hw' => ⟨(none, 0), rfl, hw'.fr (w0 := w) (S := []) MI.m, RdI.nil _⟩)
      | (have hL : levL s = [] := by unfold levL lvS; rw [if_pos (by omega), hlv]; simp
         rw [hL, show chkS s = 0 from by omega]
         exact fun w' hw' => ⟨(none, 0), rfl, hw'.fr (w0 := w) (S := []) MI.m, RdI.nil _⟩)
      | (have hL : levL s = (lvN s s.B.toNat).mergeSort fun x y => decide (x ≤ y) := if_pos (by omega)
         rw [hL, show chkS s = 0 from by omega]
         refine fun w' hw' => ⟨(some ⟨bo, 0, none⟩, cap), ?_, hw'.fr (w0 := w) (S := []) MI.m, RdI.own hw' (b := bo) (by repeat constructor)⟩
         rw [List.length_mergeSort]; rfl))
   · try simp only [qn1, qn2, qn3, qn4, qn5, qn6, qn7, qn8] at hc
     all_goals first | (exfalso; with_reducible exact bft hc) | (exfalso; with_reducible exact btf hc) | (exfalso; omega) | skip
     all_goals refine tc_skip ?_
     all_goals (refine hK2 ?_; try (clear hK2; clear K2))
     all_goals refine tc_seq fun K6 hK6 => ?_
     all_goals (have hv := chkS_0.1 (by omega : chkS s = 0); have hb1 := hv.b1; have hb3 := hv.b3)
     all_goals refine tc_region ?_
     all_goals refine tl_q (y_assign rfl) rfl ?_
     all_goals refine tl_nil ?_
     all_goals (refine hK6 ?_; try (clear hK6; clear K6))
     all_goals refine tc_seq fun K7 hK7 => ?_
     all_goals refine tc_seq fun K8 hK8 => ?_
     all_goals refine tc_region ?_
     all_goals refine tl_q (y_field rfl) rfl ?_
     all_goals refine tl_q (y_load1 rfl (by repeat constructor) (by rfl)) rfl ?_
     all_goals refine tl_q (y_move rfl) rfl ?_
     all_goals refine tl_nil ?_
     all_goals (refine hK8 ?_; try (clear hK8; clear K8))
     all_goals refine tc_block ?_
     all_goals (
      refine tc_loop (fun p : Nat × OwnB => (p.1 : Int) ≤ s.B ∧ okE 1 (lvN s p.1) p.2) (fun p => [(1, ptr b1), (5, ouV (lvN s p.1).length p.2), (13, vi s.B), (14, vi p.1)]) (fun _ => [(w, [])]) (fun p => (b1, smO s tv pv gv) :: slE 3 inE (lvN s p.1) p.2) (fun p => s.B.toNat - p.1) ?_ ?_
      · exact tk_start (0, none) ⟨by dsimp only; omega, rfl⟩ (.cons rfl (.cons rfl (.cons rfl (.cons rfl .nil)))) (fun _ h => by rw [slE_none]; exact h.subl SB.s SB.s)
      · rintro ⟨k, oo⟩ ⟨hk, hok⟩
        dsimp only at hk hok ⊢
        have hkl := lvN_len hf k
        have hkf : (lvF s (k : Int)).length ≤ 18 := by
          have h3 := lvF_len s (k : Int)
          have h4 : (entL s (k : Int)).length ≤ s.ps.length + s.sg.length := entN_len s k s.sg.length
          have h1 := hf.ps
          have h2 := hf.sg
          omega
        all_goals refine tc_seq fun K9 hK9 => ?_
        all_goals refine tc_region ?_
        all_goals refine tl_q (y_lss rfl rfl) rfl ?_
        all_goals refine tl_nil ?_
        all_goals (refine hK9 ?_; try (clear hK9; clear K9))
        all_goals refine tc_seq fun K10 hK10 => ?_
        all_goals (
         refine tc_cond rfl (fun hc => ?_) (fun hc => ?_)
         · try simp only [qn1, qn2, qn3, qn4, qn5, qn6, qn7, qn8] at hc
           all_goals first | (exfalso; with_reducible exact bft hc) | (exfalso; with_reducible exact btf hc) | (exfalso; omega) | skip
           all_goals refine tc_skip ?_
           all_goals (refine hK10 ?_; try (clear hK10; clear K10))
           all_goals refine tc_seq fun K11 hK11 => ?_
           all_goals refine tc_block ?_
           all_goals refine tc_seq fun K12 hK12 => ?_
           all_goals refine tc_region ?_
           all_goals refine tl_q (y_move rfl) rfl ?_
           all_goals refine tl_q (y_assign rfl) rfl ?_
           all_goals refine tl_nil ?_
           all_goals (refine hK12 ?_; try (clear hK12; clear K12))
           all_goals refine tc_region ?_
           all_goals refine tl_q (y_move rfl) rfl ?_
           all_goals (first | refine tl_q (y_loadW rfl (by repeat constructor) (by rfl)) rfl ?_ | refine tl_q (y_loadN rfl (by repeat constructor) (by (repeat (first | exact .nil | apply CA.cons rfl)); done)) rfl ?_)
           all_goals refine tl_q (y_move rfl) rfl ?_
           all_goals refine tl_e (e_callX rfl (.cons rfl (.cons rfl .nil)) (fun w' hw' => leave_c s hf hv k tv pv gv w' (hr0.fr (hw'.fr (w0 := w) (S := []) MI.m)))) rfl (fun z hz => ?_)
           all_goals refine tl_e (e_appendE (enc := inE) (xs := lvN s k) (ys := lvF s (k : Int)) inE_len inE_one rfl rfl rfl hok (fun _ => by repeat constructor) (fun w' hw' => (hz.1.1.fr (hw'.calm hz.2 MI.m (List.Sublist.refl _))).toS) (by omega) rfl) rfl (fun oo' hok' => ?_)
           all_goals refine tl_q (y_assign rfl) rfl ?_
           all_goals refine tl_nil ?_
           all_goals (refine hK11 ?_; try (clear hK11; clear K11))
           all_goals refine tc_region ?_
           all_goals refine tl_q (y_add rfl rfl (by omega)) rfl ?_
           all_goals refine tl_q (y_move rfl) rfl ?_
           all_goals refine tl_nil ?_
           all_goals (
            have hs := lvN_succ s k
            exact tk_round (k + 1, oo') ⟨by dsimp only; omega, by dsimp only; rw [hs]; exact hok'⟩ (by dsimp only; omega) (.cons rfl (.cons (by dsimp only; rw [hs]; rfl) (.cons rfl (.cons rfl .nil)))) (fun _ h => by dsimp only; rw [hs]; exact h.subl SB.s SB.s))
         · try simp only [qn1, qn2, qn3, qn4, qn5, qn6, qn7, qn8] at hc
           all_goals first | (exfalso; with_reducible exact bft hc) | (exfalso; with_reducible exact btf hc) | (exfalso; omega) | skip
           all_goals refine tc_exit ?_
           all_goals (refine hK7 ?_; try (clear hK7; clear K7))
           all_goals refine tc_seq fun K13 hK13 => ?_
           all_goals (obtain rfl : k = s.B.toNat := by omega)
           all_goals rcases oo with _ | ⟨bo, cap, junk⟩
           all_goals first
           | (have hlv : lvN s s.B.toNat = [] := hok
              rw [hlv, slE_none])
           | (rw [slE_some, flat_in])
           all_goals refine tc_region ?_
           all_goals refine tl_q (y_move rfl) rfl ?_
           all_goals (first | refine tl_e (e_callV rfl (.cons rfl .nil) (fun w' _ => sort_nil w')) rfl (fun _ _ => ?_) | refine tl_e (e_callU (val := fun _ : Unit => .tuple #[]) (p := fun _ => True) (ob := fun _ => .cells (((lvN s s.B.toNat).mergeSort fun x y => decide (x ≤ y)).map vi ++ junk).toArray 3 (0, 0)) rfl (.cons rfl .nil) (fun w' hw' => sort_own (lvN s s.B.toNat) _ rfl (by omega) bo cap junk w' (hw'.heap _ (HM.mem (b := bo) (by repeat constructor)))) (fun _ => (by repeat constructor))) rfl (fun _ _ => ?_))
           all_goals refine tl_nil ?_
           all_goals (refine hK13 ?_; try (clear hK13; clear K13))
           all_goals refine tc_seq fun K14 hK14 => ?_
           all_goals refine tc_region ?_
           all_goals refine tl_q (y_move rfl) rfl ?_
           all_goals refine tl_q (y_assign rfl) rfl ?_
           all_goals refine tl_q (y_assign rfl) rfl ?_
           all_goals refine tl_nil ?_
           all_goals (refine hK14 ?_; try (clear hK14; clear K14))
           all_goals refine tc_ret ?_
           all_goals (repeat (first | refine tk_then_ret ?_ | refine tk_block_ret ?_ | refine tk_scope_ret ?_))
           all_goals first | refine tk_ret rfl rfl (.cons (.tmp rfl) (.cons (.tmp rfl) .nil)) ?_ | refine tk_retM rfl (by repeat constructor) rfl (.cons (.tmp rfl) (.cons (.tmp rfl) .nil)) ?_
           all_goals (
            first
            | (have hL : levL s = [] := if_neg (by assumption)
               rw [hL]
               exact fun w' hw' => ⟨(none, 0), rfl, hw'.fr (w0 := w) (S := []) MI.m, RdI.nil _⟩)
            | (have hL : levL s = [] := by unfold levL lvS; rw [if_pos (by omega), hlv]; simp
               rw [hL, show chkS s = 0 from by omega]
               exact fun w' hw' => ⟨(none, 0), rfl, hw'.fr (w0 := w) (S := []) MI.m, RdI.nil _⟩)
            | (have hL : levL s = (lvN s s.B.toNat).mergeSort fun x y => decide (x ≤ y) := if_pos (by omega)
               rw [hL, show chkS s = 0 from by omega]
               refine fun w' hw' => ⟨(some ⟨bo, 0, none⟩, cap), ?_, hw'.fr (w0 := w) (S := []) MI.m, RdI.own hw' (b := bo) (by repeat constructor)⟩
               rw [List.length_mergeSort]; rfl)))))
end Go.Sp
/-
  The reference of samples: what is valid; equality of lists. The law's helpers.
-/
namespace Go.Sp
open Go Go.Proofs
theorem rIn_c (n lo hi : Int) (w : World) : CnV Tryz.prog 22 #[vi n, vi lo, vi hi] w (.bool (decide (lo ≤ n ∧ n ≤ hi))) := by
  refine cnv (vs := [_, _, _]) Tryz.func22 rfl rfl ?_
  all_goals refine tc_seq fun K1 hK1 => ?_; refine tc_region ?_; refine tl_q (y_assign rfl) rfl ?_; refine tl_nil ?_; ((refine hK1 ?_; try (clear hK1; clear K1)))
  all_goals refine tc_seq fun K2 hK2 => ?_; refine tc_region ?_; refine tl_q (y_move rfl) rfl ?_; refine tl_q (y_move rfl) rfl ?_; refine tl_q (y_geq rfl rfl) rfl ?_; refine tl_q (y_move rfl) rfl ?_; ((refine tl_gs rfl rfl (fun hc => ?_) (fun hc => ?_) <;> (skip) <;> (first | refine tl_sk rfl rfl rfl rfl ?_ | refine tl_qg rfl rfl (y_move rfl) rfl ?_)))
  all_goals (first | refine tl_sk rfl rfl rfl rfl ?_ | refine tl_qg rfl rfl (y_move rfl) rfl ?_); (first | refine tl_sk rfl rfl rfl rfl ?_ | refine tl_qg rfl rfl (y_leq rfl rfl) rfl ?_); (first | refine tl_q (y_pick_t rfl rfl) rfl ?_ | refine tl_q (y_pick_f rfl rfl) rfl ?_); refine tl_q (y_assign rfl) rfl ?_; refine tl_nil ?_; ((refine hK2 ?_; try (clear hK2; clear K2)))
  all_goals refine tc_ret ?_; (repeat (first | refine tk_then_ret ?_))
  all_goals (refine tk_ret rfl rfl (.cons (.tmp rfl) .nil) ?_)
  all_goals (
   refine fun w' hw' => ⟨?_, hw'.fr (by simp)⟩; simp only [outV, decide_eq_true_eq, decide_eq_false_iff_not, ge_iff_le] at *; simp [hc])
theorem rMany_c (s : Smp) (hL : s.L ≤ 9) (hpo : s.ps.all (pasOk s) = true) (h6 : s.ps.length ≤ 6) (tv pv gv : Value) (w : World) (hr : RdS 5 psE w pv s.ps) : CnV Tryz.prog 52 #[smV s tv pv gv] w (vi (manyS s.ps)) := by
  obtain ⟨ad2, cp2, b2, o2, rfl, had2, hcell2⟩ := hr.open psE_len pas0
  refine cnv (vs := [_]) Tryz.func52 rfl rfl ?_
  all_goals refine tc_seq fun K1 hK1 => ?_; refine tc_region ?_; refine tl_e (e_box rfl rfl rfl) rfl (fun b1 _ => ?_); refine tl_q (y_assign rfl) rfl ?_; refine tl_nil ?_; ((refine hK1 ?_; try (clear hK1; clear K1)))
  all_goals refine tc_seq fun K2 hK2 => ?_; refine tc_region ?_; refine tl_q (y_assign rfl) rfl ?_; refine tl_nil ?_; ((refine hK2 ?_; try (clear hK2; clear K2)))
  all_goals refine tc_seq fun K3 hK3 => ?_; refine tc_seq fun K4 hK4 => ?_; refine tc_region ?_; refine tl_q (y_assign rfl) rfl ?_; refine tl_nil ?_; ((refine hK4 ?_; try (clear hK4; clear K4)))
  all_goals refine tc_block ?_
  all_goals (
   refine tc_loop (fun n : Nat => n ≤ s.ps.length) (fun n => [(1, ptr b1), (3, vi (manyS (s.ps.take n))), (4, vi n)]) (fun _ => [(w, [])]) (fun _ => [(b1, .cells #[vi s.B, vi s.P, vi s.L, vi s.F, tv, .slice ad2 s.ps.length cp2, gv] 26 (0, 0))]) (fun n => s.ps.length - n) ?_ ?_
   · exact tk_start 0 (Nat.zero_le _) (.cons rfl (.cons rfl (.cons rfl .nil))) (fun _ h => h.subl SB.s SB.s)
   · rintro n hn
     all_goals refine tc_seq fun K5 hK5 => ?_; refine tc_seq fun K6 hK6 => ?_; refine tc_region ?_; refine tl_q (y_move rfl) rfl ?_; refine tl_q (y_field rfl) rfl ?_; refine tl_q (y_load1 rfl (by repeat constructor) (by rfl)) rfl ?_; refine tl_q (y_len rfl) rfl ?_; refine tl_q (y_lss rfl rfl) rfl ?_; refine tl_nil ?_; ((refine hK6 ?_; try (clear hK6; clear K6)))
     all_goals (
      refine tc_cond rfl (fun hc => ?_) (fun hc => ?_)
      · try simp only [qn1, qn2, qn3, qn4, qn5, qn6, qn7, qn8] at hc
        all_goals refine tc_skip ?_; ((refine hK5 ?_; try (clear hK5; clear K5)))
        all_goals refine tc_seq fun K7 hK7 => ?_; refine tc_block ?_; (have hcc := fun (w' : World) (f : Fr [] w w') => hcell2 w' [] f (by simp) n (by omega))
        all_goals ((have hp1 := pas_at hpo (n := n) (by omega); have hb1 := manyS_take (by omega) hpo (by omega) n (by omega); have hb2 := manyS_take (by omega) hpo (by omega) (n + 1) (by omega); have hsu := manyS_snoc (s.ps.take n) (s.ps.getD n pas0); rw [← takeG_succ (by omega)] at hsu; rw [hsu] at hb2))
        all_goals refine tc_draw (by kernel_rfl) ?_; refine tx_p 0 rfl (by kernel_rfl) (y_move rfl) rfl (fun _ _ _ h => h) (fun _ h => h) ?_; refine tx_p 1 rfl (by kernel_rfl) (y_field rfl) rfl (fun _ _ _ h => h) (fun _ h => h) ?_; refine tx_q 2 rfl (by kernel_rfl) (y_load1 rfl (by repeat constructor) (by rfl)) rfl (fun _ _ _ h => h) (fun _ h => h) ?_; refine tx_p 3 rfl (by kernel_rfl) (y_move rfl) rfl (fun _ _ _ h => h) (fun _ h => h) ?_; refine tx_p 4 rfl (by kernel_rfl) (y_index rfl rfl (by omega) (had2 (by omega))) rfl (fun _ _ _ h => h) (fun _ h => h) ?_; refine tx_p 5 rfl (by kernel_rfl) (y_field rfl) rfl (fun _ _ _ h => h) (fun _ h => h) ?_; refine tx_p 6 rfl (by kernel_rfl) (y_field rfl) rfl (fun _ _ _ h => h) (fun _ h => h) ?_; ((refine tx_q 7 rfl (by kernel_rfl) (y_load1o (v := vi (s.ps.getD n pas0).hi) rfl (fun w' hw' => by rw [show Int.toNat (n : Int) * 5 = n * 5 from by omega]; exact (hcc w' (hw'.fr (w0 := w) (S := []) MI.m)).get 4 _ rfl)) rfl (fun _ _ _ h => h) (fun _ h => h) ?_))
        all_goals refine tx_p 8 rfl (by kernel_rfl) (y_field rfl) rfl (fun _ _ _ h => h) (fun _ h => h) ?_; refine tx_q 9 rfl (by kernel_rfl) (y_load1 rfl (by repeat constructor) (by rfl)) rfl (fun _ _ _ h => h) (fun _ h => h) ?_; refine tx_p 10 rfl (by kernel_rfl) (y_move rfl) rfl (fun _ _ _ h => h) (fun _ h => h) ?_; refine tx_p 11 rfl (by kernel_rfl) (y_index rfl rfl (by omega) (had2 (by omega))) rfl (fun _ _ _ h => h) (fun _ h => h) ?_; refine tx_p 12 rfl (by kernel_rfl) (y_field rfl) rfl (fun _ _ _ h => h) (fun _ h => h) ?_; refine tx_p 13 rfl (by kernel_rfl) (y_field rfl) rfl (fun _ _ _ h => h) (fun _ h => h) ?_; ((refine tx_q 14 rfl (by kernel_rfl) (y_load1o (v := vi (s.ps.getD n pas0).lo) rfl (fun w' hw' => by rw [show Int.toNat (n : Int) * 5 = n * 5 from by omega]; exact (hcc w' (hw'.fr (w0 := w) (S := []) MI.m)).get 3 _ rfl)) rfl (fun _ _ _ h => h) (fun _ h => h) ?_))
        all_goals refine tx_p 15 rfl (by kernel_rfl) (y_sub rfl rfl (by omega)) rfl (fun _ _ _ h => h) (fun _ h => h) ?_; refine tx_p 16 rfl (by kernel_rfl) (y_add rfl rfl (by omega)) rfl (fun _ _ _ h => h) (fun _ h => h) ?_; refine tx_p 17 rfl (by kernel_rfl) (y_mul rfl rfl (by omega)) rfl (fun _ _ _ h => h) (fun _ h => h) ?_; refine tx_p 18 rfl (by kernel_rfl) (y_assign rfl) rfl (fun _ _ _ h => h) (fun _ h => h) ?_; refine tx_done (by kernel_rfl) ?_; ((refine hK7 ?_; try (clear hK7; clear K7)))
        all_goals refine tc_region ?_; refine tl_q (y_move rfl) rfl ?_; refine tl_q (y_add rfl rfl (by omega)) rfl ?_; refine tl_q (y_assign rfl) rfl ?_; refine tl_nil ?_
        all_goals (
         exact tk_round (n + 1) (by omega) (by omega) (.cons rfl (.cons (by rw [hsu]; rfl) (.cons rfl .nil))) (fun _ h => h.subl SB.s SB.s))
      · try simp only [qn1, qn2, qn3, qn4, qn5, qn6, qn7, qn8] at hc
        all_goals refine tc_exit ?_; ((refine hK3 ?_; try (clear hK3; clear K3)))
        all_goals refine tc_seq fun K8 hK8 => ?_; refine tc_region ?_; refine tl_q (y_move rfl) rfl ?_; refine tl_q (y_assign rfl) rfl ?_; refine tl_nil ?_; ((refine hK8 ?_; try (clear hK8; clear K8)))
        all_goals refine tc_ret ?_; (repeat (first | refine tk_then_ret ?_))
        all_goals (refine tk_ret rfl rfl (.cons (.tmp rfl) .nil) ?_)
        all_goals (
         obtain rfl : n = s.ps.length := by omega
         rw [List.take_length]
         exact fun w' hw' => ⟨rfl, hw'.fr (by simp)⟩)))
theorem pasOk_iff {s : Smp} {p : Pas} : pasOk s p = true ↔ (0 ≤ p.b ∧ p.b ≤ s.B - 1) ∧ (0 ≤ p.fr ∧ p.fr ≤ s.P - 1) ∧ (0 ≤ p.to ∧ p.to ≤ s.P - 1) ∧ ¬ p.fr = p.to ∧ 0 ≤ p.lo ∧ p.lo ≤ p.hi ∧ p.hi ≤ s.L := by
  unfold pasOk; rw [decide_eq_true_eq]; omega
theorem sgtOk_iff {s : Smp} {g : Sgt} : sgtOk s g = true ↔ (0 ≤ g.b ∧ g.b ≤ s.B - 1) ∧ 0 ≤ g.h ∧ g.h ≤ s.L := by
  unfold sgtOk; rw [decide_eq_true_eq]
theorem all_upto {α : Type} {d : α} {l : List α} {p : α → Bool} {n : Nat} (hn : n = l.length) (h : ∀ j, j < n → p (l.getD j d) = true) : l.all p = true := List.all_eq_true.2 fun x hx => by
  obtain ⟨j, hj, rfl⟩ := List.getElem_of_mem hx
  have := h j (by omega)
  rwa [List.getD_eq_getElem?_getD, List.getElem?_eq_getElem hj] at this
theorem all_not {α : Type} {d : α} {l : List α} {p : α → Bool} {n : Nat} (hn : n < l.length) (h : ¬ p (l.getD n d) = true) : l.all p = false := by
  cases hg : l.all p
  · rfl
  · exact absurd (List.all_eq_true.1 hg _ (getD_memG (d := d) hn)) h
set_option maxHeartbeats 2000000 in
theorem rFault_c (s : Smp) (tv pv gv : Value) (w : World) (hr : RdSm w s tv pv gv) (hf : Few s) : CnV Tryz.prog 51 #[smV s tv pv gv] w (vi (chkS s)) := by
  have hr0 := hr
  have hf1 := hf.st
  have hf2 := hf.ps
  have hf3 := hf.sg
  obtain ⟨ad1, cp1, _, _, rfl, _, _⟩ := hr.st.open boE_len false
  obtain ⟨ad2, cp2, b2, o2, rfl, had2, hcell2⟩ := hr.ps.open psE_len pas0
  obtain ⟨ad3, cp3, b3, o3, rfl, had3, hcell3⟩ := hr.sg.open sgE_len sgt0
  refine cnv (vs := [_]) Tryz.func51 rfl rfl ?_
  all_goals refine tc_seq fun K1 hK1 => ?_; refine tc_region ?_; refine tl_e (e_box rfl rfl rfl) rfl (fun b1 _ => ?_); refine tl_q (y_assign rfl) rfl ?_; refine tl_nil ?_; ((refine hK1 ?_; try (clear hK1; clear K1)))
  all_goals refine tc_seq fun K2 hK2 => ?_; refine tc_seq fun K3 hK3 => ?_; refine tc_region ?_; refine tl_q (y_field rfl) rfl ?_; refine tl_q (y_load1 rfl (by repeat constructor) (by rfl)) rfl ?_; refine tl_q (y_gtr rfl rfl) rfl ?_; refine tl_q (y_move rfl) rfl ?_; ((refine tl_gs rfl rfl (fun hc => ?_) (fun hc => ?_) <;> (try simp only [qn1, qn2, qn3, qn4, qn5, qn6, qn7, qn8] at hc) <;> (first | refine tl_sk rfl rfl rfl rfl ?_ | refine tl_qg rfl rfl (y_field rfl) rfl ?_)))
  all_goals (first | refine tl_sk rfl rfl rfl rfl ?_ | refine tl_qg rfl rfl (y_load1 rfl (by repeat constructor) (by rfl)) rfl ?_); (first | refine tl_sk rfl rfl rfl rfl ?_ | refine tl_qg rfl rfl (y_gtr rfl rfl) rfl ?_); (first | refine tl_q (y_pick_t rfl rfl) rfl ?_ | refine tl_q (y_pick_f rfl rfl) rfl ?_); refine tl_q (y_move rfl) rfl ?_; ((first | refine tl_sk rfl rfl rfl rfl ?_ | (refine tl_gs rfl rfl (fun hc => ?_) (fun hc => ?_) <;> (try simp only [qn1, qn2, qn3, qn4, qn5, qn6, qn7, qn8] at hc) <;> (first | refine tl_sk rfl rfl rfl rfl ?_ | refine tl_qg rfl rfl (y_field rfl) rfl ?_))))
  all_goals (first | refine tl_sk rfl rfl rfl rfl ?_ | refine tl_qg rfl rfl (y_load1 rfl (by repeat constructor) (by rfl)) rfl ?_); (first | refine tl_sk rfl rfl rfl rfl ?_ | refine tl_qg rfl rfl (y_len rfl) rfl ?_); (first | refine tl_sk rfl rfl rfl rfl ?_ | refine tl_qg rfl rfl (y_gtr rfl rfl) rfl ?_); (first | refine tl_q (y_pick_t rfl rfl) rfl ?_ | refine tl_q (y_pick_f rfl rfl) rfl ?_); refine tl_q (y_move rfl) rfl ?_; ((first | refine tl_sk rfl rfl rfl rfl ?_ | (refine tl_gs rfl rfl (fun hc => ?_) (fun hc => ?_) <;> (try simp only [qn1, qn2, qn3, qn4, qn5, qn6, qn7, qn8] at hc) <;> (first | refine tl_sk rfl rfl rfl rfl ?_ | refine tl_qg rfl rfl (y_field rfl) rfl ?_))))
  all_goals (first | refine tl_sk rfl rfl rfl rfl ?_ | refine tl_qg rfl rfl (y_load1 rfl (by repeat constructor) (by rfl)) rfl ?_); (first | refine tl_sk rfl rfl rfl rfl ?_ | refine tl_qg rfl rfl (y_len rfl) rfl ?_); (first | refine tl_sk rfl rfl rfl rfl ?_ | refine tl_qg rfl rfl (y_gtr rfl rfl) rfl ?_); (first | refine tl_q (y_pick_t rfl rfl) rfl ?_ | refine tl_q (y_pick_f rfl rfl) rfl ?_); refine tl_nil ?_; ((refine hK3 ?_; try (clear hK3; clear K3)))
  all_goals (
   refine tc_cond rfl (fun hc => ?_) (fun hc => ?_)
   · try simp only [qn1, qn2, qn3, qn4, qn5, qn6, qn7, qn8] at hc
     all_goals refine tc_seq fun K4 hK4 => ?_; refine tc_region ?_; refine tl_q (y_assign rfl) rfl ?_; refine tl_nil ?_; ((refine hK4 ?_; try (clear hK4; clear K4)))
     all_goals refine tc_ret ?_; (repeat (refine tk_then_ret ?_))
     all_goals (refine tk_ret rfl rfl (.cons (.tmp rfl) .nil) ?_)
     all_goals (
      refine fun w' hw' => ⟨congrArg (fun n => Ending.returned (Value.int .i64 n)) ?_, hw'.fr (by simp)⟩
      unfold chkS
      first
      | (rw [if_pos (by omega)])
      | (have hng := all_not (p := sgtOk s) (d := sgt0) (n := j) (l := s.sg) (by omega) (fun h => by rw [sgtOk_iff] at h; omega)
         rw [if_neg (by omega), if_pos (.inr (.inr (.inr (.inr (.inr (.inr hng))))))])
      | (have hallg' := hallg
         rw [if_neg (by omega), if_neg (by rintro (h | h | h | h | h | h | h) <;> first | omega | (rw [h] at hall; cases hall; done) | (rw [h] at hallg'; cases hallg')), if_pos (by omega)])
      | (have hallg' := hallg
         rw [if_neg (by omega), if_neg (by rintro (h | h | h | h | h | h | h) <;> first | omega | (rw [h] at hall; cases hall; done) | (rw [h] at hallg'; cases hallg')), if_neg (by omega)])
      | (have hng := all_not (p := pasOk s) (d := pas0) (n := n) (l := s.ps) (by omega) (fun h => by rw [pasOk_iff] at h; omega)
         rw [if_neg (by omega), if_pos (.inr (.inr (.inr (.inr (.inr (.inl hng))))))])
      | (rw [if_neg (by omega)]
         refine (if_pos ?_).symm
         first
         | exact .inl (by omega)
         | exact .inr (.inl (by omega))
         | exact .inr (.inr (.inl (by omega)))
         | exact .inr (.inr (.inr (.inl (by omega))))
         | exact .inr (.inr (.inr (.inr (.inl (by omega)))))))
   · try simp only [qn1, qn2, qn3, qn4, qn5, qn6, qn7, qn8] at hc
     all_goals ((first | (exfalso; with_reducible exact btf hc) | skip))
     all_goals refine tc_skip ?_; ((refine hK2 ?_; try (clear hK2; clear K2)))
     all_goals refine tc_seq fun K5 hK5 => ?_; refine tc_seq fun K6 hK6 => ?_; refine tc_region ?_; refine tl_q (y_field rfl) rfl ?_; refine tl_q (y_load1 rfl (by repeat constructor) (by rfl)) rfl ?_; refine tl_q (y_lss rfl rfl) rfl ?_; refine tl_q (y_move rfl) rfl ?_; ((refine tl_gs rfl rfl (fun hc => ?_) (fun hc => ?_) <;> (try simp only [qn1, qn2, qn3, qn4, qn5, qn6, qn7, qn8] at hc) <;> (first | refine tl_sk rfl rfl rfl rfl ?_ | refine tl_qg rfl rfl (y_field rfl) rfl ?_)))
     all_goals (first | refine tl_sk rfl rfl rfl rfl ?_ | refine tl_qg rfl rfl (y_load1 rfl (by repeat constructor) (by rfl)) rfl ?_); (first | refine tl_sk rfl rfl rfl rfl ?_ | refine tl_qg rfl rfl (y_lss rfl rfl) rfl ?_); (first | refine tl_q (y_pick_t rfl rfl) rfl ?_ | refine tl_q (y_pick_f rfl rfl) rfl ?_); refine tl_q (y_move rfl) rfl ?_; ((first | refine tl_sk rfl rfl rfl rfl ?_ | (refine tl_gs rfl rfl (fun hc => ?_) (fun hc => ?_) <;> (try simp only [qn1, qn2, qn3, qn4, qn5, qn6, qn7, qn8] at hc) <;> (first | refine tl_sk rfl rfl rfl rfl ?_ | refine tl_qg rfl rfl (y_field rfl) rfl ?_))))
     all_goals (first | refine tl_sk rfl rfl rfl rfl ?_ | refine tl_qg rfl rfl (y_load1 rfl (by repeat constructor) (by rfl)) rfl ?_); (first | refine tl_sk rfl rfl rfl rfl ?_ | refine tl_eg rfl rfl rfl (e_callV rfl (.cons rfl (.cons rfl (.cons rfl .nil))) (fun w' _ => rIn_c _ _ _ w')) (fun _ _ => ?_)); (first | refine tl_sk rfl rfl rfl rfl ?_ | refine tl_qg rfl rfl (y_not_dec rfl) rfl ?_); (first | refine tl_q (y_pick_t rfl rfl) rfl ?_ | refine tl_q (y_pick_f rfl rfl) rfl ?_); refine tl_q (y_move rfl) rfl ?_; ((first | refine tl_sk rfl rfl rfl rfl ?_ | (refine tl_gs rfl rfl (fun hc => ?_) (fun hc => ?_) <;> (try simp only [qn1, qn2, qn3, qn4, qn5, qn6, qn7, qn8] at hc) <;> (first | refine tl_sk rfl rfl rfl rfl ?_ | refine tl_qg rfl rfl (y_field rfl) rfl ?_))))
     all_goals (first | refine tl_sk rfl rfl rfl rfl ?_ | refine tl_qg rfl rfl (y_load1 rfl (by repeat constructor) (by rfl)) rfl ?_); (first | refine tl_sk rfl rfl rfl rfl ?_ | refine tl_qg rfl rfl (y_len rfl) rfl ?_); (first | refine tl_sk rfl rfl rfl rfl ?_ | refine tl_qg rfl rfl (y_field rfl) rfl ?_); (first | refine tl_sk rfl rfl rfl rfl ?_ | refine tl_qg rfl rfl (y_load1 rfl (by repeat constructor) (by rfl)) rfl ?_); (first | refine tl_sk rfl rfl rfl rfl ?_ | refine tl_qg rfl rfl (y_neq rfl rfl) rfl ?_); (first | refine tl_q (y_pick_t rfl rfl) rfl ?_ | refine tl_q (y_pick_f rfl rfl) rfl ?_); refine tl_q (y_move rfl) rfl ?_; ((first | refine tl_sk rfl rfl rfl rfl ?_ | (refine tl_gs rfl rfl (fun hc => ?_) (fun hc => ?_) <;> (try simp only [qn1, qn2, qn3, qn4, qn5, qn6, qn7, qn8] at hc) <;> (first | refine tl_sk rfl rfl rfl rfl ?_ | refine tl_qg rfl rfl (y_field rfl) rfl ?_))))
     all_goals (first | refine tl_sk rfl rfl rfl rfl ?_ | refine tl_qg rfl rfl (y_load1 rfl (by repeat constructor) (by rfl)) rfl ?_); (first | refine tl_sk rfl rfl rfl rfl ?_ | refine tl_qg rfl rfl (y_field rfl) rfl ?_); (first | refine tl_sk rfl rfl rfl rfl ?_ | refine tl_qg rfl rfl (y_load1 rfl (by repeat constructor) (by rfl)) rfl ?_); (first | refine tl_sk rfl rfl rfl rfl ?_ | refine tl_qg rfl rfl (y_sub rfl rfl (by omega)) rfl ?_); (first | refine tl_sk rfl rfl rfl rfl ?_ | refine tl_eg rfl rfl rfl (e_callV rfl (.cons rfl (.cons rfl (.cons rfl .nil))) (fun w' _ => rIn_c _ _ _ w')) (fun _ _ => ?_)); (first | refine tl_sk rfl rfl rfl rfl ?_ | refine tl_qg rfl rfl (y_not_dec rfl) rfl ?_); (first | refine tl_q (y_pick_t rfl rfl) rfl ?_ | refine tl_q (y_pick_f rfl rfl) rfl ?_); refine tl_nil ?_; ((refine hK6 ?_; try (clear hK6; clear K6)))
     all_goals (
      refine tc_cond rfl (fun hc => ?_) (fun hc => ?_)
      · try simp only [qn1, qn2, qn3, qn4, qn5, qn6, qn7, qn8] at hc
        all_goals refine tc_seq fun K7 hK7 => ?_; refine tc_region ?_; refine tl_q (y_assign rfl) rfl ?_; refine tl_nil ?_; ((refine hK7 ?_; try (clear hK7; clear K7)))
        all_goals refine tc_ret ?_; (repeat (refine tk_then_ret ?_))
        all_goals (refine tk_ret rfl rfl (.cons (.tmp rfl) .nil) ?_)
        all_goals (
         refine fun w' hw' => ⟨congrArg (fun n => Ending.returned (Value.int .i64 n)) ?_, hw'.fr (by simp)⟩
         unfold chkS
         first
         | (rw [if_pos (by omega)])
         | (have hng := all_not (p := sgtOk s) (d := sgt0) (n := j) (l := s.sg) (by omega) (fun h => by rw [sgtOk_iff] at h; omega)
            rw [if_neg (by omega), if_pos (.inr (.inr (.inr (.inr (.inr (.inr hng))))))])
         | (have hallg' := hallg
            rw [if_neg (by omega), if_neg (by rintro (h | h | h | h | h | h | h) <;> first | omega | (rw [h] at hall; cases hall; done) | (rw [h] at hallg'; cases hallg')), if_pos (by omega)])
         | (have hallg' := hallg
            rw [if_neg (by omega), if_neg (by rintro (h | h | h | h | h | h | h) <;> first | omega | (rw [h] at hall; cases hall; done) | (rw [h] at hallg'; cases hallg')), if_neg (by omega)])
         | (have hng := all_not (p := pasOk s) (d := pas0) (n := n) (l := s.ps) (by omega) (fun h => by rw [pasOk_iff] at h; omega)
            rw [if_neg (by omega), if_pos (.inr (.inr (.inr (.inr (.inr (.inl hng))))))])
         | (rw [if_neg (by omega)]
            refine (if_pos ?_).symm
            first
            | exact .inl (by omega)
            | exact .inr (.inl (by omega))
            | exact .inr (.inr (.inl (by omega)))
            | exact .inr (.inr (.inr (.inl (by omega))))
            | exact .inr (.inr (.inr (.inr (.inl (by omega)))))))
      · try simp only [qn1, qn2, qn3, qn4, qn5, qn6, qn7, qn8] at hc
        all_goals ((first | (exfalso; with_reducible exact btf hc) | skip))
        all_goals refine tc_skip ?_; ((refine hK5 ?_; try (clear hK5; clear K5)))
        all_goals refine tc_seq fun K8 hK8 => ?_; refine tc_seq fun K9 hK9 => ?_; refine tc_region ?_; refine tl_q (y_assign rfl) rfl ?_; refine tl_nil ?_; ((refine hK9 ?_; try (clear hK9; clear K9)))
        all_goals refine tc_block ?_
        all_goals (
         refine tc_loop (fun n : Nat => n ≤ s.ps.length ∧ ∀ j, j < n → pasOk s (s.ps.getD j pas0) = true) (fun n => [(1, ptr b1), (3, vi n)]) (fun _ => [(w, [])]) (fun _ => [(b1, .cells #[vi s.B, vi s.P, vi s.L, vi s.F, .slice ad1 s.st.length cp1, .slice ad2 s.ps.length cp2, .slice ad3 s.sg.length cp3] 26 (0, 0))]) (fun n => s.ps.length - n) ?_ ?_
         · exact tk_start 0 ⟨Nat.zero_le _, fun j hj => absurd hj (Nat.not_lt_zero j)⟩ (.cons rfl (.cons rfl .nil)) (fun _ h => h.subl SB.s SB.s)
         · rintro n ⟨hn, hpj⟩
           all_goals refine tc_seq fun K10 hK10 => ?_; refine tc_seq fun K11 hK11 => ?_; refine tc_region ?_; refine tl_q (y_move rfl) rfl ?_; refine tl_q (y_field rfl) rfl ?_; refine tl_q (y_load1 rfl (by repeat constructor) (by rfl)) rfl ?_; refine tl_q (y_len rfl) rfl ?_; refine tl_q (y_lss rfl rfl) rfl ?_; refine tl_nil ?_; ((refine hK11 ?_; try (clear hK11; clear K11)))
           all_goals (
            refine tc_cond rfl (fun hc => ?_) (fun hc => ?_)
            · try simp only [qn1, qn2, qn3, qn4, qn5, qn6, qn7, qn8] at hc
              all_goals refine tc_skip ?_; ((refine hK10 ?_; try (clear hK10; clear K10)))
              all_goals refine tc_seq fun K12 hK12 => ?_; refine tc_block ?_; refine tc_seq fun K13 hK13 => ?_; refine tc_region ?_; refine tl_q (y_field rfl) rfl ?_; refine tl_q (y_load1 rfl (by repeat constructor) (by rfl)) rfl ?_; refine tl_q (y_move rfl) rfl ?_; refine tl_q (y_index rfl rfl (by omega) (had2 (by omega))) rfl ?_; ((refine tl_q (y_loadNo (n := 5) (vs := [vi (s.ps.getD n pas0).b, vi (s.ps.getD n pas0).fr, vi (s.ps.getD n pas0).to, vi (s.ps.getD n pas0).lo, vi (s.ps.getD n pas0).hi]) rfl (fun w' hw' => by rw [show Int.toNat (n : Int) * 5 = n * 5 from by omega]; exact hcell2 w' [] (hw'.fr (by simp)) (by simp) n (by omega))) rfl ?_))
              all_goals refine tl_e (e_allocN rfl) rfl (fun _ _ => ?_); refine tl_e (e_storeW rfl rfl (by repeat constructor) (by rfl) (by rfl) (by simp [Value.oneCell'])) rfl (fun _ _ => ?_); refine tl_nil ?_; ((refine hK13 ?_; try (clear hK13; clear K13)))
              all_goals refine tc_seq fun K14 hK14 => ?_; refine tc_region ?_; refine tl_q (y_field rfl) rfl ?_; refine tl_q (y_load1 rfl (by repeat constructor) (by rfl)) rfl ?_; refine tl_q (y_field rfl) rfl ?_; refine tl_q (y_load1 rfl (by repeat constructor) (by rfl)) rfl ?_; refine tl_q (y_sub rfl rfl (by omega)) rfl ?_; refine tl_e (e_callV rfl (.cons rfl (.cons rfl (.cons rfl .nil))) (fun w' _ => rIn_c _ _ _ w')) rfl (fun _ _ => ?_); refine tl_q (y_not_dec rfl) rfl ?_; refine tl_q (y_move rfl) rfl ?_; ((refine tl_gs rfl rfl (fun hc => ?_) (fun hc => ?_) <;> (try simp only [qn1, qn2, qn3, qn4, qn5, qn6, qn7, qn8] at hc) <;> (first | refine tl_sk rfl rfl rfl rfl ?_ | refine tl_qg rfl rfl (y_field rfl) rfl ?_)))
              all_goals (first | refine tl_sk rfl rfl rfl rfl ?_ | refine tl_qg rfl rfl (y_load1 rfl (by repeat constructor) (by rfl)) rfl ?_); (first | refine tl_sk rfl rfl rfl rfl ?_ | refine tl_qg rfl rfl (y_field rfl) rfl ?_); (first | refine tl_sk rfl rfl rfl rfl ?_ | refine tl_qg rfl rfl (y_load1 rfl (by repeat constructor) (by rfl)) rfl ?_); (first | refine tl_sk rfl rfl rfl rfl ?_ | refine tl_qg rfl rfl (y_sub rfl rfl (by omega)) rfl ?_); (first | refine tl_sk rfl rfl rfl rfl ?_ | refine tl_eg rfl rfl rfl (e_callV rfl (.cons rfl (.cons rfl (.cons rfl .nil))) (fun w' _ => rIn_c _ _ _ w')) (fun _ _ => ?_)); (first | refine tl_sk rfl rfl rfl rfl ?_ | refine tl_qg rfl rfl (y_not_dec rfl) rfl ?_); (first | refine tl_q (y_pick_t rfl rfl) rfl ?_ | refine tl_q (y_pick_f rfl rfl) rfl ?_); refine tl_q (y_move rfl) rfl ?_; ((first | refine tl_sk rfl rfl rfl rfl ?_ | (refine tl_gs rfl rfl (fun hc => ?_) (fun hc => ?_) <;> (try simp only [qn1, qn2, qn3, qn4, qn5, qn6, qn7, qn8] at hc) <;> (first | refine tl_sk rfl rfl rfl rfl ?_ | refine tl_qg rfl rfl (y_field rfl) rfl ?_))))
              all_goals (first | refine tl_sk rfl rfl rfl rfl ?_ | refine tl_qg rfl rfl (y_load1 rfl (by repeat constructor) (by rfl)) rfl ?_); (first | refine tl_sk rfl rfl rfl rfl ?_ | refine tl_qg rfl rfl (y_field rfl) rfl ?_); (first | refine tl_sk rfl rfl rfl rfl ?_ | refine tl_qg rfl rfl (y_load1 rfl (by repeat constructor) (by rfl)) rfl ?_); (first | refine tl_sk rfl rfl rfl rfl ?_ | refine tl_qg rfl rfl (y_sub rfl rfl (by omega)) rfl ?_); (first | refine tl_sk rfl rfl rfl rfl ?_ | refine tl_eg rfl rfl rfl (e_callV rfl (.cons rfl (.cons rfl (.cons rfl .nil))) (fun w' _ => rIn_c _ _ _ w')) (fun _ _ => ?_)); (first | refine tl_sk rfl rfl rfl rfl ?_ | refine tl_qg rfl rfl (y_not_dec rfl) rfl ?_); (first | refine tl_q (y_pick_t rfl rfl) rfl ?_ | refine tl_q (y_pick_f rfl rfl) rfl ?_); refine tl_q (y_move rfl) rfl ?_; ((first | refine tl_sk rfl rfl rfl rfl ?_ | (refine tl_gs rfl rfl (fun hc => ?_) (fun hc => ?_) <;> (try simp only [qn1, qn2, qn3, qn4, qn5, qn6, qn7, qn8] at hc) <;> (first | refine tl_sk rfl rfl rfl rfl ?_ | refine tl_qg rfl rfl (y_field rfl) rfl ?_))))
              all_goals (first | refine tl_sk rfl rfl rfl rfl ?_ | refine tl_qg rfl rfl (y_load1 rfl (by repeat constructor) (by rfl)) rfl ?_); (first | refine tl_sk rfl rfl rfl rfl ?_ | refine tl_qg rfl rfl (y_field rfl) rfl ?_); (first | refine tl_sk rfl rfl rfl rfl ?_ | refine tl_qg rfl rfl (y_load1 rfl (by repeat constructor) (by rfl)) rfl ?_); (first | refine tl_sk rfl rfl rfl rfl ?_ | refine tl_qg rfl rfl (y_eql rfl rfl) rfl ?_); (first | refine tl_q (y_pick_t rfl rfl) rfl ?_ | refine tl_q (y_pick_f rfl rfl) rfl ?_); refine tl_q (y_move rfl) rfl ?_; ((first | refine tl_sk rfl rfl rfl rfl ?_ | (refine tl_gs rfl rfl (fun hc => ?_) (fun hc => ?_) <;> (try simp only [qn1, qn2, qn3, qn4, qn5, qn6, qn7, qn8] at hc) <;> (first | refine tl_sk rfl rfl rfl rfl ?_ | refine tl_qg rfl rfl (y_field rfl) rfl ?_))))
              all_goals (first | refine tl_sk rfl rfl rfl rfl ?_ | refine tl_qg rfl rfl (y_field rfl) rfl ?_); (first | refine tl_sk rfl rfl rfl rfl ?_ | refine tl_qg rfl rfl (y_load1 rfl (by repeat constructor) (by rfl)) rfl ?_); (first | refine tl_sk rfl rfl rfl rfl ?_ | refine tl_qg rfl rfl (y_lss rfl rfl) rfl ?_); (first | refine tl_q (y_pick_t rfl rfl) rfl ?_ | refine tl_q (y_pick_f rfl rfl) rfl ?_); refine tl_q (y_move rfl) rfl ?_; ((first | refine tl_sk rfl rfl rfl rfl ?_ | (refine tl_gs rfl rfl (fun hc => ?_) (fun hc => ?_) <;> (try simp only [qn1, qn2, qn3, qn4, qn5, qn6, qn7, qn8] at hc) <;> (first | refine tl_sk rfl rfl rfl rfl ?_ | refine tl_qg rfl rfl (y_field rfl) rfl ?_))))
              all_goals (first | refine tl_sk rfl rfl rfl rfl ?_ | refine tl_qg rfl rfl (y_field rfl) rfl ?_); (first | refine tl_sk rfl rfl rfl rfl ?_ | refine tl_qg rfl rfl (y_load1 rfl (by repeat constructor) (by rfl)) rfl ?_); (first | refine tl_sk rfl rfl rfl rfl ?_ | refine tl_qg rfl rfl (y_field rfl) rfl ?_); (first | refine tl_sk rfl rfl rfl rfl ?_ | refine tl_qg rfl rfl (y_field rfl) rfl ?_); (first | refine tl_sk rfl rfl rfl rfl ?_ | refine tl_qg rfl rfl (y_load1 rfl (by repeat constructor) (by rfl)) rfl ?_); (first | refine tl_sk rfl rfl rfl rfl ?_ | refine tl_qg rfl rfl (y_gtr rfl rfl) rfl ?_); (first | refine tl_q (y_pick_t rfl rfl) rfl ?_ | refine tl_q (y_pick_f rfl rfl) rfl ?_); refine tl_q (y_move rfl) rfl ?_; ((first | refine tl_sk rfl rfl rfl rfl ?_ | (refine tl_gs rfl rfl (fun hc => ?_) (fun hc => ?_) <;> (try simp only [qn1, qn2, qn3, qn4, qn5, qn6, qn7, qn8] at hc) <;> (first | refine tl_sk rfl rfl rfl rfl ?_ | refine tl_qg rfl rfl (y_field rfl) rfl ?_))))
              all_goals (first | refine tl_sk rfl rfl rfl rfl ?_ | refine tl_qg rfl rfl (y_field rfl) rfl ?_); (first | refine tl_sk rfl rfl rfl rfl ?_ | refine tl_qg rfl rfl (y_load1 rfl (by repeat constructor) (by rfl)) rfl ?_); (first | refine tl_sk rfl rfl rfl rfl ?_ | refine tl_qg rfl rfl (y_field rfl) rfl ?_); (first | refine tl_sk rfl rfl rfl rfl ?_ | refine tl_qg rfl rfl (y_load1 rfl (by repeat constructor) (by rfl)) rfl ?_); (first | refine tl_sk rfl rfl rfl rfl ?_ | refine tl_qg rfl rfl (y_gtr rfl rfl) rfl ?_); (first | refine tl_q (y_pick_t rfl rfl) rfl ?_ | refine tl_q (y_pick_f rfl rfl) rfl ?_); refine tl_nil ?_; ((refine hK14 ?_; try (clear hK14; clear K14)))
              all_goals (
               refine tc_cond rfl (fun hc => ?_) (fun hc => ?_)
               · try simp only [qn1, qn2, qn3, qn4, qn5, qn6, qn7, qn8] at hc
                 all_goals refine tc_seq fun K15 hK15 => ?_; refine tc_region ?_; refine tl_q (y_assign rfl) rfl ?_; refine tl_nil ?_; ((refine hK15 ?_; try (clear hK15; clear K15)))
                 all_goals refine tc_ret ?_; (repeat (first | refine tk_then_ret ?_ | refine tk_block_ret ?_))
                 all_goals (refine tk_ret rfl rfl (.cons (.tmp rfl) .nil) ?_)
                 all_goals (
                  refine fun w' hw' => ⟨congrArg (fun n => Ending.returned (Value.int .i64 n)) ?_, hw'.fr (by simp)⟩
                  unfold chkS
                  first
                  | (rw [if_pos (by omega)])
                  | (have hng := all_not (p := sgtOk s) (d := sgt0) (n := j) (l := s.sg) (by omega) (fun h => by rw [sgtOk_iff] at h; omega)
                     rw [if_neg (by omega), if_pos (.inr (.inr (.inr (.inr (.inr (.inr hng))))))])
                  | (have hallg' := hallg
                     rw [if_neg (by omega), if_neg (by rintro (h | h | h | h | h | h | h) <;> first | omega | (rw [h] at hall; cases hall; done) | (rw [h] at hallg'; cases hallg')), if_pos (by omega)])
                  | (have hallg' := hallg
                     rw [if_neg (by omega), if_neg (by rintro (h | h | h | h | h | h | h) <;> first | omega | (rw [h] at hall; cases hall; done) | (rw [h] at hallg'; cases hallg')), if_neg (by omega)])
                  | (have hng := all_not (p := pasOk s) (d := pas0) (n := n) (l := s.ps) (by omega) (fun h => by rw [pasOk_iff] at h; omega)
                     rw [if_neg (by omega), if_pos (.inr (.inr (.inr (.inr (.inr (.inl hng))))))])
                  | (rw [if_neg (by omega)]
                     refine (if_pos ?_).symm
                     first
                     | exact .inl (by omega)
                     | exact .inr (.inl (by omega))
                     | exact .inr (.inr (.inl (by omega)))
                     | exact .inr (.inr (.inr (.inl (by omega))))
                     | exact .inr (.inr (.inr (.inr (.inl (by omega)))))))
               · try simp only [qn1, qn2, qn3, qn4, qn5, qn6, qn7, qn8] at hc
                 all_goals ((first | (exfalso; with_reducible exact btf hc) | skip))
                 all_goals refine tc_skip ?_; ((refine hK12 ?_; try (clear hK12; clear K12)))
                 all_goals refine tc_region ?_; refine tl_q (y_move rfl) rfl ?_; refine tl_q (y_add rfl rfl (by omega)) rfl ?_; refine tl_q (y_assign rfl) rfl ?_; refine tl_nil ?_
                 all_goals (
                  exact tk_round (n + 1) ⟨by omega, fun j hj => by rcases Nat.lt_succ_iff_lt_or_eq.1 hj with h | rfl; exact hpj j h; exact pasOk_iff.2 (by omega)⟩ (by omega) (.cons rfl (.cons rfl .nil)) (fun _ h => h.subl SB.s SB.s)))
            · try simp only [qn1, qn2, qn3, qn4, qn5, qn6, qn7, qn8] at hc
              all_goals refine tc_exit ?_; ((refine hK8 ?_; try (clear hK8; clear K8)))
              all_goals refine tc_seq fun K16 hK16 => ?_; refine tc_seq fun K17 hK17 => ?_; refine tc_region ?_; refine tl_q (y_assign rfl) rfl ?_; refine tl_nil ?_; ((refine hK17 ?_; try (clear hK17; clear K17)))
              all_goals refine tc_block ?_
              all_goals (
               have hall : s.ps.all (pasOk s) = true := all_upto (by omega) hpj
               refine tc_loop (fun n : Nat => n ≤ s.sg.length ∧ ∀ j, j < n → sgtOk s (s.sg.getD j sgt0) = true) (fun n => [(1, ptr b1), (5, vi n)]) (fun _ => [(w, [])]) (fun _ => [(b1, .cells #[vi s.B, vi s.P, vi s.L, vi s.F, .slice ad1 s.st.length cp1, .slice ad2 s.ps.length cp2, .slice ad3 s.sg.length cp3] 26 (0, 0))]) (fun n => s.sg.length - n) ?_ ?_
               · exact tk_start 0 ⟨Nat.zero_le _, fun j hj => absurd hj (Nat.not_lt_zero j)⟩ (.cons rfl (.cons rfl .nil)) (fun _ h => h.subl SB.s SB.s)
               · rintro j ⟨hj, hgj⟩
                 all_goals refine tc_seq fun K18 hK18 => ?_; refine tc_seq fun K19 hK19 => ?_; refine tc_region ?_; refine tl_q (y_move rfl) rfl ?_; refine tl_q (y_field rfl) rfl ?_; refine tl_q (y_load1 rfl (by repeat constructor) (by rfl)) rfl ?_; refine tl_q (y_len rfl) rfl ?_; refine tl_q (y_lss rfl rfl) rfl ?_; refine tl_nil ?_; ((refine hK19 ?_; try (clear hK19; clear K19)))
                 all_goals (
                  refine tc_cond rfl (fun hc => ?_) (fun hc => ?_)
                  · try simp only [qn1, qn2, qn3, qn4, qn5, qn6, qn7, qn8] at hc
                    all_goals refine tc_skip ?_; ((refine hK18 ?_; try (clear hK18; clear K18)))
                    all_goals refine tc_seq fun K20 hK20 => ?_; refine tc_block ?_; refine tc_seq fun K21 hK21 => ?_; refine tc_draw (by kernel_rfl) ?_; refine tx_p 0 rfl (by kernel_rfl) (y_field rfl) rfl (fun _ _ _ h => h) (fun _ h => h) ?_; refine tx_q 1 rfl (by kernel_rfl) (y_load1 rfl (by repeat constructor) (by rfl)) rfl (fun _ _ _ h => h) (fun _ h => h) ?_; refine tx_p 2 rfl (by kernel_rfl) (y_move rfl) rfl (fun _ _ _ h => h) (fun _ h => h) ?_; refine tx_p 3 rfl (by kernel_rfl) (y_index rfl rfl (by omega) (had3 (by omega))) rfl (fun _ _ _ h => h) (fun _ h => h) ?_; refine tx_p 4 rfl (by kernel_rfl) (y_field rfl) rfl (fun _ _ _ h => h) (fun _ h => h) ?_; ((refine tx_q 5 rfl (by kernel_rfl) (y_load1o (v := vi (s.sg.getD j sgt0).b) rfl (fun w' hw' => by rw [show Int.toNat (j : Int) * 3 = j * 3 from by omega]; exact (hcell3 w' [] (hw'.fr (w0 := w) (S := []) MI.m) (by simp) j (by omega)).get 0 _ rfl)) rfl (fun _ _ _ h => h) (fun _ h => h) ?_))
                    all_goals refine tx_p 6 rfl (by kernel_rfl) (y_field rfl) rfl (fun _ _ _ h => h) (fun _ h => h) ?_; refine tx_q 7 rfl (by kernel_rfl) (y_load1 rfl (by repeat constructor) (by rfl)) rfl (fun _ _ _ h => h) (fun _ h => h) ?_; refine tx_p 8 rfl (by kernel_rfl) (y_sub rfl rfl (by omega)) rfl (fun _ _ _ h => h) (fun _ h => h) ?_; refine tx_e 9 rfl (by kernel_rfl) rfl (e_callV rfl (.cons rfl (.cons rfl (.cons rfl .nil))) (fun w' _ => rIn_c _ _ _ w')) (.inr fun _ _ h => h) (fun _ _ => ?_); refine tx_p 10 rfl (by kernel_rfl) (y_not_dec rfl) rfl (fun _ _ _ h => h) (fun _ h => h) ?_; refine tx_p 11 rfl (by kernel_rfl) (y_move rfl) rfl (fun _ _ _ h => h) (fun _ h => h) ?_; ((refine tx_gs 142 rfl (fun hc => ?_) (fun hc => ?_) <;> (try simp only [qn1, qn2, qn3, qn4, qn5, qn6, qn7, qn8] at hc) <;> (first | refine tx_sk 12 rfl (by kernel_rfl) rfl rfl rfl rfl (fun _ _ _ h => h) (fun _ h => h) ?_ | refine tx_pg 12 rfl (by kernel_rfl) rfl rfl (y_field rfl) rfl (fun _ _ _ h => h) (fun _ h => h) ?_)))
                    all_goals (first | refine tx_sk 13 rfl (by kernel_rfl) rfl rfl rfl rfl (fun _ _ _ h => h) (fun _ h => h) ?_ | refine tx_qg 13 rfl (by kernel_rfl) rfl rfl (y_load1 rfl (by repeat constructor) (by rfl)) rfl (fun _ _ _ h => h) (fun _ h => h) ?_); (first | refine tx_sk 14 rfl (by kernel_rfl) rfl rfl rfl rfl (fun _ _ _ h => h) (fun _ h => h) ?_ | refine tx_pg 14 rfl (by kernel_rfl) rfl rfl (y_move rfl) rfl (fun _ _ _ h => h) (fun _ h => h) ?_); (first | refine tx_sk 15 rfl (by kernel_rfl) rfl rfl rfl rfl (fun _ _ _ h => h) (fun _ h => h) ?_ | refine tx_pg 15 rfl (by kernel_rfl) rfl rfl (y_index rfl rfl (by omega) (had3 (by omega))) rfl (fun _ _ _ h => h) (fun _ h => h) ?_); (first | refine tx_sk 16 rfl (by kernel_rfl) rfl rfl rfl rfl (fun _ _ _ h => h) (fun _ h => h) ?_ | refine tx_pg 16 rfl (by kernel_rfl) rfl rfl (y_field rfl) rfl (fun _ _ _ h => h) (fun _ h => h) ?_); ((first | refine tx_sk 17 rfl (by kernel_rfl) rfl rfl rfl rfl (fun _ _ _ h => h) (fun _ h => h) ?_ | refine tx_qg 17 rfl (by kernel_rfl) rfl rfl (y_load1o (v := vi (s.sg.getD j sgt0).h) rfl (fun w' hw' => by rw [show Int.toNat (j : Int) * 3 = j * 3 from by omega]; exact (hcell3 w' [] (hw'.fr (w0 := w) (S := []) MI.m) (by simp) j (by omega)).get 1 _ rfl)) rfl (fun _ _ _ h => h) (fun _ h => h) ?_))
                    all_goals (first | refine tx_sk 18 rfl (by kernel_rfl) rfl rfl rfl rfl (fun _ _ _ h => h) (fun _ h => h) ?_ | refine tx_pg 18 rfl (by kernel_rfl) rfl rfl (y_field rfl) rfl (fun _ _ _ h => h) (fun _ h => h) ?_); (first | refine tx_sk 19 rfl (by kernel_rfl) rfl rfl rfl rfl (fun _ _ _ h => h) (fun _ h => h) ?_ | refine tx_qg 19 rfl (by kernel_rfl) rfl rfl (y_load1 rfl (by repeat constructor) (by rfl)) rfl (fun _ _ _ h => h) (fun _ h => h) ?_); (first | refine tx_sk 20 rfl (by kernel_rfl) rfl rfl rfl rfl (fun _ _ _ h => h) (fun _ h => h) ?_ | refine tx_eg 20 rfl (by kernel_rfl) rfl rfl rfl (e_callV rfl (.cons rfl (.cons rfl (.cons rfl .nil))) (fun w' _ => rIn_c _ _ _ w')) (.inr fun _ _ h => h) (fun _ _ => ?_)); (first | refine tx_sk 21 rfl (by kernel_rfl) rfl rfl rfl rfl (fun _ _ _ h => h) (fun _ h => h) ?_ | refine tx_pg 21 rfl (by kernel_rfl) rfl rfl (y_not_dec rfl) rfl (fun _ _ _ h => h) (fun _ h => h) ?_); (first | refine tx_p 22 rfl (by kernel_rfl) (y_pick_t rfl rfl) rfl (fun _ _ _ h => h) (fun _ h => h) ?_ | refine tx_p 22 rfl (by kernel_rfl) (y_pick_f rfl rfl) rfl (fun _ _ _ h => h) (fun _ h => h) ?_); refine tx_done (by kernel_rfl) ?_; ((refine hK21 ?_; try (clear hK21; clear K21)))
                    all_goals (
                     refine tc_cond rfl (fun hc => ?_) (fun hc => ?_)
                     · try simp only [qn1, qn2, qn3, qn4, qn5, qn6, qn7, qn8] at hc
                       all_goals refine tc_seq fun K22 hK22 => ?_; refine tc_region ?_; refine tl_q (y_assign rfl) rfl ?_; refine tl_nil ?_; ((refine hK22 ?_; try (clear hK22; clear K22)))
                       all_goals refine tc_ret ?_; (repeat (first | refine tk_then_ret ?_ | refine tk_block_ret ?_))
                       all_goals (refine tk_ret rfl rfl (.cons (.tmp rfl) .nil) ?_)
                       all_goals (
                        refine fun w' hw' => ⟨congrArg (fun n => Ending.returned (Value.int .i64 n)) ?_, hw'.fr (by simp)⟩
                        unfold chkS
                        first
                        | (rw [if_pos (by omega)])
                        | (have hng := all_not (p := sgtOk s) (d := sgt0) (n := j) (l := s.sg) (by omega) (fun h => by rw [sgtOk_iff] at h; omega)
                           rw [if_neg (by omega), if_pos (.inr (.inr (.inr (.inr (.inr (.inr hng))))))])
                        | (have hallg' := hallg
                           rw [if_neg (by omega), if_neg (by rintro (h | h | h | h | h | h | h) <;> first | omega | (rw [h] at hall; cases hall; done) | (rw [h] at hallg'; cases hallg')), if_pos (by omega)])
                        | (have hallg' := hallg
                           rw [if_neg (by omega), if_neg (by rintro (h | h | h | h | h | h | h) <;> first | omega | (rw [h] at hall; cases hall; done) | (rw [h] at hallg'; cases hallg')), if_neg (by omega)])
                        | (have hng := all_not (p := pasOk s) (d := pas0) (n := n) (l := s.ps) (by omega) (fun h => by rw [pasOk_iff] at h; omega)
                           rw [if_neg (by omega), if_pos (.inr (.inr (.inr (.inr (.inr (.inl hng))))))])
                        | (rw [if_neg (by omega)]
                           refine (if_pos ?_).symm
                           first
                           | exact .inl (by omega)
                           | exact .inr (.inl (by omega))
                           | exact .inr (.inr (.inl (by omega)))
                           | exact .inr (.inr (.inr (.inl (by omega))))
                           | exact .inr (.inr (.inr (.inr (.inl (by omega)))))))
                     · try simp only [qn1, qn2, qn3, qn4, qn5, qn6, qn7, qn8] at hc
                       all_goals ((first | (exfalso; with_reducible exact btf hc) | skip))
                       all_goals refine tc_skip ?_; ((refine hK20 ?_; try (clear hK20; clear K20)))
                       all_goals refine tc_region ?_; refine tl_q (y_move rfl) rfl ?_; refine tl_q (y_add rfl rfl (by omega)) rfl ?_; refine tl_q (y_assign rfl) rfl ?_; refine tl_nil ?_
                       all_goals (
                        exact tk_round (j + 1) ⟨by omega, fun i hi => by rcases Nat.lt_succ_iff_lt_or_eq.1 hi with h | rfl; exact hgj i h; exact sgtOk_iff.2 (by omega)⟩ (by omega) (.cons rfl (.cons rfl .nil)) (fun _ h => h.subl SB.s SB.s)))
                  · try simp only [qn1, qn2, qn3, qn4, qn5, qn6, qn7, qn8] at hc
                    all_goals refine tc_exit ?_; ((refine hK16 ?_; try (clear hK16; clear K16)))
                    all_goals refine tc_seq fun K23 hK23 => ?_; refine tc_seq fun K24 hK24 => ?_; (have hallg : s.sg.all (sgtOk s) = true := all_upto (by omega) hgj)
                    all_goals refine tc_region ?_; refine tl_q (y_loadW rfl (by repeat constructor) (by rfl)) rfl ?_; refine tl_e (e_callV rfl (.cons rfl .nil) (fun w' hw' => rMany_c s (by omega) hall (by omega) _ _ _ w' (hr0.ps.fr (hw'.fr (by simp))))) rfl (fun _ _ => ?_); refine tl_q (y_gtr rfl rfl) rfl ?_; refine tl_nil ?_; ((refine hK24 ?_; try (clear hK24; clear K24)))
                    all_goals (
                     refine tc_cond rfl (fun hc => ?_) (fun hc => ?_)
                     · try simp only [qn1, qn2, qn3, qn4, qn5, qn6, qn7, qn8] at hc
                       all_goals refine tc_seq fun K25 hK25 => ?_; refine tc_region ?_; refine tl_q (y_assign rfl) rfl ?_; refine tl_nil ?_; ((refine hK25 ?_; try (clear hK25; clear K25)))
                       all_goals refine tc_ret ?_; (repeat (refine tk_then_ret ?_))
                       all_goals (refine tk_ret rfl rfl (.cons (.tmp rfl) .nil) ?_)
                       all_goals (
                        refine fun w' hw' => ⟨congrArg (fun n => Ending.returned (Value.int .i64 n)) ?_, hw'.fr (by simp)⟩
                        unfold chkS
                        first
                        | (rw [if_pos (by omega)])
                        | (have hng := all_not (p := sgtOk s) (d := sgt0) (n := j) (l := s.sg) (by omega) (fun h => by rw [sgtOk_iff] at h; omega)
                           rw [if_neg (by omega), if_pos (.inr (.inr (.inr (.inr (.inr (.inr hng))))))])
                        | (have hallg' := hallg
                           rw [if_neg (by omega), if_neg (by rintro (h | h | h | h | h | h | h) <;> first | omega | (rw [h] at hall; cases hall; done) | (rw [h] at hallg'; cases hallg')), if_pos (by omega)])
                        | (have hallg' := hallg
                           rw [if_neg (by omega), if_neg (by rintro (h | h | h | h | h | h | h) <;> first | omega | (rw [h] at hall; cases hall; done) | (rw [h] at hallg'; cases hallg')), if_neg (by omega)])
                        | (have hng := all_not (p := pasOk s) (d := pas0) (n := n) (l := s.ps) (by omega) (fun h => by rw [pasOk_iff] at h; omega)
                           rw [if_neg (by omega), if_pos (.inr (.inr (.inr (.inr (.inr (.inl hng))))))])
                        | (rw [if_neg (by omega)]
                           refine (if_pos ?_).symm
                           first
                           | exact .inl (by omega)
                           | exact .inr (.inl (by omega))
                           | exact .inr (.inr (.inl (by omega)))
                           | exact .inr (.inr (.inr (.inl (by omega))))
                           | exact .inr (.inr (.inr (.inr (.inl (by omega)))))))
                     · try simp only [qn1, qn2, qn3, qn4, qn5, qn6, qn7, qn8] at hc
                       all_goals refine tc_skip ?_; ((refine hK23 ?_; try (clear hK23; clear K23)))
                       all_goals refine tc_seq fun K26 hK26 => ?_; refine tc_region ?_; refine tl_q (y_assign rfl) rfl ?_; refine tl_nil ?_; ((refine hK26 ?_; try (clear hK26; clear K26)))
                       all_goals refine tc_ret ?_; (repeat (first | refine tk_then_ret ?_))
                       all_goals (refine tk_ret rfl rfl (.cons (.tmp rfl) .nil) ?_)
                       all_goals (
                        refine fun w' hw' => ⟨congrArg (fun n => Ending.returned (Value.int .i64 n)) ?_, hw'.fr (by simp)⟩
                        unfold chkS
                        first
                        | (rw [if_pos (by omega)])
                        | (have hng := all_not (p := sgtOk s) (d := sgt0) (n := j) (l := s.sg) (by omega) (fun h => by rw [sgtOk_iff] at h; omega)
                           rw [if_neg (by omega), if_pos (.inr (.inr (.inr (.inr (.inr (.inr hng))))))])
                        | (have hallg' := hallg
                           rw [if_neg (by omega), if_neg (by rintro (h | h | h | h | h | h | h) <;> first | omega | (rw [h] at hall; cases hall; done) | (rw [h] at hallg'; cases hallg')), if_pos (by omega)])
                        | (have hallg' := hallg
                           rw [if_neg (by omega), if_neg (by rintro (h | h | h | h | h | h | h) <;> first | omega | (rw [h] at hall; cases hall; done) | (rw [h] at hallg'; cases hallg')), if_neg (by omega)])
                        | (have hng := all_not (p := pasOk s) (d := pas0) (n := n) (l := s.ps) (by omega) (fun h => by rw [pasOk_iff] at h; omega)
                           rw [if_neg (by omega), if_pos (.inr (.inr (.inr (.inr (.inr (.inl hng))))))])
                        | (rw [if_neg (by omega)]
                           refine (if_pos ?_).symm
                           first
                           | exact .inl (by omega)
                           | exact .inr (.inl (by omega))
                           | exact .inr (.inr (.inl (by omega)))
                           | exact .inr (.inr (.inr (.inl (by omega))))
                           | exact .inr (.inr (.inr (.inr (.inl (by omega))))))))))))))
def thinS (s : Smp) : Prop := s.st.length ≤ 7 ∧ s.ps.length ≤ 9 ∧ s.sg.length ≤ 9
instance (s : Smp) : Decidable (thinS s) := by unfold thinS; infer_instance
theorem thinS.few {s : Smp} (h : thinS s) : Few s := ⟨by have := h.1; omega, h.2.1, h.2.2⟩
theorem thin_c (s : Smp) (tv pv gv : Value) (w : World) (hr : RdSm w s tv pv gv) : CnV Tryz.prog 41 #[smV s tv pv gv] w (.bool (decide (thinS s))) := by
  obtain ⟨ad1, cp1, _, _, rfl, _, _⟩ := hr.st.open boE_len false
  obtain ⟨ad2, cp2, b2, o2, rfl, had2, hcell2⟩ := hr.ps.open psE_len pas0
  obtain ⟨ad3, cp3, b3, o3, rfl, had3, hcell3⟩ := hr.sg.open sgE_len sgt0
  refine cnv (vs := [_]) Tryz.func41 rfl rfl ?_
  all_goals refine tc_seq fun K1 hK1 => ?_; refine tc_region ?_; refine tl_e (e_box rfl rfl rfl) rfl (fun b1 _ => ?_); refine tl_q (y_assign rfl) rfl ?_; refine tl_nil ?_; ((refine hK1 ?_; try (clear hK1; clear K1)))
  all_goals refine tc_seq fun K2 hK2 => ?_; refine tc_region ?_; refine tl_q (y_field rfl) rfl ?_; refine tl_q (y_load1 rfl (by repeat constructor) (by rfl)) rfl ?_; refine tl_q (y_len rfl) rfl ?_; refine tl_q (y_leq rfl rfl) rfl ?_; refine tl_q (y_move rfl) rfl ?_; ((refine tl_gs rfl rfl (fun hc => ?_) (fun hc => ?_) <;> (try simp only [qn1, qn2, qn3, qn4, qn5, qn6, qn7, qn8] at hc) <;> (first | refine tl_sk rfl rfl rfl rfl ?_ | refine tl_qg rfl rfl (y_field rfl) rfl ?_)))
  all_goals (first | refine tl_sk rfl rfl rfl rfl ?_ | refine tl_qg rfl rfl (y_load1 rfl (by repeat constructor) (by rfl)) rfl ?_); (first | refine tl_sk rfl rfl rfl rfl ?_ | refine tl_qg rfl rfl (y_len rfl) rfl ?_); (first | refine tl_sk rfl rfl rfl rfl ?_ | refine tl_qg rfl rfl (y_leq rfl rfl) rfl ?_); (first | refine tl_q (y_pick_t rfl rfl) rfl ?_ | refine tl_q (y_pick_f rfl rfl) rfl ?_); refine tl_q (y_move rfl) rfl ?_; ((first | refine tl_sk rfl rfl rfl rfl ?_ | (refine tl_gs rfl rfl (fun hc => ?_) (fun hc => ?_) <;> (try simp only [qn1, qn2, qn3, qn4, qn5, qn6, qn7, qn8] at hc) <;> (first | refine tl_sk rfl rfl rfl rfl ?_ | refine tl_qg rfl rfl (y_field rfl) rfl ?_))))
  all_goals (first | refine tl_sk rfl rfl rfl rfl ?_ | refine tl_qg rfl rfl (y_load1 rfl (by repeat constructor) (by rfl)) rfl ?_); (first | refine tl_sk rfl rfl rfl rfl ?_ | refine tl_qg rfl rfl (y_len rfl) rfl ?_); (first | refine tl_sk rfl rfl rfl rfl ?_ | refine tl_qg rfl rfl (y_leq rfl rfl) rfl ?_); (first | refine tl_q (y_pick_t rfl rfl) rfl ?_ | refine tl_q (y_pick_f rfl rfl) rfl ?_); refine tl_q (y_assign rfl) rfl ?_; refine tl_nil ?_; ((refine hK2 ?_; try (clear hK2; clear K2)))
  all_goals refine tc_ret ?_; (repeat (first | refine tk_then_ret ?_))
  all_goals (refine tk_ret rfl rfl (.cons (.tmp rfl) .nil) ?_)
  all_goals (
   refine fun w' hw' => ⟨congrArg (fun b => Ending.returned (Value.bool b)) ?_, hw'.fr (by simp)⟩
   unfold thinS
   first
   | exact (decide_eq_true (by omega)).symm
   | exact (decide_eq_false (by omega)).symm
   | exact decide_eq_decide.2 (by omega))
theorem fault_c (s : Smp) (tv pv gv : Value) (w : World) (hr : RdSm w s tv pv gv) (hf : Few s) : CnV Tryz.prog 21 #[smV s tv pv gv] w (vi (chkS s)) := by
  refine cnv (vs := [_]) Tryz.func21 rfl rfl ?_
  all_goals refine tc_seq fun K1 hK1 => ?_; refine tc_region ?_; refine tl_e (e_box rfl rfl rfl) rfl (fun b1 _ => ?_); refine tl_q (y_assign rfl) rfl ?_; refine tl_nil ?_; ((refine hK1 ?_; try (clear hK1; clear K1)))
  all_goals refine tc_seq fun K2 hK2 => ?_; refine tc_region ?_; refine tl_q (y_loadW rfl (by repeat constructor) (by rfl)) rfl ?_; refine tl_e (e_callV rfl (.cons rfl .nil) (fun w' hw' => rFault_c s tv pv gv w' (hr.fr (hw'.fr (by simp))) hf)) rfl (fun _ _ => ?_); refine tl_q (y_assign rfl) rfl ?_; refine tl_nil ?_; ((refine hK2 ?_; try (clear hK2; clear K2)))
  all_goals refine tc_ret ?_; (repeat (first | refine tk_then_ret ?_))
  all_goals (refine tk_ret rfl rfl (.cons (.tmp rfl) .nil) ?_)
  all_goals (
   exact fun w' hw' => ⟨rfl, hw'.fr (by simp)⟩)
def readyS (s : Smp) : Prop := thinS s ∧ chkS s = 0
instance (s : Smp) : Decidable (readyS s) := by unfold readyS; infer_instance
def befF : List Int → List Int → Bool
  | [], [] => false
  | [], _ :: _ => true
  | _ :: _, [] => false
  | x :: a, y :: b => if x = y then befF a b else decide (x < y)
theorem befF_eq : ∀ {a b : List Int}, a.length = b.length → befF a b = false → befF b a = false → a = b
  | [], [], _, _, _ => rfl
  | x :: a, y :: b, hl, h1, h2 => by
    rw [befF] at h1 h2
    by_cases h : x = y
    · rw [if_pos h] at h1; rw [if_pos h.symm] at h2
      rw [h, befF_eq (by simpa using hl) h1 h2]
    · rw [if_neg h, decide_eq_false_iff_not] at h1; rw [if_neg (fun g => h g.symm), decide_eq_false_iff_not] at h2; omega
theorem befF_self : ∀ a : List Int, befF a a = false
  | [] => rfl
  | x :: a => by rw [befF, if_pos rfl]; exact befF_self a
theorem befF_drop {a b : List Int} {n : Nat} (ha : n < a.length) (hb : n < b.length) : befF (a.drop n) (b.drop n) = if a.getD n 0 = b.getD n 0 then befF (a.drop (n + 1)) (b.drop (n + 1)) else decide (a.getD n 0 < b.getD n 0) := by
  rw [List.drop_eq_getElem_cons ha, List.drop_eq_getElem_cons hb, befF, List.getD_eq_getElem?_getD, List.getElem?_eq_getElem ha, List.getD_eq_getElem?_getD, List.getElem?_eq_getElem hb]; rfl
theorem rBefore_c (a b : List Int) (ha : (a.length : Int) ≤ 9000000000000000000) (hb : (b.length : Int) ≤ 9000000000000000000) (av bv : Value) (w : World) (hra : RdI w av a) (hrb : RdI w bv b) : CnV Tryz.prog 62 #[av, bv] w (.bool (befF a b)) := by
  obtain ⟨ad1, cp1, b1, o1, rfl, had1, hc1⟩ := hra.open
  obtain ⟨ad2, cp2, b2, o2, rfl, had2, hc2⟩ := hrb.open
  refine cnv (vs := [_, _]) Tryz.func62 rfl rfl ?_
  all_goals refine tc_seq fun K1 hK1 => ?_; refine tc_region ?_; refine tl_q (y_assign rfl) rfl ?_; refine tl_nil ?_; ((refine hK1 ?_; try (clear hK1; clear K1)))
  all_goals refine tc_seq fun K2 hK2 => ?_; refine tc_seq fun K3 hK3 => ?_; refine tc_region ?_; refine tl_q (y_assign rfl) rfl ?_; refine tl_nil ?_; ((refine hK3 ?_; try (clear hK3; clear K3)))
  all_goals refine tc_block ?_
  all_goals (
   refine tc_loop (fun n : Nat => (n ≤ a.length ∧ n ≤ b.length) ∧ befF a b = befF (a.drop n) (b.drop n)) (fun n => [(0, .slice ad1 a.length cp1), (1, .slice ad2 b.length cp2), (5, vi n)]) (fun _ => [(w, [])]) (fun _ => []) (fun n => a.length - n) ?_ ?_
   · exact tk_start 0 ⟨⟨Nat.zero_le _, Nat.zero_le _⟩, rfl⟩ (.cons rfl (.cons rfl (.cons rfl .nil))) (fun _ h => h.subl SB.s SB.s)
   · rintro n ⟨⟨hn1, hn2⟩, hbe⟩
     all_goals refine tc_seq fun K4 hK4 => ?_; refine tc_seq fun K5 hK5 => ?_; refine tc_region ?_; refine tl_q (y_move rfl) rfl ?_; refine tl_q (y_move rfl) rfl ?_; refine tl_q (y_len rfl) rfl ?_; refine tl_q (y_lss rfl rfl) rfl ?_; refine tl_q (y_move rfl) rfl ?_; ((refine tl_gs rfl rfl (fun hc => ?_) (fun hc => ?_) <;> (try simp only [qn1, qn2, qn3, qn4, qn5, qn6, qn7, qn8] at hc) <;> (first | refine tl_sk rfl rfl rfl rfl ?_ | refine tl_qg rfl rfl (y_move rfl) rfl ?_)))
     all_goals (first | refine tl_sk rfl rfl rfl rfl ?_ | refine tl_qg rfl rfl (y_move rfl) rfl ?_); (first | refine tl_sk rfl rfl rfl rfl ?_ | refine tl_qg rfl rfl (y_len rfl) rfl ?_); (first | refine tl_sk rfl rfl rfl rfl ?_ | refine tl_qg rfl rfl (y_lss rfl rfl) rfl ?_); (first | refine tl_q (y_pick_t rfl rfl) rfl ?_ | refine tl_q (y_pick_f rfl rfl) rfl ?_); refine tl_nil ?_; ((refine hK5 ?_; try (clear hK5; clear K5)))
     all_goals (
      refine tc_cond rfl (fun hc => ?_) (fun hc => ?_)
      · try simp only [qn1, qn2, qn3, qn4, qn5, qn6, qn7, qn8] at hc
        all_goals ((first | (exfalso; with_reducible exact bft hc) | skip))
        all_goals refine tc_skip ?_; ((refine hK4 ?_; try (clear hK4; clear K4)))
        all_goals refine tc_seq fun K6 hK6 => ?_; refine tc_block ?_; refine tc_seq fun K7 hK7 => ?_; refine tc_draw (by kernel_rfl) ?_; refine tx_p 0 rfl (by kernel_rfl) (y_move rfl) rfl (fun _ _ _ h => h) (fun _ h => h) ?_; refine tx_p 1 rfl (by kernel_rfl) (y_move rfl) rfl (fun _ _ _ h => h) (fun _ h => h) ?_; refine tx_p 2 rfl (by kernel_rfl) (y_index rfl rfl (by omega) (had1 (by omega))) rfl (fun _ _ _ h => h) (fun _ h => h) ?_; ((refine tx_q 3 rfl (by kernel_rfl) (y_load1o (v := vi (a.getD n 0)) rfl (fun w' hw' => by rw [show Int.toNat (n : Int) * 1 = n from by omega]; exact hc1 w' (hw'.fr (by simp)) n (by omega))) rfl (fun _ _ _ h => h) (fun _ h => h) ?_))
        all_goals refine tx_p 4 rfl (by kernel_rfl) (y_move rfl) rfl (fun _ _ _ h => h) (fun _ h => h) ?_; refine tx_p 5 rfl (by kernel_rfl) (y_move rfl) rfl (fun _ _ _ h => h) (fun _ h => h) ?_; refine tx_p 6 rfl (by kernel_rfl) (y_index rfl rfl (by omega) (had2 (by omega))) rfl (fun _ _ _ h => h) (fun _ h => h) ?_; ((refine tx_q 7 rfl (by kernel_rfl) (y_load1o (v := vi (b.getD n 0)) rfl (fun w' hw' => by rw [show Int.toNat (n : Int) * 1 = n from by omega]; exact hc2 w' (hw'.fr (by simp)) n (by omega))) rfl (fun _ _ _ h => h) (fun _ h => h) ?_))
        all_goals refine tx_p 8 rfl (by kernel_rfl) (y_neq rfl rfl) rfl (fun _ _ _ h => h) (fun _ h => h) ?_; refine tx_done (by kernel_rfl) ?_; ((refine hK7 ?_; try (clear hK7; clear K7)))
        all_goals (
         refine tc_cond rfl (fun hc => ?_) (fun hc => ?_)
         · try simp only [qn1, qn2, qn3, qn4, qn5, qn6, qn7, qn8] at hc
           all_goals refine tc_seq fun K8 hK8 => ?_; refine tc_draw (by kernel_rfl) ?_; refine tx_p 0 rfl (by kernel_rfl) (y_move rfl) rfl (fun _ _ _ h => h) (fun _ h => h) ?_; refine tx_p 1 rfl (by kernel_rfl) (y_move rfl) rfl (fun _ _ _ h => h) (fun _ h => h) ?_; refine tx_p 2 rfl (by kernel_rfl) (y_index rfl rfl (by omega) (had1 (by omega))) rfl (fun _ _ _ h => h) (fun _ h => h) ?_; ((refine tx_q 3 rfl (by kernel_rfl) (y_load1o (v := vi (a.getD n 0)) rfl (fun w' hw' => by rw [show Int.toNat (n : Int) * 1 = n from by omega]; exact hc1 w' (hw'.fr (by simp)) n (by omega))) rfl (fun _ _ _ h => h) (fun _ h => h) ?_))
           all_goals refine tx_p 4 rfl (by kernel_rfl) (y_move rfl) rfl (fun _ _ _ h => h) (fun _ h => h) ?_; refine tx_p 5 rfl (by kernel_rfl) (y_move rfl) rfl (fun _ _ _ h => h) (fun _ h => h) ?_; refine tx_p 6 rfl (by kernel_rfl) (y_index rfl rfl (by omega) (had2 (by omega))) rfl (fun _ _ _ h => h) (fun _ h => h) ?_; ((refine tx_q 7 rfl (by kernel_rfl) (y_load1o (v := vi (b.getD n 0)) rfl (fun w' hw' => by rw [show Int.toNat (n : Int) * 1 = n from by omega]; exact hc2 w' (hw'.fr (by simp)) n (by omega))) rfl (fun _ _ _ h => h) (fun _ h => h) ?_))
           all_goals refine tx_p 8 rfl (by kernel_rfl) (y_lss rfl rfl) rfl (fun _ _ _ h => h) (fun _ h => h) ?_; refine tx_p 9 rfl (by kernel_rfl) (y_assign rfl) rfl (fun _ _ _ h => h) (fun _ h => h) ?_; refine tx_done (by kernel_rfl) ?_; ((refine hK8 ?_; try (clear hK8; clear K8)))
           all_goals refine tc_ret ?_; (repeat (first | refine tk_then_ret ?_ | refine tk_block_ret ?_))
           all_goals (refine tk_ret rfl rfl (.cons (.tmp rfl) .nil) ?_)
           all_goals (
            refine fun w' hw' => ⟨congrArg (fun b => Ending.returned (Value.bool b)) ?_, hw'.fr (by simp)⟩
            first
            | (rw [hbe, befF_drop (by omega) (by omega), if_neg (by omega)])
            | (rw [hbe]
               rcases (by omega : n = a.length ∨ n = b.length) with rfl | rfl
               · rw [List.drop_length]
                 cases hd : b.drop a.length with
                 | nil => rw [befF]; exact decide_eq_false (by have := congrArg List.length hd; simp at this; omega)
                 | cons y t => rw [befF]; exact decide_eq_true (by have := congrArg List.length hd; simp at this; omega)
               · rw [List.drop_length]
                 cases hd : a.drop b.length with
                 | nil => rw [befF]; exact decide_eq_false (by omega)
                 | cons y t => rw [befF]; exact decide_eq_false (by have := congrArg List.length hd; simp at this; omega)))
         · try simp only [qn1, qn2, qn3, qn4, qn5, qn6, qn7, qn8] at hc
           all_goals refine tc_skip ?_; ((refine hK6 ?_; try (clear hK6; clear K6)))
           all_goals refine tc_region ?_; refine tl_q (y_move rfl) rfl ?_; refine tl_q (y_add rfl rfl (by omega)) rfl ?_; refine tl_q (y_assign rfl) rfl ?_; refine tl_nil ?_
           all_goals (
            exact tk_round (n + 1) ⟨⟨by omega, by omega⟩, by rw [hbe, befF_drop (by omega) (by omega), if_pos (by omega)]⟩ (by omega) (.cons rfl (.cons rfl (.cons rfl .nil))) (fun _ h => h.subl SB.s SB.s)))
      · try simp only [qn1, qn2, qn3, qn4, qn5, qn6, qn7, qn8] at hc
        all_goals refine tc_exit ?_; ((refine hK2 ?_; try (clear hK2; clear K2)))
        all_goals refine tc_seq fun K9 hK9 => ?_; refine tc_region ?_; refine tl_q (y_move rfl) rfl ?_; refine tl_q (y_len rfl) rfl ?_; refine tl_q (y_move rfl) rfl ?_; refine tl_q (y_len rfl) rfl ?_; refine tl_q (y_lss rfl rfl) rfl ?_; refine tl_q (y_assign rfl) rfl ?_; refine tl_nil ?_; ((refine hK9 ?_; try (clear hK9; clear K9)))
        all_goals refine tc_ret ?_; (repeat (first | refine tk_then_ret ?_))
        all_goals (refine tk_ret rfl rfl (.cons (.tmp rfl) .nil) ?_)
        all_goals (
         refine fun w' hw' => ⟨congrArg (fun b => Ending.returned (Value.bool b)) ?_, hw'.fr (by simp)⟩
         first
         | (rw [hbe, befF_drop (by omega) (by omega), if_neg (by omega)])
         | (rw [hbe]
            rcases (by omega : n = a.length ∨ n = b.length) with rfl | rfl
            · rw [List.drop_length]
              cases hd : b.drop a.length with
              | nil => rw [befF]; exact decide_eq_false (by have := congrArg List.length hd; simp at this; omega)
              | cons y t => rw [befF]; exact decide_eq_true (by have := congrArg List.length hd; simp at this; omega)
            · rw [List.drop_length]
              cases hd : a.drop b.length with
              | nil => rw [befF]; exact decide_eq_false (by omega)
              | cons y t => rw [befF]; exact decide_eq_false (by have := congrArg List.length hd; simp at this; omega)))))
theorem rSame_c (a b : List Int) (ha : (a.length : Int) ≤ 9000000000000000000) (hb : (b.length : Int) ≤ 9000000000000000000) (av bv : Value) (w : World) (hra : RdI w av a) (hrb : RdI w bv b) : CnV Tryz.prog 24 #[av, bv] w (.bool (decide (a = b))) := by
  have hra0 := hra
  have hrb0 := hrb
  obtain ⟨ad1, cp1, b1, o1, rfl, had1, hc1⟩ := hra.open
  obtain ⟨ad2, cp2, b2, o2, rfl, had2, hc2⟩ := hrb.open
  refine cnv (vs := [_, _]) Tryz.func24 rfl rfl ?_
  all_goals refine tc_seq fun K1 hK1 => ?_; refine tc_region ?_; refine tl_q (y_assign rfl) rfl ?_; refine tl_nil ?_; ((refine hK1 ?_; try (clear hK1; clear K1)))
  all_goals refine tc_seq fun K2 hK2 => ?_; refine tc_region ?_; refine tl_q (y_move rfl) rfl ?_; refine tl_q (y_len rfl) rfl ?_; refine tl_q (y_move rfl) rfl ?_; refine tl_q (y_len rfl) rfl ?_; refine tl_q (y_eql rfl rfl) rfl ?_; refine tl_q (y_move rfl) rfl ?_; ((refine tl_gs rfl rfl (fun hc => ?_) (fun hc => ?_) <;> (try simp only [qn1, qn2, qn3, qn4, qn5, qn6, qn7, qn8] at hc) <;> (first | refine tl_sk rfl rfl rfl rfl ?_ | refine tl_qg rfl rfl (y_move rfl) rfl ?_)))
  all_goals (first | refine tl_sk rfl rfl rfl rfl ?_ | refine tl_qg rfl rfl (y_move rfl) rfl ?_); (first | refine tl_sk rfl rfl rfl rfl ?_ | refine tl_eg rfl rfl rfl (e_callV rfl (.cons rfl (.cons rfl .nil)) (fun w' hw' => rBefore_c a b ha hb _ _ w' (hra0.fr (hw'.fr (by simp))) (hrb0.fr (hw'.fr (by simp))))) (fun _ _ => ?_)); (first | refine tl_sk rfl rfl rfl rfl ?_ | refine tl_qg rfl rfl (y_not rfl) rfl ?_); (first | refine tl_q (y_pick_t rfl rfl) rfl ?_ | refine tl_q (y_pick_f rfl rfl) rfl ?_); refine tl_q (y_move rfl) rfl ?_; ((first | refine tl_sk rfl rfl rfl rfl ?_ | (refine tl_gs rfl rfl (fun hc => ?_) (fun hc => ?_) <;> (try simp only [qn1, qn2, qn3, qn4, qn5, qn6, qn7, qn8] at hc) <;> (first | refine tl_sk rfl rfl rfl rfl ?_ | refine tl_qg rfl rfl (y_move rfl) rfl ?_))))
  all_goals (first | refine tl_sk rfl rfl rfl rfl ?_ | refine tl_qg rfl rfl (y_move rfl) rfl ?_); (first | refine tl_sk rfl rfl rfl rfl ?_ | refine tl_eg rfl rfl rfl (e_callV rfl (.cons rfl (.cons rfl .nil)) (fun w' hw' => rBefore_c b a hb ha _ _ w' (hrb0.fr (hw'.fr (by simp))) (hra0.fr (hw'.fr (by simp))))) (fun _ _ => ?_)); (first | refine tl_sk rfl rfl rfl rfl ?_ | refine tl_qg rfl rfl (y_not rfl) rfl ?_); (first | refine tl_q (y_pick_t rfl rfl) rfl ?_ | refine tl_q (y_pick_f rfl rfl) rfl ?_); refine tl_q (y_assign rfl) rfl ?_; refine tl_nil ?_; ((refine hK2 ?_; try (clear hK2; clear K2)))
  all_goals refine tc_ret ?_; (repeat (first | refine tk_then_ret ?_))
  all_goals (refine tk_ret rfl rfl (.cons (.tmp rfl) .nil) ?_)
  all_goals (
   refine fun w' hw' => ⟨congrArg (fun b => Ending.returned (Value.bool b)) ?_, hw'.fr (by simp)⟩
   by_cases hab : a = b
   · subst hab
     have hs := befF_self a
     simp_all
   · refine Eq.trans ?_ (decide_eq_false hab).symm
     first
     | rfl
     | (cases h2 : befF b a
        · exact absurd (befF_eq (by omega) (by assumption) h2) hab
        · rfl))
end Go.Sp
