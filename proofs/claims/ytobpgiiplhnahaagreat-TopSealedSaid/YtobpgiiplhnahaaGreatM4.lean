
/-
  Package dispute: what all links, and all facts but some, say, walked.
-/
import Derived.Test.YtobpgiiplhnahaaGreatM3
set_option linter.unusedVariables false
set_option linter.unusedSimpArgs false
set_option linter.deprecated false
namespace Go.Sp
open Go Go.Proofs
theorem take_snocG {α : Type} {l : List α} {i : Nat} {x : α} (h : l[i]? = some x) : l.take (i + 1) = l.take i ++ [x] := by
  rw [List.take_succ, h]; rfl
abbrev fcO (f : Fct) : Obj := .cells #[vi f.p, vi f.s, vi f.wl, vi f.wh, vi f.ml, vi f.mh] 82 (0, 0)
set_option maxHeartbeats 4000000 in
theorem dapart_c (d : Dsp) (hv : VDsp d) (out : List Int) (hout : out.length ≤ 20) (wv mv vv lv fv ov : Value) (w : World) (hr : RdD w d wv mv vv lv fv) (hro : RdI w ov out) (bw bm : Nat) (es : Array MapEntry) (ck : Nat)
    (hbw : w.heap[bw]? = some (wkP d wv mv vv lv fv bm)) (hbm : w.heap[bm]? = some (.map es ck)) (hg : GoodM 6 (mnM d.t) es) :
    CnX Tryz.prog 32 #[ptr bw, ov] w [bm] (fun _ : Array MapEntry × Nat => .tuple #[.agg (isV (aprG d out)), .bool (gOkB (aprG d out))]) (fun x w' => GoodM 6 (mnM d.t) x.1 ∧ w'.heap[bm]? = some (.map x.1 x.2)) := by
  have hne : bw ≠ bm := by rintro rfl; rw [hbw] at hbm; simp at hbm
  have hs := hv.s
  have hl4 := hv.l
  have hf6 := hv.f
  have oo := hro.one
  have o4 := hr.ls.one
  have o5 := hr.fs.one
  have hmp : ∀ x ∈ [bm], ∃ es ck, w.heap[x]? = some (.map es ck) := fun x hx => by
    obtain rfl : x = bm := by simpa using hx
    exact ⟨es, ck, hbm⟩
  have hrM : ∀ w', Fr [bm] w w' → RdD w' d wv mv vv lv fv := fun w' f => hr.frM f hmp
  have hroM : ∀ w', Fr [bm] w w' → RdI w' ov out := fun w' f => (hro.toS.frM f hmp).toI
  have hbwM : ∀ {w'}, Fr [bm] w w' → w'.heap[bw]? = some (wkP d wv mv vv lv fv bm) := fun f => f.keepS (by simpa using hne) hbw
  obtain ⟨al, cl, bl, ol, rfl, hadl, hcl⟩ := hr.ls.open lkE_len lk0
  have hclM : ∀ w', Fr [bm] w w' → ∀ i, i < d.ls.length → CA (fun n => w'.cell? ⟨bl, n, none⟩) (ol + i * 4) 4 (lkE (d.ls.getD i lk0)) := fun w' f i hi => by
    obtain ⟨al', cl', bl', ol', he, hadl', hcl'⟩ := (hrM w' f).ls.open lkE_len lk0
    have h1 := hadl (by omega)
    have h2 := hadl' (by omega)
    injection he with he1 he2 he3
    subst he1
    rw [h1] at h2
    injection h2 with h2
    injection h2 with h2 h3
    subst h2; subst h3
    exact hcl' w' [] (Fr.refl _ _) (by simp) i hi
  refine cnxS (vs := [_, _]) (S := [bm]) [(bm, .map es ck)] Tryz.func32 rfl rfl ⟨by simp [hbm], by simp, by simp⟩ ?_
  all_goals refine tc_seq fun K1 hK1 => ?_; refine tc_region ?_; refine tl_e (e_box rfl rfl rfl) rfl (fun b2 _ => ?_); refine tl_e (e_allocN rfl) rfl (fun ba _ => ?_); refine tl_q (y_assign rfl) rfl ?_; refine tl_nil ?_; ((refine hK1 ?_; try (clear hK1; clear K1)))
  all_goals refine tc_seq fun K2 hK2 => ?_; refine tc_seq fun K3 hK3 => ?_; refine tc_region ?_; refine tl_q (y_move rfl) rfl ?_; refine tl_nil ?_; ((refine hK3 ?_; try (clear hK3; clear K3)))
  all_goals refine tc_block ?_
  all_goals (
   refine tc_loop (fun u : Nat => u ≤ 4) (fun u => [(1, ov), (2, ptr b2), (4, ptr ba), (12, vi u)]) (fun _ => [(w, [bm])]) (fun u => [(ba, apO (gIni (4 * u))), (b2, pbO bw), (bm, .map es ck)]) (fun u => 4 - u) ?_ ?_
   · exact tk_start 0 (by omega) (.cons rfl (.cons rfl (.cons rfl (.cons rfl .nil)))) (fun _ h => by rw [show 4 * 0 = 0 from rfl, gIni_zero]; exact h.subl SB.s SB.s)
   · rintro u hu
     all_goals refine tc_seq fun K4 hK4 => ?_; refine tc_region ?_; refine tl_q (y_lss rfl rfl) rfl ?_; refine tl_nil ?_; ((refine hK4 ?_; try (clear hK4; clear K4)))
     all_goals refine tc_seq fun K5 hK5 => ?_
     all_goals (
      refine tc_cond rfl (fun hc => ?_) (fun hc => ?_)
      · try simp only [qn1, qn2, qn3, qn4, qn5, qn6, qn7, qn8] at hc
        all_goals refine tc_skip ?_; ((refine hK5 ?_; try (clear hK5; clear K5)))
        all_goals refine tc_seq fun K6 hK6 => ?_; refine tc_block ?_; refine tc_seq fun K7 hK7 => ?_; refine tc_region ?_; refine tl_q (y_move rfl) rfl ?_; refine tl_q (y_assign rfl) rfl ?_; refine tl_nil ?_; ((refine hK7 ?_; try (clear hK7; clear K7)))
        all_goals refine tc_seq fun K8 hK8 => ?_; refine tc_region ?_; refine tl_q (y_move rfl) rfl ?_; refine tl_nil ?_; ((refine hK8 ?_; try (clear hK8; clear K8)))
        all_goals refine tc_block ?_
        all_goals (
         refine tc_loop (fun v : Nat => v ≤ 4) (fun v => [(1, ov), (2, ptr b2), (4, ptr ba), (12, vi u), (6, vi u), (15, vi v)]) (fun _ => [(w, [bm])]) (fun v => [(ba, apO (gIni (4 * u + v))), (b2, pbO bw), (bm, .map es ck)]) (fun v => 4 - v) ?_ ?_
         · exact tk_start 0 (by omega) (.cons rfl (.cons rfl (.cons rfl (.cons rfl (.cons rfl (.cons rfl .nil)))))) (fun _ h => by rw [Nat.add_zero]; exact h.subl SB.s SB.s)
         · rintro v hv4
           all_goals refine tc_seq fun K9 hK9 => ?_; refine tc_region ?_; refine tl_q (y_lss rfl rfl) rfl ?_; refine tl_nil ?_; ((refine hK9 ?_; try (clear hK9; clear K9)))
           all_goals refine tc_seq fun K10 hK10 => ?_
           all_goals (
            refine tc_cond rfl (fun hc => ?_) (fun hc => ?_)
            · try simp only [qn1, qn2, qn3, qn4, qn5, qn6, qn7, qn8] at hc
              all_goals refine tc_skip ?_; ((refine hK10 ?_; try (clear hK10; clear K10)))
              all_goals refine tc_seq fun K11 hK11 => ?_; refine tc_block ?_; refine tc_seq fun K12 hK12 => ?_; refine tc_region ?_; refine tl_q (y_move rfl) rfl ?_; refine tl_q (y_assign rfl) rfl ?_; refine tl_nil ?_; ((refine hK12 ?_; try (clear hK12; clear K12)))
              all_goals refine tc_seq fun K13 hK13 => ?_; refine tc_region ?_; refine tl_q (y_move rfl) rfl ?_; refine tl_q (y_move rfl) rfl ?_; refine tl_q (y_neq rfl rfl) rfl ?_; refine tl_nil ?_; ((refine hK13 ?_; try (clear hK13; clear K13)))
              all_goals (
               refine tc_cond rfl (fun hc => ?_) (fun hc => ?_)
               · try simp only [qn1, qn2, qn3, qn4, qn5, qn6, qn7, qn8] at hc
                 all_goals refine tc_region ?_; refine tl_q (y_move rfl) rfl ?_; refine tl_q (y_move rfl) rfl ?_; refine tl_q (y_indexA rfl rfl (by omega)) rfl ?_; refine tl_q (y_indexA rfl rfl (by omega)) rfl ?_; ((refine tl_e (e_storeG (l := gIni (4 * u + v)) (u * 4 + v) rfl rfl (by omega) (by rw [gIni_len]; omega) (by repeat constructor)) rfl (fun _ _ => ?_)))
                 all_goals refine tl_nil ?_; ((refine hK11 ?_; try (clear hK11; clear K11)))
                 all_goals refine tc_region ?_; refine tl_q (y_add rfl rfl (by omega)) rfl ?_; refine tl_q (y_move rfl) rfl ?_; refine tl_nil ?_
                 all_goals (
                  first
                  | (have hne2 : u ≠ v := by omega
                     have hq := gIni_ne (u := u) (v := v) (by omega) (by omega) hne2
                     exact tk_round (v + 1) (by omega) (by omega) (.cons rfl (.cons rfl (.cons rfl (.cons rfl (.cons rfl (.cons rfl .nil)))))) (fun _ h => by rw [show 4 * u + (v + 1) = 4 * u + v + 1 from rfl, ← hq]; exact h.subl SB.s SB.s))
                  | (have he2 : u = v := by omega
                     have hq := gIni_eq (u := u) (v := v) (by omega) (by omega) he2
                     exact tk_round (v + 1) (by omega) (by omega) (.cons rfl (.cons rfl (.cons rfl (.cons rfl (.cons rfl (.cons rfl .nil)))))) (fun _ h => by rw [show 4 * u + (v + 1) = 4 * u + v + 1 from rfl, ← hq]; exact h.subl SB.s SB.s)))
               · try simp only [qn1, qn2, qn3, qn4, qn5, qn6, qn7, qn8] at hc
                 all_goals refine tc_skip ?_; ((refine hK11 ?_; try (clear hK11; clear K11)))
                 all_goals refine tc_region ?_; refine tl_q (y_add rfl rfl (by omega)) rfl ?_; refine tl_q (y_move rfl) rfl ?_; refine tl_nil ?_
                 all_goals (
                  first
                  | (have hne2 : u ≠ v := by omega
                     have hq := gIni_ne (u := u) (v := v) (by omega) (by omega) hne2
                     exact tk_round (v + 1) (by omega) (by omega) (.cons rfl (.cons rfl (.cons rfl (.cons rfl (.cons rfl (.cons rfl .nil)))))) (fun _ h => by rw [show 4 * u + (v + 1) = 4 * u + v + 1 from rfl, ← hq]; exact h.subl SB.s SB.s))
                  | (have he2 : u = v := by omega
                     have hq := gIni_eq (u := u) (v := v) (by omega) (by omega) he2
                     exact tk_round (v + 1) (by omega) (by omega) (.cons rfl (.cons rfl (.cons rfl (.cons rfl (.cons rfl (.cons rfl .nil)))))) (fun _ h => by rw [show 4 * u + (v + 1) = 4 * u + v + 1 from rfl, ← hq]; exact h.subl SB.s SB.s))))
            · try simp only [qn1, qn2, qn3, qn4, qn5, qn6, qn7, qn8] at hc
              all_goals refine tc_exit ?_; ((refine hK6 ?_; try (clear hK6; clear K6)))
              all_goals refine tc_region ?_; refine tl_q (y_add rfl rfl (by omega)) rfl ?_; refine tl_q (y_move rfl) rfl ?_; refine tl_nil ?_
              all_goals (
               have hv5 : v = 4 := by omega
               subst hv5
               exact tk_round (u + 1) (by omega) (by omega) (.cons rfl (.cons rfl (.cons rfl (.cons rfl .nil)))) (fun _ h => by rw [show 4 * (u + 1) = 4 * u + 4 by omega]; exact h.subl SB.s SB.s))))
      · try simp only [qn1, qn2, qn3, qn4, qn5, qn6, qn7, qn8] at hc
        all_goals refine tc_exit ?_; ((refine hK2 ?_; try (clear hK2; clear K2)))
        all_goals refine tc_seq fun K14 hK14 => ?_; refine tc_seq fun K15 hK15 => ?_; (have hu5 : u = 4 := by omega)
        all_goals subst hu5
        all_goals refine tc_region ?_; refine tl_q (y_load1 rfl (by repeat constructor) (by rfl)) rfl ?_; refine tl_q (y_nil rfl) rfl ?_; refine tl_q (y_field rfl) rfl ?_; refine tl_q (y_field rfl) rfl ?_; refine tl_q (y_load1o (v := vi d.S) rfl (fun w' hw' => cell0 (hbwM (hw'.fr (w0 := w) (S := [bm]) MI.m)) rfl)) rfl ?_; refine tl_q (y_move rfl) rfl ?_; refine tl_nil ?_; ((refine hK15 ?_; try (clear hK15; clear K15)))
        all_goals refine tc_block ?_
        all_goals (
         refine tc_loop (fun s : Nat => (s : Int) ≤ d.S) (fun s => [(1, ov), (2, ptr b2), (4, ptr ba), (31, vi d.S), (32, vi s)]) (fun _ => [(w, [bm])]) (fun s => [(ba, apO (gSam gZero s)), (b2, pbO bw), (bm, .map es ck)]) (fun s => d.S.toNat - s) ?_ ?_
         · exact tk_start 0 (by omega) (.cons rfl (.cons rfl (.cons rfl (.cons rfl (.cons rfl .nil))))) (fun _ h => by rw [show gSam gZero 0 = gZero from rfl, ← gIni_end]; exact h.subl SB.s SB.s)
         · rintro s hsl
           all_goals refine tc_seq fun K16 hK16 => ?_; refine tc_region ?_; refine tl_q (y_lss rfl rfl) rfl ?_; refine tl_nil ?_; ((refine hK16 ?_; try (clear hK16; clear K16)))
           all_goals refine tc_seq fun K17 hK17 => ?_
           all_goals (
            refine tc_cond rfl (fun hc => ?_) (fun hc => ?_)
            · try simp only [qn1, qn2, qn3, qn4, qn5, qn6, qn7, qn8] at hc
              all_goals refine tc_skip ?_; ((refine hK17 ?_; try (clear hK17; clear K17)))
              all_goals refine tc_seq fun K18 hK18 => ?_; refine tc_block ?_; refine tc_seq fun K19 hK19 => ?_; refine tc_region ?_; refine tl_q (y_move rfl) rfl ?_; refine tl_q (y_assign rfl) rfl ?_; refine tl_nil ?_; ((refine hK19 ?_; try (clear hK19; clear K19)))
              all_goals refine tc_region ?_; refine tl_q (y_move rfl) rfl ?_; refine tl_q (y_add rfl rfl (by omega)) rfl ?_; refine tl_q (y_build_g (by repeat constructor)) rfl ?_; ((refine tl_e (e_callU rfl (.cons rfl (.cons rfl (.cons rfl (.cons rfl .nil)))) (fun w' hw' => dbetween_c (gSam gZero s) (by rw [gSam_len]; rfl) 0 (s + 1) 0 2000 (by omega) (by omega) (by omega) ba w' (hw'.at (b := ba) (by repeat constructor))) (fun _ => (by repeat constructor))) rfl (fun _ _ => ?_)))
              all_goals refine tl_nil ?_; ((refine hK18 ?_; try (clear hK18; clear K18)))
              all_goals refine tc_region ?_; refine tl_q (y_add rfl rfl (by omega)) rfl ?_; refine tl_q (y_move rfl) rfl ?_; refine tl_nil ?_
              all_goals (
               have hq := gSam_succ gZero s
               have he : ((s : Int) + 1).toNat = s + 1 := by omega
               exact tk_round (s + 1) (by omega) (by omega) (.cons rfl (.cons rfl (.cons rfl (.cons rfl (.cons rfl .nil))))) (fun _ h => by rw [he] at h; rw [hq]; exact h.subl SB.s SB.s))
            · try simp only [qn1, qn2, qn3, qn4, qn5, qn6, qn7, qn8] at hc
              all_goals refine tc_exit ?_; ((refine hK14 ?_; try (clear hK14; clear K14)))
              all_goals refine tc_seq fun K20 hK20 => ?_; refine tc_seq fun K21 hK21 => ?_; refine tc_region ?_; refine tl_q (y_load1 rfl (by repeat constructor) (by rfl)) rfl ?_; refine tl_q (y_nil rfl) rfl ?_; refine tl_q (y_field rfl) rfl ?_; refine tl_q (y_field rfl) rfl ?_; refine tl_q (y_load1o (v := .slice al d.ls.length cl) rfl (fun w' hw' => cell0 (hbwM (hw'.fr (w0 := w) (S := [bm]) MI.m)) rfl)) rfl ?_; refine tl_q (y_len rfl) rfl ?_; refine tl_q (y_move rfl) rfl ?_; refine tl_nil ?_; ((refine hK21 ?_; try (clear hK21; clear K21)))
              all_goals refine tc_block ?_
              all_goals (
               have hsS : s = d.S.toNat := by omega
               subst hsS
               refine tc_loop (fun k : Nat => k ≤ d.ls.length) (fun k => [(1, ov), (2, ptr b2), (4, ptr ba), (44, .slice al d.ls.length cl), (45, vi d.ls.length), (46, vi k)]) (fun _ => [(w, [bm])]) (fun k => [(ba, apO (gLnk (gSam gZero d.S.toNat) (d.ls.take k))), (b2, pbO bw), (bm, .map es ck)]) (fun k => d.ls.length - k) ?_ ?_
               · exact tk_start 0 (by omega) (.cons rfl (.cons rfl (.cons rfl (.cons rfl (.cons rfl (.cons rfl .nil)))))) (fun _ h => by rw [List.take_zero, show gLnk (gSam gZero d.S.toNat) [] = gSam gZero d.S.toNat from rfl]; exact h.subl SB.s SB.s)
               · rintro k hk
                 all_goals refine tc_seq fun K22 hK22 => ?_; refine tc_region ?_; refine tl_q (y_lss rfl rfl) rfl ?_; refine tl_nil ?_; ((refine hK22 ?_; try (clear hK22; clear K22)))
                 all_goals refine tc_seq fun K23 hK23 => ?_
                 all_goals (
                  refine tc_cond rfl (fun hc => ?_) (fun hc => ?_)
                  · try simp only [qn1, qn2, qn3, qn4, qn5, qn6, qn7, qn8] at hc
                    all_goals refine tc_skip ?_; ((refine hK23 ?_; try (clear hK23; clear K23)))
                    all_goals refine tc_seq fun K24 hK24 => ?_; refine tc_block ?_; refine tc_seq fun K25 hK25 => ?_; ((have hlk := hv.lk k (by omega); have k1 := hlk.a; have k2 := hlk.b; have k3 := hlk.d))
                    all_goals refine tc_region ?_; refine tl_q (y_index rfl rfl (by omega) (hadl (by omega))) rfl ?_; ((refine tl_q (y_loadNo (n := 4) (vs := [vi (d.ls.getD k lk0).1, vi (d.ls.getD k lk0).2.1, vi (d.ls.getD k lk0).2.2.1, vi (d.ls.getD k lk0).2.2.2]) rfl (fun w' hw' => by rw [show Int.toNat (k : Int) * 4 = k * 4 from by omega]; exact hclM w' (hw'.fr (w0 := w) (S := [bm]) MI.m) k (by omega))) rfl ?_))
                    all_goals refine tl_e (e_allocN rfl) rfl (fun b10 _ => ?_); refine tl_e (e_storeW rfl rfl (by repeat constructor) (by rfl) (by rfl) (by simp [Value.oneCell'])) rfl (fun _ _ => ?_); refine tl_nil ?_; ((refine hK25 ?_; try (clear hK25; clear K25)))
                    all_goals refine tc_region ?_; refine tl_q (y_field rfl) rfl ?_; refine tl_q (y_load1 rfl (by repeat constructor) (by rfl)) rfl ?_; refine tl_q (y_add rfl rfl (by omega)) rfl ?_; refine tl_q (y_field rfl) rfl ?_; refine tl_q (y_load1 rfl (by repeat constructor) (by rfl)) rfl ?_; refine tl_q (y_add rfl rfl (by omega)) rfl ?_; refine tl_q (y_field rfl) rfl ?_; ((refine tl_q (y_loadN rfl (by repeat constructor) (by (repeat (first | exact .nil | apply CA.cons rfl)); done)) rfl ?_))
                    all_goals ((refine tl_e (e_callU rfl (.cons rfl (.cons rfl (.cons rfl (.cons rfl .nil)))) (fun w' hw' => dbetween_c (gLnk (gSam gZero d.S.toNat) (d.ls.take k)) (by rw [gLnk_len, gSam_len]; rfl) ((d.ls.getD k lk0).1 + 1) ((d.ls.getD k lk0).2.1 + 1) (d.ls.getD k lk0).2.2.1 (d.ls.getD k lk0).2.2.2 (by omega) (by omega) (by omega) ba w' (hw'.at (b := ba) (by repeat constructor))) (fun _ => (by repeat constructor))) rfl (fun _ _ => ?_)))
                    all_goals refine tl_nil ?_; ((refine hK24 ?_; try (clear hK24; clear K24)))
                    all_goals refine tc_region ?_; refine tl_q (y_add rfl rfl (by omega)) rfl ?_; refine tl_q (y_move rfl) rfl ?_; refine tl_nil ?_
                    all_goals (
                     have hq := takeG_succ (d := lk0) (l := d.ls) (n := k) (by omega)
                     have he1 : ((d.ls.getD k lk0).1 + 1).toNat = (d.ls.getD k lk0).1.toNat + 1 := by omega
                     have he2 : ((d.ls.getD k lk0).2.1 + 1).toNat = (d.ls.getD k lk0).2.1.toNat + 1 := by omega
                     exact tk_round (k + 1) (by omega) (by omega) (.cons rfl (.cons rfl (.cons rfl (.cons rfl (.cons rfl (.cons rfl .nil)))))) (fun _ h => by rw [he1, he2] at h; rw [hq, gLnk_snoc]; exact h.subl SB.s SB.s))
                  · try simp only [qn1, qn2, qn3, qn4, qn5, qn6, qn7, qn8] at hc
                    all_goals refine tc_exit ?_; ((refine hK20 ?_; try (clear hK20; clear K20)))
                    all_goals refine tc_seq fun K26 hK26 => ?_; refine tc_seq fun K27 hK27 => ?_; (have hkl : d.ls.take k = d.ls := List.take_of_length_le (by omega))
                    all_goals rw [hkl]
                    all_goals refine tc_region ?_; refine tl_q (y_load1 rfl (by repeat constructor) (by rfl)) rfl ?_; refine tl_q (y_move rfl) rfl ?_; refine tl_e (e_callN rfl (.cons rfl (.cons rfl .nil)) (fun w' hw' => dkept_c bw ov oo w')) rfl (fun q hq => ?_); refine tl_nil ?_; ((refine hK27 ?_; try (clear hK27; clear K27)))
                    all_goals refine tc_block ?_
                    all_goals (
                     obtain ⟨q1, q2⟩ := q
                     dsimp only
                     refine tc_lay [(ba, apO (gLnk (gSam gZero d.S.toNat) d.ls)), (bm, .map es ck)] SB.s (fun wl1 hl1 => ?_)
                     have hnd := hl1.nodup
                     have hn2 : b2 ∉ [ba, bm] := by simpa using ⟨fun e => nd_ne hnd (a := ba) (b := b2) (by repeat constructor) e.symm, nd_ne hnd (a := b2) (b := bm) (by repeat constructor)⟩
                     have hnq1 : q1 ∉ [ba, bm] := by simpa using ⟨nd_ne hnd (a := q1) (b := ba) (by repeat constructor), nd_ne hnd (a := q1) (b := bm) (by repeat constructor)⟩
                     have hnq2 : q2 ∉ [ba, bm] := by simpa using ⟨nd_ne hnd (a := q2) (b := ba) (by repeat constructor), nd_ne hnd (a := q2) (b := bm) (by repeat constructor)⟩
                     have hba : w.heap.size ≤ ba := (hl1.own _ (HM.mem (b := ba) (by repeat constructor)) (w, [bm]) MI.m).resolve_left (by simpa using nd_ne hnd (a := ba) (b := bm) (by repeat constructor))
                     have hbwS : bw ∉ [ba, bm] := by
                       have := lt_ofB hbw
                       simp only [List.mem_cons, List.not_mem_nil, or_false, not_or]
                       exact ⟨fun e => by omega, hne⟩
                     refine tc_rangeU (α := Fct) (σ := Array MapEntry × Nat × List Int) (gf := 79) (lb := #[ptr q1, ptr q2]) (enc := encF) (keptF d.fs out d.fs.length) [ba, bm] (fun st => [(ba, apO st.2.2), (bm, .map st.1 st.2.1)]) (fun i st => GoodM 6 (mnM d.t) st.1 ∧ st.2.2 = gFct (gLnk (gSam gZero d.S.toNat) d.ls) (((keptF d.fs out d.fs.length).take i).map (f3D d.t))) (fun _ _ => False) (es, ck, gLnk (gSam gZero d.S.toNat) d.ls) rfl rfl (fun _ => rfl) ⟨hg, rfl⟩ (by simp) (fun _ h => h.subl SB.s SB.s) (fun w' hw' => ?hseq) ?_ ?_ ?_
                     case hseq =>
                       have f1 := hw'.fr (w0 := wl1) (S := [ba, bm]) MI.m
                       have f0 := hw'.fr (w0 := w) (S := [bm]) MI.m
                       have ht : ∀ w'', Fr [ba, bm] w' w'' → Fr [bm] w w'' := fun w'' f => f0.trans f (fun x hx => by
                         rcases (by simpa using hx : x = ba ∨ x = bm) with rfl | rfl
                         · exact .inr hba
                         · exact .inl (by simp))
                       exact kept_seq d hf6 out hout _ _ _ _ _ _ bw bm w' q1 q2 [ba, bm] (f1.keepS hnq1 (hl1.at (b := q1) (by repeat constructor))) hnq1 (f1.keepS hnq2 (hl1.at (b := q2) (by repeat constructor))) hnq2 (hbwM f0) hbwS (fun w'' f => (hrM w'' (ht w'' f)).fs) (fun w'' f => hroM w'' (ht w'' f))
                     · intro lr R0 R1 i st x w2 hx hI K0 hK
                       have hxm : x ∈ keptF d.fs out d.fs.length := List.mem_of_getElem? hx
                       have hfx := hv.kept (Nat.le_refl _) x hxm
                       have hxs := hfx.s
                       have hmx := meanD_le hv.t hfx
                       have hlen : st.2.2.length = 16 := by rw [hI.2, gFct_len, gLnk_len, gSam_len]; rfl
                       all_goals refine tc_region ?_; refine tl_e (e_allocN rfl) rfl (fun b11 _ => ?_); refine tl_e (e_storeW rfl rfl (by repeat constructor) (by rfl) (by rfl) (by simp [Value.oneCell'])) rfl (fun _ _ => ?_); refine tl_nil ?_; refine hK (by repeat constructor) ?_; clear hK
                       all_goals refine tc_block ?_; refine tc_drawS ([(b11, fcO x)]) (by kernel_rfl) ?_; refine tx_p 0 rfl (by kernel_rfl) (y_field rfl) rfl (fun _ _ _ h => h) (fun _ h => h.subl SB.s SB.s) ?_; refine tx_qS 1 rfl (by kernel_rfl) (y_load1 rfl (by repeat constructor) (by rfl)) rfl (fun _ _ _ h => h) (fun _ h => h.subl SB.s SB.s) ?_; refine tx_p 2 rfl (by kernel_rfl) (y_add rfl rfl (by omega)) rfl (fun _ _ _ h => h) (fun _ h => h.subl SB.s SB.s) ?_; refine tx_qS 3 rfl (by kernel_rfl) (y_load1o (v := ptr bw) rfl (fun w' hw' => cell0 ((hw'.fr (w0 := wl1) (S := [ba, bm]) MI.m).keepS hn2 (hl1.at (b := b2) (by repeat constructor))) rfl)) rfl (fun _ _ _ h => h) (fun _ h => h.subl SB.s SB.s) ?_; refine tx_qS 4 rfl (by kernel_rfl) (y_loadW rfl (by repeat constructor) (by rfl)) rfl (fun _ _ _ h => h) (fun _ h => h.subl SB.s SB.s) ?_; refine tx_single 5 (by kernel_rfl) (to_e rfl rfl (e_callU rfl (.cons rfl (.cons rfl .nil)) (fun w' hw' => dmean_c d hv.t x hfx _ _ _ _ _ o4 o5 w' (hrM w' (hw'.fr (w0 := w) (S := [bm]) MI.m)).tb bw bm st.1 st.2.1 (hbwM (hw'.fr (w0 := w) (S := [bm]) MI.m)) (hw'.at (b := bm) (by repeat constructor)) hI.1) (fun _ => (by repeat constructor))) (.inr ⟨fun _ _ h => h.subl SB.s SB.s, fun _ h => h⟩) (fun q5 hq5 => ?_)); refine tx_single 6 (by kernel_rfl) (to_e rfl rfl (e_callU rfl (.cons rfl (.cons rfl (.cons rfl (.cons rfl .nil)))) (fun w' hw' => dbetween_c st.2.2 hlen 0 (x.s + 1) (meanD d.t x).1 (meanD d.t x).2 (by omega) (by omega) (by omega) ba w' (hw'.at (b := ba) (by repeat constructor))) (fun _ => (by repeat constructor))) (.inr ⟨fun _ _ h => h.subl SB.s SB.s, fun _ h => h⟩) (fun _ _ => ?_)); refine tx_done (by kernel_rfl) ?_
                       all_goals (
                        repeat (refine tk_ib ?_)
                        have he : (x.s + 1).toNat = x.s.toNat + 1 := by omega
                        refine tk_rq (q5.1, q5.2, gFct (gLnk (gSam gZero d.S.toNat) d.ls) (((keptF d.fs out d.fs.length).take (i + 1)).map (f3D d.t))) ⟨hq5, rfl⟩ (fun _ h => ?_)
                        rw [take_snocG hx, List.map_append, List.map_singleton, gFct_snoc, ← hI.2]
                        rw [he] at h
                        exact h.subl SB.s SB.s)
                     · intro D st hI
                       obtain ⟨hI1, hI2⟩ := hI
                       rw [List.take_length] at hI2
                       obtain ⟨es', ck', g'⟩ := st
                       dsimp only at hI1 hI2 ⊢
                       have hgd : g' = gDsp d out := hI2
                       subst hgd
                       all_goals ((refine hK26 ?_; try (clear hK26; clear K26)))
                       all_goals refine tc_seq fun K28 hK28 => ?_; refine tc_region ?_; refine tl_e (e_callU rfl (.cons rfl .nil) (fun w' hw' => dclose_c (gDsp d out) (gDsp_len d out) (gDsp_ge hv out) ba w' (hw'.at (b := ba) (by repeat constructor))) (fun _ => (by repeat constructor))) rfl (fun _ _ => ?_); refine tl_q (y_assign rfl) rfl ?_; refine tl_nil ?_; ((refine hK28 ?_; try (clear hK28; clear K28)))
                       all_goals refine tc_seq fun K29 hK29 => ?_; refine tc_region ?_; refine tl_q (y_loadW rfl (by repeat constructor) (by rw [isV_size, gCls_len, gDsp_len])) rfl ?_; refine tl_q (y_move rfl) rfl ?_; refine tl_e (e_storeW rfl rfl (by repeat constructor) (by rw [isV_size, gCls_len, gDsp_len]) (by rw [isV_size, gCls_len, gDsp_len]) (isV_oneD _)) rfl (fun _ _ => ?_); refine tl_q (y_assign rfl) rfl ?_; refine tl_nil ?_; ((refine hK29 ?_; try (clear hK29; clear K29)))
                       all_goals refine tc_ret ?_; (repeat (first | refine tk_then_ret ?_))
                       all_goals (refine tk_retM rfl (by repeat constructor) rfl (.cons (.agg inferInstance rfl (by repeat constructor) (by rw [isV_size, gCls_len, gDsp_len])) (.cons (.tmp rfl) .nil)) ?_)
                       all_goals (
                        exact fun w' hw' => ⟨(es', ck'), rfl, hw'.fr (w0 := w) (S := [bm]) MI.m, hI1, hw'.at (b := bm) (by repeat constructor)⟩)
                     · intro D c s hJ; exact hJ.elim)))))))
/-- Whether nothing contradicts itself. -/
noncomputable def okD (d : Dsp) (out : List Int) : Bool := gOkB (aprG d out)
theorem okD_eq (d : Dsp) (out : List Int) : okD d out = gOkB (aprG d out) := rfl
noncomputable def aprD (d : Dsp) (out : List Int) : List Int := aprG d out
theorem aprD_eq (d : Dsp) (out : List Int) : aprD d out = aprG d out := rfl
theorem aprD_len (d : Dsp) (out : List Int) : (aprD d out).length = 16 := aprG_len d out
theorem aprD_ge {d : Dsp} (hv : VDsp d) (out : List Int) : gGe (aprD d out) gMax := aprG_ge hv out
attribute [irreducible] okD aprD
theorem dapart2_c (d : Dsp) (hv : VDsp d) (out : List Int) (hout : out.length ≤ 20) (wv mv vv lv fv ov : Value) (w : World) (hr : RdD w d wv mv vv lv fv) (hro : RdI w ov out) (bw bm : Nat) (es : Array MapEntry) (ck : Nat)
    (hbw : w.heap[bw]? = some (wkP d wv mv vv lv fv bm)) (hbm : w.heap[bm]? = some (.map es ck)) (hg : GoodM 6 (mnM d.t) es) :
    CnX Tryz.prog 32 #[ptr bw, ov] w [bm] (fun _ : Array MapEntry × Nat => .tuple #[.agg (isV (aprD d out)), .bool (okD d out)]) (fun x w' => GoodM 6 (mnM d.t) x.1 ∧ w'.heap[bm]? = some (.map x.1 x.2)) := by
  rw [okD_eq, aprD_eq]
  exact dapart_c d hv out hout wv mv vv lv fv ov w hr hro bw bm es ck hbw hbm hg
end Go.Sp
/-
  Package dispute: the bounds of all strengths; what is firm.
-/
namespace Go.Sp
open Go Go.Proofs
def rgE (r : Int × Int) : List Value := [vi r.1, vi r.2]
theorem rgE_len (r : Int × Int) : (rgE r).length = 2 := rfl
theorem rgE_one (r : Int × Int) : one' (rgE r) := fun u hu => by
  simp only [rgE, List.mem_cons, List.not_mem_nil, or_false] at hu
  rcases hu with rfl | rfl <;> rfl
def bndL (g : List Int) (n : Nat) : List (Int × Int) := (List.range n).map fun s => (-(gAt g (s + 1) 0), gAt g 0 (s + 1))
theorem bndL_succ (g : List Int) (n : Nat) : bndL g (n + 1) = bndL g n ++ [(-(gAt g (n + 1) 0), gAt g 0 (n + 1))] := by simp [bndL, List.range_succ]
theorem bndL_len (g : List Int) (n : Nat) : (bndL g n).length = n := by simp [bndL]
noncomputable def bdsE (d : Dsp) : Int := if okD d [] = true then 0 else 11
noncomputable def bdsL (d : Dsp) : List (Int × Int) := if okD d [] = true then bndL (aprD d []) d.S.toNat else []
set_option maxHeartbeats 2000000 in
theorem dBounds_c (d : Dsp) (hv : VDsp d) (wv mv vv lv fv : Value) (w : World) (hr : RdD w d wv mv vv lv fv) :
    CnX Tryz.prog 15 #[dpV d wv mv vv lv fv] w [] (fun y : Option Addr × Nat => .tuple #[slV (bdsL d).length y, vi (bdsE d)]) (fun y w' => RdS 2 rgE w' (slV (bdsL d).length y) (bdsL d)) := by
  have hr0 := hr
  have hs := hv.s
  have o1 := hr.tb.ws.one
  have o2 := hr.tb.ms.one
  have o3 := hr.tb.vs.one
  have o4 := hr.ls.one
  have o5 := hr.fs.one
  have hgl := aprD_len d []
  have hgg := aprD_ge hv []
  refine cnx0 (vs := [_]) Tryz.func15 rfl rfl ?_
  all_goals refine tc_seq fun K1 hK1 => ?_; refine tc_region ?_; refine tl_e (e_box rfl rfl rfl) rfl (fun b1 _ => ?_); refine tl_q (y_assign rfl) rfl ?_; refine tl_q (y_assign rfl) rfl ?_; refine tl_nil ?_; ((refine hK1 ?_; try (clear hK1; clear K1)))
  all_goals refine tc_seq fun K2 hK2 => ?_; refine tc_seq fun K3 hK3 => ?_; refine tc_region ?_; refine tl_q (y_loadW rfl (by repeat constructor) (by rfl)) rfl ?_; refine tl_e (e_callV rfl (.cons rfl .nil) (fun w' hw' => checkDispute_c d hv _ _ _ _ _ w' (hr0.fr (hw'.fr (w0 := w) (S := []) MI.m)))) rfl (fun _ _ => ?_); refine tl_q (y_assign rfl) rfl ?_; refine tl_nil ?_; ((refine hK3 ?_; try (clear hK3; clear K3)))
  all_goals refine tc_seq fun K4 hK4 => ?_; refine tc_region ?_; refine tl_q (y_move rfl) rfl ?_; refine tl_q (y_neq rfl rfl) rfl ?_; refine tl_nil ?_; ((refine hK4 ?_; try (clear hK4; clear K4)))
  all_goals (
   refine tc_cond rfl (fun hc => ?_) (fun hc => ?_)
   · try simp only [qn1, qn2, qn3, qn4, qn5, qn6, qn7, qn8] at hc
   · try simp only [qn1, qn2, qn3, qn4, qn5, qn6, qn7, qn8] at hc
     all_goals refine tc_skip ?_; ((refine hK2 ?_; try (clear hK2; clear K2)))
     all_goals refine tc_seq fun K6 hK6 => ?_; refine tc_region ?_; refine tl_q (y_loadW rfl (by repeat constructor) (by rfl)) rfl ?_; refine tl_e (e_callN rfl (.cons rfl .nil) (fun w' hw' => dwork_c d wv mv vv lv fv o1 o2 o3 o4 o5 w')) rfl (fun x hx => ?_); refine tl_e (e_callU rfl (.cons rfl (.cons rfl .nil)) (fun w' hw' => dapart2_c d hv [] (by decide) _ _ _ _ _ _ w' (hr0.fr (hw'.fr (w0 := w) (S := []) MI.m)) (RdI.nil w') x.1 x.2 #[] 0 (hw'.at (b := x.1) (by repeat constructor)) (hw'.at (b := x.2) (by repeat constructor)) (GoodM.nil _ _)) (fun _ => (by repeat constructor))) rfl (fun q hq => ?_); refine tl_q (y_move rfl) rfl ?_; refine tl_q (y_extract rfl rfl) rfl ?_; refine tl_q (y_extract rfl rfl) rfl ?_; refine tl_e (e_allocN rfl) rfl (fun b5 _ => ?_); refine tl_e (e_storeW rfl rfl (by repeat constructor) (by rw [isV_size, hgl]) (by rfl) (isV_oneD _)) rfl (fun _ _ => ?_); refine tl_q (y_assign rfl) rfl ?_; refine tl_nil ?_; ((refine hK6 ?_; try (clear hK6; clear K6)))
     all_goals refine tc_seq fun K7 hK7 => ?_; refine tc_seq fun K8 hK8 => ?_; refine tc_region ?_; refine tl_q (y_move rfl) rfl ?_; refine tl_q (y_not rfl) rfl ?_; refine tl_nil ?_; ((refine hK8 ?_; try (clear hK8; clear K8)))
     all_goals (
      refine tc_cond rfl (fun hc => ?_) (fun hc => ?_)
      · try simp only [qn1, qn2, qn3, qn4, qn5, qn6, qn7, qn8] at hc
        all_goals refine tc_seq fun K9 hK9 => ?_; refine tc_region ?_; refine tl_q (y_assign rfl) rfl ?_; refine tl_q (y_assign rfl) rfl ?_; refine tl_nil ?_; ((refine hK9 ?_; try (clear hK9; clear K9)))
        all_goals refine tc_ret ?_; (repeat (refine tk_then_ret ?_))
        all_goals (refine tk_ret rfl rfl (.cons (.tmp rfl) (.cons (.tmp rfl) .nil)) ?_)
        all_goals (
         first
         | (have hno : okD d [] = false := by assumption
            have e1 : bdsE d = 11 := by unfold bdsE; rw [hno]; rfl
            have e2 : bdsL d = [] := by unfold bdsL; rw [hno]; rfl
            rw [e1, e2]
            exact fun w' hw' => ⟨(none, 0), rfl, hw'.fr (w0 := w) (S := []) MI.m, RdS.nil _ _ _ _⟩)
         | (have hyes : okD d [] = true := by assumption
            have e1 : bdsE d = 0 := by unfold bdsE; rw [hyes]; rfl
            have e2 : bdsL d = bndL (aprD d []) d.S.toNat := by unfold bdsL; rw [hyes]; rfl
            have hk2 : k = d.S.toNat := by omega
            subst hk2
            rw [e1, e2]
            exact fun w' hw' => ⟨ouA oo, rfl, hw'.fr (w0 := w) (S := []) MI.m, RdS.ofO rgE_len hok hw' (by repeat constructor)⟩))
      · try simp only [qn1, qn2, qn3, qn4, qn5, qn6, qn7, qn8] at hc
        all_goals refine tc_skip ?_; ((refine hK7 ?_; try (clear hK7; clear K7)))
        all_goals refine tc_seq fun K10 hK10 => ?_; refine tc_region ?_; refine tl_q (y_assign rfl) rfl ?_; refine tl_nil ?_; ((refine hK10 ?_; try (clear hK10; clear K10)))
        all_goals refine tc_seq fun K11 hK11 => ?_; refine tc_seq fun K12 hK12 => ?_; refine tc_region ?_; refine tl_q (y_field rfl) rfl ?_; refine tl_q (y_load1 rfl (by repeat constructor) (by rfl)) rfl ?_; refine tl_q (y_move rfl) rfl ?_; refine tl_nil ?_; ((refine hK12 ?_; try (clear hK12; clear K12)))
        all_goals refine tc_block ?_
        all_goals (
         refine tc_loop (fun p : Nat × OwnB => (p.1 : Int) ≤ d.S ∧ okE 2 (bndL (aprD d []) p.1) p.2) (fun p => [(5, ptr b5), (7, ouV (bndL (aprD d []) p.1).length p.2), (23, vi d.S), (24, vi p.1)]) (fun _ => [(w, [])]) (fun p => (b5, apO (aprD d [])) :: slE 67 rgE (bndL (aprD d []) p.1) p.2) (fun p => d.S.toNat - p.1) ?_ ?_
         · exact tk_start (0, none) ⟨by dsimp only; omega, rfl⟩ (.cons rfl (.cons rfl (.cons rfl (.cons rfl .nil)))) (fun _ h => by rw [slE_none]; exact h.subl SB.s SB.s)
         · rintro ⟨k, oo⟩ ⟨hk, hok⟩
           dsimp only at hk hok ⊢
           have hkl := bndL_len (aprD d []) k
           all_goals refine tc_seq fun K13 hK13 => ?_; refine tc_region ?_; refine tl_q (y_lss rfl rfl) rfl ?_; refine tl_nil ?_; ((refine hK13 ?_; try (clear hK13; clear K13)))
           all_goals refine tc_seq fun K14 hK14 => ?_
           all_goals (
            refine tc_cond rfl (fun hc => ?_) (fun hc => ?_)
            · try simp only [qn1, qn2, qn3, qn4, qn5, qn6, qn7, qn8] at hc
              all_goals refine tc_skip ?_; ((refine hK14 ?_; try (clear hK14; clear K14)))
              all_goals refine tc_seq fun K15 hK15 => ?_; refine tc_block ?_; refine tc_seq fun K16 hK16 => ?_; refine tc_region ?_; refine tl_q (y_move rfl) rfl ?_; refine tl_q (y_assign rfl) rfl ?_; refine tl_nil ?_; ((refine hK16 ?_; try (clear hK16; clear K16)))
              all_goals refine tc_region ?_; refine tl_q (y_move rfl) rfl ?_; refine tl_q (y_move rfl) rfl ?_; refine tl_e (e_callV rfl (.cons rfl (.cons rfl .nil)) (fun w' hw' => dbounds_c (aprD d []) hgl hgg k (by omega) b5 w' (hw'.at (b := b5) (by repeat constructor)))) rfl (fun _ _ => ?_); refine tl_e (e_bsliceG rfl (.agg rfl rfl .nil) rfl rfl) rfl (fun _ _ => ?_); (refine tl_e (e_appendE (enc := rgE) (xs := bndL (aprD d []) k) (ys := [(-(gAt (aprD d []) ((k : Int) + 1).toNat 0), gAt (aprD d []) 0 ((k : Int) + 1).toNat)]) rgE_len rgE_one rfl rfl rfl hok (fun _ => by repeat constructor) (fun w' hw' => RdS.own0 rgE_len hw' (by repeat constructor)) (by simp only [List.length_cons, List.length_nil]; omega) rfl) rfl (fun oo' hok' => ?_))
              all_goals refine tl_q (y_assign rfl) rfl ?_; refine tl_nil ?_; ((refine hK15 ?_; try (clear hK15; clear K15)))
              all_goals refine tc_region ?_; refine tl_q (y_add rfl rfl (by omega)) rfl ?_; refine tl_q (y_move rfl) rfl ?_; refine tl_nil ?_
              all_goals (
               have hs2 := bndL_succ (aprD d []) k
               have he : ((k : Int) + 1).toNat = k + 1 := by omega
               rw [he] at hok'
               exact tk_round (k + 1, oo') ⟨by dsimp only; omega, by dsimp only; rw [hs2]; exact hok'⟩ (by dsimp only; omega) (.cons rfl (.cons (by dsimp only; rw [hs2, ← he]; rfl) (.cons rfl (.cons rfl .nil)))) (fun _ h => by dsimp only; rw [hs2]; rw [he] at h; exact h.subl SB.s SB.s))
            · try simp only [qn1, qn2, qn3, qn4, qn5, qn6, qn7, qn8] at hc
              all_goals refine tc_exit ?_; ((refine hK11 ?_; try (clear hK11; clear K11)))
              all_goals refine tc_seq fun K17 hK17 => ?_; refine tc_region ?_; refine tl_q (y_move rfl) rfl ?_; refine tl_q (y_assign rfl) rfl ?_; refine tl_q (y_assign rfl) rfl ?_; refine tl_nil ?_; ((refine hK17 ?_; try (clear hK17; clear K17)))
              all_goals refine tc_ret ?_; (repeat (first | refine tk_then_ret ?_))
              all_goals (refine tk_ret rfl rfl (.cons (.tmp rfl) (.cons (.tmp rfl) .nil)) ?_)
              all_goals (
               first
               | (have hno : okD d [] = false := by assumption
                  have e1 : bdsE d = 11 := by unfold bdsE; rw [hno]; rfl
                  have e2 : bdsL d = [] := by unfold bdsL; rw [hno]; rfl
                  rw [e1, e2]
                  exact fun w' hw' => ⟨(none, 0), rfl, hw'.fr (w0 := w) (S := []) MI.m, RdS.nil _ _ _ _⟩)
               | (have hyes : okD d [] = true := by assumption
                  have e1 : bdsE d = 0 := by unfold bdsE; rw [hyes]; rfl
                  have e2 : bdsL d = bndL (aprD d []) d.S.toNat := by unfold bdsL; rw [hyes]; rfl
                  have hk2 : k = d.S.toNat := by omega
                  subst hk2
                  rw [e1, e2]
                  exact fun w' hw' => ⟨ouA oo, rfl, hw'.fr (w0 := w) (S := []) MI.m, RdS.ofO rgE_len hok hw' (by repeat constructor)⟩))))))
theorem dcloneF_c (fs : List Fct) (h1 : 1 ≤ fs.length) (h2 : fs.length ≤ 6) (fv : Value) (w : World) (hr : RdS 6 fcE w fv fs) :
    CnX Tryz.prog 64 #[fv] w [] (fun r : Nat × Nat × List Value => .slice (some ⟨r.1, 0, none⟩) fs.length r.2.1)
      (fun r w' => True ∧ (∀ q ∈ [(r.1, Obj.cells (fs.flatMap fcE ++ r.2.2).toArray 82 (0, 0))], w.heap.size ≤ q.1 ∧ w'.heap[q.1]? = some q.2) ∧ ([(r.1, Obj.cells (fs.flatMap fcE ++ r.2.2).toArray 82 (0, 0))].map Prod.fst).Nodup) := by
  have hr0 := hr
  obtain ⟨ad, cp, b0, o, rfl, had, hcell⟩ := hr.open fcE_len fct0
  have had' := had (by omega)
  subst had'
  refine cnx0 (vs := [_]) Tryz.func64 rfl rfl ?_
  all_goals refine tc_seq fun K1 hK1 => ?_; refine tc_region ?_; refine tl_q (y_assign rfl) rfl ?_; refine tl_nil ?_; ((refine hK1 ?_; try (clear hK1; clear K1)))
  all_goals refine tc_seq fun K2 hK2 => ?_; refine tc_seq fun K3 hK3 => ?_; refine tc_region ?_; refine tl_q (y_move rfl) rfl ?_; refine tl_q (y_eql_nil rfl rfl) rfl ?_; refine tl_nil ?_; ((refine hK3 ?_; try (clear hK3; clear K3)))
  all_goals (
   refine tc_cond rfl (fun hc => ?_) (fun hc => ?_)
   · all_goals ((exfalso; exact Bool.noConfusion hc; done))
   · all_goals (skip)
     all_goals refine tc_skip ?_; ((refine hK2 ?_; try (clear hK2; clear K2)))
     all_goals refine tc_seq fun K5 hK5 => ?_; refine tc_region ?_; (refine tl_e (e_bslice rfl (by (repeat (exact .nil)); done) rfl rfl) rfl (fun _ _ => ?_))
     all_goals refine tl_q (y_move rfl) rfl ?_; refine tl_e (e_append_own (old := []) (junk := []) rfl rfl rfl (by repeat constructor) rfl rfl (Nat.le_refl 0) (fun w' hw' => hr0.fr (hw'.fr (w0 := w) (S := []) MI.m)) (one_flat fcE_one _) (by omega) rfl) rfl (fun r hq => ?_); refine tl_q (y_assign rfl) rfl ?_; refine tl_nil ?_; ((refine hK5 ?_; try (clear hK5; clear K5)))
     all_goals refine tc_ret ?_; (repeat (first | refine tk_then_ret ?_))
     all_goals (refine tk_ret rfl rfl (.cons (.tmp rfl) .nil) ?_)
     all_goals (
      refine fun w' hw' => ⟨r, by simp [outV], hw'.fr (w0 := w) (S := []) MI.m, trivial, fun q hq2 => ?_, by simp⟩
      obtain rfl := List.mem_singleton.1 hq2
      have h3 := hw'.at (b := r.1) (by repeat constructor)
      exact ⟨(hw'.own _ (HM.mem (b := r.1) (by repeat constructor)) (w, []) (by simp)).resolve_left (by simp), by simpa using h3⟩))
end Go.Sp
/-
  Package dispute: a dispute whose links are firm; the small functions of what can be left out.
-/
namespace Go.Sp
open Go Go.Proofs
abbrev noF (d : Dsp) : Dsp := ⟨d.t, d.S, d.P, d.ls, []⟩
theorem VDsp.noF {d : Dsp} (hv : VDsp d) : VDsp (noF d) := ⟨hv.t, hv.s, hv.p, hv.l, by show ([] : List Fct).length ≤ 6; simp, hv.lk, fun i hi => absurd hi (Nat.not_lt_zero i)⟩
abbrev clO (fs : List Fct) (j : List Value) : Obj := .cells (fs.flatMap fcE ++ j).toArray 82 (0, 0)
abbrev clV (n : Nat) (r : Nat × Nat × List Value) : Value := .slice (some ⟨r.1, 0, none⟩) n r.2.1
abbrev frH (d : Dsp) (wv mv vv lv : Value) (x : (Nat × Nat × List Value) × Nat × Nat) : List (Nat × Obj) := [(x.2.1, wkP d wv mv vv lv (clV d.fs.length x.1) x.2.2), (x.2.2, .map #[] 0), (x.1.1, clO d.fs x.1.2.2)]
set_option maxHeartbeats 2000000 in
theorem dfirm_c (d : Dsp) (hv : VDsp d) (h1 : 1 ≤ d.fs.length) (hok : okD (noF d) [] = true) (wv mv vv lv fv : Value) (w : World) (hr : RdD w d wv mv vv lv fv) :
    CnX Tryz.prog 40 #[dpV d wv mv vv lv fv] w [] (fun x : (Nat × Nat × List Value) × Nat × Nat => .tuple #[ptr x.2.1, vi 0])
      (fun x w' => True ∧ (∀ q ∈ frH d wv mv vv lv x, w.heap.size ≤ q.1 ∧ w'.heap[q.1]? = some q.2) ∧ ((frH d wv mv vv lv x).map Prod.fst).Nodup) := by
  have hr0 := hr
  have o1 := hr.tb.ws.one
  have o2 := hr.tb.ms.one
  have o3 := hr.tb.vs.one
  have o4 := hr.ls.one
  have o5 := hr.fs.one
  refine cnx0 (vs := [_]) Tryz.func40 rfl rfl ?_
  all_goals refine tc_seq fun K1 hK1 => ?_; refine tc_region ?_; refine tl_e (e_box rfl rfl rfl) rfl (fun b1 _ => ?_); refine tl_q (y_assign rfl) rfl ?_; refine tl_q (y_assign rfl) rfl ?_; refine tl_nil ?_; ((refine hK1 ?_; try (clear hK1; clear K1)))
  all_goals refine tc_seq fun K2 hK2 => ?_; refine tc_seq fun K3 hK3 => ?_; refine tc_region ?_; refine tl_q (y_loadW rfl (by repeat constructor) (by rfl)) rfl ?_; refine tl_e (e_callV rfl (.cons rfl .nil) (fun w' hw' => checkDispute_c d hv _ _ _ _ _ w' (hr0.fr (hw'.fr (w0 := w) (S := []) MI.m)))) rfl (fun _ _ => ?_); refine tl_q (y_assign rfl) rfl ?_; refine tl_nil ?_; ((refine hK3 ?_; try (clear hK3; clear K3)))
  all_goals refine tc_seq fun K4 hK4 => ?_; refine tc_region ?_; refine tl_q (y_move rfl) rfl ?_; refine tl_q (y_neq rfl rfl) rfl ?_; refine tl_nil ?_; ((refine hK4 ?_; try (clear hK4; clear K4)))
  all_goals (
   refine tc_cond rfl (fun hc => ?_) (fun hc => ?_)
   · try simp only [qn1, qn2, qn3, qn4, qn5, qn6, qn7, qn8] at hc
   · try simp only [qn1, qn2, qn3, qn4, qn5, qn6, qn7, qn8] at hc
     all_goals refine tc_skip ?_; ((refine hK2 ?_; try (clear hK2; clear K2)))
     all_goals refine tc_seq fun K6 hK6 => ?_; refine tc_region ?_; refine tl_q (y_field rfl) rfl ?_; refine tl_q (y_load1 rfl (by repeat constructor) (by rfl)) rfl ?_; refine tl_e (e_callN rfl (.cons rfl .nil) (fun w' hw' => dcloneF_c d.fs h1 hv.f _ w' (hr0.fs.fr (hw'.fr (w0 := w) (S := []) MI.m)))) rfl (fun r hr4 => ?_); refine tl_q (y_field rfl) rfl ?_; refine tl_e (e_store1 rfl rfl (by repeat constructor) (by repeat constructor) (by rfl) (by rfl)) rfl (fun _ _ => ?_); refine tl_nil ?_; ((refine hK6 ?_; try (clear hK6; clear K6)))
     all_goals refine tc_seq fun K7 hK7 => ?_; refine tc_region ?_; refine tl_q (y_loadW rfl (by repeat constructor) (by rfl)) rfl ?_; refine tl_e (e_allocN rfl) rfl (fun b5 _ => ?_); refine tl_e (e_storeW rfl rfl (by repeat constructor) (by rfl) (by rfl) (seven_ones o1 o2 o3 o4 rfl)) rfl (fun _ _ => ?_); refine tl_nil ?_; ((refine hK7 ?_; try (clear hK7; clear K7)))
     all_goals refine tc_seq fun K8 hK8 => ?_; refine tc_region ?_; refine tl_q (y_field rfl) rfl ?_; refine tl_e (e_store1 rfl rfl (by repeat constructor) (by repeat constructor) (by rfl) (by rfl)) rfl (fun _ _ => ?_); refine tl_nil ?_; ((refine hK8 ?_; try (clear hK8; clear K8)))
     all_goals refine tc_seq fun K9 hK9 => ?_; refine tc_seq fun K10 hK10 => ?_; refine tc_region ?_; refine tl_q (y_loadW rfl (by repeat constructor) (by rfl)) rfl ?_; refine tl_e (e_callN rfl (.cons rfl .nil) (fun w' hw' => dwork_c (noF d) wv mv vv lv (.slice none 0 0) o1 o2 o3 o4 rfl w')) rfl (fun x7 hx7 => ?_); refine tl_e (e_callU rfl (.cons rfl (.cons rfl .nil)) (fun w' hw' => dapart2_c (noF d) hv.noF [] (by decide) wv mv vv lv (.slice none 0 0) _ w' ⟨hr0.tb.fr (hw'.fr (w0 := w) (S := []) MI.m), hr0.ls.fr (hw'.fr (w0 := w) (S := []) MI.m), RdS.nil 6 fcE w' 0⟩ (RdI.nil w') x7.1 x7.2 #[] 0 (hw'.at (b := x7.1) (by repeat constructor)) (hw'.at (b := x7.2) (by repeat constructor)) (GoodM.nil _ _)) (fun _ => (by repeat constructor))) rfl (fun q7 hq7 => ?_); refine tl_q (y_move rfl) rfl ?_; refine tl_q (y_extract rfl rfl) rfl ?_; refine tl_q (y_extract rfl rfl) rfl ?_; refine tl_e (e_allocN rfl) rfl (fun b6 _ => ?_); refine tl_e (e_storeW rfl rfl (by repeat constructor) (by rw [isV_size, aprD_len]) (by rfl) (isV_oneD _)) rfl (fun _ _ => ?_); refine tl_q (y_assign rfl) rfl ?_; refine tl_nil ?_; ((refine hK10 ?_; try (clear hK10; clear K10)))
     all_goals refine tc_seq fun K11 hK11 => ?_; refine tc_region ?_; refine tl_q (y_move rfl) rfl ?_; refine tl_q (y_not rfl) rfl ?_; refine tl_nil ?_; ((refine hK11 ?_; try (clear hK11; clear K11)))
     all_goals (
      refine tc_cond rfl (fun hc => ?_) (fun hc => ?_)
      · try simp only [qn1, qn2, qn3, qn4, qn5, qn6, qn7, qn8] at hc
        all_goals refine tc_seq fun K12 hK12 => ?_; refine tc_region ?_; refine tl_q (y_assign rfl) rfl ?_; refine tl_q (y_assign rfl) rfl ?_; refine tl_nil ?_; ((refine hK12 ?_; try (clear hK12; clear K12)))
        all_goals refine tc_ret ?_; (repeat (refine tk_then_ret ?_))
        all_goals (refine tk_ret rfl rfl (.cons (.tmp rfl) (.cons (.tmp rfl) .nil)) ?_)
        all_goals (
         first
         | (exfalso
            have hno : okD (noF d) [] = false := by assumption
            rw [hok] at hno; cases hno; done)
         | exact fun w' hw' => ⟨(r, x), rfl, hw'.fr (w0 := w) (S := []) MI.m, trivial, fun q hq => by
             rcases List.mem_cons.1 hq with rfl | hq
             · exact ⟨(hw'.own _ (HM.mem (b := x.1) (by repeat constructor)) (w, []) (by simp)).resolve_left (by simp), hw'.at (b := x.1) (by repeat constructor)⟩
             · rcases List.mem_cons.1 hq with rfl | hq
               · exact ⟨(hw'.own _ (HM.mem (b := x.2) (by repeat constructor)) (w, []) (by simp)).resolve_left (by simp), hw'.at (b := x.2) (by repeat constructor)⟩
               · obtain rfl := List.mem_singleton.1 hq
                 exact ⟨(hw'.own _ (HM.mem (b := r.1) (by repeat constructor)) (w, []) (by simp)).resolve_left (by simp), hw'.at (b := r.1) (by repeat constructor)⟩, hw'.nodup.sublist SB.s⟩)
      · try simp only [qn1, qn2, qn3, qn4, qn5, qn6, qn7, qn8] at hc
        all_goals refine tc_skip ?_; ((refine hK9 ?_; try (clear hK9; clear K9)))
        all_goals refine tc_seq fun K13 hK13 => ?_; refine tc_region ?_; refine tl_q (y_loadW rfl (by repeat constructor) (by rfl)) rfl ?_; refine tl_e (e_callN rfl (.cons rfl .nil) (fun w' hw' => dwork_c d wv mv vv lv (clV d.fs.length r) o1 o2 o3 o4 rfl w')) rfl (fun x hx => ?_); refine tl_q (y_assign rfl) rfl ?_; refine tl_q (y_assign rfl) rfl ?_; refine tl_nil ?_; ((refine hK13 ?_; try (clear hK13; clear K13)))
        all_goals refine tc_ret ?_; (repeat (first | refine tk_then_ret ?_))
        all_goals (refine tk_ret rfl rfl (.cons (.tmp rfl) (.cons (.tmp rfl) .nil)) ?_)
        all_goals (
         first
         | (exfalso
            have hno : okD (noF d) [] = false := by assumption
            rw [hok] at hno; cases hno; done)
         | exact fun w' hw' => ⟨(r, x), rfl, hw'.fr (w0 := w) (S := []) MI.m, trivial, fun q hq => by
             rcases List.mem_cons.1 hq with rfl | hq
             · exact ⟨(hw'.own _ (HM.mem (b := x.1) (by repeat constructor)) (w, []) (by simp)).resolve_left (by simp), hw'.at (b := x.1) (by repeat constructor)⟩
             · rcases List.mem_cons.1 hq with rfl | hq
               · exact ⟨(hw'.own _ (HM.mem (b := x.2) (by repeat constructor)) (w, []) (by simp)).resolve_left (by simp), hw'.at (b := x.2) (by repeat constructor)⟩
               · obtain rfl := List.mem_singleton.1 hq
                 exact ⟨(hw'.own _ (HM.mem (b := r.1) (by repeat constructor)) (w, []) (by simp)).resolve_left (by simp), hw'.at (b := r.1) (by repeat constructor)⟩, hw'.nodup.sublist SB.s⟩)))
theorem dfacts_c (d : Dsp) (wv mv vv lv fv : Value) (n : Nat) (hn : ∃ ad c, fv = .slice ad n c) (bw bm : Nat) (w : World) (hbw : w.heap[bw]? = some (wkP d wv mv vv lv fv bm)) : CnV Tryz.prog 38 #[ptr bw] w (vi n) := by
  obtain ⟨ad, c, rfl⟩ := hn
  refine cnv (vs := [_]) Tryz.func38 rfl rfl ?_
  all_goals refine tc_seq fun K1 hK1 => ?_; refine tc_region ?_; refine tl_q (y_assign rfl) rfl ?_; refine tl_nil ?_; ((refine hK1 ?_; try (clear hK1; clear K1)))
  all_goals refine tc_seq fun K2 hK2 => ?_; refine tc_region ?_; refine tl_q (y_move rfl) rfl ?_; refine tl_q (y_nil rfl) rfl ?_; refine tl_q (y_field rfl) rfl ?_; refine tl_q (y_field rfl) rfl ?_; refine tl_q (y_load1o (v := .slice ad n c) rfl (fun w' hw' => cell0 ((hw'.fr (w0 := w) (S := []) MI.m).keep hbw) rfl)) rfl ?_; refine tl_q (y_len rfl) rfl ?_; refine tl_q (y_assign rfl) rfl ?_; refine tl_nil ?_; ((refine hK2 ?_; try (clear hK2; clear K2)))
  all_goals refine tc_ret ?_; (repeat (first | refine tk_then_ret ?_))
  all_goals (refine tk_ret rfl rfl (.cons (.tmp rfl) .nil) ?_)
  all_goals (
   exact fun w' hw' => ⟨rfl, hw'.fr (w0 := w) (S := []) MI.m⟩)
theorem dthese_c (bw : Nat) (lv : Value) (w : World) : CnV Tryz.prog 39 #[ptr bw, lv] w lv := by
  refine cnv (vs := [_, _]) Tryz.func39 rfl rfl ?_
  all_goals refine tc_seq fun K1 hK1 => ?_; refine tc_region ?_; refine tl_q (y_assign rfl) rfl ?_; refine tl_nil ?_; ((refine hK1 ?_; try (clear hK1; clear K1)))
  all_goals refine tc_seq fun K2 hK2 => ?_; refine tc_region ?_; refine tl_q (y_move rfl) rfl ?_; refine tl_q (y_assign rfl) rfl ?_; refine tl_nil ?_; ((refine hK2 ?_; try (clear hK2; clear K2)))
  all_goals refine tc_ret ?_; (repeat (first | refine tk_then_ret ?_))
  all_goals (refine tk_ret rfl rfl (.cons (.tmp rfl) .nil) ?_)
  all_goals (
   exact fun w' hw' => ⟨rfl, hw'.fr (w0 := w) (S := []) MI.m⟩)
abbrev fnV (n : Nat) : Value := .func (.func n) #[] #[]
theorem dbyFact_c (w : World) : CnV Tryz.prog 26 #[] w (.agg #[fnV 38, fnV 39]) := by
  refine cnv (vs := []) Tryz.func26 rfl rfl ?_
  all_goals refine tc_seq fun K1 hK1 => ?_; refine tc_region ?_; refine tl_e (e_allocN rfl) rfl (fun b0 _ => ?_); refine tl_nil ?_; ((refine hK1 ?_; try (clear hK1; clear K1)))
  all_goals refine tc_seq fun K2 hK2 => ?_; refine tc_region ?_; refine tl_q (y_build_g (by repeat constructor)) rfl ?_; refine tl_e (e_storeW rfl rfl (by repeat constructor) (by rfl) (by rfl) (by simp [Value.oneCell'])) rfl (fun _ _ => ?_); refine tl_nil ?_; ((refine hK2 ?_; try (clear hK2; clear K2)))
  all_goals refine tc_ret ?_; (repeat (first | refine tk_then_ret ?_))
  all_goals (refine tk_ret rfl rfl (.cons (.agg inferInstance rfl (by repeat constructor) (by rfl)) .nil) ?_)
  all_goals (
   exact fun w' hw' => ⟨rfl, hw'.fr (w0 := w) (S := []) MI.m⟩)
end Go.Sp
/-
  Package dispute: all shortest lists: the function that calls itself.
-/
namespace Go.Sp
open Go Go.Proofs
/-- A function value is called; all blocks of H1 are turned; what is known of what it left is said of that world. -/
theorem e_callQW {P : Program} {N : NN} {F : List (Nat × Value)} {bs : List (World × List Nat)} {H : List (Nat × Obj)} {d : Tmp} {ty : TypeId} {pos : String} {after : Array Edge} {g : Option (Nat × Bool)} {f : FuncId} [GoFn P f] {x : Operand} {xs : List Operand} {tys : Array TypeId} {vs : List Value} {first cap : Array Value} {α : Type} {val : α → Value} {p : α → World → Prop} (H1 : List (Nat × Obj)) {Hn : α → List (Nat × Obj)} (H2 : List (Nat × Obj))
    (hd : Nat.blt d N.n = true) (hx : evalO F x = some (.func (.func f) first cap)) (hxs : EA F xs vs) (hH : ∀ w, HG bs H w → HG bs (H2 ++ H1) w) (hc : ∀ w, HG bs H w → CnX P f (first ++ vs.toArray ++ cap) w (H1.map Prod.fst) val (fun x w' => p x w' ∧ KnS (Hn x) (H1.map Prod.fst) w w')) :
    OpE P ⟨some d, .call ⟨.value x, xs.toArray, tys⟩, ty, pos, after, g⟩ N F bs H (fun y : α × World × World => HG bs (H2 ++ H1) y.2.1 ∧ (Fr (H1.map Prod.fst) y.2.1 y.2.2 ∧ KnS (Hn y.1) (H1.map Prod.fst) y.2.1 y.2.2) ∧ p y.1 y.2.2) (fun y => (d, val y.1) :: F) (fun y => (y.2.2, (Hn y.1).map Prod.fst) :: bs) (fun y => Hn y.1) := by
  unfold OpE
  intro a w ht hw K Q hK
  unfold Oper.wp
  rw [exec_call hx hxs ht w]
  simp only [Oper.upon]
  refine (hc w hw).out.mono fun e w' he => ?_
  obtain ⟨y, rfl, hf, hp, h1⟩ := he
  have h2 := ((hH w hw).perm List.perm_append_comm).callS hf h1
  exact hK (y, w, w') _ _ ⟨hH w hw, ⟨hf, h1⟩, hp⟩ (ht.put hd _) ((h2.sub (fun _ h => h) (List.sublist_append_left _ _)).push)
abbrev adSt := List Sv × OwnB × Array MapEntry × Nat
abbrev adH (b4 bm : Nat) (st : adSt) : List (Nat × Obj) := (b4, .cells #[ouV st.1.length st.2.1] 28 (0, 0)) :: (bm, .map st.2.2.1 st.2.2.2) :: slE 27 svE st.1 st.2.1
abbrev adK (b4 bm : Nat) (st : adSt) : List Nat := (adH b4 bm st).map Prod.fst
/-- What stays while the lists are found. -/
structure AdC (d : Dsp) (wv mv vv lv fv : Value) (b2 b3 b4 b5 bw bm : Nat) (w : World) (S : List Nat) : Prop where
  h2 : w.heap[b2]? = some (.cells #[fnV 38, fnV 39] 99 (0, 0))
  h3 : w.heap[b3]? = some (pbO bw)
  h5 : w.heap[b5]? = some (.cells #[.func (.func 65) #[] #[ptr b3, ptr b2, ptr b4, ptr b5]] 155 (0, 0))
  hw : w.heap[bw]? = some (wkP d wv mv vv lv fv bm)
  n2 : b2 ∉ S
  n3 : b3 ∉ S
  n5 : b5 ∉ S
  nw : bw ∉ S
  rd : ∀ w', Fr S w w' → RdD w' d wv mv vv lv fv
theorem AdC.step {d : Dsp} {wv mv vv lv fv : Value} {b2 b3 b4 b5 bw bm : Nat} {w w1 : World} {S S1 : List Nat} (h : AdC d wv mv vv lv fv b2 b3 b4 b5 bw bm w S) (f : Fr S w w1) (hS : ∀ b ∈ S1, b ∈ S ∨ w.heap.size ≤ b) : AdC d wv mv vv lv fv b2 b3 b4 b5 bw bm w1 S1 := by
  have hn : ∀ {b : Nat} {o : Obj}, w.heap[b]? = some o → b ∉ S → b ∉ S1 := fun hb hn hm => by
    rcases hS _ hm with g | g
    · exact hn g
    · have := lt_ofB hb; omega
  exact ⟨f.keepS h.n2 h.h2, f.keepS h.n3 h.h3, f.keepS h.n5 h.h5, f.keepS h.nw h.hw, hn h.h2 h.n2, hn h.h3 h.n3, hn h.h5 h.n5, hn h.hw h.nw, fun w' f' => h.rd w' (f.trans f' hS)⟩
/-- The state. -/
structure AdP (d : Dsp) (b4 bm : Nat) (w : World) (st : adSt) (xss : List (List Int)) : Prop where
  ok : okE 1 st.1 st.2.1
  gm : GoodM 6 (mnM d.t) st.2.2.1
  ov : OKV 1 inE w (adK b4 bm st) st.1 xss
theorem AdP.at {d : Dsp} {b4 bm : Nat} {w w1 : World} {st : adSt} {xss : List (List Int)} (h : AdP d b4 bm w st xss) (f : Fr (adK b4 bm st) w w1) : AdP d b4 bm w1 st xss := ⟨h.ok, h.gm, h.ov.step f (fun b hb => .inl hb)⟩
theorem OKS.own2 {α : Type} {k : Nat} {enc : α → List Value} (hk : ∀ x, (enc x).length = k) {bs : List (World × List Nat)} {H : List (Nat × Obj)} {w : World} {b : Nat} {xs : List α} {e : TypeId} {f : Nat × Nat} {cap : Nat} {junk : List Value} {S : List Nat} (hw : HG bs H w) (hm : HM b (.cells (xs.flatMap enc ++ junk).toArray e f) H) (hn : b ∉ S) : OKS k enc w S (.slice (some ⟨b, 0, none⟩) xs.length cap) xs :=
  ⟨RdS.own hk hw hm, fun _ p m c e => by cases e; exact ⟨hw.lt hm.mem, hn⟩⟩
/-- What is asked of the function. -/
def AddC (d : Dsp) (wv mv vv lv fv : Value) (b2 b3 b4 b5 bw bm : Nat) (m : Nat) : Prop :=
  ∀ (w : World) (st : adSt) (xss : List (List Int)) (l : List Int) (lo : OwnB) (a : Nat), AdC d wv mv vv lv fv b2 b3 b4 b5 bw bm w (adK b4 bm st) → AdP d b4 bm w st xss → KnS (adH b4 bm st) (adK b4 bm st) w w → OKS 1 inE w (adK b4 bm st) (ouV l.length lo) l → okE 1 l lo → l.length + m ≤ 6 → a ≤ 6 → (xss ++ addF (okD d) d.fs.length m l a).length ≤ 90000 →
    CnX Tryz.prog 65 #[ouV l.length lo, vi a, vi m, ptr b3, ptr b2, ptr b4, ptr b5] w (adK b4 bm st) (fun _ : adSt => .tuple #[])
      (fun st' w' => AdP d b4 bm w' st' (xss ++ addF (okD d) d.fs.length m l a) ∧ KnS (adH b4 bm st') (adK b4 bm st) w w')
theorem addF_yes {P : List Int → Bool} {n : Nat} {l : List Int} {a : Nat} (h : P l = true) : addF P n 0 l a = [l] := if_pos h
theorem addF_no {P : List Int → Bool} {n : Nat} {l : List Int} {a : Nat} (h : P l = false) : addF P n 0 l a = [] := if_neg (by rw [h]; decide)
set_option maxHeartbeats 2000000 in
theorem add0_c (d : Dsp) (hv : VDsp d) (wv mv vv lv fv : Value) (b2 b3 b4 b5 bw bm : Nat) : AddC d wv mv vv lv fv b2 b3 b4 b5 bw bm 0 := by
  rintro w ⟨us, oo, es, ck⟩ xss l lo a hC hP hK hL hlo hlm ha hul
  have hux := hP.ov.1
  dsimp only at hux
  rw [List.length_append] at hul
  have hok := hP.ok
  have hgm := hP.gm
  dsimp only at hok hgm
  refine cnxS (vs := [_, _, _, _, _, _, _]) (S := adK b4 bm (us, oo, es, ck)) (adH b4 bm (us, oo, es, ck)) Tryz.func65 rfl rfl ⟨hK.kn, hK.nd, hK.memB⟩ ?_
  all_goals refine tc_seq fun K1 hK1 => ?_; refine tc_seq fun K2 hK2 => ?_; refine tc_region ?_; refine tl_q (y_move rfl) rfl ?_; refine tl_q (y_eql rfl rfl) rfl ?_; refine tl_nil ?_; ((refine hK2 ?_; try (clear hK2; clear K2)))
  all_goals (
   refine tc_cond rfl (fun hc => ?_) (fun hc => ?_)
   · try simp only [qn1, qn2, qn3, qn4, qn5, qn6, qn7, qn8] at hc
     all_goals refine tc_seq fun K3 hK3 => ?_; refine tc_seq fun K4 hK4 => ?_; refine tc_drawS ([]) (by kernel_rfl) ?_; refine tx_qS 0 rfl (by kernel_rfl) (y_load1o (v := ptr bw) rfl (fun w' hw' => cell0 ((hw'.fr (w0 := w) (S := adK b4 bm (us, oo, es, ck)) MI.m).keepS hC.n3 hC.h3) rfl)) rfl (fun _ _ _ h => h) (fun _ h => h.subl SB.s SB.s) ?_; refine tx_p 1 rfl (by kernel_rfl) (y_field rfl) rfl (fun _ _ _ h => h) (fun _ h => h.subl SB.s SB.s) ?_; refine tx_qS 2 rfl (by kernel_rfl) (y_load1o (v := fnV 39) rfl (fun w' hw' => cell0 ((hw'.fr (w0 := w) (S := adK b4 bm (us, oo, es, ck)) MI.m).keepS hC.n2 hC.h2) rfl)) rfl (fun _ _ _ h => h) (fun _ h => h.subl SB.s SB.s) ?_; refine tx_qS 3 rfl (by kernel_rfl) (y_load1o (v := ptr bw) rfl (fun w' hw' => cell0 ((hw'.fr (w0 := w) (S := adK b4 bm (us, oo, es, ck)) MI.m).keepS hC.n3 hC.h3) rfl)) rfl (fun _ _ _ h => h) (fun _ h => h.subl SB.s SB.s) ?_; refine tx_p 4 rfl (by kernel_rfl) (y_move rfl) rfl (fun _ _ _ h => h) (fun _ h => h.subl SB.s SB.s) ?_
     all_goals (
      refine tx_pair 5 10 (by kernel_rfl) ?_ ?_
      rotate_left
      focus (
       (refine to_e rfl rfl (e_allocN rfl) (.inr ⟨fun _ _ h => h.subl SB.s SB.s, fun _ h => h⟩) (fun b10 _ => ?_))
       all_goals refine tx_single 5 (by kernel_rfl) (to_e rfl rfl (e_callVf rfl rfl (.cons rfl (.cons rfl .nil)) (fun w' _ => dthese_c bw _ w')) (.inr ⟨fun _ _ h => h.subl SB.s SB.s, fun _ h => h⟩) (fun _ _ => ?_)); refine tx_single 6 (by kernel_rfl) (to_e rfl rfl (e_callU rfl (.cons rfl (.cons rfl .nil)) (fun w' hw' => dapart2_c d hv l (by omega) wv mv vv lv fv _ w' (hC.rd w' (hw'.fr (w0 := w) (S := adK b4 bm (us, oo, es, ck)) MI.m)) (hL.rd' (hw'.fr (w0 := w) (S := adK b4 bm (us, oo, es, ck)) MI.m)).toI bw bm es ck ((hw'.fr (w0 := w) (S := adK b4 bm (us, oo, es, ck)) MI.m).keepS hC.nw hC.hw) (hw'.at (b := bm) (by repeat constructor)) hgm) (fun _ => (by repeat constructor))) (.inr ⟨fun _ _ h => h.subl SB.s SB.s, fun _ h => h⟩) (fun q hq => ?_)); refine tx_p 7 rfl (by kernel_rfl) (y_move rfl) rfl (fun _ _ _ h => h) (fun _ h => h.subl SB.s SB.s) ?_; refine tx_p 8 rfl (by kernel_rfl) (y_extract rfl rfl) rfl (fun _ _ _ h => h) (fun _ h => h.subl SB.s SB.s) ?_; refine tx_p 9 rfl (by kernel_rfl) (y_extract rfl rfl) rfl (fun _ _ _ h => h) (fun _ h => h.subl SB.s SB.s) ?_; refine tx_single 11 (by kernel_rfl) (to_e (S' := HG [] []) rfl rfl (e_storeW rfl rfl (by repeat constructor) (by rw [isV_size, aprD_len]) (by rfl) (isV_oneD _)) (.inl (by kernel_rfl)) (fun _ _ => ?_)); refine tx_p 12 rfl (by kernel_rfl) (y_assign rfl) rfl (fun _ _ _ h => h) (fun _ h => h.subl SB.s SB.s) ?_
       all_goals refine tx_done (by kernel_rfl) ?_)
      rotate_right
      focus (
       (refine to_e rfl rfl (e_callVf rfl rfl (.cons rfl (.cons rfl .nil)) (fun w' _ => dthese_c bw _ w')) (.inr ⟨fun _ _ h => h.subl SB.s SB.s, fun _ h => h⟩) (fun _ _ => ?_))
       all_goals (
        refine tx_pair 6 10 (by kernel_rfl) ?_ ?_
        rotate_left
        focus (
         (refine to_e rfl rfl (e_allocN rfl) (.inr ⟨fun _ _ h => h.subl SB.s SB.s, fun _ h => h⟩) (fun b10 _ => ?_))
         all_goals refine tx_single 6 (by kernel_rfl) (to_e rfl rfl (e_callU rfl (.cons rfl (.cons rfl .nil)) (fun w' hw' => dapart2_c d hv l (by omega) wv mv vv lv fv _ w' (hC.rd w' (hw'.fr (w0 := w) (S := adK b4 bm (us, oo, es, ck)) MI.m)) (hL.rd' (hw'.fr (w0 := w) (S := adK b4 bm (us, oo, es, ck)) MI.m)).toI bw bm es ck ((hw'.fr (w0 := w) (S := adK b4 bm (us, oo, es, ck)) MI.m).keepS hC.nw hC.hw) (hw'.at (b := bm) (by repeat constructor)) hgm) (fun _ => (by repeat constructor))) (.inr ⟨fun _ _ h => h.subl SB.s SB.s, fun _ h => h⟩) (fun q hq => ?_)); refine tx_p 7 rfl (by kernel_rfl) (y_move rfl) rfl (fun _ _ _ h => h) (fun _ h => h.subl SB.s SB.s) ?_; refine tx_p 8 rfl (by kernel_rfl) (y_extract rfl rfl) rfl (fun _ _ _ h => h) (fun _ h => h.subl SB.s SB.s) ?_; refine tx_p 9 rfl (by kernel_rfl) (y_extract rfl rfl) rfl (fun _ _ _ h => h) (fun _ h => h.subl SB.s SB.s) ?_; refine tx_single 11 (by kernel_rfl) (to_e (S' := HG [] []) rfl rfl (e_storeW rfl rfl (by repeat constructor) (by rw [isV_size, aprD_len]) (by rfl) (isV_oneD _)) (.inl (by kernel_rfl)) (fun _ _ => ?_)); refine tx_p 12 rfl (by kernel_rfl) (y_assign rfl) rfl (fun _ _ _ h => h) (fun _ h => h.subl SB.s SB.s) ?_
         all_goals refine tx_done (by kernel_rfl) ?_)
        rotate_right
        focus (
         (refine to_e rfl rfl (e_callU rfl (.cons rfl (.cons rfl .nil)) (fun w' hw' => dapart2_c d hv l (by omega) wv mv vv lv fv _ w' (hC.rd w' (hw'.fr (w0 := w) (S := adK b4 bm (us, oo, es, ck)) MI.m)) (hL.rd' (hw'.fr (w0 := w) (S := adK b4 bm (us, oo, es, ck)) MI.m)).toI bw bm es ck ((hw'.fr (w0 := w) (S := adK b4 bm (us, oo, es, ck)) MI.m).keepS hC.nw hC.hw) (hw'.at (b := bm) (by repeat constructor)) hgm) (fun _ => (by repeat constructor))) (.inr ⟨fun _ _ h => h.subl SB.s SB.s, fun _ h => h⟩) (fun q hq => ?_))
         all_goals refine tx_p 7 rfl (by kernel_rfl) (y_move rfl) rfl (fun _ _ _ h => h) (fun _ h => h.subl SB.s SB.s) ?_; refine tx_p 8 rfl (by kernel_rfl) (y_extract rfl rfl) rfl (fun _ _ _ h => h) (fun _ h => h.subl SB.s SB.s) ?_; refine tx_p 9 rfl (by kernel_rfl) (y_extract rfl rfl) rfl (fun _ _ _ h => h) (fun _ h => h.subl SB.s SB.s) ?_; refine tx_single 10 (by kernel_rfl) (to_e rfl rfl (e_allocN rfl) (.inr ⟨fun _ _ h => h.subl SB.s SB.s, fun _ h => h⟩) (fun b10 _ => ?_)); refine tx_single 11 (by kernel_rfl) (to_e (S' := HG [] []) rfl rfl (e_storeW rfl rfl (by repeat constructor) (by rw [isV_size, aprD_len]) (by rfl) (isV_oneD _)) (.inl (by kernel_rfl)) (fun _ _ => ?_)); refine tx_p 12 rfl (by kernel_rfl) (y_assign rfl) rfl (fun _ _ _ h => h) (fun _ h => h.subl SB.s SB.s) ?_
         all_goals refine tx_done (by kernel_rfl) ?_))))
     all_goals ((refine hK4 ?_; try (clear hK4; clear K4)))
     all_goals refine tc_seq fun K5 hK5 => ?_; refine tc_region ?_; refine tl_q (y_move rfl) rfl ?_; refine tl_nil ?_; ((refine hK5 ?_; try (clear hK5; clear K5)))
     all_goals (
      refine tc_cond rfl (fun hc => ?_) (fun hc => ?_)
      · all_goals (skip)
        all_goals refine tc_region ?_; refine tl_q (y_load1 rfl (by repeat constructor) (by rfl)) rfl ?_; refine tl_q (y_move rfl) rfl ?_; (refine tl_e (e_bslice rfl (by (repeat (first | exact .nil | apply PV.one rfl rfl)); done) rfl rfl) rfl (fun b28 _ => ?_))
        all_goals (refine tl_e (e_appendE (enc := svE) (xs := us) (ys := [⟨ouV l.length lo, rfl⟩]) svE_len svE_one rfl rfl rfl hok (fun _ => by repeat constructor) (fun w' hw' => RdS.own0 svE_len hw' (by repeat constructor)) (by simp only [List.length_cons, List.length_nil]; omega) rfl) rfl (fun oo' hok' => ?_))
        all_goals refine tl_e (e_store1 rfl rfl (by repeat constructor) (by repeat constructor) (by rfl) (by rfl)) rfl (fun _ _ => ?_); refine tl_nil ?_; ((refine hK3 ?_; try (clear hK3; clear K3)))
        all_goals refine tc_ret ?_; (repeat (refine tk_then_ret ?_))
        all_goals (refine tk_ret rfl rfl .nil ?_)
        all_goals (
         first
         | (have hyes : okD d l = true := by assumption
            rw [addF_yes hyes]
            refine fun w' hw' => ⟨(us ++ [⟨ouV l.length lo, rfl⟩], oo', q.1, q.2), rfl, hw'.fr (w0 := w) (S := adK b4 bm (us, oo, es, ck)) MI.m, ⟨hok', hq, ?_⟩, ?_⟩
            · have hf := hw'.fr (w0 := w) (S := adK b4 bm (us, oo, es, ck)) MI.m
              have hw2 : HG [(w, adK b4 bm (us, oo, es, ck))] (adH b4 bm (us ++ [⟨ouV l.length lo, rfl⟩], oo', q.1, q.2)) w' := hw'.subl SB.s SB.s
              have hS := hw2.ownsK (List.Sublist.refl _) (w0 := w) (S := adK b4 bm (us, oo, es, ck)) MI.m
              exact (hP.ov.step hf hS).snoc (hL.step hf hS)
            · exact (hw'.subl (H' := adH b4 bm (us ++ [⟨ouV l.length lo, rfl⟩], oo', q.1, q.2)) (SB.s SB.refl) SB.s).knS MI.m)
         | (have hno : okD d l = false := by assumption
            rw [addF_no hno, List.append_nil]
            refine fun w' hw' => ⟨(us, oo, q.1, q.2), rfl, hw'.fr (w0 := w) (S := adK b4 bm (us, oo, es, ck)) MI.m, ⟨hok, hq, ?_⟩, ?_⟩
            · have hf := hw'.fr (w0 := w) (S := adK b4 bm (us, oo, es, ck)) MI.m
              exact hP.ov.step hf (fun b hb => .inl hb)
            · exact (hw'.subl (H' := adH b4 bm (us, oo, q.1, q.2)) (SB.s SB.refl) SB.s).knS MI.m))
      · all_goals (skip)
        all_goals refine tc_skip ?_; ((refine hK3 ?_; try (clear hK3; clear K3)))
        all_goals refine tc_ret ?_; (repeat (refine tk_then_ret ?_))
        all_goals (refine tk_ret rfl rfl .nil ?_)
        all_goals (
         first
         | (have hyes : okD d l = true := by assumption
            rw [addF_yes hyes]
            refine fun w' hw' => ⟨(us ++ [⟨ouV l.length lo, rfl⟩], oo', q.1, q.2), rfl, hw'.fr (w0 := w) (S := adK b4 bm (us, oo, es, ck)) MI.m, ⟨hok', hq, ?_⟩, ?_⟩
            · have hf := hw'.fr (w0 := w) (S := adK b4 bm (us, oo, es, ck)) MI.m
              have hw2 : HG [(w, adK b4 bm (us, oo, es, ck))] (adH b4 bm (us ++ [⟨ouV l.length lo, rfl⟩], oo', q.1, q.2)) w' := hw'.subl SB.s SB.s
              have hS := hw2.ownsK (List.Sublist.refl _) (w0 := w) (S := adK b4 bm (us, oo, es, ck)) MI.m
              exact (hP.ov.step hf hS).snoc (hL.step hf hS)
            · exact (hw'.subl (H' := adH b4 bm (us ++ [⟨ouV l.length lo, rfl⟩], oo', q.1, q.2)) (SB.s SB.refl) SB.s).knS MI.m)
         | (have hno : okD d l = false := by assumption
            rw [addF_no hno, List.append_nil]
            refine fun w' hw' => ⟨(us, oo, q.1, q.2), rfl, hw'.fr (w0 := w) (S := adK b4 bm (us, oo, es, ck)) MI.m, ⟨hok, hq, ?_⟩, ?_⟩
            · have hf := hw'.fr (w0 := w) (S := adK b4 bm (us, oo, es, ck)) MI.m
              exact hP.ov.step hf (fun b hb => .inl hb)
            · exact (hw'.subl (H' := adH b4 bm (us, oo, q.1, q.2)) (SB.s SB.refl) SB.s).knS MI.m)))
   · try simp only [qn1, qn2, qn3, qn4, qn5, qn6, qn7, qn8] at hc
     all_goals ((exfalso; omega))
     all_goals skip)
end Go.Sp
/-
  Package dispute: all shortest lists: one number more.
-/
namespace Go.Sp
open Go Go.Proofs
def adX (P : List Int → Bool) (n m : Nat) (l : List Int) (a k : Nat) : List (List Int) := (List.range k).flatMap fun d => addF P n m (l ++ [((a + d : Nat) : Int)]) (a + d + 1)
theorem adX_succ (P : List Int → Bool) (n m : Nat) (l : List Int) (a k : Nat) : adX P n m l a (k + 1) = adX P n m l a k ++ addF P n m (l ++ [((a + k : Nat) : Int)]) (a + k + 1) := by simp [adX, List.range_succ]
theorem adX_end (P : List Int → Bool) (n m : Nat) (l : List Int) (a : Nat) : addF P n (m + 1) l a = adX P n m l a (n - m - a) := rfl
theorem adX_le (P : List Int → Bool) (n m : Nat) (l : List Int) (a k : Nat) : ∀ j, (adX P n m l a k).length ≤ (adX P n m l a (k + j)).length
  | 0 => Nat.le_refl _
  | j + 1 => by
    have := adX_le P n m l a k j
    rw [show k + (j + 1) = k + j + 1 from rfl, adX_succ, List.length_append]; omega
theorem addF_len (P : List Int → Bool) (n : Nat) (hn : n ≤ 6) : ∀ (m : Nat) (l : List Int) (a : Nat), (addF P n m l a).length ≤ 6 ^ m
  | 0, l, a => by
    unfold addF
    by_cases h : P l = true
    · rw [if_pos h]; simp
    · rw [if_neg h]; simp
  | m + 1, l, a => by
    have key : ∀ k, (adX P n m l a k).length ≤ k * 6 ^ m := by
      intro k
      induction k with
      | zero => simp [adX]
      | succ k ih =>
        rw [adX_succ, List.length_append, Nat.succ_mul]
        have := addF_len P n hn m (l ++ [((a + k : Nat) : Int)]) (a + k + 1)
        omega
    rw [adX_end, Nat.pow_succ, Nat.mul_comm (6 ^ m) 6]
    exact Nat.le_trans (key _) (Nat.mul_le_mul_right _ (by omega))
theorem addR {d : Dsp} {wv mv vv lv fv : Value} {b2 b3 b4 b5 bw bm m : Nat} (ih : AddC d wv mv vv lv fv b2 b3 b4 b5 bw bm m) {bs : List (World × List Nat)} {w' wz : World} {st : adSt} {xss : List (List Int)} {l : List Int} {i rb cap ln b45 : Nat} {cs : List Value} {o45 : Obj} {i1 m1 : Int}
    (hw' : HG bs ((rb, .cells cs.toArray 3 (0, 0)) :: (b45, o45) :: adH b4 bm st) w') (hb : (wz, adK b4 bm st) ∈ bs) (hC : AdC d wv mv vv lv fv b2 b3 b4 b5 bw bm wz (adK b4 bm st)) (hP : AdP d b4 bm wz st xss) (hcs : ∃ junk, cs = (l ++ [(i : Int)]).map vi ++ junk ∧ junk.length = cap - ln) (hln : ln = l.length + 1) (hcap : ln ≤ cap) (hi1 : i1 = (i : Int) + 1) (hm1 : m1 = (m : Int))
    (hlm : l.length + 1 + m ≤ 6) (hi : i + 1 ≤ 6) (hul : (xss ++ addF (okD d) d.fs.length m (l ++ [(i : Int)]) (i + 1)).length ≤ 90000) :
    CnX Tryz.prog 65 (#[] ++ [.slice (some ⟨rb, 0, none⟩) ln cap, vi i1, vi m1].toArray ++ #[ptr b3, ptr b2, ptr b4, ptr b5]) w' (adK b4 bm st) (fun _ : adSt => .tuple #[])
      (fun st' w2 => AdP d b4 bm w2 st' (xss ++ addF (okD d) d.fs.length m (l ++ [(i : Int)]) (i + 1)) ∧ KnS (adH b4 bm st') (adK b4 bm st) w' w2) := by
  obtain ⟨junk, rfl, hj⟩ := hcs
  have hlen : (l ++ [(i : Int)]).length = ln := by rw [List.length_append, List.length_singleton, hln]
  have hf := hw'.fr hb
  have hnd := hw'.nodup
  have hno : rb ∉ adK b4 bm st := by
    have h1 : (rb :: adK b4 bm st).Nodup := hnd.sublist (.cons_cons _ (.cons _ (List.Sublist.refl _)))
    exact (List.nodup_cons.1 h1).1
  have hK : KnS (adH b4 bm st) (adK b4 bm st) w' w' :=
    ⟨fun q hq => hw'.heap q (List.mem_cons_of_mem _ (List.mem_cons_of_mem _ hq)), hnd.sublist (.cons _ (.cons _ (List.Sublist.refl _))), fun b hb => .inl hb⟩
  have hfm : (l ++ [(i : Int)]).flatMap inE = (l ++ [(i : Int)]).map vi := by
    induction (l ++ [(i : Int)]) with
    | nil => rfl
    | cons x t ih => rw [List.flatMap_cons, ih]; rfl
  have hm0 : HM rb (.cells ((l ++ [(i : Int)]).flatMap inE ++ junk).toArray 3 (0, 0)) ((rb, .cells ((l ++ [(i : Int)]).map vi ++ junk).toArray 3 (0, 0)) :: (b45, o45) :: adH b4 bm st) := by
    rw [hfm]; exact .head
  have hO : OKS 1 inE w' (adK b4 bm st) (.slice (some ⟨rb, 0, none⟩) (l ++ [(i : Int)]).length cap) (l ++ [(i : Int)]) := OKS.own2 inE_len hw' hm0 hno
  have h := ih w' st xss (l ++ [(i : Int)]) (some (rb, cap, junk)) (i + 1) (hC.step hf (fun b hb => .inl hb)) (hP.at hf) hK hO ⟨by rw [hlen]; exact hcap, by rw [hlen, hj]; omega⟩ (by rw [hlen]; omega) hi hul
  rw [show ouV (l ++ [(i : Int)]).length (some (rb, cap, junk)) = .slice (some ⟨rb, 0, none⟩) ln cap by rw [hlen]; rfl, show (((i + 1 : Nat) : Int)) = i1 by rw [hi1]; omega, show ((m : Nat) : Int) = m1 from hm1.symm] at h
  simpa using h
set_option maxHeartbeats 4000000 in
theorem addS_c (d : Dsp) (hv : VDsp d) (wv mv vv lv : Value) (fad : Option Addr) (fcp : Nat) (b2 b3 b4 b5 bw bm m : Nat) (ih : AddC d wv mv vv lv (.slice fad d.fs.length fcp) b2 b3 b4 b5 bw bm m) : AddC d wv mv vv lv (.slice fad d.fs.length fcp) b2 b3 b4 b5 bw bm (m + 1) := by
  rintro w st0 xss l lo a hC0 hP0 hK hL0 hlo hlm ha hul
  have hf6 := hv.f
  rcases lo with _ | ⟨lb, lcap, lj⟩
  · obtain rfl : l = [] := hlo
    refine cnxS (vs := [_, _, _, _, _, _, _]) (S := adK b4 bm st0) (adH b4 bm st0) Tryz.func65 rfl rfl ⟨hK.kn, hK.nd, hK.memB⟩ ?_
    all_goals refine tc_seq fun K1 hK1 => ?_; refine tc_seq fun K2 hK2 => ?_; refine tc_region ?_; refine tl_q (y_move rfl) rfl ?_; refine tl_q (y_eql rfl rfl) rfl ?_; refine tl_nil ?_; ((refine hK2 ?_; try (clear hK2; clear K2)))
    all_goals (
     refine tc_cond rfl (fun hc => ?_) (fun hc => ?_)
     · try simp only [qn1, qn2, qn3, qn4, qn5, qn6, qn7, qn8] at hc
       all_goals ((exfalso; omega))
     · try simp only [qn1, qn2, qn3, qn4, qn5, qn6, qn7, qn8] at hc
       all_goals refine tc_skip ?_; ((refine hK1 ?_; try (clear hK1; clear K1)))
       all_goals refine tc_seq fun K6 hK6 => ?_; refine tc_region ?_; refine tl_q (y_move rfl) rfl ?_; refine tl_q (y_assign rfl) rfl ?_; refine tl_nil ?_; ((refine hK6 ?_; try (clear hK6; clear K6)))
       all_goals refine tc_block ?_
       all_goals (
        refine tc_loop (fun x : Nat × adSt × World => (x.1 = 0 ∨ a + x.1 + m ≤ d.fs.length) ∧ AdC d wv mv vv lv (.slice fad d.fs.length fcp) b2 b3 b4 b5 bw bm x.2.2 (adK b4 bm x.2.1) ∧ AdP d b4 bm x.2.2 x.2.1 (xss ++ adX (okD d) d.fs.length m [] a x.1)) (fun x => [(0, .slice none 0 0), (2, vi (m + 1 : Nat)), (3, ptr b3), (4, ptr b2), (5, ptr b4), (6, ptr b5), (12, vi (a + x.1 : Nat))]) (fun x => [(x.2.2, adK b4 bm x.2.1), (w, adK b4 bm st0)]) (fun x => adH b4 bm x.2.1) (fun x => 100 - x.1) ?_ ?_
        · exact tk_lay (adH b4 bm st0) SB.s fun wl hl => tk_start (0, st0, wl) ⟨.inl rfl, hC0.step (hl.fr (w0 := w) (S := adK b4 bm st0) MI.m) (fun b hb => .inl hb), by rw [show adX (okD d) d.fs.length m [] a 0 = [] from rfl, List.append_nil]; exact hP0.at (hl.fr (w0 := w) (S := adK b4 bm st0) MI.m)⟩ (.cons rfl (.cons rfl (.cons rfl (.cons rfl (.cons rfl (.cons rfl (.cons rfl .nil))))))) (fun _ h => h.subl SB.s SB.s)
        · rintro ⟨k, st, wz⟩ ⟨hk, hC, hP⟩
          dsimp only at hk hC hP ⊢
          all_goals refine tc_seq fun K7 hK7 => ?_; refine tc_seq fun K8 hK8 => ?_; refine tc_region ?_; refine tl_q (y_move rfl) rfl ?_; refine tl_q (y_field rfl) rfl ?_; refine tl_q (y_load1o (v := fnV 38) rfl (fun w' hw' => cell0 ((hw'.fr (w0 := wz) (S := adK b4 bm st) MI.m).keepS hC.n2 hC.h2) rfl)) rfl ?_; refine tl_q (y_load1o (v := ptr bw) rfl (fun w' hw' => cell0 ((hw'.fr (w0 := wz) (S := adK b4 bm st) MI.m).keepS hC.n3 hC.h3) rfl)) rfl ?_; refine tl_e (e_callVf rfl rfl (.cons rfl .nil) (fun w' hw' => dfacts_c d _ _ _ _ _ d.fs.length ⟨_, _, rfl⟩ bw bm w' ((hw'.fr (w0 := wz) (S := adK b4 bm st) MI.m).keepS hC.nw hC.hw))) rfl (fun _ _ => ?_); refine tl_q (y_move rfl) rfl ?_; refine tl_q (y_sub rfl rfl (by omega)) rfl ?_; refine tl_q (y_leq rfl rfl) rfl ?_; refine tl_nil ?_; ((refine hK8 ?_; try (clear hK8; clear K8)))
          all_goals (
           refine tc_cond rfl (fun hc => ?_) (fun hc => ?_)
           · try simp only [qn1, qn2, qn3, qn4, qn5, qn6, qn7, qn8] at hc
             all_goals refine tc_skip ?_; ((refine hK7 ?_; try (clear hK7; clear K7)))
             all_goals refine tc_seq fun K9 hK9 => ?_; refine tc_block ?_; ((have hul2 : (xss ++ adX (okD d) d.fs.length m [] a k ++ addF (okD d) d.fs.length m ([] ++ [((a + k : Nat) : Int)]) (a + k + 1)).length ≤ 90000 := (by rw [List.append_assoc, ← adX_succ, List.length_append]; rw [adX_end, List.length_append] at hul; have hle := adX_le (okD d) d.fs.length m [] a (k + 1) (d.fs.length - m - a - (k + 1)); rw [show k + 1 + (d.fs.length - m - a - (k + 1)) = d.fs.length - m - a by omega] at hle; omega)))
             all_goals refine tc_drawS ([]) (by kernel_rfl) ?_; refine tx_qS 0 rfl (by kernel_rfl) (y_load1o (v := .func (.func 65) #[] #[ptr b3, ptr b2, ptr b4, ptr b5]) rfl (fun w' hw' => cell0 ((hw'.fr (w0 := wz) (S := adK b4 bm st) MI.m).keepS hC.n5 hC.h5) rfl)) rfl (fun _ _ _ h => h) (fun _ h => h.subl SB.s SB.s) ?_; refine tx_p 1 rfl (by kernel_rfl) (y_move rfl) rfl (fun _ _ _ h => h) (fun _ h => h.subl SB.s SB.s) ?_; refine tx_p 3 rfl (by kernel_rfl) (y_move rfl) rfl (fun _ _ _ h => h) (fun _ h => h.subl SB.s SB.s) ?_; refine tx_p 6 rfl (by kernel_rfl) (y_move rfl) rfl (fun _ _ _ h => h) (fun _ h => h.subl SB.s SB.s) ?_; refine tx_p 7 rfl (by kernel_rfl) (y_add rfl rfl (by omega)) rfl (fun _ _ _ h => h) (fun _ h => h.subl SB.s SB.s) ?_; refine tx_p 8 rfl (by kernel_rfl) (y_move rfl) rfl (fun _ _ _ h => h) (fun _ h => h.subl SB.s SB.s) ?_; refine tx_p 9 rfl (by kernel_rfl) (y_sub rfl rfl (by omega)) rfl (fun _ _ _ h => h) (fun _ h => h.subl SB.s SB.s) ?_
             all_goals (
              refine tx_pair 2 4 (by kernel_rfl) ?_ ?_
              rotate_left
              focus (
               (refine to_e rfl rfl (e_bslice rfl (by (repeat (first | exact .nil | apply PV.one rfl rfl)); done) rfl rfl) (.inr ⟨fun _ _ h => h.subl SB.s SB.s, fun _ h => h⟩) (fun b45 _ => ?_))
               all_goals refine tx_single 2 (by kernel_rfl) (to_e rfl rfl (e_callV rfl (.cons rfl .nil) (fun w' _ => clone_nil w')) (.inr ⟨fun _ _ h => h.subl SB.s SB.s, fun _ h => h⟩) (fun _ _ => ?_)); (refine tx_single 5 (by kernel_rfl) (to_e rfl rfl (e_append_nil rfl rfl rfl (fun w' hw' => RdI.own0 (xs := [_]) hw' (by repeat constructor)) (fun u hu => by obtain ⟨_, _, rfl⟩ := List.mem_map.1 hu; rfl) Nat.zero_lt_one (Nat.le_of_ble_eq_true rfl) rfl) (.inr ⟨fun _ _ h => h.subl SB.s SB.s, fun _ h => h⟩) (fun r5 hr5 => ?_)))
               all_goals ((refine tx_single 10 (by kernel_rfl) (to_e rfl rfl (e_callQW (val := fun _ : adSt => .tuple #[]) (p := fun st' w2 => AdP d b4 bm w2 st' ((xss ++ adX (okD d) d.fs.length m [] a k) ++ addF (okD d) d.fs.length m ([] ++ [((a + k : Nat) : Int)]) (a + k + 1))) (adH b4 bm st) (Hn := fun st' => adH b4 bm st') [(r5.1, _), (b45, _)] rfl rfl (.cons rfl (.cons rfl (.cons rfl .nil))) (fun _ h => h) (fun w' hw' => addR ih hw' MI.m hC hP ⟨r5.2.2, by simp, by simpa using hr5.2⟩ (by simp) (by simpa using hr5.1) rfl (by omega) (by first | omega | (simp; omega)) (by omega) hul2)) (.inr ⟨fun _ _ h => h.subl SB.s SB.s, fun _ h => h⟩) (fun y hy => ?_))))
               all_goals refine tx_done (by kernel_rfl) ?_)
              rotate_right
              focus (
               (refine to_e rfl rfl (e_callV rfl (.cons rfl .nil) (fun w' _ => clone_nil w')) (.inr ⟨fun _ _ h => h.subl SB.s SB.s, fun _ h => h⟩) (fun _ _ => ?_))
               all_goals (refine tx_single 4 (by kernel_rfl) (to_e rfl rfl (e_bslice rfl (by (repeat (first | exact .nil | apply PV.one rfl rfl)); done) rfl rfl) (.inr ⟨fun _ _ h => h.subl SB.s SB.s, fun _ h => h⟩) (fun b45 _ => ?_)))
               all_goals (refine tx_single 5 (by kernel_rfl) (to_e rfl rfl (e_append_nil rfl rfl rfl (fun w' hw' => RdI.own0 (xs := [_]) hw' (by repeat constructor)) (fun u hu => by obtain ⟨_, _, rfl⟩ := List.mem_map.1 hu; rfl) Nat.zero_lt_one (Nat.le_of_ble_eq_true rfl) rfl) (.inr ⟨fun _ _ h => h.subl SB.s SB.s, fun _ h => h⟩) (fun r5 hr5 => ?_)))
               all_goals ((refine tx_single 10 (by kernel_rfl) (to_e rfl rfl (e_callQW (val := fun _ : adSt => .tuple #[]) (p := fun st' w2 => AdP d b4 bm w2 st' ((xss ++ adX (okD d) d.fs.length m [] a k) ++ addF (okD d) d.fs.length m ([] ++ [((a + k : Nat) : Int)]) (a + k + 1))) (adH b4 bm st) (Hn := fun st' => adH b4 bm st') [(r5.1, _), (b45, _)] rfl rfl (.cons rfl (.cons rfl (.cons rfl .nil))) (fun _ h => h) (fun w' hw' => addR ih hw' MI.m hC hP ⟨r5.2.2, by simp, by simpa using hr5.2⟩ (by simp) (by simpa using hr5.1) rfl (by omega) (by first | omega | (simp; omega)) (by omega) hul2)) (.inr ⟨fun _ _ h => h.subl SB.s SB.s, fun _ h => h⟩) (fun y hy => ?_))))
               all_goals refine tx_done (by kernel_rfl) ?_))
             all_goals ((refine hK9 ?_; try (clear hK9; clear K9)))
             all_goals refine tc_region ?_; refine tl_q (y_move rfl) rfl ?_; refine tl_q (y_add rfl rfl (by omega)) rfl ?_; refine tl_q (y_assign rfl) rfl ?_; refine tl_nil ?_
             all_goals (
              obtain ⟨st2, w1, w2⟩ := y
              obtain ⟨hy1, ⟨hy2, hy3⟩, hy4⟩ := hy
              dsimp only at hy1 hy2 hy3 hy4 ⊢
              have hfz : Fr (adK b4 bm st) wz w2 := (hy1.fr (w0 := wz) (S := adK b4 bm st) MI.m).trans hy2 (fun x hx => .inl hx)
              have hsz : wz.heap.size ≤ w1.heap.size := (hy1.fr (w0 := wz) (S := adK b4 bm st) MI.m).size
              have hS : ∀ b ∈ adK b4 bm st2, b ∈ adK b4 bm st ∨ wz.heap.size ≤ b := fun b hb => by
                rcases hy3.own b hb with g | g
                · exact .inl g
                · exact .inr (by omega)
              exact tk_round (k + 1, st2, w2) ⟨.inr (by dsimp only; omega), hC.step hfz hS, by dsimp only; rw [adX_succ, ← List.append_assoc]; exact hy4⟩ (by dsimp only; omega) (.cons rfl (.cons rfl (.cons rfl (.cons rfl (.cons rfl (.cons rfl (.cons (by dsimp only; rw [show ((a + (k + 1) : Nat) : Int) = ((a + k : Nat) : Int) + 1 by omega]; rfl) .nil))))))) (fun _ h => h.subl SB.s SB.s))
           · try simp only [qn1, qn2, qn3, qn4, qn5, qn6, qn7, qn8] at hc
             all_goals refine tc_exit ?_; refine tk_end rfl rfl .nil ?_
             all_goals (
              have hke : k = d.fs.length - m - a := by omega
              subst hke
              rw [adX_end]
              refine fun w' hw' => ⟨st, rfl, hw'.fr (w0 := w) (S := adK b4 bm st0) MI.m, hP.at (hw'.fr (w0 := wz) (S := adK b4 bm st) MI.m), hw'.knS MI.m⟩))))
  · refine cnxS (vs := [_, _, _, _, _, _, _]) (S := adK b4 bm st0) (adH b4 bm st0) Tryz.func65 rfl rfl ⟨hK.kn, hK.nd, hK.memB⟩ ?_
    all_goals refine tc_seq fun K1 hK1 => ?_; refine tc_seq fun K2 hK2 => ?_; refine tc_region ?_; refine tl_q (y_move rfl) rfl ?_; refine tl_q (y_eql rfl rfl) rfl ?_; refine tl_nil ?_; ((refine hK2 ?_; try (clear hK2; clear K2)))
    all_goals (
     refine tc_cond rfl (fun hc => ?_) (fun hc => ?_)
     · try simp only [qn1, qn2, qn3, qn4, qn5, qn6, qn7, qn8] at hc
       all_goals ((exfalso; omega))
     · try simp only [qn1, qn2, qn3, qn4, qn5, qn6, qn7, qn8] at hc
       all_goals refine tc_skip ?_; ((refine hK1 ?_; try (clear hK1; clear K1)))
       all_goals refine tc_seq fun K6 hK6 => ?_; refine tc_region ?_; refine tl_q (y_move rfl) rfl ?_; refine tl_q (y_assign rfl) rfl ?_; refine tl_nil ?_; ((refine hK6 ?_; try (clear hK6; clear K6)))
       all_goals refine tc_block ?_
       all_goals (
        refine tc_loop (fun x : Nat × adSt × World => (x.1 = 0 ∨ a + x.1 + m ≤ d.fs.length) ∧ AdC d wv mv vv lv (.slice fad d.fs.length fcp) b2 b3 b4 b5 bw bm x.2.2 (adK b4 bm x.2.1) ∧ AdP d b4 bm x.2.2 x.2.1 (xss ++ adX (okD d) d.fs.length m l a x.1) ∧ OKS 1 inE x.2.2 (adK b4 bm x.2.1) (.slice (some ⟨lb, 0, none⟩) l.length lcap) l) (fun x => [(0, .slice (some ⟨lb, 0, none⟩) l.length lcap), (2, vi (m + 1 : Nat)), (3, ptr b3), (4, ptr b2), (5, ptr b4), (6, ptr b5), (12, vi (a + x.1 : Nat))]) (fun x => [(x.2.2, adK b4 bm x.2.1), (w, adK b4 bm st0)]) (fun x => adH b4 bm x.2.1) (fun x => 100 - x.1) ?_ ?_
        · exact tk_lay (adH b4 bm st0) SB.s fun wl hl => tk_start (0, st0, wl) ⟨.inl rfl, hC0.step (hl.fr (w0 := w) (S := adK b4 bm st0) MI.m) (fun b hb => .inl hb), by rw [show adX (okD d) d.fs.length m l a 0 = [] from rfl, List.append_nil]; exact hP0.at (hl.fr (w0 := w) (S := adK b4 bm st0) MI.m), hL0.step (hl.fr (w0 := w) (S := adK b4 bm st0) MI.m) (fun b hb => .inl hb)⟩ (.cons rfl (.cons rfl (.cons rfl (.cons rfl (.cons rfl (.cons rfl (.cons rfl .nil))))))) (fun _ h => h.subl SB.s SB.s)
        · rintro ⟨k, st, wz⟩ ⟨hk, hC, hP, hL⟩
          dsimp only at hk hC hP hL ⊢
          all_goals refine tc_seq fun K7 hK7 => ?_; refine tc_seq fun K8 hK8 => ?_; refine tc_region ?_; refine tl_q (y_move rfl) rfl ?_; refine tl_q (y_field rfl) rfl ?_; refine tl_q (y_load1o (v := fnV 38) rfl (fun w' hw' => cell0 ((hw'.fr (w0 := wz) (S := adK b4 bm st) MI.m).keepS hC.n2 hC.h2) rfl)) rfl ?_; refine tl_q (y_load1o (v := ptr bw) rfl (fun w' hw' => cell0 ((hw'.fr (w0 := wz) (S := adK b4 bm st) MI.m).keepS hC.n3 hC.h3) rfl)) rfl ?_; refine tl_e (e_callVf rfl rfl (.cons rfl .nil) (fun w' hw' => dfacts_c d _ _ _ _ _ d.fs.length ⟨_, _, rfl⟩ bw bm w' ((hw'.fr (w0 := wz) (S := adK b4 bm st) MI.m).keepS hC.nw hC.hw))) rfl (fun _ _ => ?_); refine tl_q (y_move rfl) rfl ?_; refine tl_q (y_sub rfl rfl (by omega)) rfl ?_; refine tl_q (y_leq rfl rfl) rfl ?_; refine tl_nil ?_; ((refine hK8 ?_; try (clear hK8; clear K8)))
          all_goals (
           refine tc_cond rfl (fun hc => ?_) (fun hc => ?_)
           · try simp only [qn1, qn2, qn3, qn4, qn5, qn6, qn7, qn8] at hc
             all_goals refine tc_skip ?_; ((refine hK7 ?_; try (clear hK7; clear K7)))
             all_goals refine tc_seq fun K9 hK9 => ?_; refine tc_block ?_; ((have hul2 : (xss ++ adX (okD d) d.fs.length m l a k ++ addF (okD d) d.fs.length m (l ++ [((a + k : Nat) : Int)]) (a + k + 1)).length ≤ 90000 := (by rw [List.append_assoc, ← adX_succ, List.length_append]; rw [adX_end, List.length_append] at hul; have hle := adX_le (okD d) d.fs.length m l a (k + 1) (d.fs.length - m - a - (k + 1)); rw [show k + 1 + (d.fs.length - m - a - (k + 1)) = d.fs.length - m - a by omega] at hle; omega)))
             all_goals refine tc_drawS ([]) (by kernel_rfl) ?_; refine tx_qS 0 rfl (by kernel_rfl) (y_load1o (v := .func (.func 65) #[] #[ptr b3, ptr b2, ptr b4, ptr b5]) rfl (fun w' hw' => cell0 ((hw'.fr (w0 := wz) (S := adK b4 bm st) MI.m).keepS hC.n5 hC.h5) rfl)) rfl (fun _ _ _ h => h) (fun _ h => h.subl SB.s SB.s) ?_; refine tx_p 1 rfl (by kernel_rfl) (y_move rfl) rfl (fun _ _ _ h => h) (fun _ h => h.subl SB.s SB.s) ?_; refine tx_p 3 rfl (by kernel_rfl) (y_move rfl) rfl (fun _ _ _ h => h) (fun _ h => h.subl SB.s SB.s) ?_; refine tx_p 6 rfl (by kernel_rfl) (y_move rfl) rfl (fun _ _ _ h => h) (fun _ h => h.subl SB.s SB.s) ?_; refine tx_p 7 rfl (by kernel_rfl) (y_add rfl rfl (by omega)) rfl (fun _ _ _ h => h) (fun _ h => h.subl SB.s SB.s) ?_; refine tx_p 8 rfl (by kernel_rfl) (y_move rfl) rfl (fun _ _ _ h => h) (fun _ h => h.subl SB.s SB.s) ?_; refine tx_p 9 rfl (by kernel_rfl) (y_sub rfl rfl (by omega)) rfl (fun _ _ _ h => h) (fun _ h => h.subl SB.s SB.s) ?_
             all_goals (
              refine tx_pair 2 4 (by kernel_rfl) ?_ ?_
              rotate_left
              focus (
               (refine to_e rfl rfl (e_bslice rfl (by (repeat (first | exact .nil | apply PV.one rfl rfl)); done) rfl rfl) (.inr ⟨fun _ _ h => h.subl SB.s SB.s, fun _ h => h⟩) (fun b45 _ => ?_))
               all_goals refine tx_single 2 (by kernel_rfl) (to_e rfl rfl (e_callB rfl (.cons rfl .nil) (fun w' hw' => clone_own lb lcap l (by omega) w' (hL.rd' (hw'.fr (w0 := wz) (S := adK b4 bm st) MI.m)).toI)) (.inr ⟨fun _ _ h => h.subl SB.s SB.s, fun _ h => h⟩) (fun r2 hr2 => ?_)); (refine tx_single 5 (by kernel_rfl) (to_e rfl rfl (e_append_own (old := l.map vi) (junk := r2.2.2) rfl rfl rfl (by repeat constructor) (by simp) (by omega) hr2.1 (fun w' hw' => RdI.own0 (xs := [_]) hw' (by repeat constructor)) (fun u hu => by obtain ⟨_, _, rfl⟩ := List.mem_map.1 hu; rfl) (by simp only [List.length_cons, List.length_nil]; omega) rfl) (.inr ⟨fun _ _ h => h.subl SB.s SB.s, fun _ h => h⟩) (fun r5 hr5 => ?_)))
               all_goals ((refine tx_single 10 (by kernel_rfl) (to_e rfl rfl (e_callQW (val := fun _ : adSt => .tuple #[]) (p := fun st' w2 => AdP d b4 bm w2 st' ((xss ++ adX (okD d) d.fs.length m l a k) ++ addF (okD d) d.fs.length m (l ++ [((a + k : Nat) : Int)]) (a + k + 1))) (adH b4 bm st) (Hn := fun st' => adH b4 bm st') [(r5.1, _), (b45, _)] rfl rfl (.cons rfl (.cons rfl (.cons rfl .nil))) (fun _ h => h) (fun w' hw' => addR ih hw' MI.m hC hP ⟨r5.2.2, by simp, by simpa using hr5.2⟩ (by simp) (by simpa using hr5.1) rfl (by omega) (by first | omega | (simp; omega)) (by omega) hul2)) (.inr ⟨fun _ _ h => h.subl SB.s SB.s, fun _ h => h⟩) (fun y hy => ?_))))
               all_goals refine tx_done (by kernel_rfl) ?_)
              rotate_right
              focus (
               (refine to_e rfl rfl (e_callB rfl (.cons rfl .nil) (fun w' hw' => clone_own lb lcap l (by omega) w' (hL.rd' (hw'.fr (w0 := wz) (S := adK b4 bm st) MI.m)).toI)) (.inr ⟨fun _ _ h => h.subl SB.s SB.s, fun _ h => h⟩) (fun r2 hr2 => ?_))
               all_goals (refine tx_single 4 (by kernel_rfl) (to_e rfl rfl (e_bslice rfl (by (repeat (first | exact .nil | apply PV.one rfl rfl)); done) rfl rfl) (.inr ⟨fun _ _ h => h.subl SB.s SB.s, fun _ h => h⟩) (fun b45 _ => ?_)))
               all_goals (refine tx_single 5 (by kernel_rfl) (to_e rfl rfl (e_append_own (old := l.map vi) (junk := r2.2.2) rfl rfl rfl (by repeat constructor) (by simp) (by omega) hr2.1 (fun w' hw' => RdI.own0 (xs := [_]) hw' (by repeat constructor)) (fun u hu => by obtain ⟨_, _, rfl⟩ := List.mem_map.1 hu; rfl) (by simp only [List.length_cons, List.length_nil]; omega) rfl) (.inr ⟨fun _ _ h => h.subl SB.s SB.s, fun _ h => h⟩) (fun r5 hr5 => ?_)))
               all_goals ((refine tx_single 10 (by kernel_rfl) (to_e rfl rfl (e_callQW (val := fun _ : adSt => .tuple #[]) (p := fun st' w2 => AdP d b4 bm w2 st' ((xss ++ adX (okD d) d.fs.length m l a k) ++ addF (okD d) d.fs.length m (l ++ [((a + k : Nat) : Int)]) (a + k + 1))) (adH b4 bm st) (Hn := fun st' => adH b4 bm st') [(r5.1, _), (b45, _)] rfl rfl (.cons rfl (.cons rfl (.cons rfl .nil))) (fun _ h => h) (fun w' hw' => addR ih hw' MI.m hC hP ⟨r5.2.2, by simp, by simpa using hr5.2⟩ (by simp) (by simpa using hr5.1) rfl (by omega) (by first | omega | (simp; omega)) (by omega) hul2)) (.inr ⟨fun _ _ h => h.subl SB.s SB.s, fun _ h => h⟩) (fun y hy => ?_))))
               all_goals refine tx_done (by kernel_rfl) ?_))
             all_goals ((refine hK9 ?_; try (clear hK9; clear K9)))
             all_goals refine tc_region ?_; refine tl_q (y_move rfl) rfl ?_; refine tl_q (y_add rfl rfl (by omega)) rfl ?_; refine tl_q (y_assign rfl) rfl ?_; refine tl_nil ?_
             all_goals (
              obtain ⟨st2, w1, w2⟩ := y
              obtain ⟨hy1, ⟨hy2, hy3⟩, hy4⟩ := hy
              dsimp only at hy1 hy2 hy3 hy4 ⊢
              have hfz : Fr (adK b4 bm st) wz w2 := (hy1.fr (w0 := wz) (S := adK b4 bm st) MI.m).trans hy2 (fun x hx => .inl hx)
              have hsz : wz.heap.size ≤ w1.heap.size := (hy1.fr (w0 := wz) (S := adK b4 bm st) MI.m).size
              have hS : ∀ b ∈ adK b4 bm st2, b ∈ adK b4 bm st ∨ wz.heap.size ≤ b := fun b hb => by
                rcases hy3.own b hb with g | g
                · exact .inl g
                · exact .inr (by omega)
              exact tk_round (k + 1, st2, w2) ⟨.inr (by dsimp only; omega), hC.step hfz hS, by dsimp only; rw [adX_succ, ← List.append_assoc]; exact hy4, hL.step hfz hS⟩ (by dsimp only; omega) (.cons rfl (.cons rfl (.cons rfl (.cons rfl (.cons rfl (.cons rfl (.cons (by dsimp only; rw [show ((a + (k + 1) : Nat) : Int) = ((a + k : Nat) : Int) + 1 by omega]; rfl) .nil))))))) (fun _ h => h.subl SB.s SB.s))
           · try simp only [qn1, qn2, qn3, qn4, qn5, qn6, qn7, qn8] at hc
             all_goals refine tc_exit ?_; refine tk_end rfl rfl .nil ?_
             all_goals (
              have hke : k = d.fs.length - m - a := by omega
              subst hke
              rw [adX_end]
              refine fun w' hw' => ⟨st, rfl, hw'.fr (w0 := w) (S := adK b4 bm st0) MI.m, hP.at (hw'.fr (w0 := wz) (S := adK b4 bm st) MI.m), hw'.knS MI.m⟩))))
end Go.Sp
/-
  Package dispute: the shortest lists; Leave.
-/
namespace Go.Sp
open Go Go.Proofs
theorem add_c (d : Dsp) (hv : VDsp d) (wv mv vv lv : Value) (fad : Option Addr) (fcp : Nat) (b2 b3 b4 b5 bw bm : Nat) : ∀ m, AddC d wv mv vv lv (.slice fad d.fs.length fcp) b2 b3 b4 b5 bw bm m
  | 0 => add0_c d hv wv mv vv lv _ b2 b3 b4 b5 bw bm
  | m + 1 => addS_c d hv wv mv vv lv fad fcp b2 b3 b4 b5 bw bm m (add_c d hv wv mv vv lv fad fcp b2 b3 b4 b5 bw bm m)
theorem shoF_stay {P : List Int → Bool} {n k : Nat} (h : (shoF P n k).length ≠ 0) : ∀ j, shoF P n (k + j) = shoF P n k
  | 0 => rfl
  | j + 1 => by
    have ih := shoF_stay h j
    rw [show k + (j + 1) = (k + j) + 1 from rfl, shoF, if_neg (by rw [ih]; exact h), ih]
theorem shoF_next {P : List Int → Bool} {n k : Nat} (h : (shoF P n k).length = 0) : shoF P n (k + 1) = shoF P n k ++ addF P n k [] 0 := by
  rw [shoF, if_pos h, List.eq_nil_of_length_eq_zero h, List.nil_append]
theorem pow6_le {k : Nat} (h : k ≤ 6) : 6 ^ k ≤ 46656 := Nat.le_trans (Nat.pow_le_pow_right (by decide) h) (by decide)
theorem addTop {d : Dsp} (hv : VDsp d) {wv mv vv lv : Value} {fad : Option Addr} {fcp : Nat} {b2 b3 b4 b5 bw bm : Nat} {bs : List (World × List Nat)} {w' wz : World} {st : adSt} {k : Nat} (hw' : HG bs (adH b4 bm st) w') (hb : (wz, adK b4 bm st) ∈ bs) (hC : AdC d wv mv vv lv (.slice fad d.fs.length fcp) b2 b3 b4 b5 bw bm wz (adK b4 bm st)) (hP : AdP d b4 bm wz st (shoF (okD d) d.fs.length k)) (h0 : (shoF (okD d) d.fs.length k).length = 0) (hk : k ≤ d.fs.length) :
    CnX Tryz.prog 65 (#[] ++ [.slice none 0 0, vi 0, vi k].toArray ++ #[ptr b3, ptr b2, ptr b4, ptr b5]) w' (adK b4 bm st) (fun _ : adSt => .tuple #[])
      (fun st' w2 => AdP d b4 bm w2 st' (shoF (okD d) d.fs.length (k + 1)) ∧ KnS (adH b4 bm st') (adK b4 bm st) w' w2) := by
  have hf6 := hv.f
  have hf := hw'.fr hb
  have hln := addF_len (okD d) d.fs.length hf6 k [] 0
  have hp6 := pow6_le (k := k) (by omega)
  have h := add_c d hv wv mv vv lv fad fcp b2 b3 b4 b5 bw bm k w' st _ [] none 0 (hC.step hf (fun b hb => .inl hb)) (hP.at hf) ⟨hw'.heap, hw'.nodup, fun b hb => .inl hb⟩ ⟨RdS.nil 1 inE w' 0, fun h => absurd h (Nat.lt_irrefl 0)⟩ rfl (by simp; omega) (by omega) (by rw [List.length_append, h0]; omega)
  rw [← shoF_next h0] at h
  have e : (#[] ++ [Value.slice none 0 0, vi 0, vi k].toArray ++ #[ptr b3, ptr b2, ptr b4, ptr b5] : Array Value) = #[ouV ([] : List Int).length none, vi ((0 : Nat) : Int), vi k, ptr b3, ptr b2, ptr b4, ptr b5] := by simp [ouA]
  rw [e]
  exact h
set_option maxHeartbeats 2000000 in
theorem dshortest_c (d : Dsp) (hv : VDsp d) (wv mv vv lv : Value) (fad : Option Addr) (fcp : Nat) (w : World) (hr : RdD w d wv mv vv lv (.slice fad d.fs.length fcp)) (bw bm : Nat) (es : Array MapEntry) (ck : Nat)
    (hbw : w.heap[bw]? = some (wkP d wv mv vv lv (.slice fad d.fs.length fcp) bm)) (hbm : w.heap[bm]? = some (.map es ck)) (hg : GoodM 6 (mnM d.t) es) :
    CnX Tryz.prog 41 #[.agg #[fnV 38, fnV 39], ptr bw] w [bm] (fun y : Option Addr × Nat => slV (shoF (okD d) d.fs.length (d.fs.length + 1)).length y) (fun y w' => RdLL 1 inE w' (slV (shoF (okD d) d.fs.length (d.fs.length + 1)).length y) (shoF (okD d) d.fs.length (d.fs.length + 1))) := by
  have hne : bw ≠ bm := by rintro rfl; rw [hbw] at hbm; simp at hbm
  have hf6 := hv.f
  have hmp : ∀ x ∈ [bm], ∃ es ck, w.heap[x]? = some (.map es ck) := fun x hx => by
    obtain rfl : x = bm := by simpa using hx
    exact ⟨es, ck, hbm⟩
  refine cnxS (vs := [_, _]) (S := [bm]) [(bm, .map es ck)] Tryz.func41 rfl rfl ⟨by simp [hbm], by simp, by simp⟩ ?_
  all_goals refine tc_seq fun K1 hK1 => ?_; refine tc_region ?_; refine tl_e (e_box rfl rfl rfl) rfl (fun b2 _ => ?_); refine tl_e (e_box rfl rfl rfl) rfl (fun b3 _ => ?_); refine tl_e (e_alloc1 rfl) rfl (fun b4 _ => ?_); refine tl_nil ?_; ((refine hK1 ?_; try (clear hK1; clear K1)))
  all_goals refine tc_scope ?_; refine tc_seq fun K2 hK2 => ?_; refine tc_region ?_; refine tl_e (e_alloc1 rfl) rfl (fun b5 _ => ?_); refine tl_nil ?_; ((refine hK2 ?_; try (clear hK2; clear K2)))
  all_goals refine tc_seq fun K3 hK3 => ?_; refine tc_region ?_; refine tl_q (y_fn .nil (.cons rfl (.cons rfl (.cons rfl (.cons rfl .nil))))) rfl ?_; refine tl_e (e_store1 rfl rfl (by repeat constructor) (by repeat constructor) (by rfl) (by rfl)) rfl (fun _ _ => ?_); refine tl_nil ?_; ((refine hK3 ?_; try (clear hK3; clear K3)))
  all_goals refine tc_seq fun K4 hK4 => ?_; refine tc_label ?_; ((refine hK4 ?_; try (clear hK4; clear K4)))
  all_goals refine tc_seq fun K5 hK5 => ?_; refine tc_seq fun K6 hK6 => ?_; refine tc_region ?_; refine tl_q (y_field rfl) rfl ?_; refine tl_q (y_load1 rfl (by repeat constructor) (by rfl)) rfl ?_; refine tl_q (y_load1 rfl (by repeat constructor) (by rfl)) rfl ?_; refine tl_e (e_callVf rfl rfl (.cons rfl .nil) (fun w' hw' => dfacts_c d wv mv vv lv _ d.fs.length ⟨_, _, rfl⟩ bw bm w' ((hw'.fr (w0 := w) (S := [bm]) MI.m).keepS (by simpa using hne) hbw))) rfl (fun _ _ => ?_); refine tl_q (y_add rfl rfl (by omega)) rfl ?_; refine tl_q (y_move rfl) rfl ?_; refine tl_nil ?_; ((refine hK6 ?_; try (clear hK6; clear K6)))
  all_goals refine tc_block ?_
  all_goals (
   refine tc_loop (fun x : Nat × adSt × World => (x.1 ≤ d.fs.length + 1) ∧ AdC d wv mv vv lv (.slice fad d.fs.length fcp) b2 b3 b4 b5 bw bm x.2.2 (adK b4 bm x.2.1) ∧ AdP d b4 bm x.2.2 x.2.1 (shoF (okD d) d.fs.length x.1) ∧ (shoF (okD d) d.fs.length x.1).length = 0) (fun x => [(4, ptr b4), (5, ptr b5), (12, vi ((d.fs.length : Int) + 1)), (13, vi x.1)]) (fun x => [(x.2.2, adK b4 bm x.2.1), (w, [bm])]) (fun x => adH b4 bm x.2.1) (fun x => 100 - x.1) ?_ ?_
   · refine tk_lay [(b4, .cells #[.slice none 0 0] 28 (0, 0)), (bm, .map es ck)] SB.s fun wl hl => ?_
     have hnd := hl.nodup
     have hb4 : w.heap.size ≤ b4 := (hl.own _ (HM.mem (b := b4) (by repeat constructor)) (w, [bm]) MI.m).resolve_left (by simpa using nd_ne hnd (a := b4) (b := bm) (by repeat constructor))
     have hfw := hl.fr (w0 := w) (S := [bm]) MI.m
     have hbwl := lt_ofB hbw
     have n2 : b2 ∉ [b4, bm] := by simpa using ⟨fun e => nd_ne hnd (a := b4) (b := b2) (by repeat constructor) e.symm, nd_ne hnd (a := b2) (b := bm) (by repeat constructor)⟩
     have n3 : b3 ∉ [b4, bm] := by simpa using ⟨fun e => nd_ne hnd (a := b4) (b := b3) (by repeat constructor) e.symm, nd_ne hnd (a := b3) (b := bm) (by repeat constructor)⟩
     have n5 : b5 ∉ [b4, bm] := by simpa using ⟨nd_ne hnd (a := b5) (b := b4) (by repeat constructor), nd_ne hnd (a := b5) (b := bm) (by repeat constructor)⟩
     have nw : bw ∉ [b4, bm] := by simpa using ⟨fun e => by omega, hne⟩
     have hk0 : adK b4 bm ([], none, es, ck) = [b4, bm] := by
       show b4 :: bm :: List.map Prod.fst (slE 27 svE [] none) = _
       rw [slE_none]; rfl
     have hC : AdC d wv mv vv lv (.slice fad d.fs.length fcp) b2 b3 b4 b5 bw bm wl [b4, bm] := ⟨hl.at (by repeat constructor), hl.at (by repeat constructor), hl.at (by repeat constructor), hfw.keepS (by simpa using hne) hbw, n2, n3, n5, nw, fun w' f => hr.frM (hfw.trans f (fun x hx => by
       rcases (by simpa using hx : x = b4 ∨ x = bm) with rfl | rfl
       · exact .inr hb4
       · exact .inl (by simp))) hmp⟩
     exact tk_start (0, ([], none, es, ck), wl) ⟨by dsimp only; omega, by dsimp only; rw [hk0]; exact hC, ⟨rfl, hg, OKV.nil⟩, rfl⟩ (.cons rfl (.cons rfl (.cons rfl (.cons rfl .nil)))) (fun _ h => by dsimp only; rw [hk0]; show HG _ ((b4, _) :: (bm, _) :: slE 27 svE [] none) _; rw [slE_none]; exact h.subl SB.s SB.s)
   · rintro ⟨k, st, wz⟩ ⟨hk, hC, hP, h0⟩
     dsimp only at hk hC hP h0 ⊢
     all_goals refine tc_seq fun K7 hK7 => ?_; refine tc_region ?_; refine tl_q (y_lss rfl rfl) rfl ?_; refine tl_nil ?_; ((refine hK7 ?_; try (clear hK7; clear K7)))
     all_goals refine tc_seq fun K8 hK8 => ?_
     all_goals (
      refine tc_cond rfl (fun hc => ?_) (fun hc => ?_)
      · try simp only [qn1, qn2, qn3, qn4, qn5, qn6, qn7, qn8] at hc
        all_goals refine tc_skip ?_; ((refine hK8 ?_; try (clear hK8; clear K8)))
        all_goals refine tc_seq fun K9 hK9 => ?_; refine tc_block ?_; refine tc_seq fun K10 hK10 => ?_; refine tc_region ?_; refine tl_q (y_move rfl) rfl ?_; refine tl_q (y_assign rfl) rfl ?_; refine tl_nil ?_; ((refine hK10 ?_; try (clear hK10; clear K10)))
        all_goals refine tc_seq fun K11 hK11 => ?_; refine tc_region ?_; refine tl_q (y_load1o (v := .func (.func 65) #[] #[ptr b3, ptr b2, ptr b4, ptr b5]) rfl (fun w' hw' => cell0 ((hw'.fr (w0 := wz) (S := adK b4 bm st) MI.m).keepS hC.n5 hC.h5) rfl)) rfl ?_; refine tl_q (y_move rfl) rfl ?_; refine tl_e (e_callQW (val := fun _ : adSt => .tuple #[]) (p := fun st' w2 => AdP d b4 bm w2 st' (shoF (okD d) d.fs.length (k + 1))) (adH b4 bm st) (Hn := fun st' => adH b4 bm st') [] rfl rfl (.cons rfl (.cons rfl (.cons rfl .nil))) (fun _ h => h) (fun w' hw' => addTop hv hw' MI.m hC hP h0 (by omega))) rfl (fun y hy => ?_); refine tl_nil ?_; ((refine hK11 ?_; try (clear hK11; clear K11)))
        all_goals refine tc_seq fun K12 hK12 => ?_; ((obtain ⟨st2, w1, w2⟩ := y; obtain ⟨hy1, ⟨hy2, hy3⟩, hy4⟩ := hy; dsimp only at hy1 hy2 hy3 hy4 ⊢))
        all_goals (have hfz : Fr (adK b4 bm st) wz w2 := (hy1.fr (w0 := wz) (S := adK b4 bm st) MI.m).trans hy2 (fun x hx => .inl hx))
        all_goals (have hsz : wz.heap.size ≤ w1.heap.size := (hy1.fr (w0 := wz) (S := adK b4 bm st) MI.m).size)
        all_goals (have hS : ∀ b ∈ adK b4 bm st2, b ∈ adK b4 bm st ∨ wz.heap.size ≤ b := fun b hb => (hy3.own b hb).elim .inl (fun g => .inr (by omega)))
        all_goals (have hux := hy4.ov.1)
        all_goals refine tc_region ?_; refine tl_q (y_load1 rfl (by repeat constructor) (by rfl)) rfl ?_; refine tl_q (y_len rfl) rfl ?_; refine tl_q (y_gtr rfl rfl) rfl ?_; refine tl_nil ?_; ((refine hK12 ?_; try (clear hK12; clear K12)))
        all_goals (
         refine tc_cond rfl (fun hc => ?_) (fun hc => ?_)
         · try simp only [qn1, qn2, qn3, qn4, qn5, qn6, qn7, qn8] at hc
           all_goals refine tc_exit ?_; ((refine hK5 ?_; try (clear hK5; clear K5)))
           all_goals refine tc_seq fun K13 hK13 => ?_; refine tc_region ?_; refine tl_q (y_load1 rfl (by repeat constructor) (by rfl)) rfl ?_; refine tl_e (e_store1 rfl rfl (by repeat constructor) (by repeat constructor) (by rfl) (by rfl)) rfl (fun _ _ => ?_); refine tl_nil ?_; ((refine hK13 ?_; try (clear hK13; clear K13)))
           all_goals refine tc_ret ?_; (repeat (refine tk_scope_ret ?_))
           all_goals (refine tk_ret rfl rfl (.cons (.one inferInstance rfl (by repeat constructor) (by rfl)) .nil) ?_)
           all_goals (
            first
            | (have hke : k = d.fs.length + 1 := by omega
               subst hke
               have hux := hP.ov.1
               refine fun w' hw' => ⟨ouA st.2.1, by rw [← hux]; rfl, hw'.fr (w0 := w) (S := [bm]) MI.m, st.1, ?_, hux, fun j hj => (hP.ov.2 j hj).rd' (hw'.fr (w0 := wz) (S := adK b4 bm st) MI.m)⟩
               have h1 := RdS.ofO svE_len hP.ok hw' (by repeat constructor)
               rw [hux] at h1
               exact h1)
            | (have hst := shoF_stay (P := okD d) (n := d.fs.length) (k := k + 1) (by omega) (d.fs.length - k)
               rw [show k + 1 + (d.fs.length - k) = d.fs.length + 1 by omega] at hst
               rw [hst]
               refine fun w' hw' => ⟨ouA st2.2.1, by rw [← hux]; rfl, hw'.fr (w0 := w) (S := [bm]) MI.m, st2.1, ?_, hux, fun j hj => (hy4.ov.2 j hj).rd' (hw'.fr (w0 := w2) (S := adK b4 bm st2) MI.m)⟩
               have h1 := RdS.ofO svE_len hy4.ok hw' (by repeat constructor)
               rw [hux] at h1
               exact h1))
         · try simp only [qn1, qn2, qn3, qn4, qn5, qn6, qn7, qn8] at hc
           all_goals refine tc_skip ?_; ((refine hK9 ?_; try (clear hK9; clear K9)))
           all_goals refine tc_region ?_; refine tl_q (y_add rfl rfl (by omega)) rfl ?_; refine tl_q (y_move rfl) rfl ?_; refine tl_nil ?_
           all_goals (
            exact tk_round (k + 1, st2, w2) ⟨by dsimp only; omega, hC.step hfz hS, hy4, by dsimp only; omega⟩ (by dsimp only; omega) (.cons rfl (.cons rfl (.cons rfl (.cons rfl .nil)))) (fun _ h => h.subl SB.s SB.s)))
      · try simp only [qn1, qn2, qn3, qn4, qn5, qn6, qn7, qn8] at hc
        all_goals refine tc_exit ?_; ((refine hK5 ?_; try (clear hK5; clear K5)))
        all_goals refine tc_seq fun K14 hK14 => ?_; refine tc_region ?_; refine tl_q (y_load1 rfl (by repeat constructor) (by rfl)) rfl ?_; refine tl_e (e_store1 rfl rfl (by repeat constructor) (by repeat constructor) (by rfl) (by rfl)) rfl (fun _ _ => ?_); refine tl_nil ?_; ((refine hK14 ?_; try (clear hK14; clear K14)))
        all_goals refine tc_ret ?_; (repeat (refine tk_scope_ret ?_))
        all_goals (refine tk_ret rfl rfl (.cons (.one inferInstance rfl (by repeat constructor) (by rfl)) .nil) ?_)
        all_goals (
         first
         | (have hke : k = d.fs.length + 1 := by omega
            subst hke
            have hux := hP.ov.1
            refine fun w' hw' => ⟨ouA st.2.1, by rw [← hux]; rfl, hw'.fr (w0 := w) (S := [bm]) MI.m, st.1, ?_, hux, fun j hj => (hP.ov.2 j hj).rd' (hw'.fr (w0 := wz) (S := adK b4 bm st) MI.m)⟩
            have h1 := RdS.ofO svE_len hP.ok hw' (by repeat constructor)
            rw [hux] at h1
            exact h1)
         | (have hst := shoF_stay (P := okD d) (n := d.fs.length) (k := k + 1) (by omega) (d.fs.length - k)
            rw [show k + 1 + (d.fs.length - k) = d.fs.length + 1 by omega] at hst
            rw [hst]
            refine fun w' hw' => ⟨ouA st2.2.1, by rw [← hux]; rfl, hw'.fr (w0 := w) (S := [bm]) MI.m, st2.1, ?_, hux, fun j hj => (hy4.ov.2 j hj).rd' (hw'.fr (w0 := w2) (S := adK b4 bm st2) MI.m)⟩
            have h1 := RdS.ofO svE_len hy4.ok hw' (by repeat constructor)
            rw [hux] at h1
            exact h1))))
end Go.Sp
/-
  Package dispute: Leave.
-/
namespace Go.Sp
open Go Go.Proofs
abbrev lfV : Value := .agg #[fnV 38, fnV 39]
theorem head_get {α : Type} {l : List α} {c z : α} (h : l.head? = some c) : 0 < l.length ∧ l.getD 0 z = c := by
  match l, h with
  | x :: l, h => exact ⟨by simp, by simpa using h⟩
theorem clO_rd {d : Dsp} {bs : List (World × List Nat)} {H : List (Nat × Obj)} {w : World} {r : Nat × Nat × List Value} (hw : HG bs H w) (hm : HM r.1 (clO d.fs r.2.2) H) : RdS 6 fcE w (clV d.fs.length r) d.fs := RdS.own fcE_len hw hm
set_option maxHeartbeats 2000000 in
theorem dsmallest_c (d : Dsp) (hv : VDsp d) (h1 : 1 ≤ d.fs.length) (hok : okD (noF d) [] = true) (c : List Int) (hc0 : (shoF (okD d) d.fs.length (d.fs.length + 1)).head? = some c) (wv mv vv lv fv : Value) (w : World) (hr : RdD w d wv mv vv lv fv) :
    CnX Tryz.prog 27 #[lfV, dpV d wv mv vv lv fv] w [] (fun y : Option Addr × Nat => .tuple #[slV c.length y, vi 0]) (fun y w' => RdI w' (slV c.length y) c) := by
  have hr0 := hr
  have o1 := hr.tb.ws.one
  have o2 := hr.tb.ms.one
  have o3 := hr.tb.vs.one
  have o4 := hr.ls.one
  have o5 := hr.fs.one
  obtain ⟨hL0, hLc⟩ := head_get (z := []) hc0
  refine cnx0 (vs := [_, _]) Tryz.func27 rfl rfl ?_
  all_goals refine tc_seq fun K1 hK1 => ?_; refine tc_region ?_; refine tl_e (e_box rfl rfl rfl) rfl (fun b2 _ => ?_); refine tl_e (e_box rfl rfl rfl) rfl (fun b3 _ => ?_); refine tl_q (y_assign rfl) rfl ?_; refine tl_q (y_assign rfl) rfl ?_; refine tl_nil ?_; ((refine hK1 ?_; try (clear hK1; clear K1)))
  all_goals refine tc_seq fun K2 hK2 => ?_; refine tc_region ?_; refine tl_q (y_loadW rfl (by repeat constructor) (by rfl)) rfl ?_; refine tl_e (e_callN rfl (.cons rfl .nil) (fun w' hw' => dfirm_c d hv h1 hok wv mv vv lv fv w' (hr0.fr (hw'.fr (w0 := w) (S := []) MI.m)))) rfl (fun x hx => ?_); refine tl_q (y_move rfl) rfl ?_; refine tl_q (y_extract rfl rfl) rfl ?_; refine tl_q (y_extract rfl rfl) rfl ?_; refine tl_q (y_assign rfl) rfl ?_; refine tl_q (y_assign rfl) rfl ?_; refine tl_nil ?_; ((refine hK2 ?_; try (clear hK2; clear K2)))
  all_goals refine tc_seq fun K3 hK3 => ?_; refine tc_seq fun K4 hK4 => ?_; refine tc_region ?_; refine tl_q (y_move rfl) rfl ?_; refine tl_q (y_neq rfl rfl) rfl ?_; refine tl_nil ?_; ((refine hK4 ?_; try (clear hK4; clear K4)))
  all_goals (
   refine tc_cond rfl (fun hc => ?_) (fun hc => ?_)
   · try simp only [qn1, qn2, qn3, qn4, qn5, qn6, qn7, qn8] at hc
   · try simp only [qn1, qn2, qn3, qn4, qn5, qn6, qn7, qn8] at hc
     all_goals refine tc_skip ?_; ((refine hK3 ?_; try (clear hK3; clear K3)))
     all_goals refine tc_seq fun K6 hK6 => ?_; refine tc_region ?_; refine tl_q (y_loadW rfl (by repeat constructor) (by rfl)) rfl ?_; refine tl_q (y_move rfl) rfl ?_; (refine tl_e (e_callEndF rfl (.cons rfl (.cons rfl .nil)) (fun w' hw' => dshortest_c d hv wv mv vv lv (some ⟨x.1.1, 0, none⟩) x.1.2.1 w' ⟨hr0.tb.fr (hw'.fr (w0 := w) (S := []) MI.m), hr0.ls.fr (hw'.fr (w0 := w) (S := []) MI.m), clO_rd hw' (r := x.1) (by repeat constructor)⟩ x.2.1 x.2.2 #[] 0 (hw'.at (b := x.2.1) (by repeat constructor)) (hw'.at (b := x.2.2) (by repeat constructor)) (GoodM.nil _ _)) (fun w' hw' β hβ z hz => by obtain rfl := List.mem_singleton.1 hβ; obtain rfl := List.mem_singleton.1 hz; exact .inr ((hw'.own _ (HM.mem (b := x.2.2) (by repeat constructor)) (w, []) (by simp)).resolve_left (by simp)))) rfl (fun y hy => ?_))
     all_goals ((obtain ⟨_, _, hLL⟩ := hy; obtain ⟨ad, cap, b, o, us, he, had, hcell, hrow⟩ := hLL.open; have had' := had hL0; have hy1 : y.1.1 = ad := (by injection he)))
     all_goals ((obtain ⟨a0, c0, b0, o0, he0, _, _⟩ := row_open (hrow y.2.2 (Fr.refl [] _) 0 hL0); rw [hLc] at he0; have hrow0 := hrow y.2.2 (Fr.refl [] _) 0 hL0; rw [hLc, he0] at hrow0))
     all_goals (refine tl_q (y_index rfl rfl (by omega) (hy1.trans had')) rfl ?_); ((refine tl_q (y_load1o (v := .slice a0 c.length c0) rfl (fun w' hw' => by rw [show Int.toNat (0 : Int) * 1 = 0 from rfl, ← he0]; exact hcell w' (hw'.fr (w0 := y.2.2) (S := []) MI.m) 0 hL0)) rfl ?_))
     all_goals refine tl_q (y_assign rfl) rfl ?_; refine tl_q (y_assign rfl) rfl ?_; refine tl_nil ?_; ((refine hK6 ?_; try (clear hK6; clear K6)))
     all_goals refine tc_ret ?_; (repeat (first | refine tk_then_ret ?_))
     all_goals (refine tk_ret rfl rfl (.cons (.tmp rfl) (.cons (.tmp rfl) .nil)) ?_)
     all_goals (
      exact fun w' hw' => ⟨(a0, c0), rfl, hw'.fr (w0 := w) (S := []) MI.m, (hrow0.fr (hw'.fr (w0 := y.2.2) (S := []) MI.m)).toI⟩))
theorem dLeave_c (d : Dsp) (hv : VDsp d) (h1 : 1 ≤ d.fs.length) (hok : okD (noF d) [] = true) (c : List Int) (hc0 : (shoF (okD d) d.fs.length (d.fs.length + 1)).head? = some c) (wv mv vv lv fv : Value) (w : World) (hr : RdD w d wv mv vv lv fv) :
    CnX Tryz.prog 13 #[dpV d wv mv vv lv fv] w [] (fun y : Option Addr × Nat => .tuple #[slV c.length y, vi 0]) (fun y w' => RdI w' (slV c.length y) c) := by
  have hr0 := hr
  have o1 := hr.tb.ws.one
  have o2 := hr.tb.ms.one
  have o3 := hr.tb.vs.one
  have o4 := hr.ls.one
  have o5 := hr.fs.one
  refine cnx0 (vs := [_]) Tryz.func13 rfl rfl ?_
  all_goals refine tc_seq fun K1 hK1 => ?_; refine tc_region ?_; refine tl_e (e_box rfl rfl rfl) rfl (fun b1 _ => ?_); refine tl_q (y_assign rfl) rfl ?_; refine tl_q (y_assign rfl) rfl ?_; refine tl_nil ?_; ((refine hK1 ?_; try (clear hK1; clear K1)))
  all_goals refine tc_seq fun K2 hK2 => ?_; refine tc_draw (by kernel_rfl) ?_; refine tx_q 1 rfl (by kernel_rfl) (y_loadW rfl (by repeat constructor) (by rfl)) rfl (fun _ _ _ h => h) (fun _ h => h) ?_; refine tx_e 0 rfl (by kernel_rfl) rfl (e_callV rfl .nil (fun w' _ => dbyFact_c w')) (.inr fun _ _ h => h) (fun _ _ => ?_); refine tx_e 2 rfl (by kernel_rfl) rfl (e_callX rfl (.cons rfl (.cons rfl .nil)) (fun w' hw' => dsmallest_c d hv h1 hok c hc0 wv mv vv lv fv w' (hr0.fr (hw'.fr (w0 := w) (S := []) MI.m)))) (.inr fun _ _ h => h.sub (fun _ h => List.mem_cons_of_mem _ h) (List.Sublist.refl _)) (fun y hy => ?_); refine tx_p 3 rfl (by kernel_rfl) (y_extract rfl rfl) rfl (fun _ _ _ h => h) (fun _ h => h) ?_; refine tx_p 4 rfl (by kernel_rfl) (y_extract rfl rfl) rfl (fun _ _ _ h => h) (fun _ h => h) ?_; refine tx_p 5 rfl (by kernel_rfl) (y_assign rfl) rfl (fun _ _ _ h => h) (fun _ h => h) ?_; refine tx_p 6 rfl (by kernel_rfl) (y_assign rfl) rfl (fun _ _ _ h => h) (fun _ h => h) ?_; refine tx_done (by kernel_rfl) ?_; ((refine hK2 ?_; try (clear hK2; clear K2)))
  all_goals refine tc_ret ?_; (repeat (first | refine tk_then_ret ?_))
  all_goals (refine tk_ret rfl rfl (.cons (.tmp rfl) (.cons (.tmp rfl) .nil)) ?_)
  all_goals (
   exact fun w' hw' => ⟨y.1, rfl, hw'.fr (w0 := w) (S := []) MI.m, hy.1.fr (hw'.calm hy.2 MI.m SB.s)⟩)
end Go.Sp
/-
  TopSealed, plainly.
-/
namespace Go.Sp
open Go Go.Proofs
noncomputable def mnN (t : Tab) (fs : List Fct) (i : Nat) : Int × Int := meanD t (fs.getD i fct0)
theorem kept_map {t : Tab} {fs : List Fct} {out : List Int} : ∀ n, (∀ i, i < n → (fs.getD i fct0).s = (i : Int)) → (keptF fs out n).map (f3D t) = keptN (mnN t fs) out n
  | 0, _ => rfl
  | n + 1, h => by
    have ih := kept_map (t := t) (fs := fs) (out := out) n (fun i hi => h i (by omega))
    by_cases e : (n : Int) ∈ out
    · rw [keptF_in e, keptN, if_pos e]; exact ih
    · rw [keptF_no e, keptN, if_neg e, List.map_append, ih, List.map_singleton]
      unfold f3D mnN
      rw [h n (by omega)]
/-- A dispute of bottles: one fact of each. -/
structure Star (t : Tab) (S : Nat) (N : Nat → Bool) (fs : List Fct) : Prop where
  v : VTab t
  s1 : 1 ≤ S
  s3 : S ≤ 3
  len : fs.length = S
  s : ∀ i, i < S → (fs.getD i fct0).s = (i : Int)
  ok : ∀ i, i < S → FcOk t S S (fs.getD i fct0)
def starD (t : Tab) (S : Nat) (N : Nat → Bool) (fs : List Fct) : Dsp := ⟨t, S, S, lnkN N S, fs⟩
theorem Star.vd {t : Tab} {S : Nat} {N : Nat → Bool} {fs : List Fct} (h : Star t S N fs) : VDsp (starD t S N fs) := by
  have h1 := h.s1
  have h3 := h.s3
  have hl := h.len
  have hll := lnkN_len N S
  refine ⟨h.v, ⟨by show (1 : Int) ≤ S; omega, by show (S : Int) ≤ 3; omega⟩, ⟨by show (1 : Int) ≤ S; omega, by show (S : Int) ≤ 4; omega⟩, by show (lnkN N S).length ≤ 4; omega, by show fs.length ≤ 6; omega, fun i hi => ?_, fun i hi => h.ok i (by show i < S; have : i < fs.length := hi; omega)⟩
  have hm : (lnkN N S).getD i lk0 ∈ lnkN N S := getD_memG hi
  obtain ⟨h0, j, hj, _, hlt, e⟩ := lnkN_mem N S _ hm
  show LkOk S ((lnkN N S).getD i lk0)
  rw [e]
  exact ⟨⟨h0, by show fstN N S ≤ S - 1; omega⟩, ⟨by show (0 : Int) ≤ (j : Int); omega, by show (j : Int) ≤ S - 1; omega⟩, by show ¬ fstN N S = (j : Int); omega, ⟨by show (-2000 : Int) ≤ 0; omega, Int.le_refl _, by show (0 : Int) ≤ 2000; omega⟩⟩
theorem Star.mn {t : Tab} {S : Nat} {N : Nat → Bool} {fs : List Fct} (h : Star t S N fs) : MnOk S (mnN t fs) := fun i hi => meanD_le h.v (h.ok i hi)
theorem Star.okD {t : Tab} {S : Nat} {N : Nat → Bool} {fs : List Fct} (h : Star t S N fs) (out : List Int) : okD (starD t S N fs) out = true ↔ gOk (gApt S (lnkN N S) (keptN (mnN t fs) out S)) := by
  rw [okD_eq, gOkB_iff]
  have e : aprG (starD t S N fs) out = gApt S (lnkN N S) (keptN (mnN t fs) out S) := by
    show gCls (gAll (S : Int).toNat (lnkN N S) ((keptF fs out fs.length).map (f3D t))) 4 = gCls (gAll S (lnkN N S) (keptN (mnN t fs) out S)) 4
    rw [h.len, kept_map S h.s]
    rfl
  rw [e]
theorem Star.firm {t : Tab} {S : Nat} {N : Nat → Bool} {fs : List Fct} (h : Star t S N fs) : Go.Sp.okD (noF (starD t S N fs)) [] = true := by
  rw [okD_eq, gOkB_iff]
  have e : aprG (noF (starD t S N fs)) [] = gApt S (lnkN N S) [] := rfl
  rw [e]
  refine (gApt_sat (x := fun _ => 0) rfl (fun s _ => by simp) h.s3 (lnkN_ok N h.s3) (fun y hy => by cases hy) (fun y hy => ?_) (fun y hy => by cases hy)).ok
  obtain ⟨_, j, _, _, _, rfl⟩ := lnkN_mem N S y hy
  simp
theorem cntN_pos {N : Nat → Bool} : ∀ {S i : Nat}, i < S → N i = true → 0 < cntN N S
  | 0, _, h, _ => absurd h (Nat.not_lt_zero _)
  | S + 1, i, h, hn => by
    unfold cntN
    rcases Nat.lt_succ_iff_lt_or_eq.1 h with h | rfl
    · have := cntN_pos h hn
      by_cases c : N S = true
      · rw [if_pos c]; omega
      · rw [if_neg c]; exact this
    · rw [if_pos hn]; omega
theorem cntN_ex {N : Nat → Bool} : ∀ {S : Nat}, 0 < cntN N S → ∃ i, i < S ∧ N i = true
  | 0, h => absurd h (Nat.lt_irrefl 0)
  | S + 1, h => by
    by_cases c : N S = true
    · exact ⟨S, by omega, c⟩
    · unfold cntN at h
      rw [if_neg c] at h
      obtain ⟨i, hi, hn⟩ := cntN_ex h
      exact ⟨i, by omega, hn⟩
/-- All that is asked of the dispute. -/
theorem Star.leave {t : Tab} {S : Nat} {N : Nat → Bool} {fs : List Fct} (h : Star t S N fs) : ∃ c : List Nat, (shoF (Go.Sp.okD (starD t S N fs)) fs.length (fs.length + 1)).head? = some (c.map fun x => ((x : Nat) : Int)) ∧
    (cntN N S = 0 ∨ (whoN N (mnN t fs) S).1 ≤ (whoN N (mnN t fs) S).2 → c = []) ∧
    (0 < cntN N S → (whoN N (mnN t fs) S).2 < (whoN N (mnN t fs) S).1 → c ≠ [] ∧ (∀ p ∈ c, p < S ∧ N p = true) ∧ c.length < cntN N S) := by
  rw [h.len]
  exact star_leave h.s3 h.mn (Nat.lt_succ_self S) (Go.Sp.okD (starD t S N fs)) (fun c => h.okD _)
theorem Star.good {t : Tab} {S : Nat} {N : Nat → Bool} {fs : List Fct} (h : Star t S N fs) : Go.Sp.okD (starD t S N fs) [] = true ↔ cntN N S = 0 ∨ (whoN N (mnN t fs) S).1 ≤ (whoN N (mnN t fs) S).2 := by
  rw [h.okD, star_ok h.s3 h.mn]
  obtain ⟨b1, b2, b3⟩ := whoN_le N (mnN t fs) S
  constructor
  · intro g
    rcases Nat.eq_zero_or_pos (cntN N S) with e | e
    · exact .inl e
    · refine .inr ?_
      obtain ⟨i0, hi0, hn0⟩ := cntN_ex e
      have hm0 := h.mn i0 hi0
      rcases whoN_lo N (mnN t fs) S with e1 | ⟨i, hi, hn, e1⟩
      · rcases whoN_hi N (mnN t fs) S with e2 | ⟨j, hj, hnj, e2⟩
        · omega
        · have := h.mn j hj; omega
      · rcases whoN_hi N (mnN t fs) S with e2 | ⟨j, hj, hnj, e2⟩
        · have := h.mn i hi; omega
        · have := g i j hi hj hn hnj (by simp) (by simp); omega
  · rintro g i j hi hj hn hnj _ _
    have a1 := b3 i hi hn
    have a2 := b3 j hj hnj
    rcases g with g | g
    · have := cntN_pos hi hn; omega
    · omega
theorem bndL_get {g : List Int} {n i : Nat} (h : i < n) : (bndL g n).getD i (0, 0) = (-(gAt g (i + 1) 0), gAt g 0 (i + 1)) := by
  rw [List.getD_eq_getElem?_getD, bndL, List.getElem?_map, List.getElem?_range h]; rfl
theorem Star.bds {t : Tab} {S : Nat} {N : Nat → Bool} {fs : List Fct} (h : Star t S N fs) (hg : Go.Sp.okD (starD t S N fs) [] = true) {i : Nat} (hi : i < S) (hn : N i = true) : (bdsL (starD t S N fs)).getD i (0, 0) = whoN N (mnN t fs) S := by
  have hw : (whoN N (mnN t fs) S).1 ≤ (whoN N (mnN t fs) S).2 := (h.good.1 hg).resolve_left (fun e => by have := cntN_pos hi hn; omega)
  have hb := star_bounds h.s3 h.mn hw hi hn
  have e : aprD (starD t S N fs) [] = gApt S (lnkN N S) (keptN (mnN t fs) [] S) := by
    rw [aprD_eq]
    show gCls (gAll (S : Int).toNat (lnkN N S) ((keptF fs [] fs.length).map (f3D t))) 4 = gCls (gAll S (lnkN N S) (keptN (mnN t fs) [] S)) 4
    rw [h.len, kept_map S h.s]
    rfl
  unfold bdsL
  rw [if_pos hg, show (starD t S N fs).S.toNat = S from rfl, bndL_get hi, e]
  clear e
  generalize gApt S (lnkN N S) (keptN (mnN t fs) [] S) = g at hb ⊢
  exact Prod.ext hb.1 hb.2
theorem Star.bdsLen {t : Tab} {S : Nat} {N : Nat → Bool} {fs : List Fct} (h : Star t S N fs) (hg : Go.Sp.okD (starD t S N fs) [] = true) : (bdsL (starD t S N fs)).length = S := by
  unfold bdsL
  rw [if_pos hg, bndL_len]; rfl
def mkI (ks : List Int) (i : Nat) : Int := if 0 < ks.length then ks.getD (i % ks.length) 0 else 0
def mkM (t : Tab) (ks : List Int) (i : Nat) : Int := t.ms.getD 0 0 + mkI ks i % (lastL t.ms - t.ms.getD 0 0 + 1)
def fctN (t : Tab) (ks : List Int) (i : Nat) : Fct := ⟨i, i, t.ws.getD 0 0, t.ws.getD 0 0, mkM t ks i, min (mkM t ks i + 1) (lastL t.ms)⟩
def fctL (t : Tab) (ks : List Int) (n : Nat) : List Fct := (List.range n).map (fctN t ks)
theorem fctL_succ (t : Tab) (ks : List Int) (n : Nat) : fctL t ks (n + 1) = fctL t ks n ++ [fctN t ks n] := by simp [fctL, List.range_succ]
theorem fctL_len (t : Tab) (ks : List Int) (n : Nat) : (fctL t ks n).length = n := by simp [fctL]
theorem fctL_get (t : Tab) (ks : List Int) {n i : Nat} (h : i < n) : (fctL t ks n).getD i fct0 = fctN t ks i := by
  rw [List.getD_eq_getElem?_getD, fctL, List.getElem?_map, List.getElem?_range h]; rfl
theorem mkI_bd {ks : List Int} (hk : ∀ x ∈ ks, 0 ≤ x ∧ x ≤ 255) (i : Nat) : 0 ≤ mkI ks i ∧ mkI ks i ≤ 255 := by
  unfold mkI
  by_cases h : 0 < ks.length
  · rw [if_pos h]; exact hk _ (getD_memG (Nat.mod_lt _ h))
  · rw [if_neg h]; decide
theorem mkM_bd {t : Tab} (hv : VTab t) {ks : List Int} (hk : ∀ x ∈ ks, 0 ≤ x ∧ x ≤ 255) (i : Nat) : t.ms.getD 0 0 ≤ mkM t ks i ∧ mkM t ks i ≤ lastL t.ms := by
  have h1 := hv.m0
  have h2 := mkI_bd hk i
  have a := Int.emod_nonneg (mkI ks i) (b := lastL t.ms - t.ms.getD 0 0 + 1) (by omega)
  have b := Int.emod_lt_of_pos (mkI ks i) (b := lastL t.ms - t.ms.getD 0 0 + 1) (by omega)
  unfold mkM
  omega
theorem fctN_ok {t : Tab} (hv : VTab t) {ks : List Int} (hk : ∀ x ∈ ks, 0 ≤ x ∧ x ≤ 255) {S i : Nat} (h : i < S) : FcOk t S S (fctN t ks i) := by
  have h1 := mkM_bd hv hk i
  have h2 := hv.w0
  exact ⟨⟨by show (0 : Int) ≤ (i : Int); omega, by show (i : Int) ≤ (S : Int) - 1; omega⟩, ⟨by show (0 : Int) ≤ (i : Int); omega, by show (i : Int) ≤ (S : Int) - 1; omega⟩, ⟨Int.le_refl _, rfl, by show t.ws.getD 0 0 ≤ lastL t.ws; omega⟩, h1.1, by show mkM t ks i ≤ min (mkM t ks i + 1) (lastL t.ms); omega, by show min (mkM t ks i + 1) (lastL t.ms) ≤ lastL t.ms; omega⟩
theorem starOf {t : Tab} (hv : VTab t) {ks : List Int} (hk : ∀ x ∈ ks, 0 ≤ x ∧ x ≤ 255) {S : Nat} (h1 : 1 ≤ S) (h3 : S ≤ 3) (N : Nat → Bool) : Star t S N (fctL t ks S) :=
  ⟨hv, h1, h3, fctL_len t ks S, fun i hi => by rw [fctL_get t ks hi]; rfl, fun i hi => by rw [fctL_get t ks hi]; exact fctN_ok hv hk hi⟩
theorem mnN_get {t : Tab} {ks : List Int} {S i : Nat} (h : i < S) : mnN t (fctL t ks S) i = meanD t (fctN t ks i) := by
  unfold mnN
  rw [fctL_get t ks h]
end Go.Sp
/-
  Package sample: the iterators times and chains.
-/
namespace Go.Sp
open Go Go.Proofs
theorem tc_perm {r : Option Nat} {P : Program} {c : Code} {Q : Exit → Act → World → Prop} {N : NN} {F : List (Nat × Value)} {bs : List (World × List Nat)} {H : List (Nat × Obj)} (H' : List (Nat × Obj)) (hp : H.Perm H') (h : TC r P c Q N F bs H') : TC r P c Q N F bs H := by
  unfold TC at h ⊢
  exact fun a w ht hw => h a w ht (hw.perm hp)
abbrev smO (s : Smp) (tv pv gv : Value) : Obj := .cells #[vi s.B, vi s.P, vi s.L, vi s.F, tv, pv, gv] 42 (0, 0)
theorem times_c (s : Smp) (b : Int) (tv pv gv : Value) (w : World) :
    CnX Tryz.prog 88 #[smV s tv pv gv, vi b] w [] (fun q : Nat × Nat => .func (.func 108) #[] #[ptr q.1, ptr q.2])
      (fun q w' => True ∧ (∀ p ∈ [(q.2, Obj.cells #[vi b] 3 (0, 0)), (q.1, smO s tv pv gv)], w.heap.size ≤ p.1 ∧ w'.heap[p.1]? = some p.2) ∧ ([(q.2, Obj.cells #[vi b] 3 (0, 0)), (q.1, smO s tv pv gv)].map Prod.fst).Nodup) := by
  refine cnx0 (vs := [_, _]) Tryz.func88 rfl rfl ?_
  all_goals refine tc_seq fun K1 hK1 => ?_; refine tc_region ?_; refine tl_e (e_box rfl rfl rfl) rfl (fun b2 _ => ?_); refine tl_e (e_box rfl rfl rfl) rfl (fun b3 _ => ?_); refine tl_q (y_assign rfl) rfl ?_; refine tl_nil ?_; ((refine hK1 ?_; try (clear hK1; clear K1)))
  all_goals refine tc_seq fun K2 hK2 => ?_; refine tc_region ?_; refine tl_q (y_fn .nil (.cons rfl (.cons rfl .nil))) rfl ?_; refine tl_q (y_assign rfl) rfl ?_; refine tl_nil ?_; ((refine hK2 ?_; try (clear hK2; clear K2)))
  all_goals refine tc_ret ?_; (repeat (first | refine tk_then_ret ?_))
  all_goals (refine tk_ret rfl rfl (.cons (.tmp rfl) .nil) ?_)
  all_goals (
   refine fun w' hw' => ⟨(b2, b3), rfl, hw'.fr (w0 := w) (S := []) MI.m, trivial, fun p hp => ?_, ?_⟩
   · rcases List.mem_cons.1 hp with rfl | hp
     · exact ⟨(hw'.own _ (HM.mem (b := b3) (by repeat constructor)) (w, []) (by simp)).resolve_left (by simp), hw'.heap _ (HM.mem (b := b3) (by repeat constructor))⟩
     · obtain rfl := List.mem_singleton.1 hp
       exact ⟨(hw'.own _ (HM.mem (b := b2) (by repeat constructor)) (w, []) (by simp)).resolve_left (by simp), hw'.heap _ (HM.mem (b := b2) (by repeat constructor))⟩
   · have := hw'.nodup
     simp at this ⊢; exact this)
theorem madeI {n : Nat} (h : n ≤ 6) : madeCells (vi 0).cells (n * 1) = ((List.replicate n (0 : Int)).map vi).toArray := by
  rcases (by omega : n = 0 ∨ n = 1 ∨ n = 2 ∨ n = 3 ∨ n = 4 ∨ n = 5 ∨ n = 6) with rfl | rfl | rfl | rfl | rfl | rfl | rfl <;> kernel_rfl
set_option maxHeartbeats 1000000 in
theorem times_seq (s : Smp) (hv : VSm s) (b : Int) (tv pv gv : Value) (w : World) (b1 b2 : Nat) (S0 : List Nat) (h1 : w.heap[b1]? = some (smO s tv pv gv)) (hb1 : b1 ∉ S0) (h2 : w.heap[b2]? = some (.cells #[vi b] 3 (0, 0))) (hb2 : b2 ∉ S0) (hrd : ∀ w', Fr S0 w w' → RdS 5 psE w' pv s.ps) :
    SeqQ Tryz.prog 108 #[ptr b1, ptr b2] (encT s.ps.length) preT (timesL s b) S0 w := by
  intro σ l S Hx I J s0 w1 f0 hS hK0 h0 hY
  have hn6 := hv.n6
  have hnS : ∀ x, x ∉ S0 → x < w.heap.size → x ∉ S := fun x hx hl hm => (hS x hm).elim hx (fun g => by omega)
  have n1 := hnS b1 hb1 (lt_of h1)
  have n2 := hnS b2 hb2 (lt_of h2)
  have g1 := f0.keep h1
  have g2 := f0.keep h2
  have hrd1 : ∀ w', Fr S w1 w' → RdS 5 psE w' pv s.ps := fun w' f => hrd w' (f0.mono (fun x hx => by simp at hx) |>.trans f (fun x hx => hS x hx))
  obtain ⟨adp, cpp, bp, op, rfl, hadp, _⟩ := (hrd1 w1 (Fr.refl _ _)).open psE_len pas0
  rw [show (#[.func (.yield l) #[] #[]] ++ #[ptr b1, ptr b2] : Array Value) = #[.func (.yield l) #[] #[], ptr b1, ptr b2] from by simp]
  refine cnxS (vs := [_, _, _]) (S := S) (Hx s0) Tryz.func108 rfl rfl ⟨hK0.kn, hK0.nd, hK0.mem⟩ ?_
  all_goals refine tc_seq fun K1 hK1 => ?_; refine tc_region ?_; refine tl_e (e_box rfl rfl rfl) rfl (fun b3 _ => ?_); refine tl_nil ?_; ((refine hK1 ?_; try (clear hK1; clear K1)))
  all_goals refine tc_seq fun K2 hK2 => ?_; refine tc_region ?_; refine tl_q (y_field rfl) rfl ?_; refine tl_q (y_load1o (v := .slice adp s.ps.length cpp) rfl (fun w' hw' => cell0 ((hw'.fr (w0 := w1) (S := S) MI.m).keepS n1 g1) rfl)) rfl ?_; refine tl_q (y_len rfl) rfl ?_; refine tl_e (e_mkS (sz := 1) (z := vi 0) (by_ := 8) (n := s.ps.length) (out := (List.replicate s.ps.length (0 : Int)).map vi) (by kernel_rfl) rfl rfl rfl (by omega) (by omega) (by omega) (madeI hn6)) rfl (fun b9 _ => ?_); refine tl_e (e_alloc1 rfl) rfl (fun b4 _ => ?_); refine tl_e (e_store1 rfl rfl (by repeat constructor) (by repeat constructor) (by rfl) (by rfl)) rfl (fun _ _ => ?_); refine tl_nil ?_; ((refine hK2 ?_; try (clear hK2; clear K2)))
  all_goals refine tc_seq fun K3 hK3 => ?_; refine tc_region ?_; refine tl_e (e_alloc1 rfl) rfl (fun b5 _ => ?_); refine tl_nil ?_; ((refine hK3 ?_; try (clear hK3; clear K3)))
  all_goals refine tc_seq fun K4 hK4 => ?_; refine tc_region ?_; refine tl_q (y_fn .nil (.cons rfl (.cons rfl (.cons rfl (.cons rfl (.cons rfl .nil)))))) rfl ?_; refine tl_e (e_store1 rfl rfl (by repeat constructor) (by repeat constructor) (by rfl) (by rfl)) rfl (fun _ _ => ?_); refine tl_nil ?_; ((refine hK4 ?_; try (clear hK4; clear K4)))
  all_goals refine tc_perm ([(b5, Obj.cells #[chooseV b4 b3 b1 b2 b5] 136 (0, 0)), (b4, .cells #[.slice (some ⟨b9, 0, none⟩) s.ps.length s.ps.length] 27 (0, 0)), (b3, .cells #[.func (.yield l) #[] #[]] 156 (0, 0))] ++ HqT Hx b9 (s0, List.replicate s.ps.length 0)) (.cons _ (.cons _ (.swap _ _ _))) ?_; (have hcc : ∀ w', HG [(w1, S)] ([(b5, Obj.cells #[chooseV b4 b3 b1 b2 b5] 136 (0, 0)), (b4, .cells #[.slice (some ⟨b9, 0, none⟩) s.ps.length s.ps.length] 27 (0, 0)), (b3, .cells #[.func (.yield l) #[] #[]] 156 (0, 0))] ++ HqT Hx b9 (s0, List.replicate s.ps.length 0)) w' → CnX Tryz.prog 109 (#[] ++ #[vi 0] ++ #[ptr b4, ptr b3, ptr b1, ptr b2, ptr b5]) w' ((HqT Hx b9 (s0, List.replicate s.ps.length 0)).map Prod.fst) (fun q : Bool × σ × List Int => .bool q.1) (fun q w2 => (q.1 = true ∧ I (timesL s b).length q.2.1 ∨ q.1 = false ∧ J q.2.1) ∧ KnS (HqT Hx b9 q.2) ((HqT Hx b9 (s0, List.replicate s.ps.length 0)).map Prod.fst) w' w2) := ?_)
  rotate_left
  focus (
    intro w' hw'
    rw [show (#[] ++ #[vi 0] ++ #[ptr b4, ptr b3, ptr b1, ptr b2, ptr b5] : Array Value) = #[vi ((0 : Nat) : Int), ptr b4, ptr b3, ptr b1, ptr b2, ptr b5] from by simp]
    have f := hw'.fr (w0 := w1) (S := S) MI.m
    have hown : ∀ x ∈ (HqT Hx b9 (s0, List.replicate s.ps.length 0)).map Prod.fst, x ∈ S ∨ w1.heap.size ≤ x := fun x hx => by
      obtain ⟨q, hq, rfl⟩ := List.mem_map.1 hx
      exact hw'.own q (List.mem_append_right _ hq) _ MI.m
    have hnd := hw'.nodup
    rw [List.map_append, List.nodup_append] at hnd
    have e0 : genT b (s.ps.drop 0) ((List.replicate s.ps.length (0 : Int)).take 0) = timesL s b := by rw [List.drop_zero, List.take_zero]; rfl
    have := choose_c s hv b tv (.slice adp s.ps.length cpp) gv l b4 b3 b1 b2 b5 b9 Hx I J (timesL s b) S w1 hY s.ps.length 0 (List.replicate s.ps.length 0) 0 s0 w' (by omega) (by simp) h0
      ⟨hw'.heap (b4, _) (by simp), hw'.heap (b3, _) (by simp), f.keepS n1 g1, f.keepS n2 g2, hw'.heap (b5, _) (by simp), fun x hx hx' => by
        simp only [List.mem_cons, List.not_mem_nil, or_false] at hx
        rcases hx with rfl | rfl | rfl | rfl | rfl
        · exact hnd.2.2 x (by simp) x hx' rfl
        · exact hnd.2.2 x (by simp) x hx' rfl
        · exact (hown x hx').elim n1 (fun g => by have := lt_of g1; omega)
        · exact (hown x hx').elim n2 (fun g => by have := lt_of g2; omega)
        · exact hnd.2.2 x (by simp) x hx' rfl, fun w2 f2 => hrd1 w2 (f.trans f2 hown)⟩
      f ⟨fun q hq => hw'.heap q (List.mem_append_right _ hq), hnd.2.1, hown⟩ (fun j x hj => by rw [e0] at hj; rw [Nat.zero_add]; exact hj)
    rw [e0] at this
    refine this.imp id (fun _ => rfl) (fun _ h => h) (fun q w2 _ hq => ⟨?_, hq.2⟩)
    rw [Nat.zero_add] at hq
    exact hq.1.2.2)
  all_goals refine tc_region ?_; refine tl_q (y_load1 rfl (by repeat constructor) (by rfl)) rfl ?_; refine tl_e (e_callQ2 (H1 := HqT Hx b9 (s0, List.replicate s.ps.length 0)) (Hn := fun q : Bool × σ × List Int => HqT Hx b9 q.2) [(b5, _), (b4, _), (b3, _)] rfl rfl (.cons rfl .nil) rfl hcc) rfl (fun q hq => ?_); refine tl_nil ?_; refine tk_end rfl rfl .nil ?_
  all_goals (
   exact fun w' hw' => ⟨q.2.1, rfl, hw'.fr (w0 := w1) (S := S) MI.m, (hw'.subl (bs' := [(w1, S)]) (H' := Hx q.2.1) SB.s SB.s).knS MI.m, hq.elim (fun h => .inl h.2) (fun h => .inr h.2)⟩)
end Go.Sp
/-
  Package sample: the chains.
-/
namespace Go.Sp
open Go Go.Proofs
/-- The chains of some lists of hours, without those that come twice in a row. -/
def ddC (s : Smp) (b : Int) (l : List (List Int)) : List (List Int) := l.foldl (fun acc ts => match chF s b ts with
  | none => acc
  | some c => if acc.getLast? = some c then acc else acc ++ [c]) []
theorem ddC_snoc (s : Smp) (b : Int) (l : List (List Int)) (ts : List Int) : ddC s b (l ++ [ts]) = match chF s b ts with
  | none => ddC s b l
  | some c => if (ddC s b l).getLast? = some c then ddC s b l else ddC s b l ++ [c] := by unfold ddC; rw [List.foldl_append]; rfl
abbrev chainsL (s : Smp) (b : Int) : List (List Int) := ddC s b (timesL s b)
theorem ddC_pre (s : Smp) (b : Int) (l : List (List Int)) : ∀ t : List (List Int), ∃ m, ddC s b (l ++ t) = ddC s b l ++ m := by
  intro t
  induction t generalizing l with
  | nil => exact ⟨[], by simp⟩
  | cons x t ih =>
    obtain ⟨m, hm⟩ := ih (l ++ [x])
    rw [List.append_assoc, List.singleton_append] at hm
    rw [hm, ddC_snoc]
    split
    · exact ⟨m, rfl⟩
    · split
      · exact ⟨m, rfl⟩
      · exact ⟨[_] ++ m, by rw [List.append_assoc]⟩
theorem ddC_take {s : Smp} {b : Int} {l : List (List Int)} {i : Nat} {x : List Int} (h : l[i]? = some x) : ddC s b (l.take (i + 1)) = match chF s b x with
  | none => ddC s b (l.take i)
  | some c => if (ddC s b (l.take i)).getLast? = some c then ddC s b (l.take i) else ddC s b (l.take i) ++ [c] := by
  rw [List.take_succ, h]
  exact ddC_snoc s b _ x
theorem ddC_get {s : Smp} {b : Int} {l : List (List Int)} {i : Nat} {c : List Int} (h : ddC s b (l.take (i + 1)) = ddC s b (l.take i) ++ [c]) : (ddC s b l)[(ddC s b (l.take i)).length]? = some c := by
  obtain ⟨m, hm⟩ := ddC_pre s b (l.take (i + 1)) (l.drop (i + 1))
  rw [List.take_append_drop] at hm
  rw [hm, h, List.append_assoc, List.getElem?_append_right (Nat.le_refl _), Nat.sub_self]; rfl
theorem ddC_mem (s : Smp) (b : Int) (c : List Int) : ∀ l : List (List Int), c ∈ ddC s b l ↔ ∃ ts ∈ l, chF s b ts = some c := by
  have h : ∀ (t : List (List Int)) (l : List (List Int)), (c ∈ ddC s b l ↔ ∃ ts ∈ l, chF s b ts = some c) → (c ∈ ddC s b (l ++ t) ↔ ∃ ts ∈ l ++ t, chF s b ts = some c) := by
    intro t
    induction t with
    | nil => intro l hl; simpa using hl
    | cons x t ih =>
      intro l hl
      have := ih (l ++ [x]) ?_
      · rwa [List.append_assoc, List.singleton_append] at this
      · rw [ddC_snoc]
        have hr : (∃ ts ∈ l ++ [x], chF s b ts = some c) ↔ (∃ ts ∈ l, chF s b ts = some c) ∨ chF s b x = some c := by
          constructor
          · rintro ⟨ts, h1, h2⟩
            rcases List.mem_append.1 h1 with h1 | h1
            · exact .inl ⟨ts, h1, h2⟩
            · obtain rfl := List.mem_singleton.1 h1; exact .inr h2
          · rintro (⟨ts, h1, h2⟩ | h2)
            · exact ⟨ts, List.mem_append_left _ h1, h2⟩
            · exact ⟨x, by simp, h2⟩
        rw [hr, ← hl]
        split
        · rename_i h0; rw [h0]; simp
        · rename_i c' h0
          rw [h0]
          split
          · rename_i h3
            constructor
            · exact .inl
            · rintro (h | h)
              · exact h
              · cases h; exact List.mem_of_getLast? h3
          · rw [List.mem_append, List.mem_singleton]
            constructor
            · rintro (h | rfl)
              · exact .inl h
              · exact .inr rfl
            · rintro (h | h)
              · exact .inl h
              · cases h; exact .inr rfl
  intro l
  simpa using h l [] (by simp [ddC])
theorem chains_c (s : Smp) (b : Int) (tv pv gv : Value) (w : World) :
    CnX Tryz.prog 59 #[smV s tv pv gv, vi b] w [] (fun q : Nat × Nat => .func (.func 87) #[] #[ptr q.1, ptr q.2])
      (fun q w' => True ∧ (∀ p ∈ [(q.2, Obj.cells #[vi b] 3 (0, 0)), (q.1, smO s tv pv gv)], w.heap.size ≤ p.1 ∧ w'.heap[p.1]? = some p.2) ∧ ([(q.2, Obj.cells #[vi b] 3 (0, 0)), (q.1, smO s tv pv gv)].map Prod.fst).Nodup) := by
  refine cnx0 (vs := [_, _]) Tryz.func59 rfl rfl ?_
  all_goals refine tc_seq fun K1 hK1 => ?_; refine tc_region ?_; refine tl_e (e_box rfl rfl rfl) rfl (fun b2 _ => ?_); refine tl_e (e_box rfl rfl rfl) rfl (fun b3 _ => ?_); refine tl_q (y_assign rfl) rfl ?_; refine tl_nil ?_; ((refine hK1 ?_; try (clear hK1; clear K1)))
  all_goals refine tc_seq fun K2 hK2 => ?_; refine tc_region ?_; refine tl_q (y_fn .nil (.cons rfl (.cons rfl .nil))) rfl ?_; refine tl_q (y_assign rfl) rfl ?_; refine tl_nil ?_; ((refine hK2 ?_; try (clear hK2; clear K2)))
  all_goals refine tc_ret ?_; (repeat (first | refine tk_then_ret ?_))
  all_goals (refine tk_ret rfl rfl (.cons (.tmp rfl) .nil) ?_)
  all_goals (
   refine fun w' hw' => ⟨(b2, b3), rfl, hw'.fr (w0 := w) (S := []) MI.m, trivial, fun p hp => ?_, ?_⟩
   · rcases List.mem_cons.1 hp with rfl | hp
     · exact ⟨(hw'.own _ (HM.mem (b := b3) (by repeat constructor)) (w, []) (by simp)).resolve_left (by simp), hw'.heap _ (HM.mem (b := b3) (by repeat constructor))⟩
     · obtain rfl := List.mem_singleton.1 hp
       exact ⟨(hw'.own _ (HM.mem (b := b2) (by repeat constructor)) (w, []) (by simp)).resolve_left (by simp), hw'.heap _ (HM.mem (b := b2) (by repeat constructor))⟩
   · have := hw'.nodup
     simp at this ⊢; exact this)
abbrev encC (c : List Int) : List Value := [.agg (isV c)]
/-- The state between two rounds: the outer one, the last chain, whether there is none yet. -/
abbrev HcT {σ : Type} (Hx : σ → List (Nat × Obj)) (b5 b4 : Nat) (q : σ × List Int × Bool) : List (Nat × Obj) := (b5, .cells #[.bool q.2.2] 4 (0, 0)) :: (b4, .cells (isV q.2.1) 143 (0, 0)) :: Hx q.1
def IcT {σ : Type} (s : Smp) (b : Int) (I : Nat → σ → Prop) (i : Nat) (q : σ × List Int × Bool) : Prop :=
  I (ddC s b ((timesL s b).take i)).length q.1 ∧ q.2.1.length = 10 ∧ (ddC s b ((timesL s b).take i)).getLast? = if q.2.2 = true then none else some q.2.1
theorem genT_len (b : Int) : ∀ (ps : List Pas) (pre x : List Int), x ∈ genT b ps pre → x.length = pre.length + ps.length
  | [], pre, x, h => by obtain rfl := List.mem_singleton.1 h; rfl
  | p :: ps, pre, x, h => by
    rw [genT] at h
    split at h
    · obtain ⟨j, _, hj⟩ := List.mem_flatMap.1 h
      have := genT_len b ps _ x hj
      simp at this ⊢; omega
    · have := genT_len b ps _ x h
      simp at this ⊢; omega
theorem timesL_len {s : Smp} {b : Int} {x : List Int} (h : x ∈ timesL s b) : x.length = s.ps.length := by
  have := genT_len b s.ps [] x h
  simpa using this
theorem nd5 {a b c d e : Nat} {M : List Nat} (h : (a :: b :: c :: d :: e :: M).Nodup) : e ∉ c :: d :: M ∧ b ∉ c :: d :: M ∧ a ∉ c :: d :: M := by
  simp only [List.nodup_cons, List.mem_cons, not_or] at h ⊢
  obtain ⟨⟨_, h2, h3, _, h5⟩, ⟨h6, h7, _, h9⟩, ⟨_, h11, _⟩, ⟨h13, _⟩, h15, _⟩ := h
  exact ⟨⟨fun g => h11 g.symm, fun g => h13 g.symm, h15⟩, ⟨h6, h7, h9⟩, h2, h3, h5⟩
theorem KnS.ofR {bs : List (World × List Nat)} {L H : List (Nat × Obj)} {w w1 : World} {S : List Nat} (h : HG bs (L ++ H) w) (hb : (w1, S) ∈ bs) : KnS H S w1 w :=
  ⟨fun q hq => h.heap q (List.mem_append_right _ hq), by have := h.nodup; rw [List.map_append, List.nodup_append] at this; exact this.2.1, fun x hx => by
    obtain ⟨q, hq, rfl⟩ := List.mem_map.1 hx
    exact h.own q (List.mem_append_right _ hq) _ hb⟩
theorem RdI.ofO {w : World} {y n : Nat} {x : List Int} (h : w.heap[y]? = some (hrsO x)) (hn : x.length = n) : RdI w (.slice (some ⟨y, 0, none⟩) n n) x := by
  subst hn
  refine ⟨by simp, some ⟨y, 0, none⟩, x.length, rfl, fun _ => ⟨y, 0, rfl, ?_⟩⟩
  have := (CA_whole (c := isV x) (t := 3) (f := (0, 0)) (isV_size x)).cells h
  rw [Nat.mul_one]
  simpa [isV] using this
set_option maxHeartbeats 4000000 in
theorem chains_seq (s : Smp) (hf : Few s) (hv : VSm s) (b : Int) (tv pv gv : Value) (w : World) (b1 b2 : Nat) (S0 : List Nat) (h1 : w.heap[b1]? = some (smO s tv pv gv)) (hb1 : b1 ∉ S0) (h2 : w.heap[b2]? = some (.cells #[vi b] 3 (0, 0))) (hb2 : b2 ∉ S0) (hrd : ∀ w', Fr S0 w w' → RdSm w' s tv pv gv) :
    Seq Tryz.prog 87 #[ptr b1, ptr b2] encC (chainsL s b) S0 w := by
  intro σ l0 S Hx I J s0 w1 f0 hS hK0 h0 hY
  have hn6 := hv.n6
  have hnS : ∀ x, x ∉ S0 → x < w.heap.size → x ∉ S := fun x hx hl hm => (hS x hm).elim hx (fun g => by omega)
  have n1 := hnS b1 hb1 (lt_of h1)
  have n2 := hnS b2 hb2 (lt_of h2)
  have g1 := f0.keep h1
  have g2 := f0.keep h2
  have hrd1 : ∀ w', Fr S w1 w' → RdSm w' s tv pv gv := fun w' f => hrd w' (f0.mono (fun x hx => by simp at hx) |>.trans f (fun x hx => hS x hx))
  rw [show (#[.func (.yield l0) #[] #[]] ++ #[ptr b1, ptr b2] : Array Value) = #[.func (.yield l0) #[] #[], ptr b1, ptr b2] from by simp]
  refine cnxS (vs := [_, _, _]) (S := S) (Hx s0) Tryz.func87 rfl rfl ⟨hK0.kn, hK0.nd, hK0.mem⟩ ?_
  all_goals refine tc_seq fun K1 hK1 => ?_; refine tc_region ?_; refine tl_e (e_box rfl rfl rfl) rfl (fun b3 _ => ?_); refine tl_nil ?_; ((refine hK1 ?_; try (clear hK1; clear K1)))
  all_goals refine tc_seq fun K2 hK2 => ?_; refine tc_region ?_; refine tl_e (e_allocN rfl) rfl (fun b4 _ => ?_); refine tl_nil ?_; ((refine hK2 ?_; try (clear hK2; clear K2)))
  all_goals refine tc_seq fun K3 hK3 => ?_; refine tc_region ?_; refine tl_e (e_alloc1 rfl) rfl (fun b5 _ => ?_); refine tl_e (e_store1 rfl rfl (by repeat constructor) (by repeat constructor) (by rfl) (by rfl)) rfl (fun _ _ => ?_); refine tl_nil ?_; ((refine hK3 ?_; try (clear hK3; clear K3)))
  all_goals refine tc_seq fun K4 hK4 => ?_; refine tc_region ?_; refine tl_q (y_loadNo (n := 7) (vs := [vi s.B, vi s.P, vi s.L, vi s.F, tv, pv, gv]) rfl (fun w' hw' => (CA_whole (c := #[vi s.B, vi s.P, vi s.L, vi s.F, tv, pv, gv]) (t := 42) (f := (0, 0)) rfl).cells ((hw'.fr (w0 := w1) (S := S) MI.m).keepS n1 g1))) rfl ?_; refine tl_q (y_load1o (v := vi b) rfl (fun w' hw' => cell0 ((hw'.fr (w0 := w1) (S := S) MI.m).keepS n2 g2) rfl)) rfl ?_; refine tl_e (e_callN rfl (.cons rfl (.cons rfl .nil)) (fun w' hw' => times_c s b tv pv gv w')) rfl (fun tq htq => ?_); refine tl_nil ?_; ((refine hK4 ?_; try (clear hK4; clear K4)))
  all_goals refine tc_block ?_
  all_goals (
   refine tc_lay (HcT Hx b5 b4 (s0, List.replicate 10 0, true)) SB.s (fun wl3 hl3 => ?_)
   have hb3c := hl3.heap (b3, .cells #[.func (.yield l0) #[] #[]] 164 (0, 0)) (HM.mem (by repeat constructor))
   have hnd3 := hl3.nodup
   obtain ⟨hb3n, hq1n, hq2n⟩ := nd5 hnd3
   have hS3 : ∀ x ∈ (HcT Hx b5 b4 (s0, List.replicate 10 0, true)).map Prod.fst, x ∈ S ∨ w1.heap.size ≤ x := fun x hx => by
     simp only [List.map_cons, List.mem_cons] at hx
     rcases hx with rfl | rfl | hx
     · exact hl3.own (x, _) (HM.mem (by repeat constructor)) _ MI.m
     · exact hl3.own (x, _) (HM.mem (by repeat constructor)) _ MI.m
     · exact hK0.own x hx
   have hq1c := hl3.heap (tq.1, smO s tv pv gv) (HM.mem (by repeat constructor))
   have hq2c := hl3.heap (tq.2, Obj.cells #[vi b] 3 (0, 0)) (HM.mem (by repeat constructor))
   refine tc_rangeQ (α := List Int) (β := Nat) (σ := σ × List Int × Bool) (gf := 108) (lb := #[ptr tq.1, ptr tq.2]) (enc := encT s.ps.length) (pre := preT) (timesL s b) ((HcT Hx b5 b4 (s0, List.replicate 10 0, true)).map Prod.fst) (HcT Hx b5 b4) (IcT s b I) (fun c q => c = .ret ∧ J q.1) (s0, List.replicate 10 0, true) rfl rfl (fun _ => rfl) ⟨h0, rfl, rfl⟩ (fun q hq => List.mem_map.2 ⟨q, hq, rfl⟩) (fun w' h => h) (fun w' hw' => ?hseq) ?_ ?_ ?_
   case hseq =>
     have f3 := hw'.fr (w0 := wl3) (S := (HcT Hx b5 b4 (s0, List.replicate 10 0, true)).map Prod.fst) MI.m
     exact times_seq s hv b tv pv gv w' tq.1 tq.2 _ (f3.keepS hq1n hq1c) hq1n (f3.keepS hq2n hq2c) hq2n (fun w'' f => (hrd1 w'' ((hw'.fr (w0 := w1) (S := S) MI.m).trans f hS3)).ps)
   · rintro lr R0 R1 i ⟨st, lst, fst⟩ x y w2 hx hI hpre hkn K hK
     obtain ⟨hI1, hI2, hI3⟩ := hI
     dsimp only at hI1 hI2 hI3 hpre hkn
     have hxl := timesL_len (List.mem_of_getElem? hx)
     have hdt := ddC_take (s := s) (b := b) hx
     cases fst
     all_goals refine tc_region ?_; refine tl_q (y_assign rfl) rfl ?_; refine tl_nil ?_; refine hK ?_; clear hK
     all_goals refine tc_block ?_; refine tc_seq fun K5 hK5 => ?_; refine tc_region ?_; refine tl_q (y_loadNo (n := 7) (vs := [vi s.B, vi s.P, vi s.L, vi s.F, tv, pv, gv]) rfl (fun w' hw' => (CA_whole (c := #[vi s.B, vi s.P, vi s.L, vi s.F, tv, pv, gv]) (t := 42) (f := (0, 0)) rfl).cells ((hw'.fr (w0 := w1) (S := S) MI.m).keepS n1 g1))) rfl ?_; refine tl_q (y_load1o (v := vi b) rfl (fun w' hw' => cell0 ((hw'.fr (w0 := w1) (S := S) MI.m).keepS n2 g2) rfl)) rfl ?_; refine tl_q (y_move rfl) rfl ?_; refine tl_e (e_callX rfl (.cons rfl (.cons rfl (.cons rfl .nil))) (fun w' hw' => chained_c s hf hv b x hxl tv pv gv _ w' (hrd1 w' (hw'.fr (w0 := w1) (S := S) MI.m)) (RdI.ofO ((hw'.fr (w0 := w2) (S := lr :: (HcT Hx b5 b4 (st, lst, _)).map Prod.fst) MI.m).keepS hpre.2 hpre.1) hxl))) rfl (fun z hz => ?_); (have hzl := hz.1.1)
     all_goals refine tl_q (y_move rfl) rfl ?_; refine tl_q (y_extract rfl rfl) rfl ?_; refine tl_q (y_extract rfl rfl) rfl ?_; refine tl_e (e_allocN rfl) rfl (fun b7 _ => ?_); refine tl_e (e_storeW rfl rfl (by repeat constructor) (by rw [isV_size, hzl]) (by rfl) (isV_one _)) rfl (fun _ _ => ?_); refine tl_q (y_assign rfl) rfl ?_; refine tl_nil ?_; ((refine hK5 ?_; try (clear hK5; clear K5)))
     all_goals refine tc_seq fun K6 hK6 => ?_; refine tc_seq fun K7 hK7 => ?_; refine tc_region ?_; refine tl_q (y_move rfl) rfl ?_; refine tl_q (y_not rfl) rfl ?_; refine tl_q (y_move rfl) rfl ?_; ((refine tl_gs rfl rfl (fun hc => ?_) (fun hc => ?_) <;> (try simp only [qn1, qn2, qn3, qn4, qn5, qn6, qn7, qn8] at hc) <;> (first | refine tl_sk rfl rfl rfl rfl ?_ | refine tl_qg rfl rfl (y_load1 rfl (by repeat constructor) (by rfl)) rfl ?_)))
     all_goals (first | refine tl_sk rfl rfl rfl rfl ?_ | refine tl_qg rfl rfl (y_not rfl) rfl ?_); (first | refine tl_sk rfl rfl rfl rfl ?_ | refine tl_qg rfl rfl (y_move rfl) rfl ?_); ((first | refine tl_sk rfl rfl rfl rfl ?_ | refine tl_qg rfl rfl (y_loadW rfl (by repeat constructor) (by rw [isV_size]; omega)) rfl ?_ | refine tl_su rfl rfl rfl ?_))
     all_goals ((first | refine tl_sk rfl rfl rfl rfl ?_ | refine tl_qg rfl rfl (y_loadW rfl (by repeat constructor) (by rw [isV_size]; omega)) rfl ?_ | refine tl_su rfl rfl rfl ?_))
     all_goals (first | refine tl_sk rfl rfl rfl rfl ?_ | refine tl_qg rfl rfl (y_eqlI rfl rfl hzl hI2) rfl ?_ | refine tl_su rfl rfl rfl ?_); (first | refine tl_sk rfl rfl rfl rfl ?_ | refine tl_qg rfl rfl (y_pick_t rfl rfl) rfl ?_ | refine tl_qg rfl rfl (y_pick_f rfl rfl) rfl ?_); (first | refine tl_q (y_pick_t rfl rfl) rfl ?_ | refine tl_q (y_pick_f rfl rfl) rfl ?_); refine tl_nil ?_; ((refine hK7 ?_; try (clear hK7; clear K7)))
     all_goals (
      refine tc_cond rfl (fun hc => ?_) (fun hc => ?_)
      · try simp only [qn1, qn2, qn3, qn4, qn5, qn6, qn7, qn8] at hc
        all_goals ((first | (exfalso; with_reducible exact bft hc) | skip))
        all_goals refine tc_exit ?_
        all_goals (
         repeat (refine tk_ib ?_)
         first
         | (have hI4 := (hqy.resolve_right (fun h => by rw [h.1] at hc; cases hc)).2
            have h0 := hcx
            refine tk_rq (qy.2, z.1, false) ⟨?_, hzl, ?_⟩ (fun _ h => h.subl SB.s SB.s)
            · rw [hdt, List.length_append]; exact hI4
            · rw [hdt, List.getLast?_concat]; rfl)
         | (have hun : ddC s b ((timesL s b).take (i + 1)) = ddC s b ((timesL s b).take i) := by
              rw [hdt]
              rcases hch : chF s b x with _ | c
              · rfl
              · by_cases hs : (chF s b x).isSome = false
                · rw [hch] at hs; cases hs
                · have hz1 := hz.1.2 c hch
                  first
                  | contradiction
                  | (have hl : z.1 = lst := by assumption
                     simp only
                     rw [if_pos (by rw [hI3, if_neg Bool.false_ne_true, ← hl, hz1])])
            refine tk_rq (Jx := fun c q => c = .ret ∧ J q.1) (st, lst, _) ⟨?_, hI2, ?_⟩ (fun _ h => h.subl SB.s SB.s)
            · rw [hun]; exact hI1
            · rw [hun]; exact hI3))
      · try simp only [qn1, qn2, qn3, qn4, qn5, qn6, qn7, qn8] at hc
        all_goals ((first | (exfalso; with_reducible exact btf hc) | skip))
        all_goals refine tc_skip ?_; ((refine hK6 ?_; try (clear hK6; clear K6)))
        all_goals refine tc_seq fun K8 hK8 => ?_; refine tc_seq fun K9 hK9 => ?_; ((obtain ⟨c, hcx⟩ := opt_some (by assumption : (chF s b x).isSome = true); obtain rfl : z.1 = c := hz.1.2 c hcx))
        all_goals (have hne : ¬ (ddC s b ((timesL s b).take i)).getLast? = some z.1 := by
                     rw [hI3]
                     intro e
                     first
                     | (rw [if_pos rfl] at e; cases e; done)
                     | (rw [if_neg Bool.false_ne_true] at e; exact absurd (Option.some.inj e).symm (by assumption)))
        all_goals ((rw [hcx] at hdt; simp only at hdt; rw [if_neg hne] at hdt))
        all_goals (have hget := ddC_get hdt)
        all_goals refine tc_region ?_; refine tl_q (y_load1o (v := .func (.yield l0) #[] #[]) rfl (fun w' hw' => cell0 ((hw'.fr (w0 := wl3) (S := (HcT Hx b5 b4 (s0, List.replicate 10 0, true)).map Prod.fst) MI.m).keepS hb3n hb3c) rfl)) rfl ?_; ((refine tl_q (y_loadW rfl (by repeat constructor) (by rw [isV_size]; omega)) rfl ?_))
        all_goals refine tl_r (e_yieldG (α := σ) (l := l0) (Hx := Hx st) (Hn := Hx) (R := fun b' s' => b' = true ∧ I ((ddC s b ((timesL s b).take i)).length + 1) s' ∨ b' = false ∧ J s') [(b7, _), (lr, R1), (b5, _), (b4, _)] rfl rfl (.cons rfl .nil) rfl (fun w' hw' => hY _ st z.1 w' hget hI1 (hw'.fr (w0 := w1) (S := S) MI.m) (KnS.ofR hw' MI.m))) rfl (fun qy hqy => ?_); refine tl_q (y_not rfl) rfl ?_; refine tl_nil ?_; ((refine hK9 ?_; try (clear hK9; clear K9)))
        all_goals (
         refine tc_cond rfl (fun hc => ?_) (fun hc => ?_)
         · try simp only [qn1, qn2, qn3, qn4, qn5, qn6, qn7, qn8] at hc
           all_goals refine tc_ret ?_; (repeat (first | refine tk_then_ret ?_ | refine tk_block_ret ?_))
           all_goals (
            exact tk_rret (qy.2, lst, _) ⟨rfl, (hqy.resolve_left (fun h => by rw [h.1] at hc; cases hc)).2⟩ (fun _ h => h.subl SB.s SB.s))
         · try simp only [qn1, qn2, qn3, qn4, qn5, qn6, qn7, qn8] at hc
           all_goals refine tc_skip ?_; ((refine hK8 ?_; try (clear hK8; clear K8)))
           all_goals refine tc_region ?_; ((refine tl_q (y_loadW rfl (by repeat constructor) (by rw [isV_size]; omega)) rfl ?_))
           all_goals refine tl_e (e_storeW rfl rfl (by repeat constructor) (by rw [isV_size, hzl]) (by rw [isV_size, hI2]) (isV_one _)) rfl (fun _ _ => ?_); refine tl_e (e_store1 rfl rfl (by repeat constructor) (by repeat constructor) (by rfl) (by rfl)) rfl (fun _ _ => ?_); refine tl_nil ?_
           all_goals (
            repeat (refine tk_ib ?_)
            first
            | (have hI4 := (hqy.resolve_right (fun h => by rw [h.1] at hc; cases hc)).2
               have h0 := hcx
               refine tk_rq (qy.2, z.1, false) ⟨?_, hzl, ?_⟩ (fun _ h => h.subl SB.s SB.s)
               · rw [hdt, List.length_append]; exact hI4
               · rw [hdt, List.getLast?_concat]; rfl)
            | (have hun : ddC s b ((timesL s b).take (i + 1)) = ddC s b ((timesL s b).take i) := by
                 rw [hdt]
                 rcases hch : chF s b x with _ | c
                 · rfl
                 · by_cases hs : (chF s b x).isSome = false
                   · rw [hch] at hs; cases hs
                   · have hz1 := hz.1.2 c hch
                     first
                     | contradiction
                     | (have hl : z.1 = lst := by assumption
                        simp only
                        rw [if_pos (by rw [hI3, if_neg Bool.false_ne_true, ← hl, hz1])])
               refine tk_rq (Jx := fun c q => c = .ret ∧ J q.1) (st, lst, _) ⟨?_, hI2, ?_⟩ (fun _ h => h.subl SB.s SB.s)
               · rw [hun]; exact hI1
               · rw [hun]; exact hI3))))
   · intro D q hI
     obtain ⟨hI1, _, _⟩ := hI
     rw [List.take_length] at hI1
     all_goals (refine tk_endM rfl (by repeat constructor) rfl .nil ?_)
     all_goals (
      exact fun w' hw' => ⟨q.1, rfl, hw'.fr (w0 := w1) (S := S) MI.m, KnS.ofR (L := [_, _, _]) hw' MI.m, .inl hI1⟩)
   · intro D c q hJ
     obtain ⟨rfl, hJ⟩ := hJ
     refine tc_ret ?_
     repeat (refine tk_block_ret ?_)
     refine tk_retM rfl (by repeat constructor) rfl .nil ?_
     exact fun w' hw' => ⟨q.1, rfl, hw'.fr (w0 := w1) (S := S) MI.m, KnS.ofR (L := [_, _, _]) hw' MI.m, .inr hJ⟩)
end Go.Sp
/-
  Package sample: whether a bottle, and a sample, has a truth.
-/
namespace Go.Sp
open Go Go.Proofs
theorem CnX.weak {P : Program} {f : FuncId} {args : Array Value} {w : World} {S : List Nat} {α : Type} {val : α → Value} {p p' : α → World → Prop} (h : CnX P f args w S val p) (hp : ∀ x w', Fr S w w' → p x w' → p' x w') : CnX P f args w S val p' := h.imp id (fun _ => rfl) (fun _ h => h) hp
def possF (s : Smp) (b : Int) : Bool := (chainsL s b).any (canF s b)
theorem chainsL_ok {s : Smp} (hv : VSm s) {b : Int} {c : List Int} (h : c ∈ chainsL s b) : ChOk s c := by
  obtain ⟨ts, _, h2⟩ := (ddC_mem s b c _).1 h
  exact chF_ok hv h2
/-- Whether a sample has a truth: each bottle by itself. -/
def consF (s : Smp) : Bool := (List.range s.B.toNat).all fun b => possF s (b : Int)
theorem consF_no {s : Smp} {k : Nat} (hk : k < s.B.toNat) (h : possF s (k : Int) = false) : consF s = false := by
  cases hg : consF s
  · rfl
  · have := List.all_eq_true.1 hg k (List.mem_range.2 hk)
    rw [h] at this; cases this
theorem consF_yes {s : Smp} (h : ∀ k : Nat, k < s.B.toNat → possF s (k : Int) = true) : consF s = true := List.all_eq_true.2 fun k hk => h k (List.mem_range.1 hk)
end Go.Sp
/-
  Package sample: what is so of a bottle.
-/
namespace Go.Sp
open Go Go.Proofs
structure Kwn where
  hol : List Bool
  opn : List Bool
  least : Int
  sm : Bool
def knL (q : Kwn) : List Value := q.hol.map Value.bool ++ (q.opn.map Value.bool ++ [vi q.least, .bool q.sm])
abbrev knO (q : Kwn) : Obj := .cells (knL q).toArray 89 (0, 0)
structure KnOk (q : Kwn) : Prop where
  h : q.hol.length = 40
  o : q.opn.length = 4
def kn0 : Kwn := ⟨List.replicate 40 false, List.replicate 4 false, 0, false⟩
theorem knL_len {q : Kwn} (h : KnOk q) : (knL q).length = 46 := by unfold knL; simp [h.h, h.o]
theorem knL_one (q : Kwn) : ∀ v ∈ (knL q).toArray.toList, v.oneCell' = true := fun v hv => by
  simp only [knL, List.mem_append, List.mem_map, List.mem_cons, List.not_mem_nil, or_false] at hv
  rcases hv with ⟨_, _, rfl⟩ | ⟨_, _, rfl⟩ | rfl | rfl <;> rfl
theorem cellK_o {q : Kwn} (hq : KnOk q) {e : TypeId} {f : Nat × Nat} {o : Nat} (ho : o < 4) : cellAt (.cells (knL q).toArray e f) (40 + o) = some (.bool (q.opn.getD o false)) := by
  simp only [cellAt, lget_eq]
  unfold knL
  rw [List.getElem?_append_right (by simp [hq.h]), List.getElem?_append_left (by simp [hq.h, hq.o]; exact ho), List.getElem?_map, List.getD_eq_getElem?_getD]
  simp only [List.length_map, hq.h, Nat.add_sub_cancel_left]
  rw [List.getElem?_eq_getElem (by rw [hq.o]; exact ho)]; rfl
theorem cellK_l {q : Kwn} (hq : KnOk q) {e : TypeId} {f : Nat × Nat} : cellAt (.cells (knL q).toArray e f) 44 = some (vi q.least) := by
  simp only [cellAt, lget_eq]
  unfold knL
  rw [List.getElem?_append_right (by simp [hq.h]), List.getElem?_append_right (by simp [hq.h, hq.o])]
  simp [hq.h, hq.o]
theorem cellK_s {q : Kwn} (hq : KnOk q) {e : TypeId} {f : Nat × Nat} : cellAt (.cells (knL q).toArray e f) 45 = some (.bool q.sm) := by
  simp only [cellAt, lget_eq]
  unfold knL
  rw [List.getElem?_append_right (by simp [hq.h]), List.getElem?_append_right (by simp [hq.h, hq.o])]
  simp [hq.h, hq.o]
theorem setK_h {q : Kwn} (hq : KnOk q) {o : Nat} (ho : o < 40) (v : Bool) : (knL q).toArray.setIfInBounds o (.bool v) = (knL { q with hol := q.hol.set o v }).toArray := by
  rw [List.setIfInBounds_toArray]
  unfold knL
  rw [List.set_append_left _ _ (by simp [hq.h]; exact ho), List.map_set]
theorem setK_o {q : Kwn} (hq : KnOk q) {o : Nat} (ho : o < 4) (v : Bool) : (knL q).toArray.setIfInBounds (40 + o) (.bool v) = (knL { q with opn := q.opn.set o v }).toArray := by
  rw [List.setIfInBounds_toArray]
  unfold knL
  rw [List.set_append_right _ _ (by simp [hq.h]), List.length_map, hq.h, Nat.add_sub_cancel_left, List.set_append_left _ _ (by simp [hq.o]; exact ho), List.map_set]
theorem setK_l {q : Kwn} (hq : KnOk q) (v : Int) : (knL q).toArray.setIfInBounds 44 (vi v) = (knL { q with least := v }).toArray := by
  rw [List.setIfInBounds_toArray]
  unfold knL
  rw [List.set_append_right _ _ (by simp [hq.h]), List.set_append_right _ _ (by simp [hq.h, hq.o])]
  simp [hq.h, hq.o]
theorem setK_s {q : Kwn} (hq : KnOk q) (v : Bool) : (knL q).toArray.setIfInBounds 45 (.bool v) = (knL { q with sm := v }).toArray := by
  rw [List.setIfInBounds_toArray]
  unfold knL
  rw [List.set_append_right _ _ (by simp [hq.h]), List.set_append_right _ _ (by simp [hq.h, hq.o])]
  simp [hq.h, hq.o]
section
variable {P : Program} {N : NN} {F : List (Nat × Value)} {bs : List (World × List Nat)} {H : List (Nat × Obj)} {ty : TypeId} {pos : String} {after : Array Edge} {g : Option (Nat × Bool)} {x y : Operand} {b o : Nat} {e : TypeId} {H' : List (Nat × Obj)}
theorem e_storeKh {t : TypeId} {z : Value} [TyOne P t z] {q : Kwn} {v : Bool} (hq : KnOk q) (ho : o < 40) (hx : evalO F x = some (.pointer (some ⟨b, o, none⟩))) (hy : evalO F y = some (.bool v))
    (hu : HU b (.cells (knL q).toArray e (0, 0)) (.cells (knL { q with hol := q.hol.set o v }).toArray e (0, 0)) H H') :
    OpE P ⟨none, .store t x y, ty, pos, after, g⟩ N F bs H (fun _ : Unit => True) (fun _ => F) (fun _ => bs) (fun _ => H') :=
  e_store1g hx hy rfl rfl (by rw [List.size_toArray, knL_len hq]; omega) (by rw [setK_h hq ho]; exact hu)
theorem e_storeKo {t : TypeId} {z : Value} [TyOne P t z] {q : Kwn} {v : Bool} {i : Nat} (hq : KnOk q) (ho : i < 4) (hx : evalO F x = some (.pointer (some ⟨b, 40 + i, none⟩))) (hy : evalO F y = some (.bool v))
    (hu : HU b (.cells (knL q).toArray e (0, 0)) (.cells (knL { q with opn := q.opn.set i v }).toArray e (0, 0)) H H') :
    OpE P ⟨none, .store t x y, ty, pos, after, g⟩ N F bs H (fun _ : Unit => True) (fun _ => F) (fun _ => bs) (fun _ => H') :=
  e_store1g hx hy rfl rfl (by rw [List.size_toArray, knL_len hq]; omega) (by rw [setK_o hq ho]; exact hu)
theorem e_storeKl {t : TypeId} {z : Value} [TyOne P t z] {q : Kwn} {v : Int} (hq : KnOk q) (hx : evalO F x = some (.pointer (some ⟨b, 44, none⟩))) (hy : evalO F y = some (vi v))
    (hu : HU b (.cells (knL q).toArray e (0, 0)) (.cells (knL { q with least := v }).toArray e (0, 0)) H H') :
    OpE P ⟨none, .store t x y, ty, pos, after, g⟩ N F bs H (fun _ : Unit => True) (fun _ => F) (fun _ => bs) (fun _ => H') :=
  e_store1g hx hy rfl rfl (by rw [List.size_toArray, knL_len hq]; omega) (by rw [setK_l hq]; exact hu)
theorem e_storeKs {t : TypeId} {z : Value} [TyOne P t z] {q : Kwn} {v : Bool} (hq : KnOk q) (hx : evalO F x = some (.pointer (some ⟨b, 45, none⟩))) (hy : evalO F y = some (.bool v))
    (hu : HU b (.cells (knL q).toArray e (0, 0)) (.cells (knL { q with sm := v }).toArray e (0, 0)) H H') :
    OpE P ⟨none, .store t x y, ty, pos, after, g⟩ N F bs H (fun _ : Unit => True) (fun _ => F) (fun _ => bs) (fun _ => H') :=
  e_store1g hx hy rfl rfl (by rw [List.size_toArray, knL_len hq]; omega) (by rw [setK_s hq]; exact hu)
end
def hlN (c : List Int) (q : Kwn) : Nat → List Bool
  | 0 => q.hol
  | n + 1 => (hlN c q n).set (0 + Int.toNat (n : Int) * 4 + Int.toNat (c.getD (0 + Int.toNat (n : Int) * 1) 0) * 1) true
def opN (c : List Int) (o : List Bool) (q : Kwn) : Nat → List Bool
  | 0 => q.opn
  | n + 1 => (opN c o q n).set (Int.toNat (c.getD (0 + Int.toNat (n : Int) * 1) 0) * 1) ((opN c o q n).getD (Int.toNat (c.getD (0 + Int.toNat (n : Int) * 1) 0) * 1) false || o.getD (0 + Int.toNat (n : Int) * 1) false)
def lsN (s : Smp) (b : Int) (c : List Int) : Int := (rstF s b c (s.L + 1).toNat false).getD 0
def kqN (s : Smp) (b : Int) (c : List Int) (q : Kwn) (n : Nat) : Kwn := { q with hol := hlN c q n, opn := opN c (opnL s b c) q n }
def askU (s : Smp) (b : Int) (q : Kwn) (c : List Int) : Kwn :=
  if canF s b c = true then ⟨hlN c q (s.L + 1).toNat, opN c (opnL s b c) q (s.L + 1).toNat, if q.sm = true ∧ ¬ lsN s b c < q.least then q.least else lsN s b c, true⟩ else q
def askF (s : Smp) (b : Int) : Kwn := (chainsL s b).foldl (askU s b) kn0
theorem kqN_ok {s : Smp} {b : Int} {c : List Int} {q : Kwn} (h : KnOk q) (n : Nat) : KnOk (kqN s b c q n) := by
  constructor
  · show (hlN c q n).length = 40
    induction n with
    | zero => exact h.h
    | succ n ih => rw [hlN, List.length_set]; exact ih
  · show (opN c (opnL s b c) q n).length = 4
    induction n with
    | zero => exact h.o
    | succ n ih => rw [opN, List.length_set]; exact ih
theorem askU_ok {s : Smp} {b : Int} {c : List Int} {q : Kwn} (h : KnOk q) : KnOk (askU s b q c) := by
  unfold askU
  split
  · exact ⟨(kqN_ok (s := s) (b := b) h _).h, (kqN_ok (s := s) (b := b) h _).o⟩
  · exact h
theorem opN_t {c : List Int} {o : List Bool} {q : Kwn} {n : Nat} (h : (opN c o q n).getD (Int.toNat (c.getD (0 + Int.toNat (n : Int) * 1) 0) * 1) false = true) : opN c o q (n + 1) = (opN c o q n).set (Int.toNat (c.getD (0 + Int.toNat (n : Int) * 1) 0) * 1) true := by rw [opN, h]; rfl
theorem opN_f {c : List Int} {o : List Bool} {q : Kwn} {n : Nat} (h : (opN c o q n).getD (Int.toNat (c.getD (0 + Int.toNat (n : Int) * 1) 0) * 1) false = false) : opN c o q (n + 1) = (opN c o q n).set (Int.toNat (c.getD (0 + Int.toNat (n : Int) * 1) 0) * 1) (o.getD (0 + Int.toNat (n : Int) * 1) false) := by rw [opN, h]; rfl
theorem foldl_take {α β : Type} (f : β → α → β) (z : β) {l : List α} {i : Nat} {x : α} (h : l[i]? = some x) : (l.take (i + 1)).foldl f z = f ((l.take i).foldl f z) x := by
  rw [List.take_succ, h, List.foldl_append]; rfl
theorem foldl_ok {s : Smp} {b : Int} (l : List (List Int)) : KnOk (l.foldl (askU s b) kn0) := by
  have : ∀ (l : List (List Int)) (q : Kwn), KnOk q → KnOk (l.foldl (askU s b) q) := fun l => by
    induction l with
    | nil => intro q h; exact h
    | cons c l ih => intro q h; exact ih _ (askU_ok h)
  exact this l kn0 ⟨rfl, rfl⟩
set_option maxHeartbeats 4000000 in
theorem ask_c (s : Smp) (hf : Few s) (hv : VSm s) (b : Int) (tv pv gv : Value) (w : World) (hr : RdSm w s tv pv gv) : CnV Tryz.prog 36 #[smV s tv pv gv, vi b] w (.agg (knL (askF s b)).toArray) := by
  have hr0 := hr
  have hl0 := hv.l0
  have hl9 := hv.l9
  have hp4 := hv.p4
  refine cnv (vs := [_, _]) Tryz.func36 rfl rfl ?_
  all_goals refine tc_seq fun K1 hK1 => ?_; refine tc_region ?_; refine tl_e (e_box rfl rfl rfl) rfl (fun b2 _ => ?_); refine tl_e (e_box rfl rfl rfl) rfl (fun b3 _ => ?_); refine tl_e (e_allocN rfl) rfl (fun b4 _ => ?_); refine tl_nil ?_; ((refine hK1 ?_; try (clear hK1; clear K1)))
  all_goals refine tc_seq fun K2 hK2 => ?_; refine tc_seq fun K3 hK3 => ?_; refine tc_region ?_; refine tl_q (y_loadW rfl (by repeat constructor) (by rfl)) rfl ?_; refine tl_q (y_load1 rfl (by repeat constructor) (by rfl)) rfl ?_; refine tl_e (e_callN rfl (.cons rfl (.cons rfl .nil)) (fun w' hw' => chains_c s b tv pv gv w')) rfl (fun tq htq => ?_); refine tl_nil ?_; ((refine hK3 ?_; try (clear hK3; clear K3)))
  all_goals refine tc_block ?_
  all_goals (
   refine tc_lay [(b4, knO kn0)] SB.s (fun wl1 hl1 => ?_)
   have hn : tq.1 ∉ [b4] ∧ tq.2 ∉ [b4] ∧ b3 ∉ [b4] ∧ b2 ∉ [b4] := by have := hl1.nodup; simp at this ⊢; omega
   have hb4 : w.heap.size ≤ b4 := (hl1.own _ (HM.mem (b := b4) (by repeat constructor)) (w, []) (by simp)).resolve_left (by simp)
   refine tc_rangeU (α := List Int) (σ := Kwn) (gf := 87) (lb := #[ptr tq.1, ptr tq.2]) (enc := encC) (chainsL s b) [b4] (fun q => [(b4, knO q)]) (fun i q => q = ((chainsL s b).take i).foldl (askU s b) kn0) (fun _ _ => False) kn0 rfl rfl (fun _ => rfl) rfl (fun q hq => by obtain rfl := List.mem_singleton.1 hq; simp) (fun w' h => h) (fun w' hw' => ?hseq) ?_ ?_ ?_
   case hseq =>
     have f3 := hw'.fr (w0 := wl1) (S := [b4]) MI.m
     exact chains_seq s hf hv b tv pv gv w' tq.1 tq.2 _ (f3.keepS hn.1 (hl1.at (by repeat constructor))) hn.1 (f3.keepS hn.2.1 (hl1.at (by repeat constructor))) hn.2.1 (fun w'' f => hr0.fr ((hw'.fr (w0 := w) (S := []) MI.m).trans f (fun x hx => .inr (by obtain rfl := List.mem_singleton.1 hx; exact hb4))))
   · intro lr R0 R1 i q c w2 hx hI K hK
     have hco := chainsL_ok hv (List.mem_of_getElem? hx)
     have hcl := hco.len
     have hqk : KnOk q := by rw [hI]; exact foldl_ok _
     all_goals refine tc_region ?_; refine tl_e (e_allocN rfl) rfl (fun b5 _ => ?_); refine tl_e (e_storeW rfl rfl (by repeat constructor) (by rw [isV_size, hcl]) (by rfl) (isV_one _)) rfl (fun _ _ => ?_); refine tl_nil ?_; refine hK (by repeat constructor) ?_; clear hK
     all_goals refine tc_block ?_; refine tc_seq fun K4 hK4 => ?_; refine tc_region ?_; refine tl_q (y_loadNo (n := 7) (vs := [vi s.B, vi s.P, vi s.L, vi s.F, tv, pv, gv]) rfl (fun w' hw' => (CA_whole (c := #[vi s.B, vi s.P, vi s.L, vi s.F, tv, pv, gv]) (t := 42) (f := (0, 0)) rfl).cells ((hw'.fr (w0 := wl1) (S := [b4]) MI.m).keepS hn.2.2.2 (hl1.at (b := b2) (by repeat constructor))))) rfl ?_; refine tl_q (y_load1o (v := vi b) rfl (fun w' hw' => cell0 ((hw'.fr (w0 := wl1) (S := [b4]) MI.m).keepS hn.2.2.1 (hl1.at (b := b3) (by repeat constructor))) rfl)) rfl ?_; refine tl_q (y_loadW rfl (by repeat constructor) (by rw [isV_size, hcl])) rfl ?_; (refine tl_e (e_callX rfl (.cons rfl (.cons rfl (.cons rfl .nil))) (fun w' hw' => (work_c s hf hv b c hco tv pv gv w' (hr0.fr (hw'.fr (w0 := w) (S := []) MI.m))).weak (p' := fun y w2 => Wd w2 s tv pv gv b c y.1 y.2.1 y.2.2.1 y.2.2.2 ∧ y.1 ∉ [b5, lr, b4] ∧ y.2.1 ∉ [b5, lr, b4]) (fun y w2 _ h => ⟨⟨h.1.1, h.1.2.1, h.1.2.2.1, h.1.2.2.2⟩, by have h2 := hw'.lt (HM.mem (b := b5) (by repeat constructor)); have h3 := hw'.lt (HM.mem (b := b4) (by repeat constructor)); have h4 := hw'.lt (HM.mem (b := lr) (by repeat constructor)); have h5 := h.2; simp only [List.mem_cons, List.not_mem_nil, or_false]; omega⟩))) rfl (fun y hy => ?_))
     all_goals refine tl_q (y_assign rfl) rfl ?_; refine tl_nil ?_; ((refine hK4 ?_; try (clear hK4; clear K4)))
     all_goals refine tc_seq fun K5 hK5 => ?_; refine tc_seq fun K6 hK6 => ?_; (have hWd : ∀ w', Fr [b5, lr, b4] y.2 w' → Fr [] w w' → Wd w' s tv pv gv b c y.1.1 y.1.2.1 y.1.2.2.1 y.1.2.2.2 := fun w' f f0 => ⟨⟨f.keepS hy.1.2.1 hy.1.1.wk.hw, hr0.fr f0⟩, f.keepS hy.1.2.2 hy.1.1.hm, hy.1.1.kb, hy.1.1.fb⟩)
     all_goals refine tc_region ?_; refine tl_q (y_move rfl) rfl ?_; refine tl_e (e_callV rfl (.cons rfl .nil) (fun w' hw' => can_c s hv.l0 b c hcl tv pv gv y.1.1 y.1.2.1 y.1.2.2.1 y.1.2.2.2 w' (hWd w' (hw'.fr (w0 := y.2) (S := [b5, lr, b4]) MI.m) (hw'.fr (w0 := w) (S := []) MI.m)))) rfl (fun _ _ => ?_); refine tl_q (y_not rfl) rfl ?_; refine tl_nil ?_; ((refine hK6 ?_; try (clear hK6; clear K6)))
     all_goals (
      refine tc_cond rfl (fun hc => ?_) (fun hc => ?_)
      · try simp only [qn1, qn2, qn3, qn4, qn5, qn6, qn7, qn8] at hc
        all_goals refine tc_exit ?_
        all_goals (
         repeat (refine tk_ib ?_)
         have hfold := foldl_take (askU s b) kn0 hx
         rw [← hI] at hfold
         first
         | (have hcy' := hcy
            first
            | (have hls' := hls
               have hu : askU s b q c = ⟨hlN c q (s.L + 1).toNat, opN c (opnL s b c) q (s.L + 1).toNat, lsN s b c, true⟩ := by unfold askU; rw [if_pos hcy', if_neg hls']
               rw [hu] at hfold
               exact tk_rq (Jx := fun _ _ => False) ⟨hlN c q (s.L + 1).toNat, opN c (opnL s b c) q (s.L + 1).toNat, lsN s b c, true⟩ hfold.symm (fun _ h => h.subl SB.s SB.s))
            | (have hns : q.sm = true ∧ ¬ lsN s b c < q.least := ⟨by assumption, by unfold lsN; omega⟩
               have hu : askU s b q c = ⟨hlN c q (s.L + 1).toNat, opN c (opnL s b c) q (s.L + 1).toNat, q.least, true⟩ := by unfold askU; rw [if_pos hcy', if_pos hns]
               rw [hu] at hfold
               exact tk_rq (Jx := fun _ _ => False) ⟨hlN c q (s.L + 1).toNat, opN c (opnL s b c) q (s.L + 1).toNat, q.least, true⟩ hfold.symm (fun _ h => h.subl SB.s SB.s)))
         | (have hu : askU s b q c = q := by unfold askU; rw [if_neg (by rw [hc]; exact Bool.false_ne_true)]
            rw [hu] at hfold
            exact tk_rq (Jx := fun _ _ => False) q hfold.symm (fun _ h => h.subl SB.s SB.s)))
      · try simp only [qn1, qn2, qn3, qn4, qn5, qn6, qn7, qn8] at hc
        all_goals refine tc_skip ?_; ((refine hK5 ?_; try (clear hK5; clear K5)))
        all_goals refine tc_seq fun K7 hK7 => ?_; have hcy := hc
        all_goals refine tc_region ?_; refine tl_q (y_move rfl) rfl ?_; refine tl_e (e_callV rfl (.cons rfl .nil) (fun w' hw' => open_c s hf hv b c hco tv pv gv y.1.1 y.1.2.1 y.1.2.2.1 y.1.2.2.2 w' (hWd w' (hw'.fr (w0 := y.2) (S := [b5, lr, b4]) MI.m) (hw'.fr (w0 := w) (S := []) MI.m)))) rfl (fun _ _ => ?_); refine tl_e (e_allocN rfl) rfl (fun b7 _ => ?_); refine tl_e (e_storeW rfl rfl (by repeat constructor) (by rw [bsV_size, outN_len]) (by rfl) (bsV_one _)) rfl (fun _ _ => ?_); refine tl_nil ?_; ((refine hK7 ?_; try (clear hK7; clear K7)))
        all_goals refine tc_seq fun K8 hK8 => ?_; refine tc_seq fun K9 hK9 => ?_; refine tc_region ?_; refine tl_q (y_field rfl) rfl ?_; refine tl_q (y_load1o (v := vi s.L) rfl (fun w' hw' => cell0 ((hw'.fr (w0 := wl1) (S := [b4]) MI.m).keepS hn.2.2.2 (hl1.at (b := b2) (by repeat constructor))) rfl)) rfl ?_; refine tl_q (y_add rfl rfl (by omega)) rfl ?_; refine tl_q (y_move rfl) rfl ?_; refine tl_nil ?_; ((refine hK9 ?_; try (clear hK9; clear K9)))
        all_goals refine tc_block ?_
        all_goals (
         refine tc_loop (fun h : Nat => (h : Int) ≤ s.L + 1) (fun h => [(4, ptr b4), (5, ptr b5), (6, ptr y.1.1), (7, ptr b7), (25, vi (s.L + 1)), (26, vi h)]) (fun _ => [(y.2, [b5, lr, b4]), (w2, [lr, b4]), (wl1, [b4]), (w, [])]) (fun h => [(b7, .cells (bsV (opnL s b c)) 146 (0, 0)), (b5, .cells (isV c) 143 (0, 0)), (lr, R1), (b4, knO (kqN s b c q h))]) (fun h => (s.L + 1).toNat - h) ?_ ?_
         · exact tk_start 0 (by omega) (.cons rfl (.cons rfl (.cons rfl (.cons rfl (.cons rfl (.cons rfl .nil)))))) (fun _ h => h.subl SB.s SB.s)
         · rintro h hh
           have hko := kqN_ok (s := s) (b := b) (c := c) hqk h
           all_goals refine tc_seq fun K10 hK10 => ?_; refine tc_region ?_; refine tl_q (y_lss rfl rfl) rfl ?_; refine tl_nil ?_; ((refine hK10 ?_; try (clear hK10; clear K10)))
           all_goals refine tc_seq fun K11 hK11 => ?_
           all_goals (
            refine tc_cond rfl (fun hc => ?_) (fun hc => ?_)
            · try simp only [qn1, qn2, qn3, qn4, qn5, qn6, qn7, qn8] at hc
              all_goals refine tc_skip ?_; ((refine hK11 ?_; try (clear hK11; clear K11)))
              all_goals refine tc_seq fun K12 hK12 => ?_; refine tc_block ?_; refine tc_seq fun K13 hK13 => ?_; refine tc_region ?_; refine tl_q (y_move rfl) rfl ?_; refine tl_q (y_assign rfl) rfl ?_; refine tl_nil ?_; ((refine hK13 ?_; try (clear hK13; clear K13)))
              all_goals refine tc_seq fun K14 hK14 => ?_; ((have hch := hco.pp h (by omega); rw [show h = 0 + Int.toNat (h : Int) * 1 from by omega] at hch))
              all_goals refine tc_draw (by kernel_rfl) ?_; refine tx_p 0 rfl (by kernel_rfl) (y_move rfl) rfl (fun _ _ _ h => h) (fun _ h => h) ?_; refine tx_p 1 rfl (by kernel_rfl) (y_move rfl) rfl (fun _ _ _ h => h) (fun _ h => h) ?_; refine tx_p 2 rfl (by kernel_rfl) (y_indexA rfl rfl (by omega)) rfl (fun _ _ _ h => h) (fun _ h => h) ?_; refine tx_q 3 rfl (by kernel_rfl) (y_load1 (v := vi (c.getD (0 + Int.toNat (h : Int) * 1) 0)) rfl (by repeat constructor) (cellAt_is (by omega))) rfl (fun _ _ _ h => h) (fun _ h => h) ?_; refine tx_p 4 rfl (by kernel_rfl) (y_field rfl) rfl (fun _ _ _ h => h) (fun _ h => h) ?_; refine tx_p 5 rfl (by kernel_rfl) (y_indexA rfl rfl (by omega)) rfl (fun _ _ _ h => h) (fun _ h => h) ?_; refine tx_p 6 rfl (by kernel_rfl) (y_indexA rfl rfl (by omega)) rfl (fun _ _ _ h => h) (fun _ h => h) ?_; refine tx_e 7 rfl (by kernel_rfl) rfl (e_storeKh (q := kqN s b c q h) hko (by omega) rfl rfl (by repeat constructor)) (.inl (by kernel_rfl)) (fun _ _ => ?_); refine tx_done (by kernel_rfl) ?_; ((refine hK14 ?_; try (clear hK14; clear K14)))
              all_goals refine tc_drawS ([(b7, .cells (bsV (opnL s b c)) 146 (0, 0)), (b5, .cells (isV c) 143 (0, 0))]) (by kernel_rfl) ?_; refine tx_p 0 rfl (by kernel_rfl) (y_move rfl) rfl (fun _ _ _ h => h) (fun _ h => h.subl SB.s SB.s) ?_; refine tx_p 1 rfl (by kernel_rfl) (y_indexA rfl rfl (by omega)) rfl (fun _ _ _ h => h) (fun _ h => h.subl SB.s SB.s) ?_; refine tx_qS 2 rfl (by kernel_rfl) (y_load1 (v := vi (c.getD (0 + Int.toNat (h : Int) * 1) 0)) rfl (by repeat constructor) (cellAt_is (by omega))) rfl (fun _ _ _ h => h) (fun _ h => h.subl SB.s SB.s) ?_; refine tx_p 3 rfl (by kernel_rfl) (y_move rfl) rfl (fun _ _ _ h => h) (fun _ h => h.subl SB.s SB.s) ?_; refine tx_p 4 rfl (by kernel_rfl) (y_indexA rfl rfl (by omega)) rfl (fun _ _ _ h => h) (fun _ h => h.subl SB.s SB.s) ?_; refine tx_qS 5 rfl (by kernel_rfl) (y_load1 (v := vi (c.getD (0 + Int.toNat (h : Int) * 1) 0)) rfl (by repeat constructor) (cellAt_is (by omega))) rfl (fun _ _ _ h => h) (fun _ h => h.subl SB.s SB.s) ?_; refine tx_p 6 rfl (by kernel_rfl) (y_field rfl) rfl (fun _ _ _ h => h) (fun _ h => h.subl SB.s SB.s) ?_; refine tx_p 7 rfl (by kernel_rfl) (y_indexA rfl rfl (by omega)) rfl (fun _ _ _ h => h) (fun _ h => h.subl SB.s SB.s) ?_; refine tx_p 14 rfl (by kernel_rfl) (y_field rfl) rfl (fun _ _ _ h => h) (fun _ h => h.subl SB.s SB.s) ?_; refine tx_single 8 (by kernel_rfl) (to_e rfl rfl (e_y rfl (y_load1 (v := .bool ((kqN s b c q h).opn.getD (Int.toNat (c.getD (0 + Int.toNat (h : Int) * 1) 0) * 1) false)) rfl (by repeat constructor) (cellK_o (q := { kqN s b c q h with hol := hlN c q (h + 1) }) ⟨(kqN_ok (s := s) (b := b) hqk (h + 1)).h, hko.o⟩ (by omega)))) (.inr ⟨fun _ _ h => h.subl SB.s SB.s, fun _ h => h⟩) (fun _ _ => ?_)); refine tx_p 9 rfl (by kernel_rfl) (y_move rfl) rfl (fun _ _ _ h => h) (fun _ h => h.subl SB.s SB.s) ?_; ((refine tx_gs 45 rfl (fun hc => ?_) (fun hc => ?_) <;> (try simp only [qn1, qn2, qn3, qn4, qn5, qn6, qn7, qn8] at hc) <;> (first | refine tx_sk 10 rfl (by kernel_rfl) rfl rfl rfl rfl (fun _ _ _ h => h) (fun _ h => h.subl SB.s SB.s) ?_ | refine tx_pg 10 rfl (by kernel_rfl) rfl rfl (y_move rfl) rfl (fun _ _ _ h => h) (fun _ h => h.subl SB.s SB.s) ?_)))
              all_goals (first | refine tx_sk 11 rfl (by kernel_rfl) rfl rfl rfl rfl (fun _ _ _ h => h) (fun _ h => h.subl SB.s SB.s) ?_ | refine tx_pg 11 rfl (by kernel_rfl) rfl rfl (y_indexA rfl rfl (by omega)) rfl (fun _ _ _ h => h) (fun _ h => h.subl SB.s SB.s) ?_); ((first | refine tx_sk 12 rfl (by kernel_rfl) rfl rfl rfl rfl (fun _ _ _ h => h) (fun _ h => h.subl SB.s SB.s) ?_ | refine tx_qg 12 rfl (by kernel_rfl) rfl rfl (y_load1 (v := .bool ((opnL s b c).getD (0 + Int.toNat (h : Int) * 1) false)) rfl (by repeat constructor) (cellAt_bs (by rw [outN_len]; omega))) rfl (fun _ _ _ h => h) (fun _ h => h.subl SB.s SB.s) ?_))
              all_goals (first | refine tx_p 13 rfl (by kernel_rfl) (y_pick_t rfl rfl) rfl (fun _ _ _ h => h) (fun _ h => h.subl SB.s SB.s) ?_ | refine tx_p 13 rfl (by kernel_rfl) (y_pick_f rfl rfl) rfl (fun _ _ _ h => h) (fun _ h => h.subl SB.s SB.s) ?_); refine tx_p 15 rfl (by kernel_rfl) (y_indexA rfl rfl (by omega)) rfl (fun _ _ _ h => h) (fun _ h => h.subl SB.s SB.s) ?_; refine tx_single 16 (by kernel_rfl) (to_e (S' := HG [] []) rfl rfl (e_storeKo (q := { kqN s b c q h with hol := hlN c q (h + 1) }) (i := Int.toNat (c.getD (0 + Int.toNat (h : Int) * 1) 0) * 1) ⟨(kqN_ok (s := s) (b := b) hqk (h + 1)).h, hko.o⟩ (by omega) rfl rfl (by repeat constructor)) (.inl (by kernel_rfl)) (fun _ _ => ?_)); refine tx_done (by kernel_rfl) ?_; have hcv := hc
              all_goals ((refine hK12 ?_; try (clear hK12; clear K12)))
              all_goals refine tc_region ?_; refine tl_q (y_add rfl rfl (by omega)) rfl ?_; refine tl_q (y_move rfl) rfl ?_; refine tl_nil ?_
              all_goals (
               first
               | have ho := opN_t hcv
               | have ho := opN_f hcv
               exact tk_round (h + 1) (by omega) (by omega) (.cons rfl (.cons rfl (.cons rfl (.cons rfl (.cons rfl (.cons rfl .nil)))))) (fun _ hg => by unfold kqN; rw [ho]; exact hg.subl SB.s SB.s))
            · try simp only [qn1, qn2, qn3, qn4, qn5, qn6, qn7, qn8] at hc
              all_goals refine tc_exit ?_; ((refine hK8 ?_; try (clear hK8; clear K8)))
              all_goals refine tc_seq fun K15 hK15 => ?_; (obtain rfl : h = (s.L + 1).toNat := by omega)
              all_goals (have hko2 := hko)
              all_goals refine tc_draw (by kernel_rfl) ?_; refine tx_p 0 rfl (by kernel_rfl) (y_move rfl) rfl (fun _ _ _ h => h) (fun _ h => h) ?_; refine tx_p 1 rfl (by kernel_rfl) (y_nil rfl) rfl (fun _ _ _ h => h) (fun _ h => h) ?_; refine tx_p 2 rfl (by kernel_rfl) (y_field rfl) rfl (fun _ _ _ h => h) (fun _ h => h) ?_; refine tx_q 3 rfl (by kernel_rfl) (y_load1o (v := .map (some y.1.2.1)) rfl (fun w' hw' => wk_map (hWd w' (hw'.fr (w0 := y.2) (S := [b5, lr, b4]) MI.m) (hw'.fr (w0 := w) (S := []) MI.m)).wk.hw hcl)) rfl (fun _ _ _ h => h) (fun _ h => h) ?_; refine tx_p 4 rfl (by kernel_rfl) (y_move rfl) rfl (fun _ _ _ h => h) (fun _ h => h) ?_; refine tx_e 5 rfl (by kernel_rfl) rfl (e_callV rfl (.cons rfl .nil) (fun w' _ => begin_c y.1.1 w')) (.inr fun _ _ h => h) (fun _ _ => ?_); refine tx_q 6 rfl (by kernel_rfl) (y_lookupB1o rfl rfl (fun w' hw' => (hWd w' (hw'.fr (w0 := y.2) (S := [b5, lr, b4]) MI.m) (hw'.fr (w0 := w) (S := []) MI.m)).hm) hy.1.1.kb ((hy.1.1.fb _ _).trans (restM_ini hl0 false))) rfl (fun _ _ _ h => h) (fun _ h => h) ?_; refine tx_p 7 rfl (by kernel_rfl) (y_assign rfl) rfl (fun _ _ _ h => h) (fun _ h => h) ?_; refine tx_done (by kernel_rfl) ?_; ((refine hK15 ?_; try (clear hK15; clear K15)))
              all_goals refine tc_seq fun K16 hK16 => ?_; refine tc_seq fun K17 hK17 => ?_; refine tc_region ?_; refine tl_q (y_field rfl) rfl ?_; refine tl_q (y_load1 (v := .bool q.sm) rfl (by repeat constructor) (cellK_s (q := kqN s b c q (s.L + 1).toNat) hko2)) rfl ?_; refine tl_q (y_not rfl) rfl ?_; refine tl_q (y_move rfl) rfl ?_; ((refine tl_gs rfl rfl (fun hc => ?_) (fun hc => ?_) <;> (try simp only [qn1, qn2, qn3, qn4, qn5, qn6, qn7, qn8] at hc) <;> (first | refine tl_sk rfl rfl rfl rfl ?_ | refine tl_qg rfl rfl (y_move rfl) rfl ?_)))
              all_goals (first | refine tl_sk rfl rfl rfl rfl ?_ | refine tl_qg rfl rfl (y_field rfl) rfl ?_); (first | refine tl_sk rfl rfl rfl rfl ?_ | refine tl_qg rfl rfl (y_load1 (v := vi q.least) rfl (by repeat constructor) (cellK_l (q := kqN s b c q (s.L + 1).toNat) hko2)) rfl ?_); (first | refine tl_sk rfl rfl rfl rfl ?_ | refine tl_qg rfl rfl (y_lss rfl rfl) rfl ?_); (first | refine tl_q (y_pick_t rfl rfl) rfl ?_ | refine tl_q (y_pick_f rfl rfl) rfl ?_); refine tl_nil ?_; ((refine hK17 ?_; try (clear hK17; clear K17)))
              all_goals (
               refine tc_cond rfl (fun hc => ?_) (fun hc => ?_)
               · try simp only [qn1, qn2, qn3, qn4, qn5, qn6, qn7, qn8] at hc
                 all_goals (have hls : ¬ (q.sm = true ∧ ¬ lsN s b c < q.least) := by
                              rintro ⟨h1, h2⟩
                              first
                              | exact h2 hc
                              | simp_all)
                 all_goals refine tc_region ?_; refine tl_q (y_move rfl) rfl ?_; refine tl_q (y_field rfl) rfl ?_; refine tl_e (e_storeKl (q := kqN s b c q (s.L + 1).toNat) hko2 rfl rfl (by repeat constructor)) rfl (fun _ _ => ?_); refine tl_nil ?_; ((refine hK16 ?_; try (clear hK16; clear K16)))
                 all_goals refine tc_region ?_; refine tl_q (y_field rfl) rfl ?_; refine tl_e (e_storeKs (q := { kqN s b c q (s.L + 1).toNat with least := lsN s b c }) ⟨hko2.h, hko2.o⟩ rfl rfl (by repeat constructor)) rfl (fun _ _ => ?_); refine tl_nil ?_
                 all_goals (
                  repeat (refine tk_ib ?_)
                  have hfold := foldl_take (askU s b) kn0 hx
                  rw [← hI] at hfold
                  first
                  | (have hcy' := hcy
                     first
                     | (have hls' := hls
                        have hu : askU s b q c = ⟨hlN c q (s.L + 1).toNat, opN c (opnL s b c) q (s.L + 1).toNat, lsN s b c, true⟩ := by unfold askU; rw [if_pos hcy', if_neg hls']
                        rw [hu] at hfold
                        exact tk_rq (Jx := fun _ _ => False) ⟨hlN c q (s.L + 1).toNat, opN c (opnL s b c) q (s.L + 1).toNat, lsN s b c, true⟩ hfold.symm (fun _ h => h.subl SB.s SB.s))
                     | (have hns : q.sm = true ∧ ¬ lsN s b c < q.least := ⟨by assumption, by unfold lsN; omega⟩
                        have hu : askU s b q c = ⟨hlN c q (s.L + 1).toNat, opN c (opnL s b c) q (s.L + 1).toNat, q.least, true⟩ := by unfold askU; rw [if_pos hcy', if_pos hns]
                        rw [hu] at hfold
                        exact tk_rq (Jx := fun _ _ => False) ⟨hlN c q (s.L + 1).toNat, opN c (opnL s b c) q (s.L + 1).toNat, q.least, true⟩ hfold.symm (fun _ h => h.subl SB.s SB.s)))
                  | (have hu : askU s b q c = q := by unfold askU; rw [if_neg (by rw [hc]; exact Bool.false_ne_true)]
                     rw [hu] at hfold
                     exact tk_rq (Jx := fun _ _ => False) q hfold.symm (fun _ h => h.subl SB.s SB.s)))
               · try simp only [qn1, qn2, qn3, qn4, qn5, qn6, qn7, qn8] at hc
                 all_goals ((first | (exfalso; with_reducible exact btf hc) | skip))
                 all_goals refine tc_skip ?_; ((refine hK16 ?_; try (clear hK16; clear K16)))
                 all_goals refine tc_region ?_; refine tl_q (y_field rfl) rfl ?_; refine tl_e (e_storeKs (q := kqN s b c q (s.L + 1).toNat) hko2 rfl rfl (by repeat constructor)) rfl (fun _ _ => ?_); refine tl_nil ?_
                 all_goals (
                  repeat (refine tk_ib ?_)
                  have hfold := foldl_take (askU s b) kn0 hx
                  rw [← hI] at hfold
                  first
                  | (have hcy' := hcy
                     first
                     | (have hls' := hls
                        have hu : askU s b q c = ⟨hlN c q (s.L + 1).toNat, opN c (opnL s b c) q (s.L + 1).toNat, lsN s b c, true⟩ := by unfold askU; rw [if_pos hcy', if_neg hls']
                        rw [hu] at hfold
                        exact tk_rq (Jx := fun _ _ => False) ⟨hlN c q (s.L + 1).toNat, opN c (opnL s b c) q (s.L + 1).toNat, lsN s b c, true⟩ hfold.symm (fun _ h => h.subl SB.s SB.s))
                     | (have hns : q.sm = true ∧ ¬ lsN s b c < q.least := ⟨by assumption, by unfold lsN; omega⟩
                        have hu : askU s b q c = ⟨hlN c q (s.L + 1).toNat, opN c (opnL s b c) q (s.L + 1).toNat, q.least, true⟩ := by unfold askU; rw [if_pos hcy', if_pos hns]
                        rw [hu] at hfold
                        exact tk_rq (Jx := fun _ _ => False) ⟨hlN c q (s.L + 1).toNat, opN c (opnL s b c) q (s.L + 1).toNat, q.least, true⟩ hfold.symm (fun _ h => h.subl SB.s SB.s)))
                  | (have hu : askU s b q c = q := by unfold askU; rw [if_neg (by rw [hc]; exact Bool.false_ne_true)]
                     rw [hu] at hfold
                     exact tk_rq (Jx := fun _ _ => False) q hfold.symm (fun _ h => h.subl SB.s SB.s)))))))
   · intro D q hI
     rw [List.take_length] at hI
     all_goals ((refine hK2 ?_; try (clear hK2; clear K2)))
     all_goals refine tc_seq fun K18 hK18 => ?_; ((have hqk2 : KnOk q := by rw [hI]; exact foldl_ok _))
     all_goals refine tc_region ?_; refine tl_q (y_loadW rfl (by repeat constructor) (by rw [List.size_toArray, knL_len hqk2])) rfl ?_; refine tl_e (e_storeW rfl rfl (by repeat constructor) (by rw [List.size_toArray, knL_len hqk2]) (by rw [List.size_toArray, knL_len hqk2]) (knL_one _)) rfl (fun _ _ => ?_); refine tl_nil ?_; ((refine hK18 ?_; try (clear hK18; clear K18)))
     all_goals refine tc_ret ?_; (repeat (first | refine tk_then_ret ?_))
     all_goals (refine tk_retM rfl (by repeat constructor) rfl (.cons (.agg inferInstance rfl (by repeat constructor) (by rw [List.size_toArray, knL_len hqk2])) .nil) ?_)
     all_goals (
      exact fun w' hw' => ⟨by rw [hI]; rfl, hw'.fr (w0 := w) (S := []) MI.m⟩)
   · intro D c v hJ; exact hJ.elim)
end Go.Sp
/-
  Package sample: what is so of all bottles; Holders, Openers, Verdicts, Alike, Least.
-/
namespace Go.Sp
open Go Go.Proofs
theorem askU_sm (s : Smp) (b : Int) (q : Kwn) (c : List Int) : (askU s b q c).sm = (q.sm || canF s b c) := by
  unfold askU
  cases h : canF s b c
  · rw [if_neg Bool.false_ne_true, Bool.or_false]
  · rw [if_pos rfl, Bool.or_true]
theorem askF_sm (s : Smp) (b : Int) : (askF s b).sm = possF s b := by
  have : ∀ (l : List (List Int)) (q : Kwn), (l.foldl (askU s b) q).sm = (q.sm || l.any (canF s b)) := fun l => by
    induction l with
    | nil => intro q; simp
    | cons c l ih => intro q; rw [List.foldl_cons, ih, askU_sm, List.any_cons, Bool.or_assoc]
  unfold askF possF
  rw [this]; rfl
abbrev KwS := { q : Kwn // KnOk q }
def kwE (q : KwS) : List Value := knL q.1
theorem kwE_len (q : KwS) : (kwE q).length = 46 := knL_len q.2
theorem kwE_one (q : KwS) : one' (kwE q) := fun u hu => knL_one q.1 u (by simpa [kwE] using hu)
def askS (s : Smp) (b : Int) : KwS := ⟨askF s b, foldl_ok _⟩
def kw0 : KwS := ⟨kn0, rfl, rfl⟩
def knsN (s : Smp) (n : Nat) : List KwS := (List.range n).map fun (b : Nat) => askS s (b : Int)
theorem knsN_succ (s : Smp) (n : Nat) : knsN s (n + 1) = knsN s n ++ [askS s n] := by simp [knsN, List.range_succ]
theorem knsN_len (s : Smp) (n : Nat) : (knsN s n).length = n := by simp [knsN]
theorem knsN_get {s : Smp} {n i : Nat} (h : i < n) : (knsN s n).getD i kw0 = askS s i := by
  rw [List.getD_eq_getElem?_getD, knsN, List.getElem?_map, List.getElem?_range h]; rfl
def sureE (s : Smp) (fb : Bool) : Int := if ¬ chkS s = 0 then chkS s else if fb = false then 2 else if consF s = false then 9 else 0
def sureL (s : Smp) (e : Int) : List KwS := if e = 0 then knsN s s.B.toNat else []
theorem sureL_0 (s : Smp) : sureL s 0 = knsN s s.B.toNat := if_pos rfl
theorem sureL_n (s : Smp) {e : Int} (h : ¬ e = 0) : sureL s e = [] := if_neg h
set_option maxHeartbeats 1000000 in
theorem sure_c (s : Smp) (hf : Few s) (tv pv gv : Value) (g : FuncId) [GoFn Tryz.prog g] (first cap : Array Value) (fb : Bool) (w : World) (hr : RdSm w s tv pv gv) (hg : VSm s → ∀ w', Fr [] w w' → CnV Tryz.prog g (first ++ (#[] : Array Value) ++ cap) w' (.bool fb)) :
    CnX Tryz.prog 21 #[smV s tv pv gv, .func (.func g) first cap] w [] (fun y : Option Addr × Nat => .tuple #[slV (sureL s (sureE s fb)).length y, vi (sureE s fb)]) (fun y w' => RdS 46 kwE w' (slV (sureL s (sureE s fb)).length y) (sureL s (sureE s fb))) := by
  have hr0 := hr
  refine cnx0 (vs := [_, _]) Tryz.func21 rfl rfl ?_
  all_goals refine tc_seq fun K1 hK1 => ?_; refine tc_region ?_; refine tl_e (e_box rfl rfl rfl) rfl (fun b2 _ => ?_); refine tl_q (y_assign rfl) rfl ?_; refine tl_q (y_assign rfl) rfl ?_; refine tl_nil ?_; ((refine hK1 ?_; try (clear hK1; clear K1)))
  all_goals refine tc_seq fun K2 hK2 => ?_; refine tc_seq fun K3 hK3 => ?_; refine tc_region ?_; refine tl_q (y_loadW rfl (by repeat constructor) (by rfl)) rfl ?_; refine tl_e (e_callV rfl (.cons rfl .nil) (fun w' hw' => checkSample_c s hf tv pv gv w' (hr0.fr (hw'.fr (w0 := w) (S := []) MI.m)))) rfl (fun _ _ => ?_); refine tl_q (y_assign rfl) rfl ?_; refine tl_nil ?_; ((refine hK3 ?_; try (clear hK3; clear K3)))
  all_goals refine tc_block ?_; refine tc_seq fun K4 hK4 => ?_; refine tc_region ?_; refine tl_q (y_move rfl) rfl ?_; refine tl_q (y_neq rfl rfl) rfl ?_; refine tl_q (y_assign rfl) rfl ?_; refine tl_nil ?_; ((refine hK4 ?_; try (clear hK4; clear K4)))
  all_goals (
   refine tc_cond rfl (fun hc => ?_) (fun hc => ?_)
   · try simp only [qn1, qn2, qn3, qn4, qn5, qn6, qn7, qn8] at hc
     all_goals refine tc_seq fun K5 hK5 => ?_; refine tc_region ?_; refine tl_q (y_move rfl) rfl ?_; refine tl_q (y_assign rfl) rfl ?_; refine tl_q (y_assign rfl) rfl ?_; refine tl_nil ?_; ((refine hK5 ?_; try (clear hK5; clear K5)))
     all_goals refine tc_ret ?_; (repeat (first | refine tk_then_ret ?_ | refine tk_block_ret ?_))
     all_goals (refine tk_ret rfl rfl (.cons (.tmp rfl) (.cons (.tmp rfl) .nil)) ?_)
     all_goals (
      first
      | (have hE : sureE s fb = chkS s := if_pos (by assumption)
         rw [hE, sureL_n s (by assumption)]
         exact fun w' hw' => ⟨(none, 0), rfl, hw'.fr (w0 := w) (S := []) MI.m, RdS.nil _ _ _ _⟩)
      | (have hE : sureE s fb = 2 := by unfold sureE; rw [if_neg (by omega), if_pos (by assumption)]
         rw [hE, sureL_n s (by decide)]
         exact fun w' hw' => ⟨(none, 0), rfl, hw'.fr (w0 := w) (S := []) MI.m, RdS.nil _ _ _ _⟩)
      | (have hE : sureE s fb = 9 := by
           rw [askF_sm] at hc
           have hco := consF_no (s := s) (k := k) (by omega) hc
           unfold sureE; rw [if_neg (by omega), if_neg (by rw [show fb = true by assumption]; decide), if_pos hco]
         rw [hE, sureL_n s (by decide)]
         exact fun w' hw' => ⟨(none, 0), rfl, hw'.fr (w0 := w) (S := []) MI.m, RdS.nil _ _ _ _⟩)
      | (have hE : sureE s fb = 0 := by
           have hco := consF_yes (s := s) (fun j hj => hpo j (by omega))
           unfold sureE; rw [if_neg (by omega), if_neg (by rw [show fb = true by assumption]; decide), if_neg (by rw [hco]; decide)]
         obtain rfl : k = s.B.toNat := by omega
         rw [hE, sureL_0]
         exact fun w' hw' => ⟨ouA oo, rfl, hw'.fr (w0 := w) (S := []) MI.m, RdS.ofO kwE_len hok hw' (by repeat constructor)⟩))
   · try simp only [qn1, qn2, qn3, qn4, qn5, qn6, qn7, qn8] at hc
     all_goals refine tc_seq fun K6 hK6 => ?_; ((have hv := chkS_0.1 (by omega : chkS s = 0); have hb1 := hv.b1; have hb3 := hv.b3))
     all_goals refine tc_region ?_; refine tl_q (y_move rfl) rfl ?_; refine tl_e (e_callVf rfl rfl .nil (fun w' hw' => hg hv w' (hw'.fr (w0 := w) (S := []) MI.m))) rfl (fun _ _ => ?_); refine tl_q (y_not rfl) rfl ?_; refine tl_q (y_assign rfl) rfl ?_; refine tl_nil ?_; ((refine hK6 ?_; try (clear hK6; clear K6)))
     all_goals (
      refine tc_cond rfl (fun hc => ?_) (fun hc => ?_)
      · try simp only [qn1, qn2, qn3, qn4, qn5, qn6, qn7, qn8] at hc
        all_goals refine tc_seq fun K7 hK7 => ?_; refine tc_region ?_; refine tl_q (y_assign rfl) rfl ?_; refine tl_q (y_assign rfl) rfl ?_; refine tl_nil ?_; ((refine hK7 ?_; try (clear hK7; clear K7)))
        all_goals refine tc_ret ?_; (repeat (first | refine tk_then_ret ?_ | refine tk_block_ret ?_))
        all_goals (refine tk_ret rfl rfl (.cons (.tmp rfl) (.cons (.tmp rfl) .nil)) ?_)
        all_goals (
         first
         | (have hE : sureE s fb = chkS s := if_pos (by assumption)
            rw [hE, sureL_n s (by assumption)]
            exact fun w' hw' => ⟨(none, 0), rfl, hw'.fr (w0 := w) (S := []) MI.m, RdS.nil _ _ _ _⟩)
         | (have hE : sureE s fb = 2 := by unfold sureE; rw [if_neg (by omega), if_pos (by assumption)]
            rw [hE, sureL_n s (by decide)]
            exact fun w' hw' => ⟨(none, 0), rfl, hw'.fr (w0 := w) (S := []) MI.m, RdS.nil _ _ _ _⟩)
         | (have hE : sureE s fb = 9 := by
              rw [askF_sm] at hc
              have hco := consF_no (s := s) (k := k) (by omega) hc
              unfold sureE; rw [if_neg (by omega), if_neg (by rw [show fb = true by assumption]; decide), if_pos hco]
            rw [hE, sureL_n s (by decide)]
            exact fun w' hw' => ⟨(none, 0), rfl, hw'.fr (w0 := w) (S := []) MI.m, RdS.nil _ _ _ _⟩)
         | (have hE : sureE s fb = 0 := by
              have hco := consF_yes (s := s) (fun j hj => hpo j (by omega))
              unfold sureE; rw [if_neg (by omega), if_neg (by rw [show fb = true by assumption]; decide), if_neg (by rw [hco]; decide)]
            obtain rfl : k = s.B.toNat := by omega
            rw [hE, sureL_0]
            exact fun w' hw' => ⟨ouA oo, rfl, hw'.fr (w0 := w) (S := []) MI.m, RdS.ofO kwE_len hok hw' (by repeat constructor)⟩))
      · try simp only [qn1, qn2, qn3, qn4, qn5, qn6, qn7, qn8] at hc
        all_goals refine tc_skip ?_; ((refine hK2 ?_; try (clear hK2; clear K2)))
        all_goals refine tc_seq fun K8 hK8 => ?_; refine tc_region ?_; refine tl_q (y_assign rfl) rfl ?_; refine tl_nil ?_; ((refine hK8 ?_; try (clear hK8; clear K8)))
        all_goals refine tc_seq fun K9 hK9 => ?_; refine tc_seq fun K10 hK10 => ?_; refine tc_region ?_; refine tl_q (y_field rfl) rfl ?_; refine tl_q (y_load1 rfl (by repeat constructor) (by rfl)) rfl ?_; refine tl_q (y_move rfl) rfl ?_; refine tl_nil ?_; ((refine hK10 ?_; try (clear hK10; clear K10)))
        all_goals refine tc_block ?_
        all_goals (
         refine tc_loop (fun p : Nat × OwnB => (p.1 : Int) ≤ s.B ∧ okE 46 (knsN s p.1) p.2 ∧ ∀ j, j < p.1 → possF s (j : Int) = true) (fun p => [(2, ptr b2), (7, ouV (knsN s p.1).length p.2), (21, vi s.B), (22, vi p.1)]) (fun _ => [(w, [])]) (fun p => (b2, smO s tv pv gv) :: slE 89 kwE (knsN s p.1) p.2) (fun p => s.B.toNat - p.1) ?_ ?_
         · exact tk_start (0, none) ⟨by dsimp only; omega, rfl, fun j hj => absurd hj (Nat.not_lt_zero j)⟩ (.cons rfl (.cons rfl (.cons rfl (.cons rfl .nil)))) (fun _ h => by rw [slE_none]; exact h.subl SB.s SB.s)
         · rintro ⟨k, oo⟩ ⟨hk, hok, hpo⟩
           dsimp only at hk hok hpo ⊢
           have hkl := knsN_len s k
           all_goals refine tc_seq fun K11 hK11 => ?_; refine tc_region ?_; refine tl_q (y_lss rfl rfl) rfl ?_; refine tl_nil ?_; ((refine hK11 ?_; try (clear hK11; clear K11)))
           all_goals refine tc_seq fun K12 hK12 => ?_
           all_goals (
            refine tc_cond rfl (fun hc => ?_) (fun hc => ?_)
            · try simp only [qn1, qn2, qn3, qn4, qn5, qn6, qn7, qn8] at hc
              all_goals refine tc_skip ?_; ((refine hK12 ?_; try (clear hK12; clear K12)))
              all_goals refine tc_seq fun K13 hK13 => ?_; refine tc_block ?_; refine tc_seq fun K14 hK14 => ?_; refine tc_region ?_; refine tl_q (y_move rfl) rfl ?_; refine tl_q (y_assign rfl) rfl ?_; refine tl_nil ?_; ((refine hK14 ?_; try (clear hK14; clear K14)))
              all_goals refine tc_seq fun K15 hK15 => ?_; refine tc_region ?_; refine tl_q (y_loadW rfl (by repeat constructor) (by rfl)) rfl ?_; refine tl_q (y_move rfl) rfl ?_; refine tl_e (e_callV rfl (.cons rfl (.cons rfl .nil)) (fun w' hw' => ask_c s hf hv k tv pv gv w' (hr0.fr (hw'.fr (w0 := w) (S := []) MI.m)))) rfl (fun _ _ => ?_); refine tl_e (e_allocN rfl) rfl (fun b9 _ => ?_); (refine tl_e (e_storeW rfl rfl (by repeat constructor) (by rw [List.size_toArray]; exact kwE_len (askS s k)) (by rfl) (knL_one _)) rfl (fun _ _ => ?_))
              all_goals refine tl_nil ?_; ((refine hK15 ?_; try (clear hK15; clear K15)))
              all_goals refine tc_seq fun K16 hK16 => ?_; refine tc_seq fun K17 hK17 => ?_; refine tc_region ?_; refine tl_q (y_field rfl) rfl ?_; refine tl_q (y_load1 (v := .bool (askF s k).sm) rfl (by repeat constructor) (cellK_s (foldl_ok _))) rfl ?_; refine tl_q (y_not rfl) rfl ?_; refine tl_nil ?_; ((refine hK17 ?_; try (clear hK17; clear K17)))
              all_goals (
               refine tc_cond rfl (fun hc => ?_) (fun hc => ?_)
               · try simp only [qn1, qn2, qn3, qn4, qn5, qn6, qn7, qn8] at hc
                 all_goals refine tc_seq fun K18 hK18 => ?_; refine tc_region ?_; refine tl_q (y_assign rfl) rfl ?_; refine tl_q (y_assign rfl) rfl ?_; refine tl_nil ?_; ((refine hK18 ?_; try (clear hK18; clear K18)))
                 all_goals refine tc_ret ?_; (repeat (first | refine tk_then_ret ?_ | refine tk_block_ret ?_))
                 all_goals (refine tk_ret rfl rfl (.cons (.tmp rfl) (.cons (.tmp rfl) .nil)) ?_)
                 all_goals (
                  first
                  | (have hE : sureE s fb = chkS s := if_pos (by assumption)
                     rw [hE, sureL_n s (by assumption)]
                     exact fun w' hw' => ⟨(none, 0), rfl, hw'.fr (w0 := w) (S := []) MI.m, RdS.nil _ _ _ _⟩)
                  | (have hE : sureE s fb = 2 := by unfold sureE; rw [if_neg (by omega), if_pos (by assumption)]
                     rw [hE, sureL_n s (by decide)]
                     exact fun w' hw' => ⟨(none, 0), rfl, hw'.fr (w0 := w) (S := []) MI.m, RdS.nil _ _ _ _⟩)
                  | (have hE : sureE s fb = 9 := by
                       rw [askF_sm] at hc
                       have hco := consF_no (s := s) (k := k) (by omega) hc
                       unfold sureE; rw [if_neg (by omega), if_neg (by rw [show fb = true by assumption]; decide), if_pos hco]
                     rw [hE, sureL_n s (by decide)]
                     exact fun w' hw' => ⟨(none, 0), rfl, hw'.fr (w0 := w) (S := []) MI.m, RdS.nil _ _ _ _⟩)
                  | (have hE : sureE s fb = 0 := by
                       have hco := consF_yes (s := s) (fun j hj => hpo j (by omega))
                       unfold sureE; rw [if_neg (by omega), if_neg (by rw [show fb = true by assumption]; decide), if_neg (by rw [hco]; decide)]
                     obtain rfl : k = s.B.toNat := by omega
                     rw [hE, sureL_0]
                     exact fun w' hw' => ⟨ouA oo, rfl, hw'.fr (w0 := w) (S := []) MI.m, RdS.ofO kwE_len hok hw' (by repeat constructor)⟩))
               · try simp only [qn1, qn2, qn3, qn4, qn5, qn6, qn7, qn8] at hc
                 all_goals refine tc_skip ?_; ((refine hK16 ?_; try (clear hK16; clear K16)))
                 all_goals refine tc_region ?_; refine tl_q (y_move rfl) rfl ?_; ((refine tl_q (y_loadW rfl (by repeat constructor) (by rw [List.size_toArray]; exact kwE_len (askS s k))) rfl ?_))
                 all_goals refine tl_e (e_bsliceG rfl (.agg rfl (kwE_len (askS s k)) .nil) rfl rfl) rfl (fun _ _ => ?_); (refine tl_e (e_appendE (enc := kwE) (xs := knsN s k) (ys := [askS s k]) kwE_len kwE_one rfl rfl rfl hok (fun _ => by repeat constructor) (fun w' hw' => RdS.own0 kwE_len hw' (by repeat constructor)) (by simp only [List.length_cons, List.length_nil]; omega) rfl) rfl (fun oo' hok' => ?_))
                 all_goals refine tl_q (y_assign rfl) rfl ?_; refine tl_nil ?_; ((refine hK13 ?_; try (clear hK13; clear K13)))
                 all_goals refine tc_region ?_; refine tl_q (y_add rfl rfl (by omega)) rfl ?_; refine tl_q (y_move rfl) rfl ?_; refine tl_nil ?_
                 all_goals (
                  rw [askF_sm] at hc
                  have hs := knsN_succ s k
                  exact tk_round (k + 1, oo') ⟨by dsimp only; omega, by dsimp only; rw [hs]; exact hok', fun j hj' => by rcases Nat.lt_succ_iff_lt_or_eq.1 hj' with h | rfl; exact hpo j h; exact hc⟩ (by dsimp only; omega) (.cons rfl (.cons (by dsimp only; rw [hs]; rfl) (.cons rfl (.cons rfl .nil)))) (fun _ h => by dsimp only; rw [hs]; exact h.subl SB.s SB.s)))
            · try simp only [qn1, qn2, qn3, qn4, qn5, qn6, qn7, qn8] at hc
              all_goals refine tc_exit ?_; ((refine hK9 ?_; try (clear hK9; clear K9)))
              all_goals refine tc_seq fun K19 hK19 => ?_; refine tc_region ?_; refine tl_q (y_move rfl) rfl ?_; refine tl_q (y_assign rfl) rfl ?_; refine tl_q (y_assign rfl) rfl ?_; refine tl_nil ?_; ((refine hK19 ?_; try (clear hK19; clear K19)))
              all_goals refine tc_ret ?_; (repeat (first | refine tk_then_ret ?_))
              all_goals (refine tk_ret rfl rfl (.cons (.tmp rfl) (.cons (.tmp rfl) .nil)) ?_)
              all_goals (
               first
               | (have hE : sureE s fb = chkS s := if_pos (by assumption)
                  rw [hE, sureL_n s (by assumption)]
                  exact fun w' hw' => ⟨(none, 0), rfl, hw'.fr (w0 := w) (S := []) MI.m, RdS.nil _ _ _ _⟩)
               | (have hE : sureE s fb = 2 := by unfold sureE; rw [if_neg (by omega), if_pos (by assumption)]
                  rw [hE, sureL_n s (by decide)]
                  exact fun w' hw' => ⟨(none, 0), rfl, hw'.fr (w0 := w) (S := []) MI.m, RdS.nil _ _ _ _⟩)
               | (have hE : sureE s fb = 9 := by
                    rw [askF_sm] at hc
                    have hco := consF_no (s := s) (k := k) (by omega) hc
                    unfold sureE; rw [if_neg (by omega), if_neg (by rw [show fb = true by assumption]; decide), if_pos hco]
                  rw [hE, sureL_n s (by decide)]
                  exact fun w' hw' => ⟨(none, 0), rfl, hw'.fr (w0 := w) (S := []) MI.m, RdS.nil _ _ _ _⟩)
               | (have hE : sureE s fb = 0 := by
                    have hco := consF_yes (s := s) (fun j hj => hpo j (by omega))
                    unfold sureE; rw [if_neg (by omega), if_neg (by rw [show fb = true by assumption]; decide), if_neg (by rw [hco]; decide)]
                  obtain rfl : k = s.B.toNat := by omega
                  rw [hE, sureL_0]
                  exact fun w' hw' => ⟨ouA oo, rfl, hw'.fr (w0 := w) (S := []) MI.m, RdS.ofO kwE_len hok hw' (by repeat constructor)⟩))))))
end Go.Sp
/-
  Package sample: Holders, Openers, Verdicts, Alike, Least.
-/
namespace Go.Sp
open Go Go.Proofs
theorem CA.sub {f : Nat → Option Value} {o n : Nat} {vs : List Value} (h : CA f o n vs) (hl : vs.length = n) (i m : Nat) (him : i + m ≤ n) : CA f (o + i) m ((vs.drop i).take m) :=
  CA.ofGet _ _ _ (by simp; omega) fun j hj => by
    have hlt : i + j < vs.length := by omega
    have := h.get (i + j) vs[i + j] (List.getElem?_eq_getElem hlt)
    rw [Nat.add_assoc, this, List.getElem?_take_of_lt hj, List.getElem?_drop, List.getElem?_eq_getElem hlt]
theorem knL_opn {q : Kwn} (hq : KnOk q) : ((knL q).drop 40).take 4 = q.opn.map Value.bool := by
  unfold knL
  rw [List.drop_left' (by simp [hq.h]), List.take_left' (by simp [hq.o])]
theorem sureE_0 {s : Smp} {fb : Bool} (h : sureE s fb = 0) : VSm s ∧ fb = true ∧ consF s = true := by
  unfold sureE at h
  split at h
  · exact absurd h (by assumption)
  · rename_i h1
    split at h
    · cases h
    · rename_i h2
      split at h
      · cases h
      · rename_i h3
        exact ⟨chkS_0.1 (by omega), by simpa using h2, by simpa using h3⟩
theorem kns_at {s : Smp} {n : Nat} {b : Int} {w : World} {ad : Option Addr} {cap bY oY : Nat} (hyr : RdS 46 kwE w (.slice ad (knsN s n).length cap) (knsN s n)) (had : ad = some ⟨bY, oY, none⟩) (hb : 0 ≤ b ∧ b < n) : CA (fun k => w.cell? ⟨bY, k, none⟩) (oY + b.toNat * 46) 46 (knL (askF s b)) := by
  have hkl := knsN_len s n
  have h1 := hyr.at had kwE_len kw0 (i := b.toNat) (by omega)
  have hkg := knsN_get (s := s) (n := n) (i := b.toNat) (by omega)
  rw [show ((b.toNat : Nat) : Int) = b from by omega] at hkg
  rw [hkg] at h1
  exact h1
def verdF (q : Kwn) : Int := if 0 < q.least then 1 else if q.opn = List.replicate 4 false then 2 else 3
theorem verdict_c (q : Kwn) (hq : KnOk q) (w : World) : CnV Tryz.prog 23 #[.agg (knL q).toArray] w (vi (verdF q)) := by
  refine cnv (vs := [_]) Tryz.func23 rfl rfl ?_
  all_goals refine tc_seq fun K1 hK1 => ?_; refine tc_region ?_; refine tl_e (e_box rfl rfl rfl) rfl (fun b1 _ => ?_); refine tl_q (y_assign rfl) rfl ?_; refine tl_nil ?_; ((refine hK1 ?_; try (clear hK1; clear K1)))
  all_goals refine tc_seq fun K2 hK2 => ?_; refine tc_region ?_; refine tl_e (e_allocN rfl) rfl (fun _ _ => ?_); refine tl_nil ?_; ((refine hK2 ?_; try (clear hK2; clear K2)))
  all_goals refine tc_seq fun K3 hK3 => ?_; refine tc_block ?_; refine tc_seq fun K4 hK4 => ?_; refine tc_region ?_; refine tl_q (y_field rfl) rfl ?_; refine tl_q (y_load1 (v := vi q.least) rfl (by repeat constructor) (cellK_l hq)) rfl ?_; refine tl_q (y_gtr rfl rfl) rfl ?_; refine tl_q (y_assign rfl) rfl ?_; refine tl_nil ?_; ((refine hK4 ?_; try (clear hK4; clear K4)))
  all_goals (
   refine tc_cond rfl (fun hc => ?_) (fun hc => ?_)
   · try simp only [qn1, qn2, qn3, qn4, qn5, qn6, qn7, qn8] at hc
     all_goals refine tc_seq fun K5 hK5 => ?_; refine tc_region ?_; refine tl_q (y_assign rfl) rfl ?_; refine tl_nil ?_; ((refine hK5 ?_; try (clear hK5; clear K5)))
     all_goals refine tc_ret ?_; (repeat (first | refine tk_then_ret ?_ | refine tk_block_ret ?_))
     all_goals (refine tk_ret rfl rfl (.cons (.tmp rfl) .nil) ?_)
     all_goals (
      refine fun w' hw' => ⟨?_, hw'.fr (by simp)⟩
      unfold verdF
      first
      | (rw [if_pos (by assumption)]; rfl)
      | (rw [if_neg (by omega), if_pos (by assumption)]; rfl)
      | (rw [if_neg (by omega), if_neg (by assumption)]; rfl))
   · try simp only [qn1, qn2, qn3, qn4, qn5, qn6, qn7, qn8] at hc
     all_goals refine tc_seq fun K6 hK6 => ?_; refine tc_region ?_; refine tl_q (y_field rfl) rfl ?_; ((refine tl_q (y_loadNo (n := 4) (vs := q.opn.map Value.bool) rfl (fun w' hw' => by have := ((CA_whole (c := (knL q).toArray) (t := 89) (f := (0, 0)) (n := 46) (by rw [List.size_toArray, knL_len hq])).cells (hw'.heap _ (HM.mem (b := b1) (by repeat constructor)))).sub (knL_len hq) 40 4 (by omega); rw [knL_opn hq] at this; exact this)) rfl ?_))
     all_goals (refine tl_q (y_loadW rfl (by repeat constructor) (by rfl)) rfl ?_); refine tl_q (y_eqlB (xs := q.opn) (ys := List.replicate 4 false) rfl rfl hq.o rfl) rfl ?_; refine tl_q (y_assign rfl) rfl ?_; refine tl_nil ?_; ((refine hK6 ?_; try (clear hK6; clear K6)))
     all_goals (
      refine tc_cond rfl (fun hc => ?_) (fun hc => ?_)
      · try simp only [qn1, qn2, qn3, qn4, qn5, qn6, qn7, qn8] at hc
        all_goals refine tc_seq fun K7 hK7 => ?_; refine tc_region ?_; refine tl_q (y_assign rfl) rfl ?_; refine tl_nil ?_; ((refine hK7 ?_; try (clear hK7; clear K7)))
        all_goals refine tc_ret ?_; (repeat (first | refine tk_then_ret ?_ | refine tk_block_ret ?_))
        all_goals (refine tk_ret rfl rfl (.cons (.tmp rfl) .nil) ?_)
        all_goals (
         refine fun w' hw' => ⟨?_, hw'.fr (by simp)⟩
         unfold verdF
         first
         | (rw [if_pos (by assumption)]; rfl)
         | (rw [if_neg (by omega), if_pos (by assumption)]; rfl)
         | (rw [if_neg (by omega), if_neg (by assumption)]; rfl))
      · try simp only [qn1, qn2, qn3, qn4, qn5, qn6, qn7, qn8] at hc
        all_goals refine tc_skip ?_; ((refine hK3 ?_; try (clear hK3; clear K3)))
        all_goals refine tc_seq fun K8 hK8 => ?_; refine tc_region ?_; refine tl_q (y_assign rfl) rfl ?_; refine tl_nil ?_; ((refine hK8 ?_; try (clear hK8; clear K8)))
        all_goals refine tc_ret ?_; (repeat (first | refine tk_then_ret ?_))
        all_goals (refine tk_ret rfl rfl (.cons (.tmp rfl) .nil) ?_)
        all_goals (
         refine fun w' hw' => ⟨?_, hw'.fr (by simp)⟩
         unfold verdF
         first
         | (rw [if_pos (by assumption)]; rfl)
         | (rw [if_neg (by omega), if_pos (by assumption)]; rfl)
         | (rw [if_neg (by omega), if_neg (by assumption)]; rfl))))
theorem always_c (w : World) : CnV Tryz.prog 22 #[] w (.bool true) := by
  refine cnv (vs := []) Tryz.func22 rfl rfl ?_
  all_goals refine tc_seq fun K1 hK1 => ?_; refine tc_region ?_; refine tl_q (y_assign rfl) rfl ?_; refine tl_nil ?_; ((refine hK1 ?_; try (clear hK1; clear K1)))
  all_goals refine tc_seq fun K2 hK2 => ?_; refine tc_region ?_; refine tl_q (y_assign rfl) rfl ?_; refine tl_nil ?_; ((refine hK2 ?_; try (clear hK2; clear K2)))
  all_goals refine tc_ret ?_; (repeat (first | refine tk_then_ret ?_))
  all_goals (refine tk_ret rfl rfl (.cons (.tmp rfl) .nil) ?_)
  all_goals (
   exact fun w' hw' => ⟨rfl, hw'.fr (by simp)⟩)
abbrev vdE (s : Smp) : Int := sureE s true
def vdN (s : Smp) (n : Nat) : List Int := (List.range n).map fun (b : Nat) => verdF (askF s (b : Int))
theorem vdN_succ (s : Smp) (n : Nat) : vdN s (n + 1) = vdN s n ++ [verdF (askF s (n : Int))] := by simp [vdN, List.range_succ]
theorem vdN_len (s : Smp) (n : Nat) : (vdN s n).length = n := by simp [vdN]
def vdL (s : Smp) : List Int := if vdE s = 0 then vdN s s.B.toNat else []
set_option maxHeartbeats 1000000 in
theorem verdicts_c (s : Smp) (hf : Few s) (tv pv gv : Value) (w : World) (hr : RdSm w s tv pv gv) :
    CnX Tryz.prog 8 #[smV s tv pv gv] w [] (fun y : Option Addr × Nat => .tuple #[slV (vdL s).length y, vi (vdE s)]) (fun y w' => RdS 1 inE w' (slV (vdL s).length y) (vdL s)) := by
  have hr0 := hr
  refine cnx0 (vs := [_]) Tryz.func8 rfl rfl ?_
  all_goals refine tc_seq fun K1 hK1 => ?_; refine tc_region ?_; refine tl_e (e_box rfl rfl rfl) rfl (fun b1 _ => ?_); refine tl_q (y_assign rfl) rfl ?_; refine tl_q (y_assign rfl) rfl ?_; refine tl_nil ?_; ((refine hK1 ?_; try (clear hK1; clear K1)))
  all_goals refine tc_seq fun K2 hK2 => ?_; refine tc_region ?_; refine tl_q (y_loadW rfl (by repeat constructor) (by rfl)) rfl ?_; refine tl_e (e_callX rfl (.cons rfl (.cons rfl .nil)) (fun w' hw' => sure_c s hf tv pv gv 22 #[] #[] true w' (hr0.fr (hw'.fr (w0 := w) (S := []) MI.m)) (fun hv w2 f => by simpa using always_c w2))) rfl (fun y hy => ?_); refine tl_q (y_move rfl) rfl ?_; refine tl_q (y_extract rfl rfl) rfl ?_; refine tl_q (y_extract rfl rfl) rfl ?_; refine tl_q (y_assign rfl) rfl ?_; refine tl_q (y_assign rfl) rfl ?_; refine tl_nil ?_; ((refine hK2 ?_; try (clear hK2; clear K2)))
  all_goals refine tc_seq fun K3 hK3 => ?_; refine tc_seq fun K4 hK4 => ?_; refine tc_region ?_; refine tl_q (y_move rfl) rfl ?_; refine tl_q (y_neq rfl rfl) rfl ?_; refine tl_nil ?_; ((refine hK4 ?_; try (clear hK4; clear K4)))
  all_goals (
   refine tc_cond rfl (fun hc => ?_) (fun hc => ?_)
   · try simp only [qn1, qn2, qn3, qn4, qn5, qn6, qn7, qn8] at hc
     all_goals refine tc_seq fun K5 hK5 => ?_; refine tc_region ?_; refine tl_q (y_move rfl) rfl ?_; refine tl_q (y_assign rfl) rfl ?_; refine tl_q (y_assign rfl) rfl ?_; refine tl_nil ?_; ((refine hK5 ?_; try (clear hK5; clear K5)))
     all_goals refine tc_ret ?_; (repeat (refine tk_then_ret ?_))
     all_goals (refine tk_ret rfl rfl (.cons (.tmp rfl) (.cons (.tmp rfl) .nil)) ?_)
     all_goals (
      first
      | (have hE : ¬ vdE s = 0 := by assumption
         have hL : vdL s = [] := if_neg hE
         rw [hL]
         exact fun w' hw' => ⟨(none, 0), rfl, hw'.fr (w0 := w) (S := []) MI.m, RdS.nil _ _ _ _⟩)
      | (have hL : vdL s = vdN s s.B.toNat := if_pos he
         obtain rfl : k = s.B.toNat := by omega
         rw [hL, he]
         exact fun w' hw' => ⟨ouA oo, rfl, hw'.fr (w0 := w) (S := []) MI.m, RdS.ofO inE_len hok hw' (by repeat constructor)⟩))
   · try simp only [qn1, qn2, qn3, qn4, qn5, qn6, qn7, qn8] at hc
     all_goals refine tc_skip ?_; ((refine hK3 ?_; try (clear hK3; clear K3)))
     all_goals refine tc_seq fun K6 hK6 => ?_; ((have he : vdE s = 0 := by unfold vdE; omega))
     all_goals ((obtain ⟨hv, hbh, hcs⟩ := sureE_0 he; have hb1 := hv.b1; have hb3' := hv.b3))
     all_goals ((obtain ⟨hyr, hyw⟩ := hy; have hse : sureE s true = 0 := he; rw [hse, sureL_0] at hyr; rw [hse, sureL_0]))
     all_goals ((have hkl := knsN_len s s.B.toNat; obtain ⟨bY, oY, hady⟩ := hyr.adr (by omega)))
     all_goals refine tc_region ?_; refine tl_q (y_assign rfl) rfl ?_; refine tl_nil ?_; ((refine hK6 ?_; try (clear hK6; clear K6)))
     all_goals refine tc_seq fun K7 hK7 => ?_; refine tc_seq fun K8 hK8 => ?_; refine tc_region ?_; refine tl_q (y_move rfl) rfl ?_; refine tl_q (y_len rfl) rfl ?_; refine tl_q (y_move rfl) rfl ?_; refine tl_nil ?_; ((refine hK8 ?_; try (clear hK8; clear K8)))
     all_goals refine tc_block ?_
     all_goals (
      refine tc_lay [] (SB.s .nil) (fun wl hl => ?_)
      have hyl := hyr.fr (hl.calm hyw MI.m SB.s)
      refine tc_loop (fun p : Nat × OwnB => p.1 ≤ s.B.toNat ∧ okE 1 (vdN s p.1) p.2) (fun p => [(6, ouV (vdN s p.1).length p.2), (17, slV (knsN s s.B.toNat).length y.1), (18, vi (knsN s s.B.toNat).length), (19, vi p.1)]) (fun _ => [(wl, []), (w, [])]) (fun p => slE 3 inE (vdN s p.1) p.2) (fun p => s.B.toNat - p.1) ?_ ?_
      · exact tk_start (0, none) ⟨Nat.zero_le _, rfl⟩ (.cons rfl (.cons rfl (.cons rfl (.cons rfl .nil)))) (fun _ h => by rw [slE_none]; exact h.subl SB.s SB.s)
      · rintro ⟨k, oo⟩ ⟨hk, hok⟩
        dsimp only at hk hok ⊢
        have hkl2 := vdN_len s k
        all_goals refine tc_seq fun K9 hK9 => ?_; refine tc_region ?_; refine tl_q (y_lss rfl rfl) rfl ?_; refine tl_nil ?_; ((refine hK9 ?_; try (clear hK9; clear K9)))
        all_goals refine tc_seq fun K10 hK10 => ?_
        all_goals (
         refine tc_cond rfl (fun hc => ?_) (fun hc => ?_)
         · try simp only [qn1, qn2, qn3, qn4, qn5, qn6, qn7, qn8] at hc
           all_goals refine tc_skip ?_; ((refine hK10 ?_; try (clear hK10; clear K10)))
           all_goals refine tc_seq fun K11 hK11 => ?_; refine tc_block ?_; refine tc_seq fun K12 hK12 => ?_; refine tc_region ?_; refine tl_q (y_index rfl rfl (by omega) hady) rfl ?_; refine tl_q (y_loadNo (n := 46) (vs := knL (askF s (k : Int))) rfl (fun w' hw' => kns_at (hyl.fr (hw'.fr (w0 := wl) (S := []) MI.m)) hady (by omega))) rfl ?_; refine tl_e (e_allocN rfl) rfl (fun b8 _ => ?_); (refine tl_e (e_storeW rfl rfl (by repeat constructor) (by rw [List.size_toArray]; exact kwE_len (askS s k)) (by rfl) (knL_one _)) rfl (fun _ _ => ?_))
           all_goals refine tl_nil ?_; ((refine hK12 ?_; try (clear hK12; clear K12)))
           all_goals refine tc_region ?_; refine tl_q (y_move rfl) rfl ?_; ((refine tl_q (y_loadW rfl (by repeat constructor) (by rw [List.size_toArray]; exact kwE_len (askS s k))) rfl ?_))
           all_goals refine tl_e (e_callV rfl (.cons rfl .nil) (fun w' _ => verdict_c (askF s (k : Int)) (foldl_ok _) w')) rfl (fun _ _ => ?_); (refine tl_e (e_bslice rfl (by (repeat (first | exact .nil | apply PV.one rfl rfl)); done) rfl rfl) rfl (fun _ _ => ?_))
           all_goals (refine tl_e (e_appendE (enc := inE) (xs := vdN s k) (ys := [verdF (askF s (k : Int))]) inE_len inE_one rfl rfl rfl hok (fun _ => by repeat constructor) (fun w' hw' => RdS.own0 inE_len hw' (by repeat constructor)) (by simp only [List.length_cons, List.length_nil]; omega) rfl) rfl (fun oo' hok' => ?_))
           all_goals refine tl_q (y_assign rfl) rfl ?_; refine tl_nil ?_; ((refine hK11 ?_; try (clear hK11; clear K11)))
           all_goals refine tc_region ?_; refine tl_q (y_add rfl rfl (by omega)) rfl ?_; refine tl_q (y_move rfl) rfl ?_; refine tl_nil ?_
           all_goals (
            have hs := vdN_succ s k
            exact tk_round (k + 1, oo') ⟨by dsimp only; omega, by dsimp only; rw [hs]; exact hok'⟩ (by dsimp only; omega) (.cons (by dsimp only; rw [hs]; rfl) (.cons rfl (.cons rfl (.cons rfl .nil)))) (fun _ h => by dsimp only; rw [hs]; exact h.subl SB.s SB.s))
         · try simp only [qn1, qn2, qn3, qn4, qn5, qn6, qn7, qn8] at hc
           all_goals refine tc_exit ?_; ((refine hK7 ?_; try (clear hK7; clear K7)))
           all_goals refine tc_seq fun K13 hK13 => ?_; refine tc_region ?_; refine tl_q (y_move rfl) rfl ?_; refine tl_q (y_assign rfl) rfl ?_; refine tl_q (y_assign rfl) rfl ?_; refine tl_nil ?_; ((refine hK13 ?_; try (clear hK13; clear K13)))
           all_goals refine tc_ret ?_; (repeat (first | refine tk_then_ret ?_))
           all_goals (refine tk_ret rfl rfl (.cons (.tmp rfl) (.cons (.tmp rfl) .nil)) ?_)
           all_goals (
            first
            | (have hE : ¬ vdE s = 0 := by assumption
               have hL : vdL s = [] := if_neg hE
               rw [hL]
               exact fun w' hw' => ⟨(none, 0), rfl, hw'.fr (w0 := w) (S := []) MI.m, RdS.nil _ _ _ _⟩)
            | (have hL : vdL s = vdN s s.B.toNat := if_pos he
               obtain rfl : k = s.B.toNat := by omega
               rw [hL, he]
               exact fun w' hw' => ⟨ouA oo, rfl, hw'.fr (w0 := w) (S := []) MI.m, RdS.ofO inE_len hok hw' (by repeat constructor)⟩)))))
def alF (s : Smp) : Int := if ¬ vdE s = 0 then 0 else if (1 : Int) ∈ vdL s then 2 else if (3 : Int) ∈ vdL s then 3 else 1
theorem vdL_len (s : Smp) : (vdL s).length ≤ s.B.toNat := by
  unfold vdL
  split
  · rw [vdN_len]; exact Nat.le_refl _
  · simp
theorem alike_c (s : Smp) (hf : Few s) (tv pv gv : Value) (w : World) (hr : RdSm w s tv pv gv) :
    CnV Tryz.prog 20 #[smV s tv pv gv] w (.tuple #[vi (alF s), vi (vdE s)]) := by
  have hr0 := hr
  refine cnv (vs := [_]) Tryz.func20 rfl rfl ?_
  all_goals refine tc_seq fun K1 hK1 => ?_; refine tc_region ?_; refine tl_e (e_box rfl rfl rfl) rfl (fun b1 _ => ?_); refine tl_q (y_assign rfl) rfl ?_; refine tl_q (y_assign rfl) rfl ?_; refine tl_nil ?_; ((refine hK1 ?_; try (clear hK1; clear K1)))
  all_goals refine tc_seq fun K2 hK2 => ?_; refine tc_region ?_; refine tl_q (y_loadW rfl (by repeat constructor) (by rfl)) rfl ?_; refine tl_e (e_callX rfl (.cons rfl .nil) (fun w' hw' => verdicts_c s hf tv pv gv w' (hr0.fr (hw'.fr (w0 := w) (S := []) MI.m)))) rfl (fun y hy => ?_); refine tl_q (y_move rfl) rfl ?_; refine tl_q (y_extract rfl rfl) rfl ?_; refine tl_q (y_extract rfl rfl) rfl ?_; refine tl_q (y_assign rfl) rfl ?_; refine tl_q (y_assign rfl) rfl ?_; refine tl_nil ?_; ((refine hK2 ?_; try (clear hK2; clear K2)))
  all_goals refine tc_seq fun K3 hK3 => ?_; refine tc_block ?_; refine tc_seq fun K4 hK4 => ?_; refine tc_region ?_; refine tl_q (y_move rfl) rfl ?_; refine tl_q (y_neq rfl rfl) rfl ?_; refine tl_q (y_assign rfl) rfl ?_; refine tl_nil ?_; ((refine hK4 ?_; try (clear hK4; clear K4)))
  all_goals (
   refine tc_cond rfl (fun hc => ?_) (fun hc => ?_)
   · try simp only [qn1, qn2, qn3, qn4, qn5, qn6, qn7, qn8] at hc
     all_goals refine tc_seq fun K5 hK5 => ?_; refine tc_region ?_; refine tl_q (y_move rfl) rfl ?_; refine tl_q (y_assign rfl) rfl ?_; refine tl_q (y_assign rfl) rfl ?_; refine tl_nil ?_; ((refine hK5 ?_; try (clear hK5; clear K5)))
     all_goals refine tc_ret ?_; (repeat (first | refine tk_then_ret ?_ | refine tk_block_ret ?_))
     all_goals (refine tk_ret rfl rfl (.cons (.tmp rfl) (.cons (.tmp rfl) .nil)) ?_)
     all_goals (
      refine fun w' hw' => ⟨?_, hw'.fr (w0 := w) (S := []) MI.m⟩
      unfold alF
      first
      | (rw [if_pos (by assumption)]; rfl)
      | (rw [if_neg (by omega), if_pos (by assumption), he]; rfl)
      | (rw [if_neg (by omega), if_neg (by assumption), if_pos (by assumption), he]; rfl)
      | (rw [if_neg (by omega), if_neg (by assumption), if_neg (by assumption), he]; rfl))
   · try simp only [qn1, qn2, qn3, qn4, qn5, qn6, qn7, qn8] at hc
     all_goals refine tc_seq fun K6 hK6 => ?_; ((have he : vdE s = 0 := by unfold vdE; omega))
     all_goals ((have hb3' := (sureE_0 he).1.b3; have hvl := vdL_len s))
     all_goals refine tc_region ?_; refine tl_q (y_move rfl) rfl ?_; refine tl_e (e_callV rfl (.cons rfl (.cons rfl .nil)) (fun w' hw' => contains_c (vdL s) (by omega) _ _ w' ((hy.1.fr (hw'.calm hy.2 MI.m SB.s)).toI))) rfl (fun _ _ => ?_); refine tl_q (y_assign rfl) rfl ?_; refine tl_nil ?_; ((refine hK6 ?_; try (clear hK6; clear K6)))
     all_goals (
      refine tc_cond rfl (fun hc => ?_) (fun hc => ?_)
      · try simp only [qn1, qn2, qn3, qn4, qn5, qn6, qn7, qn8] at hc
        all_goals refine tc_seq fun K7 hK7 => ?_; refine tc_region ?_; refine tl_q (y_assign rfl) rfl ?_; refine tl_q (y_assign rfl) rfl ?_; refine tl_nil ?_; ((refine hK7 ?_; try (clear hK7; clear K7)))
        all_goals refine tc_ret ?_; (repeat (first | refine tk_then_ret ?_ | refine tk_block_ret ?_))
        all_goals (refine tk_ret rfl rfl (.cons (.tmp rfl) (.cons (.tmp rfl) .nil)) ?_)
        all_goals (
         refine fun w' hw' => ⟨?_, hw'.fr (w0 := w) (S := []) MI.m⟩
         unfold alF
         first
         | (rw [if_pos (by assumption)]; rfl)
         | (rw [if_neg (by omega), if_pos (by assumption), he]; rfl)
         | (rw [if_neg (by omega), if_neg (by assumption), if_pos (by assumption), he]; rfl)
         | (rw [if_neg (by omega), if_neg (by assumption), if_neg (by assumption), he]; rfl))
      · try simp only [qn1, qn2, qn3, qn4, qn5, qn6, qn7, qn8] at hc
        all_goals refine tc_seq fun K8 hK8 => ?_; refine tc_region ?_; refine tl_q (y_move rfl) rfl ?_; refine tl_e (e_callV rfl (.cons rfl (.cons rfl .nil)) (fun w' hw' => contains_c (vdL s) (by omega) _ _ w' ((hy.1.fr (hw'.calm hy.2 MI.m SB.s)).toI))) rfl (fun _ _ => ?_); refine tl_q (y_assign rfl) rfl ?_; refine tl_nil ?_; ((refine hK8 ?_; try (clear hK8; clear K8)))
        all_goals (
         refine tc_cond rfl (fun hc => ?_) (fun hc => ?_)
         · try simp only [qn1, qn2, qn3, qn4, qn5, qn6, qn7, qn8] at hc
           all_goals refine tc_seq fun K9 hK9 => ?_; refine tc_region ?_; refine tl_q (y_assign rfl) rfl ?_; refine tl_q (y_assign rfl) rfl ?_; refine tl_nil ?_; ((refine hK9 ?_; try (clear hK9; clear K9)))
           all_goals refine tc_ret ?_; (repeat (first | refine tk_then_ret ?_ | refine tk_block_ret ?_))
           all_goals (refine tk_ret rfl rfl (.cons (.tmp rfl) (.cons (.tmp rfl) .nil)) ?_)
           all_goals (
            refine fun w' hw' => ⟨?_, hw'.fr (w0 := w) (S := []) MI.m⟩
            unfold alF
            first
            | (rw [if_pos (by assumption)]; rfl)
            | (rw [if_neg (by omega), if_pos (by assumption), he]; rfl)
            | (rw [if_neg (by omega), if_neg (by assumption), if_pos (by assumption), he]; rfl)
            | (rw [if_neg (by omega), if_neg (by assumption), if_neg (by assumption), he]; rfl))
         · try simp only [qn1, qn2, qn3, qn4, qn5, qn6, qn7, qn8] at hc
           all_goals refine tc_skip ?_; ((refine hK3 ?_; try (clear hK3; clear K3)))
           all_goals refine tc_seq fun K10 hK10 => ?_; refine tc_region ?_; refine tl_q (y_assign rfl) rfl ?_; refine tl_q (y_assign rfl) rfl ?_; refine tl_nil ?_; ((refine hK10 ?_; try (clear hK10; clear K10)))
           all_goals refine tc_ret ?_; (repeat (first | refine tk_then_ret ?_))
           all_goals (refine tk_ret rfl rfl (.cons (.tmp rfl) (.cons (.tmp rfl) .nil)) ?_)
           all_goals (
            refine fun w' hw' => ⟨?_, hw'.fr (w0 := w) (S := []) MI.m⟩
            unfold alF
            first
            | (rw [if_pos (by assumption)]; rfl)
            | (rw [if_neg (by omega), if_pos (by assumption), he]; rfl)
            | (rw [if_neg (by omega), if_neg (by assumption), if_pos (by assumption), he]; rfl)
            | (rw [if_neg (by omega), if_neg (by assumption), if_neg (by assumption), he]; rfl)))))
end Go.Sp
