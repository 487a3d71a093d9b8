
/-
  The reference's Ways.
-/
import Derived.Test.YtgfpkpiigkcndaaGreatM4
set_option linter.unusedVariables false
set_option linter.unusedSimpArgs false
set_option linter.deprecated false
namespace Go.Sp
open Go Go.Proofs
inductive HTail (T : List (Nat × Obj)) : List (Nat × Obj) → Prop
  | refl : HTail T T
  | cons {p : Nat × Obj} {M : List (Nat × Obj)} : HTail T M → HTail T (p :: M)
inductive HBef (b : Nat) (T : List (Nat × Obj)) : List (Nat × Obj) → Prop
  | head {o : Obj} {M : List (Nat × Obj)} : HTail T M → HBef b T ((b, o) :: M)
  | tail {p : Nat × Obj} {M : List (Nat × Obj)} : HBef b T M → HBef b T (p :: M)
theorem HTail.sub {T M : List (Nat × Obj)} (h : HTail T M) : ∀ x ∈ T, x ∈ M := by
  induction h with
  | refl => exact fun x hx => hx
  | cons _ ih => exact fun x hx => List.mem_cons_of_mem _ (ih x hx)
theorem HBef.not {b : Nat} {T H : List (Nat × Obj)} (h : HBef b T H) (hn : (H.map Prod.fst).Nodup) : b ∉ T.map Prod.fst := by
  induction h with
  | head ht =>
    rw [List.map_cons, List.nodup_cons] at hn
    intro hm
    obtain ⟨p, hp, rfl⟩ := List.mem_map.1 hm
    exact hn.1 (List.mem_map.2 ⟨p, ht.sub p hp, rfl⟩)
  | tail _ ih =>
    rw [List.map_cons, List.nodup_cons] at hn
    exact ih hn.2
theorem tx_head {r : Option Nat} {P : Program} {ops : Array Oper} {Q : Exit → Act → World → Prop} {N : NN} {F : List (Nat × Value)} {bs : List (World × List Nat)} {H : List (Nat × Obj)} {n : Nat} {S : World → Prop} {listed : Array Bool} {k : Nat} {v : Value} (v' : Value) (hv : v = v') (h : TX r P ops Q n S listed N ((k, v') :: F) bs H) : TX r P ops Q n S listed N ((k, v) :: F) bs H := by subst hv; exact h
theorem wv_ones (u : Wv) : ∀ v ∈ (#[u.1.1, u.2.1.1, u.2.2.1] : Array Value).toList, v.oneCell' = true := fun v hv => wyE_one u v (by simpa [wyE] using hv)
set_option maxHeartbeats 16000000 in
theorem ways_c (s : Smp) (hf : Few s) (hv : VSm s) (hL6 : s.L ≤ 6) (b : Int) (l : List Int) (hll : (l.length : Int) = s.L + 1) (hlb : ∀ h, h < l.length → 0 ≤ l.getD h 0 ∧ l.getD h 0 < s.P) (tv pv gv lv : Value) (w : World) (hr : RdSm w s tv pv gv) (hrl : RdI w lv l) :
    CnX Tryz.prog 61 #[smV s tv pv gv, vi b, lv] w [] (fun y : Option Addr × Nat => slV (waysF s b l (s.L + 1).toNat).length y) (fun y w' => ∃ us : List Wv, (RdS 3 wyE w' (slV (waysF s b l (s.L + 1).toNat).length y) us ∧ NewS w (slV (waysF s b l (s.L + 1).toNat).length y)) ∧ WsAt w' us (waysF s b l (s.L + 1).toNat) ∧ NewO w us) := by
  have hr0 := hr
  have hl0 := hv.l0
  have hst := hv.st
  obtain ⟨adt, cpt, bt, ot, rfl, hadt, hct⟩ := hr.st.open boE_len false
  obtain ⟨adp, cpp, _, _, rfl, _, _⟩ := hr.ps.open psE_len pas0
  obtain ⟨adg, cpg, _, _, rfl, _, _⟩ := hr.sg.open sgE_len sgt0
  obtain ⟨adl, cpl, bl, ol, rfl, hadl, hcl⟩ := hrl.open
  refine cnx0 (vs := [_, _, _]) Tryz.func61 rfl rfl ?_
  all_goals refine tc_seq fun K1 hK1 => ?_; refine tc_region ?_; refine tl_e (e_box rfl rfl rfl) rfl (fun b3 _ => ?_); refine tl_q (y_assign rfl) rfl ?_; refine tl_nil ?_; ((refine hK1 ?_; try (clear hK1; clear K1)))
  all_goals refine tc_seq fun K2 hK2 => ?_; refine tc_lay ([]) (SB.s .nil) (fun wl1 hl1 => ?_); refine tc_region ?_; refine tl_q (y_build_g (by repeat constructor)) rfl ?_; refine tl_e (e_bsliceG rfl (.agg rfl rfl .nil) rfl rfl) rfl (fun b17 _ => ?_); refine tl_q (y_assign rfl) rfl ?_; refine tl_nil ?_; ((refine hK2 ?_; try (clear hK2; clear K2)))
  all_goals refine tc_seq fun K3 hK3 => ?_; refine tc_seq fun K4 hK4 => ?_; refine tc_region ?_; refine tl_q (y_assign rfl) rfl ?_; refine tl_nil ?_; ((refine hK4 ?_; try (clear hK4; clear K4)))
  all_goals refine tc_block ?_
  all_goals (
   refine tc_loop (fun p : Nat × List Wv × (Option Addr × Nat) × World => (p.1 : Int) ≤ s.L + 1 ∧ RdS 3 wyE p.2.2.2 (slV p.2.1.length p.2.2.1) p.2.1 ∧ WsAt p.2.2.2 p.2.1 (waysF s b l p.1) ∧ NewS w (slV p.2.1.length p.2.2.1) ∧ NewO w p.2.1) (fun p => [(1, vi b), (2, .slice adl l.length cpl), (3, ptr b3), (7, slV p.2.1.length p.2.2.1), (8, vi p.1)]) (fun p => [(p.2.2.2, []), (wl1, []), (w, [])]) (fun _ => []) (fun p => (s.L + 1).toNat - p.1) ?_ ?_
   · exact tk_lay [] (SB.s .nil) fun wl2 hl2 => tk_start (0, [wv0], (some ⟨b17, 0, none⟩, 1), wl2) ⟨by dsimp only; omega, RdS.own0 (xs := [wv0]) wyE_len hl2 (b := b17) (by repeat constructor), ⟨rfl, fun j hj => by
       have hj' : j < 1 := hj
       obtain rfl : j = 0 := by omega
       exact ⟨RdS.nil 1 inE wl2 0, RdS.nil 1 boE wl2 0, RdS.nil 1 boE wl2 0⟩⟩, (fun p m c e => by cases e; exact (hl2.own _ (HM.mem (b := b17) (by repeat constructor)) (w, []) MI.m).resolve_left (by simp)), (NewO.nil w).snoc (NewS.nil w 0 0)⟩ (.cons rfl (.cons rfl (.cons rfl (.cons rfl (.cons rfl .nil))))) (fun _ h => h.subl SB.s SB.s)
   · rintro ⟨h, us, av, wz⟩ ⟨hh, hra, hws, hna, hnw⟩
     dsimp only at hh hra hws hna hnw ⊢
     have hul := hws.1
     all_goals refine tc_seq fun K5 hK5 => ?_; refine tc_seq fun K6 hK6 => ?_; refine tc_region ?_; refine tl_q (y_move rfl) rfl ?_; refine tl_q (y_field rfl) rfl ?_; refine tl_q (y_load1f rfl (hl1.at (by repeat constructor)) MI.m (by simp) (by rfl)) rfl ?_; refine tl_q (y_leq rfl rfl) rfl ?_; refine tl_nil ?_; ((refine hK6 ?_; try (clear hK6; clear K6)))
     all_goals (
      refine tc_cond rfl (fun hc => ?_) (fun hc => ?_)
      · try simp only [qn1, qn2, qn3, qn4, qn5, qn6, qn7, qn8] at hc
        all_goals refine tc_skip ?_; ((refine hK5 ?_; try (clear hK5; clear K5)))
        all_goals refine tc_seq fun K7 hK7 => ?_; refine tc_block ?_; refine tc_seq fun K8 hK8 => ?_; refine tc_region ?_; refine tl_q (y_assign rfl) rfl ?_; refine tl_nil ?_; ((refine hK8 ?_; try (clear hK8; clear K8)))
        all_goals refine tc_seq fun K9 hK9 => ?_; refine tc_seq fun K10 hK10 => ?_; refine tc_region ?_; refine tl_q (y_assign rfl) rfl ?_; refine tl_nil ?_; ((refine hK10 ?_; try (clear hK10; clear K10)))
        all_goals refine tc_block ?_
        all_goals (
         have hwl := waysF_len s b l (h := h) (by omega)
         obtain ⟨ab, ao, hada, hca⟩ := hra.openW wyE_len wv0
         refine tc_loop (fun p : Nat × List Wv × OwnB × World => (p.1 ≤ us.length ∧ okE 3 p.2.1 p.2.2.1) ∧ WsK p.2.2.2 ((slE 108 wyE p.2.1 p.2.2.1).map Prod.fst) p.2.1 (wyI s b l h (waysF s b l h) p.1) ∧ NewO w p.2.1) (fun p => [(1, vi b), (2, .slice adl l.length cpl), (3, ptr b3), (7, slV us.length av), (8, vi h), (9, ouV p.2.1.length p.2.2.1), (10, vi p.1)]) (fun p => [(p.2.2.2, (slE 108 wyE p.2.1 p.2.2.1).map Prod.fst), (wz, []), (wl1, []), (w, [])]) (fun p => slE 108 wyE p.2.1 p.2.2.1) (fun p => us.length - p.1) ?_ ?_
         · exact tk_lay [] (SB.s .nil) fun wl2 hl2 => tk_start (0, [], none, wl2) ⟨⟨Nat.zero_le _, rfl⟩, WsK.nil, NewO.nil w⟩ (.cons rfl (.cons rfl (.cons rfl (.cons rfl (.cons rfl (.cons rfl (.cons rfl .nil))))))) (fun _ h => by dsimp only; rw [slE_none]; exact h.subl SB.s SB.s)
         · rintro ⟨i, us1, oo1, wz1⟩ ⟨⟨hi, hok1⟩, hk1, hno1⟩
           dsimp only at hi hok1 hk1 hno1 ⊢
           all_goals refine tc_seq fun K11 hK11 => ?_; refine tc_seq fun K12 hK12 => ?_; refine tc_region ?_; refine tl_q (y_move rfl) rfl ?_; refine tl_q (y_move rfl) rfl ?_; refine tl_q (y_len rfl) rfl ?_; refine tl_q (y_lss rfl rfl) rfl ?_; refine tl_nil ?_; ((refine hK12 ?_; try (clear hK12; clear K12)))
           all_goals (
            refine tc_cond rfl (fun hc => ?_) (fun hc => ?_)
            · try simp only [qn1, qn2, qn3, qn4, qn5, qn6, qn7, qn8] at hc
              all_goals refine tc_skip ?_; ((refine hK11 ?_; try (clear hK11; clear K11)))
              all_goals refine tc_seq fun K13 hK13 => ?_; refine tc_block ?_
              all_goals (
               have hiu : i < us.length := by omega
               obtain ⟨x, hx⟩ : ∃ x, x = (waysF s b l h).getD i wy0 := ⟨_, rfl⟩; obtain ⟨u, hu⟩ : ∃ u, u = us.getD i wv0 := ⟨_, rfl⟩; have hxr := hws.2 i (by omega); rw [← hx, ← hu] at hxr
               have hxw : WyL h x := (by rw [hx]; exact ways_wl (getD_memG (by omega))); have hxa := hxw.ac; have hxb := hxw.br; have hxo := hxw.op
               obtain ⟨adB, cpB, bB, oB, heB, hadB, hcB⟩ := hxr.br.open boE_len false
               refine tc_join (fun _ : Unit => True) (fun _ => [(1, vi b), (2, .slice adl l.length cpl), (3, ptr b3), (7, slV us.length av), (8, vi h), (9, ouV us1.length oo1), (10, vi i), (11, .bool (wasW x h))]) (fun _ => [(wz1, (slE 108 wyE us1 oo1).map Prod.fst), (wz, []), (wl1, []), (w, [])]) (fun _ => slE 108 wyE us1 oo1) ?_ ?_
               · skip
                 all_goals refine tc_region ?_; refine tl_q (y_move rfl) rfl ?_; refine tl_q (y_gtr rfl rfl) rfl ?_; refine tl_q (y_move rfl) rfl ?_; ((refine tl_gs rfl rfl (fun hc => ?_) (fun hc => ?_) <;> (try simp only [qn1, qn2, qn3, qn4, qn5, qn6, qn7, qn8] at hc) <;> (first | refine tl_sk rfl rfl rfl rfl ?_ | refine tl_qg rfl rfl (y_move rfl) rfl ?_)))
                 all_goals (first | refine tl_sk rfl rfl rfl rfl ?_ | refine tl_qg rfl rfl (y_move rfl) rfl ?_); (first | refine tl_sk rfl rfl rfl rfl ?_ | refine tl_qg rfl rfl (y_index rfl rfl (by omega) (hada (by omega))) rfl ?_); (first | refine tl_sk rfl rfl rfl rfl ?_ | refine tl_qg rfl rfl (y_field rfl) rfl ?_); ((first | refine tl_sk rfl rfl rfl rfl ?_ | refine tl_qg rfl rfl (y_load1o (v := .slice adB x.br.length cpB) rfl (fun w' hw' => by rw [show Int.toNat (i : Int) * 3 = i * 3 from by omega]; have hz := (hca w' (hw'.fr (w0 := wz) (S := []) MI.m) i hiu).get 1 _ rfl; rw [← hu] at hz; rw [← heB]; exact hz)) rfl ?_))
                 all_goals (first | refine tl_sk rfl rfl rfl rfl ?_ | refine tl_qg rfl rfl (y_move rfl) rfl ?_); (first | refine tl_sk rfl rfl rfl rfl ?_ | refine tl_qg rfl rfl (y_sub rfl rfl (by omega)) rfl ?_); (first | refine tl_sk rfl rfl rfl rfl ?_ | refine tl_qg rfl rfl (y_index rfl rfl (by omega) (hadB (by omega))) rfl ?_); ((first | refine tl_sk rfl rfl rfl rfl ?_ | refine tl_qg rfl rfl (y_load1o (v := .bool (x.br.getD (h - 1) false)) rfl (fun w' hw' => by rw [show Int.toNat ((h : Int) - 1) = h - 1 from by omega]; have hz := (hcB w' [] (hw'.fr (w0 := wz) (S := []) MI.m) (by simp) (h - 1) (by omega)).get 0 _ rfl; exact hz)) rfl ?_))
                 all_goals (first | refine tl_q (y_pick_t rfl rfl) rfl ?_ | refine tl_q (y_pick_f rfl rfl) rfl ?_); refine tl_q (y_assign rfl) rfl ?_; refine tl_nil ?_
                 all_goals (
                  first
                  | (have hw0 : wasW x h = false := if_pos (by omega)
                     exact tk_start () trivial (.cons rfl (.cons rfl (.cons rfl (.cons rfl (.cons rfl (.cons rfl (.cons rfl (.cons (by rw [hw0]; rfl) .nil)))))))) (fun _ h => h.subl SB.s SB.s))
                  | (have hw0 : wasW x h = x.br.getD (h - 1) false := if_neg (by omega)
                     exact tk_start () trivial (.cons rfl (.cons rfl (.cons rfl (.cons rfl (.cons rfl (.cons rfl (.cons rfl (.cons (by rw [hw0]; rfl) .nil)))))))) (fun _ h => h.subl SB.s SB.s)))
               · rintro ⟨⟩ _
                 obtain ⟨was, hwas⟩ : ∃ was, was = wasW x h := ⟨_, rfl⟩
                 rw [← hwas]
                 all_goals refine tc_seq fun K14 hK14 => ?_; refine tc_region ?_; refine tl_q (y_assign rfl) rfl ?_; refine tl_nil ?_; ((refine hK14 ?_; try (clear hK14; clear K14)))
                 all_goals refine tc_block ?_
                 all_goals (
                  refine tc_loop (fun p : Nat × List Wv × OwnB × World => (p.1 ≤ 4 ∧ okE 3 p.2.1 p.2.2.1) ∧ WsK p.2.2.2 ((slE 108 wyE p.2.1 p.2.2.1).map Prod.fst) p.2.1 (wyI s b l h (waysF s b l h) i ++ wyN s b l h x p.1) ∧ NewO w p.2.1) (fun p => [(1, vi b), (2, .slice adl l.length cpl), (3, ptr b3), (7, slV us.length av), (8, vi h), (9, ouV p.2.1.length p.2.2.1), (10, vi i), (11, .bool was), (12, vi p.1)]) (fun p => [(p.2.2.2, (slE 108 wyE p.2.1 p.2.2.1).map Prod.fst), (wz, []), (wl1, []), (w, [])]) (fun p => slE 108 wyE p.2.1 p.2.2.1) (fun p => 4 - p.1) ?_ ?_
                  · exact tk_start (0, us1, oo1, wz1) ⟨⟨Nat.zero_le _, hok1⟩, by dsimp only; rw [wyN, List.append_nil]; exact hk1, hno1⟩ (.cons rfl (.cons rfl (.cons rfl (.cons rfl (.cons rfl (.cons rfl (.cons rfl (.cons rfl (.cons rfl .nil))))))))) (fun _ h => h.subl SB.s SB.s)
                  · rintro ⟨a, us2, oo, wz2⟩ ⟨⟨ha, hok2⟩, hk2, hno2⟩
                    dsimp only at ha hok2 hk2 hno2 ⊢
                    have hul2 := hk2.1
                    have hil := wyI_len s b l h (waysF s b l h) i
                    have hal := wyN_len s b l h x a
                    rw [List.length_append] at hul2
                    obtain ⟨S, hS⟩ : ∃ S, S = (slE 108 wyE us2 oo).map Prod.fst := ⟨_, rfl⟩
                    rw [← hS] at hk2 ⊢
                    all_goals refine tc_seq fun K15 hK15 => ?_; refine tc_seq fun K16 hK16 => ?_; refine tc_region ?_; refine tl_q (y_move rfl) rfl ?_; refine tl_q (y_lss rfl rfl) rfl ?_; refine tl_nil ?_; ((refine hK16 ?_; try (clear hK16; clear K16)))
                    all_goals (
                     refine tc_cond rfl (fun hc => ?_) (fun hc => ?_)
                     · try simp only [qn1, qn2, qn3, qn4, qn5, qn6, qn7, qn8] at hc
                       all_goals refine tc_skip ?_; ((refine hK15 ?_; try (clear hK15; clear K15)))
                       all_goals refine tc_seq fun K17 hK17 => ?_; refine tc_block ?_; refine tc_seq fun K18 hK18 => ?_; (have hlh := hlb h (by omega))
                       all_goals refine tc_draw (by kernel_rfl) ?_; refine tx_p 0 rfl (by kernel_rfl) (y_move rfl) rfl (fun _ _ _ h => h) (fun _ h => h) ?_; refine tx_p 1 rfl (by kernel_rfl) (y_field rfl) rfl (fun _ _ _ h => h) (fun _ h => h) ?_; refine tx_q 2 rfl (by kernel_rfl) (y_load1f rfl (hl1.at (by repeat constructor)) MI.m (by simp) (by rfl)) rfl (fun _ _ _ h => h) (fun _ h => h) ?_; refine tx_p 3 rfl (by kernel_rfl) (y_move rfl) rfl (fun _ _ _ h => h) (fun _ h => h) ?_; refine tx_p 4 rfl (by kernel_rfl) (y_move rfl) rfl (fun _ _ _ h => h) (fun _ h => h) ?_; refine tx_p 5 rfl (by kernel_rfl) (y_index rfl rfl (by omega) (hadl (by omega))) rfl (fun _ _ _ h => h) (fun _ h => h) ?_; ((refine tx_q 6 rfl (by kernel_rfl) (y_load1o (v := vi (l.getD h 0)) rfl (fun w' hw' => by rw [show Int.toNat (h : Int) * 1 = h from by omega]; exact hcl w' (hw'.fr (w0 := w) (S := []) MI.m) h (by omega))) rfl (fun _ _ _ h => h) (fun _ h => h) ?_))
                       all_goals (refine tx_p 7 rfl (by kernel_rfl) (y_index rfl rfl (by omega) (hadt (by omega))) rfl (fun _ _ _ h => h) (fun _ h => h) ?_); ((refine tx_q 8 rfl (by kernel_rfl) (y_load1o (v := .bool (stB s l h)) rfl (fun w' hw' => by unfold stB; rw [Int.toNat_natCast]; have hz := (hct w' [] (hw'.fr (w0 := w) (S := []) MI.m) (by simp) (l.getD h 0).toNat (by omega)).get 0 _ rfl; exact hz)) rfl (fun _ _ _ h => h) (fun _ h => h) ?_))
                       all_goals refine tx_p 9 rfl (by kernel_rfl) (y_move rfl) rfl (fun _ _ _ h => h) (fun _ h => h) ?_; refine tx_e 10 rfl (by kernel_rfl) rfl (e_callV rfl (.cons rfl (.cons rfl (.cons rfl .nil))) (fun w' _ => acted_c was (stB s l h) a w')) (.inr fun _ _ h => h) (fun _ _ => ?_); refine tx_p 11 rfl (by kernel_rfl) (y_move rfl) rfl (fun _ _ _ h => h) (fun _ h => h) ?_; refine tx_p 12 rfl (by kernel_rfl) (y_extract rfl rfl) rfl (fun _ _ _ h => h) (fun _ h => h) ?_; refine tx_p 13 rfl (by kernel_rfl) (y_extract rfl rfl) rfl (fun _ _ _ h => h) (fun _ h => h) ?_; refine tx_p 14 rfl (by kernel_rfl) (y_assign rfl) rfl (fun _ _ _ h => h) (fun _ h => h) ?_; refine tx_p 15 rfl (by kernel_rfl) (y_assign rfl) rfl (fun _ _ _ h => h) (fun _ h => h) ?_; refine tx_done (by kernel_rfl) ?_; ((refine hK18 ?_; try (clear hK18; clear K18)))
                       all_goals refine tc_seq fun K19 hK19 => ?_; refine tc_seq fun K20 hK20 => ?_; refine tc_region ?_; refine tl_q (y_move rfl) rfl ?_; refine tl_q (y_not rfl) rfl ?_; refine tl_q (y_move rfl) rfl ?_; ((refine tl_gs rfl rfl (fun hc => ?_) (fun hc => ?_) <;> (try simp only [qn1, qn2, qn3, qn4, qn5, qn6, qn7, qn8] at hc) <;> (first | refine tl_sk rfl rfl rfl rfl ?_ | refine tl_qg rfl rfl (y_loadWf rfl (hl1.at (by repeat constructor)) MI.m (by simp) (by rfl)) rfl ?_)))
                       all_goals (first | refine tl_sk rfl rfl rfl rfl ?_ | refine tl_qg rfl rfl (y_move rfl) rfl ?_); (first | refine tl_sk rfl rfl rfl rfl ?_ | refine tl_qg rfl rfl (y_move rfl) rfl ?_); (first | refine tl_sk rfl rfl rfl rfl ?_ | refine tl_qg rfl rfl (y_move rfl) rfl ?_); (first | refine tl_sk rfl rfl rfl rfl ?_ | refine tl_eg rfl rfl rfl (e_callV rfl (.cons rfl (.cons rfl (.cons rfl (.cons rfl .nil)))) (fun w' hw' => agrees_c s hf.sg b h _ _ _ _ w' (hr0.sg.fr (hw'.fr (w0 := w) (S := []) MI.m)))) (fun _ _ => ?_)); (first | refine tl_sk rfl rfl rfl rfl ?_ | refine tl_qg rfl rfl (y_not rfl) rfl ?_); (first | refine tl_q (y_pick_t rfl rfl) rfl ?_ | refine tl_q (y_pick_f rfl rfl) rfl ?_); refine tl_nil ?_; ((refine hK20 ?_; try (clear hK20; clear K20)))
                       all_goals (
                        refine tc_cond rfl (fun hc => ?_) (fun hc => ?_)
                        · try simp only [qn1, qn2, qn3, qn4, qn5, qn6, qn7, qn8] at hc
                          all_goals refine tc_exit ?_; ((refine hK17 ?_; try (clear hK17; clear K17)))
                          all_goals refine tc_region ?_; refine tl_q (y_move rfl) rfl ?_; refine tl_q (y_add rfl rfl (by omega)) rfl ?_; refine tl_q (y_assign rfl) rfl ?_; refine tl_nil ?_
                          all_goals (
                           first
                           | (have hn : wyN s b l h x (a + 1) = wyN s b l h x a := by rw [wyN, wyA, if_neg (fun g => by rw [← hwas] at g; simp_all), List.append_nil]
                              subst hS
                              exact tk_round (a + 1, us2, oo, wz2) ⟨⟨by dsimp only; omega, hok2⟩, by dsimp only; rw [hn]; exact hk2, hno2⟩ (by dsimp only; omega) (.cons rfl (.cons rfl (.cons rfl (.cons rfl (.cons rfl (.cons rfl (.cons rfl (.cons rfl (.cons rfl .nil))))))))) (fun _ h => h.subl SB.s SB.s))
                           | (have hn : wyN s b l h x (a + 1) = wyN s b l h x a ++ [wyS x h a] := by rw [wyN, wyA, if_pos ⟨by rw [← hwas]; assumption, by rw [← hwas]; assumption⟩]
                              refine tk_lay (slE 108 wyE (us2 ++ [((⟨.slice (some ⟨r7.1, 0, none⟩) (0 + x.ac.length + [(a : Int)].length) r7.2.1, rfl⟩, ⟨.slice (some ⟨r14.1, 0, none⟩) (0 + x.br.length + [brk].length) r14.2.1, rfl⟩, ⟨.slice (some ⟨r29.1, 0, none⟩) (0 + x.op.length + 1) r29.2.1, rfl⟩) : Wv)]) oo') SB.s fun wl hl => ?_
                              have hfz : Fr S wz2 wl := hl.fr (w0 := wz2) (S := S) MI.m
                              have hoz := hl.ownsK (Hk := slE 108 wyE (us2 ++ [((⟨.slice (some ⟨r7.1, 0, none⟩) (0 + x.ac.length + [(a : Int)].length) r7.2.1, rfl⟩, ⟨.slice (some ⟨r14.1, 0, none⟩) (0 + x.br.length + [brk].length) r14.2.1, rfl⟩, ⟨.slice (some ⟨r29.1, 0, none⟩) (0 + x.op.length + 1) r29.2.1, rfl⟩) : Wv)]) oo') SB.s (w0 := wz2) (S := S) MI.m
                              have hw3 : WyK wl ((slE 108 wyE (us2 ++ [((⟨.slice (some ⟨r7.1, 0, none⟩) (0 + x.ac.length + [(a : Int)].length) r7.2.1, rfl⟩, ⟨.slice (some ⟨r14.1, 0, none⟩) (0 + x.br.length + [brk].length) r14.2.1, rfl⟩, ⟨.slice (some ⟨r29.1, 0, none⟩) (0 + x.op.length + 1) r29.2.1, rfl⟩) : Wv)]) oo').map Prod.fst) ((⟨.slice (some ⟨r7.1, 0, none⟩) (0 + x.ac.length + [(a : Int)].length) r7.2.1, rfl⟩, ⟨.slice (some ⟨r14.1, 0, none⟩) (0 + x.br.length + [brk].length) r14.2.1, rfl⟩, ⟨.slice (some ⟨r29.1, 0, none⟩) (0 + x.op.length + 1) r29.2.1, rfl⟩) : Wv) (wyS x h a) := by
                                refine ⟨OKS.app inE_len (junk := r7.2.2) (e := 3) hl (by repeat constructor) (by simp) (HBef.not (by repeat constructor) hl.nodup), ?_, ?_⟩
                                · show OKS 1 boE wl _ _ (x.br ++ [acY (wasW x h) a])
                                  rw [← hwas, ← hbrk]
                                  exact OKS.app boE_len (junk := r14.2.2) (e := 4) hl (by repeat constructor) (by simp) (HBef.not (by repeat constructor) hl.nodup)
                                · show OKS 1 boE wl _ _ (x.op ++ [wasW x h || opA a])
                                  rw [← hwas]
                                  exact OKS.app boE_len (junk := r29.2.2) (e := 4) hl (by repeat constructor) (by simp) (HBef.not (by repeat constructor) hl.nodup)
                              exact tk_round (a + 1, us2 ++ [((⟨.slice (some ⟨r7.1, 0, none⟩) (0 + x.ac.length + [(a : Int)].length) r7.2.1, rfl⟩, ⟨.slice (some ⟨r14.1, 0, none⟩) (0 + x.br.length + [brk].length) r14.2.1, rfl⟩, ⟨.slice (some ⟨r29.1, 0, none⟩) (0 + x.op.length + 1) r29.2.1, rfl⟩) : Wv)], oo', wl) ⟨⟨by dsimp only; omega, hok'⟩, by dsimp only; rw [hn, ← List.append_assoc]; exact (hk2.step hfz hoz).snoc hw3, hno2.snoc (fun p m c e => by cases e; exact (hl.own _ (HM.mem (b := r29.1) (by repeat constructor)) (w, []) MI.m).resolve_left (by simp))⟩ (by dsimp only; omega) (.cons rfl (.cons rfl (.cons rfl (.cons rfl (.cons rfl (.cons rfl (.cons rfl (.cons rfl (.cons rfl .nil))))))))) (fun _ h => h.subl SB.s SB.s)))
                        · try simp only [qn1, qn2, qn3, qn4, qn5, qn6, qn7, qn8] at hc
                          all_goals ((first | (exfalso; with_reducible exact btf hc) | skip))
                          all_goals refine tc_skip ?_; ((refine hK19 ?_; try (clear hK19; clear K19)))
                          all_goals refine tc_seq fun K21 hK21 => ?_; refine tc_region ?_; refine tl_q (y_move rfl) rfl ?_; refine tl_q (y_move rfl) rfl ?_; refine tl_q (y_index rfl rfl (by omega) (hada (by omega))) rfl ?_; ((refine tl_q (y_loadNo (n := 3) (vs := [u.1.1, u.2.1.1, u.2.2.1]) rfl (fun w' hw' => by rw [show Int.toNat (i : Int) * 3 = i * 3 from by omega]; have hz := hca w' (hw'.fr (w0 := wz) (S := []) MI.m) i hiu; rw [← hu] at hz; exact hz)) rfl ?_))
                          all_goals refine tl_e (e_allocN rfl) rfl (fun b15 _ => ?_); refine tl_e (e_storeW rfl rfl (by repeat constructor) (by rfl) (by rfl) (wv_ones u)) rfl (fun _ _ => ?_); refine tl_nil ?_; ((refine hK21 ?_; try (clear hK21; clear K21)))
                          all_goals ((obtain ⟨brk, hbrk⟩ : ∃ brk, brk = acY was (a : Int) := ⟨_, rfl⟩; rw [← hbrk]))
                          all_goals refine tc_drawS ([(b15, .cells #[u.1.1, u.2.1.1, u.2.2.1] 108 (0, 0))]) (by kernel_rfl) ?_; refine tx_p 0 rfl (by kernel_rfl) (y_move rfl) rfl (fun _ _ _ h => h) (fun _ h => h.subl SB.s SB.s) ?_; refine tx_p 2 rfl (by kernel_rfl) (y_field rfl) rfl (fun _ _ _ h => h) (fun _ h => h.subl SB.s SB.s) ?_; refine tx_qS 3 rfl (by kernel_rfl) (y_load1 rfl (by repeat constructor) (by rfl)) rfl (fun _ _ _ h => h) (fun _ h => h.subl SB.s SB.s) ?_; refine tx_p 5 rfl (by kernel_rfl) (y_move rfl) rfl (fun _ _ _ h => h) (fun _ h => h.subl SB.s SB.s) ?_; refine tx_p 9 rfl (by kernel_rfl) (y_field rfl) rfl (fun _ _ _ h => h) (fun _ h => h.subl SB.s SB.s) ?_; refine tx_qS 10 rfl (by kernel_rfl) (y_load1 rfl (by repeat constructor) (by rfl)) rfl (fun _ _ _ h => h) (fun _ h => h.subl SB.s SB.s) ?_; refine tx_norm (L' := [true, false, true, true, false, true, false, false, false, true, true, false, false, false, false, false, false, false, false, false, false, false, false, false, false, false, false, false, false, false, false, false, false, false]) (by kernel_rfl) ?_; refine tx_p 12 rfl (by kernel_rfl) (y_move rfl) rfl (fun _ _ _ h => h) (fun _ h => h.subl SB.s SB.s) ?_; refine tx_p 16 rfl (by kernel_rfl) (y_field rfl) rfl (fun _ _ _ h => h) (fun _ h => h.subl SB.s SB.s) ?_; refine tx_qS 17 rfl (by kernel_rfl) (y_load1 rfl (by repeat constructor) (by rfl)) rfl (fun _ _ _ h => h) (fun _ h => h.subl SB.s SB.s) ?_; refine tx_p 19 rfl (by kernel_rfl) (y_move rfl) rfl (fun _ _ _ h => h) (fun _ h => h.subl SB.s SB.s) ?_
                          all_goals (
                           refine tx_cutG (A := (Nat × Nat × List Value) × (Nat × Nat × List Value) × (Nat × Nat × List Value) × Unit) (fun y => (0 + x.op.length ≤ y.2.2.1.2.1 ∧ y.2.2.1.2.2.length = (y.2.2.1.2.1 - (0 + x.op.length)) * 1) ∧ True) (n' := 14) (L' := [true, true, true, true, true, true, true, true, true, true, true, true, true, true, true, true, true, true, true, true, false, false, false, false, false, false, false, false, false, false, false, false, false, false]) (fun y => [(82, .slice (some ⟨y.1.1, 0, none⟩) (0 + x.ac.length + [(a : Int)].length) y.1.2.1), (89, .slice (some ⟨y.2.1.1, 0, none⟩) (0 + x.br.length + [brk].length) y.2.1.2.1), (93, .slice (some ⟨y.2.2.1.1, 0, none⟩) (0 + x.op.length) y.2.2.1.2.1), (75, ouV us2.length oo), (78, u.1.1), (80, vi a), (85, u.2.1.1), (87, .bool brk), (92, u.2.2.1), (94, .bool was), (1, vi b), (2, .slice adl l.length cpl), (3, ptr b3), (7, slV us.length av), (8, vi h), (9, ouV us2.length oo), (10, vi i), (11, .bool was), (12, vi a)]) [(wz2, S), (wz, []), (wl1, []), (w, [])] (fun y => (y.1.1, .cells ([] ++ x.ac.flatMap inE ++ [(a : Int)].flatMap inE ++ y.1.2.2).toArray 3 (0, 0)) :: (y.2.1.1, .cells ([] ++ x.br.flatMap boE ++ [brk].flatMap boE ++ y.2.1.2.2).toArray 4 (0, 0)) :: (y.2.2.1.1, .cells ([] ++ x.op.flatMap boE ++ y.2.2.1.2.2).toArray 4 (0, 0)) :: (b15, .cells #[u.1.1, u.2.1.1, u.2.2.1] 108 (0, 0)) :: slE 108 wyE us2 oo) ?_ (fun hT0 => ?_)
                           rotate_left 1
                           focus (as_aux_lemma => (
                            refine tx_cutG (A := (Nat × Nat × List Value) × (Nat × Nat × List Value) × (Nat) × Unit) (fun y => True) (n' := 15) (L' := [true, true, true, true, true, true, true, true, true, true, true, true, true, true, true, true, true, true, false, true, false, false, false, false, false, false, false, false, false, false, false, false, false, false]) (fun y => [(82, .slice (some ⟨y.1.1, 0, none⟩) (0 + x.ac.length + [(a : Int)].length) y.1.2.1), (89, .slice (some ⟨y.2.1.1, 0, none⟩) (0 + x.br.length + [brk].length) y.2.1.2.1), (90, .slice (some ⟨y.2.2.1, 0, none⟩) 0 0), (75, ouV us2.length oo), (78, u.1.1), (80, vi a), (85, u.2.1.1), (87, .bool brk), (92, u.2.2.1), (94, .bool was), (1, vi b), (2, .slice adl l.length cpl), (3, ptr b3), (7, slV us.length av), (8, vi h), (9, ouV us2.length oo), (10, vi i), (11, .bool was), (12, vi a)]) [(wz2, S), (wz, []), (wl1, []), (w, [])] (fun y => (y.1.1, .cells ([] ++ x.ac.flatMap inE ++ [(a : Int)].flatMap inE ++ y.1.2.2).toArray 3 (0, 0)) :: (y.2.1.1, .cells ([] ++ x.br.flatMap boE ++ [brk].flatMap boE ++ y.2.1.2.2).toArray 4 (0, 0)) :: (y.2.2.1, .cells #[] 4 (0, 0)) :: (b15, .cells #[u.1.1, u.2.1.1, u.2.2.1] 108 (0, 0)) :: slE 108 wyE us2 oo) ?_ (fun hT1 => ?_)
                            · skip
                              rintro ⟨r7, r14, p15, ⟨⟩⟩ ⟨-⟩
                              refine tx_single 18 (by kernel_rfl) ?_
                              · (refine to_e rfl rfl (e_append_big (n := x.op.length) (vs := x.op.flatMap boE) (old := []) (junk := []) rfl rfl rfl (by repeat constructor) (by rfl) (by rfl) (Nat.le_refl _) (fun w' hw' => hxr.op.fr (hw'.fr (w0 := wz) (S := []) MI.m)) (flatE_one boE_one _) (by omega) (by omega)) (.inr ⟨fun _ _ h => h.subl SB.s SB.s, fun _ h => h⟩) (fun r18 hq18 => ?_))
                                exact tx_meetG (hT0 (r7, r14, r18, ()) ⟨hq18, trivial⟩) (by kernel_rfl) (by kernel_rfl) (by repeat (first | exact Sub.nil | refine Sub.cons rfl ?_)) (fun w hw => (HG.mid2 hw).subl SB.s SB.s)
                            refine tx_cutG (A := (Nat × Nat × List Value) × (Nat × Nat × List Value) × Unit) (fun y => True) (n' := 16) (L' := [true, true, true, true, true, true, true, true, true, true, true, true, true, true, true, false, true, true, false, true, false, false, false, false, false, false, false, false, false, false, false, false, false, false]) (fun y => [(82, .slice (some ⟨y.1.1, 0, none⟩) (0 + x.ac.length + [(a : Int)].length) y.1.2.1), (89, .slice (some ⟨y.2.1.1, 0, none⟩) (0 + x.br.length + [brk].length) y.2.1.2.1), (75, ouV us2.length oo), (78, u.1.1), (80, vi a), (85, u.2.1.1), (87, .bool brk), (92, u.2.2.1), (94, .bool was), (1, vi b), (2, .slice adl l.length cpl), (3, ptr b3), (7, slV us.length av), (8, vi h), (9, ouV us2.length oo), (10, vi i), (11, .bool was), (12, vi a)]) [(wz2, S), (wz, []), (wl1, []), (w, [])] (fun y => (y.1.1, .cells ([] ++ x.ac.flatMap inE ++ [(a : Int)].flatMap inE ++ y.1.2.2).toArray 3 (0, 0)) :: (y.2.1.1, .cells ([] ++ x.br.flatMap boE ++ [brk].flatMap boE ++ y.2.1.2.2).toArray 4 (0, 0)) :: (b15, .cells #[u.1.1, u.2.1.1, u.2.2.1] 108 (0, 0)) :: slE 108 wyE us2 oo) ?_ (fun hT2 => ?_)
                            · skip
                              rintro ⟨r7, r14, ⟨⟩⟩ ⟨-⟩
                              refine tx_single 15 (by kernel_rfl) ?_
                              · (refine to_e rfl rfl (e_bslice rfl (by (repeat (exact .nil)); done) rfl rfl) (.inr ⟨fun _ _ h => h.subl SB.s SB.s, fun _ h => h⟩) (fun p15 hq15 => ?_))
                                exact tx_meetG (hT1 (r7, r14, p15, ()) trivial) (by kernel_rfl) (by kernel_rfl) (by repeat (first | exact Sub.nil | refine Sub.cons rfl ?_)) (fun w hw => (HG.mid2 hw).subl SB.s SB.s)
                            refine tx_cutG (A := (Nat × Nat × List Value) × (Nat × Nat × List Value) × (Nat) × (Nat) × Unit) (fun y => (0 + x.br.length ≤ y.2.1.2.1 ∧ y.2.1.2.2.length = (y.2.1.2.1 - (0 + x.br.length)) * 1) ∧ True) (n' := 16) (L' := [true, true, true, true, true, true, true, true, true, true, true, true, true, true, false, true, true, true, false, true, false, false, false, false, false, false, false, false, false, false, false, false, false, false]) (fun y => [(82, .slice (some ⟨y.1.1, 0, none⟩) (0 + x.ac.length + [(a : Int)].length) y.1.2.1), (86, .slice (some ⟨y.2.1.1, 0, none⟩) (0 + x.br.length) y.2.1.2.1), (88, .slice (some ⟨y.2.2.1, 0, none⟩) 1 1), (90, .slice (some ⟨y.2.2.2.1, 0, none⟩) 0 0), (75, ouV us2.length oo), (78, u.1.1), (80, vi a), (85, u.2.1.1), (87, .bool brk), (92, u.2.2.1), (94, .bool was), (1, vi b), (2, .slice adl l.length cpl), (3, ptr b3), (7, slV us.length av), (8, vi h), (9, ouV us2.length oo), (10, vi i), (11, .bool was), (12, vi a)]) [(wz2, S), (wz, []), (wl1, []), (w, [])] (fun y => (y.1.1, .cells ([] ++ x.ac.flatMap inE ++ [(a : Int)].flatMap inE ++ y.1.2.2).toArray 3 (0, 0)) :: (y.2.1.1, .cells ([] ++ x.br.flatMap boE ++ y.2.1.2.2).toArray 4 (0, 0)) :: (y.2.2.1, .cells #[.bool brk] 4 (0, 0)) :: (y.2.2.2.1, .cells #[] 4 (0, 0)) :: (b15, .cells #[u.1.1, u.2.1.1, u.2.2.1] 108 (0, 0)) :: slE 108 wyE us2 oo) ?_ (fun hT3 => ?_)
                            · skip
                              rintro ⟨r7, r11, p13, p15, ⟨⟩⟩ ⟨hq11, -⟩
                              refine tx_single 14 (by kernel_rfl) ?_
                              · (refine to_e rfl rfl (e_append_big (n := 1) (vs := [brk].flatMap boE) (old := [] ++ x.br.flatMap boE) (junk := r11.2.2) rfl rfl rfl (by repeat constructor) (by rw [List.nil_append, flatS_len boE_len]; omega) hq11.2 hq11.1 (fun w' hw' => RdS.own0 (xs := [brk]) boE_len hw' (b := p13) (by repeat constructor)) (flatE_one boE_one _) (by omega) (by omega)) (.inr ⟨fun _ _ h => h.subl SB.s SB.s, fun _ h => h⟩) (fun r14 hq14 => ?_))
                                exact tx_meetG (hT1 (r7, r14, p15, ()) trivial) (by kernel_rfl) (by kernel_rfl) (by repeat (first | exact Sub.nil | refine Sub.cons rfl ?_)) (fun w hw => (HG.mid1 hw).subl SB.s SB.s)
                            refine tx_cutG (A := (Nat × Nat × List Value) × (Nat × Nat × List Value) × (Nat) × Unit) (fun y => (0 + x.br.length ≤ y.2.1.2.1 ∧ y.2.1.2.2.length = (y.2.1.2.1 - (0 + x.br.length)) * 1) ∧ True) (n' := 17) (L' := [true, true, true, true, true, true, true, true, true, true, true, true, true, true, false, false, true, true, false, true, false, false, false, false, false, false, false, false, false, false, false, false, false, false]) (fun y => [(82, .slice (some ⟨y.1.1, 0, none⟩) (0 + x.ac.length + [(a : Int)].length) y.1.2.1), (86, .slice (some ⟨y.2.1.1, 0, none⟩) (0 + x.br.length) y.2.1.2.1), (88, .slice (some ⟨y.2.2.1, 0, none⟩) 1 1), (75, ouV us2.length oo), (78, u.1.1), (80, vi a), (85, u.2.1.1), (87, .bool brk), (92, u.2.2.1), (94, .bool was), (1, vi b), (2, .slice adl l.length cpl), (3, ptr b3), (7, slV us.length av), (8, vi h), (9, ouV us2.length oo), (10, vi i), (11, .bool was), (12, vi a)]) [(wz2, S), (wz, []), (wl1, []), (w, [])] (fun y => (y.1.1, .cells ([] ++ x.ac.flatMap inE ++ [(a : Int)].flatMap inE ++ y.1.2.2).toArray 3 (0, 0)) :: (y.2.1.1, .cells ([] ++ x.br.flatMap boE ++ y.2.1.2.2).toArray 4 (0, 0)) :: (y.2.2.1, .cells #[.bool brk] 4 (0, 0)) :: (b15, .cells #[u.1.1, u.2.1.1, u.2.2.1] 108 (0, 0)) :: slE 108 wyE us2 oo) ?_ (fun hT4 => ?_)
                            · skip
                              rintro ⟨r7, r11, p13, ⟨⟩⟩ ⟨hq11, -⟩
                              refine tx_pair 14 15 (by kernel_rfl) ?_ ?_
                              · (refine to_e rfl rfl (e_append_big (n := 1) (vs := [brk].flatMap boE) (old := [] ++ x.br.flatMap boE) (junk := r11.2.2) rfl rfl rfl (by repeat constructor) (by rw [List.nil_append, flatS_len boE_len]; omega) hq11.2 hq11.1 (fun w' hw' => RdS.own0 (xs := [brk]) boE_len hw' (b := p13) (by repeat constructor)) (flatE_one boE_one _) (by omega) (by omega)) (.inr ⟨fun _ _ h => h.subl SB.s SB.s, fun _ h => h⟩) (fun r14 hq14 => ?_))
                                exact tx_meetG (hT2 (r7, r14, ()) trivial) (by kernel_rfl) (by kernel_rfl) (by repeat (first | exact Sub.nil | refine Sub.cons rfl ?_)) (fun w hw => (HG.mid1 hw).subl SB.s SB.s)
                              · (refine to_e rfl rfl (e_bslice rfl (by (repeat (exact .nil)); done) rfl rfl) (.inr ⟨fun _ _ h => h.subl SB.s SB.s, fun _ h => h⟩) (fun p15 hq15 => ?_))
                                exact tx_meetG (hT3 (r7, r11, p13, p15, ()) ⟨hq11, trivial⟩) (by kernel_rfl) (by kernel_rfl) (by repeat (first | exact Sub.nil | refine Sub.cons rfl ?_)) (fun w hw => (HG.mid3 hw).subl SB.s SB.s)
                            refine tx_cutG (A := (Nat × Nat × List Value) × (Nat × Nat × List Value) × (Nat) × Unit) (fun y => (0 + x.br.length ≤ y.2.1.2.1 ∧ y.2.1.2.2.length = (y.2.1.2.1 - (0 + x.br.length)) * 1) ∧ True) (n' := 17) (L' := [true, true, true, true, true, true, true, true, true, true, true, true, true, false, false, true, true, true, false, true, false, false, false, false, false, false, false, false, false, false, false, false, false, false]) (fun y => [(82, .slice (some ⟨y.1.1, 0, none⟩) (0 + x.ac.length + [(a : Int)].length) y.1.2.1), (86, .slice (some ⟨y.2.1.1, 0, none⟩) (0 + x.br.length) y.2.1.2.1), (90, .slice (some ⟨y.2.2.1, 0, none⟩) 0 0), (75, ouV us2.length oo), (78, u.1.1), (80, vi a), (85, u.2.1.1), (87, .bool brk), (92, u.2.2.1), (94, .bool was), (1, vi b), (2, .slice adl l.length cpl), (3, ptr b3), (7, slV us.length av), (8, vi h), (9, ouV us2.length oo), (10, vi i), (11, .bool was), (12, vi a)]) [(wz2, S), (wz, []), (wl1, []), (w, [])] (fun y => (y.1.1, .cells ([] ++ x.ac.flatMap inE ++ [(a : Int)].flatMap inE ++ y.1.2.2).toArray 3 (0, 0)) :: (y.2.1.1, .cells ([] ++ x.br.flatMap boE ++ y.2.1.2.2).toArray 4 (0, 0)) :: (y.2.2.1, .cells #[] 4 (0, 0)) :: (b15, .cells #[u.1.1, u.2.1.1, u.2.2.1] 108 (0, 0)) :: slE 108 wyE us2 oo) ?_ (fun hT5 => ?_)
                            · skip
                              rintro ⟨r7, r11, p15, ⟨⟩⟩ ⟨hq11, -⟩
                              refine tx_single 13 (by kernel_rfl) ?_
                              · (refine to_e rfl rfl (e_bslice rfl (by (repeat (first | exact .nil | apply PV.one rfl rfl)); done) rfl rfl) (.inr ⟨fun _ _ h => h.subl SB.s SB.s, fun _ h => h⟩) (fun p13 hq13 => ?_))
                                exact tx_meetG (hT3 (r7, r11, p13, p15, ()) ⟨hq11, trivial⟩) (by kernel_rfl) (by kernel_rfl) (by repeat (first | exact Sub.nil | refine Sub.cons rfl ?_)) (fun w hw => (HG.mid2 hw).subl SB.s SB.s)
                            refine tx_cutG (A := (Nat × Nat × List Value) × (Nat) × (Nat) × (Nat) × Unit) (fun y => True) (n' := 17) (L' := [true, true, true, true, true, true, true, true, true, true, true, false, true, true, false, true, true, true, false, true, false, false, false, false, false, false, false, false, false, false, false, false, false, false]) (fun y => [(82, .slice (some ⟨y.1.1, 0, none⟩) (0 + x.ac.length + [(a : Int)].length) y.1.2.1), (83, .slice (some ⟨y.2.1, 0, none⟩) 0 0), (88, .slice (some ⟨y.2.2.1, 0, none⟩) 1 1), (90, .slice (some ⟨y.2.2.2.1, 0, none⟩) 0 0), (75, ouV us2.length oo), (78, u.1.1), (80, vi a), (85, u.2.1.1), (87, .bool brk), (92, u.2.2.1), (94, .bool was), (1, vi b), (2, .slice adl l.length cpl), (3, ptr b3), (7, slV us.length av), (8, vi h), (9, ouV us2.length oo), (10, vi i), (11, .bool was), (12, vi a)]) [(wz2, S), (wz, []), (wl1, []), (w, [])] (fun y => (y.1.1, .cells ([] ++ x.ac.flatMap inE ++ [(a : Int)].flatMap inE ++ y.1.2.2).toArray 3 (0, 0)) :: (y.2.1, .cells #[] 4 (0, 0)) :: (y.2.2.1, .cells #[.bool brk] 4 (0, 0)) :: (y.2.2.2.1, .cells #[] 4 (0, 0)) :: (b15, .cells #[u.1.1, u.2.1.1, u.2.2.1] 108 (0, 0)) :: slE 108 wyE us2 oo) ?_ (fun hT6 => ?_)
                            · skip
                              rintro ⟨r7, p8, p13, p15, ⟨⟩⟩ ⟨-⟩
                              refine tx_single 11 (by kernel_rfl) ?_
                              · (refine to_e rfl rfl (e_append_big (n := x.br.length) (vs := x.br.flatMap boE) (old := []) (junk := []) rfl rfl rfl (by repeat constructor) (by rfl) (by rfl) (Nat.le_refl _) (fun w' hw' => hxr.br.fr (hw'.fr (w0 := wz) (S := []) MI.m)) (flatE_one boE_one _) (by omega) (by omega)) (.inr ⟨fun _ _ h => h.subl SB.s SB.s, fun _ h => h⟩) (fun r11 hq11 => ?_))
                                exact tx_meetG (hT3 (r7, r11, p13, p15, ()) ⟨hq11, trivial⟩) (by kernel_rfl) (by kernel_rfl) (by repeat (first | exact Sub.nil | refine Sub.cons rfl ?_)) (fun w hw => (HG.mid1 hw).subl SB.s SB.s)
                            refine tx_cutG (A := (Nat × Nat × List Value) × (Nat × Nat × List Value) × Unit) (fun y => (0 + x.br.length ≤ y.2.1.2.1 ∧ y.2.1.2.2.length = (y.2.1.2.1 - (0 + x.br.length)) * 1) ∧ True) (n' := 18) (L' := [true, true, true, true, true, true, true, true, true, true, true, true, true, false, false, false, true, true, false, true, false, false, false, false, false, false, false, false, false, false, false, false, false, false]) (fun y => [(82, .slice (some ⟨y.1.1, 0, none⟩) (0 + x.ac.length + [(a : Int)].length) y.1.2.1), (86, .slice (some ⟨y.2.1.1, 0, none⟩) (0 + x.br.length) y.2.1.2.1), (75, ouV us2.length oo), (78, u.1.1), (80, vi a), (85, u.2.1.1), (87, .bool brk), (92, u.2.2.1), (94, .bool was), (1, vi b), (2, .slice adl l.length cpl), (3, ptr b3), (7, slV us.length av), (8, vi h), (9, ouV us2.length oo), (10, vi i), (11, .bool was), (12, vi a)]) [(wz2, S), (wz, []), (wl1, []), (w, [])] (fun y => (y.1.1, .cells ([] ++ x.ac.flatMap inE ++ [(a : Int)].flatMap inE ++ y.1.2.2).toArray 3 (0, 0)) :: (y.2.1.1, .cells ([] ++ x.br.flatMap boE ++ y.2.1.2.2).toArray 4 (0, 0)) :: (b15, .cells #[u.1.1, u.2.1.1, u.2.2.1] 108 (0, 0)) :: slE 108 wyE us2 oo) ?_ (fun hT7 => ?_)
                            · skip
                              rintro ⟨r7, r11, ⟨⟩⟩ ⟨hq11, -⟩
                              refine tx_pair 13 15 (by kernel_rfl) ?_ ?_
                              · (refine to_e rfl rfl (e_bslice rfl (by (repeat (first | exact .nil | apply PV.one rfl rfl)); done) rfl rfl) (.inr ⟨fun _ _ h => h.subl SB.s SB.s, fun _ h => h⟩) (fun p13 hq13 => ?_))
                                exact tx_meetG (hT4 (r7, r11, p13, ()) ⟨hq11, trivial⟩) (by kernel_rfl) (by kernel_rfl) (by repeat (first | exact Sub.nil | refine Sub.cons rfl ?_)) (fun w hw => (HG.mid2 hw).subl SB.s SB.s)
                              · (refine to_e rfl rfl (e_bslice rfl (by (repeat (exact .nil)); done) rfl rfl) (.inr ⟨fun _ _ h => h.subl SB.s SB.s, fun _ h => h⟩) (fun p15 hq15 => ?_))
                                exact tx_meetG (hT5 (r7, r11, p15, ()) ⟨hq11, trivial⟩) (by kernel_rfl) (by kernel_rfl) (by repeat (first | exact Sub.nil | refine Sub.cons rfl ?_)) (fun w hw => (HG.mid2 hw).subl SB.s SB.s)
                            refine tx_cutG (A := (Nat × Nat × List Value) × (Nat) × (Nat) × Unit) (fun y => True) (n' := 18) (L' := [true, true, true, true, true, true, true, true, true, true, true, false, true, true, false, false, true, true, false, true, false, false, false, false, false, false, false, false, false, false, false, false, false, false]) (fun y => [(82, .slice (some ⟨y.1.1, 0, none⟩) (0 + x.ac.length + [(a : Int)].length) y.1.2.1), (83, .slice (some ⟨y.2.1, 0, none⟩) 0 0), (88, .slice (some ⟨y.2.2.1, 0, none⟩) 1 1), (75, ouV us2.length oo), (78, u.1.1), (80, vi a), (85, u.2.1.1), (87, .bool brk), (92, u.2.2.1), (94, .bool was), (1, vi b), (2, .slice adl l.length cpl), (3, ptr b3), (7, slV us.length av), (8, vi h), (9, ouV us2.length oo), (10, vi i), (11, .bool was), (12, vi a)]) [(wz2, S), (wz, []), (wl1, []), (w, [])] (fun y => (y.1.1, .cells ([] ++ x.ac.flatMap inE ++ [(a : Int)].flatMap inE ++ y.1.2.2).toArray 3 (0, 0)) :: (y.2.1, .cells #[] 4 (0, 0)) :: (y.2.2.1, .cells #[.bool brk] 4 (0, 0)) :: (b15, .cells #[u.1.1, u.2.1.1, u.2.2.1] 108 (0, 0)) :: slE 108 wyE us2 oo) ?_ (fun hT8 => ?_)
                            · skip
                              rintro ⟨r7, p8, p13, ⟨⟩⟩ ⟨-⟩
                              refine tx_pair 11 15 (by kernel_rfl) ?_ ?_
                              · (refine to_e rfl rfl (e_append_big (n := x.br.length) (vs := x.br.flatMap boE) (old := []) (junk := []) rfl rfl rfl (by repeat constructor) (by rfl) (by rfl) (Nat.le_refl _) (fun w' hw' => hxr.br.fr (hw'.fr (w0 := wz) (S := []) MI.m)) (flatE_one boE_one _) (by omega) (by omega)) (.inr ⟨fun _ _ h => h.subl SB.s SB.s, fun _ h => h⟩) (fun r11 hq11 => ?_))
                                exact tx_meetG (hT4 (r7, r11, p13, ()) ⟨hq11, trivial⟩) (by kernel_rfl) (by kernel_rfl) (by repeat (first | exact Sub.nil | refine Sub.cons rfl ?_)) (fun w hw => (HG.mid1 hw).subl SB.s SB.s)
                              · (refine to_e rfl rfl (e_bslice rfl (by (repeat (exact .nil)); done) rfl rfl) (.inr ⟨fun _ _ h => h.subl SB.s SB.s, fun _ h => h⟩) (fun p15 hq15 => ?_))
                                exact tx_meetG (hT6 (r7, p8, p13, p15, ()) trivial) (by kernel_rfl) (by kernel_rfl) (by repeat (first | exact Sub.nil | refine Sub.cons rfl ?_)) (fun w hw => (HG.mid3 hw).subl SB.s SB.s)
                            refine tx_cutG (A := (Nat × Nat × List Value) × (Nat) × (Nat) × Unit) (fun y => True) (n' := 18) (L' := [true, true, true, true, true, true, true, true, true, true, true, false, true, false, false, true, true, true, false, true, false, false, false, false, false, false, false, false, false, false, false, false, false, false]) (fun y => [(82, .slice (some ⟨y.1.1, 0, none⟩) (0 + x.ac.length + [(a : Int)].length) y.1.2.1), (83, .slice (some ⟨y.2.1, 0, none⟩) 0 0), (90, .slice (some ⟨y.2.2.1, 0, none⟩) 0 0), (75, ouV us2.length oo), (78, u.1.1), (80, vi a), (85, u.2.1.1), (87, .bool brk), (92, u.2.2.1), (94, .bool was), (1, vi b), (2, .slice adl l.length cpl), (3, ptr b3), (7, slV us.length av), (8, vi h), (9, ouV us2.length oo), (10, vi i), (11, .bool was), (12, vi a)]) [(wz2, S), (wz, []), (wl1, []), (w, [])] (fun y => (y.1.1, .cells ([] ++ x.ac.flatMap inE ++ [(a : Int)].flatMap inE ++ y.1.2.2).toArray 3 (0, 0)) :: (y.2.1, .cells #[] 4 (0, 0)) :: (y.2.2.1, .cells #[] 4 (0, 0)) :: (b15, .cells #[u.1.1, u.2.1.1, u.2.2.1] 108 (0, 0)) :: slE 108 wyE us2 oo) ?_ (fun hT9 => ?_)
                            · skip
                              rintro ⟨r7, p8, p15, ⟨⟩⟩ ⟨-⟩
                              refine tx_pair 11 13 (by kernel_rfl) ?_ ?_
                              · (refine to_e rfl rfl (e_append_big (n := x.br.length) (vs := x.br.flatMap boE) (old := []) (junk := []) rfl rfl rfl (by repeat constructor) (by rfl) (by rfl) (Nat.le_refl _) (fun w' hw' => hxr.br.fr (hw'.fr (w0 := wz) (S := []) MI.m)) (flatE_one boE_one _) (by omega) (by omega)) (.inr ⟨fun _ _ h => h.subl SB.s SB.s, fun _ h => h⟩) (fun r11 hq11 => ?_))
                                exact tx_meetG (hT5 (r7, r11, p15, ()) ⟨hq11, trivial⟩) (by kernel_rfl) (by kernel_rfl) (by repeat (first | exact Sub.nil | refine Sub.cons rfl ?_)) (fun w hw => (HG.mid1 hw).subl SB.s SB.s)
                              · (refine to_e rfl rfl (e_bslice rfl (by (repeat (first | exact .nil | apply PV.one rfl rfl)); done) rfl rfl) (.inr ⟨fun _ _ h => h.subl SB.s SB.s, fun _ h => h⟩) (fun p13 hq13 => ?_))
                                exact tx_meetG (hT6 (r7, p8, p13, p15, ()) trivial) (by kernel_rfl) (by kernel_rfl) (by repeat (first | exact Sub.nil | refine Sub.cons rfl ?_)) (fun w hw => (HG.mid2 hw).subl SB.s SB.s)
                            refine tx_cutG (A := (Nat × Nat × List Value) × (Nat) × (Nat) × Unit) (fun y => True) (n' := 18) (L' := [true, true, true, true, true, true, true, true, false, true, true, false, true, true, false, true, true, true, false, true, false, false, false, false, false, false, false, false, false, false, false, false, false, false]) (fun y => [(82, .slice (some ⟨y.1.1, 0, none⟩) (0 + x.ac.length + [(a : Int)].length) y.1.2.1), (88, .slice (some ⟨y.2.1, 0, none⟩) 1 1), (90, .slice (some ⟨y.2.2.1, 0, none⟩) 0 0), (75, ouV us2.length oo), (78, u.1.1), (80, vi a), (85, u.2.1.1), (87, .bool brk), (92, u.2.2.1), (94, .bool was), (1, vi b), (2, .slice adl l.length cpl), (3, ptr b3), (7, slV us.length av), (8, vi h), (9, ouV us2.length oo), (10, vi i), (11, .bool was), (12, vi a)]) [(wz2, S), (wz, []), (wl1, []), (w, [])] (fun y => (y.1.1, .cells ([] ++ x.ac.flatMap inE ++ [(a : Int)].flatMap inE ++ y.1.2.2).toArray 3 (0, 0)) :: (y.2.1, .cells #[.bool brk] 4 (0, 0)) :: (y.2.2.1, .cells #[] 4 (0, 0)) :: (b15, .cells #[u.1.1, u.2.1.1, u.2.2.1] 108 (0, 0)) :: slE 108 wyE us2 oo) ?_ (fun hT10 => ?_)
                            · skip
                              rintro ⟨r7, p13, p15, ⟨⟩⟩ ⟨-⟩
                              refine tx_single 8 (by kernel_rfl) ?_
                              · (refine to_e rfl rfl (e_bslice rfl (by (repeat (exact .nil)); done) rfl rfl) (.inr ⟨fun _ _ h => h.subl SB.s SB.s, fun _ h => h⟩) (fun p8 hq8 => ?_))
                                exact tx_meetG (hT6 (r7, p8, p13, p15, ()) trivial) (by kernel_rfl) (by kernel_rfl) (by repeat (first | exact Sub.nil | refine Sub.cons rfl ?_)) (fun w hw => (HG.mid1 hw).subl SB.s SB.s)
                            refine tx_cutG (A := (Nat × Nat × List Value) × (Nat) × (Nat) × (Nat) × (Nat) × Unit) (fun y => (0 + x.ac.length ≤ y.1.2.1 ∧ y.1.2.2.length = (y.1.2.1 - (0 + x.ac.length)) * 1) ∧ True) (n' := 18) (L' := [true, true, true, true, true, true, true, false, true, true, true, false, true, true, false, true, true, true, false, true, false, false, false, false, false, false, false, false, false, false, false, false, false, false]) (fun y => [(79, .slice (some ⟨y.1.1, 0, none⟩) (0 + x.ac.length) y.1.2.1), (81, .slice (some ⟨y.2.1, 0, none⟩) 1 1), (83, .slice (some ⟨y.2.2.1, 0, none⟩) 0 0), (88, .slice (some ⟨y.2.2.2.1, 0, none⟩) 1 1), (90, .slice (some ⟨y.2.2.2.2.1, 0, none⟩) 0 0), (75, ouV us2.length oo), (78, u.1.1), (80, vi a), (85, u.2.1.1), (87, .bool brk), (92, u.2.2.1), (94, .bool was), (1, vi b), (2, .slice adl l.length cpl), (3, ptr b3), (7, slV us.length av), (8, vi h), (9, ouV us2.length oo), (10, vi i), (11, .bool was), (12, vi a)]) [(wz2, S), (wz, []), (wl1, []), (w, [])] (fun y => (y.1.1, .cells ([] ++ x.ac.flatMap inE ++ y.1.2.2).toArray 3 (0, 0)) :: (y.2.1, .cells #[vi a] 3 (0, 0)) :: (y.2.2.1, .cells #[] 4 (0, 0)) :: (y.2.2.2.1, .cells #[.bool brk] 4 (0, 0)) :: (y.2.2.2.2.1, .cells #[] 4 (0, 0)) :: (b15, .cells #[u.1.1, u.2.1.1, u.2.2.1] 108 (0, 0)) :: slE 108 wyE us2 oo) ?_ (fun hT11 => ?_)
                            · skip
                              rintro ⟨r4, p6, p8, p13, p15, ⟨⟩⟩ ⟨hq4, -⟩
                              refine tx_single 7 (by kernel_rfl) ?_
                              · (refine to_e rfl rfl (e_append_big (n := 1) (vs := [(a : Int)].flatMap inE) (old := [] ++ x.ac.flatMap inE) (junk := r4.2.2) rfl rfl rfl (by repeat constructor) (by rw [List.nil_append, flatS_len inE_len]; omega) hq4.2 hq4.1 (fun w' hw' => RdS.own0 (xs := [(a : Int)]) inE_len hw' (b := p6) (by repeat constructor)) (flatE_one inE_one _) (by omega) (by omega)) (.inr ⟨fun _ _ h => h.subl SB.s SB.s, fun _ h => h⟩) (fun r7 hq7 => ?_))
                                exact tx_meetG (hT6 (r7, p8, p13, p15, ()) trivial) (by kernel_rfl) (by kernel_rfl) (by repeat (first | exact Sub.nil | refine Sub.cons rfl ?_)) (fun w hw => hw.subl SB.s SB.s)
                            refine tx_cutG (A := (Nat × Nat × List Value) × (Nat) × Unit) (fun y => True) (n' := 19) (L' := [true, true, true, true, true, true, true, true, true, true, true, false, true, false, false, false, true, true, false, true, false, false, false, false, false, false, false, false, false, false, false, false, false, false]) (fun y => [(82, .slice (some ⟨y.1.1, 0, none⟩) (0 + x.ac.length + [(a : Int)].length) y.1.2.1), (83, .slice (some ⟨y.2.1, 0, none⟩) 0 0), (75, ouV us2.length oo), (78, u.1.1), (80, vi a), (85, u.2.1.1), (87, .bool brk), (92, u.2.2.1), (94, .bool was), (1, vi b), (2, .slice adl l.length cpl), (3, ptr b3), (7, slV us.length av), (8, vi h), (9, ouV us2.length oo), (10, vi i), (11, .bool was), (12, vi a)]) [(wz2, S), (wz, []), (wl1, []), (w, [])] (fun y => (y.1.1, .cells ([] ++ x.ac.flatMap inE ++ [(a : Int)].flatMap inE ++ y.1.2.2).toArray 3 (0, 0)) :: (y.2.1, .cells #[] 4 (0, 0)) :: (b15, .cells #[u.1.1, u.2.1.1, u.2.2.1] 108 (0, 0)) :: slE 108 wyE us2 oo) ?_ (fun hT12 => ?_)
                            · skip
                              rintro ⟨r7, p8, ⟨⟩⟩ ⟨-⟩
                              refine tx_three 11 13 15 (by kernel_rfl) ?_ ?_ ?_
                              · (refine to_e rfl rfl (e_append_big (n := x.br.length) (vs := x.br.flatMap boE) (old := []) (junk := []) rfl rfl rfl (by repeat constructor) (by rfl) (by rfl) (Nat.le_refl _) (fun w' hw' => hxr.br.fr (hw'.fr (w0 := wz) (S := []) MI.m)) (flatE_one boE_one _) (by omega) (by omega)) (.inr ⟨fun _ _ h => h.subl SB.s SB.s, fun _ h => h⟩) (fun r11 hq11 => ?_))
                                exact tx_meetG (hT7 (r7, r11, ()) ⟨hq11, trivial⟩) (by kernel_rfl) (by kernel_rfl) (by repeat (first | exact Sub.nil | refine Sub.cons rfl ?_)) (fun w hw => (HG.mid1 hw).subl SB.s SB.s)
                              · (refine to_e rfl rfl (e_bslice rfl (by (repeat (first | exact .nil | apply PV.one rfl rfl)); done) rfl rfl) (.inr ⟨fun _ _ h => h.subl SB.s SB.s, fun _ h => h⟩) (fun p13 hq13 => ?_))
                                exact tx_meetG (hT8 (r7, p8, p13, ()) trivial) (by kernel_rfl) (by kernel_rfl) (by repeat (first | exact Sub.nil | refine Sub.cons rfl ?_)) (fun w hw => (HG.mid2 hw).subl SB.s SB.s)
                              · (refine to_e rfl rfl (e_bslice rfl (by (repeat (exact .nil)); done) rfl rfl) (.inr ⟨fun _ _ h => h.subl SB.s SB.s, fun _ h => h⟩) (fun p15 hq15 => ?_))
                                exact tx_meetG (hT9 (r7, p8, p15, ()) trivial) (by kernel_rfl) (by kernel_rfl) (by repeat (first | exact Sub.nil | refine Sub.cons rfl ?_)) (fun w hw => (HG.mid2 hw).subl SB.s SB.s)
                            refine tx_cutG (A := (Nat × Nat × List Value) × (Nat) × Unit) (fun y => True) (n' := 19) (L' := [true, true, true, true, true, true, true, true, false, true, true, false, true, true, false, false, true, true, false, true, false, false, false, false, false, false, false, false, false, false, false, false, false, false]) (fun y => [(82, .slice (some ⟨y.1.1, 0, none⟩) (0 + x.ac.length + [(a : Int)].length) y.1.2.1), (88, .slice (some ⟨y.2.1, 0, none⟩) 1 1), (75, ouV us2.length oo), (78, u.1.1), (80, vi a), (85, u.2.1.1), (87, .bool brk), (92, u.2.2.1), (94, .bool was), (1, vi b), (2, .slice adl l.length cpl), (3, ptr b3), (7, slV us.length av), (8, vi h), (9, ouV us2.length oo), (10, vi i), (11, .bool was), (12, vi a)]) [(wz2, S), (wz, []), (wl1, []), (w, [])] (fun y => (y.1.1, .cells ([] ++ x.ac.flatMap inE ++ [(a : Int)].flatMap inE ++ y.1.2.2).toArray 3 (0, 0)) :: (y.2.1, .cells #[.bool brk] 4 (0, 0)) :: (b15, .cells #[u.1.1, u.2.1.1, u.2.2.1] 108 (0, 0)) :: slE 108 wyE us2 oo) ?_ (fun hT13 => ?_)
                            · skip
                              rintro ⟨r7, p13, ⟨⟩⟩ ⟨-⟩
                              refine tx_pair 8 15 (by kernel_rfl) ?_ ?_
                              · (refine to_e rfl rfl (e_bslice rfl (by (repeat (exact .nil)); done) rfl rfl) (.inr ⟨fun _ _ h => h.subl SB.s SB.s, fun _ h => h⟩) (fun p8 hq8 => ?_))
                                exact tx_meetG (hT8 (r7, p8, p13, ()) trivial) (by kernel_rfl) (by kernel_rfl) (by repeat (first | exact Sub.nil | refine Sub.cons rfl ?_)) (fun w hw => (HG.mid1 hw).subl SB.s SB.s)
                              · (refine to_e rfl rfl (e_bslice rfl (by (repeat (exact .nil)); done) rfl rfl) (.inr ⟨fun _ _ h => h.subl SB.s SB.s, fun _ h => h⟩) (fun p15 hq15 => ?_))
                                exact tx_meetG (hT10 (r7, p13, p15, ()) trivial) (by kernel_rfl) (by kernel_rfl) (by repeat (first | exact Sub.nil | refine Sub.cons rfl ?_)) (fun w hw => (HG.mid2 hw).subl SB.s SB.s)
                            refine tx_cutG (A := (Nat × Nat × List Value) × (Nat) × Unit) (fun y => True) (n' := 19) (L' := [true, true, true, true, true, true, true, true, false, true, true, false, true, false, false, true, true, true, false, true, false, false, false, false, false, false, false, false, false, false, false, false, false, false]) (fun y => [(82, .slice (some ⟨y.1.1, 0, none⟩) (0 + x.ac.length + [(a : Int)].length) y.1.2.1), (90, .slice (some ⟨y.2.1, 0, none⟩) 0 0), (75, ouV us2.length oo), (78, u.1.1), (80, vi a), (85, u.2.1.1), (87, .bool brk), (92, u.2.2.1), (94, .bool was), (1, vi b), (2, .slice adl l.length cpl), (3, ptr b3), (7, slV us.length av), (8, vi h), (9, ouV us2.length oo), (10, vi i), (11, .bool was), (12, vi a)]) [(wz2, S), (wz, []), (wl1, []), (w, [])] (fun y => (y.1.1, .cells ([] ++ x.ac.flatMap inE ++ [(a : Int)].flatMap inE ++ y.1.2.2).toArray 3 (0, 0)) :: (y.2.1, .cells #[] 4 (0, 0)) :: (b15, .cells #[u.1.1, u.2.1.1, u.2.2.1] 108 (0, 0)) :: slE 108 wyE us2 oo) ?_ (fun hT14 => ?_)
                            · skip
                              rintro ⟨r7, p15, ⟨⟩⟩ ⟨-⟩
                              refine tx_pair 8 13 (by kernel_rfl) ?_ ?_
                              · (refine to_e rfl rfl (e_bslice rfl (by (repeat (exact .nil)); done) rfl rfl) (.inr ⟨fun _ _ h => h.subl SB.s SB.s, fun _ h => h⟩) (fun p8 hq8 => ?_))
                                exact tx_meetG (hT9 (r7, p8, p15, ()) trivial) (by kernel_rfl) (by kernel_rfl) (by repeat (first | exact Sub.nil | refine Sub.cons rfl ?_)) (fun w hw => (HG.mid1 hw).subl SB.s SB.s)
                              · (refine to_e rfl rfl (e_bslice rfl (by (repeat (first | exact .nil | apply PV.one rfl rfl)); done) rfl rfl) (.inr ⟨fun _ _ h => h.subl SB.s SB.s, fun _ h => h⟩) (fun p13 hq13 => ?_))
                                exact tx_meetG (hT10 (r7, p13, p15, ()) trivial) (by kernel_rfl) (by kernel_rfl) (by repeat (first | exact Sub.nil | refine Sub.cons rfl ?_)) (fun w hw => (HG.mid1 hw).subl SB.s SB.s)
                            refine tx_cutG (A := (Nat × Nat × List Value) × (Nat) × (Nat) × (Nat) × Unit) (fun y => (0 + x.ac.length ≤ y.1.2.1 ∧ y.1.2.2.length = (y.1.2.1 - (0 + x.ac.length)) * 1) ∧ True) (n' := 19) (L' := [true, true, true, true, true, true, true, false, true, true, true, false, true, true, false, false, true, true, false, true, false, false, false, false, false, false, false, false, false, false, false, false, false, false]) (fun y => [(79, .slice (some ⟨y.1.1, 0, none⟩) (0 + x.ac.length) y.1.2.1), (81, .slice (some ⟨y.2.1, 0, none⟩) 1 1), (83, .slice (some ⟨y.2.2.1, 0, none⟩) 0 0), (88, .slice (some ⟨y.2.2.2.1, 0, none⟩) 1 1), (75, ouV us2.length oo), (78, u.1.1), (80, vi a), (85, u.2.1.1), (87, .bool brk), (92, u.2.2.1), (94, .bool was), (1, vi b), (2, .slice adl l.length cpl), (3, ptr b3), (7, slV us.length av), (8, vi h), (9, ouV us2.length oo), (10, vi i), (11, .bool was), (12, vi a)]) [(wz2, S), (wz, []), (wl1, []), (w, [])] (fun y => (y.1.1, .cells ([] ++ x.ac.flatMap inE ++ y.1.2.2).toArray 3 (0, 0)) :: (y.2.1, .cells #[vi a] 3 (0, 0)) :: (y.2.2.1, .cells #[] 4 (0, 0)) :: (y.2.2.2.1, .cells #[.bool brk] 4 (0, 0)) :: (b15, .cells #[u.1.1, u.2.1.1, u.2.2.1] 108 (0, 0)) :: slE 108 wyE us2 oo) ?_ (fun hT15 => ?_)
                            · skip
                              rintro ⟨r4, p6, p8, p13, ⟨⟩⟩ ⟨hq4, -⟩
                              refine tx_pair 7 15 (by kernel_rfl) ?_ ?_
                              · (refine to_e rfl rfl (e_append_big (n := 1) (vs := [(a : Int)].flatMap inE) (old := [] ++ x.ac.flatMap inE) (junk := r4.2.2) rfl rfl rfl (by repeat constructor) (by rw [List.nil_append, flatS_len inE_len]; omega) hq4.2 hq4.1 (fun w' hw' => RdS.own0 (xs := [(a : Int)]) inE_len hw' (b := p6) (by repeat constructor)) (flatE_one inE_one _) (by omega) (by omega)) (.inr ⟨fun _ _ h => h.subl SB.s SB.s, fun _ h => h⟩) (fun r7 hq7 => ?_))
                                exact tx_meetG (hT8 (r7, p8, p13, ()) trivial) (by kernel_rfl) (by kernel_rfl) (by repeat (first | exact Sub.nil | refine Sub.cons rfl ?_)) (fun w hw => hw.subl SB.s SB.s)
                              · (refine to_e rfl rfl (e_bslice rfl (by (repeat (exact .nil)); done) rfl rfl) (.inr ⟨fun _ _ h => h.subl SB.s SB.s, fun _ h => h⟩) (fun p15 hq15 => ?_))
                                exact tx_meetG (hT11 (r4, p6, p8, p13, p15, ()) ⟨hq4, trivial⟩) (by kernel_rfl) (by kernel_rfl) (by repeat (first | exact Sub.nil | refine Sub.cons rfl ?_)) (fun w hw => (HG.mid4 hw).subl SB.s SB.s)
                            refine tx_cutG (A := (Nat × Nat × List Value) × (Nat) × (Nat) × (Nat) × Unit) (fun y => (0 + x.ac.length ≤ y.1.2.1 ∧ y.1.2.2.length = (y.1.2.1 - (0 + x.ac.length)) * 1) ∧ True) (n' := 19) (L' := [true, true, true, true, true, true, true, false, true, true, true, false, true, false, false, true, true, true, false, true, false, false, false, false, false, false, false, false, false, false, false, false, false, false]) (fun y => [(79, .slice (some ⟨y.1.1, 0, none⟩) (0 + x.ac.length) y.1.2.1), (81, .slice (some ⟨y.2.1, 0, none⟩) 1 1), (83, .slice (some ⟨y.2.2.1, 0, none⟩) 0 0), (90, .slice (some ⟨y.2.2.2.1, 0, none⟩) 0 0), (75, ouV us2.length oo), (78, u.1.1), (80, vi a), (85, u.2.1.1), (87, .bool brk), (92, u.2.2.1), (94, .bool was), (1, vi b), (2, .slice adl l.length cpl), (3, ptr b3), (7, slV us.length av), (8, vi h), (9, ouV us2.length oo), (10, vi i), (11, .bool was), (12, vi a)]) [(wz2, S), (wz, []), (wl1, []), (w, [])] (fun y => (y.1.1, .cells ([] ++ x.ac.flatMap inE ++ y.1.2.2).toArray 3 (0, 0)) :: (y.2.1, .cells #[vi a] 3 (0, 0)) :: (y.2.2.1, .cells #[] 4 (0, 0)) :: (y.2.2.2.1, .cells #[] 4 (0, 0)) :: (b15, .cells #[u.1.1, u.2.1.1, u.2.2.1] 108 (0, 0)) :: slE 108 wyE us2 oo) ?_ (fun hT16 => ?_)
                            · skip
                              rintro ⟨r4, p6, p8, p15, ⟨⟩⟩ ⟨hq4, -⟩
                              refine tx_pair 7 13 (by kernel_rfl) ?_ ?_
                              · (refine to_e rfl rfl (e_append_big (n := 1) (vs := [(a : Int)].flatMap inE) (old := [] ++ x.ac.flatMap inE) (junk := r4.2.2) rfl rfl rfl (by repeat constructor) (by rw [List.nil_append, flatS_len inE_len]; omega) hq4.2 hq4.1 (fun w' hw' => RdS.own0 (xs := [(a : Int)]) inE_len hw' (b := p6) (by repeat constructor)) (flatE_one inE_one _) (by omega) (by omega)) (.inr ⟨fun _ _ h => h.subl SB.s SB.s, fun _ h => h⟩) (fun r7 hq7 => ?_))
                                exact tx_meetG (hT9 (r7, p8, p15, ()) trivial) (by kernel_rfl) (by kernel_rfl) (by repeat (first | exact Sub.nil | refine Sub.cons rfl ?_)) (fun w hw => hw.subl SB.s SB.s)
                              · (refine to_e rfl rfl (e_bslice rfl (by (repeat (first | exact .nil | apply PV.one rfl rfl)); done) rfl rfl) (.inr ⟨fun _ _ h => h.subl SB.s SB.s, fun _ h => h⟩) (fun p13 hq13 => ?_))
                                exact tx_meetG (hT11 (r4, p6, p8, p13, p15, ()) ⟨hq4, trivial⟩) (by kernel_rfl) (by kernel_rfl) (by repeat (first | exact Sub.nil | refine Sub.cons rfl ?_)) (fun w hw => (HG.mid3 hw).subl SB.s SB.s)
                            refine tx_cutG (A := (Nat × Nat × List Value) × (Nat) × (Nat) × (Nat) × Unit) (fun y => (0 + x.ac.length ≤ y.1.2.1 ∧ y.1.2.2.length = (y.1.2.1 - (0 + x.ac.length)) * 1) ∧ True) (n' := 19) (L' := [true, true, true, true, true, true, true, false, false, true, true, false, true, true, false, true, true, true, false, true, false, false, false, false, false, false, false, false, false, false, false, false, false, false]) (fun y => [(79, .slice (some ⟨y.1.1, 0, none⟩) (0 + x.ac.length) y.1.2.1), (81, .slice (some ⟨y.2.1, 0, none⟩) 1 1), (88, .slice (some ⟨y.2.2.1, 0, none⟩) 1 1), (90, .slice (some ⟨y.2.2.2.1, 0, none⟩) 0 0), (75, ouV us2.length oo), (78, u.1.1), (80, vi a), (85, u.2.1.1), (87, .bool brk), (92, u.2.2.1), (94, .bool was), (1, vi b), (2, .slice adl l.length cpl), (3, ptr b3), (7, slV us.length av), (8, vi h), (9, ouV us2.length oo), (10, vi i), (11, .bool was), (12, vi a)]) [(wz2, S), (wz, []), (wl1, []), (w, [])] (fun y => (y.1.1, .cells ([] ++ x.ac.flatMap inE ++ y.1.2.2).toArray 3 (0, 0)) :: (y.2.1, .cells #[vi a] 3 (0, 0)) :: (y.2.2.1, .cells #[.bool brk] 4 (0, 0)) :: (y.2.2.2.1, .cells #[] 4 (0, 0)) :: (b15, .cells #[u.1.1, u.2.1.1, u.2.2.1] 108 (0, 0)) :: slE 108 wyE us2 oo) ?_ (fun hT17 => ?_)
                            · skip
                              rintro ⟨r4, p6, p13, p15, ⟨⟩⟩ ⟨hq4, -⟩
                              refine tx_pair 7 8 (by kernel_rfl) ?_ ?_
                              · (refine to_e rfl rfl (e_append_big (n := 1) (vs := [(a : Int)].flatMap inE) (old := [] ++ x.ac.flatMap inE) (junk := r4.2.2) rfl rfl rfl (by repeat constructor) (by rw [List.nil_append, flatS_len inE_len]; omega) hq4.2 hq4.1 (fun w' hw' => RdS.own0 (xs := [(a : Int)]) inE_len hw' (b := p6) (by repeat constructor)) (flatE_one inE_one _) (by omega) (by omega)) (.inr ⟨fun _ _ h => h.subl SB.s SB.s, fun _ h => h⟩) (fun r7 hq7 => ?_))
                                exact tx_meetG (hT10 (r7, p13, p15, ()) trivial) (by kernel_rfl) (by kernel_rfl) (by repeat (first | exact Sub.nil | refine Sub.cons rfl ?_)) (fun w hw => hw.subl SB.s SB.s)
                              · (refine to_e rfl rfl (e_bslice rfl (by (repeat (exact .nil)); done) rfl rfl) (.inr ⟨fun _ _ h => h.subl SB.s SB.s, fun _ h => h⟩) (fun p8 hq8 => ?_))
                                exact tx_meetG (hT11 (r4, p6, p8, p13, p15, ()) ⟨hq4, trivial⟩) (by kernel_rfl) (by kernel_rfl) (by repeat (first | exact Sub.nil | refine Sub.cons rfl ?_)) (fun w hw => (HG.mid2 hw).subl SB.s SB.s)
                            refine tx_cutG (A := (Nat × Nat × List Value) × (Nat) × (Nat) × (Nat) × Unit) (fun y => (0 + x.ac.length ≤ y.1.2.1 ∧ y.1.2.2.length = (y.1.2.1 - (0 + x.ac.length)) * 1) ∧ True) (n' := 19) (L' := [true, true, true, true, true, true, false, false, true, true, true, false, true, true, false, true, true, true, false, true, false, false, false, false, false, false, false, false, false, false, false, false, false, false]) (fun y => [(79, .slice (some ⟨y.1.1, 0, none⟩) (0 + x.ac.length) y.1.2.1), (83, .slice (some ⟨y.2.1, 0, none⟩) 0 0), (88, .slice (some ⟨y.2.2.1, 0, none⟩) 1 1), (90, .slice (some ⟨y.2.2.2.1, 0, none⟩) 0 0), (75, ouV us2.length oo), (78, u.1.1), (80, vi a), (85, u.2.1.1), (87, .bool brk), (92, u.2.2.1), (94, .bool was), (1, vi b), (2, .slice adl l.length cpl), (3, ptr b3), (7, slV us.length av), (8, vi h), (9, ouV us2.length oo), (10, vi i), (11, .bool was), (12, vi a)]) [(wz2, S), (wz, []), (wl1, []), (w, [])] (fun y => (y.1.1, .cells ([] ++ x.ac.flatMap inE ++ y.1.2.2).toArray 3 (0, 0)) :: (y.2.1, .cells #[] 4 (0, 0)) :: (y.2.2.1, .cells #[.bool brk] 4 (0, 0)) :: (y.2.2.2.1, .cells #[] 4 (0, 0)) :: (b15, .cells #[u.1.1, u.2.1.1, u.2.2.1] 108 (0, 0)) :: slE 108 wyE us2 oo) ?_ (fun hT18 => ?_)
                            · skip
                              rintro ⟨r4, p8, p13, p15, ⟨⟩⟩ ⟨hq4, -⟩
                              refine tx_single 6 (by kernel_rfl) ?_
                              · (refine to_e rfl rfl (e_bslice rfl (by (repeat (first | exact .nil | apply PV.one rfl rfl)); done) rfl rfl) (.inr ⟨fun _ _ h => h.subl SB.s SB.s, fun _ h => h⟩) (fun p6 hq6 => ?_))
                                exact tx_meetG (hT11 (r4, p6, p8, p13, p15, ()) ⟨hq4, trivial⟩) (by kernel_rfl) (by kernel_rfl) (by repeat (first | exact Sub.nil | refine Sub.cons rfl ?_)) (fun w hw => (HG.mid1 hw).subl SB.s SB.s)
                            refine tx_cutG (A := (Nat) × (Nat) × (Nat) × (Nat) × (Nat) × Unit) (fun y => True) (n' := 19) (L' := [true, true, true, true, false, true, true, false, true, true, true, false, true, true, false, true, true, true, false, true, false, false, false, false, false, false, false, false, false, false, false, false, false, false]) (fun y => [(76, .slice (some ⟨y.1, 0, none⟩) 0 0), (81, .slice (some ⟨y.2.1, 0, none⟩) 1 1), (83, .slice (some ⟨y.2.2.1, 0, none⟩) 0 0), (88, .slice (some ⟨y.2.2.2.1, 0, none⟩) 1 1), (90, .slice (some ⟨y.2.2.2.2.1, 0, none⟩) 0 0), (75, ouV us2.length oo), (78, u.1.1), (80, vi a), (85, u.2.1.1), (87, .bool brk), (92, u.2.2.1), (94, .bool was), (1, vi b), (2, .slice adl l.length cpl), (3, ptr b3), (7, slV us.length av), (8, vi h), (9, ouV us2.length oo), (10, vi i), (11, .bool was), (12, vi a)]) [(wz2, S), (wz, []), (wl1, []), (w, [])] (fun y => (y.1, .cells #[] 3 (0, 0)) :: (y.2.1, .cells #[vi a] 3 (0, 0)) :: (y.2.2.1, .cells #[] 4 (0, 0)) :: (y.2.2.2.1, .cells #[.bool brk] 4 (0, 0)) :: (y.2.2.2.2.1, .cells #[] 4 (0, 0)) :: (b15, .cells #[u.1.1, u.2.1.1, u.2.2.1] 108 (0, 0)) :: slE 108 wyE us2 oo) ?_ (fun hT19 => ?_)
                            · skip
                              rintro ⟨p1, p6, p8, p13, p15, ⟨⟩⟩ ⟨-⟩
                              refine tx_single 4 (by kernel_rfl) ?_
                              · (refine to_e rfl rfl (e_append_big (n := x.ac.length) (vs := x.ac.flatMap inE) (old := []) (junk := []) rfl rfl rfl (by repeat constructor) (by rfl) (by rfl) (Nat.le_refl _) (fun w' hw' => hxr.ac.fr (hw'.fr (w0 := wz) (S := []) MI.m)) (flatE_one inE_one _) (by omega) (by omega)) (.inr ⟨fun _ _ h => h.subl SB.s SB.s, fun _ h => h⟩) (fun r4 hq4 => ?_))
                                exact tx_meetG (hT11 (r4, p6, p8, p13, p15, ()) ⟨hq4, trivial⟩) (by kernel_rfl) (by kernel_rfl) (by repeat (first | exact Sub.nil | refine Sub.cons rfl ?_)) (fun w hw => hw.subl SB.s SB.s)
                            refine tx_cutG (A := (Nat × Nat × List Value) × Unit) (fun y => True) (n' := 20) (L' := [true, true, true, true, true, true, true, true, false, true, true, false, true, false, false, false, true, true, false, true, false, false, false, false, false, false, false, false, false, false, false, false, false, false]) (fun y => [(82, .slice (some ⟨y.1.1, 0, none⟩) (0 + x.ac.length + [(a : Int)].length) y.1.2.1), (75, ouV us2.length oo), (78, u.1.1), (80, vi a), (85, u.2.1.1), (87, .bool brk), (92, u.2.2.1), (94, .bool was), (1, vi b), (2, .slice adl l.length cpl), (3, ptr b3), (7, slV us.length av), (8, vi h), (9, ouV us2.length oo), (10, vi i), (11, .bool was), (12, vi a)]) [(wz2, S), (wz, []), (wl1, []), (w, [])] (fun y => (y.1.1, .cells ([] ++ x.ac.flatMap inE ++ [(a : Int)].flatMap inE ++ y.1.2.2).toArray 3 (0, 0)) :: (b15, .cells #[u.1.1, u.2.1.1, u.2.2.1] 108 (0, 0)) :: slE 108 wyE us2 oo) ?_ (fun hT20 => ?_)
                            · skip
                              rintro ⟨r7, ⟨⟩⟩ ⟨-⟩
                              refine tx_three 8 13 15 (by kernel_rfl) ?_ ?_ ?_
                              · (refine to_e rfl rfl (e_bslice rfl (by (repeat (exact .nil)); done) rfl rfl) (.inr ⟨fun _ _ h => h.subl SB.s SB.s, fun _ h => h⟩) (fun p8 hq8 => ?_))
                                exact tx_meetG (hT12 (r7, p8, ()) trivial) (by kernel_rfl) (by kernel_rfl) (by repeat (first | exact Sub.nil | refine Sub.cons rfl ?_)) (fun w hw => (HG.mid1 hw).subl SB.s SB.s)
                              · (refine to_e rfl rfl (e_bslice rfl (by (repeat (first | exact .nil | apply PV.one rfl rfl)); done) rfl rfl) (.inr ⟨fun _ _ h => h.subl SB.s SB.s, fun _ h => h⟩) (fun p13 hq13 => ?_))
                                exact tx_meetG (hT13 (r7, p13, ()) trivial) (by kernel_rfl) (by kernel_rfl) (by repeat (first | exact Sub.nil | refine Sub.cons rfl ?_)) (fun w hw => (HG.mid1 hw).subl SB.s SB.s)
                              · (refine to_e rfl rfl (e_bslice rfl (by (repeat (exact .nil)); done) rfl rfl) (.inr ⟨fun _ _ h => h.subl SB.s SB.s, fun _ h => h⟩) (fun p15 hq15 => ?_))
                                exact tx_meetG (hT14 (r7, p15, ()) trivial) (by kernel_rfl) (by kernel_rfl) (by repeat (first | exact Sub.nil | refine Sub.cons rfl ?_)) (fun w hw => (HG.mid1 hw).subl SB.s SB.s)
                            refine tx_cutG (A := (Nat × Nat × List Value) × (Nat) × (Nat) × Unit) (fun y => (0 + x.ac.length ≤ y.1.2.1 ∧ y.1.2.2.length = (y.1.2.1 - (0 + x.ac.length)) * 1) ∧ True) (n' := 20) (L' := [true, true, true, true, true, true, true, false, true, true, true, false, true, false, false, false, true, true, false, true, false, false, false, false, false, false, false, false, false, false, false, false, false, false]) (fun y => [(79, .slice (some ⟨y.1.1, 0, none⟩) (0 + x.ac.length) y.1.2.1), (81, .slice (some ⟨y.2.1, 0, none⟩) 1 1), (83, .slice (some ⟨y.2.2.1, 0, none⟩) 0 0), (75, ouV us2.length oo), (78, u.1.1), (80, vi a), (85, u.2.1.1), (87, .bool brk), (92, u.2.2.1), (94, .bool was), (1, vi b), (2, .slice adl l.length cpl), (3, ptr b3), (7, slV us.length av), (8, vi h), (9, ouV us2.length oo), (10, vi i), (11, .bool was), (12, vi a)]) [(wz2, S), (wz, []), (wl1, []), (w, [])] (fun y => (y.1.1, .cells ([] ++ x.ac.flatMap inE ++ y.1.2.2).toArray 3 (0, 0)) :: (y.2.1, .cells #[vi a] 3 (0, 0)) :: (y.2.2.1, .cells #[] 4 (0, 0)) :: (b15, .cells #[u.1.1, u.2.1.1, u.2.2.1] 108 (0, 0)) :: slE 108 wyE us2 oo) ?_ (fun hT21 => ?_)
                            · skip
                              rintro ⟨r4, p6, p8, ⟨⟩⟩ ⟨hq4, -⟩
                              refine tx_three 7 13 15 (by kernel_rfl) ?_ ?_ ?_
                              · (refine to_e rfl rfl (e_append_big (n := 1) (vs := [(a : Int)].flatMap inE) (old := [] ++ x.ac.flatMap inE) (junk := r4.2.2) rfl rfl rfl (by repeat constructor) (by rw [List.nil_append, flatS_len inE_len]; omega) hq4.2 hq4.1 (fun w' hw' => RdS.own0 (xs := [(a : Int)]) inE_len hw' (b := p6) (by repeat constructor)) (flatE_one inE_one _) (by omega) (by omega)) (.inr ⟨fun _ _ h => h.subl SB.s SB.s, fun _ h => h⟩) (fun r7 hq7 => ?_))
                                exact tx_meetG (hT12 (r7, p8, ()) trivial) (by kernel_rfl) (by kernel_rfl) (by repeat (first | exact Sub.nil | refine Sub.cons rfl ?_)) (fun w hw => hw.subl SB.s SB.s)
                              · (refine to_e rfl rfl (e_bslice rfl (by (repeat (first | exact .nil | apply PV.one rfl rfl)); done) rfl rfl) (.inr ⟨fun _ _ h => h.subl SB.s SB.s, fun _ h => h⟩) (fun p13 hq13 => ?_))
                                exact tx_meetG (hT15 (r4, p6, p8, p13, ()) ⟨hq4, trivial⟩) (by kernel_rfl) (by kernel_rfl) (by repeat (first | exact Sub.nil | refine Sub.cons rfl ?_)) (fun w hw => (HG.mid3 hw).subl SB.s SB.s)
                              · (refine to_e rfl rfl (e_bslice rfl (by (repeat (exact .nil)); done) rfl rfl) (.inr ⟨fun _ _ h => h.subl SB.s SB.s, fun _ h => h⟩) (fun p15 hq15 => ?_))
                                exact tx_meetG (hT16 (r4, p6, p8, p15, ()) ⟨hq4, trivial⟩) (by kernel_rfl) (by kernel_rfl) (by repeat (first | exact Sub.nil | refine Sub.cons rfl ?_)) (fun w hw => (HG.mid3 hw).subl SB.s SB.s)
                            refine tx_cutG (A := (Nat × Nat × List Value) × (Nat) × (Nat) × Unit) (fun y => (0 + x.ac.length ≤ y.1.2.1 ∧ y.1.2.2.length = (y.1.2.1 - (0 + x.ac.length)) * 1) ∧ True) (n' := 20) (L' := [true, true, true, true, true, true, true, false, false, true, true, false, true, true, false, false, true, true, false, true, false, false, false, false, false, false, false, false, false, false, false, false, false, false]) (fun y => [(79, .slice (some ⟨y.1.1, 0, none⟩) (0 + x.ac.length) y.1.2.1), (81, .slice (some ⟨y.2.1, 0, none⟩) 1 1), (88, .slice (some ⟨y.2.2.1, 0, none⟩) 1 1), (75, ouV us2.length oo), (78, u.1.1), (80, vi a), (85, u.2.1.1), (87, .bool brk), (92, u.2.2.1), (94, .bool was), (1, vi b), (2, .slice adl l.length cpl), (3, ptr b3), (7, slV us.length av), (8, vi h), (9, ouV us2.length oo), (10, vi i), (11, .bool was), (12, vi a)]) [(wz2, S), (wz, []), (wl1, []), (w, [])] (fun y => (y.1.1, .cells ([] ++ x.ac.flatMap inE ++ y.1.2.2).toArray 3 (0, 0)) :: (y.2.1, .cells #[vi a] 3 (0, 0)) :: (y.2.2.1, .cells #[.bool brk] 4 (0, 0)) :: (b15, .cells #[u.1.1, u.2.1.1, u.2.2.1] 108 (0, 0)) :: slE 108 wyE us2 oo) ?_ (fun hT22 => ?_)
                            · skip
                              rintro ⟨r4, p6, p13, ⟨⟩⟩ ⟨hq4, -⟩
                              refine tx_three 7 8 15 (by kernel_rfl) ?_ ?_ ?_
                              · (refine to_e rfl rfl (e_append_big (n := 1) (vs := [(a : Int)].flatMap inE) (old := [] ++ x.ac.flatMap inE) (junk := r4.2.2) rfl rfl rfl (by repeat constructor) (by rw [List.nil_append, flatS_len inE_len]; omega) hq4.2 hq4.1 (fun w' hw' => RdS.own0 (xs := [(a : Int)]) inE_len hw' (b := p6) (by repeat constructor)) (flatE_one inE_one _) (by omega) (by omega)) (.inr ⟨fun _ _ h => h.subl SB.s SB.s, fun _ h => h⟩) (fun r7 hq7 => ?_))
                                exact tx_meetG (hT13 (r7, p13, ()) trivial) (by kernel_rfl) (by kernel_rfl) (by repeat (first | exact Sub.nil | refine Sub.cons rfl ?_)) (fun w hw => hw.subl SB.s SB.s)
                              · (refine to_e rfl rfl (e_bslice rfl (by (repeat (exact .nil)); done) rfl rfl) (.inr ⟨fun _ _ h => h.subl SB.s SB.s, fun _ h => h⟩) (fun p8 hq8 => ?_))
                                exact tx_meetG (hT15 (r4, p6, p8, p13, ()) ⟨hq4, trivial⟩) (by kernel_rfl) (by kernel_rfl) (by repeat (first | exact Sub.nil | refine Sub.cons rfl ?_)) (fun w hw => (HG.mid2 hw).subl SB.s SB.s)
                              · (refine to_e rfl rfl (e_bslice rfl (by (repeat (exact .nil)); done) rfl rfl) (.inr ⟨fun _ _ h => h.subl SB.s SB.s, fun _ h => h⟩) (fun p15 hq15 => ?_))
                                exact tx_meetG (hT17 (r4, p6, p13, p15, ()) ⟨hq4, trivial⟩) (by kernel_rfl) (by kernel_rfl) (by repeat (first | exact Sub.nil | refine Sub.cons rfl ?_)) (fun w hw => (HG.mid3 hw).subl SB.s SB.s)
                            refine tx_cutG (A := (Nat × Nat × List Value) × (Nat) × (Nat) × Unit) (fun y => (0 + x.ac.length ≤ y.1.2.1 ∧ y.1.2.2.length = (y.1.2.1 - (0 + x.ac.length)) * 1) ∧ True) (n' := 20) (L' := [true, true, true, true, true, true, true, false, false, true, true, false, true, false, false, true, true, true, false, true, false, false, false, false, false, false, false, false, false, false, false, false, false, false]) (fun y => [(79, .slice (some ⟨y.1.1, 0, none⟩) (0 + x.ac.length) y.1.2.1), (81, .slice (some ⟨y.2.1, 0, none⟩) 1 1), (90, .slice (some ⟨y.2.2.1, 0, none⟩) 0 0), (75, ouV us2.length oo), (78, u.1.1), (80, vi a), (85, u.2.1.1), (87, .bool brk), (92, u.2.2.1), (94, .bool was), (1, vi b), (2, .slice adl l.length cpl), (3, ptr b3), (7, slV us.length av), (8, vi h), (9, ouV us2.length oo), (10, vi i), (11, .bool was), (12, vi a)]) [(wz2, S), (wz, []), (wl1, []), (w, [])] (fun y => (y.1.1, .cells ([] ++ x.ac.flatMap inE ++ y.1.2.2).toArray 3 (0, 0)) :: (y.2.1, .cells #[vi a] 3 (0, 0)) :: (y.2.2.1, .cells #[] 4 (0, 0)) :: (b15, .cells #[u.1.1, u.2.1.1, u.2.2.1] 108 (0, 0)) :: slE 108 wyE us2 oo) ?_ (fun hT23 => ?_)
                            · skip
                              rintro ⟨r4, p6, p15, ⟨⟩⟩ ⟨hq4, -⟩
                              refine tx_three 7 8 13 (by kernel_rfl) ?_ ?_ ?_
                              · (refine to_e rfl rfl (e_append_big (n := 1) (vs := [(a : Int)].flatMap inE) (old := [] ++ x.ac.flatMap inE) (junk := r4.2.2) rfl rfl rfl (by repeat constructor) (by rw [List.nil_append, flatS_len inE_len]; omega) hq4.2 hq4.1 (fun w' hw' => RdS.own0 (xs := [(a : Int)]) inE_len hw' (b := p6) (by repeat constructor)) (flatE_one inE_one _) (by omega) (by omega)) (.inr ⟨fun _ _ h => h.subl SB.s SB.s, fun _ h => h⟩) (fun r7 hq7 => ?_))
                                exact tx_meetG (hT14 (r7, p15, ()) trivial) (by kernel_rfl) (by kernel_rfl) (by repeat (first | exact Sub.nil | refine Sub.cons rfl ?_)) (fun w hw => hw.subl SB.s SB.s)
                              · (refine to_e rfl rfl (e_bslice rfl (by (repeat (exact .nil)); done) rfl rfl) (.inr ⟨fun _ _ h => h.subl SB.s SB.s, fun _ h => h⟩) (fun p8 hq8 => ?_))
                                exact tx_meetG (hT16 (r4, p6, p8, p15, ()) ⟨hq4, trivial⟩) (by kernel_rfl) (by kernel_rfl) (by repeat (first | exact Sub.nil | refine Sub.cons rfl ?_)) (fun w hw => (HG.mid2 hw).subl SB.s SB.s)
                              · (refine to_e rfl rfl (e_bslice rfl (by (repeat (first | exact .nil | apply PV.one rfl rfl)); done) rfl rfl) (.inr ⟨fun _ _ h => h.subl SB.s SB.s, fun _ h => h⟩) (fun p13 hq13 => ?_))
                                exact tx_meetG (hT17 (r4, p6, p13, p15, ()) ⟨hq4, trivial⟩) (by kernel_rfl) (by kernel_rfl) (by repeat (first | exact Sub.nil | refine Sub.cons rfl ?_)) (fun w hw => (HG.mid2 hw).subl SB.s SB.s)
                            refine tx_cutG (A := (Nat × Nat × List Value) × (Nat) × (Nat) × Unit) (fun y => (0 + x.ac.length ≤ y.1.2.1 ∧ y.1.2.2.length = (y.1.2.1 - (0 + x.ac.length)) * 1) ∧ True) (n' := 20) (L' := [true, true, true, true, true, true, false, false, true, true, true, false, true, true, false, false, true, true, false, true, false, false, false, false, false, false, false, false, false, false, false, false, false, false]) (fun y => [(79, .slice (some ⟨y.1.1, 0, none⟩) (0 + x.ac.length) y.1.2.1), (83, .slice (some ⟨y.2.1, 0, none⟩) 0 0), (88, .slice (some ⟨y.2.2.1, 0, none⟩) 1 1), (75, ouV us2.length oo), (78, u.1.1), (80, vi a), (85, u.2.1.1), (87, .bool brk), (92, u.2.2.1), (94, .bool was), (1, vi b), (2, .slice adl l.length cpl), (3, ptr b3), (7, slV us.length av), (8, vi h), (9, ouV us2.length oo), (10, vi i), (11, .bool was), (12, vi a)]) [(wz2, S), (wz, []), (wl1, []), (w, [])] (fun y => (y.1.1, .cells ([] ++ x.ac.flatMap inE ++ y.1.2.2).toArray 3 (0, 0)) :: (y.2.1, .cells #[] 4 (0, 0)) :: (y.2.2.1, .cells #[.bool brk] 4 (0, 0)) :: (b15, .cells #[u.1.1, u.2.1.1, u.2.2.1] 108 (0, 0)) :: slE 108 wyE us2 oo) ?_ (fun hT24 => ?_)
                            · skip
                              rintro ⟨r4, p8, p13, ⟨⟩⟩ ⟨hq4, -⟩
                              refine tx_pair 6 15 (by kernel_rfl) ?_ ?_
                              · (refine to_e rfl rfl (e_bslice rfl (by (repeat (first | exact .nil | apply PV.one rfl rfl)); done) rfl rfl) (.inr ⟨fun _ _ h => h.subl SB.s SB.s, fun _ h => h⟩) (fun p6 hq6 => ?_))
                                exact tx_meetG (hT15 (r4, p6, p8, p13, ()) ⟨hq4, trivial⟩) (by kernel_rfl) (by kernel_rfl) (by repeat (first | exact Sub.nil | refine Sub.cons rfl ?_)) (fun w hw => (HG.mid1 hw).subl SB.s SB.s)
                              · (refine to_e rfl rfl (e_bslice rfl (by (repeat (exact .nil)); done) rfl rfl) (.inr ⟨fun _ _ h => h.subl SB.s SB.s, fun _ h => h⟩) (fun p15 hq15 => ?_))
                                exact tx_meetG (hT18 (r4, p8, p13, p15, ()) ⟨hq4, trivial⟩) (by kernel_rfl) (by kernel_rfl) (by repeat (first | exact Sub.nil | refine Sub.cons rfl ?_)) (fun w hw => (HG.mid3 hw).subl SB.s SB.s)
                            refine tx_cutG (A := (Nat × Nat × List Value) × (Nat) × (Nat) × Unit) (fun y => (0 + x.ac.length ≤ y.1.2.1 ∧ y.1.2.2.length = (y.1.2.1 - (0 + x.ac.length)) * 1) ∧ True) (n' := 20) (L' := [true, true, true, true, true, true, false, false, true, true, true, false, true, false, false, true, true, true, false, true, false, false, false, false, false, false, false, false, false, false, false, false, false, false]) (fun y => [(79, .slice (some ⟨y.1.1, 0, none⟩) (0 + x.ac.length) y.1.2.1), (83, .slice (some ⟨y.2.1, 0, none⟩) 0 0), (90, .slice (some ⟨y.2.2.1, 0, none⟩) 0 0), (75, ouV us2.length oo), (78, u.1.1), (80, vi a), (85, u.2.1.1), (87, .bool brk), (92, u.2.2.1), (94, .bool was), (1, vi b), (2, .slice adl l.length cpl), (3, ptr b3), (7, slV us.length av), (8, vi h), (9, ouV us2.length oo), (10, vi i), (11, .bool was), (12, vi a)]) [(wz2, S), (wz, []), (wl1, []), (w, [])] (fun y => (y.1.1, .cells ([] ++ x.ac.flatMap inE ++ y.1.2.2).toArray 3 (0, 0)) :: (y.2.1, .cells #[] 4 (0, 0)) :: (y.2.2.1, .cells #[] 4 (0, 0)) :: (b15, .cells #[u.1.1, u.2.1.1, u.2.2.1] 108 (0, 0)) :: slE 108 wyE us2 oo) ?_ (fun hT25 => ?_)
                            · skip
                              rintro ⟨r4, p8, p15, ⟨⟩⟩ ⟨hq4, -⟩
                              refine tx_pair 6 13 (by kernel_rfl) ?_ ?_
                              · (refine to_e rfl rfl (e_bslice rfl (by (repeat (first | exact .nil | apply PV.one rfl rfl)); done) rfl rfl) (.inr ⟨fun _ _ h => h.subl SB.s SB.s, fun _ h => h⟩) (fun p6 hq6 => ?_))
                                exact tx_meetG (hT16 (r4, p6, p8, p15, ()) ⟨hq4, trivial⟩) (by kernel_rfl) (by kernel_rfl) (by repeat (first | exact Sub.nil | refine Sub.cons rfl ?_)) (fun w hw => (HG.mid1 hw).subl SB.s SB.s)
                              · (refine to_e rfl rfl (e_bslice rfl (by (repeat (first | exact .nil | apply PV.one rfl rfl)); done) rfl rfl) (.inr ⟨fun _ _ h => h.subl SB.s SB.s, fun _ h => h⟩) (fun p13 hq13 => ?_))
                                exact tx_meetG (hT18 (r4, p8, p13, p15, ()) ⟨hq4, trivial⟩) (by kernel_rfl) (by kernel_rfl) (by repeat (first | exact Sub.nil | refine Sub.cons rfl ?_)) (fun w hw => (HG.mid2 hw).subl SB.s SB.s)
                            refine tx_cutG (A := (Nat × Nat × List Value) × (Nat) × (Nat) × Unit) (fun y => (0 + x.ac.length ≤ y.1.2.1 ∧ y.1.2.2.length = (y.1.2.1 - (0 + x.ac.length)) * 1) ∧ True) (n' := 20) (L' := [true, true, true, true, true, true, false, false, false, true, true, false, true, true, false, true, true, true, false, true, false, false, false, false, false, false, false, false, false, false, false, false, false, false]) (fun y => [(79, .slice (some ⟨y.1.1, 0, none⟩) (0 + x.ac.length) y.1.2.1), (88, .slice (some ⟨y.2.1, 0, none⟩) 1 1), (90, .slice (some ⟨y.2.2.1, 0, none⟩) 0 0), (75, ouV us2.length oo), (78, u.1.1), (80, vi a), (85, u.2.1.1), (87, .bool brk), (92, u.2.2.1), (94, .bool was), (1, vi b), (2, .slice adl l.length cpl), (3, ptr b3), (7, slV us.length av), (8, vi h), (9, ouV us2.length oo), (10, vi i), (11, .bool was), (12, vi a)]) [(wz2, S), (wz, []), (wl1, []), (w, [])] (fun y => (y.1.1, .cells ([] ++ x.ac.flatMap inE ++ y.1.2.2).toArray 3 (0, 0)) :: (y.2.1, .cells #[.bool brk] 4 (0, 0)) :: (y.2.2.1, .cells #[] 4 (0, 0)) :: (b15, .cells #[u.1.1, u.2.1.1, u.2.2.1] 108 (0, 0)) :: slE 108 wyE us2 oo) ?_ (fun hT26 => ?_)
                            · skip
                              rintro ⟨r4, p13, p15, ⟨⟩⟩ ⟨hq4, -⟩
                              refine tx_pair 6 8 (by kernel_rfl) ?_ ?_
                              · (refine to_e rfl rfl (e_bslice rfl (by (repeat (first | exact .nil | apply PV.one rfl rfl)); done) rfl rfl) (.inr ⟨fun _ _ h => h.subl SB.s SB.s, fun _ h => h⟩) (fun p6 hq6 => ?_))
                                exact tx_meetG (hT17 (r4, p6, p13, p15, ()) ⟨hq4, trivial⟩) (by kernel_rfl) (by kernel_rfl) (by repeat (first | exact Sub.nil | refine Sub.cons rfl ?_)) (fun w hw => (HG.mid1 hw).subl SB.s SB.s)
                              · (refine to_e rfl rfl (e_bslice rfl (by (repeat (exact .nil)); done) rfl rfl) (.inr ⟨fun _ _ h => h.subl SB.s SB.s, fun _ h => h⟩) (fun p8 hq8 => ?_))
                                exact tx_meetG (hT18 (r4, p8, p13, p15, ()) ⟨hq4, trivial⟩) (by kernel_rfl) (by kernel_rfl) (by repeat (first | exact Sub.nil | refine Sub.cons rfl ?_)) (fun w hw => (HG.mid1 hw).subl SB.s SB.s)
                            refine tx_cutG (A := (Nat) × (Nat) × (Nat) × (Nat) × Unit) (fun y => True) (n' := 20) (L' := [true, true, true, true, false, true, true, false, true, true, true, false, true, true, false, false, true, true, false, true, false, false, false, false, false, false, false, false, false, false, false, false, false, false]) (fun y => [(76, .slice (some ⟨y.1, 0, none⟩) 0 0), (81, .slice (some ⟨y.2.1, 0, none⟩) 1 1), (83, .slice (some ⟨y.2.2.1, 0, none⟩) 0 0), (88, .slice (some ⟨y.2.2.2.1, 0, none⟩) 1 1), (75, ouV us2.length oo), (78, u.1.1), (80, vi a), (85, u.2.1.1), (87, .bool brk), (92, u.2.2.1), (94, .bool was), (1, vi b), (2, .slice adl l.length cpl), (3, ptr b3), (7, slV us.length av), (8, vi h), (9, ouV us2.length oo), (10, vi i), (11, .bool was), (12, vi a)]) [(wz2, S), (wz, []), (wl1, []), (w, [])] (fun y => (y.1, .cells #[] 3 (0, 0)) :: (y.2.1, .cells #[vi a] 3 (0, 0)) :: (y.2.2.1, .cells #[] 4 (0, 0)) :: (y.2.2.2.1, .cells #[.bool brk] 4 (0, 0)) :: (b15, .cells #[u.1.1, u.2.1.1, u.2.2.1] 108 (0, 0)) :: slE 108 wyE us2 oo) ?_ (fun hT27 => ?_)
                            · skip
                              rintro ⟨p1, p6, p8, p13, ⟨⟩⟩ ⟨-⟩
                              refine tx_pair 4 15 (by kernel_rfl) ?_ ?_
                              · (refine to_e rfl rfl (e_append_big (n := x.ac.length) (vs := x.ac.flatMap inE) (old := []) (junk := []) rfl rfl rfl (by repeat constructor) (by rfl) (by rfl) (Nat.le_refl _) (fun w' hw' => hxr.ac.fr (hw'.fr (w0 := wz) (S := []) MI.m)) (flatE_one inE_one _) (by omega) (by omega)) (.inr ⟨fun _ _ h => h.subl SB.s SB.s, fun _ h => h⟩) (fun r4 hq4 => ?_))
                                exact tx_meetG (hT15 (r4, p6, p8, p13, ()) ⟨hq4, trivial⟩) (by kernel_rfl) (by kernel_rfl) (by repeat (first | exact Sub.nil | refine Sub.cons rfl ?_)) (fun w hw => hw.subl SB.s SB.s)
                              · (refine to_e rfl rfl (e_bslice rfl (by (repeat (exact .nil)); done) rfl rfl) (.inr ⟨fun _ _ h => h.subl SB.s SB.s, fun _ h => h⟩) (fun p15 hq15 => ?_))
                                exact tx_meetG (hT19 (p1, p6, p8, p13, p15, ()) trivial) (by kernel_rfl) (by kernel_rfl) (by repeat (first | exact Sub.nil | refine Sub.cons rfl ?_)) (fun w hw => (HG.mid4 hw).subl SB.s SB.s)
                            refine tx_cutG (A := (Nat) × (Nat) × (Nat) × (Nat) × Unit) (fun y => True) (n' := 20) (L' := [true, true, true, true, false, true, true, false, true, true, true, false, true, false, false, true, true, true, false, true, false, false, false, false, false, false, false, false, false, false, false, false, false, false]) (fun y => [(76, .slice (some ⟨y.1, 0, none⟩) 0 0), (81, .slice (some ⟨y.2.1, 0, none⟩) 1 1), (83, .slice (some ⟨y.2.2.1, 0, none⟩) 0 0), (90, .slice (some ⟨y.2.2.2.1, 0, none⟩) 0 0), (75, ouV us2.length oo), (78, u.1.1), (80, vi a), (85, u.2.1.1), (87, .bool brk), (92, u.2.2.1), (94, .bool was), (1, vi b), (2, .slice adl l.length cpl), (3, ptr b3), (7, slV us.length av), (8, vi h), (9, ouV us2.length oo), (10, vi i), (11, .bool was), (12, vi a)]) [(wz2, S), (wz, []), (wl1, []), (w, [])] (fun y => (y.1, .cells #[] 3 (0, 0)) :: (y.2.1, .cells #[vi a] 3 (0, 0)) :: (y.2.2.1, .cells #[] 4 (0, 0)) :: (y.2.2.2.1, .cells #[] 4 (0, 0)) :: (b15, .cells #[u.1.1, u.2.1.1, u.2.2.1] 108 (0, 0)) :: slE 108 wyE us2 oo) ?_ (fun hT28 => ?_)
                            · skip
                              rintro ⟨p1, p6, p8, p15, ⟨⟩⟩ ⟨-⟩
                              refine tx_pair 4 13 (by kernel_rfl) ?_ ?_
                              · (refine to_e rfl rfl (e_append_big (n := x.ac.length) (vs := x.ac.flatMap inE) (old := []) (junk := []) rfl rfl rfl (by repeat constructor) (by rfl) (by rfl) (Nat.le_refl _) (fun w' hw' => hxr.ac.fr (hw'.fr (w0 := wz) (S := []) MI.m)) (flatE_one inE_one _) (by omega) (by omega)) (.inr ⟨fun _ _ h => h.subl SB.s SB.s, fun _ h => h⟩) (fun r4 hq4 => ?_))
                                exact tx_meetG (hT16 (r4, p6, p8, p15, ()) ⟨hq4, trivial⟩) (by kernel_rfl) (by kernel_rfl) (by repeat (first | exact Sub.nil | refine Sub.cons rfl ?_)) (fun w hw => hw.subl SB.s SB.s)
                              · (refine to_e rfl rfl (e_bslice rfl (by (repeat (first | exact .nil | apply PV.one rfl rfl)); done) rfl rfl) (.inr ⟨fun _ _ h => h.subl SB.s SB.s, fun _ h => h⟩) (fun p13 hq13 => ?_))
                                exact tx_meetG (hT19 (p1, p6, p8, p13, p15, ()) trivial) (by kernel_rfl) (by kernel_rfl) (by repeat (first | exact Sub.nil | refine Sub.cons rfl ?_)) (fun w hw => (HG.mid3 hw).subl SB.s SB.s)
                            refine tx_cutG (A := (Nat) × (Nat) × (Nat) × (Nat) × Unit) (fun y => True) (n' := 20) (L' := [true, true, true, true, false, true, true, false, false, true, true, false, true, true, false, true, true, true, false, true, false, false, false, false, false, false, false, false, false, false, false, false, false, false]) (fun y => [(76, .slice (some ⟨y.1, 0, none⟩) 0 0), (81, .slice (some ⟨y.2.1, 0, none⟩) 1 1), (88, .slice (some ⟨y.2.2.1, 0, none⟩) 1 1), (90, .slice (some ⟨y.2.2.2.1, 0, none⟩) 0 0), (75, ouV us2.length oo), (78, u.1.1), (80, vi a), (85, u.2.1.1), (87, .bool brk), (92, u.2.2.1), (94, .bool was), (1, vi b), (2, .slice adl l.length cpl), (3, ptr b3), (7, slV us.length av), (8, vi h), (9, ouV us2.length oo), (10, vi i), (11, .bool was), (12, vi a)]) [(wz2, S), (wz, []), (wl1, []), (w, [])] (fun y => (y.1, .cells #[] 3 (0, 0)) :: (y.2.1, .cells #[vi a] 3 (0, 0)) :: (y.2.2.1, .cells #[.bool brk] 4 (0, 0)) :: (y.2.2.2.1, .cells #[] 4 (0, 0)) :: (b15, .cells #[u.1.1, u.2.1.1, u.2.2.1] 108 (0, 0)) :: slE 108 wyE us2 oo) ?_ (fun hT29 => ?_)
                            · skip
                              rintro ⟨p1, p6, p13, p15, ⟨⟩⟩ ⟨-⟩
                              refine tx_pair 4 8 (by kernel_rfl) ?_ ?_
                              · (refine to_e rfl rfl (e_append_big (n := x.ac.length) (vs := x.ac.flatMap inE) (old := []) (junk := []) rfl rfl rfl (by repeat constructor) (by rfl) (by rfl) (Nat.le_refl _) (fun w' hw' => hxr.ac.fr (hw'.fr (w0 := wz) (S := []) MI.m)) (flatE_one inE_one _) (by omega) (by omega)) (.inr ⟨fun _ _ h => h.subl SB.s SB.s, fun _ h => h⟩) (fun r4 hq4 => ?_))
                                exact tx_meetG (hT17 (r4, p6, p13, p15, ()) ⟨hq4, trivial⟩) (by kernel_rfl) (by kernel_rfl) (by repeat (first | exact Sub.nil | refine Sub.cons rfl ?_)) (fun w hw => hw.subl SB.s SB.s)
                              · (refine to_e rfl rfl (e_bslice rfl (by (repeat (exact .nil)); done) rfl rfl) (.inr ⟨fun _ _ h => h.subl SB.s SB.s, fun _ h => h⟩) (fun p8 hq8 => ?_))
                                exact tx_meetG (hT19 (p1, p6, p8, p13, p15, ()) trivial) (by kernel_rfl) (by kernel_rfl) (by repeat (first | exact Sub.nil | refine Sub.cons rfl ?_)) (fun w hw => (HG.mid2 hw).subl SB.s SB.s)
                            refine tx_cutG (A := (Nat) × (Nat) × (Nat) × (Nat) × Unit) (fun y => True) (n' := 20) (L' := [true, true, true, true, false, true, false, false, true, true, true, false, true, true, false, true, true, true, false, true, false, false, false, false, false, false, false, false, false, false, false, false, false, false]) (fun y => [(76, .slice (some ⟨y.1, 0, none⟩) 0 0), (83, .slice (some ⟨y.2.1, 0, none⟩) 0 0), (88, .slice (some ⟨y.2.2.1, 0, none⟩) 1 1), (90, .slice (some ⟨y.2.2.2.1, 0, none⟩) 0 0), (75, ouV us2.length oo), (78, u.1.1), (80, vi a), (85, u.2.1.1), (87, .bool brk), (92, u.2.2.1), (94, .bool was), (1, vi b), (2, .slice adl l.length cpl), (3, ptr b3), (7, slV us.length av), (8, vi h), (9, ouV us2.length oo), (10, vi i), (11, .bool was), (12, vi a)]) [(wz2, S), (wz, []), (wl1, []), (w, [])] (fun y => (y.1, .cells #[] 3 (0, 0)) :: (y.2.1, .cells #[] 4 (0, 0)) :: (y.2.2.1, .cells #[.bool brk] 4 (0, 0)) :: (y.2.2.2.1, .cells #[] 4 (0, 0)) :: (b15, .cells #[u.1.1, u.2.1.1, u.2.2.1] 108 (0, 0)) :: slE 108 wyE us2 oo) ?_ (fun hT30 => ?_)
                            · skip
                              rintro ⟨p1, p8, p13, p15, ⟨⟩⟩ ⟨-⟩
                              refine tx_pair 4 6 (by kernel_rfl) ?_ ?_
                              · (refine to_e rfl rfl (e_append_big (n := x.ac.length) (vs := x.ac.flatMap inE) (old := []) (junk := []) rfl rfl rfl (by repeat constructor) (by rfl) (by rfl) (Nat.le_refl _) (fun w' hw' => hxr.ac.fr (hw'.fr (w0 := wz) (S := []) MI.m)) (flatE_one inE_one _) (by omega) (by omega)) (.inr ⟨fun _ _ h => h.subl SB.s SB.s, fun _ h => h⟩) (fun r4 hq4 => ?_))
                                exact tx_meetG (hT18 (r4, p8, p13, p15, ()) ⟨hq4, trivial⟩) (by kernel_rfl) (by kernel_rfl) (by repeat (first | exact Sub.nil | refine Sub.cons rfl ?_)) (fun w hw => hw.subl SB.s SB.s)
                              · (refine to_e rfl rfl (e_bslice rfl (by (repeat (first | exact .nil | apply PV.one rfl rfl)); done) rfl rfl) (.inr ⟨fun _ _ h => h.subl SB.s SB.s, fun _ h => h⟩) (fun p6 hq6 => ?_))
                                exact tx_meetG (hT19 (p1, p6, p8, p13, p15, ()) trivial) (by kernel_rfl) (by kernel_rfl) (by repeat (first | exact Sub.nil | refine Sub.cons rfl ?_)) (fun w hw => (HG.mid1 hw).subl SB.s SB.s)
                            refine tx_cutG (A := (Nat) × (Nat) × (Nat) × (Nat) × Unit) (fun y => True) (n' := 20) (L' := [true, false, true, true, false, true, true, false, true, true, true, false, true, true, false, true, true, true, false, true, false, false, false, false, false, false, false, false, false, false, false, false, false, false]) (fun y => [(81, .slice (some ⟨y.1, 0, none⟩) 1 1), (83, .slice (some ⟨y.2.1, 0, none⟩) 0 0), (88, .slice (some ⟨y.2.2.1, 0, none⟩) 1 1), (90, .slice (some ⟨y.2.2.2.1, 0, none⟩) 0 0), (75, ouV us2.length oo), (78, u.1.1), (80, vi a), (85, u.2.1.1), (87, .bool brk), (92, u.2.2.1), (94, .bool was), (1, vi b), (2, .slice adl l.length cpl), (3, ptr b3), (7, slV us.length av), (8, vi h), (9, ouV us2.length oo), (10, vi i), (11, .bool was), (12, vi a)]) [(wz2, S), (wz, []), (wl1, []), (w, [])] (fun y => (y.1, .cells #[vi a] 3 (0, 0)) :: (y.2.1, .cells #[] 4 (0, 0)) :: (y.2.2.1, .cells #[.bool brk] 4 (0, 0)) :: (y.2.2.2.1, .cells #[] 4 (0, 0)) :: (b15, .cells #[u.1.1, u.2.1.1, u.2.2.1] 108 (0, 0)) :: slE 108 wyE us2 oo) ?_ (fun hT31 => ?_)
                            · skip
                              rintro ⟨p6, p8, p13, p15, ⟨⟩⟩ ⟨-⟩
                              refine tx_single 1 (by kernel_rfl) ?_
                              · (refine to_e rfl rfl (e_bslice rfl (by (repeat (exact .nil)); done) rfl rfl) (.inr ⟨fun _ _ h => h.subl SB.s SB.s, fun _ h => h⟩) (fun p1 hq1 => ?_))
                                exact tx_meetG (hT19 (p1, p6, p8, p13, p15, ()) trivial) (by kernel_rfl) (by kernel_rfl) (by repeat (first | exact Sub.nil | refine Sub.cons rfl ?_)) (fun w hw => hw.subl SB.s SB.s)
                            refine tx_cutG (A := (Nat × Nat × List Value) × (Nat) × Unit) (fun y => (0 + x.ac.length ≤ y.1.2.1 ∧ y.1.2.2.length = (y.1.2.1 - (0 + x.ac.length)) * 1) ∧ True) (n' := 21) (L' := [true, true, true, true, true, true, true, false, false, true, true, false, true, false, false, false, true, true, false, true, false, false, false, false, false, false, false, false, false, false, false, false, false, false]) (fun y => [(79, .slice (some ⟨y.1.1, 0, none⟩) (0 + x.ac.length) y.1.2.1), (81, .slice (some ⟨y.2.1, 0, none⟩) 1 1), (75, ouV us2.length oo), (78, u.1.1), (80, vi a), (85, u.2.1.1), (87, .bool brk), (92, u.2.2.1), (94, .bool was), (1, vi b), (2, .slice adl l.length cpl), (3, ptr b3), (7, slV us.length av), (8, vi h), (9, ouV us2.length oo), (10, vi i), (11, .bool was), (12, vi a)]) [(wz2, S), (wz, []), (wl1, []), (w, [])] (fun y => (y.1.1, .cells ([] ++ x.ac.flatMap inE ++ y.1.2.2).toArray 3 (0, 0)) :: (y.2.1, .cells #[vi a] 3 (0, 0)) :: (b15, .cells #[u.1.1, u.2.1.1, u.2.2.1] 108 (0, 0)) :: slE 108 wyE us2 oo) ?_ (fun hT32 => ?_)
                            · skip
                              rintro ⟨r4, p6, ⟨⟩⟩ ⟨hq4, -⟩
                              refine tx_four 7 8 13 15 (by kernel_rfl) ?_ ?_ ?_ ?_
                              · (refine to_e rfl rfl (e_append_big (n := 1) (vs := [(a : Int)].flatMap inE) (old := [] ++ x.ac.flatMap inE) (junk := r4.2.2) rfl rfl rfl (by repeat constructor) (by rw [List.nil_append, flatS_len inE_len]; omega) hq4.2 hq4.1 (fun w' hw' => RdS.own0 (xs := [(a : Int)]) inE_len hw' (b := p6) (by repeat constructor)) (flatE_one inE_one _) (by omega) (by omega)) (.inr ⟨fun _ _ h => h.subl SB.s SB.s, fun _ h => h⟩) (fun r7 hq7 => ?_))
                                exact tx_meetG (hT20 (r7, ()) trivial) (by kernel_rfl) (by kernel_rfl) (by repeat (first | exact Sub.nil | refine Sub.cons rfl ?_)) (fun w hw => hw.subl SB.s SB.s)
                              · (refine to_e rfl rfl (e_bslice rfl (by (repeat (exact .nil)); done) rfl rfl) (.inr ⟨fun _ _ h => h.subl SB.s SB.s, fun _ h => h⟩) (fun p8 hq8 => ?_))
                                exact tx_meetG (hT21 (r4, p6, p8, ()) ⟨hq4, trivial⟩) (by kernel_rfl) (by kernel_rfl) (by repeat (first | exact Sub.nil | refine Sub.cons rfl ?_)) (fun w hw => (HG.mid2 hw).subl SB.s SB.s)
                              · (refine to_e rfl rfl (e_bslice rfl (by (repeat (first | exact .nil | apply PV.one rfl rfl)); done) rfl rfl) (.inr ⟨fun _ _ h => h.subl SB.s SB.s, fun _ h => h⟩) (fun p13 hq13 => ?_))
                                exact tx_meetG (hT22 (r4, p6, p13, ()) ⟨hq4, trivial⟩) (by kernel_rfl) (by kernel_rfl) (by repeat (first | exact Sub.nil | refine Sub.cons rfl ?_)) (fun w hw => (HG.mid2 hw).subl SB.s SB.s)
                              · (refine to_e rfl rfl (e_bslice rfl (by (repeat (exact .nil)); done) rfl rfl) (.inr ⟨fun _ _ h => h.subl SB.s SB.s, fun _ h => h⟩) (fun p15 hq15 => ?_))
                                exact tx_meetG (hT23 (r4, p6, p15, ()) ⟨hq4, trivial⟩) (by kernel_rfl) (by kernel_rfl) (by repeat (first | exact Sub.nil | refine Sub.cons rfl ?_)) (fun w hw => (HG.mid2 hw).subl SB.s SB.s)
                            refine tx_cutG (A := (Nat × Nat × List Value) × (Nat) × Unit) (fun y => (0 + x.ac.length ≤ y.1.2.1 ∧ y.1.2.2.length = (y.1.2.1 - (0 + x.ac.length)) * 1) ∧ True) (n' := 21) (L' := [true, true, true, true, true, true, false, false, true, true, true, false, true, false, false, false, true, true, false, true, false, false, false, false, false, false, false, false, false, false, false, false, false, false]) (fun y => [(79, .slice (some ⟨y.1.1, 0, none⟩) (0 + x.ac.length) y.1.2.1), (83, .slice (some ⟨y.2.1, 0, none⟩) 0 0), (75, ouV us2.length oo), (78, u.1.1), (80, vi a), (85, u.2.1.1), (87, .bool brk), (92, u.2.2.1), (94, .bool was), (1, vi b), (2, .slice adl l.length cpl), (3, ptr b3), (7, slV us.length av), (8, vi h), (9, ouV us2.length oo), (10, vi i), (11, .bool was), (12, vi a)]) [(wz2, S), (wz, []), (wl1, []), (w, [])] (fun y => (y.1.1, .cells ([] ++ x.ac.flatMap inE ++ y.1.2.2).toArray 3 (0, 0)) :: (y.2.1, .cells #[] 4 (0, 0)) :: (b15, .cells #[u.1.1, u.2.1.1, u.2.2.1] 108 (0, 0)) :: slE 108 wyE us2 oo) ?_ (fun hT33 => ?_)
                            · skip
                              rintro ⟨r4, p8, ⟨⟩⟩ ⟨hq4, -⟩
                              refine tx_three 6 13 15 (by kernel_rfl) ?_ ?_ ?_
                              · (refine to_e rfl rfl (e_bslice rfl (by (repeat (first | exact .nil | apply PV.one rfl rfl)); done) rfl rfl) (.inr ⟨fun _ _ h => h.subl SB.s SB.s, fun _ h => h⟩) (fun p6 hq6 => ?_))
                                exact tx_meetG (hT21 (r4, p6, p8, ()) ⟨hq4, trivial⟩) (by kernel_rfl) (by kernel_rfl) (by repeat (first | exact Sub.nil | refine Sub.cons rfl ?_)) (fun w hw => (HG.mid1 hw).subl SB.s SB.s)
                              · (refine to_e rfl rfl (e_bslice rfl (by (repeat (first | exact .nil | apply PV.one rfl rfl)); done) rfl rfl) (.inr ⟨fun _ _ h => h.subl SB.s SB.s, fun _ h => h⟩) (fun p13 hq13 => ?_))
                                exact tx_meetG (hT24 (r4, p8, p13, ()) ⟨hq4, trivial⟩) (by kernel_rfl) (by kernel_rfl) (by repeat (first | exact Sub.nil | refine Sub.cons rfl ?_)) (fun w hw => (HG.mid2 hw).subl SB.s SB.s)
                              · (refine to_e rfl rfl (e_bslice rfl (by (repeat (exact .nil)); done) rfl rfl) (.inr ⟨fun _ _ h => h.subl SB.s SB.s, fun _ h => h⟩) (fun p15 hq15 => ?_))
                                exact tx_meetG (hT25 (r4, p8, p15, ()) ⟨hq4, trivial⟩) (by kernel_rfl) (by kernel_rfl) (by repeat (first | exact Sub.nil | refine Sub.cons rfl ?_)) (fun w hw => (HG.mid2 hw).subl SB.s SB.s)
                            refine tx_cutG (A := (Nat × Nat × List Value) × (Nat) × Unit) (fun y => (0 + x.ac.length ≤ y.1.2.1 ∧ y.1.2.2.length = (y.1.2.1 - (0 + x.ac.length)) * 1) ∧ True) (n' := 21) (L' := [true, true, true, true, true, true, false, false, false, true, true, false, true, true, false, false, true, true, false, true, false, false, false, false, false, false, false, false, false, false, false, false, false, false]) (fun y => [(79, .slice (some ⟨y.1.1, 0, none⟩) (0 + x.ac.length) y.1.2.1), (88, .slice (some ⟨y.2.1, 0, none⟩) 1 1), (75, ouV us2.length oo), (78, u.1.1), (80, vi a), (85, u.2.1.1), (87, .bool brk), (92, u.2.2.1), (94, .bool was), (1, vi b), (2, .slice adl l.length cpl), (3, ptr b3), (7, slV us.length av), (8, vi h), (9, ouV us2.length oo), (10, vi i), (11, .bool was), (12, vi a)]) [(wz2, S), (wz, []), (wl1, []), (w, [])] (fun y => (y.1.1, .cells ([] ++ x.ac.flatMap inE ++ y.1.2.2).toArray 3 (0, 0)) :: (y.2.1, .cells #[.bool brk] 4 (0, 0)) :: (b15, .cells #[u.1.1, u.2.1.1, u.2.2.1] 108 (0, 0)) :: slE 108 wyE us2 oo) ?_ (fun hT34 => ?_)
                            · skip
                              rintro ⟨r4, p13, ⟨⟩⟩ ⟨hq4, -⟩
                              refine tx_three 6 8 15 (by kernel_rfl) ?_ ?_ ?_
                              · (refine to_e rfl rfl (e_bslice rfl (by (repeat (first | exact .nil | apply PV.one rfl rfl)); done) rfl rfl) (.inr ⟨fun _ _ h => h.subl SB.s SB.s, fun _ h => h⟩) (fun p6 hq6 => ?_))
                                exact tx_meetG (hT22 (r4, p6, p13, ()) ⟨hq4, trivial⟩) (by kernel_rfl) (by kernel_rfl) (by repeat (first | exact Sub.nil | refine Sub.cons rfl ?_)) (fun w hw => (HG.mid1 hw).subl SB.s SB.s)
                              · (refine to_e rfl rfl (e_bslice rfl (by (repeat (exact .nil)); done) rfl rfl) (.inr ⟨fun _ _ h => h.subl SB.s SB.s, fun _ h => h⟩) (fun p8 hq8 => ?_))
                                exact tx_meetG (hT24 (r4, p8, p13, ()) ⟨hq4, trivial⟩) (by kernel_rfl) (by kernel_rfl) (by repeat (first | exact Sub.nil | refine Sub.cons rfl ?_)) (fun w hw => (HG.mid1 hw).subl SB.s SB.s)
                              · (refine to_e rfl rfl (e_bslice rfl (by (repeat (exact .nil)); done) rfl rfl) (.inr ⟨fun _ _ h => h.subl SB.s SB.s, fun _ h => h⟩) (fun p15 hq15 => ?_))
                                exact tx_meetG (hT26 (r4, p13, p15, ()) ⟨hq4, trivial⟩) (by kernel_rfl) (by kernel_rfl) (by repeat (first | exact Sub.nil | refine Sub.cons rfl ?_)) (fun w hw => (HG.mid2 hw).subl SB.s SB.s)
                            refine tx_cutG (A := (Nat × Nat × List Value) × (Nat) × Unit) (fun y => (0 + x.ac.length ≤ y.1.2.1 ∧ y.1.2.2.length = (y.1.2.1 - (0 + x.ac.length)) * 1) ∧ True) (n' := 21) (L' := [true, true, true, true, true, true, false, false, false, true, true, false, true, false, false, true, true, true, false, true, false, false, false, false, false, false, false, false, false, false, false, false, false, false]) (fun y => [(79, .slice (some ⟨y.1.1, 0, none⟩) (0 + x.ac.length) y.1.2.1), (90, .slice (some ⟨y.2.1, 0, none⟩) 0 0), (75, ouV us2.length oo), (78, u.1.1), (80, vi a), (85, u.2.1.1), (87, .bool brk), (92, u.2.2.1), (94, .bool was), (1, vi b), (2, .slice adl l.length cpl), (3, ptr b3), (7, slV us.length av), (8, vi h), (9, ouV us2.length oo), (10, vi i), (11, .bool was), (12, vi a)]) [(wz2, S), (wz, []), (wl1, []), (w, [])] (fun y => (y.1.1, .cells ([] ++ x.ac.flatMap inE ++ y.1.2.2).toArray 3 (0, 0)) :: (y.2.1, .cells #[] 4 (0, 0)) :: (b15, .cells #[u.1.1, u.2.1.1, u.2.2.1] 108 (0, 0)) :: slE 108 wyE us2 oo) ?_ (fun hT35 => ?_)
                            · skip
                              rintro ⟨r4, p15, ⟨⟩⟩ ⟨hq4, -⟩
                              refine tx_three 6 8 13 (by kernel_rfl) ?_ ?_ ?_
                              · (refine to_e rfl rfl (e_bslice rfl (by (repeat (first | exact .nil | apply PV.one rfl rfl)); done) rfl rfl) (.inr ⟨fun _ _ h => h.subl SB.s SB.s, fun _ h => h⟩) (fun p6 hq6 => ?_))
                                exact tx_meetG (hT23 (r4, p6, p15, ()) ⟨hq4, trivial⟩) (by kernel_rfl) (by kernel_rfl) (by repeat (first | exact Sub.nil | refine Sub.cons rfl ?_)) (fun w hw => (HG.mid1 hw).subl SB.s SB.s)
                              · (refine to_e rfl rfl (e_bslice rfl (by (repeat (exact .nil)); done) rfl rfl) (.inr ⟨fun _ _ h => h.subl SB.s SB.s, fun _ h => h⟩) (fun p8 hq8 => ?_))
                                exact tx_meetG (hT25 (r4, p8, p15, ()) ⟨hq4, trivial⟩) (by kernel_rfl) (by kernel_rfl) (by repeat (first | exact Sub.nil | refine Sub.cons rfl ?_)) (fun w hw => (HG.mid1 hw).subl SB.s SB.s)
                              · (refine to_e rfl rfl (e_bslice rfl (by (repeat (first | exact .nil | apply PV.one rfl rfl)); done) rfl rfl) (.inr ⟨fun _ _ h => h.subl SB.s SB.s, fun _ h => h⟩) (fun p13 hq13 => ?_))
                                exact tx_meetG (hT26 (r4, p13, p15, ()) ⟨hq4, trivial⟩) (by kernel_rfl) (by kernel_rfl) (by repeat (first | exact Sub.nil | refine Sub.cons rfl ?_)) (fun w hw => (HG.mid1 hw).subl SB.s SB.s)
                            refine tx_cutG (A := (Nat) × (Nat) × (Nat) × Unit) (fun y => True) (n' := 21) (L' := [true, true, true, true, false, true, true, false, true, true, true, false, true, false, false, false, true, true, false, true, false, false, false, false, false, false, false, false, false, false, false, false, false, false]) (fun y => [(76, .slice (some ⟨y.1, 0, none⟩) 0 0), (81, .slice (some ⟨y.2.1, 0, none⟩) 1 1), (83, .slice (some ⟨y.2.2.1, 0, none⟩) 0 0), (75, ouV us2.length oo), (78, u.1.1), (80, vi a), (85, u.2.1.1), (87, .bool brk), (92, u.2.2.1), (94, .bool was), (1, vi b), (2, .slice adl l.length cpl), (3, ptr b3), (7, slV us.length av), (8, vi h), (9, ouV us2.length oo), (10, vi i), (11, .bool was), (12, vi a)]) [(wz2, S), (wz, []), (wl1, []), (w, [])] (fun y => (y.1, .cells #[] 3 (0, 0)) :: (y.2.1, .cells #[vi a] 3 (0, 0)) :: (y.2.2.1, .cells #[] 4 (0, 0)) :: (b15, .cells #[u.1.1, u.2.1.1, u.2.2.1] 108 (0, 0)) :: slE 108 wyE us2 oo) ?_ (fun hT36 => ?_)
                            · skip
                              rintro ⟨p1, p6, p8, ⟨⟩⟩ ⟨-⟩
                              refine tx_three 4 13 15 (by kernel_rfl) ?_ ?_ ?_
                              · (refine to_e rfl rfl (e_append_big (n := x.ac.length) (vs := x.ac.flatMap inE) (old := []) (junk := []) rfl rfl rfl (by repeat constructor) (by rfl) (by rfl) (Nat.le_refl _) (fun w' hw' => hxr.ac.fr (hw'.fr (w0 := wz) (S := []) MI.m)) (flatE_one inE_one _) (by omega) (by omega)) (.inr ⟨fun _ _ h => h.subl SB.s SB.s, fun _ h => h⟩) (fun r4 hq4 => ?_))
                                exact tx_meetG (hT21 (r4, p6, p8, ()) ⟨hq4, trivial⟩) (by kernel_rfl) (by kernel_rfl) (by repeat (first | exact Sub.nil | refine Sub.cons rfl ?_)) (fun w hw => hw.subl SB.s SB.s)
                              · (refine to_e rfl rfl (e_bslice rfl (by (repeat (first | exact .nil | apply PV.one rfl rfl)); done) rfl rfl) (.inr ⟨fun _ _ h => h.subl SB.s SB.s, fun _ h => h⟩) (fun p13 hq13 => ?_))
                                exact tx_meetG (hT27 (p1, p6, p8, p13, ()) trivial) (by kernel_rfl) (by kernel_rfl) (by repeat (first | exact Sub.nil | refine Sub.cons rfl ?_)) (fun w hw => (HG.mid3 hw).subl SB.s SB.s)
                              · (refine to_e rfl rfl (e_bslice rfl (by (repeat (exact .nil)); done) rfl rfl) (.inr ⟨fun _ _ h => h.subl SB.s SB.s, fun _ h => h⟩) (fun p15 hq15 => ?_))
                                exact tx_meetG (hT28 (p1, p6, p8, p15, ()) trivial) (by kernel_rfl) (by kernel_rfl) (by repeat (first | exact Sub.nil | refine Sub.cons rfl ?_)) (fun w hw => (HG.mid3 hw).subl SB.s SB.s)
                            refine tx_cutG (A := (Nat) × (Nat) × (Nat) × Unit) (fun y => True) (n' := 21) (L' := [true, true, true, true, false, true, true, false, false, true, true, false, true, true, false, false, true, true, false, true, false, false, false, false, false, false, false, false, false, false, false, false, false, false]) (fun y => [(76, .slice (some ⟨y.1, 0, none⟩) 0 0), (81, .slice (some ⟨y.2.1, 0, none⟩) 1 1), (88, .slice (some ⟨y.2.2.1, 0, none⟩) 1 1), (75, ouV us2.length oo), (78, u.1.1), (80, vi a), (85, u.2.1.1), (87, .bool brk), (92, u.2.2.1), (94, .bool was), (1, vi b), (2, .slice adl l.length cpl), (3, ptr b3), (7, slV us.length av), (8, vi h), (9, ouV us2.length oo), (10, vi i), (11, .bool was), (12, vi a)]) [(wz2, S), (wz, []), (wl1, []), (w, [])] (fun y => (y.1, .cells #[] 3 (0, 0)) :: (y.2.1, .cells #[vi a] 3 (0, 0)) :: (y.2.2.1, .cells #[.bool brk] 4 (0, 0)) :: (b15, .cells #[u.1.1, u.2.1.1, u.2.2.1] 108 (0, 0)) :: slE 108 wyE us2 oo) ?_ (fun hT37 => ?_)
                            · skip
                              rintro ⟨p1, p6, p13, ⟨⟩⟩ ⟨-⟩
                              refine tx_three 4 8 15 (by kernel_rfl) ?_ ?_ ?_
                              · (refine to_e rfl rfl (e_append_big (n := x.ac.length) (vs := x.ac.flatMap inE) (old := []) (junk := []) rfl rfl rfl (by repeat constructor) (by rfl) (by rfl) (Nat.le_refl _) (fun w' hw' => hxr.ac.fr (hw'.fr (w0 := wz) (S := []) MI.m)) (flatE_one inE_one _) (by omega) (by omega)) (.inr ⟨fun _ _ h => h.subl SB.s SB.s, fun _ h => h⟩) (fun r4 hq4 => ?_))
                                exact tx_meetG (hT22 (r4, p6, p13, ()) ⟨hq4, trivial⟩) (by kernel_rfl) (by kernel_rfl) (by repeat (first | exact Sub.nil | refine Sub.cons rfl ?_)) (fun w hw => hw.subl SB.s SB.s)
                              · (refine to_e rfl rfl (e_bslice rfl (by (repeat (exact .nil)); done) rfl rfl) (.inr ⟨fun _ _ h => h.subl SB.s SB.s, fun _ h => h⟩) (fun p8 hq8 => ?_))
                                exact tx_meetG (hT27 (p1, p6, p8, p13, ()) trivial) (by kernel_rfl) (by kernel_rfl) (by repeat (first | exact Sub.nil | refine Sub.cons rfl ?_)) (fun w hw => (HG.mid2 hw).subl SB.s SB.s)
                              · (refine to_e rfl rfl (e_bslice rfl (by (repeat (exact .nil)); done) rfl rfl) (.inr ⟨fun _ _ h => h.subl SB.s SB.s, fun _ h => h⟩) (fun p15 hq15 => ?_))
                                exact tx_meetG (hT29 (p1, p6, p13, p15, ()) trivial) (by kernel_rfl) (by kernel_rfl) (by repeat (first | exact Sub.nil | refine Sub.cons rfl ?_)) (fun w hw => (HG.mid3 hw).subl SB.s SB.s)
                            refine tx_cutG (A := (Nat) × (Nat) × (Nat) × Unit) (fun y => True) (n' := 21) (L' := [true, true, true, true, false, true, true, false, false, true, true, false, true, false, false, true, true, true, false, true, false, false, false, false, false, false, false, false, false, false, false, false, false, false]) (fun y => [(76, .slice (some ⟨y.1, 0, none⟩) 0 0), (81, .slice (some ⟨y.2.1, 0, none⟩) 1 1), (90, .slice (some ⟨y.2.2.1, 0, none⟩) 0 0), (75, ouV us2.length oo), (78, u.1.1), (80, vi a), (85, u.2.1.1), (87, .bool brk), (92, u.2.2.1), (94, .bool was), (1, vi b), (2, .slice adl l.length cpl), (3, ptr b3), (7, slV us.length av), (8, vi h), (9, ouV us2.length oo), (10, vi i), (11, .bool was), (12, vi a)]) [(wz2, S), (wz, []), (wl1, []), (w, [])] (fun y => (y.1, .cells #[] 3 (0, 0)) :: (y.2.1, .cells #[vi a] 3 (0, 0)) :: (y.2.2.1, .cells #[] 4 (0, 0)) :: (b15, .cells #[u.1.1, u.2.1.1, u.2.2.1] 108 (0, 0)) :: slE 108 wyE us2 oo) ?_ (fun hT38 => ?_)
                            · skip
                              rintro ⟨p1, p6, p15, ⟨⟩⟩ ⟨-⟩
                              refine tx_three 4 8 13 (by kernel_rfl) ?_ ?_ ?_
                              · (refine to_e rfl rfl (e_append_big (n := x.ac.length) (vs := x.ac.flatMap inE) (old := []) (junk := []) rfl rfl rfl (by repeat constructor) (by rfl) (by rfl) (Nat.le_refl _) (fun w' hw' => hxr.ac.fr (hw'.fr (w0 := wz) (S := []) MI.m)) (flatE_one inE_one _) (by omega) (by omega)) (.inr ⟨fun _ _ h => h.subl SB.s SB.s, fun _ h => h⟩) (fun r4 hq4 => ?_))
                                exact tx_meetG (hT23 (r4, p6, p15, ()) ⟨hq4, trivial⟩) (by kernel_rfl) (by kernel_rfl) (by repeat (first | exact Sub.nil | refine Sub.cons rfl ?_)) (fun w hw => hw.subl SB.s SB.s)
                              · (refine to_e rfl rfl (e_bslice rfl (by (repeat (exact .nil)); done) rfl rfl) (.inr ⟨fun _ _ h => h.subl SB.s SB.s, fun _ h => h⟩) (fun p8 hq8 => ?_))
                                exact tx_meetG (hT28 (p1, p6, p8, p15, ()) trivial) (by kernel_rfl) (by kernel_rfl) (by repeat (first | exact Sub.nil | refine Sub.cons rfl ?_)) (fun w hw => (HG.mid2 hw).subl SB.s SB.s)
                              · (refine to_e rfl rfl (e_bslice rfl (by (repeat (first | exact .nil | apply PV.one rfl rfl)); done) rfl rfl) (.inr ⟨fun _ _ h => h.subl SB.s SB.s, fun _ h => h⟩) (fun p13 hq13 => ?_))
                                exact tx_meetG (hT29 (p1, p6, p13, p15, ()) trivial) (by kernel_rfl) (by kernel_rfl) (by repeat (first | exact Sub.nil | refine Sub.cons rfl ?_)) (fun w hw => (HG.mid2 hw).subl SB.s SB.s)
                            refine tx_cutG (A := (Nat) × (Nat) × (Nat) × Unit) (fun y => True) (n' := 21) (L' := [true, true, true, true, false, true, false, false, true, true, true, false, true, true, false, false, true, true, false, true, false, false, false, false, false, false, false, false, false, false, false, false, false, false]) (fun y => [(76, .slice (some ⟨y.1, 0, none⟩) 0 0), (83, .slice (some ⟨y.2.1, 0, none⟩) 0 0), (88, .slice (some ⟨y.2.2.1, 0, none⟩) 1 1), (75, ouV us2.length oo), (78, u.1.1), (80, vi a), (85, u.2.1.1), (87, .bool brk), (92, u.2.2.1), (94, .bool was), (1, vi b), (2, .slice adl l.length cpl), (3, ptr b3), (7, slV us.length av), (8, vi h), (9, ouV us2.length oo), (10, vi i), (11, .bool was), (12, vi a)]) [(wz2, S), (wz, []), (wl1, []), (w, [])] (fun y => (y.1, .cells #[] 3 (0, 0)) :: (y.2.1, .cells #[] 4 (0, 0)) :: (y.2.2.1, .cells #[.bool brk] 4 (0, 0)) :: (b15, .cells #[u.1.1, u.2.1.1, u.2.2.1] 108 (0, 0)) :: slE 108 wyE us2 oo) ?_ (fun hT39 => ?_)
                            · skip
                              rintro ⟨p1, p8, p13, ⟨⟩⟩ ⟨-⟩
                              refine tx_three 4 6 15 (by kernel_rfl) ?_ ?_ ?_
                              · (refine to_e rfl rfl (e_append_big (n := x.ac.length) (vs := x.ac.flatMap inE) (old := []) (junk := []) rfl rfl rfl (by repeat constructor) (by rfl) (by rfl) (Nat.le_refl _) (fun w' hw' => hxr.ac.fr (hw'.fr (w0 := wz) (S := []) MI.m)) (flatE_one inE_one _) (by omega) (by omega)) (.inr ⟨fun _ _ h => h.subl SB.s SB.s, fun _ h => h⟩) (fun r4 hq4 => ?_))
                                exact tx_meetG (hT24 (r4, p8, p13, ()) ⟨hq4, trivial⟩) (by kernel_rfl) (by kernel_rfl) (by repeat (first | exact Sub.nil | refine Sub.cons rfl ?_)) (fun w hw => hw.subl SB.s SB.s)
                              · (refine to_e rfl rfl (e_bslice rfl (by (repeat (first | exact .nil | apply PV.one rfl rfl)); done) rfl rfl) (.inr ⟨fun _ _ h => h.subl SB.s SB.s, fun _ h => h⟩) (fun p6 hq6 => ?_))
                                exact tx_meetG (hT27 (p1, p6, p8, p13, ()) trivial) (by kernel_rfl) (by kernel_rfl) (by repeat (first | exact Sub.nil | refine Sub.cons rfl ?_)) (fun w hw => (HG.mid1 hw).subl SB.s SB.s)
                              · (refine to_e rfl rfl (e_bslice rfl (by (repeat (exact .nil)); done) rfl rfl) (.inr ⟨fun _ _ h => h.subl SB.s SB.s, fun _ h => h⟩) (fun p15 hq15 => ?_))
                                exact tx_meetG (hT30 (p1, p8, p13, p15, ()) trivial) (by kernel_rfl) (by kernel_rfl) (by repeat (first | exact Sub.nil | refine Sub.cons rfl ?_)) (fun w hw => (HG.mid3 hw).subl SB.s SB.s)
                            refine tx_cutG (A := (Nat) × (Nat) × (Nat) × Unit) (fun y => True) (n' := 21) (L' := [true, true, true, true, false, true, false, false, true, true, true, false, true, false, false, true, true, true, false, true, false, false, false, false, false, false, false, false, false, false, false, false, false, false]) (fun y => [(76, .slice (some ⟨y.1, 0, none⟩) 0 0), (83, .slice (some ⟨y.2.1, 0, none⟩) 0 0), (90, .slice (some ⟨y.2.2.1, 0, none⟩) 0 0), (75, ouV us2.length oo), (78, u.1.1), (80, vi a), (85, u.2.1.1), (87, .bool brk), (92, u.2.2.1), (94, .bool was), (1, vi b), (2, .slice adl l.length cpl), (3, ptr b3), (7, slV us.length av), (8, vi h), (9, ouV us2.length oo), (10, vi i), (11, .bool was), (12, vi a)]) [(wz2, S), (wz, []), (wl1, []), (w, [])] (fun y => (y.1, .cells #[] 3 (0, 0)) :: (y.2.1, .cells #[] 4 (0, 0)) :: (y.2.2.1, .cells #[] 4 (0, 0)) :: (b15, .cells #[u.1.1, u.2.1.1, u.2.2.1] 108 (0, 0)) :: slE 108 wyE us2 oo) ?_ (fun hT40 => ?_)
                            · skip
                              rintro ⟨p1, p8, p15, ⟨⟩⟩ ⟨-⟩
                              refine tx_three 4 6 13 (by kernel_rfl) ?_ ?_ ?_
                              · (refine to_e rfl rfl (e_append_big (n := x.ac.length) (vs := x.ac.flatMap inE) (old := []) (junk := []) rfl rfl rfl (by repeat constructor) (by rfl) (by rfl) (Nat.le_refl _) (fun w' hw' => hxr.ac.fr (hw'.fr (w0 := wz) (S := []) MI.m)) (flatE_one inE_one _) (by omega) (by omega)) (.inr ⟨fun _ _ h => h.subl SB.s SB.s, fun _ h => h⟩) (fun r4 hq4 => ?_))
                                exact tx_meetG (hT25 (r4, p8, p15, ()) ⟨hq4, trivial⟩) (by kernel_rfl) (by kernel_rfl) (by repeat (first | exact Sub.nil | refine Sub.cons rfl ?_)) (fun w hw => hw.subl SB.s SB.s)
                              · (refine to_e rfl rfl (e_bslice rfl (by (repeat (first | exact .nil | apply PV.one rfl rfl)); done) rfl rfl) (.inr ⟨fun _ _ h => h.subl SB.s SB.s, fun _ h => h⟩) (fun p6 hq6 => ?_))
                                exact tx_meetG (hT28 (p1, p6, p8, p15, ()) trivial) (by kernel_rfl) (by kernel_rfl) (by repeat (first | exact Sub.nil | refine Sub.cons rfl ?_)) (fun w hw => (HG.mid1 hw).subl SB.s SB.s)
                              · (refine to_e rfl rfl (e_bslice rfl (by (repeat (first | exact .nil | apply PV.one rfl rfl)); done) rfl rfl) (.inr ⟨fun _ _ h => h.subl SB.s SB.s, fun _ h => h⟩) (fun p13 hq13 => ?_))
                                exact tx_meetG (hT30 (p1, p8, p13, p15, ()) trivial) (by kernel_rfl) (by kernel_rfl) (by repeat (first | exact Sub.nil | refine Sub.cons rfl ?_)) (fun w hw => (HG.mid2 hw).subl SB.s SB.s)
                            refine tx_cutG (A := (Nat) × (Nat) × (Nat) × Unit) (fun y => True) (n' := 21) (L' := [true, true, true, true, false, true, false, false, false, true, true, false, true, true, false, true, true, true, false, true, false, false, false, false, false, false, false, false, false, false, false, false, false, false]) (fun y => [(76, .slice (some ⟨y.1, 0, none⟩) 0 0), (88, .slice (some ⟨y.2.1, 0, none⟩) 1 1), (90, .slice (some ⟨y.2.2.1, 0, none⟩) 0 0), (75, ouV us2.length oo), (78, u.1.1), (80, vi a), (85, u.2.1.1), (87, .bool brk), (92, u.2.2.1), (94, .bool was), (1, vi b), (2, .slice adl l.length cpl), (3, ptr b3), (7, slV us.length av), (8, vi h), (9, ouV us2.length oo), (10, vi i), (11, .bool was), (12, vi a)]) [(wz2, S), (wz, []), (wl1, []), (w, [])] (fun y => (y.1, .cells #[] 3 (0, 0)) :: (y.2.1, .cells #[.bool brk] 4 (0, 0)) :: (y.2.2.1, .cells #[] 4 (0, 0)) :: (b15, .cells #[u.1.1, u.2.1.1, u.2.2.1] 108 (0, 0)) :: slE 108 wyE us2 oo) ?_ (fun hT41 => ?_)
                            · skip
                              rintro ⟨p1, p13, p15, ⟨⟩⟩ ⟨-⟩
                              refine tx_three 4 6 8 (by kernel_rfl) ?_ ?_ ?_
                              · (refine to_e rfl rfl (e_append_big (n := x.ac.length) (vs := x.ac.flatMap inE) (old := []) (junk := []) rfl rfl rfl (by repeat constructor) (by rfl) (by rfl) (Nat.le_refl _) (fun w' hw' => hxr.ac.fr (hw'.fr (w0 := wz) (S := []) MI.m)) (flatE_one inE_one _) (by omega) (by omega)) (.inr ⟨fun _ _ h => h.subl SB.s SB.s, fun _ h => h⟩) (fun r4 hq4 => ?_))
                                exact tx_meetG (hT26 (r4, p13, p15, ()) ⟨hq4, trivial⟩) (by kernel_rfl) (by kernel_rfl) (by repeat (first | exact Sub.nil | refine Sub.cons rfl ?_)) (fun w hw => hw.subl SB.s SB.s)
                              · (refine to_e rfl rfl (e_bslice rfl (by (repeat (first | exact .nil | apply PV.one rfl rfl)); done) rfl rfl) (.inr ⟨fun _ _ h => h.subl SB.s SB.s, fun _ h => h⟩) (fun p6 hq6 => ?_))
                                exact tx_meetG (hT29 (p1, p6, p13, p15, ()) trivial) (by kernel_rfl) (by kernel_rfl) (by repeat (first | exact Sub.nil | refine Sub.cons rfl ?_)) (fun w hw => (HG.mid1 hw).subl SB.s SB.s)
                              · (refine to_e rfl rfl (e_bslice rfl (by (repeat (exact .nil)); done) rfl rfl) (.inr ⟨fun _ _ h => h.subl SB.s SB.s, fun _ h => h⟩) (fun p8 hq8 => ?_))
                                exact tx_meetG (hT30 (p1, p8, p13, p15, ()) trivial) (by kernel_rfl) (by kernel_rfl) (by repeat (first | exact Sub.nil | refine Sub.cons rfl ?_)) (fun w hw => (HG.mid1 hw).subl SB.s SB.s)
                            refine tx_cutG (A := (Nat) × (Nat) × (Nat) × Unit) (fun y => True) (n' := 21) (L' := [true, false, true, true, false, true, true, false, true, true, true, false, true, true, false, false, true, true, false, true, false, false, false, false, false, false, false, false, false, false, false, false, false, false]) (fun y => [(81, .slice (some ⟨y.1, 0, none⟩) 1 1), (83, .slice (some ⟨y.2.1, 0, none⟩) 0 0), (88, .slice (some ⟨y.2.2.1, 0, none⟩) 1 1), (75, ouV us2.length oo), (78, u.1.1), (80, vi a), (85, u.2.1.1), (87, .bool brk), (92, u.2.2.1), (94, .bool was), (1, vi b), (2, .slice adl l.length cpl), (3, ptr b3), (7, slV us.length av), (8, vi h), (9, ouV us2.length oo), (10, vi i), (11, .bool was), (12, vi a)]) [(wz2, S), (wz, []), (wl1, []), (w, [])] (fun y => (y.1, .cells #[vi a] 3 (0, 0)) :: (y.2.1, .cells #[] 4 (0, 0)) :: (y.2.2.1, .cells #[.bool brk] 4 (0, 0)) :: (b15, .cells #[u.1.1, u.2.1.1, u.2.2.1] 108 (0, 0)) :: slE 108 wyE us2 oo) ?_ (fun hT42 => ?_)
                            · skip
                              rintro ⟨p6, p8, p13, ⟨⟩⟩ ⟨-⟩
                              refine tx_pair 1 15 (by kernel_rfl) ?_ ?_
                              · (refine to_e rfl rfl (e_bslice rfl (by (repeat (exact .nil)); done) rfl rfl) (.inr ⟨fun _ _ h => h.subl SB.s SB.s, fun _ h => h⟩) (fun p1 hq1 => ?_))
                                exact tx_meetG (hT27 (p1, p6, p8, p13, ()) trivial) (by kernel_rfl) (by kernel_rfl) (by repeat (first | exact Sub.nil | refine Sub.cons rfl ?_)) (fun w hw => hw.subl SB.s SB.s)
                              · (refine to_e rfl rfl (e_bslice rfl (by (repeat (exact .nil)); done) rfl rfl) (.inr ⟨fun _ _ h => h.subl SB.s SB.s, fun _ h => h⟩) (fun p15 hq15 => ?_))
                                exact tx_meetG (hT31 (p6, p8, p13, p15, ()) trivial) (by kernel_rfl) (by kernel_rfl) (by repeat (first | exact Sub.nil | refine Sub.cons rfl ?_)) (fun w hw => (HG.mid3 hw).subl SB.s SB.s)
                            refine tx_cutG (A := (Nat) × (Nat) × (Nat) × Unit) (fun y => True) (n' := 21) (L' := [true, false, true, true, false, true, true, false, true, true, true, false, true, false, false, true, true, true, false, true, false, false, false, false, false, false, false, false, false, false, false, false, false, false]) (fun y => [(81, .slice (some ⟨y.1, 0, none⟩) 1 1), (83, .slice (some ⟨y.2.1, 0, none⟩) 0 0), (90, .slice (some ⟨y.2.2.1, 0, none⟩) 0 0), (75, ouV us2.length oo), (78, u.1.1), (80, vi a), (85, u.2.1.1), (87, .bool brk), (92, u.2.2.1), (94, .bool was), (1, vi b), (2, .slice adl l.length cpl), (3, ptr b3), (7, slV us.length av), (8, vi h), (9, ouV us2.length oo), (10, vi i), (11, .bool was), (12, vi a)]) [(wz2, S), (wz, []), (wl1, []), (w, [])] (fun y => (y.1, .cells #[vi a] 3 (0, 0)) :: (y.2.1, .cells #[] 4 (0, 0)) :: (y.2.2.1, .cells #[] 4 (0, 0)) :: (b15, .cells #[u.1.1, u.2.1.1, u.2.2.1] 108 (0, 0)) :: slE 108 wyE us2 oo) ?_ (fun hT43 => ?_)
                            · skip
                              rintro ⟨p6, p8, p15, ⟨⟩⟩ ⟨-⟩
                              refine tx_pair 1 13 (by kernel_rfl) ?_ ?_
                              · (refine to_e rfl rfl (e_bslice rfl (by (repeat (exact .nil)); done) rfl rfl) (.inr ⟨fun _ _ h => h.subl SB.s SB.s, fun _ h => h⟩) (fun p1 hq1 => ?_))
                                exact tx_meetG (hT28 (p1, p6, p8, p15, ()) trivial) (by kernel_rfl) (by kernel_rfl) (by repeat (first | exact Sub.nil | refine Sub.cons rfl ?_)) (fun w hw => hw.subl SB.s SB.s)
                              · (refine to_e rfl rfl (e_bslice rfl (by (repeat (first | exact .nil | apply PV.one rfl rfl)); done) rfl rfl) (.inr ⟨fun _ _ h => h.subl SB.s SB.s, fun _ h => h⟩) (fun p13 hq13 => ?_))
                                exact tx_meetG (hT31 (p6, p8, p13, p15, ()) trivial) (by kernel_rfl) (by kernel_rfl) (by repeat (first | exact Sub.nil | refine Sub.cons rfl ?_)) (fun w hw => (HG.mid2 hw).subl SB.s SB.s)
                            refine tx_cutG (A := (Nat) × (Nat) × (Nat) × Unit) (fun y => True) (n' := 21) (L' := [true, false, true, true, false, true, true, false, false, true, true, false, true, true, false, true, true, true, false, true, false, false, false, false, false, false, false, false, false, false, false, false, false, false]) (fun y => [(81, .slice (some ⟨y.1, 0, none⟩) 1 1), (88, .slice (some ⟨y.2.1, 0, none⟩) 1 1), (90, .slice (some ⟨y.2.2.1, 0, none⟩) 0 0), (75, ouV us2.length oo), (78, u.1.1), (80, vi a), (85, u.2.1.1), (87, .bool brk), (92, u.2.2.1), (94, .bool was), (1, vi b), (2, .slice adl l.length cpl), (3, ptr b3), (7, slV us.length av), (8, vi h), (9, ouV us2.length oo), (10, vi i), (11, .bool was), (12, vi a)]) [(wz2, S), (wz, []), (wl1, []), (w, [])] (fun y => (y.1, .cells #[vi a] 3 (0, 0)) :: (y.2.1, .cells #[.bool brk] 4 (0, 0)) :: (y.2.2.1, .cells #[] 4 (0, 0)) :: (b15, .cells #[u.1.1, u.2.1.1, u.2.2.1] 108 (0, 0)) :: slE 108 wyE us2 oo) ?_ (fun hT44 => ?_)
                            · skip
                              rintro ⟨p6, p13, p15, ⟨⟩⟩ ⟨-⟩
                              refine tx_pair 1 8 (by kernel_rfl) ?_ ?_
                              · (refine to_e rfl rfl (e_bslice rfl (by (repeat (exact .nil)); done) rfl rfl) (.inr ⟨fun _ _ h => h.subl SB.s SB.s, fun _ h => h⟩) (fun p1 hq1 => ?_))
                                exact tx_meetG (hT29 (p1, p6, p13, p15, ()) trivial) (by kernel_rfl) (by kernel_rfl) (by repeat (first | exact Sub.nil | refine Sub.cons rfl ?_)) (fun w hw => hw.subl SB.s SB.s)
                              · (refine to_e rfl rfl (e_bslice rfl (by (repeat (exact .nil)); done) rfl rfl) (.inr ⟨fun _ _ h => h.subl SB.s SB.s, fun _ h => h⟩) (fun p8 hq8 => ?_))
                                exact tx_meetG (hT31 (p6, p8, p13, p15, ()) trivial) (by kernel_rfl) (by kernel_rfl) (by repeat (first | exact Sub.nil | refine Sub.cons rfl ?_)) (fun w hw => (HG.mid1 hw).subl SB.s SB.s)
                            refine tx_cutG (A := (Nat) × (Nat) × (Nat) × Unit) (fun y => True) (n' := 21) (L' := [true, false, true, true, false, true, false, false, true, true, true, false, true, true, false, true, true, true, false, true, false, false, false, false, false, false, false, false, false, false, false, false, false, false]) (fun y => [(83, .slice (some ⟨y.1, 0, none⟩) 0 0), (88, .slice (some ⟨y.2.1, 0, none⟩) 1 1), (90, .slice (some ⟨y.2.2.1, 0, none⟩) 0 0), (75, ouV us2.length oo), (78, u.1.1), (80, vi a), (85, u.2.1.1), (87, .bool brk), (92, u.2.2.1), (94, .bool was), (1, vi b), (2, .slice adl l.length cpl), (3, ptr b3), (7, slV us.length av), (8, vi h), (9, ouV us2.length oo), (10, vi i), (11, .bool was), (12, vi a)]) [(wz2, S), (wz, []), (wl1, []), (w, [])] (fun y => (y.1, .cells #[] 4 (0, 0)) :: (y.2.1, .cells #[.bool brk] 4 (0, 0)) :: (y.2.2.1, .cells #[] 4 (0, 0)) :: (b15, .cells #[u.1.1, u.2.1.1, u.2.2.1] 108 (0, 0)) :: slE 108 wyE us2 oo) ?_ (fun hT45 => ?_)
                            · skip
                              rintro ⟨p8, p13, p15, ⟨⟩⟩ ⟨-⟩
                              refine tx_pair 1 6 (by kernel_rfl) ?_ ?_
                              · (refine to_e rfl rfl (e_bslice rfl (by (repeat (exact .nil)); done) rfl rfl) (.inr ⟨fun _ _ h => h.subl SB.s SB.s, fun _ h => h⟩) (fun p1 hq1 => ?_))
                                exact tx_meetG (hT30 (p1, p8, p13, p15, ()) trivial) (by kernel_rfl) (by kernel_rfl) (by repeat (first | exact Sub.nil | refine Sub.cons rfl ?_)) (fun w hw => hw.subl SB.s SB.s)
                              · (refine to_e rfl rfl (e_bslice rfl (by (repeat (first | exact .nil | apply PV.one rfl rfl)); done) rfl rfl) (.inr ⟨fun _ _ h => h.subl SB.s SB.s, fun _ h => h⟩) (fun p6 hq6 => ?_))
                                exact tx_meetG (hT31 (p6, p8, p13, p15, ()) trivial) (by kernel_rfl) (by kernel_rfl) (by repeat (first | exact Sub.nil | refine Sub.cons rfl ?_)) (fun w hw => hw.subl SB.s SB.s)
                            refine tx_cutG (A := (Nat × Nat × List Value) × Unit) (fun y => (0 + x.ac.length ≤ y.1.2.1 ∧ y.1.2.2.length = (y.1.2.1 - (0 + x.ac.length)) * 1) ∧ True) (n' := 22) (L' := [true, true, true, true, true, true, false, false, false, true, true, false, true, false, false, false, true, true, false, true, false, false, false, false, false, false, false, false, false, false, false, false, false, false]) (fun y => [(79, .slice (some ⟨y.1.1, 0, none⟩) (0 + x.ac.length) y.1.2.1), (75, ouV us2.length oo), (78, u.1.1), (80, vi a), (85, u.2.1.1), (87, .bool brk), (92, u.2.2.1), (94, .bool was), (1, vi b), (2, .slice adl l.length cpl), (3, ptr b3), (7, slV us.length av), (8, vi h), (9, ouV us2.length oo), (10, vi i), (11, .bool was), (12, vi a)]) [(wz2, S), (wz, []), (wl1, []), (w, [])] (fun y => (y.1.1, .cells ([] ++ x.ac.flatMap inE ++ y.1.2.2).toArray 3 (0, 0)) :: (b15, .cells #[u.1.1, u.2.1.1, u.2.2.1] 108 (0, 0)) :: slE 108 wyE us2 oo) ?_ (fun hT46 => ?_)
                            · skip
                              rintro ⟨r4, ⟨⟩⟩ ⟨hq4, -⟩
                              refine tx_four 6 8 13 15 (by kernel_rfl) ?_ ?_ ?_ ?_
                              · (refine to_e rfl rfl (e_bslice rfl (by (repeat (first | exact .nil | apply PV.one rfl rfl)); done) rfl rfl) (.inr ⟨fun _ _ h => h.subl SB.s SB.s, fun _ h => h⟩) (fun p6 hq6 => ?_))
                                exact tx_meetG (hT32 (r4, p6, ()) ⟨hq4, trivial⟩) (by kernel_rfl) (by kernel_rfl) (by repeat (first | exact Sub.nil | refine Sub.cons rfl ?_)) (fun w hw => (HG.mid1 hw).subl SB.s SB.s)
                              · (refine to_e rfl rfl (e_bslice rfl (by (repeat (exact .nil)); done) rfl rfl) (.inr ⟨fun _ _ h => h.subl SB.s SB.s, fun _ h => h⟩) (fun p8 hq8 => ?_))
                                exact tx_meetG (hT33 (r4, p8, ()) ⟨hq4, trivial⟩) (by kernel_rfl) (by kernel_rfl) (by repeat (first | exact Sub.nil | refine Sub.cons rfl ?_)) (fun w hw => (HG.mid1 hw).subl SB.s SB.s)
                              · (refine to_e rfl rfl (e_bslice rfl (by (repeat (first | exact .nil | apply PV.one rfl rfl)); done) rfl rfl) (.inr ⟨fun _ _ h => h.subl SB.s SB.s, fun _ h => h⟩) (fun p13 hq13 => ?_))
                                exact tx_meetG (hT34 (r4, p13, ()) ⟨hq4, trivial⟩) (by kernel_rfl) (by kernel_rfl) (by repeat (first | exact Sub.nil | refine Sub.cons rfl ?_)) (fun w hw => (HG.mid1 hw).subl SB.s SB.s)
                              · (refine to_e rfl rfl (e_bslice rfl (by (repeat (exact .nil)); done) rfl rfl) (.inr ⟨fun _ _ h => h.subl SB.s SB.s, fun _ h => h⟩) (fun p15 hq15 => ?_))
                                exact tx_meetG (hT35 (r4, p15, ()) ⟨hq4, trivial⟩) (by kernel_rfl) (by kernel_rfl) (by repeat (first | exact Sub.nil | refine Sub.cons rfl ?_)) (fun w hw => (HG.mid1 hw).subl SB.s SB.s)
                            refine tx_cutG (A := (Nat) × (Nat) × Unit) (fun y => True) (n' := 22) (L' := [true, true, true, true, false, true, true, false, false, true, true, false, true, false, false, false, true, true, false, true, false, false, false, false, false, false, false, false, false, false, false, false, false, false]) (fun y => [(76, .slice (some ⟨y.1, 0, none⟩) 0 0), (81, .slice (some ⟨y.2.1, 0, none⟩) 1 1), (75, ouV us2.length oo), (78, u.1.1), (80, vi a), (85, u.2.1.1), (87, .bool brk), (92, u.2.2.1), (94, .bool was), (1, vi b), (2, .slice adl l.length cpl), (3, ptr b3), (7, slV us.length av), (8, vi h), (9, ouV us2.length oo), (10, vi i), (11, .bool was), (12, vi a)]) [(wz2, S), (wz, []), (wl1, []), (w, [])] (fun y => (y.1, .cells #[] 3 (0, 0)) :: (y.2.1, .cells #[vi a] 3 (0, 0)) :: (b15, .cells #[u.1.1, u.2.1.1, u.2.2.1] 108 (0, 0)) :: slE 108 wyE us2 oo) ?_ (fun hT47 => ?_)
                            · skip
                              rintro ⟨p1, p6, ⟨⟩⟩ ⟨-⟩
                              refine tx_four 4 8 13 15 (by kernel_rfl) ?_ ?_ ?_ ?_
                              · (refine to_e rfl rfl (e_append_big (n := x.ac.length) (vs := x.ac.flatMap inE) (old := []) (junk := []) rfl rfl rfl (by repeat constructor) (by rfl) (by rfl) (Nat.le_refl _) (fun w' hw' => hxr.ac.fr (hw'.fr (w0 := wz) (S := []) MI.m)) (flatE_one inE_one _) (by omega) (by omega)) (.inr ⟨fun _ _ h => h.subl SB.s SB.s, fun _ h => h⟩) (fun r4 hq4 => ?_))
                                exact tx_meetG (hT32 (r4, p6, ()) ⟨hq4, trivial⟩) (by kernel_rfl) (by kernel_rfl) (by repeat (first | exact Sub.nil | refine Sub.cons rfl ?_)) (fun w hw => hw.subl SB.s SB.s)
                              · (refine to_e rfl rfl (e_bslice rfl (by (repeat (exact .nil)); done) rfl rfl) (.inr ⟨fun _ _ h => h.subl SB.s SB.s, fun _ h => h⟩) (fun p8 hq8 => ?_))
                                exact tx_meetG (hT36 (p1, p6, p8, ()) trivial) (by kernel_rfl) (by kernel_rfl) (by repeat (first | exact Sub.nil | refine Sub.cons rfl ?_)) (fun w hw => (HG.mid2 hw).subl SB.s SB.s)
                              · (refine to_e rfl rfl (e_bslice rfl (by (repeat (first | exact .nil | apply PV.one rfl rfl)); done) rfl rfl) (.inr ⟨fun _ _ h => h.subl SB.s SB.s, fun _ h => h⟩) (fun p13 hq13 => ?_))
                                exact tx_meetG (hT37 (p1, p6, p13, ()) trivial) (by kernel_rfl) (by kernel_rfl) (by repeat (first | exact Sub.nil | refine Sub.cons rfl ?_)) (fun w hw => (HG.mid2 hw).subl SB.s SB.s)
                              · (refine to_e rfl rfl (e_bslice rfl (by (repeat (exact .nil)); done) rfl rfl) (.inr ⟨fun _ _ h => h.subl SB.s SB.s, fun _ h => h⟩) (fun p15 hq15 => ?_))
                                exact tx_meetG (hT38 (p1, p6, p15, ()) trivial) (by kernel_rfl) (by kernel_rfl) (by repeat (first | exact Sub.nil | refine Sub.cons rfl ?_)) (fun w hw => (HG.mid2 hw).subl SB.s SB.s)
                            refine tx_cutG (A := (Nat) × (Nat) × Unit) (fun y => True) (n' := 22) (L' := [true, true, true, true, false, true, false, false, true, true, true, false, true, false, false, false, true, true, false, true, false, false, false, false, false, false, false, false, false, false, false, false, false, false]) (fun y => [(76, .slice (some ⟨y.1, 0, none⟩) 0 0), (83, .slice (some ⟨y.2.1, 0, none⟩) 0 0), (75, ouV us2.length oo), (78, u.1.1), (80, vi a), (85, u.2.1.1), (87, .bool brk), (92, u.2.2.1), (94, .bool was), (1, vi b), (2, .slice adl l.length cpl), (3, ptr b3), (7, slV us.length av), (8, vi h), (9, ouV us2.length oo), (10, vi i), (11, .bool was), (12, vi a)]) [(wz2, S), (wz, []), (wl1, []), (w, [])] (fun y => (y.1, .cells #[] 3 (0, 0)) :: (y.2.1, .cells #[] 4 (0, 0)) :: (b15, .cells #[u.1.1, u.2.1.1, u.2.2.1] 108 (0, 0)) :: slE 108 wyE us2 oo) ?_ (fun hT48 => ?_)
                            · skip
                              rintro ⟨p1, p8, ⟨⟩⟩ ⟨-⟩
                              refine tx_four 4 6 13 15 (by kernel_rfl) ?_ ?_ ?_ ?_
                              · (refine to_e rfl rfl (e_append_big (n := x.ac.length) (vs := x.ac.flatMap inE) (old := []) (junk := []) rfl rfl rfl (by repeat constructor) (by rfl) (by rfl) (Nat.le_refl _) (fun w' hw' => hxr.ac.fr (hw'.fr (w0 := wz) (S := []) MI.m)) (flatE_one inE_one _) (by omega) (by omega)) (.inr ⟨fun _ _ h => h.subl SB.s SB.s, fun _ h => h⟩) (fun r4 hq4 => ?_))
                                exact tx_meetG (hT33 (r4, p8, ()) ⟨hq4, trivial⟩) (by kernel_rfl) (by kernel_rfl) (by repeat (first | exact Sub.nil | refine Sub.cons rfl ?_)) (fun w hw => hw.subl SB.s SB.s)
                              · (refine to_e rfl rfl (e_bslice rfl (by (repeat (first | exact .nil | apply PV.one rfl rfl)); done) rfl rfl) (.inr ⟨fun _ _ h => h.subl SB.s SB.s, fun _ h => h⟩) (fun p6 hq6 => ?_))
                                exact tx_meetG (hT36 (p1, p6, p8, ()) trivial) (by kernel_rfl) (by kernel_rfl) (by repeat (first | exact Sub.nil | refine Sub.cons rfl ?_)) (fun w hw => (HG.mid1 hw).subl SB.s SB.s)
                              · (refine to_e rfl rfl (e_bslice rfl (by (repeat (first | exact .nil | apply PV.one rfl rfl)); done) rfl rfl) (.inr ⟨fun _ _ h => h.subl SB.s SB.s, fun _ h => h⟩) (fun p13 hq13 => ?_))
                                exact tx_meetG (hT39 (p1, p8, p13, ()) trivial) (by kernel_rfl) (by kernel_rfl) (by repeat (first | exact Sub.nil | refine Sub.cons rfl ?_)) (fun w hw => (HG.mid2 hw).subl SB.s SB.s)
                              · (refine to_e rfl rfl (e_bslice rfl (by (repeat (exact .nil)); done) rfl rfl) (.inr ⟨fun _ _ h => h.subl SB.s SB.s, fun _ h => h⟩) (fun p15 hq15 => ?_))
                                exact tx_meetG (hT40 (p1, p8, p15, ()) trivial) (by kernel_rfl) (by kernel_rfl) (by repeat (first | exact Sub.nil | refine Sub.cons rfl ?_)) (fun w hw => (HG.mid2 hw).subl SB.s SB.s)
                            refine tx_cutG (A := (Nat) × (Nat) × Unit) (fun y => True) (n' := 22) (L' := [true, true, true, true, false, true, false, false, false, true, true, false, true, true, false, false, true, true, false, true, false, false, false, false, false, false, false, false, false, false, false, false, false, false]) (fun y => [(76, .slice (some ⟨y.1, 0, none⟩) 0 0), (88, .slice (some ⟨y.2.1, 0, none⟩) 1 1), (75, ouV us2.length oo), (78, u.1.1), (80, vi a), (85, u.2.1.1), (87, .bool brk), (92, u.2.2.1), (94, .bool was), (1, vi b), (2, .slice adl l.length cpl), (3, ptr b3), (7, slV us.length av), (8, vi h), (9, ouV us2.length oo), (10, vi i), (11, .bool was), (12, vi a)]) [(wz2, S), (wz, []), (wl1, []), (w, [])] (fun y => (y.1, .cells #[] 3 (0, 0)) :: (y.2.1, .cells #[.bool brk] 4 (0, 0)) :: (b15, .cells #[u.1.1, u.2.1.1, u.2.2.1] 108 (0, 0)) :: slE 108 wyE us2 oo) ?_ (fun hT49 => ?_)
                            · skip
                              rintro ⟨p1, p13, ⟨⟩⟩ ⟨-⟩
                              refine tx_four 4 6 8 15 (by kernel_rfl) ?_ ?_ ?_ ?_
                              · (refine to_e rfl rfl (e_append_big (n := x.ac.length) (vs := x.ac.flatMap inE) (old := []) (junk := []) rfl rfl rfl (by repeat constructor) (by rfl) (by rfl) (Nat.le_refl _) (fun w' hw' => hxr.ac.fr (hw'.fr (w0 := wz) (S := []) MI.m)) (flatE_one inE_one _) (by omega) (by omega)) (.inr ⟨fun _ _ h => h.subl SB.s SB.s, fun _ h => h⟩) (fun r4 hq4 => ?_))
                                exact tx_meetG (hT34 (r4, p13, ()) ⟨hq4, trivial⟩) (by kernel_rfl) (by kernel_rfl) (by repeat (first | exact Sub.nil | refine Sub.cons rfl ?_)) (fun w hw => hw.subl SB.s SB.s)
                              · (refine to_e rfl rfl (e_bslice rfl (by (repeat (first | exact .nil | apply PV.one rfl rfl)); done) rfl rfl) (.inr ⟨fun _ _ h => h.subl SB.s SB.s, fun _ h => h⟩) (fun p6 hq6 => ?_))
                                exact tx_meetG (hT37 (p1, p6, p13, ()) trivial) (by kernel_rfl) (by kernel_rfl) (by repeat (first | exact Sub.nil | refine Sub.cons rfl ?_)) (fun w hw => (HG.mid1 hw).subl SB.s SB.s)
                              · (refine to_e rfl rfl (e_bslice rfl (by (repeat (exact .nil)); done) rfl rfl) (.inr ⟨fun _ _ h => h.subl SB.s SB.s, fun _ h => h⟩) (fun p8 hq8 => ?_))
                                exact tx_meetG (hT39 (p1, p8, p13, ()) trivial) (by kernel_rfl) (by kernel_rfl) (by repeat (first | exact Sub.nil | refine Sub.cons rfl ?_)) (fun w hw => (HG.mid1 hw).subl SB.s SB.s)
                              · (refine to_e rfl rfl (e_bslice rfl (by (repeat (exact .nil)); done) rfl rfl) (.inr ⟨fun _ _ h => h.subl SB.s SB.s, fun _ h => h⟩) (fun p15 hq15 => ?_))
                                exact tx_meetG (hT41 (p1, p13, p15, ()) trivial) (by kernel_rfl) (by kernel_rfl) (by repeat (first | exact Sub.nil | refine Sub.cons rfl ?_)) (fun w hw => (HG.mid2 hw).subl SB.s SB.s)
                            refine tx_cutG (A := (Nat) × (Nat) × Unit) (fun y => True) (n' := 22) (L' := [true, true, true, true, false, true, false, false, false, true, true, false, true, false, false, true, true, true, false, true, false, false, false, false, false, false, false, false, false, false, false, false, false, false]) (fun y => [(76, .slice (some ⟨y.1, 0, none⟩) 0 0), (90, .slice (some ⟨y.2.1, 0, none⟩) 0 0), (75, ouV us2.length oo), (78, u.1.1), (80, vi a), (85, u.2.1.1), (87, .bool brk), (92, u.2.2.1), (94, .bool was), (1, vi b), (2, .slice adl l.length cpl), (3, ptr b3), (7, slV us.length av), (8, vi h), (9, ouV us2.length oo), (10, vi i), (11, .bool was), (12, vi a)]) [(wz2, S), (wz, []), (wl1, []), (w, [])] (fun y => (y.1, .cells #[] 3 (0, 0)) :: (y.2.1, .cells #[] 4 (0, 0)) :: (b15, .cells #[u.1.1, u.2.1.1, u.2.2.1] 108 (0, 0)) :: slE 108 wyE us2 oo) ?_ (fun hT50 => ?_)
                            · skip
                              rintro ⟨p1, p15, ⟨⟩⟩ ⟨-⟩
                              refine tx_four 4 6 8 13 (by kernel_rfl) ?_ ?_ ?_ ?_
                              · (refine to_e rfl rfl (e_append_big (n := x.ac.length) (vs := x.ac.flatMap inE) (old := []) (junk := []) rfl rfl rfl (by repeat constructor) (by rfl) (by rfl) (Nat.le_refl _) (fun w' hw' => hxr.ac.fr (hw'.fr (w0 := wz) (S := []) MI.m)) (flatE_one inE_one _) (by omega) (by omega)) (.inr ⟨fun _ _ h => h.subl SB.s SB.s, fun _ h => h⟩) (fun r4 hq4 => ?_))
                                exact tx_meetG (hT35 (r4, p15, ()) ⟨hq4, trivial⟩) (by kernel_rfl) (by kernel_rfl) (by repeat (first | exact Sub.nil | refine Sub.cons rfl ?_)) (fun w hw => hw.subl SB.s SB.s)
                              · (refine to_e rfl rfl (e_bslice rfl (by (repeat (first | exact .nil | apply PV.one rfl rfl)); done) rfl rfl) (.inr ⟨fun _ _ h => h.subl SB.s SB.s, fun _ h => h⟩) (fun p6 hq6 => ?_))
                                exact tx_meetG (hT38 (p1, p6, p15, ()) trivial) (by kernel_rfl) (by kernel_rfl) (by repeat (first | exact Sub.nil | refine Sub.cons rfl ?_)) (fun w hw => (HG.mid1 hw).subl SB.s SB.s)
                              · (refine to_e rfl rfl (e_bslice rfl (by (repeat (exact .nil)); done) rfl rfl) (.inr ⟨fun _ _ h => h.subl SB.s SB.s, fun _ h => h⟩) (fun p8 hq8 => ?_))
                                exact tx_meetG (hT40 (p1, p8, p15, ()) trivial) (by kernel_rfl) (by kernel_rfl) (by repeat (first | exact Sub.nil | refine Sub.cons rfl ?_)) (fun w hw => (HG.mid1 hw).subl SB.s SB.s)
                              · (refine to_e rfl rfl (e_bslice rfl (by (repeat (first | exact .nil | apply PV.one rfl rfl)); done) rfl rfl) (.inr ⟨fun _ _ h => h.subl SB.s SB.s, fun _ h => h⟩) (fun p13 hq13 => ?_))
                                exact tx_meetG (hT41 (p1, p13, p15, ()) trivial) (by kernel_rfl) (by kernel_rfl) (by repeat (first | exact Sub.nil | refine Sub.cons rfl ?_)) (fun w hw => (HG.mid1 hw).subl SB.s SB.s)
                            refine tx_cutG (A := (Nat) × (Nat) × Unit) (fun y => True) (n' := 22) (L' := [true, false, true, true, false, true, true, false, true, true, true, false, true, false, false, false, true, true, false, true, false, false, false, false, false, false, false, false, false, false, false, false, false, false]) (fun y => [(81, .slice (some ⟨y.1, 0, none⟩) 1 1), (83, .slice (some ⟨y.2.1, 0, none⟩) 0 0), (75, ouV us2.length oo), (78, u.1.1), (80, vi a), (85, u.2.1.1), (87, .bool brk), (92, u.2.2.1), (94, .bool was), (1, vi b), (2, .slice adl l.length cpl), (3, ptr b3), (7, slV us.length av), (8, vi h), (9, ouV us2.length oo), (10, vi i), (11, .bool was), (12, vi a)]) [(wz2, S), (wz, []), (wl1, []), (w, [])] (fun y => (y.1, .cells #[vi a] 3 (0, 0)) :: (y.2.1, .cells #[] 4 (0, 0)) :: (b15, .cells #[u.1.1, u.2.1.1, u.2.2.1] 108 (0, 0)) :: slE 108 wyE us2 oo) ?_ (fun hT51 => ?_)
                            · skip
                              rintro ⟨p6, p8, ⟨⟩⟩ ⟨-⟩
                              refine tx_three 1 13 15 (by kernel_rfl) ?_ ?_ ?_
                              · (refine to_e rfl rfl (e_bslice rfl (by (repeat (exact .nil)); done) rfl rfl) (.inr ⟨fun _ _ h => h.subl SB.s SB.s, fun _ h => h⟩) (fun p1 hq1 => ?_))
                                exact tx_meetG (hT36 (p1, p6, p8, ()) trivial) (by kernel_rfl) (by kernel_rfl) (by repeat (first | exact Sub.nil | refine Sub.cons rfl ?_)) (fun w hw => hw.subl SB.s SB.s)
                              · (refine to_e rfl rfl (e_bslice rfl (by (repeat (first | exact .nil | apply PV.one rfl rfl)); done) rfl rfl) (.inr ⟨fun _ _ h => h.subl SB.s SB.s, fun _ h => h⟩) (fun p13 hq13 => ?_))
                                exact tx_meetG (hT42 (p6, p8, p13, ()) trivial) (by kernel_rfl) (by kernel_rfl) (by repeat (first | exact Sub.nil | refine Sub.cons rfl ?_)) (fun w hw => (HG.mid2 hw).subl SB.s SB.s)
                              · (refine to_e rfl rfl (e_bslice rfl (by (repeat (exact .nil)); done) rfl rfl) (.inr ⟨fun _ _ h => h.subl SB.s SB.s, fun _ h => h⟩) (fun p15 hq15 => ?_))
                                exact tx_meetG (hT43 (p6, p8, p15, ()) trivial) (by kernel_rfl) (by kernel_rfl) (by repeat (first | exact Sub.nil | refine Sub.cons rfl ?_)) (fun w hw => (HG.mid2 hw).subl SB.s SB.s)
                            refine tx_cutG (A := (Nat) × (Nat) × Unit) (fun y => True) (n' := 22) (L' := [true, false, true, true, false, true, true, false, false, true, true, false, true, true, false, false, true, true, false, true, false, false, false, false, false, false, false, false, false, false, false, false, false, false]) (fun y => [(81, .slice (some ⟨y.1, 0, none⟩) 1 1), (88, .slice (some ⟨y.2.1, 0, none⟩) 1 1), (75, ouV us2.length oo), (78, u.1.1), (80, vi a), (85, u.2.1.1), (87, .bool brk), (92, u.2.2.1), (94, .bool was), (1, vi b), (2, .slice adl l.length cpl), (3, ptr b3), (7, slV us.length av), (8, vi h), (9, ouV us2.length oo), (10, vi i), (11, .bool was), (12, vi a)]) [(wz2, S), (wz, []), (wl1, []), (w, [])] (fun y => (y.1, .cells #[vi a] 3 (0, 0)) :: (y.2.1, .cells #[.bool brk] 4 (0, 0)) :: (b15, .cells #[u.1.1, u.2.1.1, u.2.2.1] 108 (0, 0)) :: slE 108 wyE us2 oo) ?_ (fun hT52 => ?_)
                            · skip
                              rintro ⟨p6, p13, ⟨⟩⟩ ⟨-⟩
                              refine tx_three 1 8 15 (by kernel_rfl) ?_ ?_ ?_
                              · (refine to_e rfl rfl (e_bslice rfl (by (repeat (exact .nil)); done) rfl rfl) (.inr ⟨fun _ _ h => h.subl SB.s SB.s, fun _ h => h⟩) (fun p1 hq1 => ?_))
                                exact tx_meetG (hT37 (p1, p6, p13, ()) trivial) (by kernel_rfl) (by kernel_rfl) (by repeat (first | exact Sub.nil | refine Sub.cons rfl ?_)) (fun w hw => hw.subl SB.s SB.s)
                              · (refine to_e rfl rfl (e_bslice rfl (by (repeat (exact .nil)); done) rfl rfl) (.inr ⟨fun _ _ h => h.subl SB.s SB.s, fun _ h => h⟩) (fun p8 hq8 => ?_))
                                exact tx_meetG (hT42 (p6, p8, p13, ()) trivial) (by kernel_rfl) (by kernel_rfl) (by repeat (first | exact Sub.nil | refine Sub.cons rfl ?_)) (fun w hw => (HG.mid1 hw).subl SB.s SB.s)
                              · (refine to_e rfl rfl (e_bslice rfl (by (repeat (exact .nil)); done) rfl rfl) (.inr ⟨fun _ _ h => h.subl SB.s SB.s, fun _ h => h⟩) (fun p15 hq15 => ?_))
                                exact tx_meetG (hT44 (p6, p13, p15, ()) trivial) (by kernel_rfl) (by kernel_rfl) (by repeat (first | exact Sub.nil | refine Sub.cons rfl ?_)) (fun w hw => (HG.mid2 hw).subl SB.s SB.s)
                            refine tx_cutG (A := (Nat) × (Nat) × Unit) (fun y => True) (n' := 22) (L' := [true, false, true, true, false, true, true, false, false, true, true, false, true, false, false, true, true, true, false, true, false, false, false, false, false, false, false, false, false, false, false, false, false, false]) (fun y => [(81, .slice (some ⟨y.1, 0, none⟩) 1 1), (90, .slice (some ⟨y.2.1, 0, none⟩) 0 0), (75, ouV us2.length oo), (78, u.1.1), (80, vi a), (85, u.2.1.1), (87, .bool brk), (92, u.2.2.1), (94, .bool was), (1, vi b), (2, .slice adl l.length cpl), (3, ptr b3), (7, slV us.length av), (8, vi h), (9, ouV us2.length oo), (10, vi i), (11, .bool was), (12, vi a)]) [(wz2, S), (wz, []), (wl1, []), (w, [])] (fun y => (y.1, .cells #[vi a] 3 (0, 0)) :: (y.2.1, .cells #[] 4 (0, 0)) :: (b15, .cells #[u.1.1, u.2.1.1, u.2.2.1] 108 (0, 0)) :: slE 108 wyE us2 oo) ?_ (fun hT53 => ?_)
                            · skip
                              rintro ⟨p6, p15, ⟨⟩⟩ ⟨-⟩
                              refine tx_three 1 8 13 (by kernel_rfl) ?_ ?_ ?_
                              · (refine to_e rfl rfl (e_bslice rfl (by (repeat (exact .nil)); done) rfl rfl) (.inr ⟨fun _ _ h => h.subl SB.s SB.s, fun _ h => h⟩) (fun p1 hq1 => ?_))
                                exact tx_meetG (hT38 (p1, p6, p15, ()) trivial) (by kernel_rfl) (by kernel_rfl) (by repeat (first | exact Sub.nil | refine Sub.cons rfl ?_)) (fun w hw => hw.subl SB.s SB.s)
                              · (refine to_e rfl rfl (e_bslice rfl (by (repeat (exact .nil)); done) rfl rfl) (.inr ⟨fun _ _ h => h.subl SB.s SB.s, fun _ h => h⟩) (fun p8 hq8 => ?_))
                                exact tx_meetG (hT43 (p6, p8, p15, ()) trivial) (by kernel_rfl) (by kernel_rfl) (by repeat (first | exact Sub.nil | refine Sub.cons rfl ?_)) (fun w hw => (HG.mid1 hw).subl SB.s SB.s)
                              · (refine to_e rfl rfl (e_bslice rfl (by (repeat (first | exact .nil | apply PV.one rfl rfl)); done) rfl rfl) (.inr ⟨fun _ _ h => h.subl SB.s SB.s, fun _ h => h⟩) (fun p13 hq13 => ?_))
                                exact tx_meetG (hT44 (p6, p13, p15, ()) trivial) (by kernel_rfl) (by kernel_rfl) (by repeat (first | exact Sub.nil | refine Sub.cons rfl ?_)) (fun w hw => (HG.mid1 hw).subl SB.s SB.s)
                            refine tx_cutG (A := (Nat) × (Nat) × Unit) (fun y => True) (n' := 22) (L' := [true, false, true, true, false, true, false, false, true, true, true, false, true, true, false, false, true, true, false, true, false, false, false, false, false, false, false, false, false, false, false, false, false, false]) (fun y => [(83, .slice (some ⟨y.1, 0, none⟩) 0 0), (88, .slice (some ⟨y.2.1, 0, none⟩) 1 1), (75, ouV us2.length oo), (78, u.1.1), (80, vi a), (85, u.2.1.1), (87, .bool brk), (92, u.2.2.1), (94, .bool was), (1, vi b), (2, .slice adl l.length cpl), (3, ptr b3), (7, slV us.length av), (8, vi h), (9, ouV us2.length oo), (10, vi i), (11, .bool was), (12, vi a)]) [(wz2, S), (wz, []), (wl1, []), (w, [])] (fun y => (y.1, .cells #[] 4 (0, 0)) :: (y.2.1, .cells #[.bool brk] 4 (0, 0)) :: (b15, .cells #[u.1.1, u.2.1.1, u.2.2.1] 108 (0, 0)) :: slE 108 wyE us2 oo) ?_ (fun hT54 => ?_)
                            · skip
                              rintro ⟨p8, p13, ⟨⟩⟩ ⟨-⟩
                              refine tx_three 1 6 15 (by kernel_rfl) ?_ ?_ ?_
                              · (refine to_e rfl rfl (e_bslice rfl (by (repeat (exact .nil)); done) rfl rfl) (.inr ⟨fun _ _ h => h.subl SB.s SB.s, fun _ h => h⟩) (fun p1 hq1 => ?_))
                                exact tx_meetG (hT39 (p1, p8, p13, ()) trivial) (by kernel_rfl) (by kernel_rfl) (by repeat (first | exact Sub.nil | refine Sub.cons rfl ?_)) (fun w hw => hw.subl SB.s SB.s)
                              · (refine to_e rfl rfl (e_bslice rfl (by (repeat (first | exact .nil | apply PV.one rfl rfl)); done) rfl rfl) (.inr ⟨fun _ _ h => h.subl SB.s SB.s, fun _ h => h⟩) (fun p6 hq6 => ?_))
                                exact tx_meetG (hT42 (p6, p8, p13, ()) trivial) (by kernel_rfl) (by kernel_rfl) (by repeat (first | exact Sub.nil | refine Sub.cons rfl ?_)) (fun w hw => hw.subl SB.s SB.s)
                              · (refine to_e rfl rfl (e_bslice rfl (by (repeat (exact .nil)); done) rfl rfl) (.inr ⟨fun _ _ h => h.subl SB.s SB.s, fun _ h => h⟩) (fun p15 hq15 => ?_))
                                exact tx_meetG (hT45 (p8, p13, p15, ()) trivial) (by kernel_rfl) (by kernel_rfl) (by repeat (first | exact Sub.nil | refine Sub.cons rfl ?_)) (fun w hw => (HG.mid2 hw).subl SB.s SB.s)
                            refine tx_cutG (A := (Nat) × (Nat) × Unit) (fun y => True) (n' := 22) (L' := [true, false, true, true, false, true, false, false, true, true, true, false, true, false, false, true, true, true, false, true, false, false, false, false, false, false, false, false, false, false, false, false, false, false]) (fun y => [(83, .slice (some ⟨y.1, 0, none⟩) 0 0), (90, .slice (some ⟨y.2.1, 0, none⟩) 0 0), (75, ouV us2.length oo), (78, u.1.1), (80, vi a), (85, u.2.1.1), (87, .bool brk), (92, u.2.2.1), (94, .bool was), (1, vi b), (2, .slice adl l.length cpl), (3, ptr b3), (7, slV us.length av), (8, vi h), (9, ouV us2.length oo), (10, vi i), (11, .bool was), (12, vi a)]) [(wz2, S), (wz, []), (wl1, []), (w, [])] (fun y => (y.1, .cells #[] 4 (0, 0)) :: (y.2.1, .cells #[] 4 (0, 0)) :: (b15, .cells #[u.1.1, u.2.1.1, u.2.2.1] 108 (0, 0)) :: slE 108 wyE us2 oo) ?_ (fun hT55 => ?_)
                            · skip
                              rintro ⟨p8, p15, ⟨⟩⟩ ⟨-⟩
                              refine tx_three 1 6 13 (by kernel_rfl) ?_ ?_ ?_
                              · (refine to_e rfl rfl (e_bslice rfl (by (repeat (exact .nil)); done) rfl rfl) (.inr ⟨fun _ _ h => h.subl SB.s SB.s, fun _ h => h⟩) (fun p1 hq1 => ?_))
                                exact tx_meetG (hT40 (p1, p8, p15, ()) trivial) (by kernel_rfl) (by kernel_rfl) (by repeat (first | exact Sub.nil | refine Sub.cons rfl ?_)) (fun w hw => hw.subl SB.s SB.s)
                              · (refine to_e rfl rfl (e_bslice rfl (by (repeat (first | exact .nil | apply PV.one rfl rfl)); done) rfl rfl) (.inr ⟨fun _ _ h => h.subl SB.s SB.s, fun _ h => h⟩) (fun p6 hq6 => ?_))
                                exact tx_meetG (hT43 (p6, p8, p15, ()) trivial) (by kernel_rfl) (by kernel_rfl) (by repeat (first | exact Sub.nil | refine Sub.cons rfl ?_)) (fun w hw => hw.subl SB.s SB.s)
                              · (refine to_e rfl rfl (e_bslice rfl (by (repeat (first | exact .nil | apply PV.one rfl rfl)); done) rfl rfl) (.inr ⟨fun _ _ h => h.subl SB.s SB.s, fun _ h => h⟩) (fun p13 hq13 => ?_))
                                exact tx_meetG (hT45 (p8, p13, p15, ()) trivial) (by kernel_rfl) (by kernel_rfl) (by repeat (first | exact Sub.nil | refine Sub.cons rfl ?_)) (fun w hw => (HG.mid1 hw).subl SB.s SB.s)
                            refine tx_cutG (A := (Nat) × (Nat) × Unit) (fun y => True) (n' := 22) (L' := [true, false, true, true, false, true, false, false, false, true, true, false, true, true, false, true, true, true, false, true, false, false, false, false, false, false, false, false, false, false, false, false, false, false]) (fun y => [(88, .slice (some ⟨y.1, 0, none⟩) 1 1), (90, .slice (some ⟨y.2.1, 0, none⟩) 0 0), (75, ouV us2.length oo), (78, u.1.1), (80, vi a), (85, u.2.1.1), (87, .bool brk), (92, u.2.2.1), (94, .bool was), (1, vi b), (2, .slice adl l.length cpl), (3, ptr b3), (7, slV us.length av), (8, vi h), (9, ouV us2.length oo), (10, vi i), (11, .bool was), (12, vi a)]) [(wz2, S), (wz, []), (wl1, []), (w, [])] (fun y => (y.1, .cells #[.bool brk] 4 (0, 0)) :: (y.2.1, .cells #[] 4 (0, 0)) :: (b15, .cells #[u.1.1, u.2.1.1, u.2.2.1] 108 (0, 0)) :: slE 108 wyE us2 oo) ?_ (fun hT56 => ?_)
                            · skip
                              rintro ⟨p13, p15, ⟨⟩⟩ ⟨-⟩
                              refine tx_three 1 6 8 (by kernel_rfl) ?_ ?_ ?_
                              · (refine to_e rfl rfl (e_bslice rfl (by (repeat (exact .nil)); done) rfl rfl) (.inr ⟨fun _ _ h => h.subl SB.s SB.s, fun _ h => h⟩) (fun p1 hq1 => ?_))
                                exact tx_meetG (hT41 (p1, p13, p15, ()) trivial) (by kernel_rfl) (by kernel_rfl) (by repeat (first | exact Sub.nil | refine Sub.cons rfl ?_)) (fun w hw => hw.subl SB.s SB.s)
                              · (refine to_e rfl rfl (e_bslice rfl (by (repeat (first | exact .nil | apply PV.one rfl rfl)); done) rfl rfl) (.inr ⟨fun _ _ h => h.subl SB.s SB.s, fun _ h => h⟩) (fun p6 hq6 => ?_))
                                exact tx_meetG (hT44 (p6, p13, p15, ()) trivial) (by kernel_rfl) (by kernel_rfl) (by repeat (first | exact Sub.nil | refine Sub.cons rfl ?_)) (fun w hw => hw.subl SB.s SB.s)
                              · (refine to_e rfl rfl (e_bslice rfl (by (repeat (exact .nil)); done) rfl rfl) (.inr ⟨fun _ _ h => h.subl SB.s SB.s, fun _ h => h⟩) (fun p8 hq8 => ?_))
                                exact tx_meetG (hT45 (p8, p13, p15, ()) trivial) (by kernel_rfl) (by kernel_rfl) (by repeat (first | exact Sub.nil | refine Sub.cons rfl ?_)) (fun w hw => hw.subl SB.s SB.s)
                            refine tx_cutG (A := (Nat) × Unit) (fun y => True) (n' := 23) (L' := [true, true, true, true, false, true, false, false, false, true, true, false, true, false, false, false, true, true, false, true, false, false, false, false, false, false, false, false, false, false, false, false, false, false]) (fun y => [(76, .slice (some ⟨y.1, 0, none⟩) 0 0), (75, ouV us2.length oo), (78, u.1.1), (80, vi a), (85, u.2.1.1), (87, .bool brk), (92, u.2.2.1), (94, .bool was), (1, vi b), (2, .slice adl l.length cpl), (3, ptr b3), (7, slV us.length av), (8, vi h), (9, ouV us2.length oo), (10, vi i), (11, .bool was), (12, vi a)]) [(wz2, S), (wz, []), (wl1, []), (w, [])] (fun y => (y.1, .cells #[] 3 (0, 0)) :: (b15, .cells #[u.1.1, u.2.1.1, u.2.2.1] 108 (0, 0)) :: slE 108 wyE us2 oo) ?_ (fun hT57 => ?_)
                            · skip
                              rintro ⟨p1, ⟨⟩⟩ ⟨-⟩
                              refine tx_five 4 6 8 13 15 (by kernel_rfl) ?_ ?_ ?_ ?_ ?_
                              · (refine to_e rfl rfl (e_append_big (n := x.ac.length) (vs := x.ac.flatMap inE) (old := []) (junk := []) rfl rfl rfl (by repeat constructor) (by rfl) (by rfl) (Nat.le_refl _) (fun w' hw' => hxr.ac.fr (hw'.fr (w0 := wz) (S := []) MI.m)) (flatE_one inE_one _) (by omega) (by omega)) (.inr ⟨fun _ _ h => h.subl SB.s SB.s, fun _ h => h⟩) (fun r4 hq4 => ?_))
                                exact tx_meetG (hT46 (r4, ()) ⟨hq4, trivial⟩) (by kernel_rfl) (by kernel_rfl) (by repeat (first | exact Sub.nil | refine Sub.cons rfl ?_)) (fun w hw => hw.subl SB.s SB.s)
                              · (refine to_e rfl rfl (e_bslice rfl (by (repeat (first | exact .nil | apply PV.one rfl rfl)); done) rfl rfl) (.inr ⟨fun _ _ h => h.subl SB.s SB.s, fun _ h => h⟩) (fun p6 hq6 => ?_))
                                exact tx_meetG (hT47 (p1, p6, ()) trivial) (by kernel_rfl) (by kernel_rfl) (by repeat (first | exact Sub.nil | refine Sub.cons rfl ?_)) (fun w hw => (HG.mid1 hw).subl SB.s SB.s)
                              · (refine to_e rfl rfl (e_bslice rfl (by (repeat (exact .nil)); done) rfl rfl) (.inr ⟨fun _ _ h => h.subl SB.s SB.s, fun _ h => h⟩) (fun p8 hq8 => ?_))
                                exact tx_meetG (hT48 (p1, p8, ()) trivial) (by kernel_rfl) (by kernel_rfl) (by repeat (first | exact Sub.nil | refine Sub.cons rfl ?_)) (fun w hw => (HG.mid1 hw).subl SB.s SB.s)
                              · (refine to_e rfl rfl (e_bslice rfl (by (repeat (first | exact .nil | apply PV.one rfl rfl)); done) rfl rfl) (.inr ⟨fun _ _ h => h.subl SB.s SB.s, fun _ h => h⟩) (fun p13 hq13 => ?_))
                                exact tx_meetG (hT49 (p1, p13, ()) trivial) (by kernel_rfl) (by kernel_rfl) (by repeat (first | exact Sub.nil | refine Sub.cons rfl ?_)) (fun w hw => (HG.mid1 hw).subl SB.s SB.s)
                              · (refine to_e rfl rfl (e_bslice rfl (by (repeat (exact .nil)); done) rfl rfl) (.inr ⟨fun _ _ h => h.subl SB.s SB.s, fun _ h => h⟩) (fun p15 hq15 => ?_))
                                exact tx_meetG (hT50 (p1, p15, ()) trivial) (by kernel_rfl) (by kernel_rfl) (by repeat (first | exact Sub.nil | refine Sub.cons rfl ?_)) (fun w hw => (HG.mid1 hw).subl SB.s SB.s)
                            refine tx_cutG (A := (Nat) × Unit) (fun y => True) (n' := 23) (L' := [true, false, true, true, false, true, true, false, false, true, true, false, true, false, false, false, true, true, false, true, false, false, false, false, false, false, false, false, false, false, false, false, false, false]) (fun y => [(81, .slice (some ⟨y.1, 0, none⟩) 1 1), (75, ouV us2.length oo), (78, u.1.1), (80, vi a), (85, u.2.1.1), (87, .bool brk), (92, u.2.2.1), (94, .bool was), (1, vi b), (2, .slice adl l.length cpl), (3, ptr b3), (7, slV us.length av), (8, vi h), (9, ouV us2.length oo), (10, vi i), (11, .bool was), (12, vi a)]) [(wz2, S), (wz, []), (wl1, []), (w, [])] (fun y => (y.1, .cells #[vi a] 3 (0, 0)) :: (b15, .cells #[u.1.1, u.2.1.1, u.2.2.1] 108 (0, 0)) :: slE 108 wyE us2 oo) ?_ (fun hT58 => ?_)
                            · skip
                              rintro ⟨p6, ⟨⟩⟩ ⟨-⟩
                              refine tx_four 1 8 13 15 (by kernel_rfl) ?_ ?_ ?_ ?_
                              · (refine to_e rfl rfl (e_bslice rfl (by (repeat (exact .nil)); done) rfl rfl) (.inr ⟨fun _ _ h => h.subl SB.s SB.s, fun _ h => h⟩) (fun p1 hq1 => ?_))
                                exact tx_meetG (hT47 (p1, p6, ()) trivial) (by kernel_rfl) (by kernel_rfl) (by repeat (first | exact Sub.nil | refine Sub.cons rfl ?_)) (fun w hw => hw.subl SB.s SB.s)
                              · (refine to_e rfl rfl (e_bslice rfl (by (repeat (exact .nil)); done) rfl rfl) (.inr ⟨fun _ _ h => h.subl SB.s SB.s, fun _ h => h⟩) (fun p8 hq8 => ?_))
                                exact tx_meetG (hT51 (p6, p8, ()) trivial) (by kernel_rfl) (by kernel_rfl) (by repeat (first | exact Sub.nil | refine Sub.cons rfl ?_)) (fun w hw => (HG.mid1 hw).subl SB.s SB.s)
                              · (refine to_e rfl rfl (e_bslice rfl (by (repeat (first | exact .nil | apply PV.one rfl rfl)); done) rfl rfl) (.inr ⟨fun _ _ h => h.subl SB.s SB.s, fun _ h => h⟩) (fun p13 hq13 => ?_))
                                exact tx_meetG (hT52 (p6, p13, ()) trivial) (by kernel_rfl) (by kernel_rfl) (by repeat (first | exact Sub.nil | refine Sub.cons rfl ?_)) (fun w hw => (HG.mid1 hw).subl SB.s SB.s)
                              · (refine to_e rfl rfl (e_bslice rfl (by (repeat (exact .nil)); done) rfl rfl) (.inr ⟨fun _ _ h => h.subl SB.s SB.s, fun _ h => h⟩) (fun p15 hq15 => ?_))
                                exact tx_meetG (hT53 (p6, p15, ()) trivial) (by kernel_rfl) (by kernel_rfl) (by repeat (first | exact Sub.nil | refine Sub.cons rfl ?_)) (fun w hw => (HG.mid1 hw).subl SB.s SB.s)
                            refine tx_cutG (A := (Nat) × Unit) (fun y => True) (n' := 23) (L' := [true, false, true, true, false, true, false, false, true, true, true, false, true, false, false, false, true, true, false, true, false, false, false, false, false, false, false, false, false, false, false, false, false, false]) (fun y => [(83, .slice (some ⟨y.1, 0, none⟩) 0 0), (75, ouV us2.length oo), (78, u.1.1), (80, vi a), (85, u.2.1.1), (87, .bool brk), (92, u.2.2.1), (94, .bool was), (1, vi b), (2, .slice adl l.length cpl), (3, ptr b3), (7, slV us.length av), (8, vi h), (9, ouV us2.length oo), (10, vi i), (11, .bool was), (12, vi a)]) [(wz2, S), (wz, []), (wl1, []), (w, [])] (fun y => (y.1, .cells #[] 4 (0, 0)) :: (b15, .cells #[u.1.1, u.2.1.1, u.2.2.1] 108 (0, 0)) :: slE 108 wyE us2 oo) ?_ (fun hT59 => ?_)
                            · skip
                              rintro ⟨p8, ⟨⟩⟩ ⟨-⟩
                              refine tx_four 1 6 13 15 (by kernel_rfl) ?_ ?_ ?_ ?_
                              · (refine to_e rfl rfl (e_bslice rfl (by (repeat (exact .nil)); done) rfl rfl) (.inr ⟨fun _ _ h => h.subl SB.s SB.s, fun _ h => h⟩) (fun p1 hq1 => ?_))
                                exact tx_meetG (hT48 (p1, p8, ()) trivial) (by kernel_rfl) (by kernel_rfl) (by repeat (first | exact Sub.nil | refine Sub.cons rfl ?_)) (fun w hw => hw.subl SB.s SB.s)
                              · (refine to_e rfl rfl (e_bslice rfl (by (repeat (first | exact .nil | apply PV.one rfl rfl)); done) rfl rfl) (.inr ⟨fun _ _ h => h.subl SB.s SB.s, fun _ h => h⟩) (fun p6 hq6 => ?_))
                                exact tx_meetG (hT51 (p6, p8, ()) trivial) (by kernel_rfl) (by kernel_rfl) (by repeat (first | exact Sub.nil | refine Sub.cons rfl ?_)) (fun w hw => hw.subl SB.s SB.s)
                              · (refine to_e rfl rfl (e_bslice rfl (by (repeat (first | exact .nil | apply PV.one rfl rfl)); done) rfl rfl) (.inr ⟨fun _ _ h => h.subl SB.s SB.s, fun _ h => h⟩) (fun p13 hq13 => ?_))
                                exact tx_meetG (hT54 (p8, p13, ()) trivial) (by kernel_rfl) (by kernel_rfl) (by repeat (first | exact Sub.nil | refine Sub.cons rfl ?_)) (fun w hw => (HG.mid1 hw).subl SB.s SB.s)
                              · (refine to_e rfl rfl (e_bslice rfl (by (repeat (exact .nil)); done) rfl rfl) (.inr ⟨fun _ _ h => h.subl SB.s SB.s, fun _ h => h⟩) (fun p15 hq15 => ?_))
                                exact tx_meetG (hT55 (p8, p15, ()) trivial) (by kernel_rfl) (by kernel_rfl) (by repeat (first | exact Sub.nil | refine Sub.cons rfl ?_)) (fun w hw => (HG.mid1 hw).subl SB.s SB.s)
                            refine tx_cutG (A := (Nat) × Unit) (fun y => True) (n' := 23) (L' := [true, false, true, true, false, true, false, false, false, true, true, false, true, true, false, false, true, true, false, true, false, false, false, false, false, false, false, false, false, false, false, false, false, false]) (fun y => [(88, .slice (some ⟨y.1, 0, none⟩) 1 1), (75, ouV us2.length oo), (78, u.1.1), (80, vi a), (85, u.2.1.1), (87, .bool brk), (92, u.2.2.1), (94, .bool was), (1, vi b), (2, .slice adl l.length cpl), (3, ptr b3), (7, slV us.length av), (8, vi h), (9, ouV us2.length oo), (10, vi i), (11, .bool was), (12, vi a)]) [(wz2, S), (wz, []), (wl1, []), (w, [])] (fun y => (y.1, .cells #[.bool brk] 4 (0, 0)) :: (b15, .cells #[u.1.1, u.2.1.1, u.2.2.1] 108 (0, 0)) :: slE 108 wyE us2 oo) ?_ (fun hT60 => ?_)
                            · skip
                              rintro ⟨p13, ⟨⟩⟩ ⟨-⟩
                              refine tx_four 1 6 8 15 (by kernel_rfl) ?_ ?_ ?_ ?_
                              · (refine to_e rfl rfl (e_bslice rfl (by (repeat (exact .nil)); done) rfl rfl) (.inr ⟨fun _ _ h => h.subl SB.s SB.s, fun _ h => h⟩) (fun p1 hq1 => ?_))
                                exact tx_meetG (hT49 (p1, p13, ()) trivial) (by kernel_rfl) (by kernel_rfl) (by repeat (first | exact Sub.nil | refine Sub.cons rfl ?_)) (fun w hw => hw.subl SB.s SB.s)
                              · (refine to_e rfl rfl (e_bslice rfl (by (repeat (first | exact .nil | apply PV.one rfl rfl)); done) rfl rfl) (.inr ⟨fun _ _ h => h.subl SB.s SB.s, fun _ h => h⟩) (fun p6 hq6 => ?_))
                                exact tx_meetG (hT52 (p6, p13, ()) trivial) (by kernel_rfl) (by kernel_rfl) (by repeat (first | exact Sub.nil | refine Sub.cons rfl ?_)) (fun w hw => hw.subl SB.s SB.s)
                              · (refine to_e rfl rfl (e_bslice rfl (by (repeat (exact .nil)); done) rfl rfl) (.inr ⟨fun _ _ h => h.subl SB.s SB.s, fun _ h => h⟩) (fun p8 hq8 => ?_))
                                exact tx_meetG (hT54 (p8, p13, ()) trivial) (by kernel_rfl) (by kernel_rfl) (by repeat (first | exact Sub.nil | refine Sub.cons rfl ?_)) (fun w hw => hw.subl SB.s SB.s)
                              · (refine to_e rfl rfl (e_bslice rfl (by (repeat (exact .nil)); done) rfl rfl) (.inr ⟨fun _ _ h => h.subl SB.s SB.s, fun _ h => h⟩) (fun p15 hq15 => ?_))
                                exact tx_meetG (hT56 (p13, p15, ()) trivial) (by kernel_rfl) (by kernel_rfl) (by repeat (first | exact Sub.nil | refine Sub.cons rfl ?_)) (fun w hw => (HG.mid1 hw).subl SB.s SB.s)
                            refine tx_cutG (A := (Nat) × Unit) (fun y => True) (n' := 23) (L' := [true, false, true, true, false, true, false, false, false, true, true, false, true, false, false, true, true, true, false, true, false, false, false, false, false, false, false, false, false, false, false, false, false, false]) (fun y => [(90, .slice (some ⟨y.1, 0, none⟩) 0 0), (75, ouV us2.length oo), (78, u.1.1), (80, vi a), (85, u.2.1.1), (87, .bool brk), (92, u.2.2.1), (94, .bool was), (1, vi b), (2, .slice adl l.length cpl), (3, ptr b3), (7, slV us.length av), (8, vi h), (9, ouV us2.length oo), (10, vi i), (11, .bool was), (12, vi a)]) [(wz2, S), (wz, []), (wl1, []), (w, [])] (fun y => (y.1, .cells #[] 4 (0, 0)) :: (b15, .cells #[u.1.1, u.2.1.1, u.2.2.1] 108 (0, 0)) :: slE 108 wyE us2 oo) ?_ (fun hT61 => ?_)
                            · skip
                              rintro ⟨p15, ⟨⟩⟩ ⟨-⟩
                              refine tx_four 1 6 8 13 (by kernel_rfl) ?_ ?_ ?_ ?_
                              · (refine to_e rfl rfl (e_bslice rfl (by (repeat (exact .nil)); done) rfl rfl) (.inr ⟨fun _ _ h => h.subl SB.s SB.s, fun _ h => h⟩) (fun p1 hq1 => ?_))
                                exact tx_meetG (hT50 (p1, p15, ()) trivial) (by kernel_rfl) (by kernel_rfl) (by repeat (first | exact Sub.nil | refine Sub.cons rfl ?_)) (fun w hw => hw.subl SB.s SB.s)
                              · (refine to_e rfl rfl (e_bslice rfl (by (repeat (first | exact .nil | apply PV.one rfl rfl)); done) rfl rfl) (.inr ⟨fun _ _ h => h.subl SB.s SB.s, fun _ h => h⟩) (fun p6 hq6 => ?_))
                                exact tx_meetG (hT53 (p6, p15, ()) trivial) (by kernel_rfl) (by kernel_rfl) (by repeat (first | exact Sub.nil | refine Sub.cons rfl ?_)) (fun w hw => hw.subl SB.s SB.s)
                              · (refine to_e rfl rfl (e_bslice rfl (by (repeat (exact .nil)); done) rfl rfl) (.inr ⟨fun _ _ h => h.subl SB.s SB.s, fun _ h => h⟩) (fun p8 hq8 => ?_))
                                exact tx_meetG (hT55 (p8, p15, ()) trivial) (by kernel_rfl) (by kernel_rfl) (by repeat (first | exact Sub.nil | refine Sub.cons rfl ?_)) (fun w hw => hw.subl SB.s SB.s)
                              · (refine to_e rfl rfl (e_bslice rfl (by (repeat (first | exact .nil | apply PV.one rfl rfl)); done) rfl rfl) (.inr ⟨fun _ _ h => h.subl SB.s SB.s, fun _ h => h⟩) (fun p13 hq13 => ?_))
                                exact tx_meetG (hT56 (p13, p15, ()) trivial) (by kernel_rfl) (by kernel_rfl) (by repeat (first | exact Sub.nil | refine Sub.cons rfl ?_)) (fun w hw => hw.subl SB.s SB.s)
                            refine tx_five 1 6 8 13 15 (by kernel_rfl) ?_ ?_ ?_ ?_ ?_
                            · (refine to_e rfl rfl (e_bslice rfl (by (repeat (exact .nil)); done) rfl rfl) (.inr ⟨fun _ _ h => h.subl SB.s SB.s, fun _ h => h⟩) (fun p1 hq1 => ?_))
                              exact tx_meetG (hT57 (p1, ()) trivial) (by kernel_rfl) (by kernel_rfl) (by repeat (first | exact Sub.nil | refine Sub.cons rfl ?_)) (fun w hw => hw.subl SB.s SB.s)
                            · (refine to_e rfl rfl (e_bslice rfl (by (repeat (first | exact .nil | apply PV.one rfl rfl)); done) rfl rfl) (.inr ⟨fun _ _ h => h.subl SB.s SB.s, fun _ h => h⟩) (fun p6 hq6 => ?_))
                              exact tx_meetG (hT58 (p6, ()) trivial) (by kernel_rfl) (by kernel_rfl) (by repeat (first | exact Sub.nil | refine Sub.cons rfl ?_)) (fun w hw => hw.subl SB.s SB.s)
                            · (refine to_e rfl rfl (e_bslice rfl (by (repeat (exact .nil)); done) rfl rfl) (.inr ⟨fun _ _ h => h.subl SB.s SB.s, fun _ h => h⟩) (fun p8 hq8 => ?_))
                              exact tx_meetG (hT59 (p8, ()) trivial) (by kernel_rfl) (by kernel_rfl) (by repeat (first | exact Sub.nil | refine Sub.cons rfl ?_)) (fun w hw => hw.subl SB.s SB.s)
                            · (refine to_e rfl rfl (e_bslice rfl (by (repeat (first | exact .nil | apply PV.one rfl rfl)); done) rfl rfl) (.inr ⟨fun _ _ h => h.subl SB.s SB.s, fun _ h => h⟩) (fun p13 hq13 => ?_))
                              exact tx_meetG (hT60 (p13, ()) trivial) (by kernel_rfl) (by kernel_rfl) (by repeat (first | exact Sub.nil | refine Sub.cons rfl ?_)) (fun w hw => hw.subl SB.s SB.s)
                            · (refine to_e rfl rfl (e_bslice rfl (by (repeat (exact .nil)); done) rfl rfl) (.inr ⟨fun _ _ h => h.subl SB.s SB.s, fun _ h => h⟩) (fun p15 hq15 => ?_))
                              exact tx_meetG (hT61 (p15, ()) trivial) (by kernel_rfl) (by kernel_rfl) (by repeat (first | exact Sub.nil | refine Sub.cons rfl ?_)) (fun w hw => hw.subl SB.s SB.s))))
                          all_goals rintro ⟨r7, r14, r18, ⟨⟩⟩ ⟨hq18, -⟩
                          all_goals refine tx_norm (L' := [true, true, true, true, true, true, true, true, true, true, true, true, true, true, true, true, true, true, true, true, false, false, false, false, false, false, false, false, false, false, false, false, false, false]) (by kernel_rfl) ?_; refine tx_p 20 rfl (by kernel_rfl) (y_move rfl) rfl (fun _ _ _ h => h) (fun _ h => h.subl SB.s SB.s) ?_; ((refine tx_gs 95 rfl (fun hc => ?_) (fun hc => ?_) <;> (try simp only [qn1, qn2, qn3, qn4, qn5, qn6, qn7, qn8] at hc) <;> (first | refine tx_sk 21 rfl (by kernel_rfl) rfl rfl rfl rfl (fun _ _ _ h => h) (fun _ h => h.subl SB.s SB.s) ?_ | refine tx_pg 21 rfl (by kernel_rfl) rfl rfl (y_move rfl) rfl (fun _ _ _ h => h) (fun _ h => h.subl SB.s SB.s) ?_)))
                          all_goals (first | refine tx_sk 22 rfl (by kernel_rfl) rfl rfl rfl rfl (fun _ _ _ h => h) (fun _ h => h.subl SB.s SB.s) ?_ | refine tx_pg 22 rfl (by kernel_rfl) rfl rfl (y_eql rfl rfl) rfl (fun _ _ _ h => h) (fun _ h => h.subl SB.s SB.s) ?_); (first | refine tx_p 23 rfl (by kernel_rfl) (y_pick_t rfl rfl) rfl (fun _ _ _ h => h) (fun _ h => h.subl SB.s SB.s) ?_ | refine tx_p 23 rfl (by kernel_rfl) (y_pick_f rfl rfl) rfl (fun _ _ _ h => h) (fun _ h => h.subl SB.s SB.s) ?_); refine tx_p 24 rfl (by kernel_rfl) (y_move rfl) rfl (fun _ _ _ h => h) (fun _ h => h.subl SB.s SB.s) ?_; ((first | refine tx_sk 25 rfl (by kernel_rfl) rfl rfl rfl rfl (fun _ _ _ h => h) (fun _ h => h.subl SB.s SB.s) ?_ | (refine tx_gs 99 rfl (fun hc => ?_) (fun hc => ?_) <;> (try simp only [qn1, qn2, qn3, qn4, qn5, qn6, qn7, qn8] at hc) <;> (first | refine tx_sk 25 rfl (by kernel_rfl) rfl rfl rfl rfl (fun _ _ _ h => h) (fun _ h => h.subl SB.s SB.s) ?_ | refine tx_pg 25 rfl (by kernel_rfl) rfl rfl (y_move rfl) rfl (fun _ _ _ h => h) (fun _ h => h.subl SB.s SB.s) ?_))))
                          all_goals refine tx_norm (L' := [true, true, true, true, true, true, true, true, true, true, true, true, true, true, true, true, true, true, true, true, true, true, true, true, true, true, false, false, false, false, false, false, false, false]) (by kernel_rfl) ?_; (first | refine tx_sk 26 rfl (by kernel_rfl) rfl rfl rfl rfl (fun _ _ _ h => h) (fun _ h => h.subl SB.s SB.s) ?_ | refine tx_pg 26 rfl (by kernel_rfl) rfl rfl (y_eql rfl rfl) rfl (fun _ _ _ h => h) (fun _ h => h.subl SB.s SB.s) ?_); (first | refine tx_p 27 rfl (by kernel_rfl) (y_pick_t rfl rfl) rfl (fun _ _ _ h => h) (fun _ h => h.subl SB.s SB.s) ?_ | refine tx_p 27 rfl (by kernel_rfl) (y_pick_f rfl rfl) rfl (fun _ _ _ h => h) (fun _ h => h.subl SB.s SB.s) ?_); refine tx_head (.bool (was || opA (a : Int))) (congrArg Value.bool ?_) ?_
                          all_goals try (first
                           | (have h1 : was = true := by assumption
                              rw [h1]; rfl)
                           | (have h1 : was = false := by assumption
                              rw [h1, opA_decW, Bool.false_or]
                              exact (decide_eq_true (show (a : Int) = 1 ∨ (a : Int) = 3 by omega)).symm)
                           | (have h1 : was = false := by assumption
                              rw [h1, opA_decW, Bool.false_or]
                              exact decide_eq_decide.2 ⟨fun h => .inr h, fun h => h.resolve_left (by omega)⟩))
                          all_goals ((refine tx_single 28 (by kernel_rfl) (to_e rfl rfl (e_bslice rfl (by (repeat (first | exact .nil | apply PV.one rfl rfl)); done) rfl rfl) (.inr ⟨fun _ _ h => h.subl SB.s SB.s, fun _ h => h⟩) (fun b28 _ => ?_))))
                          all_goals ((refine tx_single 29 (by kernel_rfl) (to_e rfl rfl (e_append_big (n := 1) (vs := [was || opA (a : Int)].flatMap boE) (old := [] ++ x.op.flatMap boE) (junk := r18.2.2) rfl rfl rfl (by repeat constructor) (by rw [List.nil_append, flatS_len boE_len]; omega) hq18.2 hq18.1 (fun w' hw' => RdS.own0 (xs := [was || opA (a : Int)]) boE_len hw' (b := b28) (by repeat constructor)) (flatE_one boE_one _) (by omega) (by omega)) (.inr ⟨fun _ _ h => h.subl SB.s SB.s, fun _ h => h⟩) (fun r29 hq29 => ?_))))
                          all_goals refine tx_p 30 rfl (by kernel_rfl) (y_build_g (by repeat constructor)) rfl (fun _ _ _ h => h) (fun _ h => h.subl SB.s SB.s) ?_; refine tx_single 31 (by kernel_rfl) (to_e rfl rfl (e_bsliceG rfl (.agg rfl rfl .nil) rfl rfl) (.inr ⟨fun _ _ h => h.subl SB.s SB.s, fun _ h => h⟩) (fun b31 _ => ?_)); refine tx_norm (L' := [true, true, true, true, true, true, true, true, true, true, true, true, true, true, true, true, true, true, true, true, true, true, true, true, true, true, true, true, true, true, true, true, false, false]) (by kernel_rfl) ?_; ((refine tx_single 32 (by kernel_rfl) (to_e rfl rfl (e_appendE (enc := wyE) (xs := us2) (ys := [((⟨.slice (some ⟨r7.1, 0, none⟩) (0 + x.ac.length + [(a : Int)].length) r7.2.1, rfl⟩, ⟨.slice (some ⟨r14.1, 0, none⟩) (0 + x.br.length + [brk].length) r14.2.1, rfl⟩, ⟨.slice (some ⟨r29.1, 0, none⟩) (0 + x.op.length + 1) r29.2.1, rfl⟩) : Wv)]) wyE_len wyE_one rfl rfl rfl hok2 (fun _ => by repeat constructor) (fun w' hw' => RdS.own0 wyE_len hw' (b := b31) (by repeat constructor)) (by simp only [List.length_cons, List.length_nil]; omega) rfl) (.inr ⟨fun _ _ h => h.subl SB.s SB.s, fun _ h => h⟩) (fun oo' hok' => ?_))))
                          all_goals refine tx_p 33 rfl (by kernel_rfl) (y_assign rfl) rfl (fun _ _ _ h => h) (fun _ h => h.subl SB.s SB.s) ?_; refine tx_done (by kernel_rfl) ?_; ((refine hK17 ?_; try (clear hK17; clear K17)))
                          all_goals refine tc_region ?_; refine tl_q (y_move rfl) rfl ?_; refine tl_q (y_add rfl rfl (by omega)) rfl ?_; refine tl_q (y_assign rfl) rfl ?_; refine tl_nil ?_
                          all_goals (
                           first
                           | (have hn : wyN s b l h x (a + 1) = wyN s b l h x a := by rw [wyN, wyA, if_neg (fun g => by rw [← hwas] at g; simp_all), List.append_nil]
                              subst hS
                              exact tk_round (a + 1, us2, oo, wz2) ⟨⟨by dsimp only; omega, hok2⟩, by dsimp only; rw [hn]; exact hk2, hno2⟩ (by dsimp only; omega) (.cons rfl (.cons rfl (.cons rfl (.cons rfl (.cons rfl (.cons rfl (.cons rfl (.cons rfl (.cons rfl .nil))))))))) (fun _ h => h.subl SB.s SB.s))
                           | (have hn : wyN s b l h x (a + 1) = wyN s b l h x a ++ [wyS x h a] := by rw [wyN, wyA, if_pos ⟨by rw [← hwas]; assumption, by rw [← hwas]; assumption⟩]
                              refine tk_lay (slE 108 wyE (us2 ++ [((⟨.slice (some ⟨r7.1, 0, none⟩) (0 + x.ac.length + [(a : Int)].length) r7.2.1, rfl⟩, ⟨.slice (some ⟨r14.1, 0, none⟩) (0 + x.br.length + [brk].length) r14.2.1, rfl⟩, ⟨.slice (some ⟨r29.1, 0, none⟩) (0 + x.op.length + 1) r29.2.1, rfl⟩) : Wv)]) oo') SB.s fun wl hl => ?_
                              have hfz : Fr S wz2 wl := hl.fr (w0 := wz2) (S := S) MI.m
                              have hoz := hl.ownsK (Hk := slE 108 wyE (us2 ++ [((⟨.slice (some ⟨r7.1, 0, none⟩) (0 + x.ac.length + [(a : Int)].length) r7.2.1, rfl⟩, ⟨.slice (some ⟨r14.1, 0, none⟩) (0 + x.br.length + [brk].length) r14.2.1, rfl⟩, ⟨.slice (some ⟨r29.1, 0, none⟩) (0 + x.op.length + 1) r29.2.1, rfl⟩) : Wv)]) oo') SB.s (w0 := wz2) (S := S) MI.m
                              have hw3 : WyK wl ((slE 108 wyE (us2 ++ [((⟨.slice (some ⟨r7.1, 0, none⟩) (0 + x.ac.length + [(a : Int)].length) r7.2.1, rfl⟩, ⟨.slice (some ⟨r14.1, 0, none⟩) (0 + x.br.length + [brk].length) r14.2.1, rfl⟩, ⟨.slice (some ⟨r29.1, 0, none⟩) (0 + x.op.length + 1) r29.2.1, rfl⟩) : Wv)]) oo').map Prod.fst) ((⟨.slice (some ⟨r7.1, 0, none⟩) (0 + x.ac.length + [(a : Int)].length) r7.2.1, rfl⟩, ⟨.slice (some ⟨r14.1, 0, none⟩) (0 + x.br.length + [brk].length) r14.2.1, rfl⟩, ⟨.slice (some ⟨r29.1, 0, none⟩) (0 + x.op.length + 1) r29.2.1, rfl⟩) : Wv) (wyS x h a) := by
                                refine ⟨OKS.app inE_len (junk := r7.2.2) (e := 3) hl (by repeat constructor) (by simp) (HBef.not (by repeat constructor) hl.nodup), ?_, ?_⟩
                                · show OKS 1 boE wl _ _ (x.br ++ [acY (wasW x h) a])
                                  rw [← hwas, ← hbrk]
                                  exact OKS.app boE_len (junk := r14.2.2) (e := 4) hl (by repeat constructor) (by simp) (HBef.not (by repeat constructor) hl.nodup)
                                · show OKS 1 boE wl _ _ (x.op ++ [wasW x h || opA a])
                                  rw [← hwas]
                                  exact OKS.app boE_len (junk := r29.2.2) (e := 4) hl (by repeat constructor) (by simp) (HBef.not (by repeat constructor) hl.nodup)
                              exact tk_round (a + 1, us2 ++ [((⟨.slice (some ⟨r7.1, 0, none⟩) (0 + x.ac.length + [(a : Int)].length) r7.2.1, rfl⟩, ⟨.slice (some ⟨r14.1, 0, none⟩) (0 + x.br.length + [brk].length) r14.2.1, rfl⟩, ⟨.slice (some ⟨r29.1, 0, none⟩) (0 + x.op.length + 1) r29.2.1, rfl⟩) : Wv)], oo', wl) ⟨⟨by dsimp only; omega, hok'⟩, by dsimp only; rw [hn, ← List.append_assoc]; exact (hk2.step hfz hoz).snoc hw3, hno2.snoc (fun p m c e => by cases e; exact (hl.own _ (HM.mem (b := r29.1) (by repeat constructor)) (w, []) MI.m).resolve_left (by simp))⟩ (by dsimp only; omega) (.cons rfl (.cons rfl (.cons rfl (.cons rfl (.cons rfl (.cons rfl (.cons rfl (.cons rfl (.cons rfl .nil))))))))) (fun _ h => h.subl SB.s SB.s))))
                     · try simp only [qn1, qn2, qn3, qn4, qn5, qn6, qn7, qn8] at hc
                       all_goals refine tc_exit ?_; ((refine hK13 ?_; try (clear hK13; clear K13)))
                       all_goals refine tc_region ?_; refine tl_q (y_move rfl) rfl ?_; refine tl_q (y_add rfl rfl (by omega)) rfl ?_; refine tl_q (y_assign rfl) rfl ?_; refine tl_nil ?_
                       all_goals (
                        obtain rfl : a = 4 := by omega
                        have hn : wyI s b l h (waysF s b l h) (i + 1) = wyI s b l h (waysF s b l h) i ++ wyN s b l h x 4 := by rw [wyI, ← hx]
                        subst hS
                        exact tk_round (i + 1, us2, oo, wz2) ⟨⟨by dsimp only; omega, hok2⟩, by dsimp only; rw [hn]; exact hk2, hno2⟩ (by dsimp only; omega) (.cons rfl (.cons rfl (.cons rfl (.cons rfl (.cons rfl (.cons rfl (.cons rfl .nil))))))) (fun _ h => h.subl SB.s SB.s)))))
            · try simp only [qn1, qn2, qn3, qn4, qn5, qn6, qn7, qn8] at hc
              all_goals refine tc_exit ?_; ((refine hK9 ?_; try (clear hK9; clear K9)))
              all_goals refine tc_region ?_; refine tl_q (y_move rfl) rfl ?_; refine tl_q (y_assign rfl) rfl ?_; refine tl_nil ?_; ((refine hK7 ?_; try (clear hK7; clear K7)))
              all_goals refine tc_region ?_; refine tl_q (y_move rfl) rfl ?_; refine tl_q (y_add rfl rfl (by omega)) rfl ?_; refine tl_q (y_assign rfl) rfl ?_; refine tl_nil ?_
              all_goals (
               obtain rfl : i = us.length := by omega
               have hn : waysF s b l (h + 1) = wyI s b l h (waysF s b l h) us.length := by rw [waysF, hul]
               exact tk_lay [] (SB.s .nil) fun wl hl => tk_round (h + 1, us1, ouA oo1, wl) ⟨by dsimp only; omega, RdS.ofO wyE_len hok1 hl (by repeat constructor), by dsimp only; rw [hn]; exact hk1.at (hl.fr (w0 := wz1) MI.m), NewS.ofO hl (e := 108) (enc := wyE) (xs := us1) (by repeat constructor) MI.m, hno1⟩ (by dsimp only; omega) (.cons rfl (.cons rfl (.cons rfl (.cons rfl (.cons rfl .nil))))) (fun _ h => h.subl SB.s SB.s))))
      · try simp only [qn1, qn2, qn3, qn4, qn5, qn6, qn7, qn8] at hc
        all_goals refine tc_exit ?_; ((refine hK3 ?_; try (clear hK3; clear K3)))
        all_goals refine tc_seq fun K22 hK22 => ?_; refine tc_region ?_; refine tl_q (y_move rfl) rfl ?_; refine tl_q (y_assign rfl) rfl ?_; refine tl_nil ?_; ((refine hK22 ?_; try (clear hK22; clear K22)))
        all_goals refine tc_ret ?_; (repeat (first | refine tk_then_ret ?_))
        all_goals (refine tk_ret rfl rfl (.cons (.tmp rfl) .nil) ?_)
        all_goals (
         obtain rfl : h = (s.L + 1).toNat := by omega
         rw [← hul]
         exact fun w' hw' => ⟨av, rfl, hw'.fr (w0 := w) (S := []) MI.m, us, ⟨hra.fr (hw'.fr (w0 := wz) (S := []) MI.m), hna⟩, hws.fr (hw'.fr (w0 := wz) (S := []) MI.m), hnw⟩)))
end Go.Sp
/-
  The reference's Ask, plainly: what it finds is what ask finds.
-/
namespace Go.Sp
open Go Go.Proofs
structure Akd where
  hol : List Bool
  opn : List Bool
  least : Int
  most : Int
  sm : Bool
def ak0 : Akd := ⟨List.replicate 40 false, List.replicate 4 false, 0, 0, false⟩
abbrev Evt := List Int × List Bool
def hwN (l : List Int) (hol : List Bool) : Nat → List Bool
  | 0 => hol
  | k + 1 => (hwN l hol k).set (k * 4 + (l.getD k 0).toNat) true
def owN (l : List Int) (op opn : List Bool) : Nat → List Bool
  | 0 => opn
  | k + 1 => if op.getD k false = true then (owN l op opn k).set (l.getD k 0).toNat true else owN l op opn k
def cnO (op : List Bool) : Nat → Int
  | 0 => 0
  | k + 1 => cnO op k + if op.getD k false = true then 1 else 0
theorem hwN_len (l : List Int) (hol : List Bool) : ∀ k, (hwN l hol k).length = hol.length
  | 0 => rfl
  | k + 1 => by rw [hwN, List.length_set, hwN_len l hol k]
theorem owN_len (l : List Int) (op opn : List Bool) : ∀ k, (owN l op opn k).length = opn.length
  | 0 => rfl
  | k + 1 => by
    rw [owN]
    split
    · rw [List.length_set, owN_len l op opn k]
    · exact owN_len l op opn k
theorem cnO_bd (op : List Bool) : ∀ k, 0 ≤ cnO op k ∧ cnO op k ≤ k
  | 0 => ⟨Int.le_refl _, Int.le_refl _⟩
  | k + 1 => by
    have := cnO_bd op k
    rw [cnO]
    split <;> omega
theorem cnO_0 {op : List Bool} : ∀ {n : Nat}, cnO op n = 0 → ∀ k, k < n → op.getD k false = false
  | 0, _, k, hk => absurd hk (Nat.not_lt_zero k)
  | n + 1, h, k, hk => by
    rw [cnO] at h
    have hb := cnO_bd op n
    by_cases ho : op.getD n false = true
    · rw [if_pos ho] at h; omega
    · rw [if_neg ho] at h
      by_cases hkn : k = n
      · subst hkn; exact Bool.eq_false_iff.2 ho
      · exact cnO_0 (n := n) (by omega) k (by omega)
structure EvOk (s : Smp) (e : Evt) : Prop where
  l : (e.1.length : Int) = s.L + 1
  b : ∀ h, h < e.1.length → 0 ≤ e.1.getD h 0 ∧ e.1.getD h 0 < s.P
abbrev hrsN (s : Smp) : Nat := (s.L + 1).toNat
def askE (s : Smp) (q : Akd) (e : Evt) : Akd := ⟨hwN e.1 q.hol (hrsN s), owN e.1 e.2 q.opn (hrsN s), if q.sm = true ∧ ¬ cnO e.2 (hrsN s) < q.least then q.least else cnO e.2 (hrsN s), max q.most (cnO e.2 (hrsN s)), true⟩
theorem hwN_get {l : List Int} {hol : List Bool} (hl : hol.length = 40) (o : Nat) : ∀ n : Nat, (∀ h, h < n → h * 4 + (l.getD h 0).toNat < 40) → ((hwN l hol n).getD o false = true ↔ hol.getD o false = true ∨ ∃ h : Nat, h < n ∧ o = h * 4 + (l.getD h 0).toNat)
  | 0, _ => ⟨fun h => .inl h, fun h => h.resolve_right (fun ⟨m, hm, _⟩ => absurd hm (Nat.not_lt_zero m))⟩
  | n + 1, hb => by
    have ih := hwN_get (l := l) hl o n (fun h hh => hb h (by omega))
    have hl' := hwN_len l hol n
    have hbn := hb n (by omega)
    rw [hwN, getD_setB (by omega)]
    split
    · rename_i h; exact ⟨fun _ => .inr ⟨n, by omega, h.symm⟩, fun _ => rfl⟩
    · rename_i hne
      rw [ih]
      constructor
      · rintro (h1 | ⟨m, h1, h2⟩)
        · exact .inl h1
        · exact .inr ⟨m, by omega, h2⟩
      · rintro (h1 | ⟨m, h1, h2⟩)
        · exact .inl h1
        · by_cases hm : m = n
          · subst hm; exact absurd h2.symm hne
          · exact .inr ⟨m, by omega, h2⟩
theorem owN_get {l : List Int} {op opn : List Bool} (hl : opn.length = 4) (o : Nat) : ∀ n : Nat, (∀ h, h < n → (l.getD h 0).toNat < 4) → ((owN l op opn n).getD o false = true ↔ opn.getD o false = true ∨ ∃ h : Nat, h < n ∧ o = (l.getD h 0).toNat ∧ op.getD h false = true)
  | 0, _ => ⟨fun h => .inl h, fun h => h.resolve_right (fun ⟨m, hm, _⟩ => absurd hm (Nat.not_lt_zero m))⟩
  | n + 1, hb => by
    have ih := owN_get (l := l) (op := op) hl o n (fun h hh => hb h (by omega))
    have hl' := owN_len l op opn n
    have hbn := hb n (by omega)
    rw [owN]
    split
    · rename_i ho
      rw [getD_setB (by omega)]
      split
      · rename_i h; exact ⟨fun _ => .inr ⟨n, by omega, h.symm, ho⟩, fun _ => rfl⟩
      · rename_i hne
        rw [ih]
        constructor
        · rintro (h1 | ⟨m, h1, h2⟩)
          · exact .inl h1
          · exact .inr ⟨m, by omega, h2⟩
        · rintro (h1 | ⟨m, h1, h2⟩)
          · exact .inl h1
          · by_cases hm : m = n
            · subst hm; exact absurd h2.1.symm hne
            · exact .inr ⟨m, by omega, h2⟩
    · rename_i ho
      rw [ih]
      constructor
      · rintro (h1 | ⟨m, h1, h2⟩)
        · exact .inl h1
        · exact .inr ⟨m, by omega, h2⟩
      · rintro (h1 | ⟨m, h1, h2, h3⟩)
        · exact .inl h1
        · by_cases hm : m = n
          · subst hm; exact absurd h3 ho
          · exact .inr ⟨m, by omega, h2, h3⟩
structure AskI (s : Smp) (T : List Evt) (q : Akd) : Prop where
  h : q.hol.length = 40
  o : q.opn.length = 4
  hh : ∀ o, q.hol.getD o false = true ↔ ∃ e ∈ T, ∃ h : Nat, (h : Int) ≤ s.L ∧ o = h * 4 + (e.1.getD h 0).toNat
  oo : ∀ o, q.opn.getD o false = true ↔ ∃ e ∈ T, ∃ h : Nat, (h : Int) ≤ s.L ∧ o = (e.1.getD h 0).toNat ∧ e.2.getD h false = true
  sm : q.sm = true ↔ ∃ e, e ∈ T
  ls : ∀ e ∈ T, q.least ≤ cnO e.2 (hrsN s)
  ls2 : (∃ e, e ∈ T) → ∃ e ∈ T, cnO e.2 (hrsN s) = q.least
  ms : ∀ e ∈ T, cnO e.2 (hrsN s) ≤ q.most
  ms2 : q.most = 0 ∨ ∃ e ∈ T, cnO e.2 (hrsN s) = q.most
  m0 : 0 ≤ q.most ∧ q.most ≤ 10
  l0 : 0 ≤ q.least ∧ q.least ≤ 10
theorem rep_get (n o : Nat) : (List.replicate n false).getD o false = false := by
  rw [List.getD_eq_getElem?_getD, List.getElem?_replicate]; split <;> rfl
theorem ask_i0 (s : Smp) : AskI s [] ak0 := by
  refine ⟨by simp [ak0], by simp [ak0], fun o => ?_, fun o => ?_, ?_, (fun e he => by cases he), (fun ⟨e, he⟩ => by cases he), (fun e he => by cases he), .inl rfl, ⟨by decide, by decide⟩, ⟨by decide, by decide⟩⟩
  · show (List.replicate 40 false).getD o false = true ↔ _
    rw [rep_get]
    exact ⟨(fun h => by cases h), fun ⟨e, he, _⟩ => by cases he⟩
  · show (List.replicate 4 false).getD o false = true ↔ _
    rw [rep_get]
    exact ⟨(fun h => by cases h), fun ⟨e, he, _⟩ => by cases he⟩
  · exact ⟨(fun h => by cases h), fun ⟨e, he⟩ => by cases he⟩
theorem AskI.snoc {s : Smp} (hv : VSm s) {T : List Evt} {q : Akd} (hq : AskI s T q) {e : Evt} (he : EvOk s e) : AskI s (T ++ [e]) (askE s q e) := by
  have hl0 := hv.l0
  have hl9 := hv.l9
  have hp4 := hv.p4
  have hel := he.l
  have hcb := cnO_bd e.2 (hrsN s)
  have hn : ((hrsN s : Nat) : Int) = s.L + 1 := by show (((s.L + 1).toNat : Nat) : Int) = _; omega
  have hb1 : ∀ h, h < hrsN s → h * 4 + (e.1.getD h 0).toNat < 40 := fun h hh => by have := he.b h (by omega); omega
  have hb2 : ∀ h, h < hrsN s → (e.1.getD h 0).toNat < 4 := fun h hh => by have := he.b h (by omega); omega
  refine ⟨by show (hwN e.1 q.hol (hrsN s)).length = 40; rw [hwN_len]; exact hq.h, by show (owN e.1 e.2 q.opn (hrsN s)).length = 4; rw [owN_len]; exact hq.o, fun o => ?_, fun o => ?_, ⟨fun _ => ⟨e, by simp⟩, fun _ => rfl⟩, fun x hx => ?_, fun _ => ?_, fun x hx => ?_, ?_, ?_, ?_⟩
  · show (hwN e.1 q.hol (hrsN s)).getD o false = true ↔ _
    rw [hwN_get hq.h o _ hb1, hq.hh o]
    constructor
    · rintro (⟨x, hx, h1⟩ | ⟨h, h1, h2⟩)
      · exact ⟨x, List.mem_append_left _ hx, h1⟩
      · exact ⟨e, by simp, h, by omega, h2⟩
    · rintro ⟨x, hx, h, h1, h2⟩
      rcases List.mem_append.1 hx with hx | hx
      · exact .inl ⟨x, hx, h, h1, h2⟩
      · obtain rfl := List.mem_singleton.1 hx; exact .inr ⟨h, by omega, h2⟩
  · show (owN e.1 e.2 q.opn (hrsN s)).getD o false = true ↔ _
    rw [owN_get hq.o o _ hb2, hq.oo o]
    constructor
    · rintro (⟨x, hx, h1⟩ | ⟨h, h1, h2⟩)
      · exact ⟨x, List.mem_append_left _ hx, h1⟩
      · exact ⟨e, by simp, h, by omega, h2⟩
    · rintro ⟨x, hx, h, h1, h2⟩
      rcases List.mem_append.1 hx with hx | hx
      · exact .inl ⟨x, hx, h, h1, h2⟩
      · obtain rfl := List.mem_singleton.1 hx; exact .inr ⟨h, by omega, h2⟩
  · show (if q.sm = true ∧ ¬ cnO e.2 (hrsN s) < q.least then q.least else cnO e.2 (hrsN s)) ≤ _
    rcases List.mem_append.1 hx with hx | hx
    · have h1 := hq.ls x hx
      have h2 := hq.sm.2 ⟨x, hx⟩
      split
      · exact h1
      · rename_i h3
        have : cnO e.2 (hrsN s) < q.least := Decidable.byContradiction fun g => h3 ⟨h2, g⟩
        omega
    · obtain rfl := List.mem_singleton.1 hx
      split <;> omega
  · show ∃ x ∈ T ++ [e], cnO x.2 (hrsN s) = (if q.sm = true ∧ ¬ cnO e.2 (hrsN s) < q.least then q.least else cnO e.2 (hrsN s))
    split
    · rename_i h3
      obtain ⟨x, h1, h2⟩ := hq.ls2 (hq.sm.1 h3.1)
      exact ⟨x, List.mem_append_left _ h1, h2⟩
    · exact ⟨e, by simp, rfl⟩
  · show _ ≤ max q.most (cnO e.2 (hrsN s))
    rcases List.mem_append.1 hx with hx | hx
    · have := hq.ms x hx; omega
    · obtain rfl := List.mem_singleton.1 hx; omega
  · show max q.most (cnO e.2 (hrsN s)) = 0 ∨ ∃ x ∈ T ++ [e], cnO x.2 (hrsN s) = max q.most (cnO e.2 (hrsN s))
    by_cases h1 : q.most ≤ cnO e.2 (hrsN s)
    · exact .inr ⟨e, by simp, by omega⟩
    · rcases hq.ms2 with h2 | ⟨x, h2, h3⟩
      · omega
      · exact .inr ⟨x, List.mem_append_left _ h2, by omega⟩
  · show 0 ≤ max q.most (cnO e.2 (hrsN s)) ∧ max q.most (cnO e.2 (hrsN s)) ≤ 10
    have := hq.m0; omega
  · show 0 ≤ (if q.sm = true ∧ ¬ cnO e.2 (hrsN s) < q.least then q.least else cnO e.2 (hrsN s)) ∧ (if q.sm = true ∧ ¬ cnO e.2 (hrsN s) < q.least then q.least else cnO e.2 (hrsN s)) ≤ 10
    have := hq.l0
    split <;> omega
def asR (s : Smp) (T : List Evt) : Akd := T.foldl (askE s) ak0
theorem asR_snoc (s : Smp) (T : List Evt) (e : Evt) : asR s (T ++ [e]) = askE s (asR s T) e := by unfold asR; rw [List.foldl_append]; rfl
theorem asR_i {s : Smp} (hv : VSm s) {T : List Evt} (hT : ∀ e ∈ T, EvOk s e) : AskI s T (asR s T) := by
  obtain ⟨R, rfl⟩ : ∃ R : List Evt, T = R.reverse := ⟨T.reverse, by simp⟩
  induction R with
  | nil => exact ask_i0 s
  | cons e R ih =>
    rw [List.reverse_cons] at hT ⊢
    rw [asR_snoc]
    exact (ih fun x hx => hT x (List.mem_append_left _ hx)).snoc hv (hT e (by simp))
def evL (s : Smp) (b : Int) (l : List Int) : List Evt := (waysF s b l (hrsN s)).map fun y => (l, y.op)
def evN (s : Smp) (b : Int) (n : Nat) : List Evt := match heldF s b (nthL s n) with
  | none => []
  | some l => evL s b l
def evT (s : Smp) (b : Int) : Nat → List Evt
  | 0 => []
  | n + 1 => evT s b n ++ evN s b n
theorem evT_mem {s : Smp} {b : Int} {e : Evt} : ∀ {N : Nat}, e ∈ evT s b N ↔ ∃ n l, n < N ∧ heldF s b (nthL s (n : Nat)) = some l ∧ ∃ y ∈ waysF s b l (hrsN s), e = (l, y.op)
  | 0 => ⟨(fun h => by cases h), fun ⟨n, l, h, _⟩ => absurd h (Nat.not_lt_zero n)⟩
  | N + 1 => by
    rw [evT, List.mem_append, evT_mem (N := N)]
    constructor
    · rintro (⟨n, l, h1, h2⟩ | h1)
      · exact ⟨n, l, by omega, h2⟩
      · unfold evN at h1
        split at h1
        · cases h1
        · rename_i l hl
          obtain ⟨y, hy, rfl⟩ := List.mem_map.1 h1
          exact ⟨N, l, by omega, hl, y, hy, rfl⟩
    · rintro ⟨n, l, h1, h2, y, hy, rfl⟩
      by_cases hn : n = N
      · subst hn
        right
        unfold evN
        rw [h2]
        exact List.mem_map.2 ⟨y, hy, rfl⟩
      · exact .inl ⟨n, l, by omega, h2, y, hy, rfl⟩
theorem evT_ok {s : Smp} (hv : VSm s) {b : Int} {N : Nat} : ∀ e ∈ evT s b N, EvOk s e := fun e he => by
  obtain ⟨n, l, _, h2, y, _, rfl⟩ := evT_mem.1 he
  have := heldF_ok hv h2
  exact ⟨this.1, this.2⟩
def wyC (y : Wy) : List (Bool × Int) := List.zipWith (fun a b => (a, if b = true then (1 : Int) else 0)) y.br y.op
theorem wyC_len {y : Wy} {h : Nat} (hy : WyL h y) : (wyC y).length = h := by unfold wyC; rw [List.length_zipWith, hy.br, hy.op, Nat.min_self]
theorem wyC_get {y : Wy} {h i : Nat} (hy : WyL h y) (hi : i < h) : (wyC y).getD i (false, 0) = (y.br.getD i false, if y.op.getD i false = true then 1 else 0) := by
  have h1 := hy.br
  have h2 := hy.op
  unfold wyC
  rw [List.getD_eq_getElem?_getD, List.getElem?_zipWith, List.getD_eq_getElem?_getD, List.getD_eq_getElem?_getD, List.getElem?_eq_getElem (by omega), List.getElem?_eq_getElem (by omega)]
  rfl
theorem wyC_S {x : Wy} {h a : Nat} (hx : WyL h x) : wyC (wyS x h a) = wyC x ++ [(acY (wasW x h) a, if (wasW x h || opA a) = true then 1 else 0)] := by
  unfold wyC wyS
  rw [List.zipWith_append (by rw [hx.br, hx.op])]; rfl
theorem wasW_S {x : Wy} {h a : Nat} (hx : WyL h x) : wasW (wyS x h a) (h + 1) = acY (wasW x h) a := by
  unfold wasW
  rw [if_neg (by omega), Nat.add_sub_cancel]
  show (x.br ++ [_]).getD h false = _
  rw [getD_app2 hx.br.symm]; rfl
theorem opA_nat {n : Nat} (h : n < 4) : opA (n : Int) = opF n := by
  match n, h with
  | 0, _ => rfl
  | 1, _ => rfl
  | 2, _ => rfl
  | 3, _ => rfl
theorem ways_pre {s : Smp} {b : Int} {l : List Int} (hll : (l.length : Int) = s.L + 1) : ∀ {h : Nat} {y : Wy}, (h : Int) ≤ s.L + 1 → y ∈ waysF s b l h → PreF s b (padC l) h (wyC y) (wasW y h)
  | 0, y, _, hy => by obtain rfl := List.mem_singleton.1 hy; exact ⟨rfl, rfl⟩
  | h + 1, y, hh, hy => by
    obtain ⟨x, hx, a, ha, h1, rfl⟩ := mem_ways.1 hy
    have hxl := ways_wl hx
    rw [wyC_S hxl, wasW_S hxl]
    refine ⟨wyC x, _, wasW x h, rfl, ways_pre hll (by omega) hx, ?_, rfl⟩
    rw [← stB_pad (s := s) (c := l) (h := h) (by omega)]
    refine mem_stepL.2 ⟨a, ha, ⟨by rw [← acIs_nat _ _ ha]; exact h1.1, by rw [← acY_nat _ ha]; exact h1.2⟩, ?_⟩
    rw [acY_nat _ ha, opA_nat ha]
    cases wasW x h <;> cases opF a <;> rfl
theorem pre_ways {s : Smp} {b : Int} {l : List Int} (hll : (l.length : Int) = s.L + 1) : ∀ {h : Nat} {rl : List (Bool × Int)} {z : Bool}, (h : Int) ≤ s.L + 1 → PreF s b (padC l) h rl z → ∃ y ∈ waysF s b l h, wyC y = rl ∧ wasW y h = z
  | 0, _, _, _, ⟨rfl, rfl⟩ => ⟨wy0, List.mem_singleton.2 rfl, rfl, rfl⟩
  | h + 1, _, _, hh, ⟨l', z, y, rfl, h1, h2, h3⟩ => by
    obtain ⟨x, hx, rfl, h5⟩ := pre_ways hll (by omega) h1
    subst h5
    rw [← stB_pad (s := s) (c := l) (h := h) (by omega)] at h2
    obtain ⟨n, hn, ⟨h6, h7⟩, rfl⟩ := mem_stepL.1 h2
    have hxl := ways_wl hx
    refine ⟨wyS x h n, mem_ways.2 ⟨x, hx, n, hn, ⟨by rw [acIs_nat _ _ hn]; exact h6, by rw [acY_nat _ hn]; exact h7⟩, rfl⟩, ?_, ?_⟩
    · rw [wyC_S hxl, acY_nat _ hn, opA_nat hn]
      congr 1
      cases wasW x h <;> cases opF n <;> rfl
    · rw [wasW_S hxl, acY_nat _ hn]; exact h3
theorem pre_full {s : Smp} (hl : 0 ≤ s.L) {b : Int} {c : List Int} {rl : List (Bool × Int)} : (∃ z, PreF s b c (hrsN s) rl z) ↔ RunF s b c (hrsN s) false rl := by
  have hn : ((hrsN s : Nat) : Int) = s.L + 1 := by show (((s.L + 1).toNat : Nat) : Int) = _; omega
  constructor
  · rintro ⟨z, h⟩
    have := h.join (t := []) (by omega) (by rw [show (s.L + 1 - ((hrsN s : Nat) : Int)).toNat = 0 from by omega]; rfl)
    rw [List.append_nil] at this
    exact this
  · intro h
    obtain ⟨l1, t, x, rfl, h1, h2⟩ := RunF.split h (hrsN s) (by omega)
    rw [show (s.L + 1 - ((hrsN s : Nat) : Int)).toNat = 0 from by omega] at h2
    obtain rfl : t = [] := h2
    rw [List.append_nil]
    exact ⟨x, h1⟩
theorem sum_cnO {op : List Bool} {rl : List (Bool × Int)} : ∀ {n : Nat}, n ≤ rl.length → (∀ i, i < n → (rl.getD i (false, 0)).2 = if op.getD i false = true then 1 else 0) → sumR (rl.take n) = cnO op n
  | 0, _, _ => rfl
  | n + 1, hn, h => by
    rw [takeG_succ (d := (false, 0)) (by omega), cnO, ← h n (Nat.lt_succ_self n), ← sum_cnO (op := op) (rl := rl) (n := n) (by omega) fun i hi => h i (by omega)]
    unfold sumR
    rw [List.map_append, List.sum_append]
    simp
theorem way_sum {y : Wy} {n : Nat} (hy : WyL n y) : sumR (wyC y) = cnO y.op n := by
  have hl := wyC_len hy
  have := sum_cnO (op := y.op) (rl := wyC y) (n := n) (by omega) (fun i hi => by rw [wyC_get hy hi])
  rw [List.take_of_length_le (by omega)] at this
  exact this
/-- What is gone through, said by chains and runs. -/
theorem ev_run {s : Smp} (hv : VSm s) {b : Int} {e : Evt} (he : e ∈ evT s b (manyS s.ps).toNat) : padC e.1 ∈ chainsL s b ∧ ((e.1.length : Int) = s.L + 1) ∧ ∃ rl, RunF s b (padC e.1) (hrsN s) false rl ∧ sumR rl = cnO e.2 (hrsN s) ∧ ∀ h : Nat, (h : Int) ≤ s.L → ((rl.getD h (false, 0)).2 = 1 ↔ e.2.getD h false = true) := by
  have hl0 := hv.l0
  obtain ⟨n, l, hn, h2, y, hy, rfl⟩ := evT_mem.1 he
  have hlo := heldF_ok hv h2
  have hyl := ways_wl hy
  have hnn : ((hrsN s : Nat) : Int) = s.L + 1 := by show (((s.L + 1).toNat : Nat) : Int) = _; omega
  refine ⟨?_, hlo.1, wyC y, (pre_full hl0).1 ⟨_, ways_pre hlo.1 (by omega) hy⟩, way_sum hyl, fun h hh => ?_⟩
  · unfold heldF at h2
    obtain ⟨q, h5, h6⟩ := Option.map_eq_some_iff.1 h2
    exact (chains_iff hv.ple _).2 ⟨nthL s n, q, by rw [nthL_C]; exact nthC_in _ hv.ple, h5, by rw [h6]⟩
  · rw [wyC_get hyl (by omega)]
    show (if y.op.getD h false = true then (1 : Int) else 0) = 1 ↔ _
    split
    · rename_i h1; exact ⟨fun _ => h1, fun _ => rfl⟩
    · rename_i h1; exact ⟨(fun h => by cases h), fun h => absurd h h1⟩
theorem run_ev {s : Smp} (hv : VSm s) {b : Int} {c : List Int} (hc : c ∈ chainsL s b) {rl : List (Bool × Int)} (hr : RunF s b c (hrsN s) false rl) : ∃ e ∈ evT s b (manyS s.ps).toNat, padC e.1 = c ∧ sumR rl = cnO e.2 (hrsN s) ∧ ∀ h : Nat, (h : Int) ≤ s.L → ((rl.getD h (false, 0)).2 = 1 ↔ e.2.getD h false = true) := by
  have hl0 := hv.l0
  have hnn : ((hrsN s : Nat) : Int) = s.L + 1 := by show (((s.L + 1).toNat : Nat) : Int) = _; omega
  obtain ⟨hs, q, h1, h2, rfl⟩ := (chains_iff hv.ple _).1 hc
  obtain ⟨n, ⟨hn0, hn1⟩, rfl⟩ := nthC_all hv.ple h1
  have hhe : heldF s b (nthL s n) = some q.1 := by
    unfold heldF
    rw [nthL_C, h2]; rfl
  have hlo := heldF_ok hv hhe
  obtain ⟨z, hz⟩ := (pre_full hl0).2 hr
  obtain ⟨y, hy, rfl, _⟩ := pre_ways hlo.1 (by omega) hz
  have hyl := ways_wl hy
  refine ⟨(q.1, y.op), evT_mem.2 ⟨n.toNat, q.1, by omega, by rw [Int.toNat_of_nonneg hn0]; exact hhe, y, hy, rfl⟩, rfl, way_sum hyl, fun h hh => ?_⟩
  rw [wyC_get hyl (by omega)]
  show (if y.op.getD h false = true then (1 : Int) else 0) = 1 ↔ _
  split
  · rename_i h1; exact ⟨fun _ => h1, fun _ => rfl⟩
  · rename_i h1; exact ⟨(fun h => by cases h), fun h => absurd h h1⟩
theorem padC_getK {l : List Int} {k : Nat} (h : k < l.length) : (padC l).getD k 0 = l.getD k 0 := by
  unfold padC
  rw [List.getD_eq_getElem?_getD, List.getElem?_append_left h, ← List.getD_eq_getElem?_getD]
abbrev asRF (s : Smp) (b : Int) : Akd := asR s (evT s b (manyS s.ps).toNat)
theorem eq_bools {a b : List Bool} (hl : a.length = b.length) (h : ∀ o, a.getD o false = true ↔ b.getD o false = true) : a = b := by
  apply List.ext_getElem hl
  intro i h1 h2
  have := h i
  rw [List.getD_eq_getElem?_getD, List.getD_eq_getElem?_getD, List.getElem?_eq_getElem h1, List.getElem?_eq_getElem h2] at this
  simp only [Option.getD_some] at this
  cases h3 : a[i] <;> cases h4 : b[i] <;> simp_all
theorem asR_hol {s : Smp} (hv : VSm s) (b : Int) : (asRF s b).hol = (askF s b).hol := by
  have hi := asR_i hv (evT_ok hv (b := b) (N := (manyS s.ps).toNat))
  refine eq_bools (by rw [hi.h]; exact ((foldl_ok (chainsL s b)).h).symm) fun o => ?_
  rw [hi.hh o, ask_hol hv]
  constructor
  · rintro ⟨e, he, h, h1, h2⟩
    obtain ⟨h3, h4, rl, h5, _⟩ := ev_run hv he
    refine ⟨_, h3, ?_, h, h1, by rw [padC_getK (by omega)]; exact h2⟩
    unfold canF
    exact rst_run.2 ⟨rl, h5⟩
  · rintro ⟨c, hc, hcc, h, h1, h2⟩
    unfold canF at hcc
    obtain ⟨rl, hr⟩ := rst_run.1 hcc
    obtain ⟨e, he, rfl, _⟩ := run_ev hv hc hr
    obtain ⟨_, h4, _⟩ := ev_run hv he
    exact ⟨e, he, h, h1, by rw [padC_getK (by omega)] at h2; exact h2⟩
theorem asR_opn {s : Smp} (hv : VSm s) (b : Int) : (asRF s b).opn = (askF s b).opn := by
  have hi := asR_i hv (evT_ok hv (b := b) (N := (manyS s.ps).toNat))
  refine eq_bools (by rw [hi.o]; exact ((foldl_ok (chainsL s b)).o).symm) fun o => ?_
  rw [hi.oo o, ask_opn hv]
  constructor
  · rintro ⟨e, he, h, h1, h2, h3⟩
    obtain ⟨h4, h5, rl, h6, _, h7⟩ := ev_run hv he
    have hcc : canF s b (padC e.1) = true := by unfold canF; exact rst_run.2 ⟨rl, h6⟩
    exact ⟨_, h4, hcc, h, h1, by rw [padC_getK (by omega)]; exact h2, (opn_run hcc h1).2 ⟨rl, h6, (h7 h h1).2 h3⟩⟩
  · rintro ⟨c, hc, hcc, h, h1, h2, h3⟩
    obtain ⟨rl, hr, h4⟩ := (opn_run hcc h1).1 h3
    obtain ⟨e, he, rfl, _, h5⟩ := run_ev hv hc hr
    obtain ⟨_, h6, _⟩ := ev_run hv he
    exact ⟨e, he, h, h1, by rw [padC_getK (by omega)] at h2; exact h2, (h5 h h1).1 h4⟩
theorem asR_least {s : Smp} (hv : VSm s) {b : Int} (hp : possF s b = true) : (asRF s b).least = (askF s b).least := by
  have hi := asR_i hv (evT_ok hv (b := b) (N := (manyS s.ps).toNat))
  obtain ⟨⟨c, h1, h2, h3⟩, h4⟩ := ask_least hp
  have hc := h2
  unfold canF at hc
  obtain ⟨m, hm⟩ := Option.isSome_iff_exists.1 hc
  obtain ⟨⟨rl, hr, hs⟩, _⟩ := rst_min hm
  obtain ⟨e, he, _, h5, _⟩ := run_ev hv h1 hr
  have hlm : lsN s b c = m := by unfold lsN; rw [hm]; rfl
  have hle := hi.ls e he
  obtain ⟨e2, he2, h6⟩ := hi.ls2 ⟨e, he⟩
  obtain ⟨h7, _, rl2, h8, h9, _⟩ := ev_run hv he2
  have hc2 : canF s b (padC e2.1) = true := by unfold canF; exact rst_run.2 ⟨rl2, h8⟩
  have h10 := h4 _ h7 hc2
  have hc3 := hc2
  unfold canF at hc3
  obtain ⟨m2, hm2⟩ := Option.isSome_iff_exists.1 hc3
  have h11 := (rst_min hm2).2 rl2 h8
  have hlm2 : lsN s b (padC e2.1) = m2 := by unfold lsN; rw [hm2]; rfl
  show (asR s (evT s b (manyS s.ps).toNat)).least = (askF s b).least
  omega
theorem asR_most {s : Smp} (hv : VSm s) (b : Int) : (asRF s b).most = 0 ↔ (askF s b).opn = List.replicate 4 false := by
  have hi := asR_i hv (evT_ok hv (b := b) (N := (manyS s.ps).toNat))
  have hl0 := hv.l0
  rw [← asR_opn hv b]
  constructor
  · intro h'
    have h : (asR s (evT s b (manyS s.ps).toNat)).most = 0 := h'
    refine eq_bools (by rw [hi.o]; simp) fun o => ?_
    rw [rep_get]
    refine ⟨fun h1 => ?_, fun h => by cases h⟩
    obtain ⟨e, he, k, h2, _, h3⟩ := (hi.oo o).1 h1
    have h4 := hi.ms e he
    have h5 := cnO_bd e.2 (hrsN s)
    have h6 := cnO_0 (op := e.2) (n := hrsN s) (by omega) k (by show k < (s.L + 1).toNat; omega)
    rw [h6] at h3; cases h3
  · intro h
    rcases hi.ms2 with h1 | ⟨e, he, h1⟩
    · exact h1
    · rw [← h1]
      refine Decidable.byContradiction fun hne => ?_
      have : ∃ k, k < hrsN s ∧ e.2.getD k false = true := by
        refine Decidable.byContradiction fun hno => hne ?_
        have hz : ∀ n, n ≤ hrsN s → cnO e.2 n = 0 := fun n => by
          induction n with
          | zero => intro _; rfl
          | succ n ih => intro hn; rw [cnO, ih (by omega), if_neg (fun g => hno ⟨n, by omega, g⟩)]; rfl
        exact hz _ (Nat.le_refl _)
      obtain ⟨k, hk, h2⟩ := this
      have hkL : (k : Int) ≤ s.L := by have : k < (s.L + 1).toNat := hk; omega
      have := (hi.oo _).2 ⟨e, he, k, hkL, rfl, h2⟩
      rw [h, rep_get] at this; cases this
def rverF (q : Akd) : Int := if 0 < q.least then 1 else if q.most = 0 then 2 else 3
theorem asR_verd {s : Smp} (hv : VSm s) {b : Int} (hp : possF s b = true) : rverF (asRF s b) = verdF (askF s b) := by
  unfold rverF verdF
  rw [asR_least hv hp]
  split
  · rfl
  · by_cases h : (asRF s b).most = 0
    · rw [if_pos h, if_pos ((asR_most hv b).1 h)]
    · rw [if_neg h, if_neg (fun g => h ((asR_most hv b).2 g))]
end Go.Sp
/-
  The reference's Ask, walked.
-/
namespace Go.Sp
open Go Go.Proofs
def akL (q : Akd) : List Value := q.hol.map Value.bool ++ (q.opn.map Value.bool ++ [vi q.least, vi q.most, .bool q.sm])
structure AkOk (q : Akd) : Prop where
  h : q.hol.length = 40
  o : q.opn.length = 4
theorem akL_len {q : Akd} (h : AkOk q) : (akL q).length = 47 := by unfold akL; simp [h.h, h.o]
theorem akL_one (q : Akd) : ∀ v ∈ (akL q).toArray.toList, v.oneCell' = true := fun v hv => by
  simp only [akL, List.mem_append, List.mem_map, List.mem_cons, List.not_mem_nil, or_false] at hv
  rcases hv with ⟨_, _, rfl⟩ | ⟨_, _, rfl⟩ | rfl | rfl | rfl <;> rfl
theorem setA_h {q : Akd} (hq : AkOk q) {o : Nat} (ho : o < 40) (v : Bool) : (akL q).set o (.bool v) = akL { q with hol := q.hol.set o v } := by
  unfold akL
  rw [List.set_append_left _ _ (by simp [hq.h]; exact ho), List.map_set]
theorem setA_o {q : Akd} (hq : AkOk q) {o : Nat} (ho : o < 4) (v : Bool) : (akL q).set (40 + o) (.bool v) = akL { q with opn := q.opn.set o v } := by
  unfold akL
  rw [List.set_append_right _ _ (by simp [hq.h]), List.length_map, hq.h, Nat.add_sub_cancel_left, List.set_append_left _ _ (by simp [hq.o]; exact ho), List.map_set]
theorem setA_l {q : Akd} (hq : AkOk q) (v : Int) : (akL q).set 44 (vi v) = akL { q with least := v } := by
  unfold akL
  rw [List.set_append_right _ _ (by simp [hq.h]), List.set_append_right _ _ (by simp [hq.h, hq.o])]
  simp [hq.h, hq.o]
theorem setA_m {q : Akd} (hq : AkOk q) (v : Int) : (akL q).set 45 (vi v) = akL { q with most := v } := by
  unfold akL
  rw [List.set_append_right _ _ (by simp [hq.h]), List.set_append_right _ _ (by simp [hq.h, hq.o])]
  simp [hq.h, hq.o]
theorem setA_s {q : Akd} (hq : AkOk q) (v : Bool) : (akL q).set 46 (.bool v) = akL { q with sm := v } := by
  unfold akL
  rw [List.set_append_right _ _ (by simp [hq.h]), List.set_append_right _ _ (by simp [hq.h, hq.o])]
  simp [hq.h, hq.o]
theorem cellA {q : Akd} {e : TypeId} {f : Nat × Nat} {o : Nat} {v : Value} (h : (akL q)[o]? = some v) : cellAt (.cells (akL q).toArray e f) o = some v := by
  simp only [cellAt, lget_eq]
  exact h
theorem getA_l {q : Akd} (hq : AkOk q) : (akL q)[44]? = some (vi q.least) := by
  unfold akL
  rw [List.getElem?_append_right (by simp [hq.h]), List.getElem?_append_right (by simp [hq.h, hq.o])]
  simp [hq.h, hq.o]
theorem getA_m {q : Akd} (hq : AkOk q) : (akL q)[45]? = some (vi q.most) := by
  unfold akL
  rw [List.getElem?_append_right (by simp [hq.h]), List.getElem?_append_right (by simp [hq.h, hq.o])]
  simp [hq.h, hq.o]
theorem getA_s {q : Akd} (hq : AkOk q) : (akL q)[46]? = some (.bool q.sm) := by
  unfold akL
  rw [List.getElem?_append_right (by simp [hq.h]), List.getElem?_append_right (by simp [hq.h, hq.o])]
  simp [hq.h, hq.o]
theorem e_storeQ {P : Program} {N : NN} {F : List (Nat × Value)} {bs : List (World × List Nat)} {H : List (Nat × Obj)} {ty : TypeId} {pos : String} {after : Array Edge} {g : Option (Nat × Bool)} {t : TypeId} {z : Value} [h : TyOne P t z] {x y : Operand} {b o : Nat} (o' : Nat) {v : Value} {q : Akd} (q' : Akd) {e : TypeId} {H' : List (Nat × Obj)}
    (hx : evalO F x = some (.pointer (some ⟨b, o, none⟩))) (hy : evalO F y = some v) (hv : v.cells = #[v]) (ho : v.oneCell' = true) (hoo : o = o') (hq : (akL q).set o' v = akL q') (hlt : o' < (akL q).length)
    (hu : HU b (.cells (akL q).toArray e (0, 0)) (.cells (akL q').toArray e (0, 0)) H H') :
    OpE P ⟨none, .store t x y, ty, pos, after, g⟩ N F bs H (fun _ : Unit => True) (fun _ => F) (fun _ => bs) (fun _ => H') := by
  subst hoo
  exact e_store1g hx hy hv ho (c := (akL q).toArray) (by simpa using hlt) (by rw [List.setIfInBounds_toArray, hq]; exact hu)
def akK (q : Akd) (l : List Int) (op : List Bool) (k : Nat) : Akd := { q with hol := hwN l q.hol k, opn := owN l op q.opn k }
theorem akK_ok {q : Akd} (hq : AkOk q) (l : List Int) (op : List Bool) (k : Nat) : AkOk (akK q l op k) := ⟨(hwN_len l q.hol k).trans hq.h, (owN_len l op q.opn k).trans hq.o⟩
def evF (l : List Int) (ws : List Wy) (i : Nat) : List Evt := (ws.take i).map fun y => (l, y.op)
theorem evF_succ {l : List Int} {ws : List Wy} {i : Nat} (h : i < ws.length) : evF l ws (i + 1) = evF l ws i ++ [(l, (ws.getD i wy0).op)] := by
  unfold evF
  rw [takeG_succ (d := wy0) h, List.map_append]; rfl
set_option maxHeartbeats 16000000 in
theorem rAsk_c (s : Smp) (hf : Few s) (hv : VSm s) (hL6 : s.L ≤ 6) (b : Int) (tv pv gv : Value) (w : World) (hr : RdSm w s tv pv gv) :
    CnV Tryz.prog 23 #[smV s tv pv gv, vi b] w (.agg (akL (asRF s b)).toArray) := by
  have hr0 := hr
  have hl0 := hv.l0
  have hp4 := hv.p4
  have hm1 := manyS_bd (l := s.ps) (fun p hp => by have := hv.ps p hp; omega)
  have hm2 := hv.many
  obtain ⟨adt, cpt, _, _, rfl, _, _⟩ := hr.st.open boE_len false
  obtain ⟨adp, cpp, _, _, rfl, _, _⟩ := hr.ps.open psE_len pas0
  obtain ⟨adg, cpg, _, _, rfl, _, _⟩ := hr.sg.open sgE_len sgt0
  have hev := fun (n : Nat) => asR_i hv (evT_ok hv (b := b) (N := n))
  refine cnv (vs := [_, _]) Tryz.func23 rfl rfl ?_
  all_goals refine tc_seq fun K1 hK1 => ?_; refine tc_region ?_; refine tl_e (e_box rfl rfl rfl) rfl (fun b2 _ => ?_); refine tl_e (e_allocN rfl) rfl (fun b4 _ => ?_); refine tl_nil ?_; ((refine hK1 ?_; try (clear hK1; clear K1)))
  all_goals refine tc_seq fun K2 hK2 => ?_; refine tc_lay ([(b4, .cells (akL ak0).toArray 44 (0, 0))]) SB.s (fun wl1 hl1 => ?_); ((have hn2 : ¬ b2 = b4 := by have hh := hl1.nodup; simp only [List.map_cons, List.map_nil, List.nodup_cons, List.mem_cons, not_or, List.not_mem_nil, not_false_eq_true, and_true] at hh; omega))
  all_goals refine tc_region ?_; refine tl_e (e_allocN rfl) rfl (fun b5 _ => ?_); refine tl_nil ?_; ((refine hK2 ?_; try (clear hK2; clear K2)))
  all_goals refine tc_seq fun K3 hK3 => ?_; refine tc_seq fun K4 hK4 => ?_; refine tc_region ?_; refine tl_q (y_assign rfl) rfl ?_; refine tl_nil ?_; ((refine hK4 ?_; try (clear hK4; clear K4)))
  all_goals refine tc_block ?_
  all_goals (
   refine tc_loop (fun n : Nat => (n : Int) ≤ manyS s.ps) (fun n => [(1, vi b), (2, ptr b2), (4, ptr b4), (5, ptr b5), (6, vi n)]) (fun _ => [(wl1, [b4]), (w, [])]) (fun n => [(b5, .cells (akL (asR s (evT s b n))).toArray 44 (0, 0)), (b4, .cells (akL ak0).toArray 44 (0, 0))]) (fun n => (manyS s.ps).toNat - n) ?_ ?_
   · exact tk_start 0 (by omega) (.cons rfl (.cons rfl (.cons rfl (.cons rfl (.cons rfl .nil))))) (fun _ h => h.subl SB.s SB.s)
   · rintro n hn
     all_goals refine tc_seq fun K5 hK5 => ?_; refine tc_seq fun K6 hK6 => ?_; refine tc_region ?_; refine tl_q (y_move rfl) rfl ?_; ((refine tl_q (y_loadWf rfl (hl1.at (by repeat constructor)) MI.m (by first | (simp; done) | (simp; omega)) (by rfl)) rfl ?_))
     all_goals refine tl_e (e_callV rfl (.cons rfl .nil) (fun w' hw' => rMany_v s hv _ _ _ w' (hr0.fr (hw'.fr (w0 := w) (S := []) MI.m)))) rfl (fun _ _ => ?_); refine tl_q (y_lss rfl rfl) rfl ?_; refine tl_nil ?_; ((refine hK6 ?_; try (clear hK6; clear K6)))
     all_goals (
      refine tc_cond rfl (fun hc => ?_) (fun hc => ?_)
      · try simp only [qn1, qn2, qn3, qn4, qn5, qn6, qn7, qn8] at hc
        all_goals refine tc_skip ?_; ((refine hK5 ?_; try (clear hK5; clear K5)))
        all_goals refine tc_seq fun K7 hK7 => ?_; refine tc_block ?_; refine tc_seq fun K8 hK8 => ?_; (rcases hhf : heldF s b (nthL s (n : Nat)) with _ | l)
        all_goals refine tc_drawS ([(b5, .cells (akL (asR s (evT s b n))).toArray 44 (0, 0)), (b4, .cells (akL ak0).toArray 44 (0, 0))]) (by kernel_rfl) ?_; ((refine tx_qS 0 rfl (by kernel_rfl) (y_loadWf rfl (hl1.at (by repeat constructor)) MI.m (by first | (simp; done) | (simp; omega)) (by rfl)) rfl (fun _ _ _ h => h) (fun _ h => h.subl SB.s SB.s) ?_))
        all_goals refine tx_p 1 rfl (by kernel_rfl) (y_move rfl) rfl (fun _ _ _ h => h) (fun _ h => h.subl SB.s SB.s) ?_; ((refine tx_qS 2 rfl (by kernel_rfl) (y_loadWf rfl (hl1.at (by repeat constructor)) MI.m (by first | (simp; done) | (simp; omega)) (by rfl)) rfl (fun _ _ _ h => h) (fun _ h => h.subl SB.s SB.s) ?_))
        all_goals refine tx_p 3 rfl (by kernel_rfl) (y_move rfl) rfl (fun _ _ _ h => h) (fun _ h => h.subl SB.s SB.s) ?_; refine tx_single 4 (by kernel_rfl) (to_e rfl rfl (e_callX rfl (.cons rfl (.cons rfl .nil)) (fun w' hw' => nth_c s hv (n : Nat) (by omega) _ _ _ w' (hr0.fr (hw'.fr (w0 := w) (S := []) MI.m)))) (.inr ⟨fun _ _ h => h.subl SB.s SB.s, fun _ h => h⟩) (fun y4 hy4 => ?_)); (first | refine tx_single 5 (by kernel_rfl) (to_e rfl rfl (e_callX rfl (.cons rfl (.cons rfl (.cons rfl .nil))) (fun w' hw' => heldF_none hv hhf (by rw [nthL, nthS_len]) _ _ _ _ w' (hr0.fr (hw'.fr (w0 := w) (S := []) MI.m)) (hy4.1.fr (hw'.calm hy4.2 MI.m (List.Sublist.refl _))))) (.inr ⟨fun _ _ h => h.subl SB.s SB.s, fun _ h => h⟩) (fun y5 hy5 => ?_)) | refine tx_single 5 (by kernel_rfl) (to_e rfl rfl (e_callX rfl (.cons rfl (.cons rfl (.cons rfl .nil))) (fun w' hw' => (heldF_some hv hhf (by rw [nthL, nthS_len]) _ _ _ _ w' (hr0.fr (hw'.fr (w0 := w) (S := []) MI.m)) (hy4.1.fr (hw'.calm hy4.2 MI.m (List.Sublist.refl _)))).imp (val' := fun y : Option Addr × Nat => .tuple #[slV l.length y, .bool true]) (p' := fun y w2 => RdI w2 (slV l.length y) l ∧ sepS (slV l.length y) [b5, b4]) id (fun _ => rfl) (fun _ h => h) (fun _ _ _ hp => ⟨hp.1, hp.2.sep hw'⟩))) (.inr ⟨fun _ _ h => h.subl SB.s SB.s, fun _ h => h⟩) (fun y5 hy5 => ?_))); refine tx_p 6 rfl (by kernel_rfl) (y_move rfl) rfl (fun _ _ _ h => h) (fun _ h => h.subl SB.s SB.s) ?_; refine tx_p 7 rfl (by kernel_rfl) (y_extract rfl rfl) rfl (fun _ _ _ h => h) (fun _ h => h.subl SB.s SB.s) ?_; refine tx_p 8 rfl (by kernel_rfl) (y_extract rfl rfl) rfl (fun _ _ _ h => h) (fun _ h => h.subl SB.s SB.s) ?_; refine tx_p 9 rfl (by kernel_rfl) (y_assign rfl) rfl (fun _ _ _ h => h) (fun _ h => h.subl SB.s SB.s) ?_; refine tx_p 10 rfl (by kernel_rfl) (y_assign rfl) rfl (fun _ _ _ h => h) (fun _ h => h.subl SB.s SB.s) ?_; refine tx_done (by kernel_rfl) ?_; ((refine hK8 ?_; try (clear hK8; clear K8)))
        all_goals refine tc_seq fun K9 hK9 => ?_; refine tc_seq fun K10 hK10 => ?_; refine tc_region ?_; refine tl_q (y_move rfl) rfl ?_; refine tl_q (y_not rfl) rfl ?_; refine tl_nil ?_; ((refine hK10 ?_; try (clear hK10; clear K10)))
        all_goals (
         refine tc_cond rfl (fun hc => ?_) (fun hc => ?_)
         · try simp only [qn1, qn2, qn3, qn4, qn5, qn6, qn7, qn8] at hc
           all_goals ((first | (exfalso; with_reducible exact btf hc) | skip))
           all_goals refine tc_exit ?_; ((refine hK7 ?_; try (clear hK7; clear K7)))
           all_goals refine tc_region ?_; refine tl_q (y_move rfl) rfl ?_; refine tl_q (y_add rfl rfl (by omega)) rfl ?_; refine tl_q (y_assign rfl) rfl ?_; refine tl_nil ?_
           all_goals (
            first
            | (have hE : evT s b (n + 1) = evT s b n := by rw [evT, evN, hhf, List.append_nil]
               exact tk_round (n + 1) (by omega) (by omega) (.cons rfl (.cons rfl (.cons rfl (.cons rfl (.cons rfl .nil))))) (fun _ hg => by rw [hE]; exact hg.subl SB.s SB.s))
            | (obtain rfl : i = ws.length := by omega
               have hE : evT s b (n + 1) = evT s b n ++ evF l ws ws.length := by rw [evT, evN, hhf]; unfold evF evL; rw [List.take_of_length_le (Nat.le_refl _), hws]
               exact tk_round (n + 1) (by omega) (by omega) (.cons rfl (.cons rfl (.cons rfl (.cons rfl (.cons rfl .nil))))) (fun _ hg => by rw [hE]; exact hg.subl SB.s SB.s)))
         · try simp only [qn1, qn2, qn3, qn4, qn5, qn6, qn7, qn8] at hc
           all_goals ((first | (exfalso; with_reducible exact bft hc) | skip))
           all_goals refine tc_skip ?_; ((refine hK9 ?_; try (clear hK9; clear K9)))
           all_goals refine tc_seq fun K11 hK11 => ?_; ((have hlo := heldF_ok hv hhf; have hy5r := hy5.1.1; have hy5s := hy5.1.2; obtain ⟨lb, lo, hadl, hcl⟩ := hy5r.opensS hy5s))
           all_goals refine tc_region ?_; ((refine tl_q (y_loadWf rfl (hl1.at (by repeat constructor)) MI.m (by first | (simp; done) | (simp; omega)) (by rfl)) rfl ?_))
           all_goals refine tl_q (y_move rfl) rfl ?_; refine tl_q (y_move rfl) rfl ?_; refine tl_e (e_callX rfl (.cons rfl (.cons rfl (.cons rfl .nil))) (fun w' hw' => (ways_c s hf hv hL6 b l hlo.1 hlo.2 _ _ _ _ w' (hr0.fr (hw'.fr (w0 := w) (S := []) MI.m)) (hy5r.fr (hw'.calm hy5.2 MI.m (List.Sublist.refl _)))).imp (val' := fun y : Option Addr × Nat => slV (waysF s b l (s.L + 1).toNat).length y) (p' := fun y w2 => ∃ us : List Wv, (RdS 3 wyE w2 (slV (waysF s b l (s.L + 1).toNat).length y) us ∧ sepS (slV (waysF s b l (s.L + 1).toNat).length y) [b5, b4]) ∧ WsAt w2 us (waysF s b l (s.L + 1).toNat) ∧ ∀ u ∈ us, sepS u.2.2.1 [b5, b4]) id (fun _ => rfl) (fun _ h => h) (fun _ _ _ ⟨us, h1, h2, h3⟩ => ⟨us, ⟨h1.1, h1.2.sep hw'⟩, h2, fun u hu => (h3 u hu).sep hw'⟩))) rfl (fun y7 hy7 => ?_); refine tl_q (y_assign rfl) rfl ?_; refine tl_nil ?_; ((refine hK11 ?_; try (clear hK11; clear K11)))
           all_goals refine tc_seq fun K12 hK12 => ?_; refine tc_region ?_; refine tl_q (y_assign rfl) rfl ?_; refine tl_nil ?_; ((refine hK12 ?_; try (clear hK12; clear K12)))
           all_goals refine tc_block ?_
           all_goals (
            obtain ⟨us, ⟨hur, hus⟩, hwa, hsp⟩ := hy7.1
            obtain ⟨ws, hws⟩ : ∃ ws, ws = waysF s b l (s.L + 1).toNat := ⟨_, rfl⟩
            rw [← hws] at hur hus hwa ⊢
            have hul := hwa.1
            have hwlen : ws.length ≤ 16384 := by rw [hws]; exact waysF_len s b l (by omega)
            obtain ⟨uad, ucap, ub, uo, hue, hadu, hcu⟩ := hur.opens wyE_len wv0 hus
            injection hue with hue1 hue2 hue3
            refine tc_loop (fun i : Nat => i ≤ ws.length) (fun i => [(1, vi b), (2, ptr b2), (4, ptr b4), (5, ptr b5), (6, vi n), (7, slV l.length y5.1), (9, slV ws.length y7.1), (10, vi i)]) (fun _ => [(y7.2, [b5, b4]), (y5.2, [b5, b4]), (wl1, [b4]), (w, [])]) (fun i => [(b5, .cells (akL (asR s (evT s b n ++ evF l ws i))).toArray 44 (0, 0)), (b4, .cells (akL ak0).toArray 44 (0, 0))]) (fun i => ws.length - i) ?_ ?_
            · exact tk_start 0 (Nat.zero_le _) (.cons rfl (.cons rfl (.cons rfl (.cons rfl (.cons rfl (.cons rfl (.cons rfl (.cons rfl .nil)))))))) (fun _ h => by show HG _ [(_, .cells (akL (asR s (evT s b n ++ []))).toArray _ _), _] _; rw [List.append_nil]; exact h.subl SB.s SB.s)
            · rintro i hi
              all_goals refine tc_seq fun K13 hK13 => ?_; refine tc_seq fun K14 hK14 => ?_; refine tc_region ?_; refine tl_q (y_move rfl) rfl ?_; refine tl_q (y_move rfl) rfl ?_; refine tl_q (y_len rfl) rfl ?_; refine tl_q (y_lss rfl rfl) rfl ?_; refine tl_nil ?_; ((refine hK14 ?_; try (clear hK14; clear K14)))
              all_goals (
               refine tc_cond rfl (fun hc => ?_) (fun hc => ?_)
               · try simp only [qn1, qn2, qn3, qn4, qn5, qn6, qn7, qn8] at hc
                 all_goals refine tc_skip ?_; ((refine hK13 ?_; try (clear hK13; clear K13)))
                 all_goals refine tc_seq fun K15 hK15 => ?_; refine tc_block ?_; refine tc_seq fun K16 hK16 => ?_; refine tc_region ?_; refine tl_q (y_assign rfl) rfl ?_; refine tl_nil ?_; ((refine hK16 ?_; try (clear hK16; clear K16)))
                 all_goals refine tc_seq fun K17 hK17 => ?_; refine tc_seq fun K18 hK18 => ?_; refine tc_region ?_; refine tl_q (y_assign rfl) rfl ?_; refine tl_nil ?_; ((refine hK18 ?_; try (clear hK18; clear K18)))
                 all_goals refine tc_block ?_
                 all_goals (
                  have hiw : i < ws.length := by omega
                  obtain ⟨x, hx⟩ : ∃ x, x = ws.getD i wy0 := ⟨_, rfl⟩
                  obtain ⟨u, hu⟩ : ∃ u, u = us.getD i wv0 := ⟨_, rfl⟩
                  have hxr := hwa.2 i hiw
                  rw [← hx, ← hu] at hxr
                  have hxo : x.op.length = (s.L + 1).toNat := (ways_wl (show x ∈ waysF s b l (s.L + 1).toNat by rw [hx, ← hws]; exact getD_memG hiw)).op
                  have husep := hsp u (by rw [hu]; exact getD_memG (by omega))
                  obtain ⟨oad, ocap, ob, oo, hoe, hado, hco⟩ := hxr.op.opens boE_len false husep
                  obtain ⟨q0, hq0⟩ : ∃ q0, q0 = asR s (evT s b n ++ evF l ws i) := ⟨_, rfl⟩
                  have hq0i : AkOk q0 := by
                    have hh := asR_i hv (T := evT s b n ++ evF l ws i) (fun e he => by
                      rcases List.mem_append.1 he with he | he
                      · exact evT_ok hv e he
                      · obtain ⟨y, _, rfl⟩ := List.mem_map.1 he; exact ⟨hlo.1, hlo.2⟩)
                    rw [← hq0] at hh
                    exact ⟨hh.h, hh.o⟩
                  rw [← hq0]
                  refine tc_loop (fun h : Nat => (h : Int) ≤ s.L + 1) (fun h => [(1, vi b), (2, ptr b2), (4, ptr b4), (5, ptr b5), (6, vi n), (7, slV l.length y5.1), (9, slV ws.length y7.1), (10, vi i), (11, vi (cnO x.op h)), (12, vi h)]) (fun _ => [(y7.2, [b5, b4]), (y5.2, [b5, b4]), (wl1, [b4]), (w, [])]) (fun h => [(b5, .cells (akL (akK q0 l x.op h)).toArray 44 (0, 0)), (b4, .cells (akL ak0).toArray 44 (0, 0))]) (fun h => (s.L + 1).toNat - h) ?_ ?_
                  · exact tk_start 0 (by omega) (.cons rfl (.cons rfl (.cons rfl (.cons rfl (.cons rfl (.cons rfl (.cons rfl (.cons rfl (.cons rfl (.cons rfl .nil)))))))))) (fun _ h => h.subl SB.s SB.s)
                  · rintro h hh
                    have hcb := cnO_bd x.op h
                    have hko := akK_ok hq0i l x.op h
                    all_goals refine tc_seq fun K19 hK19 => ?_; refine tc_seq fun K20 hK20 => ?_; refine tc_region ?_; refine tl_q (y_move rfl) rfl ?_; refine tl_q (y_field rfl) rfl ?_; ((refine tl_q (y_load1f rfl (hl1.at (by repeat constructor)) MI.m (by first | (simp; done) | (simp; omega)) (by rfl)) rfl ?_))
                    all_goals refine tl_q (y_leq rfl rfl) rfl ?_; refine tl_nil ?_; ((refine hK20 ?_; try (clear hK20; clear K20)))
                    all_goals (
                     refine tc_cond rfl (fun hc => ?_) (fun hc => ?_)
                     · try simp only [qn1, qn2, qn3, qn4, qn5, qn6, qn7, qn8] at hc
                       all_goals refine tc_skip ?_; ((refine hK19 ?_; try (clear hK19; clear K19)))
                       all_goals refine tc_seq fun K21 hK21 => ?_; refine tc_block ?_; refine tc_seq fun K22 hK22 => ?_; ((have hlh := hlo.2 h (by omega); have hln := akL_len hko))
                       all_goals refine tc_draw (by kernel_rfl) ?_; refine tx_p 0 rfl (by kernel_rfl) (y_move rfl) rfl (fun _ _ _ h => h) (fun _ h => h) ?_; refine tx_p 1 rfl (by kernel_rfl) (y_move rfl) rfl (fun _ _ _ h => h) (fun _ h => h) ?_; refine tx_p 2 rfl (by kernel_rfl) (y_move rfl) rfl (fun _ _ _ h => h) (fun _ h => h) ?_; refine tx_p 3 rfl (by kernel_rfl) (y_index rfl rfl (by omega) (hadl (by omega))) rfl (fun _ _ _ h => h) (fun _ h => h) ?_; ((refine tx_q 4 rfl (by kernel_rfl) (y_load1o (v := vi (l.getD h 0)) rfl (fun w' hw' => by rw [show Int.toNat (h : Int) * 1 = h from by omega]; exact hcl w' (hw'.fr (w0 := y5.2) (S := [b5, b4]) MI.m) h (by omega))) rfl (fun _ _ _ h => h) (fun _ h => h) ?_))
                       all_goals refine tx_p 5 rfl (by kernel_rfl) (y_field rfl) rfl (fun _ _ _ h => h) (fun _ h => h) ?_; refine tx_p 6 rfl (by kernel_rfl) (y_indexA rfl rfl (by omega)) rfl (fun _ _ _ h => h) (fun _ h => h) ?_; refine tx_p 7 rfl (by kernel_rfl) (y_indexA rfl rfl (by omega)) rfl (fun _ _ _ h => h) (fun _ h => h) ?_; refine tx_e 8 rfl (by kernel_rfl) rfl (e_storeQ (h * 4 + (l.getD h 0).toNat) (q := akK q0 l x.op h) { akK q0 l x.op h with hol := hwN l q0.hol (h + 1) } rfl rfl rfl rfl (by omega) (setA_h hko (by omega) true) (by omega) (by repeat constructor)) (.inl (by kernel_rfl)) (fun _ _ => ?_); refine tx_done (by kernel_rfl) ?_; ((refine hK22 ?_; try (clear hK22; clear K22)))
                       all_goals refine tc_seq fun K23 hK23 => ?_; refine tc_region ?_; refine tl_q (y_move rfl) rfl ?_; refine tl_q (y_move rfl) rfl ?_; refine tl_q (y_index rfl rfl (by omega) (show y7.1.1 = some ⟨ub, uo, none⟩ from hue1.trans (hadu (by omega)))) rfl ?_; refine tl_q (y_field rfl) rfl ?_; ((refine tl_q (y_load1o (v := .slice oad x.op.length ocap) rfl (fun w' hw' => by rw [show Int.toNat (i : Int) * 3 = i * 3 from by omega]; have hz := (hcu w' (hw'.fr (w0 := y7.2) (S := [b5, b4]) MI.m) i (by omega)).get 2 _ rfl; rw [← hu] at hz; rw [← hoe]; exact hz)) rfl ?_))
                       all_goals refine tl_q (y_move rfl) rfl ?_; refine tl_q (y_index rfl rfl (by omega) (hado (by omega))) rfl ?_; ((refine tl_q (y_load1o (v := .bool (x.op.getD h false)) rfl (fun w' hw' => by have hz := (hco w' (hw'.fr (w0 := y7.2) (S := [b5, b4]) MI.m) h (by omega)).get 0 _ rfl; exact hz)) rfl ?_))
                       all_goals refine tl_nil ?_; ((refine hK23 ?_; try (clear hK23; clear K23)))
                       all_goals (
                        refine tc_cond rfl (fun hc => ?_) (fun hc => ?_)
                        · all_goals (skip)
                          all_goals refine tc_seq fun K24 hK24 => ?_; refine tc_region ?_; refine tl_q (y_move rfl) rfl ?_; refine tl_q (y_add rfl rfl (by omega)) rfl ?_; refine tl_q (y_assign rfl) rfl ?_; refine tl_nil ?_; ((refine hK24 ?_; try (clear hK24; clear K24)))
                          all_goals refine tc_region ?_; refine tl_q (y_move rfl) rfl ?_; refine tl_q (y_move rfl) rfl ?_; refine tl_q (y_index rfl rfl (by omega) (hadl (by omega))) rfl ?_; ((refine tl_q (y_load1o (v := vi (l.getD h 0)) rfl (fun w' hw' => by rw [show Int.toNat (h : Int) * 1 = h from by omega]; exact hcl w' (hw'.fr (w0 := y5.2) (S := [b5, b4]) MI.m) h (by omega))) rfl ?_))
                          all_goals refine tl_q (y_field rfl) rfl ?_; refine tl_q (y_indexA rfl rfl (by omega)) rfl ?_; ((refine tl_e (e_storeQ (40 + (l.getD h 0).toNat) (q := { akK q0 l x.op h with hol := hwN l q0.hol (h + 1) }) { akK q0 l x.op h with hol := hwN l q0.hol (h + 1), opn := (owN l x.op q0.opn h).set (l.getD h 0).toNat true } rfl rfl rfl rfl (by omega) (setA_o (q := { akK q0 l x.op h with hol := hwN l q0.hol (h + 1) }) ⟨(hwN_len l q0.hol (h + 1)).trans hq0i.h, hko.o⟩ (by omega) true) (by rw [akL_len (q := { akK q0 l x.op h with hol := hwN l q0.hol (h + 1) }) ⟨(hwN_len l q0.hol (h + 1)).trans hq0i.h, hko.o⟩]; omega) (by repeat constructor)) rfl (fun _ _ => ?_)))
                          all_goals refine tl_nil ?_; ((refine hK21 ?_; try (clear hK21; clear K21)))
                          all_goals refine tc_region ?_; refine tl_q (y_move rfl) rfl ?_; refine tl_q (y_add rfl rfl (by omega)) rfl ?_; refine tl_q (y_assign rfl) rfl ?_; refine tl_nil ?_
                          all_goals (
                           first
                           | (have hox : x.op.getD h false = true := by assumption
                              have h1 : cnO x.op (h + 1) = cnO x.op h + 1 := by rw [cnO, if_pos hox]
                              have h2 : akK q0 l x.op (h + 1) = { akK q0 l x.op h with hol := hwN l q0.hol (h + 1), opn := (owN l x.op q0.opn h).set (l.getD h 0).toNat true } := by unfold akK; rw [owN, if_pos hox]
                              exact tk_round (h + 1) (by omega) (by omega) (.cons rfl (.cons rfl (.cons rfl (.cons rfl (.cons rfl (.cons rfl (.cons rfl (.cons rfl (.cons (by rw [h1]; rfl) (.cons rfl .nil)))))))))) (fun _ hg => by rw [h2]; exact hg.subl SB.s SB.s))
                           | (have hox : x.op.getD h false = false := by assumption
                              have h1 : cnO x.op (h + 1) = cnO x.op h := by rw [cnO, if_neg (by rw [hox]; decide), Int.add_zero]
                              have h2 : akK q0 l x.op (h + 1) = { akK q0 l x.op h with hol := hwN l q0.hol (h + 1) } := by unfold akK; rw [owN, if_neg (by rw [hox]; decide)]
                              exact tk_round (h + 1) (by omega) (by omega) (.cons rfl (.cons rfl (.cons rfl (.cons rfl (.cons rfl (.cons rfl (.cons rfl (.cons rfl (.cons (by rw [h1]; rfl) (.cons rfl .nil)))))))))) (fun _ hg => by rw [h2]; exact hg.subl SB.s SB.s)))
                        · all_goals (skip)
                          all_goals refine tc_skip ?_; ((refine hK21 ?_; try (clear hK21; clear K21)))
                          all_goals refine tc_region ?_; refine tl_q (y_move rfl) rfl ?_; refine tl_q (y_add rfl rfl (by omega)) rfl ?_; refine tl_q (y_assign rfl) rfl ?_; refine tl_nil ?_
                          all_goals (
                           first
                           | (have hox : x.op.getD h false = true := by assumption
                              have h1 : cnO x.op (h + 1) = cnO x.op h + 1 := by rw [cnO, if_pos hox]
                              have h2 : akK q0 l x.op (h + 1) = { akK q0 l x.op h with hol := hwN l q0.hol (h + 1), opn := (owN l x.op q0.opn h).set (l.getD h 0).toNat true } := by unfold akK; rw [owN, if_pos hox]
                              exact tk_round (h + 1) (by omega) (by omega) (.cons rfl (.cons rfl (.cons rfl (.cons rfl (.cons rfl (.cons rfl (.cons rfl (.cons rfl (.cons (by rw [h1]; rfl) (.cons rfl .nil)))))))))) (fun _ hg => by rw [h2]; exact hg.subl SB.s SB.s))
                           | (have hox : x.op.getD h false = false := by assumption
                              have h1 : cnO x.op (h + 1) = cnO x.op h := by rw [cnO, if_neg (by rw [hox]; decide), Int.add_zero]
                              have h2 : akK q0 l x.op (h + 1) = { akK q0 l x.op h with hol := hwN l q0.hol (h + 1) } := by unfold akK; rw [owN, if_neg (by rw [hox]; decide)]
                              exact tk_round (h + 1) (by omega) (by omega) (.cons rfl (.cons rfl (.cons rfl (.cons rfl (.cons rfl (.cons rfl (.cons rfl (.cons rfl (.cons (by rw [h1]; rfl) (.cons rfl .nil)))))))))) (fun _ hg => by rw [h2]; exact hg.subl SB.s SB.s))))
                     · try simp only [qn1, qn2, qn3, qn4, qn5, qn6, qn7, qn8] at hc
                       all_goals refine tc_exit ?_; ((refine hK17 ?_; try (clear hK17; clear K17)))
                       all_goals refine tc_seq fun K25 hK25 => ?_; refine tc_seq fun K26 hK26 => ?_; (obtain ⟨sm0, hsm0⟩ : ∃ sm0, sm0 = (akK q0 l x.op h).sm := ⟨_, rfl⟩)
                       all_goals refine tc_region ?_; refine tl_q (y_field rfl) rfl ?_; refine tl_q (y_load1 (v := .bool (akK q0 l x.op h).sm) rfl (by repeat constructor) (cellA (getA_s hko))) rfl ?_; refine tl_q (y_not rfl) rfl ?_; refine tl_q (y_move rfl) rfl ?_; ((refine tl_gs rfl rfl (fun hc => ?_) (fun hc => ?_) <;> (try simp only [qn1, qn2, qn3, qn4, qn5, qn6, qn7, qn8] at hc) <;> (first | refine tl_sk rfl rfl rfl rfl ?_ | refine tl_qg rfl rfl (y_move rfl) rfl ?_)))
                       all_goals (first | refine tl_sk rfl rfl rfl rfl ?_ | refine tl_qg rfl rfl (y_field rfl) rfl ?_); (first | refine tl_sk rfl rfl rfl rfl ?_ | refine tl_qg rfl rfl (y_load1 (v := vi (akK q0 l x.op h).least) rfl (by repeat constructor) (cellA (getA_l hko))) rfl ?_); (first | refine tl_sk rfl rfl rfl rfl ?_ | refine tl_qg rfl rfl (y_lss rfl rfl) rfl ?_); (first | refine tl_q (y_pick_t rfl rfl) rfl ?_ | refine tl_q (y_pick_f rfl rfl) rfl ?_); refine tl_nil ?_; ((refine hK26 ?_; try (clear hK26; clear K26)))
                       all_goals (
                        refine tc_cond rfl (fun hc => ?_) (fun hc => ?_)
                        · try simp only [qn1, qn2, qn3, qn4, qn5, qn6, qn7, qn8] at hc
                          all_goals refine tc_region ?_; refine tl_q (y_move rfl) rfl ?_; refine tl_q (y_field rfl) rfl ?_; ((refine tl_e (e_storeQ 44 (q := akK q0 l x.op h) { akK q0 l x.op h with least := cnO x.op h } rfl rfl rfl rfl rfl (setA_l hko _) (by rw [akL_len hko]; decide) (by repeat constructor)) rfl (fun _ _ => ?_)))
                          all_goals refine tl_nil ?_; ((refine hK25 ?_; try (clear hK25; clear K25)))
                          all_goals refine tc_region ?_; refine tl_q (y_field rfl) rfl ?_; refine tl_q (y_load1 (v := vi ({ akK q0 l x.op h with least := cnO x.op h } : Akd).most) rfl (by repeat constructor) (cellA (getA_m (q := { akK q0 l x.op h with least := cnO x.op h }) ⟨hko.h, hko.o⟩))) rfl ?_; refine tl_q (y_move rfl) rfl ?_; refine tl_q (y_max rfl rfl) rfl ?_; refine tl_q (y_field rfl) rfl ?_; ((refine tl_e (e_storeQ 45 (q := { akK q0 l x.op h with least := cnO x.op h }) { akK q0 l x.op h with least := cnO x.op h, most := max (akK q0 l x.op h).most (cnO x.op h) } rfl rfl rfl rfl rfl (setA_m (q := { akK q0 l x.op h with least := cnO x.op h }) ⟨hko.h, hko.o⟩ _) (by rw [akL_len (q := { akK q0 l x.op h with least := cnO x.op h }) ⟨hko.h, hko.o⟩]; decide) (by repeat constructor)) rfl (fun _ _ => ?_)))
                          all_goals refine tl_q (y_field rfl) rfl ?_; ((refine tl_e (e_storeQ 46 (q := { akK q0 l x.op h with least := cnO x.op h, most := max (akK q0 l x.op h).most (cnO x.op h) }) { akK q0 l x.op h with least := cnO x.op h, most := max (akK q0 l x.op h).most (cnO x.op h), sm := true } rfl rfl rfl rfl rfl (setA_s (q := { akK q0 l x.op h with least := cnO x.op h, most := max (akK q0 l x.op h).most (cnO x.op h) }) ⟨hko.h, hko.o⟩ _) (by rw [akL_len (q := { akK q0 l x.op h with least := cnO x.op h, most := max (akK q0 l x.op h).most (cnO x.op h) }) ⟨hko.h, hko.o⟩]; decide) (by repeat constructor)) rfl (fun _ _ => ?_)))
                          all_goals refine tl_nil ?_; ((refine hK15 ?_; try (clear hK15; clear K15)))
                          all_goals refine tc_region ?_; refine tl_q (y_move rfl) rfl ?_; refine tl_q (y_add rfl rfl (by omega)) rfl ?_; refine tl_q (y_assign rfl) rfl ?_; refine tl_nil ?_
                          all_goals (
                           have hhn : h = hrsN s := by show h = (s.L + 1).toNat; omega
                           have hsn : asR s (evT s b n ++ evF l ws (i + 1)) = askE s q0 (l, x.op) := by rw [evF_succ hiw, ← List.append_assoc, asR_snoc, ← hq0, ← hx]
                           first
                           | (have g0 : ¬ (q0.sm = true ∧ ¬ cnO x.op h < q0.least) := by
                                first
                                | (have g1 : q0.sm = false := by assumption
                                   exact fun g => Bool.noConfusion (g1.symm.trans g.1))
                                | (have g1 : cnO x.op h < q0.least := by assumption
                                   exact fun g => g.2 g1)
                              have hE : askE s q0 (l, x.op) = { akK q0 l x.op h with least := cnO x.op h, most := max (akK q0 l x.op h).most (cnO x.op h), sm := true } := by
                                unfold askE akK
                                rw [← hhn, if_neg g0]
                              exact tk_round (i + 1) (by omega) (by omega) (.cons rfl (.cons rfl (.cons rfl (.cons rfl (.cons rfl (.cons rfl (.cons rfl (.cons rfl .nil)))))))) (fun _ hg => by rw [hsn, hE]; exact hg.subl SB.s SB.s))
                           | (have g1 : q0.sm = true := by assumption
                              have g2 : q0.least ≤ cnO x.op h := by assumption
                              have g3 : ¬ cnO x.op h < q0.least := by omega
                              have hE : askE s q0 (l, x.op) = { akK q0 l x.op h with most := max (akK q0 l x.op h).most (cnO x.op h), sm := true } := by
                                unfold askE akK
                                rw [← hhn, if_pos ⟨g1, g3⟩]
                              exact tk_round (i + 1) (by omega) (by omega) (.cons rfl (.cons rfl (.cons rfl (.cons rfl (.cons rfl (.cons rfl (.cons rfl (.cons rfl .nil)))))))) (fun _ hg => by rw [hsn, hE]; exact hg.subl SB.s SB.s)))
                        · try simp only [qn1, qn2, qn3, qn4, qn5, qn6, qn7, qn8] at hc
                          all_goals ((first | (exfalso; with_reducible exact btf hc) | skip))
                          all_goals refine tc_skip ?_; ((refine hK25 ?_; try (clear hK25; clear K25)))
                          all_goals refine tc_region ?_; refine tl_q (y_field rfl) rfl ?_; refine tl_q (y_load1 (v := vi (akK q0 l x.op h).most) rfl (by repeat constructor) (cellA (getA_m hko))) rfl ?_; refine tl_q (y_move rfl) rfl ?_; refine tl_q (y_max rfl rfl) rfl ?_; refine tl_q (y_field rfl) rfl ?_; ((refine tl_e (e_storeQ 45 (q := akK q0 l x.op h) { akK q0 l x.op h with most := max (akK q0 l x.op h).most (cnO x.op h) } rfl rfl rfl rfl rfl (setA_m hko _) (by rw [akL_len hko]; decide) (by repeat constructor)) rfl (fun _ _ => ?_)))
                          all_goals refine tl_q (y_field rfl) rfl ?_; ((refine tl_e (e_storeQ 46 (q := { akK q0 l x.op h with most := max (akK q0 l x.op h).most (cnO x.op h) }) { akK q0 l x.op h with most := max (akK q0 l x.op h).most (cnO x.op h), sm := true } rfl rfl rfl rfl rfl (setA_s (q := { akK q0 l x.op h with most := max (akK q0 l x.op h).most (cnO x.op h) }) ⟨hko.h, hko.o⟩ _) (by rw [akL_len (q := { akK q0 l x.op h with most := max (akK q0 l x.op h).most (cnO x.op h) }) ⟨hko.h, hko.o⟩]; decide) (by repeat constructor)) rfl (fun _ _ => ?_)))
                          all_goals refine tl_nil ?_; ((refine hK15 ?_; try (clear hK15; clear K15)))
                          all_goals refine tc_region ?_; refine tl_q (y_move rfl) rfl ?_; refine tl_q (y_add rfl rfl (by omega)) rfl ?_; refine tl_q (y_assign rfl) rfl ?_; refine tl_nil ?_
                          all_goals (
                           have hhn : h = hrsN s := by show h = (s.L + 1).toNat; omega
                           have hsn : asR s (evT s b n ++ evF l ws (i + 1)) = askE s q0 (l, x.op) := by rw [evF_succ hiw, ← List.append_assoc, asR_snoc, ← hq0, ← hx]
                           first
                           | (have g0 : ¬ (q0.sm = true ∧ ¬ cnO x.op h < q0.least) := by
                                first
                                | (have g1 : q0.sm = false := by assumption
                                   exact fun g => Bool.noConfusion (g1.symm.trans g.1))
                                | (have g1 : cnO x.op h < q0.least := by assumption
                                   exact fun g => g.2 g1)
                              have hE : askE s q0 (l, x.op) = { akK q0 l x.op h with least := cnO x.op h, most := max (akK q0 l x.op h).most (cnO x.op h), sm := true } := by
                                unfold askE akK
                                rw [← hhn, if_neg g0]
                              exact tk_round (i + 1) (by omega) (by omega) (.cons rfl (.cons rfl (.cons rfl (.cons rfl (.cons rfl (.cons rfl (.cons rfl (.cons rfl .nil)))))))) (fun _ hg => by rw [hsn, hE]; exact hg.subl SB.s SB.s))
                           | (have g1 : q0.sm = true := by assumption
                              have g2 : q0.least ≤ cnO x.op h := by assumption
                              have g3 : ¬ cnO x.op h < q0.least := by omega
                              have hE : askE s q0 (l, x.op) = { akK q0 l x.op h with most := max (akK q0 l x.op h).most (cnO x.op h), sm := true } := by
                                unfold askE akK
                                rw [← hhn, if_pos ⟨g1, g3⟩]
                              exact tk_round (i + 1) (by omega) (by omega) (.cons rfl (.cons rfl (.cons rfl (.cons rfl (.cons rfl (.cons rfl (.cons rfl (.cons rfl .nil)))))))) (fun _ hg => by rw [hsn, hE]; exact hg.subl SB.s SB.s))))))
               · try simp only [qn1, qn2, qn3, qn4, qn5, qn6, qn7, qn8] at hc
                 all_goals refine tc_exit ?_; ((refine hK7 ?_; try (clear hK7; clear K7)))
                 all_goals refine tc_region ?_; refine tl_q (y_move rfl) rfl ?_; refine tl_q (y_add rfl rfl (by omega)) rfl ?_; refine tl_q (y_assign rfl) rfl ?_; refine tl_nil ?_
                 all_goals (
                  first
                  | (have hE : evT s b (n + 1) = evT s b n := by rw [evT, evN, hhf, List.append_nil]
                     exact tk_round (n + 1) (by omega) (by omega) (.cons rfl (.cons rfl (.cons rfl (.cons rfl (.cons rfl .nil))))) (fun _ hg => by rw [hE]; exact hg.subl SB.s SB.s))
                  | (obtain rfl : i = ws.length := by omega
                     have hE : evT s b (n + 1) = evT s b n ++ evF l ws ws.length := by rw [evT, evN, hhf]; unfold evF evL; rw [List.take_of_length_le (Nat.le_refl _), hws]
                     exact tk_round (n + 1) (by omega) (by omega) (.cons rfl (.cons rfl (.cons rfl (.cons rfl (.cons rfl .nil))))) (fun _ hg => by rw [hE]; exact hg.subl SB.s SB.s))))))
      · try simp only [qn1, qn2, qn3, qn4, qn5, qn6, qn7, qn8] at hc
        all_goals refine tc_exit ?_; ((refine hK3 ?_; try (clear hK3; clear K3)))
        all_goals refine tc_seq fun K27 hK27 => ?_; refine tc_region ?_; refine tl_q (y_loadW rfl (by repeat constructor) (by rw [List.size_toArray, akL_len ⟨(hev n).h, (hev n).o⟩])) rfl ?_; refine tl_e (e_storeW rfl rfl (by repeat constructor) (by rw [List.size_toArray, akL_len ⟨(hev n).h, (hev n).o⟩]) (by rfl) (akL_one _)) rfl (fun _ _ => ?_); refine tl_nil ?_; ((refine hK27 ?_; try (clear hK27; clear K27)))
        all_goals refine tc_ret ?_; (repeat (first | refine tk_then_ret ?_))
        all_goals (refine tk_ret rfl rfl (.cons (.agg inferInstance rfl (by repeat constructor) (by rw [List.size_toArray, akL_len ⟨(hev n).h, (hev n).o⟩])) .nil) ?_)
        all_goals (
         obtain rfl : n = (manyS s.ps).toNat := by omega
         exact fun w' hw' => ⟨rfl, hw'.fr (w0 := w) (S := []) MI.m⟩)))
end Go.Sp
/-
  SampleFirst, walked.
-/
namespace Go.Sp
open Go Go.Proofs
end Go.Sp
/-
  The reference's First and Leave; SampleLeaves, walked.
-/
namespace Go.Sp
open Go Go.Proofs
def fewS (s : Smp) (m : Int) : Prop := thinS s ∧ (¬ chkS s = 0 ∨ (manyS s.ps ≤ m ∧ s.L ≤ 6 ∧ (s.ps.length : Int) + (s.sg.length : Int) ≤ 8))
instance (s : Smp) (m : Int) : Decidable (fewS s m) := by unfold fewS; infer_instance
theorem lfew_c (s : Smp) (m : Int) (tv pv gv : Value) (w : World) (hr : RdSm w s tv pv gv) : CnV Tryz.prog 15 #[smV s tv pv gv, vi m] w (.bool (decide (fewS s m))) := by
  have hr0 := hr
  obtain ⟨adt, cpt, _, _, rfl, _, _⟩ := hr.st.open boE_len false
  obtain ⟨adp, cpp, _, _, rfl, _, _⟩ := hr.ps.open psE_len pas0
  obtain ⟨adg, cpg, _, _, rfl, _, _⟩ := hr.sg.open sgE_len sgt0
  refine cnv (vs := [_, _]) Tryz.func15 rfl rfl ?_
  all_goals refine tc_seq fun K1 hK1 => ?_; refine tc_region ?_; refine tl_e (e_box rfl rfl rfl) rfl (fun b2 _ => ?_); refine tl_q (y_assign rfl) rfl ?_; refine tl_nil ?_; ((refine hK1 ?_; try (clear hK1; clear K1)))
  all_goals refine tc_seq fun K2 hK2 => ?_; refine tc_region ?_; refine tl_q (y_loadW rfl (by repeat constructor) (by rfl)) rfl ?_; refine tl_e (e_callV rfl (.cons rfl .nil) (fun w' hw' => thin_c s _ _ _ w' (hr0.fr (hw'.fr (w0 := w) (S := []) MI.m)))) rfl (fun _ _ => ?_); refine tl_q (y_move rfl) rfl ?_; ((refine tl_gs rfl rfl (fun hc => ?_) (fun hc => ?_) <;> (try simp only [qn1, qn2, qn3, qn4, qn5, qn6, qn7, qn8] at hc) <;> (first | refine tl_sk rfl rfl rfl rfl ?_ | refine tl_qg rfl rfl (y_loadW rfl (by repeat constructor) (by rfl)) rfl ?_)))
  all_goals (first | refine tl_sk rfl rfl rfl rfl ?_ | refine tl_eg rfl rfl rfl (e_callV rfl (.cons rfl .nil) (fun w' hw' => rFault_c s _ _ _ w' (hr0.fr (hw'.fr (w0 := w) (S := []) MI.m)) (thinS.few (by assumption)))) (fun _ _ => ?_)); (first | refine tl_sk rfl rfl rfl rfl ?_ | refine tl_qg rfl rfl (y_neq rfl rfl) rfl ?_); (first | refine tl_sk rfl rfl rfl rfl ?_ | refine tl_qg rfl rfl (y_move rfl) rfl ?_); ((first | refine tl_su rfl rfl rfl ?_ | (refine tl_gs rfl rfl (fun hc => ?_) (fun hc => ?_) <;> (try simp only [qn1, qn2, qn3, qn4, qn5, qn6, qn7, qn8] at hc) <;> (first | refine tl_sk rfl rfl rfl rfl ?_ | refine tl_qg rfl rfl (y_loadW rfl (by repeat constructor) (by rfl)) rfl ?_))))
  all_goals (first | refine tl_sk rfl rfl rfl rfl ?_ | refine tl_eg rfl rfl rfl (e_callV rfl (.cons rfl .nil) (fun w' hw' => rMany_v s (chkS_0.1 (by assumption)) _ _ _ w' (hr0.fr (hw'.fr (w0 := w) (S := []) MI.m)))) (fun _ _ => ?_) | refine tl_su rfl rfl rfl ?_); (first | refine tl_sk rfl rfl rfl rfl ?_ | refine tl_qg rfl rfl (y_move rfl) rfl ?_ | refine tl_su rfl rfl rfl ?_); (first | refine tl_sk rfl rfl rfl rfl ?_ | refine tl_qg rfl rfl (y_leq rfl rfl) rfl ?_ | refine tl_su rfl rfl rfl ?_); (first | refine tl_sk rfl rfl rfl rfl ?_ | refine tl_qg rfl rfl (y_move rfl) rfl ?_ | refine tl_su rfl rfl rfl ?_); ((first | refine tl_su rfl rfl rfl ?_ | (refine tl_gs rfl rfl (fun hc => ?_) (fun hc => ?_) <;> (try simp only [qn1, qn2, qn3, qn4, qn5, qn6, qn7, qn8] at hc) <;> (first | refine tl_sk rfl rfl rfl rfl ?_ | refine tl_qg rfl rfl (y_field rfl) rfl ?_))))
  all_goals (first | refine tl_sk rfl rfl rfl rfl ?_ | refine tl_qg rfl rfl (y_load1 rfl (by repeat constructor) (by rfl)) rfl ?_ | refine tl_su rfl rfl rfl ?_); (first | refine tl_sk rfl rfl rfl rfl ?_ | refine tl_qg rfl rfl (y_leq rfl rfl) rfl ?_ | refine tl_su rfl rfl rfl ?_); (first | refine tl_sk rfl rfl rfl rfl ?_ | refine tl_qg rfl rfl (y_pick_t rfl rfl) rfl ?_ | refine tl_qg rfl rfl (y_pick_f rfl rfl) rfl ?_ | refine tl_su rfl rfl rfl ?_); (first | refine tl_sk rfl rfl rfl rfl ?_ | refine tl_qg rfl rfl (y_move rfl) rfl ?_ | refine tl_su rfl rfl rfl ?_); ((first | refine tl_sk rfl rfl rfl rfl ?_ | refine tl_su rfl rfl rfl ?_ | (refine tl_gs rfl rfl (fun hc => ?_) (fun hc => ?_) <;> (try simp only [qn1, qn2, qn3, qn4, qn5, qn6, qn7, qn8] at hc) <;> (first | refine tl_sk rfl rfl rfl rfl ?_ | refine tl_qg rfl rfl (y_field rfl) rfl ?_))))
  all_goals (first | refine tl_sk rfl rfl rfl rfl ?_ | refine tl_qg rfl rfl (y_load1 rfl (by repeat constructor) (by rfl)) rfl ?_ | refine tl_su rfl rfl rfl ?_); (first | refine tl_sk rfl rfl rfl rfl ?_ | refine tl_qg rfl rfl (y_len rfl) rfl ?_ | refine tl_su rfl rfl rfl ?_); (first | refine tl_sk rfl rfl rfl rfl ?_ | refine tl_qg rfl rfl (y_field rfl) rfl ?_ | refine tl_su rfl rfl rfl ?_); (first | refine tl_sk rfl rfl rfl rfl ?_ | refine tl_qg rfl rfl (y_load1 rfl (by repeat constructor) (by rfl)) rfl ?_ | refine tl_su rfl rfl rfl ?_); (first | refine tl_sk rfl rfl rfl rfl ?_ | refine tl_qg rfl rfl (y_len rfl) rfl ?_ | refine tl_su rfl rfl rfl ?_); ((first | refine tl_sk rfl rfl rfl rfl ?_ | refine tl_qg rfl rfl (y_add rfl rfl (by have h : thinS s := (by assumption); have h2 := h.2.1; have h3 := h.2.2; omega)) rfl ?_ | refine tl_su rfl rfl rfl ?_))
  all_goals (first | refine tl_sk rfl rfl rfl rfl ?_ | refine tl_qg rfl rfl (y_leq rfl rfl) rfl ?_ | refine tl_su rfl rfl rfl ?_); (first | refine tl_sk rfl rfl rfl rfl ?_ | refine tl_qg rfl rfl (y_pick_t rfl rfl) rfl ?_ | refine tl_qg rfl rfl (y_pick_f rfl rfl) rfl ?_ | refine tl_su rfl rfl rfl ?_); (first | refine tl_sk rfl rfl rfl rfl ?_ | refine tl_qg rfl rfl (y_pick_t rfl rfl) rfl ?_ | refine tl_qg rfl rfl (y_pick_f rfl rfl) rfl ?_); (first | refine tl_q (y_pick_t rfl rfl) rfl ?_ | refine tl_q (y_pick_f rfl rfl) rfl ?_); refine tl_q (y_assign rfl) rfl ?_; refine tl_nil ?_; ((refine hK2 ?_; try (clear hK2; clear K2)))
  all_goals refine tc_ret ?_; (repeat (first | refine tk_then_ret ?_))
  all_goals (refine tk_ret rfl rfl (.cons (.tmp rfl) .nil) ?_)
  all_goals (
   refine fun w' hw' => ⟨congrArg (fun b => Ending.returned (Value.bool b)) ?_, hw'.fr (w0 := w) (S := []) MI.m⟩
   by_cases ht : thinS s
   · by_cases h0 : chkS s = 0
     · first
       | contradiction
       | exact (decide_eq_false (fun h => by rcases h.2 with h | h <;> omega)).symm
       | exact decide_eq_decide.2 ⟨fun h => ⟨ht, .inr ⟨by omega, by omega, by omega⟩⟩, fun h => by rcases h.2 with h | h <;> omega⟩
     · first
       | contradiction
       | exact (decide_eq_true (show fewS s m from ⟨ht, .inl h0⟩)).symm
   · first
     | contradiction
     | exact (decide_eq_false (fun h => ht h.1)).symm)
end Go.Sp
