
/-
  A truth is a way; bottles without stamps: plainly.
-/
import Derived.Test.YtgfpkpiigkcndaaGreatM4
import Derived.Laws.AppendOwn
import Derived.Test.YtgfpkpiigkcndaaGreatRows
import Derived.ProofKit
import Derived.OpenShut
import Derived.Carry
import Derived.Deep.Fields
set_option linter.unusedVariables false
set_option linter.unusedSimpArgs false
set_option linter.deprecated false
namespace Go.Sp
open Go Go.Proofs
def opA (a : Int) : Bool := decide (a = 1) || decide (a = 3)
theorem stepL_act {s : Smp} {b : Int} {h : Int} {st x : Bool} {a : Int} (hi : acIs x st a = true) (hs : seenB s b h (acY x a) = true) : (acY x a, if (x || opA a) = true then 1 else 0) ∈ stepL s b h st x := by
  have key : ∃ n : Nat, n < 4 ∧ actIs x st n = true ∧ acY x a = actY x n ∧ opA a = opF n := by
    unfold acIs acY opA at *
    by_cases h1 : a = 1
    · subst h1; exact ⟨1, by decide, hi, rfl, rfl⟩
    · by_cases h2 : a = 2
      · subst h2; exact ⟨2, by decide, hi, rfl, rfl⟩
      · by_cases h3 : a = 3
        · subst h3; exact ⟨3, by decide, hi, rfl, rfl⟩
        · exact ⟨0, by decide, rfl, by rw [if_neg h1, if_neg h2, if_neg h3]; rfl, by rw [decide_eq_false h1, decide_eq_false h3]; rfl⟩
  obtain ⟨n, hn, h1, h2, h3⟩ := key
  refine mem_stepL.2 ⟨n, hn, ⟨h1, by rw [← h2]; exact hs⟩, ?_⟩
  rw [h2, h3]
  cases x <;> cases opF n <;> rfl
/-- Whether the seal is broken at the beginning of an hour. -/
def brA (ws : List Bool) : Nat → Bool
  | 0 => false
  | h + 1 => !ws.getD h false
theorem brA_app {ws : List Bool} {w : Bool} {h : Nat} (hh : h ≤ ws.length) : brA (ws ++ [w]) h = brA ws h := by
  cases h with
  | zero => rfl
  | succ h =>
    show (!(ws ++ [w]).getD h false) = (!ws.getD h false)
    rw [getD_app1 (by omega)]
theorem whN_br {s : Smp} {b : Int} {c acts : List Int} : ∀ {h : Nat} {ws : List Bool} {br : Bool}, whN s b c acts h = some (ws, br) → br = brA ws h
  | 0, ws, br, e => by cases e; rfl
  | h + 1, ws, br, e => by
    have hl := whN_len e
    rw [whN] at e
    split at e
    · cases e
    · rename_i ws' br' h1
      split at e
      · cases e
        have := whN_len h1
        simp only at this
        show _ = (!(ws' ++ [_]).getD h false)
        rw [getD_app2 this.symm, Bool.not_not]
      · cases e
theorem wh_pre {s : Smp} {b : Int} {c acts : List Int} (hcl : (c.length : Int) = s.L + 1) : ∀ {h : Nat} {ws : List Bool} {br : Bool}, (h : Int) ≤ s.L + 1 → whN s b c acts h = some (ws, br) → ∃ rl, PreF s b (padC c) h rl br ∧ ∀ i, i < h → rl.getD i (false, 0) = (!ws.getD i false, if (brA ws i || opA (acts.getD i 0)) = true then 1 else 0)
  | 0, ws, br, _, e => by cases e; exact ⟨[], ⟨rfl, rfl⟩, fun i hi => absurd hi (Nat.not_lt_zero i)⟩
  | h + 1, ws, br, hh, e => by
    rw [whN] at e
    split at e
    · cases e
    · rename_i ws' br' h1
      split at e
      · rename_i hc
        cases e
        have hl := whN_len h1
        simp only at hl
        have hb := whN_br h1
        obtain ⟨rl, h2, h3⟩ := wh_pre hcl (by omega) h1
        have hstep := stepL_act (s := s) (b := b) (h := (h : Int)) hc.1 hc.2
        rw [stB_pad (by omega)] at hstep
        refine ⟨rl ++ [_], ⟨rl, _, br', rfl, h2, hstep, rfl⟩, fun i hi => ?_⟩
        have hrl := h2.len
        by_cases hih : i < h
        · rw [getD_app1 (by omega), getD_app1 (by omega), brA_app (by omega)]; exact h3 i hih
        · obtain rfl : i = h := by omega
          rw [getD_app2 hrl.symm, getD_app2 hl.symm, brA_app (by omega), ← hb, Bool.not_not]
      · cases e
theorem play_at {s : Smp} {t : Tth} : ∀ {n : Nat} {q : List (List Int) × List (List Bool)}, playN s t n = some q → ∀ j, j < n → playB s t j = some (q.1.getD j [], q.2.getD j [])
  | 0, _, _, j, hj => absurd hj (Nat.not_lt_zero j)
  | n + 1, q, e, j, hj => by
    have hl := playN_len e
    rw [playN] at e
    split at e
    · cases e
    · rename_i q' h1
      split at e
      · cases e
      · rename_i l ws h2
        cases e
        have hl' := playN_len h1
        by_cases hjn : j < n
        · simp only
          rw [getD_app1 (by omega), getD_app1 (by omega)]; exact play_at h1 j hjn
        · obtain rfl : j = n := by omega
          simp only
          rw [getD_app2 hl'.1.symm, getD_app2 hl'.2.symm]; exact h2
/-- A truth of a bottle: who has it, and a way. -/
theorem truth_run {s : Smp} (hv : VSm s) {t : Tth} (hr : InR s.ps t.hs) {j : Nat} {l : List Int} {ws : List Bool} (hp : playB s t j = some (l, ws)) :
    padC l ∈ chainsL s j ∧ canF s j (padC l) = true ∧ (l.length : Int) = s.L + 1 ∧ (ws.length : Int) = s.L + 1 ∧ ∃ rl, RunF s j (padC l) (s.L + 1).toNat false rl ∧ ∀ i : Nat, (i : Int) ≤ s.L → rl.getD i (false, 0) = (!ws.getD i false, if (brA ws i || opA ((t.ac.getD j []).getD i 0)) = true then 1 else 0) := by
  have hl0 := hv.l0
  unfold playB at hp
  split at hp
  · cases hp
  · rename_i l' h1
    split at hp
    · cases hp
    · rename_i q h2
      cases hp
      have hlo := heldF_ok hv h1
      obtain ⟨ws, br⟩ := q
      obtain ⟨rl, h3, h4⟩ := wh_pre hlo.1 (by omega) h2
      have hrun : RunF s j (padC l) (s.L + 1).toNat false (rl ++ []) := h3.join (by omega) (by
        rw [show (s.L + 1 - (((s.L + 1).toNat : Nat) : Int)).toNat = 0 from by omega]; rfl)
      rw [List.append_nil] at hrun
      have hwl := whN_len h2
      simp only at hwl
      refine ⟨?_, ?_, hlo.1, by simp only; omega, rl, hrun, fun i hi => h4 i (by omega)⟩
      · unfold heldF at h1
        obtain ⟨q', h5, h6⟩ := Option.map_eq_some_iff.1 h1
        exact (chains_iff hv.ple _).2 ⟨t.hs, q', hr, h5, by rw [h6]⟩
      · unfold canF
        exact rst_run.2 ⟨rl, hrun⟩
theorem truth_cons {s : Smp} (hv : VSm s) {t : Tth} (hr : InR s.ps t.hs) (hp : (playF s t).isSome = true) : consF s = true := by
  obtain ⟨q, hq⟩ := Option.isSome_iff_exists.1 hp
  refine consF_yes fun k hk => ?_
  obtain ⟨h1, h2, _⟩ := truth_run hv hr (play_at hq k hk)
  exact List.any_eq_true.2 ⟨_, h1, h2⟩
end Go.Sp
/-
  SampleSealed, walked.
-/
namespace Go.Sp
open Go Go.Proofs
theorem sum_app (a b : List (Bool × Int)) : sumR (a ++ b) = sumR a + sumR b := by
  unfold sumR
  rw [List.map_append, List.sum_append]
end Go.Sp
/-
  Sights of a truth; who can have opened a bottle; plainly.
-/
namespace Go.Sp
open Go Go.Proofs
abbrev sgS (x : Smp) (sg : List Sgt) : Smp := { x with sg := sg }
theorem pasN_sgS (x : Smp) (sg : List Sgt) (k : Int) (ts : List Int) (h a0 : Int) : ∀ n, pasN (sgS x sg) k ts h a0 n = pasN x k ts h a0 n
  | 0 => rfl
  | n + 1 => by rw [pasN, pasN, pasN_sgS x sg k ts h a0 n]
theorem chN_sgS (x : Smp) (sg : List Sgt) (k : Int) (ts : List Int) : ∀ n, chN (sgS x sg) k ts n = chN x k ts n
  | 0 => rfl
  | n + 1 => by
    rw [chN, chN, chN_sgS x sg k ts n]
    cases chN x k ts n with
    | none => rfl
    | some q =>
      obtain ⟨c, a⟩ := q
      simp only
      rw [pasN_sgS]
theorem heldF_sgS (x : Smp) (sg : List Sgt) (k : Int) (ts : List Int) : heldF (sgS x sg) k ts = heldF x k ts := by
  unfold heldF
  rw [chN_sgS]
theorem whN_sgS {x : Smp} {sg : List Sgt} {k : Int} {c acts : List Int} : ∀ {h : Nat} {ws : List Bool} {br : Bool}, (∀ g ∈ sg, g.b = k → 0 ≤ g.h ∧ (g.h < h → ws.getD g.h.toNat false = g.wh)) → whN x k c acts h = some (ws, br) → whN (sgS x sg) k c acts h = some (ws, br)
  | 0, ws, br, _, e => e
  | h + 1, ws, br, hg, e => by
    rw [whN] at e
    split at e
    · cases e
    · rename_i ws' br' h1
      split at e
      · rename_i hc
        have hl := whN_len h1
        simp only at hl
        cases e
        have e1 := whN_sgS (x := x) (sg := sg) (k := k) (c := c) (acts := acts) (fun g hgm hb => ⟨(hg g hgm hb).1, fun hlt => by
          have h2 := (hg g hgm hb).1
          have := (hg g hgm hb).2 (by omega)
          rwa [getD_app1 (by omega)] at this⟩) h1
        have hsn : seenB (sgS x sg) k h (acY br' (acts.getD h 0)) = true := by
          refine List.all_eq_true.2 fun g hgm => ?_
          unfold sgB
          by_cases hb : g.b = k
          · by_cases hh : g.h = (h : Int)
            · have hw := (hg g hgm hb).2 (by omega)
              rw [show g.h.toNat = ws'.length from by omega, getD_app2 rfl] at hw
              rw [← hw]
              cases acY br' (acts.getD h 0) <;> simp
            · rw [decide_eq_true hh]; simp
          · rw [decide_eq_true hb]; simp
        rw [whN, e1]
        simp only
        exact if_pos ⟨hc.1, hsn⟩
      · cases e
structure SgOk (x : Smp) (q : List (List Int) × List (List Bool)) (sg : List Sgt) : Prop where
  n6 : sg.length ≤ 6
  v : ∀ g ∈ sg, ((0 ≤ g.b ∧ g.b < x.B) ∧ 0 ≤ g.h ∧ g.h ≤ x.L) ∧ (q.2.getD g.b.toNat []).getD g.h.toNat false = g.wh
theorem SgOk.nil (x : Smp) (q : List (List Int) × List (List Bool)) : SgOk x q [] := ⟨by simp, fun g hg => by cases hg⟩
theorem SgOk.snoc {x : Smp} {q : List (List Int) × List (List Bool)} {sg : List Sgt} (h : SgOk x q sg) (hl : sg.length < 6) {b k : Nat} (hb : (b : Int) < x.B) (hk : (k : Int) ≤ x.L) : SgOk x q (sg ++ [⟨b, k, (q.2.getD b []).getD k false⟩]) := by
  refine ⟨by simp; omega, fun g hg => ?_⟩
  rcases List.mem_append.1 hg with hg | hg
  · exact h.v g hg
  · obtain rfl := List.mem_singleton.1 hg
    exact ⟨⟨⟨by dsimp only; omega, hb⟩, by dsimp only; omega, hk⟩, rfl⟩
theorem SgOk.vsm {x : Smp} (hv : VSm x) {q : List (List Int) × List (List Bool)} {sg : List Sgt} (h : SgOk x q sg) : VSm (sgS x sg) :=
  ⟨hv.b1, hv.b3, hv.p1, hv.p4, hv.l0, hv.l9, hv.f0, hv.f1, hv.st, hv.n6, h.n6, hv.ps, fun g hg => (h.v g hg).1, hv.many⟩
theorem playN_eq {x y : Smp} {t : Tth} : ∀ {n : Nat}, (∀ j, j < n → playB y t j = playB x t j) → playN y t n = playN x t n
  | 0, _ => rfl
  | n + 1, h => by
    rw [playN, playN, playN_eq (n := n) fun j hj => h j (by omega), h n (by omega)]
theorem SgOk.play {x : Smp} {t : Tth} {q : List (List Int) × List (List Bool)} {sg : List Sgt} (h : SgOk x q sg) (hq : playF x t = some q) : playF (sgS x sg) t = some q := by
  refine Eq.trans ?_ hq
  refine playN_eq fun k hk => ?_
  have hk' : k < x.B.toNat := hk
  have hp := play_at hq k hk'
  rw [hp]
  unfold playB at hp ⊢
  rw [heldF_sgS]
  split at hp
  · cases hp
  · rename_i l h1
    split at hp
    · cases hp
    · rename_i qq h2
      obtain ⟨ws, br⟩ := qq
      injection hp with hp
      injection hp with e1 e2
      simp only at e2
      have h3 := whN_sgS (x := x) (sg := sg) (k := (k : Int)) (fun g hgm hb => by
        have := h.v g hgm
        refine ⟨this.1.2.1, fun _ => ?_⟩
        rw [← this.2, hb, Int.toNat_natCast, e2]) h2
      have h4 : whN (sgS x sg) (k : Int) l (t.ac.getD k []) ((sgS x sg).L + 1).toNat = some (ws, br) := h3
      subst e1
      simp only
      rw [h4]
      simp only
      rw [e2]
theorem wthF_nil (s : Smp) : wthF s [] = s := by
  have h1 : wpN s [] s.ps.length = s.ps := by
    have h := filt_getD s.ps pas0 fun _ => true
    have e : s.ps.filter (fun _ => true) = s.ps := List.filter_eq_self.2 (fun _ _ => rfl)
    refine (Eq.trans ?_ h).trans e
    unfold wpN
    simp only [List.not_mem_nil, decide_false, Bool.not_false]
  have h2 : wgN s [] s.sg.length = s.sg := by
    have h := filt_getD s.sg sgt0 fun _ => true
    have e : s.sg.filter (fun _ => true) = s.sg := List.filter_eq_self.2 (fun _ _ => rfl)
    refine (Eq.trans ?_ h).trans e
    unfold wgN
    simp only [List.not_mem_nil, decide_false, Bool.not_false]
  unfold wthF
  rw [h1, h2]
theorem lev_nil {s : Smp} (hv : VSm s) (hc : consF s = true) : levL s = [] := by
  rw [List.eq_nil_iff_forall_not_mem]
  intro e hm
  obtain ⟨b, hb, h1⟩ := (levL_mem hv).1 hm
  have h2 := ((lvF_min s (b : Int)).2.2 [] (List.nil_sublist _) (by rw [wthF_nil]; exact cons_poss hc hb)).1
  have h3 := List.length_eq_zero_iff.1 (Nat.le_zero.1 h2)
  rw [h3] at h1
  cases h1
def opnB (ws : List Bool) (acts : List Int) (k : Nat) : Bool := brA ws k || opA (acts.getD k 0)
def cntB (ws : List Bool) (acts : List Int) : Nat → Int
  | 0 => 0
  | k + 1 => cntB ws acts k + if opnB ws acts k = true then 1 else 0
theorem cntB_bd (ws : List Bool) (acts : List Int) : ∀ n, 0 ≤ cntB ws acts n ∧ cntB ws acts n ≤ n
  | 0 => ⟨Int.le_refl _, Int.le_refl _⟩
  | n + 1 => by
    have := cntB_bd ws acts n
    rw [cntB]
    split <;> omega
theorem cntB_pos {ws : List Bool} {acts : List Int} : ∀ {n : Nat}, 0 < cntB ws acts n → ∃ k, k < n ∧ opnB ws acts k = true
  | 0, h => absurd h (Int.lt_irrefl 0)
  | n + 1, h => by
    rw [cntB] at h
    by_cases ho : opnB ws acts n = true
    · exact ⟨n, Nat.lt_succ_self n, ho⟩
    · rw [if_neg ho] at h
      obtain ⟨k, hk, h1⟩ := cntB_pos (ws := ws) (acts := acts) (n := n) (by omega)
      exact ⟨k, by omega, h1⟩
theorem sum_cnt {ws : List Bool} {acts : List Int} {rl : List (Bool × Int)} : ∀ {n : Nat}, n ≤ rl.length → (∀ i, i < n → (rl.getD i (false, 0)).2 = if opnB ws acts i = true then 1 else 0) → sumR (rl.take n) = cntB ws acts n
  | 0, _, _ => rfl
  | n + 1, hn, h => by
    rw [takeG_succ (d := (false, 0)) (by omega), sum_app, sum_cnt (n := n) (by omega) fun i hi => h i (by omega), cntB, ← h n (Nat.lt_succ_self n)]
    simp [sumR]
structure TrC (s : Smp) (t : Tth) (q : List (List Int) × List (List Bool)) (j : Nat) : Prop where
  l : ((q.1.getD j []).length : Int) = s.L + 1
  w : ((q.2.getD j []).length : Int) = s.L + 1
  h : ∀ k : Nat, (k : Int) ≤ s.L → (q.1.getD j []).getD k 0 ∈ hdL s j k ∧ (opnB (q.2.getD j []) (t.ac.getD j []) k = true → (q.1.getD j []).getD k 0 ∈ opL s j)
  m : (askF s j).least ≤ cntB (q.2.getD j []) (t.ac.getD j []) (s.L + 1).toNat
  v2 : 0 < cntB (q.2.getD j []) (t.ac.getD j []) (s.L + 1).toNat → ¬ verdF (askF s j) = 2
  v1 : cntB (q.2.getD j []) (t.ac.getD j []) (s.L + 1).toNat = 0 → ¬ verdF (askF s j) = 1
theorem padC_get {l : List Int} {k : Nat} (h : k < l.length) : (padC l).getD k 0 = l.getD k 0 := by
  unfold padC
  rw [List.getD_eq_getElem?_getD, List.getElem?_append_left h, ← List.getD_eq_getElem?_getD]
theorem truth_case {s : Smp} (hv : VSm s) {t : Tth} (hr : InR s.ps t.hs) {q : List (List Int) × List (List Bool)} (hq : playF s t = some q) {j : Nat} (hj : j < s.B.toNat) : TrC s t q j := by
  have hl0 := hv.l0
  have hc : consF s = true := truth_cons hv hr (by rw [hq]; rfl)
  have hb : 0 ≤ (j : Int) ∧ (j : Int) < s.B := by omega
  have hp := play_at hq j hj
  obtain ⟨h1, h2, h3, h4, rl, h5, h6⟩ := truth_run hv hr hp
  have hrl := h5.len
  have hop : ∀ k : Nat, (k : Int) ≤ s.L → opnB (q.2.getD j []) (t.ac.getD j []) k = true → (q.1.getD j []).getD k 0 ∈ opL s j := fun k hk ho => by
    refine (opL_mem hv (opE_ok hv hc hb)).2 ⟨_, h1, h2, k, hk, padC_get (by omega), (opn_run h2 hk).2 ⟨rl, h5, ?_⟩⟩
    rw [h6 k hk]
    exact if_pos ho
  have hsum : sumR rl = cntB (q.2.getD j []) (t.ac.getD j []) (s.L + 1).toNat := by
    have := sum_cnt (ws := q.2.getD j []) (acts := t.ac.getD j []) (rl := rl) (n := (s.L + 1).toNat) (by omega) (fun i hi => by rw [h6 i (by omega)]; rfl)
    rw [← this, List.take_of_length_le (by omega)]
  have hle : (askF s (j : Int)).least ≤ cntB (q.2.getD j []) (t.ac.getD j []) (s.L + 1).toNat := by
    have h7 := (ask_least (cons_poss hc hj)).2 _ h1 h2
    have hcc := h2
    unfold canF at hcc
    obtain ⟨m, hm⟩ := Option.isSome_iff_exists.1 hcc
    have h8 := (rst_min hm).2 rl h5
    unfold lsN at h7
    rw [hm] at h7
    rw [hsum] at h8
    exact Int.le_trans h7 h8
  refine ⟨h3, h4, fun k hk => ⟨(hdL_mem hv hk (hdE_ok hv hc hb ⟨by omega, hk⟩)).2 ⟨_, h1, h2, padC_get (by omega)⟩, hop k hk⟩, hle, fun h0 hv2 => ?_, fun h0 hv1 => ?_⟩
  · obtain ⟨k, hk, ho⟩ := cntB_pos h0
    have hm := hop k (by omega) ho
    have hn := opL_nil hv (opE_ok hv hc hb)
    unfold verdF at hv2
    split at hv2
    · cases hv2
    · split at hv2
      · rename_i h9
        have := hn.2 h9
        rw [List.length_eq_zero_iff] at this
        rw [this] at hm
        cases hm
      · cases hv2
  · unfold verdF at hv1
    split at hv1
    · omega
    · split at hv1 <;> cases hv1
end Go.Sp
/-
  SampleLeft, walked.
-/
namespace Go.Sp
open Go Go.Proofs
theorem leaveK_c {s : Smp} {L : List Int} (hv : VSm s) (hL : levL s = L) (hf : Few s) (tv pv gv : Value) (w : World) (hr : RdSm w s tv pv gv) :
    CnX Tryz.prog 31 #[smV s tv pv gv] w [] (fun y : Option Addr × Nat => .tuple #[slV L.length y, vi 0]) (fun y w' => RdI w' (slV L.length y) L) := by
  have h := leaveAll_c s hf tv pv gv w hr
  rw [hL, chkS_0.2 hv] at h
  exact h
theorem verdictsK_v {s : Smp} {e : Int} (hE : vdE s = e) (hf : Few s) (tv pv gv : Value) (w : World) (hr : RdSm w s tv pv gv) :
    CnX Tryz.prog 26 #[smV s tv pv gv] w [] (fun y : Option Addr × Nat => .tuple #[slV (vdL s).length y, vi e]) (fun y w' => RdI w' (slV (vdL s).length y) (vdL s)) := by
  have h := verdicts_c s hf tv pv gv w hr
  rw [hE] at h
  exact h.imp id (fun _ => rfl) (fun _ h => h) (fun _ _ _ h => h.toI)
end Go.Sp
/-
  SampleSealed.
-/
namespace Go.Sp
open Go Go.Proofs
/-- A slice of slices that lies apart from some blocks. -/
def RdLP {α : Type} (k : Nat) (enc : α → List Value) (S : List Nat) (w : World) (v : Value) (xss : List (List α)) : Prop := ∃ us : List Sv, (RdS 1 svE w v us ∧ sepS v S) ∧ (us.length = xss.length ∧ ∀ u ∈ us, sepS u.1 S) ∧ ∀ j, j < xss.length → RdS k enc w (us.getD j sv0).1 (xss.getD j [])
theorem RdLN.lp {α : Type} {k : Nat} {enc : α → List Value} {w0 w : World} {v : Value} {xss : List (List α)} (h : RdLN k enc w0 w v xss) {S : List Nat} (hS : ∀ b ∈ S, b < w0.heap.size) : RdLP k enc S w v xss := by
  obtain ⟨us, ⟨h1, h2⟩, ⟨h3, h4⟩, h5⟩ := h
  exact ⟨us, ⟨h1, h2.sepN hS⟩, ⟨h3, fun u hu => (h4 u hu).sepN hS⟩, h5⟩
theorem RdLP.fr {α : Type} {k : Nat} {enc : α → List Value} {S : List Nat} {w w' : World} {v : Value} {xss : List (List α)} (h : RdLP k enc S w v xss) (f : Fr S w w') : RdLP k enc S w' v xss := by
  obtain ⟨us, ⟨h1, h2⟩, ⟨h3, h4⟩, h5⟩ := h
  exact ⟨us, ⟨h1.frS f h2, h2⟩, ⟨h3, h4⟩, fun j hj => (h5 j hj).frS f (h4 _ (getD_memG (by omega)))⟩
theorem RdLP.sub {α : Type} {k : Nat} {enc : α → List Value} {S S' : List Nat} {w : World} {v : Value} {xss : List (List α)} (h : RdLP k enc S w v xss) (hs : ∀ b ∈ S', b ∈ S) : RdLP k enc S' w v xss := by
  obtain ⟨us, ⟨h1, h2⟩, ⟨h3, h4⟩, h5⟩ := h
  exact ⟨us, ⟨h1, fun p m c e hm => h2 p m c e (hs _ hm)⟩, ⟨h3, fun u hu p m c e hm => h4 u hu p m c e (hs _ hm)⟩, h5⟩
theorem RdLP.ll {α : Type} {k : Nat} {enc : α → List Value} {S : List Nat} {w : World} {v : Value} {xss : List (List α)} (h : RdLP k enc S w v xss) : RdLL k enc w v xss := by
  obtain ⟨us, ⟨h1, h2⟩, ⟨h3, h4⟩, h5⟩ := h
  exact ⟨us, h1, h3, h5⟩
theorem HG.lts {bs : List (World × List Nat)} {H : List (Nat × Obj)} {w : World} (hw : HG bs H w) : ∀ b ∈ H.map Prod.fst, b < w.heap.size := fun b hb => by
  obtain ⟨p, hp, rfl⟩ := List.mem_map.1 hb
  exact hw.lt hp
theorem RdLP.opens {α : Type} {k : Nat} {enc : α → List Value} {S : List Nat} {w : World} {n : Nat} {y : Option Addr × Nat} {xss : List (List α)} (h : RdLP k enc S w (slV n y) xss) :
    ∃ b o, ∃ us : List Sv, (0 < xss.length → y.1 = some ⟨b, o, none⟩) ∧ (∀ w', Fr S w w' → ∀ i, i < xss.length → w'.cell? ⟨b, o + i, none⟩ = some (us.getD i sv0).1) ∧ ∀ i, i < xss.length → sepS (us.getD i sv0).1 S ∧ RdS k enc w (us.getD i sv0).1 (xss.getD i []) := by
  obtain ⟨us, ⟨h1, h2⟩, ⟨h3, h4⟩, h5⟩ := h
  obtain ⟨ad, cap, b, o, e, had, hcell⟩ := h1.opens svE_len sv0 h2
  injection e with e1 e2 e3
  subst e1
  rw [h3] at had
  refine ⟨b, o, us, had, fun w' f i hi => ?_, fun i hi => ⟨h4 _ (getD_memG (by omega)), h5 i hi⟩⟩
  have := (hcell w' f i (by omega)).get 0 _ rfl
  rw [Nat.mul_one, Nat.add_zero] at this
  exact this
theorem sepS.sub {v : Value} {S S' : List Nat} (h : sepS v S) (hs : ∀ b ∈ S', b ∈ S) : sepS v S' := fun p m c e hm => h p m c e (hs _ hm)
theorem sepS.own {b n c : Nat} {S : List Nat} (h : b ∉ S) : sepS (.slice (some ⟨b, 0, none⟩) n c) S := fun p m c' e hm => by cases e; exact h hm
theorem rPlay_v {s : Smp} {t : Tth} {q : List (List Int) × List (List Bool)} (hq : playF s t = some q) (hf : Few s) (hv : VSm s) (hl : Lst s t) (tv pv gv hvv avv : Value) (w : World) (hr : RdSm w s tv pv gv) (hrt : RdTh w t hvv avv) :
    CnX Tryz.prog 38 #[smV s tv pv gv, tV hvv avv] w [] (fun y : (Option Addr × Nat) × (Option Addr × Nat) => .tuple #[slV q.1.length y.1, slV q.2.length y.2, .bool true])
      (fun y w' => RdLN 1 inE w w' (slV q.1.length y.1) q.1 ∧ RdLN 1 boE w w' (slV q.2.length y.2) q.2) := by
  have h := rPlay_c s hf hv t hl tv pv gv hvv avv w hr hrt
  rw [hq] at h
  exact h
end Go.Sp
/-
  Appending to an own slice what another one holds, of any length.
-/
namespace Go.Sp
open Go Go.Proofs
theorem e_append_big {P : Program} {N : NN} {F : List (Nat × Value)} {bs : List (World × List Nat)} {H : List (Nat × Obj)} {ty : TypeId} {pos : String} {after : Array Edge} {g : Option (Nat × Bool)} {dd : Tmp} {t e : TypeId} {sz by_ : Nat} [hs : TySlice P t e sz] [hi : TyElem P e sz by_] {x y : Operand} {b len cap : Nat} {old junk : List Value} {H' : List (Nat × Obj)} {xv : Value} {n : Nat} {vs : List Value} (hd : Nat.blt dd N.n = true)
    (hx : evalO F x = some (.slice (some ⟨b, 0, none⟩) len cap)) (hy : evalO F y = some xv) (hdel : HD b (.cells (old ++ junk).toArray e (0, 0)) H H') (hlen : old.length = len * sz) (hcap : junk.length = (cap - len) * sz) (hlc : len ≤ cap)
    (hr : ∀ w, HG bs H w → Reads w xv sz n vs) (h1 : one' vs) (hsm : len + n ≤ 9223372036854775807) (hby : (len + n) * by_ ≤ 140737488355328) :
    OpE P ⟨some dd, .call ⟨.builtin .append, #[x, y], #[t, t]⟩, ty, pos, after, g⟩ N F bs H (fun r : Nat × Nat × List Value => len + n ≤ r.2.1 ∧ r.2.2.length = (r.2.1 - (len + n)) * sz) (fun r => (dd, .slice (some ⟨r.1, 0, none⟩) (len + n) r.2.1) :: F) (fun _ => bs)
      (fun r => (r.1, .cells (old ++ vs ++ r.2.2).toArray e (0, 0)) :: H') := by
  unfold OpE
  intro a w ht hw K Q hK
  obtain ⟨i, z, h1', h2, h3, h4, h5⟩ := hi.info
  have hb := hw.heap _ hdel.mem
  have hsrc : Src P i.size t xv n vs w := by rw [h3]; exact (hr w hw).src h1
  have hvl : vs.length = n * sz := (hr w hw).1
  unfold Oper.wp
  simp only [execOp, resolve, invoke, builtin, Sem.run_bind, Sem.run_pure, Result.andThen, List.map_toArray, List.map_cons, List.map_nil, ht.eval hx, ht.eval hy]
  by_cases hroom : len + n ≤ cap
  · have hsz : (old ++ junk).length = cap * sz := by
      rw [List.length_append, hlen, hcap, ← Nat.add_mul]; congr 1; omega
    have hle : len * sz + n * sz ≤ cap * sz := by rw [← Nat.add_mul]; exact Nat.mul_le_mul_right _ hroom
    obtain ⟨w', c', k1, k2, k3, k4, k5, k6, k7⟩ := storeCells_at (P := P) (b := b) (o := len * sz) (e := e) vs 0 w (old ++ junk).toArray hb (by simp only [List.size_toArray, hsz, hvl]; omega) h1
    have hlt : ∀ j, j < vs.length → len * sz + j < (old ++ junk).length := fun j hj => by rw [hsz]; omega
    have hcc : ∀ j, j < vs.length → (w.cell? ⟨b, 0 + len * i.size + j, none⟩).isSome = true := fun j hj => by
      have := hlt j hj
      simp only [World.cell?, hb, h3, Nat.zero_add]
      simp
      simpa using this
    have hff : ∀ j, j < vs.length → w.frozen? ⟨b, 0 + len * i.size + j, none⟩ = false := fun j hj => by simp [World.frozen?, hb]
    have hrun := run_append_room_src (P := P) w t t ty e i hs.ty h1' b 0 len cap xv n vs hsrc hroom hcc hff
    have hst := run_storeCells_cells (P := P) b (0 + len * i.size) vs 0 w (by simpa using hcc) (by simpa using hff) h1
    simp only [Nat.add_zero, Nat.zero_add, h3] at hst hrun
    rw [k1] at hst
    obtain rfl : w' = w.setCells b (len * sz) vs := by injection hst
    rw [hrun]
    simp only [Sem.run_pure, Result.andThen, Oper.upon]
    have hcells : c' = (old ++ vs ++ junk.drop (n * sz)).toArray := by
      apply Array.ext_getElem?
      intro k
      rw [k7 k]
      simp only [Nat.add_zero, List.getElem?_toArray]
      by_cases hk : len * sz ≤ k ∧ k < len * sz + vs.length
      · rw [if_pos hk, List.append_assoc, List.getElem?_append_right (by omega), List.getElem?_append_left (by omega), hlen]
      · rw [if_neg hk]
        by_cases hk' : k < len * sz
        · rw [List.getElem?_append_left (by omega), List.append_assoc, List.getElem?_append_left (by omega)]
        · rw [List.getElem?_append_right (by omega), List.getElem?_append_right (by simp only [List.length_append]; omega), List.getElem?_drop]
          congr 1
          simp only [List.length_append]
          omega
    subst hcells
    have hhg : HG bs ((b, .cells (old ++ vs ++ junk.drop (n * sz)).toArray e (0, 0)) :: H') (w.setCells b (len * sz) vs) :=
      (hw.perm hdel.perm).set .head ⟨k2, k3, k4, k5⟩
    refine hK (b, cap, junk.drop (n * sz)) _ _ ⟨hroom, ?_⟩ (ht.put hd _) hhg
    simp only [List.length_drop, hcap]
    rw [← Nat.sub_mul]; congr 1; omega
  · have hrun := run_append_grow_src (P := P) w t t ty e i z hs.ty h1' h2 (some ⟨b, 0, none⟩) len cap old (by
      rw [h3]
      refine firstCells_run (w := w.drew) ⟨hlen, _, _, rfl, fun hne => ⟨b, 0, rfl, ?_⟩⟩
      have hca := CA_pre old junk e (0, 0)
      rw [hlen] at hca
      exact hca.cells hb) xv n vs hsrc (by omega) (by omega) (by rw [h4]; exact growslice_fits (by omega) hby)
    rw [hrun]
    simp only [Sem.run_pure, Result.andThen, Oper.upon]
    have hcells : (old ++ vs).toArray ++ Builtin.zeroCells z.cells (grownCap w (len + n) cap e - (len + n)) = (old ++ vs ++ (Builtin.zeroCells z.cells (grownCap w (len + n) cap e - (len + n))).toList).toArray := by apply Array.ext'; simp
    rw [hcells]
    refine hK (w.heap.size, grownCap w (len + n) cap e, (Builtin.zeroCells z.cells (grownCap w (len + n) cap e - (len + n))).toList) _ _ ⟨?_, ?_⟩ (ht.put hd _) ((hw.sub (fun _ h => h) hdel.sub).drew.alloc _)
    · simp [grownCap, Question.cut]
    · simp [Builtin.zeroCells, h5]
end Go.Sp
/-
  SampleMore, walked.
-/
namespace Go.Sp
open Go Go.Proofs
/-- So many sights, and one more, are not too many bytes. -/
def BigOk (n : Nat) : Prop := (n + 1) * 24 ≤ 140737488355328
theorem BigOk.b {n : Nat} {x : Sgt} (h : BigOk n) : (0 + n + [x].length) * 24 ≤ 140737488355328 := Nat.le_trans (Nat.mul_le_mul_right 24 (by rw [List.length_singleton, Nat.zero_add]; exact Nat.le_refl _)) h
theorem BigOk.c {n : Nat} (h : BigOk n) : n + 1 ≤ 9223372036854775807 := Nat.le_trans (Nat.le_mul_of_pos_right _ (by decide)) (Nat.le_trans h (by decide))
theorem flatE_one {α : Type} {enc : α → List Value} (h : ∀ x, one' (enc x)) (xs : List α) : one' (xs.flatMap enc) := fun u hu => by
  obtain ⟨x, _, hx⟩ := List.mem_flatMap.1 hu
  exact h x u hx
end Go.Sp
/-
  Sighted.
-/
namespace Go.Sp
open Go Go.Proofs
theorem y_shr16 {P : Program} {F : List (Nat × Value)} {bs : List (World × List Nat)} {H : List (Nat × Obj)} {d : Option Tmp} {ty : TypeId} {pos : String} {after : Array Edge} {g : Option (Nat × Bool)} {x y : Operand} {t t' : TypeId} {k' : IntKind} {m n : Int} (hx : evalO F x = some (.int .u16 m)) (hy : evalO F y = some (.int k' n)) (hn : 0 ≤ n ∧ n ≤ 15) :
    OpY P ⟨d, .binOp .shr t x y t', ty, pos, after, g⟩ F bs H (.int .u16 (m / 2 ^ n.toNat)) := by
  unfold OpY
  intro N a' w ht hw
  have h0 : ¬ n < 0 := by omega
  have hm : min n.toNat IntKind.u16.bits = n.toNat := by simp only [IntKind.bits]; omega
  have hd : m.fdiv (2 ^ n.toNat) = m / 2 ^ n.toNat := by
    have hp : (0 : Int) ≤ 2 ^ n.toNat := Int.le_of_lt (Int.pow_pos (by omega))
    rw [Int.fdiv_eq_ediv_of_nonneg m hp]
  simp only [execOp, ht.eval hx, ht.eval hy, Sem.run_bind, eqGuard_int, binOp, Op.shift, h0, if_false, hm, Result.andThen, Sem.run_pure, hd]
theorem RdS.app {α : Type} {k : Nat} {enc : α → List Value} (hk : ∀ x, (enc x).length = k) {bs : List (World × List Nat)} {H : List (Nat × Obj)} {w : World} {b c n : Nat} {xs : List α} {x : α} {junk : List Value} {e : TypeId} (hw : HG bs H w) (hm : HM b (.cells ([] ++ xs.flatMap enc ++ [x].flatMap enc ++ junk).toArray e (0, 0)) H) (hn : n = (xs ++ [x]).length) : RdS k enc w (.slice (some ⟨b, 0, none⟩) n c) (xs ++ [x]) := by
  subst hn
  have e1 : [] ++ xs.flatMap enc ++ [x].flatMap enc ++ junk = (xs ++ [x]).flatMap enc ++ junk := by rw [List.nil_append, List.flatMap_append]
  rw [e1] at hm
  exact RdS.own hk hw hm
set_option maxHeartbeats 8000000 in
theorem sighted_c (x : Smp) (hf : Few x) (hv : VSm x) (t : Tth) (hl : Lst x t) (q : List (List Int) × List (List Bool)) (hq : playF x t = some q) (hin : InR x.ps t.hs) (bits : Int) (hbt : 0 ≤ bits ∧ bits ≤ 65535) (tv pv hvv avv : Value) (w : World) (hr : RdSm w x tv pv (.slice none 0 0)) (hrt : RdTh w t hvv avv) :
    CnX Tryz.prog 36 #[smV x tv pv (.slice none 0 0), tV hvv avv, .int .u16 bits] w [] (fun y : List Sgt × (Option Addr × Nat) => smV (sgS x y.1) tv pv (slV y.1.length y.2)) (fun y w' => SgOk x q y.1 ∧ RdS 3 sgE w' (slV y.1.length y.2) y.1 ∧ NewS w (slV y.1.length y.2)) := by
  have hr0 := hr
  have ht0 := hrt
  have hb1 := hv.b1
  have hb3 := hv.b3
  have hl0 := hv.l0
  have hl9 := hv.l9
  have hot := hr.st.one
  have hop := hr.ps.one
  have hql := playN_len hq
  refine cnx0 (vs := [_, _, _]) Tryz.func36 rfl rfl ?_
  all_goals refine tc_seq fun K1 hK1 => ?_; refine tc_region ?_; refine tl_e (e_box rfl rfl rfl) rfl (fun b3 _ => ?_); refine tl_e (e_box rfl rfl rfl) rfl (fun b4 _ => ?_); refine tl_e (e_allocN rfl) rfl (fun b6 _ => ?_); refine tl_nil ?_; ((refine hK1 ?_; try (clear hK1; clear K1)))
  all_goals refine tc_seq fun K2 hK2 => ?_; refine tc_lay ([(b6, .cells #[vi 0, vi 0, vi 0, vi 0, .slice none 0 0, .slice none 0 0, .slice none 0 0] 26 (0, 0)), (b3, .cells #[vi x.B, vi x.P, vi x.L, vi x.F, tv, pv, .slice none 0 0] 26 (0, 0))]) SB.s (fun wl1 hl1 => ?_); ((have hn4 : ¬ b4 = b6 ∧ ¬ b4 = b3 := by have hh := hl1.nodup; simp only [List.map_cons, List.map_nil, List.nodup_cons, List.mem_cons, not_or, List.not_mem_nil, not_false_eq_true, and_true] at hh; omega))
  all_goals refine tc_region ?_; refine tl_q (y_loadW rfl (by repeat constructor) (by rfl)) rfl ?_; ((refine tl_q (y_loadWf rfl (hl1.at (by repeat constructor)) MI.m (by first | (simp; done) | (simp; omega)) (by rfl)) rfl ?_))
  all_goals refine tl_e (e_callX rfl (.cons rfl (.cons rfl .nil)) (fun w' hw' => (rPlay_v hq hf hv hl _ _ _ _ _ w' (hr0.fr (hw'.fr (w0 := w) (S := []) MI.m)) (ht0.fr (hw'.fr (w0 := w) (S := []) MI.m))).imp (val' := fun y : (Option Addr × Nat) × (Option Addr × Nat) => .tuple #[slV q.1.length y.1, slV q.2.length y.2, .bool true]) (p' := fun z w2 => RdLP 1 boE [b6, b3] w2 (slV q.2.length z.2) q.2) id (fun _ => rfl) (fun _ h => h) (fun z w2 _ hp => hp.2.lp (S := [b6, b3]) hw'.lts))) rfl (fun z hz => ?_); refine tl_q (y_move rfl) rfl ?_; refine tl_q (y_extract rfl rfl) rfl ?_; refine tl_q (y_extract rfl rfl) rfl ?_; refine tl_q (y_extract rfl rfl) rfl ?_; refine tl_q (y_assign rfl) rfl ?_; refine tl_q (y_assign rfl) rfl ?_; refine tl_q (y_assign rfl) rfl ?_; refine tl_nil ?_; ((refine hK2 ?_; try (clear hK2; clear K2)))
  all_goals refine tc_seq fun K3 hK3 => ?_; refine tc_seq fun K4 hK4 => ?_; refine tc_region ?_; refine tl_q (y_assign rfl) rfl ?_; refine tl_nil ?_; ((refine hK4 ?_; try (clear hK4; clear K4)))
  all_goals refine tc_block ?_
  all_goals (
   obtain ⟨ub, uo, us, hadu, hcu, hus⟩ := hz.1.opens
   refine tc_loop (fun p : Nat × List Sgt × (Option Addr × Nat) × World => ((p.1 : Int) ≤ x.B ∧ SgOk x q p.2.1) ∧ RdS 3 sgE p.2.2.2 (slV p.2.1.length p.2.2.1) p.2.1 ∧ sepS (slV p.2.1.length p.2.2.1) [b6, b3] ∧ NewS w (slV p.2.1.length p.2.2.1)) (fun p => [(2, .int .u16 bits), (3, ptr b3), (4, ptr b4), (6, ptr b6), (8, slV q.2.length z.1.2), (9, .bool true), (10, vi p.1)]) (fun p => [(p.2.2.2, [b6, b3]), (z.2, [b6, b3]), (wl1, [b6, b3]), (w, [])]) (fun p => [(b6, .cells #[vi 0, vi 0, vi 0, vi 0, .slice none 0 0, .slice none 0 0, .slice none 0 0] 26 (0, 0)), (b3, .cells #[vi x.B, vi x.P, vi x.L, vi x.F, tv, pv, slV p.2.1.length p.2.2.1] 26 (0, 0))]) (fun p => x.B.toNat - p.1) ?_ ?_
   · exact tk_lay [(b6, .cells #[vi 0, vi 0, vi 0, vi 0, .slice none 0 0, .slice none 0 0, .slice none 0 0] 26 (0, 0)), (b3, .cells #[vi x.B, vi x.P, vi x.L, vi x.F, tv, pv, .slice none 0 0] 26 (0, 0))] SB.s fun wl2 hl2 => tk_start (0, [], (none, 0), wl2) ⟨⟨by dsimp only; omega, SgOk.nil x q⟩, RdS.nil _ _ _ _, (NewS.nil wl2 0 0).sepN (S := [b6, b3]) hl2.lts, NewS.nil _ _ _⟩ (.cons rfl (.cons rfl (.cons rfl (.cons rfl (.cons rfl (.cons rfl (.cons rfl .nil))))))) (fun _ h => h.subl SB.s SB.s)
   · rintro ⟨b, sg, gvv, wz⟩ ⟨⟨hb, hsg⟩, hgr, hgs, hgn⟩
     dsimp only at hb hsg hgr hgs hgn ⊢
     all_goals refine tc_seq fun K5 hK5 => ?_; refine tc_seq fun K6 hK6 => ?_; refine tc_region ?_; refine tl_q (y_move rfl) rfl ?_; refine tl_q (y_field rfl) rfl ?_; refine tl_q (y_load1 rfl (by repeat constructor) (by rfl)) rfl ?_; refine tl_q (y_lss rfl rfl) rfl ?_; refine tl_q (y_move rfl) rfl ?_; ((refine tl_gs rfl rfl (fun hc => ?_) (fun hc => ?_) <;> (try simp only [qn1, qn2, qn3, qn4, qn5, qn6, qn7, qn8] at hc) <;> (first | refine tl_sk rfl rfl rfl rfl ?_ | refine tl_qg rfl rfl (y_move rfl) rfl ?_)))
     all_goals (first | refine tl_q (y_pick_t rfl rfl) rfl ?_ | refine tl_q (y_pick_f rfl rfl) rfl ?_); refine tl_nil ?_; ((refine hK6 ?_; try (clear hK6; clear K6)))
     all_goals (
      refine tc_cond rfl (fun hc => ?_) (fun hc => ?_)
      · try simp only [qn1, qn2, qn3, qn4, qn5, qn6, qn7, qn8] at hc
        all_goals ((first | (exfalso; with_reducible exact bft hc) | skip))
        all_goals refine tc_skip ?_; ((refine hK5 ?_; try (clear hK5; clear K5)))
        all_goals refine tc_seq fun K7 hK7 => ?_; refine tc_block ?_; refine tc_seq fun K8 hK8 => ?_; refine tc_region ?_; refine tl_q (y_assign rfl) rfl ?_; refine tl_nil ?_; ((refine hK8 ?_; try (clear hK8; clear K8)))
        all_goals refine tc_block ?_
        all_goals (
         have hb2 : b < q.2.length := by omega
         obtain ⟨hun, hur⟩ := hus b hb2
         obtain ⟨_, _, _, hwlen, _⟩ := truth_run hv hin (play_at hq b (by omega))
         obtain ⟨adn, cpn, bn, on, hen, hadn, hcn⟩ := hur.opens boE_len false hun
         refine tc_loop (fun p : Nat × List Sgt × (Option Addr × Nat) × World => ((p.1 : Int) ≤ x.L + 1 ∧ SgOk x q p.2.1) ∧ RdS 3 sgE p.2.2.2 (slV p.2.1.length p.2.2.1) p.2.1 ∧ sepS (slV p.2.1.length p.2.2.1) [b6, b3] ∧ NewS w (slV p.2.1.length p.2.2.1)) (fun p => [(2, .int .u16 bits), (3, ptr b3), (4, ptr b4), (6, ptr b6), (8, slV q.2.length z.1.2), (9, .bool true), (10, vi b), (11, vi p.1)]) (fun p => [(p.2.2.2, [b6, b3]), (z.2, [b6, b3]), (wl1, [b6, b3]), (w, [])]) (fun p => [(b6, .cells #[vi 0, vi 0, vi 0, vi 0, .slice none 0 0, .slice none 0 0, .slice none 0 0] 26 (0, 0)), (b3, .cells #[vi x.B, vi x.P, vi x.L, vi x.F, tv, pv, slV p.2.1.length p.2.2.1] 26 (0, 0))]) (fun p => (x.L + 1).toNat - p.1) ?_ ?_
         · exact tk_start (0, sg, gvv, wz) ⟨⟨by dsimp only; omega, hsg⟩, hgr, hgs, hgn⟩ (.cons rfl (.cons rfl (.cons rfl (.cons rfl (.cons rfl (.cons rfl (.cons rfl (.cons rfl .nil)))))))) (fun _ h => h.subl SB.s SB.s)
         · clear hsg hgr hgs hgn
           clear gvv sg wz
           rintro ⟨h, sg, gvv, wz⟩ ⟨⟨hh, hsg⟩, hgr, hgs, hgn⟩
           dsimp only at hh hsg hgr hgs hgn ⊢
           have hn6 := hsg.n6
           all_goals refine tc_seq fun K9 hK9 => ?_; refine tc_seq fun K10 hK10 => ?_; refine tc_region ?_; refine tl_q (y_move rfl) rfl ?_; refine tl_q (y_field rfl) rfl ?_; refine tl_q (y_load1 rfl (by repeat constructor) (by rfl)) rfl ?_; refine tl_q (y_leq rfl rfl) rfl ?_; refine tl_nil ?_; ((refine hK10 ?_; try (clear hK10; clear K10)))
           all_goals (
            refine tc_cond rfl (fun hc => ?_) (fun hc => ?_)
            · try simp only [qn1, qn2, qn3, qn4, qn5, qn6, qn7, qn8] at hc
              all_goals refine tc_skip ?_; ((refine hK9 ?_; try (clear hK9; clear K9)))
              all_goals refine tc_seq fun K11 hK11 => ?_; refine tc_block ?_; refine tc_seq fun K12 hK12 => ?_; (have hsh : 0 ≤ bits / 2 ^ ((5 * (b : Int) + (h : Int)) % 16).toNat := Int.ediv_nonneg hbt.1 (Int.le_of_lt (Int.pow_pos (by omega))))
              all_goals refine tc_region ?_; refine tl_q (y_move rfl) rfl ?_; refine tl_q (y_move rfl) rfl ?_; refine tl_q (y_mul rfl rfl (by omega)) rfl ?_; refine tl_q (y_move rfl) rfl ?_; refine tl_q (y_add rfl rfl (by omega)) rfl ?_; refine tl_q (y_rem rfl rfl (by omega) (by omega)) rfl ?_; ((refine tl_q (y_conv rfl (by simp only [IntKind.wrap, IntKind.bits, IntKind.signed, Bool.false_and, Bool.true_and, Bool.false_eq_true, if_false, decide_eq_true_eq]; omega)) rfl ?_))
              all_goals (refine tl_q (y_shr16 rfl rfl (by omega)) rfl ?_); refine tl_q (y_rem rfl rfl (by omega) (by omega)) rfl ?_; refine tl_q (y_eql rfl rfl) rfl ?_; refine tl_q (y_move rfl) rfl ?_; ((refine tl_gs rfl rfl (fun hc => ?_) (fun hc => ?_) <;> (try simp only [qn1, qn2, qn3, qn4, qn5, qn6, qn7, qn8] at hc) <;> (first | refine tl_sk rfl rfl rfl rfl ?_ | refine tl_qg rfl rfl (y_field rfl) rfl ?_)))
              all_goals (first | refine tl_sk rfl rfl rfl rfl ?_ | refine tl_qg rfl rfl (y_load1 rfl (by repeat constructor) (by rfl)) rfl ?_); (first | refine tl_sk rfl rfl rfl rfl ?_ | refine tl_qg rfl rfl (y_len rfl) rfl ?_); (first | refine tl_sk rfl rfl rfl rfl ?_ | refine tl_qg rfl rfl (y_lss rfl rfl) rfl ?_); (first | refine tl_q (y_pick_t rfl rfl) rfl ?_ | refine tl_q (y_pick_f rfl rfl) rfl ?_); refine tl_nil ?_; ((refine hK12 ?_; try (clear hK12; clear K12)))
              all_goals (
               refine tc_cond rfl (fun hc => ?_) (fun hc => ?_)
               · try simp only [qn1, qn2, qn3, qn4, qn5, qn6, qn7, qn8] at hc
                 all_goals ((first | (exfalso; with_reducible exact bft hc) | skip))
                 all_goals (have hs6 : sg.length < 6 := by omega)
                 all_goals refine tc_drawS ([(b6, .cells #[vi 0, vi 0, vi 0, vi 0, .slice none 0 0, .slice none 0 0, .slice none 0 0] 26 (0, 0)), (b3, .cells #[vi x.B, vi x.P, vi x.L, vi x.F, tv, pv, slV sg.length gvv] 26 (0, 0))]) (by kernel_rfl) ?_; refine tx_p 1 rfl (by kernel_rfl) (y_field rfl) rfl (fun _ _ _ h => h) (fun _ h => h.subl SB.s SB.s) ?_; refine tx_qS 2 rfl (by kernel_rfl) (y_load1 rfl (by repeat constructor) (by rfl)) rfl (fun _ _ _ h => h) (fun _ h => h.subl SB.s SB.s) ?_; refine tx_p 4 rfl (by kernel_rfl) (y_move rfl) rfl (fun _ _ _ h => h) (fun _ h => h.subl SB.s SB.s) ?_; refine tx_p 5 rfl (by kernel_rfl) (y_move rfl) rfl (fun _ _ _ h => h) (fun _ h => h.subl SB.s SB.s) ?_; refine tx_p 6 rfl (by kernel_rfl) (y_move rfl) rfl (fun _ _ _ h => h) (fun _ h => h.subl SB.s SB.s) ?_; refine tx_p 7 rfl (by kernel_rfl) (y_move rfl) rfl (fun _ _ _ h => h) (fun _ h => h.subl SB.s SB.s) ?_; refine tx_p 8 rfl (by kernel_rfl) (y_index rfl rfl (by omega) (hadu (by omega))) rfl (fun _ _ _ h => h) (fun _ h => h.subl SB.s SB.s) ?_; ((refine tx_qS 9 rfl (by kernel_rfl) (y_load1o (v := .slice adn (q.2.getD b []).length cpn) rfl (fun w' hw' => by rw [← hen, show Int.toNat (b : Int) * 1 = b from by omega]; exact hcu w' (hw'.fr (w0 := z.2) (S := [b6, b3]) MI.m) b hb2)) rfl (fun _ _ _ h => h) (fun _ h => h.subl SB.s SB.s) ?_))
                 all_goals refine tx_p 10 rfl (by kernel_rfl) (y_move rfl) rfl (fun _ _ _ h => h) (fun _ h => h.subl SB.s SB.s) ?_; refine tx_p 11 rfl (by kernel_rfl) (y_index rfl rfl (by omega) (hadn (by omega))) rfl (fun _ _ _ h => h) (fun _ h => h.subl SB.s SB.s) ?_; ((refine tx_qS 12 rfl (by kernel_rfl) (y_load1o (v := .bool ((q.2.getD b []).getD h false)) rfl (fun w' hw' => by have hx := (hcn w' (hw'.fr (w0 := z.2) (S := [b6, b3]) MI.m) h (by omega)).get 0 _ rfl; exact hx)) rfl (fun _ _ _ h => h) (fun _ h => h.subl SB.s SB.s) ?_))
                 all_goals refine tx_p 13 rfl (by kernel_rfl) (y_build_g (by repeat constructor)) rfl (fun _ _ _ h => h) (fun _ h => h.subl SB.s SB.s) ?_
                 all_goals (
                  refine tx_pair 0 14 (by kernel_rfl) ?_ ?_
                  rotate_left
                  focus (
                   (refine to_e rfl rfl (e_bsliceG rfl (.agg rfl rfl .nil) rfl rfl) (.inr ⟨fun _ _ h => h.subl SB.s SB.s, fun _ h => h⟩) (fun b64 _ => ?_))
                   all_goals ((refine tx_single 0 (by kernel_rfl) (to_e rfl rfl (e_bslice rfl (by (repeat (exact .nil)); done) rfl rfl) (.inr ⟨fun _ _ h => h.subl SB.s SB.s, fun _ h => h⟩) (fun b50 _ => ?_))))
                   all_goals (refine tx_single 3 (by kernel_rfl) (to_e rfl rfl (e_append_big (old := []) (junk := []) rfl rfl rfl (by repeat constructor) (by rfl) (by rfl) (Nat.le_refl _) (fun w' hw' => hgr.frS (hw'.fr (w0 := wz) (S := [b6, b3]) MI.m) hgs) (flatE_one sgE_one _) (by omega) (by omega)) (.inr ⟨fun _ _ h => h.subl SB.s SB.s, fun _ h => h⟩) (fun z9 hz9 => ?_))); ((refine tx_single 15 (by kernel_rfl) (to_e rfl rfl (e_append_big (old := [] ++ sg.flatMap sgE) (junk := z9.2.2) rfl rfl rfl (by repeat constructor) (by rw [List.nil_append, flatS_len sgE_len]; omega) hz9.2 hz9.1 (fun w' hw' => RdS.own0 (xs := [(⟨b, h, (q.2.getD b []).getD h false⟩ : Sgt)]) sgE_len hw' (by repeat constructor)) (flatE_one sgE_one _) (by simp only [List.length_cons, List.length_nil]; omega) (by simp only [List.length_cons, List.length_nil]; omega)) (.inr ⟨fun _ _ h => h.subl SB.s SB.s, fun _ h => h⟩) (fun u9 hu9 => ?_))))
                   all_goals refine tx_p 16 rfl (by kernel_rfl) (y_field rfl) rfl (fun _ _ _ h => h) (fun _ h => h.subl SB.s SB.s) ?_; refine tx_single 17 (by kernel_rfl) (to_e (S' := HG [] []) rfl rfl (e_store1 rfl rfl (by repeat constructor) (by repeat constructor) (by rfl) (by rfl)) (.inl (by kernel_rfl)) (fun _ _ => ?_))
                   all_goals refine tx_done (by kernel_rfl) ?_)
                  rotate_right
                  focus (
                   (refine to_e rfl rfl (e_bslice rfl (by (repeat (exact .nil)); done) rfl rfl) (.inr ⟨fun _ _ h => h.subl SB.s SB.s, fun _ h => h⟩) (fun b50 _ => ?_))
                   all_goals (
                    refine tx_pair 3 14 (by kernel_rfl) ?_ ?_
                    rotate_left
                    focus (
                     (refine to_e rfl rfl (e_bsliceG rfl (.agg rfl rfl .nil) rfl rfl) (.inr ⟨fun _ _ h => h.subl SB.s SB.s, fun _ h => h⟩) (fun b64 _ => ?_))
                     all_goals (refine tx_single 3 (by kernel_rfl) (to_e rfl rfl (e_append_big (old := []) (junk := []) rfl rfl rfl (by repeat constructor) (by rfl) (by rfl) (Nat.le_refl _) (fun w' hw' => hgr.frS (hw'.fr (w0 := wz) (S := [b6, b3]) MI.m) hgs) (flatE_one sgE_one _) (by omega) (by omega)) (.inr ⟨fun _ _ h => h.subl SB.s SB.s, fun _ h => h⟩) (fun z9 hz9 => ?_))); ((refine tx_single 15 (by kernel_rfl) (to_e rfl rfl (e_append_big (old := [] ++ sg.flatMap sgE) (junk := z9.2.2) rfl rfl rfl (by repeat constructor) (by rw [List.nil_append, flatS_len sgE_len]; omega) hz9.2 hz9.1 (fun w' hw' => RdS.own0 (xs := [(⟨b, h, (q.2.getD b []).getD h false⟩ : Sgt)]) sgE_len hw' (by repeat constructor)) (flatE_one sgE_one _) (by simp only [List.length_cons, List.length_nil]; omega) (by simp only [List.length_cons, List.length_nil]; omega)) (.inr ⟨fun _ _ h => h.subl SB.s SB.s, fun _ h => h⟩) (fun u9 hu9 => ?_))))
                     all_goals refine tx_p 16 rfl (by kernel_rfl) (y_field rfl) rfl (fun _ _ _ h => h) (fun _ h => h.subl SB.s SB.s) ?_; refine tx_single 17 (by kernel_rfl) (to_e (S' := HG [] []) rfl rfl (e_store1 rfl rfl (by repeat constructor) (by repeat constructor) (by rfl) (by rfl)) (.inl (by kernel_rfl)) (fun _ _ => ?_))
                     all_goals refine tx_done (by kernel_rfl) ?_)
                    rotate_right
                    focus (
                     (refine to_e rfl rfl (e_append_big (old := []) (junk := []) rfl rfl rfl (by repeat constructor) (by rfl) (by rfl) (Nat.le_refl _) (fun w' hw' => hgr.frS (hw'.fr (w0 := wz) (S := [b6, b3]) MI.m) hgs) (flatE_one sgE_one _) (by omega) (by omega)) (.inr ⟨fun _ _ h => h.subl SB.s SB.s, fun _ h => h⟩) (fun z9 hz9 => ?_))
                     all_goals (refine tx_single 14 (by kernel_rfl) (to_e rfl rfl (e_bsliceG rfl (.agg rfl rfl .nil) rfl rfl) (.inr ⟨fun _ _ h => h.subl SB.s SB.s, fun _ h => h⟩) (fun b64 _ => ?_))); ((refine tx_single 15 (by kernel_rfl) (to_e rfl rfl (e_append_big (old := [] ++ sg.flatMap sgE) (junk := z9.2.2) rfl rfl rfl (by repeat constructor) (by rw [List.nil_append, flatS_len sgE_len]; omega) hz9.2 hz9.1 (fun w' hw' => RdS.own0 (xs := [(⟨b, h, (q.2.getD b []).getD h false⟩ : Sgt)]) sgE_len hw' (by repeat constructor)) (flatE_one sgE_one _) (by simp only [List.length_cons, List.length_nil]; omega) (by simp only [List.length_cons, List.length_nil]; omega)) (.inr ⟨fun _ _ h => h.subl SB.s SB.s, fun _ h => h⟩) (fun u9 hu9 => ?_))))
                     all_goals refine tx_p 16 rfl (by kernel_rfl) (y_field rfl) rfl (fun _ _ _ h => h) (fun _ h => h.subl SB.s SB.s) ?_; refine tx_single 17 (by kernel_rfl) (to_e (S' := HG [] []) rfl rfl (e_store1 rfl rfl (by repeat constructor) (by repeat constructor) (by rfl) (by rfl)) (.inl (by kernel_rfl)) (fun _ _ => ?_))
                     all_goals refine tx_done (by kernel_rfl) ?_))))
                 all_goals ((refine hK11 ?_; try (clear hK11; clear K11)))
                 all_goals refine tc_region ?_; refine tl_q (y_move rfl) rfl ?_; refine tl_q (y_add rfl rfl (by omega)) rfl ?_; refine tl_q (y_assign rfl) rfl ?_; refine tl_nil ?_
                 all_goals (
                  first
                  | (have hsn := hsg.snoc hs6 (b := b) (k := h) (by omega) (by omega)
                     have hnl : 0 + sg.length + [(⟨b, h, (q.2.getD b []).getD h false⟩ : Sgt)].length = (sg ++ [(⟨b, h, (q.2.getD b []).getD h false⟩ : Sgt)]).length := by simp
                     refine tk_lay [(b6, .cells #[vi 0, vi 0, vi 0, vi 0, .slice none 0 0, .slice none 0 0, .slice none 0 0] 26 (0, 0)), (b3, .cells #[vi x.B, vi x.P, vi x.L, vi x.F, tv, pv, .slice (some ⟨u9.1, 0, none⟩) (0 + sg.length + [(⟨b, h, (q.2.getD b []).getD h false⟩ : Sgt)].length) u9.2.1] 26 (0, 0))] SB.s fun wl9 hl9 => tk_round (h + 1, sg ++ [⟨b, h, (q.2.getD b []).getD h false⟩], (some ⟨u9.1, 0, none⟩, u9.2.1), wl9) ⟨⟨by dsimp only; omega, hsn⟩, RdS.app sgE_len (junk := u9.2.2) (e := 65) hl9 (by repeat constructor) rfl, sepS.own (S := [b6, b3]) ?_, ?_⟩ (by dsimp only; omega) (.cons rfl (.cons rfl (.cons rfl (.cons rfl (.cons rfl (.cons rfl (.cons rfl (.cons rfl .nil)))))))) (fun _ h => by dsimp only; rw [← hnl]; exact h.subl SB.s SB.s)
                     · have hh := hl9.nodup
                       simp only [List.map_cons, List.map_nil, List.nodup_cons, List.mem_cons, not_or, List.not_mem_nil, not_false_eq_true, and_true] at hh ⊢
                       omega
                     · intro p m c e
                       cases e
                       have := hl9.own _ (HM.mem (b := u9.1) (by repeat constructor)) (w, []) MI.m
                       simpa using this)
                  | exact tk_round (h + 1, sg, gvv, wz) ⟨⟨by dsimp only; omega, hsg⟩, hgr, hgs, hgn⟩ (by dsimp only; omega) (.cons rfl (.cons rfl (.cons rfl (.cons rfl (.cons rfl (.cons rfl (.cons rfl (.cons rfl .nil)))))))) (fun _ h => h.subl SB.s SB.s))
               · try simp only [qn1, qn2, qn3, qn4, qn5, qn6, qn7, qn8] at hc
                 all_goals refine tc_skip ?_; ((refine hK11 ?_; try (clear hK11; clear K11)))
                 all_goals refine tc_region ?_; refine tl_q (y_move rfl) rfl ?_; refine tl_q (y_add rfl rfl (by omega)) rfl ?_; refine tl_q (y_assign rfl) rfl ?_; refine tl_nil ?_
                 all_goals (
                  first
                  | (have hsn := hsg.snoc hs6 (b := b) (k := h) (by omega) (by omega)
                     have hnl : 0 + sg.length + [(⟨b, h, (q.2.getD b []).getD h false⟩ : Sgt)].length = (sg ++ [(⟨b, h, (q.2.getD b []).getD h false⟩ : Sgt)]).length := by simp
                     refine tk_lay [(b6, .cells #[vi 0, vi 0, vi 0, vi 0, .slice none 0 0, .slice none 0 0, .slice none 0 0] 26 (0, 0)), (b3, .cells #[vi x.B, vi x.P, vi x.L, vi x.F, tv, pv, .slice (some ⟨u9.1, 0, none⟩) (0 + sg.length + [(⟨b, h, (q.2.getD b []).getD h false⟩ : Sgt)].length) u9.2.1] 26 (0, 0))] SB.s fun wl9 hl9 => tk_round (h + 1, sg ++ [⟨b, h, (q.2.getD b []).getD h false⟩], (some ⟨u9.1, 0, none⟩, u9.2.1), wl9) ⟨⟨by dsimp only; omega, hsn⟩, RdS.app sgE_len (junk := u9.2.2) (e := 65) hl9 (by repeat constructor) rfl, sepS.own (S := [b6, b3]) ?_, ?_⟩ (by dsimp only; omega) (.cons rfl (.cons rfl (.cons rfl (.cons rfl (.cons rfl (.cons rfl (.cons rfl (.cons rfl .nil)))))))) (fun _ h => by dsimp only; rw [← hnl]; exact h.subl SB.s SB.s)
                     · have hh := hl9.nodup
                       simp only [List.map_cons, List.map_nil, List.nodup_cons, List.mem_cons, not_or, List.not_mem_nil, not_false_eq_true, and_true] at hh ⊢
                       omega
                     · intro p m c e
                       cases e
                       have := hl9.own _ (HM.mem (b := u9.1) (by repeat constructor)) (w, []) MI.m
                       simpa using this)
                  | exact tk_round (h + 1, sg, gvv, wz) ⟨⟨by dsimp only; omega, hsg⟩, hgr, hgs, hgn⟩ (by dsimp only; omega) (.cons rfl (.cons rfl (.cons rfl (.cons rfl (.cons rfl (.cons rfl (.cons rfl (.cons rfl .nil)))))))) (fun _ h => h.subl SB.s SB.s)))
            · try simp only [qn1, qn2, qn3, qn4, qn5, qn6, qn7, qn8] at hc
              all_goals refine tc_exit ?_; ((refine hK7 ?_; try (clear hK7; clear K7)))
              all_goals refine tc_region ?_; refine tl_q (y_move rfl) rfl ?_; refine tl_q (y_add rfl rfl (by omega)) rfl ?_; refine tl_q (y_assign rfl) rfl ?_; refine tl_nil ?_
              all_goals (
               exact tk_round (b + 1, sg, gvv, wz) ⟨⟨by dsimp only; omega, hsg⟩, hgr, hgs, hgn⟩ (by dsimp only; omega) (.cons rfl (.cons rfl (.cons rfl (.cons rfl (.cons rfl (.cons rfl (.cons rfl .nil))))))) (fun _ h => h.subl SB.s SB.s))))
      · try simp only [qn1, qn2, qn3, qn4, qn5, qn6, qn7, qn8] at hc
        all_goals ((first | (exfalso; with_reducible exact btf hc) | skip))
        all_goals refine tc_exit ?_; ((refine hK3 ?_; try (clear hK3; clear K3)))
        all_goals refine tc_seq fun K13 hK13 => ?_; refine tc_region ?_; refine tl_q (y_loadW rfl (by repeat constructor) (by rfl)) rfl ?_; refine tl_e (e_storeW rfl rfl (by repeat constructor) (by rfl) (by rfl) (smV_ones (s := x) hot hop rfl)) rfl (fun _ _ => ?_); refine tl_nil ?_; ((refine hK13 ?_; try (clear hK13; clear K13)))
        all_goals refine tc_ret ?_; (repeat (first | refine tk_then_ret ?_))
        all_goals (refine tk_ret rfl rfl (.cons (.agg inferInstance rfl (by repeat constructor) (by rfl)) .nil) ?_)
        all_goals (
         exact fun w' hw' => ⟨(sg, gvv), rfl, hw'.fr (w0 := w) (S := []) MI.m, hsg, hgr.frS (hw'.fr (w0 := wz) (S := [b6, b3]) MI.m) hgs, hgn⟩)))
end Go.Sp
/-
  SampleOpened.
-/
namespace Go.Sp
open Go Go.Proofs
theorem RdS.openV {α : Type} {k : Nat} {enc : α → List Value} {w : World} {n : Nat} {y : Option Addr × Nat} {xs : List α} (h : RdS k enc w (slV n y) xs) (hk : ∀ x, (enc x).length = k) (d : α) :
    ∃ b o, (0 < xs.length → y.1 = some ⟨b, o, none⟩) ∧ ∀ w', Fr [] w w' → ∀ i, i < xs.length → CA (fun n => w'.cell? ⟨b, n, none⟩) (o + i * k) k (enc (xs.getD i d)) := by
  obtain ⟨ad, cap, b, o, e, had, hcell⟩ := h.open hk d
  injection e with e1 e2 e3
  subst e1
  exact ⟨b, o, had, fun w' f i hi => hcell w' [] f (by simp) i hi⟩
end Go.Sp
/-
  Package sample: lists of truths; what is played with a bottle.
-/
namespace Go.Sp
open Go Go.Proofs
theorem indexIn_c (g : FuncId) [GoFn Tryz.prog g] (first cap : Array Value) (p : Int → Bool) (xs : List Int) (hx : (xs.length : Int) ≤ 9000000000000000000) (sl : Value) (w : World) (hr : RdI w sl xs) (ht : TestsG Tryz.prog vi g first cap p w) :
    CnV Tryz.prog 145 #[sl, .func (.func g) first cap] w (vi (idxG xs p)) := by
  obtain ⟨ad, cp, b0, o, rfl, had, hcell⟩ := hr.open
  refine cnv (vs := [_, _]) Tryz.func145 rfl rfl ?_
  all_goals refine tc_seq fun K1 hK1 => ?_; refine tc_region ?_; refine tl_q (y_assign rfl) rfl ?_; refine tl_nil ?_; ((refine hK1 ?_; try (clear hK1; clear K1)))
  all_goals refine tc_seq fun K2 hK2 => ?_; refine tc_seq fun K3 hK3 => ?_; refine tc_region ?_; refine tl_q (y_move rfl) rfl ?_; refine tl_q (y_len rfl) rfl ?_; refine tl_q (y_move rfl) rfl ?_; refine tl_nil ?_; ((refine hK3 ?_; try (clear hK3; clear K3)))
  all_goals refine tc_block ?_
  all_goals (
   refine tc_loop (fun k : Nat => k ≤ xs.length ∧ ∀ j, j < k → p (xs.getD j 0) = false) (fun k => [(0, .slice ad xs.length cp), (1, .func (.func g) first cap), (7, vi xs.length), (8, vi k)]) (fun _ => [(w, [])]) (fun _ => []) (fun k => xs.length - k) ?_ ?_
   · exact tk_start 0 ⟨Nat.zero_le _, fun j hj => absurd hj (Nat.not_lt_zero j)⟩ (.cons rfl (.cons rfl (.cons rfl (.cons rfl .nil)))) (fun _ h => h)
   · rintro k ⟨hk, hj⟩
     all_goals refine tc_seq fun K4 hK4 => ?_; refine tc_region ?_; refine tl_q (y_lss rfl rfl) rfl ?_; refine tl_nil ?_; ((refine hK4 ?_; try (clear hK4; clear K4)))
     all_goals refine tc_seq fun K5 hK5 => ?_
     all_goals (
      refine tc_cond rfl (fun hc => ?_) (fun hc => ?_)
      · try simp only [qn1, qn2, qn3, qn4, qn5, qn6, qn7, qn8] at hc
        all_goals refine tc_skip ?_; ((refine hK5 ?_; try (clear hK5; clear K5)))
        all_goals refine tc_seq fun K6 hK6 => ?_; refine tc_block ?_; refine tc_seq fun K7 hK7 => ?_; refine tc_region ?_; refine tl_q (y_move rfl) rfl ?_; refine tl_q (y_assign rfl) rfl ?_; refine tl_nil ?_; ((refine hK7 ?_; try (clear hK7; clear K7)))
        all_goals refine tc_seq fun K8 hK8 => ?_
        have had' := had (by omega)
        all_goals refine tc_region ?_; refine tl_q (y_move rfl) rfl ?_; refine tl_q (y_move rfl) rfl ?_; refine tl_q (y_move rfl) rfl ?_; refine tl_q (y_index rfl rfl (by omega) had') rfl ?_; ((refine tl_q (y_load1o (v := vi (xs.getD k 0)) rfl (fun w' hw' => by rw [show Int.toNat (k : Int) * 1 = k from by omega]; exact hcell w' (hw'.fr (by simp)) k (by omega))) rfl ?_))
        all_goals refine tl_e (e_callVf rfl rfl (.cons rfl .nil) (fun w' hw' => ht (xs.getD k 0) w' (hw'.fr (by simp)))) rfl (fun _ _ => ?_); refine tl_nil ?_; ((refine hK8 ?_; try (clear hK8; clear K8)))
        all_goals (
         refine tc_cond rfl (fun hc => ?_) (fun hc => ?_)
         · all_goals (skip)
           all_goals refine tc_seq fun K9 hK9 => ?_; refine tc_region ?_; refine tl_q (y_move rfl) rfl ?_; refine tl_q (y_assign rfl) rfl ?_; refine tl_nil ?_; ((refine hK9 ?_; try (clear hK9; clear K9)))
           all_goals refine tc_ret ?_; (repeat (first | refine tk_then_ret ?_ | refine tk_block_ret ?_))
           all_goals (refine tk_ret rfl rfl (.cons (.tmp rfl) .nil) ?_)
           all_goals (
            first | exact fun w' hw' => ⟨by rw [idxG_hit (k := k) (by omega) (by simpa using hc) hj]; rfl, hw'.fr (by simp)⟩ | exact fun w' hw' => ⟨by rw [idxG_miss (d := 0) (fun j hjj => hj j (by omega))]; rfl, hw'.fr (by simp)⟩)
         · all_goals (skip)
           all_goals refine tc_skip ?_; ((refine hK6 ?_; try (clear hK6; clear K6)))
           all_goals refine tc_region ?_; refine tl_q (y_add rfl rfl (by omega)) rfl ?_; refine tl_q (y_move rfl) rfl ?_; refine tl_nil ?_
           all_goals (
            exact tk_round (k + 1) ⟨by omega, fun j hj' => by rcases Nat.lt_succ_iff_lt_or_eq.1 hj' with h | rfl; exact hj j h; simpa using hc⟩ (by omega) (.cons rfl (.cons rfl (.cons rfl (.cons rfl .nil)))) (fun _ h => h)))
      · try simp only [qn1, qn2, qn3, qn4, qn5, qn6, qn7, qn8] at hc
        all_goals refine tc_exit ?_; ((refine hK2 ?_; try (clear hK2; clear K2)))
        all_goals refine tc_seq fun K10 hK10 => ?_; refine tc_region ?_; refine tl_q (y_assign rfl) rfl ?_; refine tl_nil ?_; ((refine hK10 ?_; try (clear hK10; clear K10)))
        all_goals refine tc_ret ?_; (repeat (first | refine tk_then_ret ?_))
        all_goals (refine tk_ret rfl rfl (.cons (.tmp rfl) .nil) ?_)
        all_goals (
         first | exact fun w' hw' => ⟨by rw [idxG_hit (k := k) (by omega) (by simpa using hc) hj]; rfl, hw'.fr (by simp)⟩ | exact fun w' hw' => ⟨by rw [idxG_miss (d := 0) (fun j hjj => hj j (by omega))]; rfl, hw'.fr (by simp)⟩)))
theorem containsFuncIn_c (g : FuncId) [GoFn Tryz.prog g] (first cap : Array Value) (p : Int → Bool) (xs : List Int) (hx : (xs.length : Int) ≤ 9000000000000000000) (sl : Value) (w : World) (hr : RdI w sl xs) (ht : TestsG Tryz.prog vi g first cap p w) :
    CnV Tryz.prog 124 #[sl, .func (.func g) first cap] w (.bool (xs.any p)) := by
  refine cnv (vs := [_, _]) Tryz.func124 rfl rfl ?_
  all_goals refine tc_seq fun K1 hK1 => ?_; refine tc_region ?_; refine tl_q (y_assign rfl) rfl ?_; refine tl_nil ?_; ((refine hK1 ?_; try (clear hK1; clear K1)))
  all_goals refine tc_seq fun K2 hK2 => ?_; refine tc_region ?_; refine tl_q (y_move rfl) rfl ?_; refine tl_q (y_move rfl) rfl ?_; refine tl_e (e_callV rfl (.cons rfl (.cons rfl .nil)) (fun w' hw' => indexIn_c g first cap p xs hx _ w' (hr.fr (hw'.fr (by simp))) (ht.fr (hw'.fr (by simp))))) rfl (fun _ _ => ?_); refine tl_q (y_geq rfl rfl) rfl ?_; refine tl_q (y_assign rfl) rfl ?_; refine tl_nil ?_; ((refine hK2 ?_; try (clear hK2; clear K2)))
  all_goals refine tc_ret ?_; (repeat (first | refine tk_then_ret ?_))
  all_goals (refine tk_ret rfl rfl (.cons (.tmp rfl) .nil) ?_)
  all_goals (
   exact fun w' hw' => ⟨by rw [← idxG_any]; rfl, hw'.fr (by simp)⟩)
theorem allIn1_c (g : FuncId) [GoFn Tryz.prog g] (first cap : Array Value) (p : Int → Bool) (x : Int) (b : Nat) (w : World) (hb : w.cell? ⟨b, 0, none⟩ = some (.func (.func g) first cap)) (ht : TestsG Tryz.prog vi g first cap p w) :
    CnV Tryz.prog 125 #[vi x, .pointer (some ⟨b, 0, none⟩)] w (.bool (!(p x))) := by
  refine cnv (vs := [_, _]) Tryz.func125 rfl rfl ?_
  all_goals refine tc_seq fun K1 hK1 => ?_; refine tc_region ?_; refine tl_q (y_assign rfl) rfl ?_; refine tl_nil ?_; ((refine hK1 ?_; try (clear hK1; clear K1)))
  all_goals refine tc_seq fun K2 hK2 => ?_; refine tc_region ?_; refine tl_q (y_load1o rfl (fun w' hw' => (hw'.fr (S := []) (w0 := w) (by simp)).cell (by simp) hb)) rfl ?_; refine tl_q (y_move rfl) rfl ?_; refine tl_e (e_callVf rfl rfl (.cons rfl .nil) (fun w' hw' => ht x w' (hw'.fr (by simp)))) rfl (fun _ _ => ?_); refine tl_q (y_not rfl) rfl ?_; refine tl_q (y_assign rfl) rfl ?_; refine tl_nil ?_; ((refine hK2 ?_; try (clear hK2; clear K2)))
  all_goals refine tc_ret ?_; (repeat (first | refine tk_then_ret ?_))
  all_goals (refine tk_ret rfl rfl (.cons (.tmp rfl) .nil) ?_)
  all_goals (
   exact fun w' hw' => ⟨rfl, hw'.fr (by simp)⟩)
theorem allIn_c (g : FuncId) [GoFn Tryz.prog g] (first cap : Array Value) (p : Int → Bool) (xs : List Int) (hx : (xs.length : Int) ≤ 9000000000000000000) (sl : Value) (w : World) (hr : RdI w sl xs) (ht : TestsG Tryz.prog vi g first cap p w) :
    CnV Tryz.prog 99 #[sl, .func (.func g) first cap] w (.bool (xs.all p)) := by
  refine cnv (vs := [_, _]) Tryz.func99 rfl rfl ?_
  all_goals refine tc_seq fun K1 hK1 => ?_; refine tc_region ?_; refine tl_e (e_box rfl rfl rfl) rfl (fun b _ => ?_); refine tl_q (y_assign rfl) rfl ?_; refine tl_nil ?_; ((refine hK1 ?_; try (clear hK1; clear K1)))
  all_goals refine tc_seq fun K2 hK2 => ?_; refine tc_region ?_; refine tl_q (y_move rfl) rfl ?_; refine tl_q (y_fn .nil (.cons rfl .nil)) rfl ?_; refine tl_e (e_callV rfl (.cons rfl (.cons rfl .nil)) (fun w' hw' => containsFuncIn_c 125 #[] #[.pointer (some ⟨b, 0, none⟩)] (fun x => !(p x)) xs hx _ w' (hr.fr (hw'.fr (by simp))) (fun x w2 f => by simpa using allIn1_c g first cap p x b w2 (f.cell (by simp) (cellAt_cell? (hw'.heap _ (HM.mem (by repeat constructor))) rfl)) ((ht.fr (hw'.fr (by simp))).fr f)))) rfl (fun _ _ => ?_); refine tl_q (y_not rfl) rfl ?_; refine tl_q (y_assign rfl) rfl ?_; refine tl_nil ?_; ((refine hK2 ?_; try (clear hK2; clear K2)))
  all_goals refine tc_ret ?_; (repeat (first | refine tk_then_ret ?_))
  all_goals (refine tk_ret rfl rfl (.cons (.tmp rfl) .nil) ?_)
  all_goals (
   exact fun w' hw' => ⟨by simp [outV, List.all_eq_not_any_not], hw'.fr (by simp)⟩)
def TestsN (P : Program) (us : List Sv) (g : FuncId) (first cap : Array Value) (p : Nat → Bool) (w : World) : Prop := ∀ (i : Nat) (w' : World), i < us.length → Fr [] w w' → CnV P g (first ++ #[(us.getD i sv0).1] ++ cap) w' (.bool (p i))
theorem TestsN.fr {P : Program} {us : List Sv} {g : FuncId} {first cap : Array Value} {p : Nat → Bool} {w w1 : World} (h : TestsN P us g first cap p w) (f : Fr [] w w1) : TestsN P us g first cap p w1 := fun i w' hi f' => h i w' hi (f.trans f' (by simp))
theorem rangeD {n k : Nat} (h : k < n) : (List.range n).getD k 0 = k := by
  rw [List.getD_eq_getElem?_getD, List.getElem?_range h]; rfl
theorem indexSl_c (g : FuncId) [GoFn Tryz.prog g] (first cap : Array Value) (p : Nat → Bool) (us : List Sv) (hx : (us.length : Int) ≤ 9000000000000000000) (sl : Value) (w : World) (hr : RdS 1 svE w sl us) (ht : TestsN Tryz.prog us g first cap p w) :
    CnV Tryz.prog 144 #[sl, .func (.func g) first cap] w (vi (idxG (List.range us.length) p)) := by
  obtain ⟨ad, cp, b0, o, rfl, had, hcell⟩ := hr.open svE_len sv0
  refine cnv (vs := [_, _]) Tryz.func144 rfl rfl ?_
  all_goals refine tc_seq fun K1 hK1 => ?_; refine tc_region ?_; refine tl_q (y_assign rfl) rfl ?_; refine tl_nil ?_; ((refine hK1 ?_; try (clear hK1; clear K1)))
  all_goals refine tc_seq fun K2 hK2 => ?_; refine tc_seq fun K3 hK3 => ?_; refine tc_region ?_; refine tl_q (y_move rfl) rfl ?_; refine tl_q (y_len rfl) rfl ?_; refine tl_q (y_move rfl) rfl ?_; refine tl_nil ?_; ((refine hK3 ?_; try (clear hK3; clear K3)))
  all_goals refine tc_block ?_
  all_goals (
   refine tc_loop (fun k : Nat => k ≤ us.length ∧ ∀ j, j < k → p j = false) (fun k => [(0, .slice ad us.length cp), (1, .func (.func g) first cap), (7, vi us.length), (8, vi k)]) (fun _ => [(w, [])]) (fun _ => []) (fun k => us.length - k) ?_ ?_
   · exact tk_start 0 ⟨Nat.zero_le _, fun j hj => absurd hj (Nat.not_lt_zero j)⟩ (.cons rfl (.cons rfl (.cons rfl (.cons rfl .nil)))) (fun _ h => h)
   · rintro k ⟨hk, hj⟩
     all_goals refine tc_seq fun K4 hK4 => ?_; refine tc_region ?_; refine tl_q (y_lss rfl rfl) rfl ?_; refine tl_nil ?_; ((refine hK4 ?_; try (clear hK4; clear K4)))
     all_goals refine tc_seq fun K5 hK5 => ?_
     all_goals (
      refine tc_cond rfl (fun hc => ?_) (fun hc => ?_)
      · try simp only [qn1, qn2, qn3, qn4, qn5, qn6, qn7, qn8] at hc
        all_goals refine tc_skip ?_; ((refine hK5 ?_; try (clear hK5; clear K5)))
        all_goals refine tc_seq fun K6 hK6 => ?_; refine tc_block ?_; refine tc_seq fun K7 hK7 => ?_; refine tc_region ?_; refine tl_q (y_move rfl) rfl ?_; refine tl_q (y_assign rfl) rfl ?_; refine tl_nil ?_; ((refine hK7 ?_; try (clear hK7; clear K7)))
        all_goals refine tc_seq fun K8 hK8 => ?_
        have had' := had (by omega)
        all_goals refine tc_region ?_; refine tl_q (y_move rfl) rfl ?_; refine tl_q (y_move rfl) rfl ?_; refine tl_q (y_move rfl) rfl ?_; refine tl_q (y_index rfl rfl (by omega) had') rfl ?_; ((refine tl_q (y_load1o (v := (us.getD k sv0).1) rfl (fun w' hw' => by have hx := (hcell w' [] (hw'.fr (by simp)) (by simp) k (by omega)).get 0 _ rfl; rw [show Int.toNat (k : Int) = k from by omega]; exact hx)) rfl ?_))
        all_goals refine tl_e (e_callVf rfl rfl (.cons rfl .nil) (fun w' hw' => ht k w' (by omega) (hw'.fr (by simp)))) rfl (fun _ _ => ?_); refine tl_nil ?_; ((refine hK8 ?_; try (clear hK8; clear K8)))
        all_goals (
         refine tc_cond rfl (fun hc => ?_) (fun hc => ?_)
         · all_goals (skip)
           all_goals refine tc_seq fun K9 hK9 => ?_; refine tc_region ?_; refine tl_q (y_move rfl) rfl ?_; refine tl_q (y_assign rfl) rfl ?_; refine tl_nil ?_; ((refine hK9 ?_; try (clear hK9; clear K9)))
           all_goals refine tc_ret ?_; (repeat (first | refine tk_then_ret ?_ | refine tk_block_ret ?_))
           all_goals (refine tk_ret rfl rfl (.cons (.tmp rfl) .nil) ?_)
           all_goals (
            first | exact fun w' hw' => ⟨by rw [idxG_hit (d := 0) (k := k) (by rw [List.length_range]; omega) (by rw [rangeD (by omega)]; simpa using hc) (fun j hjk => by rw [rangeD (by omega)]; exact hj j hjk)]; rfl, hw'.fr (by simp)⟩ | exact fun w' hw' => ⟨by rw [idxG_miss (d := 0) (fun j hjj => by rw [List.length_range] at hjj; rw [rangeD (by omega)]; exact hj j (by omega))]; rfl, hw'.fr (by simp)⟩)
         · all_goals (skip)
           all_goals refine tc_skip ?_; ((refine hK6 ?_; try (clear hK6; clear K6)))
           all_goals refine tc_region ?_; refine tl_q (y_add rfl rfl (by omega)) rfl ?_; refine tl_q (y_move rfl) rfl ?_; refine tl_nil ?_
           all_goals (
            exact tk_round (k + 1) ⟨by omega, fun j hj' => by rcases Nat.lt_succ_iff_lt_or_eq.1 hj' with h | rfl; exact hj j h; simpa using hc⟩ (by omega) (.cons rfl (.cons rfl (.cons rfl (.cons rfl .nil)))) (fun _ h => h)))
      · try simp only [qn1, qn2, qn3, qn4, qn5, qn6, qn7, qn8] at hc
        all_goals refine tc_exit ?_; ((refine hK2 ?_; try (clear hK2; clear K2)))
        all_goals refine tc_seq fun K10 hK10 => ?_; refine tc_region ?_; refine tl_q (y_assign rfl) rfl ?_; refine tl_nil ?_; ((refine hK10 ?_; try (clear hK10; clear K10)))
        all_goals refine tc_ret ?_; (repeat (first | refine tk_then_ret ?_))
        all_goals (refine tk_ret rfl rfl (.cons (.tmp rfl) .nil) ?_)
        all_goals (
         first | exact fun w' hw' => ⟨by rw [idxG_hit (d := 0) (k := k) (by rw [List.length_range]; omega) (by rw [rangeD (by omega)]; simpa using hc) (fun j hjk => by rw [rangeD (by omega)]; exact hj j hjk)]; rfl, hw'.fr (by simp)⟩ | exact fun w' hw' => ⟨by rw [idxG_miss (d := 0) (fun j hjj => by rw [List.length_range] at hjj; rw [rangeD (by omega)]; exact hj j (by omega))]; rfl, hw'.fr (by simp)⟩)))
theorem containsFuncSl_c (g : FuncId) [GoFn Tryz.prog g] (first cap : Array Value) (p : Nat → Bool) (us : List Sv) (hx : (us.length : Int) ≤ 9000000000000000000) (sl : Value) (w : World) (hr : RdS 1 svE w sl us) (ht : TestsN Tryz.prog us g first cap p w) :
    CnV Tryz.prog 122 #[sl, .func (.func g) first cap] w (.bool ((List.range us.length).any p)) := by
  refine cnv (vs := [_, _]) Tryz.func122 rfl rfl ?_
  all_goals refine tc_seq fun K1 hK1 => ?_; refine tc_region ?_; refine tl_q (y_assign rfl) rfl ?_; refine tl_nil ?_; ((refine hK1 ?_; try (clear hK1; clear K1)))
  all_goals refine tc_seq fun K2 hK2 => ?_; refine tc_region ?_; refine tl_q (y_move rfl) rfl ?_; refine tl_q (y_move rfl) rfl ?_; refine tl_e (e_callV rfl (.cons rfl (.cons rfl .nil)) (fun w' hw' => indexSl_c g first cap p us hx _ w' (hr.fr (hw'.fr (by simp))) (ht.fr (hw'.fr (by simp))))) rfl (fun _ _ => ?_); refine tl_q (y_geq rfl rfl) rfl ?_; refine tl_q (y_assign rfl) rfl ?_; refine tl_nil ?_; ((refine hK2 ?_; try (clear hK2; clear K2)))
  all_goals refine tc_ret ?_; (repeat (first | refine tk_then_ret ?_))
  all_goals (refine tk_ret rfl rfl (.cons (.tmp rfl) .nil) ?_)
  all_goals (
   exact fun w' hw' => ⟨by rw [← idxG_any]; rfl, hw'.fr (by simp)⟩)
theorem allSl1_c (g : FuncId) [GoFn Tryz.prog g] (first cap : Array Value) (p : Nat → Bool) (us : List Sv) (i : Nat) (hi : i < us.length) (b : Nat) (w : World) (hb : w.cell? ⟨b, 0, none⟩ = some (.func (.func g) first cap)) (ht : TestsN Tryz.prog us g first cap p w) :
    CnV Tryz.prog 123 #[(us.getD i sv0).1, .pointer (some ⟨b, 0, none⟩)] w (.bool (!(p i))) := by
  refine cnv (vs := [_, _]) Tryz.func123 rfl rfl ?_
  all_goals refine tc_seq fun K1 hK1 => ?_; refine tc_region ?_; refine tl_q (y_assign rfl) rfl ?_; refine tl_nil ?_; ((refine hK1 ?_; try (clear hK1; clear K1)))
  all_goals refine tc_seq fun K2 hK2 => ?_; refine tc_region ?_; refine tl_q (y_load1o rfl (fun w' hw' => (hw'.fr (S := []) (w0 := w) (by simp)).cell (by simp) hb)) rfl ?_; refine tl_q (y_move rfl) rfl ?_; refine tl_e (e_callVf rfl rfl (.cons rfl .nil) (fun w' hw' => ht i w' hi (hw'.fr (by simp)))) rfl (fun _ _ => ?_); refine tl_q (y_not rfl) rfl ?_; refine tl_q (y_assign rfl) rfl ?_; refine tl_nil ?_; ((refine hK2 ?_; try (clear hK2; clear K2)))
  all_goals refine tc_ret ?_; (repeat (first | refine tk_then_ret ?_))
  all_goals (refine tk_ret rfl rfl (.cons (.tmp rfl) .nil) ?_)
  all_goals (
   exact fun w' hw' => ⟨rfl, hw'.fr (by simp)⟩)
theorem allSl_c (g : FuncId) [GoFn Tryz.prog g] (first cap : Array Value) (p : Nat → Bool) (us : List Sv) (hx : (us.length : Int) ≤ 9000000000000000000) (sl : Value) (w : World) (hr : RdS 1 svE w sl us) (ht : TestsN Tryz.prog us g first cap p w) :
    CnV Tryz.prog 97 #[sl, .func (.func g) first cap] w (.bool ((List.range us.length).all p)) := by
  refine cnv (vs := [_, _]) Tryz.func97 rfl rfl ?_
  all_goals refine tc_seq fun K1 hK1 => ?_; refine tc_region ?_; refine tl_e (e_box rfl rfl rfl) rfl (fun b _ => ?_); refine tl_q (y_assign rfl) rfl ?_; refine tl_nil ?_; ((refine hK1 ?_; try (clear hK1; clear K1)))
  all_goals refine tc_seq fun K2 hK2 => ?_; refine tc_region ?_; refine tl_q (y_move rfl) rfl ?_; refine tl_q (y_fn .nil (.cons rfl .nil)) rfl ?_; refine tl_e (e_callV rfl (.cons rfl (.cons rfl .nil)) (fun w' hw' => containsFuncSl_c 123 #[] #[.pointer (some ⟨b, 0, none⟩)] (fun x => !(p x)) us hx _ w' (hr.fr (hw'.fr (by simp))) (fun i w2 hi f => by simpa using allSl1_c g first cap p us i hi b w2 (f.cell (by simp) (cellAt_cell? (hw'.heap _ (HM.mem (by repeat constructor))) rfl)) ((ht.fr (hw'.fr (by simp))).fr f)))) rfl (fun _ _ => ?_); refine tl_q (y_not rfl) rfl ?_; refine tl_q (y_assign rfl) rfl ?_; refine tl_nil ?_; ((refine hK2 ?_; try (clear hK2; clear K2)))
  all_goals refine tc_ret ?_; (repeat (first | refine tk_then_ret ?_))
  all_goals (refine tk_ret rfl rfl (.cons (.tmp rfl) .nil) ?_)
  all_goals (
   exact fun w' hw' => ⟨by simp [outV, List.all_eq_not_any_not], hw'.fr (by simp)⟩)
theorem mrhas_c (lo hi n : Int) (w : World) : CnV Tryz.prog 95 #[.agg #[vi lo, vi hi], vi n] w (.bool (decide (lo ≤ n ∧ n ≤ hi))) := by
  refine cnv (vs := [_, _]) Tryz.func95 rfl rfl ?_
  all_goals refine tc_seq fun K1 hK1 => ?_; refine tc_region ?_; refine tl_e (e_box rfl rfl rfl) rfl (fun b2 _ => ?_); refine tl_q (y_assign rfl) rfl ?_; refine tl_nil ?_; ((refine hK1 ?_; try (clear hK1; clear K1)))
  all_goals refine tc_seq fun K2 hK2 => ?_; refine tc_region ?_; refine tl_q (y_move rfl) rfl ?_; refine tl_q (y_field rfl) rfl ?_; refine tl_q (y_load1 rfl (by repeat constructor) (by rfl)) rfl ?_; refine tl_q (y_field rfl) rfl ?_; refine tl_q (y_load1 rfl (by repeat constructor) (by rfl)) rfl ?_; refine tl_e (e_callV rfl (.cons rfl (.cons rfl (.cons rfl .nil))) (fun w' _ => mwithin_c _ _ _ w')) rfl (fun _ _ => ?_); refine tl_q (y_assign rfl) rfl ?_; refine tl_nil ?_; ((refine hK2 ?_; try (clear hK2; clear K2)))
  all_goals refine tc_ret ?_; (repeat (first | refine tk_then_ret ?_))
  all_goals (refine tk_ret rfl rfl (.cons (.tmp rfl) .nil) ?_)
  all_goals (
   exact fun w' hw' => ⟨rfl, hw'.fr (w0 := w) (S := []) MI.m⟩)
abbrev kindF (a : Int) : Bool := decide (0 ≤ a ∧ a ≤ 3)
theorem listed1_c (n : Int) (w : World) : CnV Tryz.prog 96 #[vi n] w (.bool (kindF n)) := by
  refine cnv (vs := [_]) Tryz.func96 rfl rfl ?_
  all_goals refine tc_seq fun K1 hK1 => ?_; refine tc_region ?_; refine tl_q (y_assign rfl) rfl ?_; refine tl_nil ?_; ((refine hK1 ?_; try (clear hK1; clear K1)))
  all_goals refine tc_seq fun K2 hK2 => ?_; refine tc_region ?_; refine tl_q (y_move rfl) rfl ?_; refine tl_e (e_callV rfl (.cons rfl (.cons rfl (.cons rfl .nil))) (fun w' _ => mwithin_c _ _ _ w')) rfl (fun _ _ => ?_); refine tl_q (y_assign rfl) rfl ?_; refine tl_nil ?_; ((refine hK2 ?_; try (clear hK2; clear K2)))
  all_goals refine tc_ret ?_; (repeat (first | refine tk_then_ret ?_))
  all_goals (refine tk_ret rfl rfl (.cons (.tmp rfl) .nil) ?_)
  all_goals (
   exact fun w' hw' => ⟨rfl, hw'.fr (w0 := w) (S := []) MI.m⟩)
def actsF (s : Smp) (l : List Int) : Bool := decide ((l.length : Int) = s.L + 1) && l.all kindF
theorem listed2_c (s : Smp) (hl : 0 ≤ s.L ∧ s.L ≤ 9) (tv pv gv : Value) (b2 b7 : Nat) (l : List Int) (hll : l.length ≤ 100) (lv : Value) (w : World) (h2 : w.heap[b2]? = some (smO s tv pv gv)) (h7 : w.heap[b7]? = some (.cells #[.func (.func 96) #[] #[]] 98 (0, 0))) (hr : RdI w lv l) :
    CnV Tryz.prog 98 #[lv, ptr b2, ptr b7] w (.bool (actsF s l)) := by
  have hr0 := hr
  obtain ⟨ad, cp, b0, o, rfl, had, hcell⟩ := hr.open
  refine cnv (vs := [_, _, _]) Tryz.func98 rfl rfl ?_
  all_goals refine tc_seq fun K1 hK1 => ?_; refine tc_region ?_; refine tl_q (y_assign rfl) rfl ?_; refine tl_nil ?_; ((refine hK1 ?_; try (clear hK1; clear K1)))
  all_goals refine tc_seq fun K2 hK2 => ?_; refine tc_region ?_; refine tl_q (y_move rfl) rfl ?_; refine tl_q (y_len rfl) rfl ?_; refine tl_q (y_field rfl) rfl ?_; refine tl_q (y_load1o (v := vi s.L) rfl (fun w' hw' => cell0 ((hw'.fr (w0 := w) (S := []) MI.m).keep h2) rfl)) rfl ?_; refine tl_q (y_add rfl rfl (by omega)) rfl ?_; refine tl_q (y_eql rfl rfl) rfl ?_; refine tl_q (y_move rfl) rfl ?_; ((refine tl_gs rfl rfl (fun hc => ?_) (fun hc => ?_) <;> (try simp only [qn1, qn2, qn3, qn4, qn5, qn6, qn7, qn8] at hc) <;> (first | refine tl_sk rfl rfl rfl rfl ?_ | refine tl_qg rfl rfl (y_move rfl) rfl ?_)))
  all_goals (first | refine tl_sk rfl rfl rfl rfl ?_ | refine tl_qg rfl rfl (y_load1o (v := .func (.func 96) #[] #[]) rfl (fun w' hw' => cell0 ((hw'.fr (w0 := w) (S := []) MI.m).keep h7) rfl)) rfl ?_); (first | refine tl_sk rfl rfl rfl rfl ?_ | refine tl_eg rfl rfl rfl (e_callV rfl (.cons rfl (.cons rfl .nil)) (fun w' hw' => allIn_c 96 #[] #[] kindF l (by omega) _ w' (hr0.fr (hw'.fr (w0 := w) (S := []) MI.m)) (fun x w2 _ => by simpa using listed1_c x w2))) (fun _ _ => ?_)); (first | refine tl_q (y_pick_t rfl rfl) rfl ?_ | refine tl_q (y_pick_f rfl rfl) rfl ?_); refine tl_q (y_assign rfl) rfl ?_; refine tl_nil ?_; ((refine hK2 ?_; try (clear hK2; clear K2)))
  all_goals refine tc_ret ?_; (repeat (first | refine tk_then_ret ?_))
  all_goals (refine tk_ret rfl rfl (.cons (.tmp rfl) .nil) ?_)
  all_goals (
   refine fun w' hw' => ⟨congrArg (fun b => Ending.returned (Value.bool b)) ?_, hw'.fr (w0 := w) (S := []) MI.m⟩
   unfold actsF
   first
   | (rw [decide_eq_true (by assumption)]; rfl)
   | (rw [decide_eq_false (by assumption)]; rfl))
end Go.Sp
/-
  Package sample: listed; played.
-/
namespace Go.Sp
open Go Go.Proofs
/-- Not too large for a machine. -/
structure ThT (t : Tth) : Prop where
  hs : t.hs.length ≤ 9
  an : t.ac.length ≤ 5
  al : ∀ j, j < t.ac.length → (t.ac.getD j []).length ≤ 15
def hrB (s : Smp) (t : Tth) (i : Nat) : Bool := decide ((s.ps.getD i pas0).lo ≤ t.hs.getD i 0 ∧ t.hs.getD i 0 ≤ (s.ps.getD i pas0).hi)
def lstF (s : Smp) (t : Tth) : Bool := (decide (t.hs.length = s.ps.length ∧ (t.ac.length : Int) = s.B) && (List.range s.ps.length).all (hrB s t)) && (List.range t.ac.length).all fun j => actsF s (t.ac.getD j [])
theorem lstF_1 {s : Smp} {t : Tth} (h : ¬ (t.hs.length = s.ps.length ∧ (t.ac.length : Int) = s.B)) : lstF s t = false := by
  unfold lstF; rw [decide_eq_false h]; rfl
theorem lstF_2 {s : Smp} {t : Tth} {i : Nat} (hi : i < s.ps.length) (h : ¬ ((s.ps.getD i pas0).lo ≤ t.hs.getD i 0 ∧ t.hs.getD i 0 ≤ (s.ps.getD i pas0).hi)) : lstF s t = false := by
  have : (List.range s.ps.length).all (hrB s t) = false := by
    cases hq : (List.range s.ps.length).all (hrB s t) with
    | false => rfl
    | true => exact absurd (of_decide_eq_true (List.all_eq_true.1 hq i (List.mem_range.2 hi))) h
  unfold lstF; rw [this, Bool.and_false, Bool.false_and]
theorem lstF_3 {s : Smp} {t : Tth} (h1 : t.hs.length = s.ps.length ∧ (t.ac.length : Int) = s.B) (h2 : ∀ i, i < s.ps.length → hrB s t i = true) : lstF s t = (List.range t.ac.length).all fun j => actsF s (t.ac.getD j []) := by
  unfold lstF
  rw [decide_eq_true h1, List.all_eq_true.2 fun i hi => h2 i (List.mem_range.1 hi)]; rfl
theorem inR_of : ∀ {ps : List Pas} {hs : List Int}, hs.length = ps.length → (∀ i, i < ps.length → (ps.getD i pas0).lo ≤ hs.getD i 0 ∧ hs.getD i 0 ≤ (ps.getD i pas0).hi) → InR ps hs
  | [], hs, h, _ => List.length_eq_zero_iff.1 h
  | p :: ps, [], h, _ => by cases h
  | p :: ps, a :: hs, h, hh => ⟨a, hs, rfl, hh 0 (by simp), inR_of (by simpa using h) fun i hi => hh (i + 1) (by simpa using hi)⟩
structure LstOk (s : Smp) (t : Tth) : Prop where
  l : Lst s t
  r : InR s.ps t.hs
  a3 : ∀ j, j < t.ac.length → ∀ a ∈ t.ac.getD j [], 0 ≤ a ∧ a ≤ 3
theorem actsF_ok {s : Smp} {l : List Int} (h : actsF s l = true) : (l.length : Int) = s.L + 1 ∧ ∀ a ∈ l, 0 ≤ a ∧ a ≤ 3 := by
  unfold actsF at h
  rw [Bool.and_eq_true] at h
  exact ⟨of_decide_eq_true h.1, fun a ha => of_decide_eq_true (List.all_eq_true.1 h.2 a ha)⟩
theorem lstF_ok {s : Smp} {t : Tth} (h : lstF s t = true) : LstOk s t := by
  unfold lstF at h
  rw [Bool.and_eq_true, Bool.and_eq_true] at h
  obtain ⟨⟨h1, h2⟩, h3⟩ := h
  have h1' := of_decide_eq_true h1
  have h4 := fun j hj => actsF_ok (List.all_eq_true.1 h3 j (List.mem_range.2 hj))
  exact ⟨⟨h1'.1, h1'.2, fun j hj => (h4 j hj).1⟩, inR_of h1'.1 fun i hi => of_decide_eq_true (List.all_eq_true.1 h2 i (List.mem_range.2 hi)), fun j hj => (h4 j hj).2⟩
theorem lstF_yes {s : Smp} {t : Tth} (h : LstOk s t) : lstF s t = true := by
  have hr : ∀ {ps : List Pas} {hs : List Int}, InR ps hs → ∀ i, i < ps.length → (ps.getD i pas0).lo ≤ hs.getD i 0 ∧ hs.getD i 0 ≤ (ps.getD i pas0).hi := by
    intro ps
    induction ps with
    | nil => intro hs _ i hi; exact absurd hi (Nat.not_lt_zero i)
    | cons p ps ih =>
      rintro hs ⟨a, t, rfl, ha, ht⟩ i hi
      cases i with
      | zero => exact ha
      | succ i => exact ih ht i (by simpa using hi)
  rw [lstF_3 ⟨h.l.hs, h.l.an⟩ fun i hi => decide_eq_true (hr h.r i hi)]
  refine List.all_eq_true.2 fun j hj => ?_
  have hj' := List.mem_range.1 hj
  unfold actsF
  rw [decide_eq_true (h.l.al j hj'), List.all_eq_true.2 fun a ha => decide_eq_true (h.a3 j hj' a ha)]; rfl
theorem listed_c (s : Smp) (hf : Few s) (hv : VSm s) (t : Tth) (ht : ThT t) (tv pv gv hvv avv : Value) (w : World) (hr : RdSm w s tv pv gv) (hrt : RdTh w t hvv avv) :
    CnV Tryz.prog 77 #[smV s tv pv gv, tV hvv avv] w (.bool (lstF s t)) := by
  have hr0 := hr
  have hl0 := hv.l0
  have hl9 := hv.l9
  have hn6 := hv.n6
  have hot := hr.st.one
  have hog := hr.sg.one
  have hth := ht.hs
  have hta := ht.an
  obtain ⟨adp, cpp, bp, op, rfl, hadp, hcp⟩ := hr.ps.open psE_len pas0
  obtain ⟨adh, cph, bh, oh, rfl, hadh, hch⟩ := hrt.hs.open
  obtain ⟨us, hus, hul, hue⟩ := hrt.ac
  have hus0 := hus
  obtain ⟨ada, cpa, _, _, rfl, _, _⟩ := hus.open svE_len sv0
  refine cnv (vs := [_, _]) Tryz.func77 rfl rfl ?_
  all_goals refine tc_seq fun K1 hK1 => ?_; refine tc_region ?_; refine tl_e (e_box rfl rfl rfl) rfl (fun b2 _ => ?_); refine tl_e (e_box rfl rfl rfl) rfl (fun b3 _ => ?_); refine tl_q (y_assign rfl) rfl ?_; refine tl_nil ?_; ((refine hK1 ?_; try (clear hK1; clear K1)))
  all_goals refine tc_seq fun K2 hK2 => ?_; refine tc_seq fun K3 hK3 => ?_; refine tc_region ?_; refine tl_q (y_field rfl) rfl ?_; refine tl_q (y_load1 rfl (by repeat constructor) (by rfl)) rfl ?_; refine tl_q (y_len rfl) rfl ?_; refine tl_q (y_field rfl) rfl ?_; refine tl_q (y_load1 rfl (by repeat constructor) (by rfl)) rfl ?_; refine tl_q (y_len rfl) rfl ?_; refine tl_q (y_neq rfl rfl) rfl ?_; refine tl_q (y_move rfl) rfl ?_; ((refine tl_gs rfl rfl (fun hc => ?_) (fun hc => ?_) <;> (try simp only [qn1, qn2, qn3, qn4, qn5, qn6, qn7, qn8] at hc) <;> (first | refine tl_sk rfl rfl rfl rfl ?_ | refine tl_qg rfl rfl (y_field rfl) rfl ?_)))
  all_goals (first | refine tl_sk rfl rfl rfl rfl ?_ | refine tl_qg rfl rfl (y_load1 rfl (by repeat constructor) (by rfl)) rfl ?_); (first | refine tl_sk rfl rfl rfl rfl ?_ | refine tl_qg rfl rfl (y_len rfl) rfl ?_); (first | refine tl_sk rfl rfl rfl rfl ?_ | refine tl_qg rfl rfl (y_field rfl) rfl ?_); (first | refine tl_sk rfl rfl rfl rfl ?_ | refine tl_qg rfl rfl (y_load1 rfl (by repeat constructor) (by rfl)) rfl ?_); (first | refine tl_sk rfl rfl rfl rfl ?_ | refine tl_qg rfl rfl (y_neq rfl rfl) rfl ?_); (first | refine tl_q (y_pick_t rfl rfl) rfl ?_ | refine tl_q (y_pick_f rfl rfl) rfl ?_); refine tl_nil ?_; ((refine hK3 ?_; try (clear hK3; clear K3)))
  all_goals (
   refine tc_cond rfl (fun hc => ?_) (fun hc => ?_)
   · try simp only [qn1, qn2, qn3, qn4, qn5, qn6, qn7, qn8] at hc
     all_goals refine tc_seq fun K4 hK4 => ?_; refine tc_region ?_; refine tl_q (y_assign rfl) rfl ?_; refine tl_nil ?_; ((refine hK4 ?_; try (clear hK4; clear K4)))
     all_goals refine tc_ret ?_; (repeat (refine tk_then_ret ?_))
     all_goals (refine tk_ret rfl rfl (.cons (.tmp rfl) .nil) ?_)
     all_goals (
      first
      | (have hE : lstF s t = false := lstF_1 (by omega)
         rw [hE]
         exact fun w' hw' => ⟨rfl, hw'.fr (w0 := w) (S := []) MI.m⟩)
      | (have hE : lstF s t = false := lstF_2 (i := k) (by omega) (by omega)
         rw [hE]
         exact fun w' hw' => ⟨rfl, hw'.fr (w0 := w) (S := []) MI.m⟩)
      | (have hE := lstF_3 (s := s) (t := t) ⟨by omega, by omega⟩ (fun i hi => hkj i (by omega))
         rw [hE, ← hul]
         exact fun w' hw' => ⟨rfl, hw'.fr (w0 := w) (S := []) MI.m⟩))
   · try simp only [qn1, qn2, qn3, qn4, qn5, qn6, qn7, qn8] at hc
     all_goals ((first | (exfalso; with_reducible exact btf hc) | skip))
     all_goals refine tc_skip ?_; ((refine hK2 ?_; try (clear hK2; clear K2)))
     all_goals refine tc_seq fun K5 hK5 => ?_; refine tc_seq fun K6 hK6 => ?_; refine tc_region ?_; refine tl_q (y_field rfl) rfl ?_; refine tl_q (y_load1 rfl (by repeat constructor) (by rfl)) rfl ?_; refine tl_q (y_len rfl) rfl ?_; refine tl_q (y_move rfl) rfl ?_; refine tl_nil ?_; ((refine hK6 ?_; try (clear hK6; clear K6)))
     all_goals refine tc_block ?_
     all_goals (
      refine tc_loop (fun k : Nat => k ≤ s.ps.length ∧ ∀ j, j < k → hrB s t j = true) (fun k => [(2, ptr b2), (3, ptr b3), (24, .slice adp s.ps.length cpp), (25, vi s.ps.length), (26, vi k)]) (fun _ => [(w, [])]) (fun _ => [(b3, .cells #[.slice adh t.hs.length cph, .slice ada us.length cpa] 83 (0, 0)), (b2, .cells #[vi s.B, vi s.P, vi s.L, vi s.F, tv, .slice adp s.ps.length cpp, gv] 36 (0, 0))]) (fun k => s.ps.length - k) ?_ ?_
      · exact tk_start 0 ⟨Nat.zero_le _, fun j hj => absurd hj (Nat.not_lt_zero j)⟩ (.cons rfl (.cons rfl (.cons rfl (.cons rfl (.cons rfl .nil))))) (fun _ h => h.subl SB.s SB.s)
      · rintro k ⟨hk, hkj⟩
        all_goals refine tc_seq fun K7 hK7 => ?_; refine tc_region ?_; refine tl_q (y_lss rfl rfl) rfl ?_; refine tl_nil ?_; ((refine hK7 ?_; try (clear hK7; clear K7)))
        all_goals refine tc_seq fun K8 hK8 => ?_
        all_goals (
         refine tc_cond rfl (fun hc => ?_) (fun hc => ?_)
         · try simp only [qn1, qn2, qn3, qn4, qn5, qn6, qn7, qn8] at hc
           all_goals refine tc_skip ?_; ((refine hK8 ?_; try (clear hK8; clear K8)))
           all_goals refine tc_seq fun K9 hK9 => ?_; refine tc_block ?_; refine tc_seq fun K10 hK10 => ?_; refine tc_region ?_; refine tl_q (y_move rfl) rfl ?_; refine tl_q (y_index rfl rfl (by omega) (hadp (by omega))) rfl ?_; ((refine tl_q (y_loadNo (n := 5) (vs := [vi (s.ps.getD k pas0).b, vi (s.ps.getD k pas0).fr, vi (s.ps.getD k pas0).to, vi (s.ps.getD k pas0).lo, vi (s.ps.getD k pas0).hi]) rfl (fun w' hw' => by rw [show Int.toNat (k : Int) * 5 = k * 5 from by omega]; exact hcp w' [] (hw'.fr (w0 := w) (S := []) MI.m) (by simp) k (by omega))) rfl ?_))
           all_goals refine tl_e (e_allocN rfl) rfl (fun b6 _ => ?_); refine tl_q (y_assign rfl) rfl ?_; refine tl_e (e_storeW rfl rfl (by repeat constructor) (by rfl) (by rfl) (by simp [Value.oneCell'])) rfl (fun _ _ => ?_); refine tl_nil ?_; ((refine hK10 ?_; try (clear hK10; clear K10)))
           all_goals refine tc_seq fun K11 hK11 => ?_; refine tc_draw (by kernel_rfl) ?_; refine tx_p 0 rfl (by kernel_rfl) (y_field rfl) rfl (fun _ _ _ h => h) (fun _ h => h) ?_; ((refine tx_q 1 rfl (by kernel_rfl) (y_loadN rfl (by repeat constructor) (by (repeat (first | exact .nil | apply CA.cons rfl)); done)) rfl (fun _ _ _ h => h) (fun _ h => h) ?_))
           all_goals refine tx_p 2 rfl (by kernel_rfl) (y_field rfl) rfl (fun _ _ _ h => h) (fun _ h => h) ?_; refine tx_q 3 rfl (by kernel_rfl) (y_load1 rfl (by repeat constructor) (by rfl)) rfl (fun _ _ _ h => h) (fun _ h => h) ?_; refine tx_p 4 rfl (by kernel_rfl) (y_move rfl) rfl (fun _ _ _ h => h) (fun _ h => h) ?_; refine tx_p 5 rfl (by kernel_rfl) (y_index rfl rfl (by omega) (hadh (by omega))) rfl (fun _ _ _ h => h) (fun _ h => h) ?_; ((refine tx_q 6 rfl (by kernel_rfl) (y_load1o (v := vi (t.hs.getD k 0)) rfl (fun w' hw' => by rw [show Int.toNat (k : Int) * 1 = k from by omega]; exact hch w' (hw'.fr (w0 := w) (S := []) MI.m) k (by omega))) rfl (fun _ _ _ h => h) (fun _ h => h) ?_))
           all_goals refine tx_e 7 rfl (by kernel_rfl) rfl (e_callV rfl (.cons rfl (.cons rfl .nil)) (fun w' _ => mrhas_c _ _ _ w')) (.inr fun _ _ h => h) (fun _ _ => ?_); refine tx_p 8 rfl (by kernel_rfl) (y_not_dec rfl) rfl (fun _ _ _ h => h) (fun _ h => h) ?_; refine tx_done (by kernel_rfl) ?_; ((refine hK11 ?_; try (clear hK11; clear K11)))
           all_goals (
            refine tc_cond rfl (fun hc => ?_) (fun hc => ?_)
            · try simp only [qn1, qn2, qn3, qn4, qn5, qn6, qn7, qn8] at hc
              all_goals refine tc_seq fun K12 hK12 => ?_; refine tc_region ?_; refine tl_q (y_assign rfl) rfl ?_; refine tl_nil ?_; ((refine hK12 ?_; try (clear hK12; clear K12)))
              all_goals refine tc_ret ?_; (repeat (first | refine tk_then_ret ?_ | refine tk_block_ret ?_))
              all_goals (refine tk_ret rfl rfl (.cons (.tmp rfl) .nil) ?_)
              all_goals (
               first
               | (have hE : lstF s t = false := lstF_1 (by omega)
                  rw [hE]
                  exact fun w' hw' => ⟨rfl, hw'.fr (w0 := w) (S := []) MI.m⟩)
               | (have hE : lstF s t = false := lstF_2 (i := k) (by omega) (by omega)
                  rw [hE]
                  exact fun w' hw' => ⟨rfl, hw'.fr (w0 := w) (S := []) MI.m⟩)
               | (have hE := lstF_3 (s := s) (t := t) ⟨by omega, by omega⟩ (fun i hi => hkj i (by omega))
                  rw [hE, ← hul]
                  exact fun w' hw' => ⟨rfl, hw'.fr (w0 := w) (S := []) MI.m⟩))
            · try simp only [qn1, qn2, qn3, qn4, qn5, qn6, qn7, qn8] at hc
              all_goals refine tc_skip ?_; ((refine hK9 ?_; try (clear hK9; clear K9)))
              all_goals refine tc_region ?_; refine tl_q (y_add rfl rfl (by omega)) rfl ?_; refine tl_q (y_move rfl) rfl ?_; refine tl_nil ?_
              all_goals (
               exact tk_round (k + 1) ⟨by omega, fun j hj => by rcases Nat.lt_succ_iff_lt_or_eq.1 hj with h | rfl; exact hkj j h; exact decide_eq_true (by omega)⟩ (by omega) (.cons rfl (.cons rfl (.cons rfl (.cons rfl (.cons rfl .nil))))) (fun _ h => h.subl SB.s SB.s)))
         · try simp only [qn1, qn2, qn3, qn4, qn5, qn6, qn7, qn8] at hc
           all_goals refine tc_exit ?_; ((refine hK5 ?_; try (clear hK5; clear K5)))
           all_goals refine tc_seq fun K13 hK13 => ?_; refine tc_region ?_; refine tl_e (e_alloc1 rfl) rfl (fun b7 _ => ?_); refine tl_e (e_store1 rfl rfl (by repeat constructor) (by repeat constructor) (by rfl) (by rfl)) rfl (fun _ _ => ?_); refine tl_nil ?_; ((refine hK13 ?_; try (clear hK13; clear K13)))
           all_goals refine tc_seq fun K14 hK14 => ?_; refine tc_region ?_; refine tl_q (y_field rfl) rfl ?_; refine tl_q (y_load1 rfl (by repeat constructor) (by rfl)) rfl ?_; refine tl_q (y_fn .nil (.cons rfl (.cons rfl .nil))) rfl ?_; (refine tl_e (e_callV rfl (.cons rfl (.cons rfl .nil)) (fun w' hw' => allSl_c 98 #[] #[ptr b2, ptr b7] (fun j => actsF s (t.ac.getD j [])) us (by omega) _ w' (hus0.fr (hw'.fr (w0 := w) (S := []) MI.m)) (fun i w2 hi f => by have := ht.al i (by omega); have h := listed2_c s ⟨hl0, hl9⟩ tv (.slice adp s.ps.length cpp) gv b2 b7 (t.ac.getD i []) (by omega) (us.getD i sv0).1 w2 (f.keep (hw'.heap _ (HM.mem (b := b2) (by repeat constructor)))) (f.keep (hw'.heap _ (HM.mem (b := b7) (by repeat constructor)))) (((hue i (by omega)).fr (hw'.fr (w0 := w) (S := []) MI.m)).fr f).toI; simpa using h))) rfl (fun _ _ => ?_))
           all_goals refine tl_q (y_assign rfl) rfl ?_; refine tl_nil ?_; ((refine hK14 ?_; try (clear hK14; clear K14)))
           all_goals refine tc_ret ?_; (repeat (first | refine tk_then_ret ?_))
           all_goals (refine tk_ret rfl rfl (.cons (.tmp rfl) .nil) ?_)
           all_goals (
            first
            | (have hE : lstF s t = false := lstF_1 (by omega)
               rw [hE]
               exact fun w' hw' => ⟨rfl, hw'.fr (w0 := w) (S := []) MI.m⟩)
            | (have hE : lstF s t = false := lstF_2 (i := k) (by omega) (by omega)
               rw [hE]
               exact fun w' hw' => ⟨rfl, hw'.fr (w0 := w) (S := []) MI.m⟩)
            | (have hE := lstF_3 (s := s) (t := t) ⟨by omega, by omega⟩ (fun i hi => hkj i (by omega))
               rw [hE, ← hul]
               exact fun w' hw' => ⟨rfl, hw'.fr (w0 := w) (S := []) MI.m⟩)))))
theorem whN_pad {s : Smp} {b : Int} {l acts : List Int} : ∀ h, h ≤ l.length → whN s b (padC l) acts h = whN s b l acts h
  | 0, _ => rfl
  | h + 1, hh => by rw [whN, whN, whN_pad h (by omega), stB_pad (c := l) (by omega)]
theorem y_fieldAct {F : List (Nat × Value)} {bs : List (World × List Nat)} {H : List (Nat × Obj)} {d : Option Tmp} {ty : TypeId} {pos : String} {after : Array Edge} {g : Option (Nat × Bool)} {x : Operand} {v c : Value} (hx : evalO F x = some (.agg #[v, c])) :
    OpY Tryz.prog ⟨d, .field 145 x 0, ty, pos, after, g⟩ F bs H v := by
  unfold OpY
  intro N a w ht hw
  have hp : (part 143 #[v, c] 0).run Tryz.prog w = .ok v w := by simp [part, isAgg_run Tryz.underlying143, aggD, Result.andThen]
  simp [execOp, ht.eval hx, Instr.field, underlying_run Tryz.underlying145, Result.andThen, asAgg, hp]
theorem played_c (s : Smp) (hf : Few s) (hv : VSm s) (b : Int) (c : List Int) (hco : ChOk s c) (acts : List Int) (hal : (acts.length : Int) = s.L + 1) (ha3 : ∀ a ∈ acts, 0 ≤ a ∧ a ≤ 3) (tv pv gv av : Value) (w : World) (hr : RdSm w s tv pv gv) (hra : RdI w av acts) :
    CnX Tryz.prog 79 #[smV s tv pv gv, vi b, .agg (isV c), av] w [] (fun y : Option Addr × Nat => .tuple #[slV (((whN s b c acts acts.length).map Prod.fst).getD []).length y, .bool (whN s b c acts acts.length).isSome])
      (fun y w' => RdS 1 boE w' (slV (((whN s b c acts acts.length).map Prod.fst).getD []).length y) (((whN s b c acts acts.length).map Prod.fst).getD []) ∧ NewS w (slV (((whN s b c acts acts.length).map Prod.fst).getD []).length y)) := by
  have hr0 := hr
  have hl0 := hv.l0
  have hl9 := hv.l9
  have hstl := hv.st
  have hcl := hco.len
  obtain ⟨adt, cpt, bt, ot, rfl, hadt, hct⟩ := hr.st.open boE_len false
  obtain ⟨ada, cpa, ba, oa, rfl, hada, hca⟩ := hra.open
  have hone : (Value.oneCell' (.slice adt s.st.length cpt) = true ∧ pv.oneCell' = true) ∧ gv.oneCell' = true := ⟨⟨rfl, hr.ps.one⟩, hr.sg.one⟩
  refine cnx0 (vs := [_, _, _, _]) Tryz.func79 rfl rfl ?_
  all_goals refine tc_seq fun K1 hK1 => ?_; refine tc_region ?_; refine tl_e (e_box rfl rfl rfl) rfl (fun b4 _ => ?_); refine tl_e (e_box rfl rfl rfl) rfl (fun b6 _ => ?_); refine tl_q (y_assign rfl) rfl ?_; refine tl_q (y_assign rfl) rfl ?_; refine tl_nil ?_; ((refine hK1 ?_; try (clear hK1; clear K1)))
  all_goals refine tc_seq fun K2 hK2 => ?_; refine tc_region ?_; refine tl_q (y_assign rfl) rfl ?_; refine tl_nil ?_; ((refine hK2 ?_; try (clear hK2; clear K2)))
  all_goals refine tc_seq fun K3 hK3 => ?_; refine tc_seq fun K4 hK4 => ?_; refine tc_region ?_; refine tl_q (y_move rfl) rfl ?_; refine tl_q (y_len rfl) rfl ?_; refine tl_q (y_move rfl) rfl ?_; refine tl_nil ?_; ((refine hK4 ?_; try (clear hK4; clear K4)))
  all_goals refine tc_block ?_
  all_goals (
   refine tc_loop (fun p : Nat × (List Bool × Bool) × OwnB => (p.1 ≤ acts.length ∧ whN s b c acts p.1 = some p.2.1) ∧ okE 1 p.2.1.1 p.2.2) (fun p => [(1, vi b), (4, ptr b4), (6, ptr b6), (8, ouV p.2.1.1.length p.2.2), (10, .bool p.2.1.2), (13, .slice ada acts.length cpa), (14, vi acts.length), (15, vi p.1)]) (fun _ => [(w, [])]) (fun p => (b6, .cells (isV c) 124 (0, 0)) :: (b4, .cells #[vi s.B, vi s.P, vi s.L, vi s.F, .slice adt s.st.length cpt, pv, gv] 36 (0, 0)) :: slE 4 boE p.2.1.1 p.2.2) (fun p => acts.length - p.1) ?_ ?_
   · exact tk_start (0, ([], false), none) ⟨⟨Nat.zero_le _, rfl⟩, rfl⟩ (.cons rfl (.cons rfl (.cons rfl (.cons rfl (.cons rfl (.cons rfl (.cons rfl (.cons rfl .nil)))))))) (fun _ h => by rw [slE_none]; exact h.subl SB.s SB.s)
   · rintro ⟨h, ⟨ws, br⟩, oo⟩ ⟨⟨hh, hwn⟩, hok⟩
     dsimp only at hh hwn hok ⊢
     have hwl := whN_len hwn
     dsimp only at hwl
     all_goals refine tc_seq fun K5 hK5 => ?_; refine tc_region ?_; refine tl_q (y_lss rfl rfl) rfl ?_; refine tl_nil ?_; ((refine hK5 ?_; try (clear hK5; clear K5)))
     all_goals refine tc_seq fun K6 hK6 => ?_
     all_goals (
      refine tc_cond rfl (fun hc => ?_) (fun hc => ?_)
      · try simp only [qn1, qn2, qn3, qn4, qn5, qn6, qn7, qn8] at hc
        all_goals refine tc_skip ?_; ((refine hK6 ?_; try (clear hK6; clear K6)))
        all_goals refine tc_seq fun K7 hK7 => ?_; refine tc_block ?_; refine tc_seq fun K8 hK8 => ?_; ((have hlt : h < acts.length := (by omega); have hpp := hco.pp h (by omega); have h3 := ha3 _ (getD_memG (d := 0) hlt)))
        all_goals (obtain ⟨n, hn⟩ : ∃ n : Nat, (n : Int) = acts.getD h 0 := ⟨(acts.getD h 0).toNat, by omega⟩)
        all_goals ((have hn4 : n < 4 := (by omega); haveI := actId_fn n; obtain ⟨st, hst⟩ : ∃ st, stB s c h = st := ⟨_, rfl⟩))
        all_goals ((have hcell : ∀ w', Fr [] w w' → w'.cell? ⟨bt, ot + (c.getD h 0).toNat * 1, none⟩ = some (.bool st) := fun w' f => by have hx := (hct w' [] f (by simp) (c.getD h 0).toNat (by omega)).get 0 _ rfl; rw [← hst]; exact hx))
        all_goals (have hcs := cellAt_is (l := c) (e := 124) (f := (0, 0)) (o := h) (by omega))
        all_goals refine tc_region ?_; refine tl_q (y_move rfl) rfl ?_; refine tl_q (y_index rfl rfl (by omega) (hada (by omega))) rfl ?_; ((refine tl_q (y_load1o (v := vi (acts.getD h 0)) rfl (fun w' hw' => by rw [show Int.toNat (h : Int) * 1 = h from by omega]; exact hca w' (hw'.fr (w0 := w) (S := []) MI.m) h hlt)) rfl ?_))
        all_goals refine tl_q (y_assign rfl) rfl ?_; refine tl_q (y_assign rfl) rfl ?_; refine tl_nil ?_; ((refine hK8 ?_; try (clear hK8; clear K8)))
        all_goals refine tc_seq fun K9 hK9 => ?_; refine tc_seq fun K10 hK10 => ?_; refine tc_draw (by kernel_rfl) ?_; refine tx_p 1 rfl (by kernel_rfl) (y_move rfl) rfl (fun _ _ _ h => h) (fun _ h => h) ?_; refine tx_p 4 rfl (by kernel_rfl) (y_move rfl) rfl (fun _ _ _ h => h) (fun _ h => h) ?_; refine tx_p 5 rfl (by kernel_rfl) (y_field rfl) rfl (fun _ _ _ h => h) (fun _ h => h) ?_; refine tx_q 6 rfl (by kernel_rfl) (y_load1 rfl (by repeat constructor) (by rfl)) rfl (fun _ _ _ h => h) (fun _ h => h) ?_; refine tx_p 7 rfl (by kernel_rfl) (y_move rfl) rfl (fun _ _ _ h => h) (fun _ h => h) ?_; refine tx_p 8 rfl (by kernel_rfl) (y_indexA rfl rfl (by omega)) rfl (fun _ _ _ h => h) (fun _ h => h) ?_; ((refine tx_q 9 rfl (by kernel_rfl) (y_load1 (v := vi (c.getD h 0)) rfl (by repeat constructor) (by rw [show 0 + Int.toNat (h : Int) * 1 = h from by omega]; exact hcs)) rfl (fun _ _ _ h => h) (fun _ h => h) ?_))
        all_goals (refine tx_p 10 rfl (by kernel_rfl) (y_index rfl rfl (by omega) (hadt (by omega))) rfl (fun _ _ _ h => h) (fun _ h => h) ?_); refine tx_q 11 rfl (by kernel_rfl) (y_load1o (v := .bool st) rfl (fun w' hw' => hcell w' (hw'.fr (w0 := w) (S := []) MI.m))) rfl (fun _ _ _ h => h) (fun _ h => h) ?_; refine tx_p 12 rfl (by kernel_rfl) (y_build_g (by repeat constructor)) rfl (fun _ _ _ h => h) (fun _ h => h) ?_; refine tx_e 0 rfl (by kernel_rfl) rfl (e_callV rfl .nil (fun w' _ => acts_c w')) (.inr fun _ _ h => h) (fun _ _ => ?_); refine tx_q 2 rfl (by kernel_rfl) (y_indexG rfl rfl (by omega) (acts_at (n := n) hn4 hn.symm)) rfl (fun _ _ _ h => h) (fun _ h => h) ?_; refine tx_q 3 rfl (by kernel_rfl) (y_fieldAct rfl) rfl (fun _ _ _ h => h) (fun _ h => h) ?_; refine tx_e 13 rfl (by kernel_rfl) rfl (e_callVf rfl rfl (.cons rfl .nil) (fun w' _ => act_c n br st w')) (.inr fun _ _ h => h) (fun _ _ => ?_); refine tx_p 14 rfl (by kernel_rfl) (y_move rfl) rfl (fun _ _ _ h => h) (fun _ h => h) ?_; refine tx_p 15 rfl (by kernel_rfl) (y_extract rfl rfl) rfl (fun _ _ _ h => h) (fun _ h => h) ?_; refine tx_p 16 rfl (by kernel_rfl) (y_extract rfl rfl) rfl (fun _ _ _ h => h) (fun _ h => h) ?_; refine tx_p 17 rfl (by kernel_rfl) (y_assign rfl) rfl (fun _ _ _ h => h) (fun _ h => h) ?_; refine tx_p 18 rfl (by kernel_rfl) (y_assign rfl) rfl (fun _ _ _ h => h) (fun _ h => h) ?_; refine tx_done (by kernel_rfl) ?_; ((refine hK10 ?_; try (clear hK10; clear K10)))
        all_goals refine tc_seq fun K11 hK11 => ?_; refine tc_region ?_; refine tl_q (y_move rfl) rfl ?_; refine tl_q (y_not rfl) rfl ?_; refine tl_q (y_move rfl) rfl ?_; ((refine tl_gs rfl rfl (fun hc => ?_) (fun hc => ?_) <;> (try simp only [qn1, qn2, qn3, qn4, qn5, qn6, qn7, qn8] at hc) <;> (first | refine tl_sk rfl rfl rfl rfl ?_ | refine tl_qg rfl rfl (y_loadW rfl (by repeat constructor) (by rfl)) rfl ?_)))
        all_goals (first | refine tl_sk rfl rfl rfl rfl ?_ | refine tl_qg rfl rfl (y_move rfl) rfl ?_); (first | refine tl_sk rfl rfl rfl rfl ?_ | refine tl_qg rfl rfl (y_move rfl) rfl ?_); (first | refine tl_sk rfl rfl rfl rfl ?_ | refine tl_qg rfl rfl (y_move rfl) rfl ?_); (first | refine tl_sk rfl rfl rfl rfl ?_ | refine tl_eg rfl rfl rfl (e_callV rfl (.cons rfl (.cons rfl (.cons rfl (.cons rfl .nil)))) (fun w' hw' => seen_c s hf.sg b h (actY br n) _ pv gv hone w' (hr0.sg.fr (hw'.fr (w0 := w) (S := []) MI.m)))) (fun _ _ => ?_)); (first | refine tl_sk rfl rfl rfl rfl ?_ | refine tl_qg rfl rfl (y_not rfl) rfl ?_); (first | refine tl_q (y_pick_t rfl rfl) rfl ?_ | refine tl_q (y_pick_f rfl rfl) rfl ?_); refine tl_nil ?_; ((refine hK11 ?_; try (clear hK11; clear K11)))
        all_goals (
         refine tc_cond rfl (fun hc => ?_) (fun hc => ?_)
         · try simp only [qn1, qn2, qn3, qn4, qn5, qn6, qn7, qn8] at hc
           all_goals refine tc_seq fun K12 hK12 => ?_; refine tc_region ?_; refine tl_q (y_assign rfl) rfl ?_; refine tl_q (y_assign rfl) rfl ?_; refine tl_nil ?_; ((refine hK12 ?_; try (clear hK12; clear K12)))
           all_goals refine tc_ret ?_; (repeat (first | refine tk_then_ret ?_ | refine tk_block_ret ?_))
           all_goals (refine tk_ret rfl rfl (.cons (.tmp rfl) (.cons (.tmp rfl) .nil)) ?_)
           all_goals (
            first
            | (obtain rfl : h = acts.length := by omega
               rw [hwn]
               exact fun w' hw' => ⟨ouA oo, rfl, hw'.fr (w0 := w) (S := []) MI.m, RdS.ofO boE_len hok hw' (by repeat constructor), NewS.ofO hw' (by repeat constructor) MI.m⟩)
            | (have hs : whN s b c acts (h + 1) = none := by
                 rw [whN, hwn]
                 simp only
                 rw [← hn, acIs_nat br _ hn4, acY_nat br hn4, hst]
                 exact if_neg (fun g => by simp_all)
               rw [whN_none hs _ (by omega)]
               exact fun w' hw' => ⟨(none, 0), rfl, hw'.fr (w0 := w) (S := []) MI.m, RdS.nil _ _ _ _, NewS.nil _ _ _⟩))
         · try simp only [qn1, qn2, qn3, qn4, qn5, qn6, qn7, qn8] at hc
           all_goals ((first | (exfalso; with_reducible exact btf hc) | skip))
           all_goals refine tc_skip ?_; ((refine hK9 ?_; try (clear hK9; clear K9)))
           all_goals refine tc_region ?_; refine tl_q (y_move rfl) rfl ?_; refine tl_q (y_move rfl) rfl ?_; refine tl_q (y_not rfl) rfl ?_; ((refine tl_e (e_bslice rfl (by (repeat (first | exact .nil | apply PV.one rfl rfl)); done) rfl rfl) rfl (fun _ _ => ?_)))
           all_goals (refine tl_e (e_appendE (enc := boE) (xs := ws) (ys := [!actY br n]) boE_len boE_one rfl rfl rfl hok (fun _ => by repeat constructor) (fun w' hw' => RdS.own0 boE_len hw' (by repeat constructor)) (by simp only [List.length_cons, List.length_nil]; omega) rfl) rfl (fun oo' hok' => ?_))
           all_goals refine tl_q (y_assign rfl) rfl ?_; refine tl_nil ?_; ((refine hK7 ?_; try (clear hK7; clear K7)))
           all_goals refine tc_region ?_; refine tl_q (y_add rfl rfl (by omega)) rfl ?_; refine tl_q (y_move rfl) rfl ?_; refine tl_nil ?_
           all_goals (
            have hs : whN s b c acts (h + 1) = some (ws ++ [!actY br n], actY br n) := by
              rw [whN, hwn]
              simp only
              rw [← hn, acIs_nat br _ hn4, acY_nat br hn4, hst]
              exact if_pos ⟨by assumption, by assumption⟩
            exact tk_round (h + 1, (ws ++ [!actY br n], actY br n), oo') ⟨⟨by dsimp only; omega, hs⟩, hok'⟩ (by dsimp only; omega) (.cons rfl (.cons rfl (.cons rfl (.cons rfl (.cons rfl (.cons rfl (.cons rfl (.cons rfl .nil)))))))) (fun _ h => h.subl SB.s SB.s)))
      · try simp only [qn1, qn2, qn3, qn4, qn5, qn6, qn7, qn8] at hc
        all_goals refine tc_exit ?_; ((refine hK3 ?_; try (clear hK3; clear K3)))
        all_goals refine tc_seq fun K13 hK13 => ?_; refine tc_region ?_; refine tl_q (y_move rfl) rfl ?_; refine tl_q (y_assign rfl) rfl ?_; refine tl_q (y_assign rfl) rfl ?_; refine tl_nil ?_; ((refine hK13 ?_; try (clear hK13; clear K13)))
        all_goals refine tc_ret ?_; (repeat (first | refine tk_then_ret ?_))
        all_goals (refine tk_ret rfl rfl (.cons (.tmp rfl) (.cons (.tmp rfl) .nil)) ?_)
        all_goals (
         first
         | (obtain rfl : h = acts.length := by omega
            rw [hwn]
            exact fun w' hw' => ⟨ouA oo, rfl, hw'.fr (w0 := w) (S := []) MI.m, RdS.ofO boE_len hok hw' (by repeat constructor), NewS.ofO hw' (by repeat constructor) MI.m⟩)
         | (have hs : whN s b c acts (h + 1) = none := by
              rw [whN, hwn]
              simp only
              rw [← hn, acIs_nat br _ hn4, acY_nat br hn4, hst]
              exact if_neg (fun g => by simp_all)
            rw [whN_none hs _ (by omega)]
            exact fun w' hw' => ⟨(none, 0), rfl, hw'.fr (w0 := w) (S := []) MI.m, RdS.nil _ _ _ _, NewS.nil _ _ _⟩))))
theorem cloneX_c (b cap : Nat) (xs : List Int) (hx : xs.length ≤ 1000) (w : World) (hr : RdI w (.slice (some ⟨b, 0, none⟩) xs.length cap) xs) :
    CnX Tryz.prog 80 #[.slice (some ⟨b, 0, none⟩) xs.length cap] w [] (fun y : Option Addr × Nat => slV xs.length y) (fun y w' => RdI w' (slV xs.length y) xs ∧ NewS w (slV xs.length y)) :=
  (clone_own b cap xs hx w hr).imp (fun r => (some ⟨r.1, 0, none⟩, r.2.1)) (fun _ => rfl) (fun _ h => h) (fun r w' _ h => ⟨by
    refine ⟨by simp, some ⟨r.1, 0, none⟩, r.2.1, rfl, fun _ => ⟨r.1, 0, rfl, ?_⟩⟩
    have := CA_pre (xs.map vi) r.2.2 3 (0, 0)
    rw [List.length_map] at this
    rw [Nat.mul_one]
    exact this.cells h.2.2, fun p m c e => by cases e; exact h.2.1⟩)
end Go.Sp
/-
  Package sample: Play, ProveTruth.
-/
namespace Go.Sp
open Go Go.Proofs
theorem chF_held (s : Smp) (b : Int) (ts : List Int) : chF s b ts = (heldF s b ts).map padC := by
  unfold chF heldF
  rw [Option.map_map]; rfl
theorem played_none {s : Smp} (hf : Few s) (hv : VSm s) {b : Int} {c : List Int} (hco : ChOk s c) {acts : List Int} (hal : (acts.length : Int) = s.L + 1) (ha3 : ∀ a ∈ acts, 0 ≤ a ∧ a ≤ 3) (hW : whN s b c acts acts.length = none) (tv pv gv av : Value) (w : World) (hr : RdSm w s tv pv gv) (hra : RdI w av acts) :
    CnX Tryz.prog 79 #[smV s tv pv gv, vi b, .agg (isV c), av] w [] (fun y : Option Addr × Nat => .tuple #[slV ([] : List Bool).length y, .bool false]) (fun _ _ => True) := by
  have h := played_c s hf hv b c hco acts hal ha3 tv pv gv av w hr hra
  rw [hW] at h
  exact h.imp id (fun _ => rfl) (fun _ h => h) (fun _ _ _ _ => trivial)
theorem played_some {s : Smp} (hf : Few s) (hv : VSm s) {b : Int} {c : List Int} (hco : ChOk s c) {acts : List Int} (hal : (acts.length : Int) = s.L + 1) (ha3 : ∀ a ∈ acts, 0 ≤ a ∧ a ≤ 3) {qq : List Bool × Bool} (hW : whN s b c acts acts.length = some qq) (tv pv gv av : Value) (w : World) (hr : RdSm w s tv pv gv) (hra : RdI w av acts) :
    CnX Tryz.prog 79 #[smV s tv pv gv, vi b, .agg (isV c), av] w [] (fun y : Option Addr × Nat => .tuple #[slV qq.1.length y, .bool true]) (fun y w' => RdS 1 boE w' (slV qq.1.length y) qq.1 ∧ NewS w (slV qq.1.length y)) := by
  have h := played_c s hf hv b c hco acts hal ha3 tv pv gv av w hr hra
  rw [hW] at h
  exact h
theorem chain_rd {bs : List (World × List Nat)} {H : List (Nat × Obj)} {w : World} {b : Nat} {l : List Int} {e : TypeId} (hw : HG bs H w) (hm : HM b (.cells (isV (padC l)) e (0, 0)) H) : RdI w (.slice (some ⟨b, 0, none⟩) l.length 10) l := by
  refine ⟨by simp, some ⟨b, 0, none⟩, 10, rfl, fun _ => ⟨b, 0, rfl, ?_⟩⟩
  have h1 := CA_pre (l.map vi) ((List.replicate (10 - l.length) (0 : Int)).map vi) e (0, 0)
  rw [List.length_map] at h1
  rw [Nat.mul_one]
  have h2 := hw.heap _ hm.mem
  have h3 : isV (padC l) = (l.map vi ++ (List.replicate (10 - l.length) (0 : Int)).map vi).toArray := by unfold isV padC; rw [List.map_append]
  rw [h3] at h2
  exact h1.cells h2
def plE (s : Smp) (t : Tth) : Int := if ¬ chkS s = 0 then chkS s else if lstF s t = false then 2 else if (playF s t).isSome = true then 0 else 11
def plQ (s : Smp) (t : Tth) : List (List Int) × List (List Bool) := if plE s t = 0 then (playF s t).getD ([], []) else ([], [])
theorem plE_1 {s : Smp} {t : Tth} (h : ¬ chkS s = 0) : plE s t = chkS s ∧ plQ s t = ([], []) := by
  have : plE s t = chkS s := if_pos h
  exact ⟨this, if_neg (by rw [this]; exact h)⟩
theorem plE_2 {s : Smp} {t : Tth} (h : chkS s = 0) (h2 : lstF s t = false) : plE s t = 2 ∧ plQ s t = ([], []) := by
  have : plE s t = 2 := by unfold plE; rw [if_neg (fun g => g h), if_pos h2]
  exact ⟨this, if_neg (by rw [this]; decide)⟩
theorem plE_3 {s : Smp} {t : Tth} (h : chkS s = 0) (h2 : lstF s t = true) (h3 : playF s t = none) : plE s t = 11 ∧ plQ s t = ([], []) := by
  have : plE s t = 11 := by unfold plE; rw [if_neg (fun g => g h), h2, if_neg (by decide), h3, if_neg (by decide)]
  exact ⟨this, if_neg (by rw [this]; decide)⟩
theorem plE_4 {s : Smp} {t : Tth} (h : chkS s = 0) (h2 : lstF s t = true) {q : List (List Int) × List (List Bool)} (h3 : playF s t = some q) : plE s t = 0 ∧ plQ s t = q := by
  have : plE s t = 0 := by unfold plE; rw [if_neg (fun g => g h), h2, if_neg (by decide), h3]; rfl
  refine ⟨this, ?_⟩
  unfold plQ
  rw [if_pos this, h3]; rfl
set_option maxHeartbeats 8000000 in
theorem sPlay_c (s : Smp) (hf : Few s) (t : Tth) (hth : ThT t) (tv pv gv hvv avv : Value) (w : World) (hr : RdSm w s tv pv gv) (hrt : RdTh w t hvv avv) :
    CnX Tryz.prog 43 #[smV s tv pv gv, tV hvv avv] w [] (fun y : (Option Addr × Nat) × (Option Addr × Nat) => .tuple #[slV (plQ s t).1.length y.1, slV (plQ s t).2.length y.2, vi (plE s t)])
      (fun y w' => RdLN 1 inE w w' (slV (plQ s t).1.length y.1) (plQ s t).1 ∧ RdLN 1 boE w w' (slV (plQ s t).2.length y.2) (plQ s t).2) := by
  have hr0 := hr
  have ht0 := hrt
  have hot := hr.st.one
  have hop := hr.ps.one
  have hog := hr.sg.one
  obtain ⟨_, _, _, _, rfl, _, _⟩ := hrt.hs.open
  obtain ⟨ada, cpa, ba, oa, aus, rfl, hada, hca, hra⟩ := hrt.ac.open
  refine cnx0 (vs := [_, _]) Tryz.func43 rfl rfl ?_
  all_goals refine tc_seq fun K1 hK1 => ?_; refine tc_region ?_; refine tl_e (e_box rfl rfl rfl) rfl (fun b2 _ => ?_); refine tl_e (e_box rfl rfl rfl) rfl (fun b3 _ => ?_); refine tl_q (y_assign rfl) rfl ?_; refine tl_q (y_assign rfl) rfl ?_; refine tl_q (y_assign rfl) rfl ?_; refine tl_nil ?_; ((refine hK1 ?_; try (clear hK1; clear K1)))
  all_goals refine tc_seq fun K2 hK2 => ?_; refine tc_seq fun K3 hK3 => ?_; refine tc_lay ([]) (SB.s .nil) (fun wl1 hl1 => ?_); refine tc_region ?_; refine tl_q (y_loadWf rfl (hl1.at (by repeat constructor)) MI.m (by simp) (by rfl)) rfl ?_; refine tl_e (e_callV rfl (.cons rfl .nil) (fun w' hw' => checkSample_c s hf _ _ _ w' (hr0.fr (hw'.fr (w0 := w) (S := []) MI.m)))) rfl (fun _ _ => ?_); refine tl_q (y_assign rfl) rfl ?_; refine tl_nil ?_; ((refine hK3 ?_; try (clear hK3; clear K3)))
  all_goals refine tc_block ?_; refine tc_seq fun K4 hK4 => ?_; refine tc_region ?_; refine tl_q (y_move rfl) rfl ?_; refine tl_q (y_neq rfl rfl) rfl ?_; refine tl_q (y_assign rfl) rfl ?_; refine tl_nil ?_; ((refine hK4 ?_; try (clear hK4; clear K4)))
  all_goals (
   refine tc_cond rfl (fun hc => ?_) (fun hc => ?_)
   · try simp only [qn1, qn2, qn3, qn4, qn5, qn6, qn7, qn8] at hc
     all_goals refine tc_seq fun K5 hK5 => ?_; refine tc_region ?_; refine tl_q (y_move rfl) rfl ?_; refine tl_q (y_assign rfl) rfl ?_; refine tl_q (y_assign rfl) rfl ?_; refine tl_q (y_assign rfl) rfl ?_; refine tl_nil ?_; ((refine hK5 ?_; try (clear hK5; clear K5)))
     all_goals refine tc_ret ?_; (repeat (first | refine tk_then_ret ?_ | refine tk_block_ret ?_))
     all_goals (refine tk_ret rfl rfl (.cons (.tmp rfl) (.cons (.tmp rfl) (.cons (.tmp rfl) .nil))) ?_)
     all_goals (
      first
      | (have hE1 := plE_1 (s := s) (t := t) (by assumption)
         rw [hE1.1, hE1.2]
         exact fun w' hw' => ⟨((none, 0), (none, 0)), rfl, hw'.fr (w0 := w) (S := []) MI.m, RdLN.nil _ _ _ _ _, RdLN.nil _ _ _ _ _⟩)
      | (have hE1 := plE_2 (s := s) (t := t) (by assumption) (by assumption)
         rw [hE1.1, hE1.2]
         exact fun w' hw' => ⟨((none, 0), (none, 0)), rfl, hw'.fr (w0 := w) (S := []) MI.m, RdLN.nil _ _ _ _ _, RdLN.nil _ _ _ _ _⟩)
      | (have h1 : playB s t n = none := by unfold playB; rw [hhf]
         have h2 : playN s t (n + 1) = none := by rw [playN, hpn]; simp only; rw [h1]
         have hE1 := plE_3 (s := s) (t := t) hk0 hls (playN_none h2 _ (by omega))
         rw [hE1.1, hE1.2]
         exact fun w' hw' => ⟨((none, 0), (none, 0)), rfl, hw'.fr (w0 := w) (S := []) MI.m, RdLN.nil _ _ _ _ _, RdLN.nil _ _ _ _ _⟩)
      | (have h1 : playB s t n = none := by unfold playB; rw [hhf]; simp only; rw [hwh]
         have h2 : playN s t (n + 1) = none := by rw [playN, hpn]; simp only; rw [h1]
         have hE1 := plE_3 (s := s) (t := t) hk0 hls (playN_none h2 _ (by omega))
         rw [hE1.1, hE1.2]
         exact fun w' hw' => ⟨((none, 0), (none, 0)), rfl, hw'.fr (w0 := w) (S := []) MI.m, RdLN.nil _ _ _ _ _, RdLN.nil _ _ _ _ _⟩)
      | (obtain rfl : n = s.B.toNat := by omega
         have hE1 := plE_4 (s := s) (t := t) hk0 hls (q := q) hpn
         rw [hE1.1, hE1.2]
         refine fun w' hw' => ⟨(ouA o1, ouA o2), ?_, hw'.fr (w0 := w) (S := []) MI.m, ?_, ?_⟩
         · show Ending.returned (outV [ouV us.length o1, ouV vs.length o2, vi 0]) = _
           rw [hul, hvl]; rfl
         · have := RdLN.ofO hok1 hu hnu hw' (hw'.fr (w0 := wz) (S := S) MI.m) (w0 := w) MI.m (by repeat constructor)
           rw [hul] at this; exact this
         · have := RdLN.ofO hok2 hvv hnv hw' (hw'.fr (w0 := wz) (S := S) MI.m) (w0 := w) MI.m (by repeat constructor)
           rw [hvl] at this; exact this))
   · try simp only [qn1, qn2, qn3, qn4, qn5, qn6, qn7, qn8] at hc
     all_goals refine tc_seq fun K6 hK6 => ?_; refine tc_region ?_; refine tl_q (y_loadWf rfl (hl1.at (by repeat constructor)) MI.m (by simp) (by rfl)) rfl ?_; refine tl_q (y_loadWf rfl (hl1.at (by repeat constructor)) MI.m (by simp) (by rfl)) rfl ?_; refine tl_e (e_callV rfl (.cons rfl (.cons rfl .nil)) (fun w' hw' => listed_c s hf (chkS_0.1 (by assumption)) t hth _ _ _ _ _ w' (hr0.fr (hw'.fr (w0 := w) (S := []) MI.m)) (ht0.fr (hw'.fr (w0 := w) (S := []) MI.m)))) rfl (fun _ _ => ?_); refine tl_q (y_not rfl) rfl ?_; refine tl_q (y_assign rfl) rfl ?_; refine tl_nil ?_; ((refine hK6 ?_; try (clear hK6; clear K6)))
     all_goals (
      refine tc_cond rfl (fun hc => ?_) (fun hc => ?_)
      · try simp only [qn1, qn2, qn3, qn4, qn5, qn6, qn7, qn8] at hc
        all_goals refine tc_seq fun K7 hK7 => ?_; refine tc_region ?_; refine tl_q (y_assign rfl) rfl ?_; refine tl_q (y_assign rfl) rfl ?_; refine tl_q (y_assign rfl) rfl ?_; refine tl_nil ?_; ((refine hK7 ?_; try (clear hK7; clear K7)))
        all_goals refine tc_ret ?_; (repeat (first | refine tk_then_ret ?_ | refine tk_block_ret ?_))
        all_goals (refine tk_ret rfl rfl (.cons (.tmp rfl) (.cons (.tmp rfl) (.cons (.tmp rfl) .nil))) ?_)
        all_goals (
         first
         | (have hE1 := plE_1 (s := s) (t := t) (by assumption)
            rw [hE1.1, hE1.2]
            exact fun w' hw' => ⟨((none, 0), (none, 0)), rfl, hw'.fr (w0 := w) (S := []) MI.m, RdLN.nil _ _ _ _ _, RdLN.nil _ _ _ _ _⟩)
         | (have hE1 := plE_2 (s := s) (t := t) (by assumption) (by assumption)
            rw [hE1.1, hE1.2]
            exact fun w' hw' => ⟨((none, 0), (none, 0)), rfl, hw'.fr (w0 := w) (S := []) MI.m, RdLN.nil _ _ _ _ _, RdLN.nil _ _ _ _ _⟩)
         | (have h1 : playB s t n = none := by unfold playB; rw [hhf]
            have h2 : playN s t (n + 1) = none := by rw [playN, hpn]; simp only; rw [h1]
            have hE1 := plE_3 (s := s) (t := t) hk0 hls (playN_none h2 _ (by omega))
            rw [hE1.1, hE1.2]
            exact fun w' hw' => ⟨((none, 0), (none, 0)), rfl, hw'.fr (w0 := w) (S := []) MI.m, RdLN.nil _ _ _ _ _, RdLN.nil _ _ _ _ _⟩)
         | (have h1 : playB s t n = none := by unfold playB; rw [hhf]; simp only; rw [hwh]
            have h2 : playN s t (n + 1) = none := by rw [playN, hpn]; simp only; rw [h1]
            have hE1 := plE_3 (s := s) (t := t) hk0 hls (playN_none h2 _ (by omega))
            rw [hE1.1, hE1.2]
            exact fun w' hw' => ⟨((none, 0), (none, 0)), rfl, hw'.fr (w0 := w) (S := []) MI.m, RdLN.nil _ _ _ _ _, RdLN.nil _ _ _ _ _⟩)
         | (obtain rfl : n = s.B.toNat := by omega
            have hE1 := plE_4 (s := s) (t := t) hk0 hls (q := q) hpn
            rw [hE1.1, hE1.2]
            refine fun w' hw' => ⟨(ouA o1, ouA o2), ?_, hw'.fr (w0 := w) (S := []) MI.m, ?_, ?_⟩
            · show Ending.returned (outV [ouV us.length o1, ouV vs.length o2, vi 0]) = _
              rw [hul, hvl]; rfl
            · have := RdLN.ofO hok1 hu hnu hw' (hw'.fr (w0 := wz) (S := S) MI.m) (w0 := w) MI.m (by repeat constructor)
              rw [hul] at this; exact this
            · have := RdLN.ofO hok2 hvv hnv hw' (hw'.fr (w0 := wz) (S := S) MI.m) (w0 := w) MI.m (by repeat constructor)
              rw [hvl] at this; exact this))
      · try simp only [qn1, qn2, qn3, qn4, qn5, qn6, qn7, qn8] at hc
        all_goals refine tc_skip ?_; ((refine hK2 ?_; try (clear hK2; clear K2)))
        all_goals refine tc_seq fun K8 hK8 => ?_; refine tc_seq fun K9 hK9 => ?_; (have hk0 : chkS s = 0 := by assumption)
        all_goals (have hls : lstF s t = true := by assumption)
        all_goals ((have hv := chkS_0.1 hk0; have hlo := lstF_ok hls; have hb1 := hv.b1; have hb3 := hv.b3; have hl0 := hv.l0; have hl9 := hv.l9; have hla := hlo.l.an))
        all_goals refine tc_region ?_; refine tl_q (y_field rfl) rfl ?_; refine tl_q (y_load1f rfl (hl1.at (by repeat constructor)) MI.m (by simp) (by rfl)) rfl ?_; refine tl_q (y_move rfl) rfl ?_; refine tl_nil ?_; ((refine hK9 ?_; try (clear hK9; clear K9)))
        all_goals refine tc_block ?_
        all_goals (
         refine tc_loop (fun p : Nat × (List (List Int) × List (List Bool)) × (List Sv × List Sv) × (OwnB × OwnB) × World => (p.1 : Int) ≤ s.B ∧ playN s t p.1 = some p.2.1 ∧ (okE 1 p.2.2.1.1 p.2.2.2.1.1 ∧ okE 1 p.2.2.1.2 p.2.2.2.1.2) ∧ OKV 1 inE p.2.2.2.2 ((slE 29 svE p.2.2.1.1 p.2.2.2.1.1 ++ slE 22 svE p.2.2.1.2 p.2.2.2.1.2).map Prod.fst) p.2.2.1.1 p.2.1.1 ∧ OKV 1 boE p.2.2.2.2 ((slE 29 svE p.2.2.1.1 p.2.2.2.1.1 ++ slE 22 svE p.2.2.1.2 p.2.2.2.1.2).map Prod.fst) p.2.2.1.2 p.2.1.2 ∧ NewV w p.2.2.1.1 ∧ NewV w p.2.2.1.2) (fun p => [(2, ptr b2), (3, ptr b3), (4, ouV p.2.2.1.1.length p.2.2.2.1.1), (5, ouV p.2.2.1.2.length p.2.2.2.1.2), (25, vi s.B), (26, vi p.1)]) (fun p => [(p.2.2.2.2, (slE 29 svE p.2.2.1.1 p.2.2.2.1.1 ++ slE 22 svE p.2.2.1.2 p.2.2.2.1.2).map Prod.fst), (wl1, []), (w, [])]) (fun p => slE 29 svE p.2.2.1.1 p.2.2.2.1.1 ++ slE 22 svE p.2.2.1.2 p.2.2.2.1.2) (fun p => s.B.toNat - p.1) ?_ ?_
         · exact tk_lay [] (SB.s .nil) fun wl2 hl2 => tk_start (0, ([], []), ([], []), (none, none), wl2) ⟨by dsimp only; omega, rfl, ⟨rfl, rfl⟩, OKV.nil, OKV.nil, NewV.nil _, NewV.nil _⟩ (.cons rfl (.cons rfl (.cons rfl (.cons rfl (.cons rfl (.cons rfl .nil)))))) (fun _ h => by rw [slE_none, slE_none]; exact h.subl SB.s SB.s)
         · rintro ⟨n, q, ⟨us, vs⟩, ⟨o1, o2⟩, wz⟩ ⟨hn, hpn, ⟨hok1, hok2⟩, hu, hvv, hnu, hnv⟩
           dsimp only at hn hpn hok1 hok2 hu hvv hnu hnv ⊢
           obtain ⟨S, hS⟩ : ∃ S, S = (slE 29 svE us o1 ++ slE 22 svE vs o2).map Prod.fst := ⟨_, rfl⟩
           rw [← hS] at hu hvv ⊢
           have hpl := playN_len hpn
           have hul := hu.1
           have hvl := hvv.1
           all_goals refine tc_seq fun K10 hK10 => ?_; refine tc_region ?_; refine tl_q (y_lss rfl rfl) rfl ?_; refine tl_nil ?_; ((refine hK10 ?_; try (clear hK10; clear K10)))
           all_goals refine tc_seq fun K11 hK11 => ?_
           all_goals (
            refine tc_cond rfl (fun hc => ?_) (fun hc => ?_)
            · try simp only [qn1, qn2, qn3, qn4, qn5, qn6, qn7, qn8] at hc
              all_goals refine tc_skip ?_; ((refine hK11 ?_; try (clear hK11; clear K11)))
              all_goals refine tc_seq fun K12 hK12 => ?_; refine tc_block ?_; refine tc_seq fun K13 hK13 => ?_; refine tc_region ?_; refine tl_q (y_move rfl) rfl ?_; refine tl_q (y_assign rfl) rfl ?_; refine tl_nil ?_; ((refine hK13 ?_; try (clear hK13; clear K13)))
              all_goals refine tc_seq fun K14 hK14 => ?_; (rcases hhf : heldF s (n : Nat) t.hs with _ | l)
              all_goals ((have hE := congrArg Option.isSome ((chF_held s (n : Nat) t.hs).trans (congrArg (Option.map padC) hhf)); simp only [Option.map_none, Option.map_some, Option.isSome_none, Option.isSome_some] at hE))
              all_goals refine tc_region ?_; refine tl_q (y_loadWf rfl (hl1.at (by repeat constructor)) MI.m (by simp) (by rfl)) rfl ?_; refine tl_q (y_move rfl) rfl ?_; refine tl_q (y_field rfl) rfl ?_; refine tl_q (y_load1f rfl (hl1.at (by repeat constructor)) MI.m (by simp) (by rfl)) rfl ?_; refine tl_e (e_callX rfl (.cons rfl (.cons rfl (.cons rfl .nil))) (fun w' hw' => chained_c s hf hv (n : Nat) t.hs hlo.l.hs _ _ _ _ w' (hr0.fr (hw'.fr (w0 := w) (S := []) MI.m)) (ht0.hs.fr (hw'.fr (w0 := w) (S := []) MI.m)))) rfl (fun y hy => ?_); ((obtain ⟨⟨hy1, hy2⟩, hyw⟩ := hy; rw [hE]))
              all_goals refine tl_q (y_move rfl) rfl ?_; refine tl_q (y_extract rfl rfl) rfl ?_; refine tl_q (y_extract rfl rfl) rfl ?_; refine tl_e (e_allocN rfl) rfl (fun b9 _ => ?_); refine tl_e (e_storeW rfl rfl (by repeat constructor) (by first | rfl | rw [isV_size, hy1]) (by first | rfl | rw [isV_size, hy1]) (isV_one _)) rfl (fun _ _ => ?_); refine tl_q (y_assign rfl) rfl ?_; refine tl_nil ?_; ((refine hK14 ?_; try (clear hK14; clear K14)))
              all_goals refine tc_seq fun K15 hK15 => ?_; refine tc_seq fun K16 hK16 => ?_; refine tc_region ?_; refine tl_q (y_move rfl) rfl ?_; refine tl_q (y_not rfl) rfl ?_; refine tl_nil ?_; ((refine hK16 ?_; try (clear hK16; clear K16)))
              all_goals (
               refine tc_cond rfl (fun hc => ?_) (fun hc => ?_)
               · try simp only [qn1, qn2, qn3, qn4, qn5, qn6, qn7, qn8] at hc
                 all_goals ((first | (exfalso; with_reducible exact btf hc) | skip))
                 all_goals refine tc_seq fun K17 hK17 => ?_; refine tc_region ?_; refine tl_q (y_assign rfl) rfl ?_; refine tl_q (y_assign rfl) rfl ?_; refine tl_q (y_assign rfl) rfl ?_; refine tl_nil ?_; ((refine hK17 ?_; try (clear hK17; clear K17)))
                 all_goals refine tc_ret ?_; (repeat (first | refine tk_then_ret ?_ | refine tk_block_ret ?_))
                 all_goals (refine tk_ret rfl rfl (.cons (.tmp rfl) (.cons (.tmp rfl) (.cons (.tmp rfl) .nil))) ?_)
                 all_goals (
                  first
                  | (have hE1 := plE_1 (s := s) (t := t) (by assumption)
                     rw [hE1.1, hE1.2]
                     exact fun w' hw' => ⟨((none, 0), (none, 0)), rfl, hw'.fr (w0 := w) (S := []) MI.m, RdLN.nil _ _ _ _ _, RdLN.nil _ _ _ _ _⟩)
                  | (have hE1 := plE_2 (s := s) (t := t) (by assumption) (by assumption)
                     rw [hE1.1, hE1.2]
                     exact fun w' hw' => ⟨((none, 0), (none, 0)), rfl, hw'.fr (w0 := w) (S := []) MI.m, RdLN.nil _ _ _ _ _, RdLN.nil _ _ _ _ _⟩)
                  | (have h1 : playB s t n = none := by unfold playB; rw [hhf]
                     have h2 : playN s t (n + 1) = none := by rw [playN, hpn]; simp only; rw [h1]
                     have hE1 := plE_3 (s := s) (t := t) hk0 hls (playN_none h2 _ (by omega))
                     rw [hE1.1, hE1.2]
                     exact fun w' hw' => ⟨((none, 0), (none, 0)), rfl, hw'.fr (w0 := w) (S := []) MI.m, RdLN.nil _ _ _ _ _, RdLN.nil _ _ _ _ _⟩)
                  | (have h1 : playB s t n = none := by unfold playB; rw [hhf]; simp only; rw [hwh]
                     have h2 : playN s t (n + 1) = none := by rw [playN, hpn]; simp only; rw [h1]
                     have hE1 := plE_3 (s := s) (t := t) hk0 hls (playN_none h2 _ (by omega))
                     rw [hE1.1, hE1.2]
                     exact fun w' hw' => ⟨((none, 0), (none, 0)), rfl, hw'.fr (w0 := w) (S := []) MI.m, RdLN.nil _ _ _ _ _, RdLN.nil _ _ _ _ _⟩)
                  | (obtain rfl : n = s.B.toNat := by omega
                     have hE1 := plE_4 (s := s) (t := t) hk0 hls (q := q) hpn
                     rw [hE1.1, hE1.2]
                     refine fun w' hw' => ⟨(ouA o1, ouA o2), ?_, hw'.fr (w0 := w) (S := []) MI.m, ?_, ?_⟩
                     · show Ending.returned (outV [ouV us.length o1, ouV vs.length o2, vi 0]) = _
                       rw [hul, hvl]; rfl
                     · have := RdLN.ofO hok1 hu hnu hw' (hw'.fr (w0 := wz) (S := S) MI.m) (w0 := w) MI.m (by repeat constructor)
                       rw [hul] at this; exact this
                     · have := RdLN.ofO hok2 hvv hnv hw' (hw'.fr (w0 := wz) (S := S) MI.m) (w0 := w) MI.m (by repeat constructor)
                       rw [hvl] at this; exact this))
               · try simp only [qn1, qn2, qn3, qn4, qn5, qn6, qn7, qn8] at hc
                 all_goals ((first | (exfalso; with_reducible exact bft hc) | skip))
                 all_goals refine tc_skip ?_; ((refine hK15 ?_; try (clear hK15; clear K15)))
                 all_goals refine tc_seq fun K18 hK18 => ?_; (have hyl : y.1 = padC l := hy2 _ ((chF_held s (n : Nat) t.hs).trans (congrArg (Option.map padC) hhf)))
                 all_goals ((have hco : ChOk s y.1 := chF_ok hv (by rw [hyl]; exact (chF_held s (n : Nat) t.hs).trans (congrArg (Option.map padC) hhf)); have hlo2 := heldF_ok hv hhf))
                 all_goals (have hnB : n < t.ac.length := by omega)
                 all_goals ((have hal := hlo.l.al n hnB; have ha3 := hlo.a3 n hnB; obtain ⟨adn, cpn, bn, on, hen, hadn, hcn⟩ := (hra w (Fr.refl _ _) n hnB).open inE_len 0))
                 all_goals (have hWl : (t.ac.getD n []).length = (s.L + 1).toNat := by omega)
                 all_goals ((have hWp : whN s (n : Nat) y.1 (t.ac.getD n []) (t.ac.getD n []).length = whN s (n : Nat) l (t.ac.getD n []) (s.L + 1).toNat := by rw [hyl, hWl]; exact whN_pad _ (by omega)))
                 all_goals ((have hrn : ∀ w', Fr [] w w' → RdI w' (.slice adn (t.ac.getD n []).length cpn) (t.ac.getD n []) := fun w' f => by rw [← hen]; exact (hra w' f n hnB).toI))
                 all_goals (rcases hwh : whN s (n : Nat) l (t.ac.getD n []) (s.L + 1).toNat with _ | qq)
                 all_goals refine tc_draw (by kernel_rfl) ?_; refine tx_q 0 rfl (by kernel_rfl) (y_loadWf rfl (hl1.at (by repeat constructor)) MI.m (by simp) (by rfl)) rfl (fun _ _ _ h => h) (fun _ h => h) ?_; refine tx_p 1 rfl (by kernel_rfl) (y_move rfl) rfl (fun _ _ _ h => h) (fun _ h => h) ?_; refine tx_q 2 rfl (by kernel_rfl) (y_loadW rfl (by repeat constructor) (by rw [isV_size, hy1])) rfl (fun _ _ _ h => h) (fun _ h => h) ?_; refine tx_p 3 rfl (by kernel_rfl) (y_field rfl) rfl (fun _ _ _ h => h) (fun _ h => h) ?_; refine tx_q 4 rfl (by kernel_rfl) (y_load1f rfl (hl1.at (by repeat constructor)) MI.m (by simp) (by rfl)) rfl (fun _ _ _ h => h) (fun _ h => h) ?_; refine tx_p 5 rfl (by kernel_rfl) (y_move rfl) rfl (fun _ _ _ h => h) (fun _ h => h) ?_; refine tx_p 6 rfl (by kernel_rfl) (y_index rfl rfl (by omega) (hada (by omega))) rfl (fun _ _ _ h => h) (fun _ h => h) ?_; ((refine tx_q 7 rfl (by kernel_rfl) (y_load1o (v := .slice adn (t.ac.getD n []).length cpn) rfl (fun w' hw' => by rw [show Int.toNat (n : Int) * 1 = n from by omega, ← hen]; exact hca w' (hw'.fr (w0 := w) (S := []) MI.m) n hnB)) rfl (fun _ _ _ h => h) (fun _ h => h) ?_))
                 all_goals (first | refine tx_e 8 rfl (by kernel_rfl) rfl (e_callX rfl (.cons rfl (.cons rfl (.cons rfl (.cons rfl .nil)))) (fun w' hw' => played_none hf hv hco hal ha3 (hWp.trans hwh) _ _ _ _ w' (hr0.fr (hw'.fr (w0 := w) (S := []) MI.m)) (hrn w' (hw'.fr (w0 := w) (S := []) MI.m)))) (.inr fun _ _ h => h.sub (fun _ h => List.mem_cons_of_mem _ h) (List.Sublist.refl _)) (fun y12 hy12 => ?_) | refine tx_e 8 rfl (by kernel_rfl) rfl (e_callX rfl (.cons rfl (.cons rfl (.cons rfl (.cons rfl .nil)))) (fun w' hw' => (played_some hf hv hco hal ha3 (hWp.trans hwh) _ _ _ _ w' (hr0.fr (hw'.fr (w0 := w) (S := []) MI.m)) (hrn w' (hw'.fr (w0 := w) (S := []) MI.m))).imp (val' := fun y : Option Addr × Nat => .tuple #[slV qq.1.length y, .bool true]) (p' := fun y w2 => RdS 1 boE w2 (slV qq.1.length y) qq.1 ∧ sepS (slV qq.1.length y) (b9 :: (slE 29 svE us o1 ++ slE 22 svE vs o2).map Prod.fst) ∧ NewS w (slV qq.1.length y)) id (fun _ => rfl) (fun _ h => h) (fun _ _ _ hp => ⟨hp.1, hp.2.sep hw', hp.2.le (hw'.fr (w0 := w) (S := []) MI.m).size⟩))) (.inr fun _ _ h => h.sub (fun _ h => List.mem_cons_of_mem _ h) (List.Sublist.refl _)) (fun y12 hy12 => ?_)); refine tx_p 9 rfl (by kernel_rfl) (y_move rfl) rfl (fun _ _ _ h => h) (fun _ h => h) ?_; refine tx_p 10 rfl (by kernel_rfl) (y_extract rfl rfl) rfl (fun _ _ _ h => h) (fun _ h => h) ?_; refine tx_p 11 rfl (by kernel_rfl) (y_extract rfl rfl) rfl (fun _ _ _ h => h) (fun _ h => h) ?_; refine tx_p 12 rfl (by kernel_rfl) (y_assign rfl) rfl (fun _ _ _ h => h) (fun _ h => h) ?_; refine tx_p 13 rfl (by kernel_rfl) (y_assign rfl) rfl (fun _ _ _ h => h) (fun _ h => h) ?_; refine tx_done (by kernel_rfl) ?_; ((refine hK18 ?_; try (clear hK18; clear K18)))
                 all_goals refine tc_seq fun K19 hK19 => ?_; refine tc_seq fun K20 hK20 => ?_; refine tc_region ?_; refine tl_q (y_move rfl) rfl ?_; refine tl_q (y_not rfl) rfl ?_; refine tl_nil ?_; ((refine hK20 ?_; try (clear hK20; clear K20)))
                 all_goals (
                  refine tc_cond rfl (fun hc => ?_) (fun hc => ?_)
                  · try simp only [qn1, qn2, qn3, qn4, qn5, qn6, qn7, qn8] at hc
                    all_goals ((first | (exfalso; with_reducible exact btf hc) | skip))
                    all_goals refine tc_seq fun K21 hK21 => ?_; refine tc_region ?_; refine tl_q (y_assign rfl) rfl ?_; refine tl_q (y_assign rfl) rfl ?_; refine tl_q (y_assign rfl) rfl ?_; refine tl_nil ?_; ((refine hK21 ?_; try (clear hK21; clear K21)))
                    all_goals refine tc_ret ?_; (repeat (first | refine tk_then_ret ?_ | refine tk_block_ret ?_))
                    all_goals (refine tk_ret rfl rfl (.cons (.tmp rfl) (.cons (.tmp rfl) (.cons (.tmp rfl) .nil))) ?_)
                    all_goals (
                     first
                     | (have hE1 := plE_1 (s := s) (t := t) (by assumption)
                        rw [hE1.1, hE1.2]
                        exact fun w' hw' => ⟨((none, 0), (none, 0)), rfl, hw'.fr (w0 := w) (S := []) MI.m, RdLN.nil _ _ _ _ _, RdLN.nil _ _ _ _ _⟩)
                     | (have hE1 := plE_2 (s := s) (t := t) (by assumption) (by assumption)
                        rw [hE1.1, hE1.2]
                        exact fun w' hw' => ⟨((none, 0), (none, 0)), rfl, hw'.fr (w0 := w) (S := []) MI.m, RdLN.nil _ _ _ _ _, RdLN.nil _ _ _ _ _⟩)
                     | (have h1 : playB s t n = none := by unfold playB; rw [hhf]
                        have h2 : playN s t (n + 1) = none := by rw [playN, hpn]; simp only; rw [h1]
                        have hE1 := plE_3 (s := s) (t := t) hk0 hls (playN_none h2 _ (by omega))
                        rw [hE1.1, hE1.2]
                        exact fun w' hw' => ⟨((none, 0), (none, 0)), rfl, hw'.fr (w0 := w) (S := []) MI.m, RdLN.nil _ _ _ _ _, RdLN.nil _ _ _ _ _⟩)
                     | (have h1 : playB s t n = none := by unfold playB; rw [hhf]; simp only; rw [hwh]
                        have h2 : playN s t (n + 1) = none := by rw [playN, hpn]; simp only; rw [h1]
                        have hE1 := plE_3 (s := s) (t := t) hk0 hls (playN_none h2 _ (by omega))
                        rw [hE1.1, hE1.2]
                        exact fun w' hw' => ⟨((none, 0), (none, 0)), rfl, hw'.fr (w0 := w) (S := []) MI.m, RdLN.nil _ _ _ _ _, RdLN.nil _ _ _ _ _⟩)
                     | (obtain rfl : n = s.B.toNat := by omega
                        have hE1 := plE_4 (s := s) (t := t) hk0 hls (q := q) hpn
                        rw [hE1.1, hE1.2]
                        refine fun w' hw' => ⟨(ouA o1, ouA o2), ?_, hw'.fr (w0 := w) (S := []) MI.m, ?_, ?_⟩
                        · show Ending.returned (outV [ouV us.length o1, ouV vs.length o2, vi 0]) = _
                          rw [hul, hvl]; rfl
                        · have := RdLN.ofO hok1 hu hnu hw' (hw'.fr (w0 := wz) (S := S) MI.m) (w0 := w) MI.m (by repeat constructor)
                          rw [hul] at this; exact this
                        · have := RdLN.ofO hok2 hvv hnv hw' (hw'.fr (w0 := wz) (S := S) MI.m) (w0 := w) MI.m (by repeat constructor)
                          rw [hvl] at this; exact this))
                  · try simp only [qn1, qn2, qn3, qn4, qn5, qn6, qn7, qn8] at hc
                    all_goals ((first | (exfalso; with_reducible exact bft hc) | skip))
                    all_goals refine tc_skip ?_; ((refine hK19 ?_; try (clear hK19; clear K19)))
                    all_goals refine tc_region ?_; refine tl_q (y_move rfl) rfl ?_; refine tl_q (y_field rfl) rfl ?_; refine tl_q (y_load1f rfl (hl1.at (by repeat constructor)) MI.m (by simp) (by rfl)) rfl ?_; refine tl_q (y_add rfl rfl (by omega)) rfl ?_; ((refine tl_q (y_sliceAT (m := l.length) rfl (by rw [hlo2.1]; rfl) (by omega)) rfl ?_))
                    all_goals (refine tl_e (e_callX rfl (.cons rfl .nil) (fun w' hw' => (cloneX_c b9 10 l (by omega) w' (chain_rd hw' (by rw [← hyl]; exact (by repeat constructor)))).imp (val' := fun y : Option Addr × Nat => slV l.length y) (p' := fun y w2 => RdI w2 (slV l.length y) l ∧ sepS (slV l.length y) (b9 :: (slE 29 svE us o1 ++ slE 22 svE vs o2).map Prod.fst) ∧ NewS w (slV l.length y)) id (fun _ => rfl) (fun _ h => h) (fun _ _ _ hp => ⟨hp.1, hp.2.sep hw', hp.2.le (hw'.fr (w0 := w) (S := []) MI.m).size⟩))) rfl (fun y15 hy15 => ?_))
                    all_goals (refine tl_e (e_bslice rfl (by (repeat (first | exact .nil | apply PV.one rfl rfl)); done) rfl rfl) rfl (fun b15 _ => ?_))
                    all_goals ((refine tl_e (e_appendE (enc := svE) (xs := us) (ys := [svS l.length y15.1]) svE_len svE_one rfl rfl rfl hok1 (fun _ => by repeat constructor) (fun w' hw' => RdS.own0 svE_len hw' (by repeat constructor)) (by simp only [List.length_cons, List.length_nil]; omega) rfl) rfl (fun o1' hok1' => ?_)))
                    all_goals refine tl_q (y_move rfl) rfl ?_; refine tl_q (y_move rfl) rfl ?_; (refine tl_e (e_bslice rfl (by (repeat (first | exact .nil | apply PV.one rfl rfl)); done) rfl rfl) rfl (fun b16 _ => ?_))
                    all_goals ((refine tl_e (e_appendE (enc := svE) (xs := vs) (ys := [svS qq.1.length y12.1]) svE_len svE_one rfl rfl rfl hok2 (fun _ => by repeat constructor) (fun w' hw' => RdS.own0 svE_len hw' (by repeat constructor)) (by simp only [List.length_cons, List.length_nil]; omega) rfl) rfl (fun o2' hok2' => ?_)))
                    all_goals refine tl_q (y_assign rfl) rfl ?_; refine tl_q (y_assign rfl) rfl ?_; refine tl_nil ?_; ((refine hK12 ?_; try (clear hK12; clear K12)))
                    all_goals refine tc_lay (slE 29 svE (us ++ [svS l.length y15.1]) o1' ++ slE 22 svE (vs ++ [svS qq.1.length y12.1]) o2') ((((List.Sublist.refl _).cons _).cons _).cons _) (fun wl16 hl16 => ?_); refine tc_region ?_; refine tl_q (y_add rfl rfl (by omega)) rfl ?_; refine tl_q (y_move rfl) rfl ?_; refine tl_nil ?_
                    all_goals (
                     have hpb : playB s t n = some (l, qq.1) := by unfold playB; rw [hhf]; simp only; rw [hwh]
                     have hpn1 : playN s t (n + 1) = some (q.1 ++ [l], q.2 ++ [qq.1]) := by rw [playN, hpn]; simp only; rw [hpb]
                     have hfz : Fr S wz wl16 := hl16.fr (w0 := wz) (S := S) MI.m
                     have hoz := hl16.ownsK ((((List.Sublist.refl (slE 29 svE (us ++ [svS l.length y15.1]) o1' ++ slE 22 svE (vs ++ [svS qq.1.length y12.1]) o2')).cons _).cons _).cons _) (w0 := wz) (S := S) MI.m
                     have hol : OKS 1 inE wl16 ((slE 29 svE (us ++ [svS l.length y15.1]) o1' ++ slE 22 svE (vs ++ [svS qq.1.length y12.1]) o2').map Prod.fst) (svS l.length y15.1).1 l := OKS.mk' inE_len (by decide) hl16 ((((List.Sublist.refl _).cons _).cons _).cons _) (x2 := y15.2) (S0 := b9 :: (slE 29 svE us o1 ++ slE 22 svE vs o2).map Prod.fst) MI.m hy15.1.2.1 (RdS.int.2 hy15.1.1)
                     have how : OKS 1 boE wl16 ((slE 29 svE (us ++ [svS l.length y15.1]) o1' ++ slE 22 svE (vs ++ [svS qq.1.length y12.1]) o2').map Prod.fst) (svS qq.1.length y12.1).1 qq.1 := OKS.mk' boE_len (by decide) hl16 ((((List.Sublist.refl _).cons _).cons _).cons _) (x2 := y12.2) (S0 := b9 :: (slE 29 svE us o1 ++ slE 22 svE vs o2).map Prod.fst) MI.m hy12.1.2.1 hy12.1.1
                     exact tk_round (n + 1, (q.1 ++ [l], q.2 ++ [qq.1]), (us ++ [svS l.length y15.1], vs ++ [svS qq.1.length y12.1]), (o1', o2'), wl16) ⟨by dsimp only; omega, hpn1, ⟨hok1', hok2'⟩, (hu.step hfz hoz).snoc hol, (hvv.step hfz hoz).snoc how, hnu.snoc hy15.1.2.2, hnv.snoc hy12.1.2.2⟩ (by dsimp only; omega) (.cons rfl (.cons rfl (.cons rfl (.cons rfl (.cons rfl (.cons rfl .nil)))))) (fun _ h => h.subl SB.s SB.s))))
            · try simp only [qn1, qn2, qn3, qn4, qn5, qn6, qn7, qn8] at hc
              all_goals refine tc_exit ?_; ((refine hK8 ?_; try (clear hK8; clear K8)))
              all_goals refine tc_seq fun K22 hK22 => ?_; refine tc_region ?_; refine tl_q (y_move rfl) rfl ?_; refine tl_q (y_move rfl) rfl ?_; refine tl_q (y_assign rfl) rfl ?_; refine tl_q (y_assign rfl) rfl ?_; refine tl_q (y_assign rfl) rfl ?_; refine tl_nil ?_; ((refine hK22 ?_; try (clear hK22; clear K22)))
              all_goals refine tc_ret ?_; (repeat (first | refine tk_then_ret ?_))
              all_goals (refine tk_ret rfl rfl (.cons (.tmp rfl) (.cons (.tmp rfl) (.cons (.tmp rfl) .nil))) ?_)
              all_goals (
               first
               | (have hE1 := plE_1 (s := s) (t := t) (by assumption)
                  rw [hE1.1, hE1.2]
                  exact fun w' hw' => ⟨((none, 0), (none, 0)), rfl, hw'.fr (w0 := w) (S := []) MI.m, RdLN.nil _ _ _ _ _, RdLN.nil _ _ _ _ _⟩)
               | (have hE1 := plE_2 (s := s) (t := t) (by assumption) (by assumption)
                  rw [hE1.1, hE1.2]
                  exact fun w' hw' => ⟨((none, 0), (none, 0)), rfl, hw'.fr (w0 := w) (S := []) MI.m, RdLN.nil _ _ _ _ _, RdLN.nil _ _ _ _ _⟩)
               | (have h1 : playB s t n = none := by unfold playB; rw [hhf]
                  have h2 : playN s t (n + 1) = none := by rw [playN, hpn]; simp only; rw [h1]
                  have hE1 := plE_3 (s := s) (t := t) hk0 hls (playN_none h2 _ (by omega))
                  rw [hE1.1, hE1.2]
                  exact fun w' hw' => ⟨((none, 0), (none, 0)), rfl, hw'.fr (w0 := w) (S := []) MI.m, RdLN.nil _ _ _ _ _, RdLN.nil _ _ _ _ _⟩)
               | (have h1 : playB s t n = none := by unfold playB; rw [hhf]; simp only; rw [hwh]
                  have h2 : playN s t (n + 1) = none := by rw [playN, hpn]; simp only; rw [h1]
                  have hE1 := plE_3 (s := s) (t := t) hk0 hls (playN_none h2 _ (by omega))
                  rw [hE1.1, hE1.2]
                  exact fun w' hw' => ⟨((none, 0), (none, 0)), rfl, hw'.fr (w0 := w) (S := []) MI.m, RdLN.nil _ _ _ _ _, RdLN.nil _ _ _ _ _⟩)
               | (obtain rfl : n = s.B.toNat := by omega
                  have hE1 := plE_4 (s := s) (t := t) hk0 hls (q := q) hpn
                  rw [hE1.1, hE1.2]
                  refine fun w' hw' => ⟨(ouA o1, ouA o2), ?_, hw'.fr (w0 := w) (S := []) MI.m, ?_, ?_⟩
                  · show Ending.returned (outV [ouV us.length o1, ouV vs.length o2, vi 0]) = _
                    rw [hul, hvl]; rfl
                  · have := RdLN.ofO hok1 hu hnu hw' (hw'.fr (w0 := wz) (S := S) MI.m) (w0 := w) MI.m (by repeat constructor)
                    rw [hul] at this; exact this
                  · have := RdLN.ofO hok2 hvv hnv hw' (hw'.fr (w0 := wz) (S := S) MI.m) (w0 := w) MI.m (by repeat constructor)
                    rw [hvl] at this; exact this))))))
theorem sPlayL_c (s : Smp) (hf : Few s) (t : Tth) (hth : ThT t) (tv pv gv hvv avv : Value) (w : World) (hr : RdSm w s tv pv gv) (hrt : RdTh w t hvv avv) :
    CnX Tryz.prog 43 #[smV s tv pv gv, tV hvv avv] w [] (fun y : (Option Addr × Nat) × (Option Addr × Nat) => .tuple #[slV (plQ s t).1.length y.1, slV (plQ s t).2.length y.2, vi (plE s t)])
      (fun y w' => RdLL 1 inE w' (slV (plQ s t).1.length y.1) (plQ s t).1 ∧ RdLL 1 boE w' (slV (plQ s t).2.length y.2) (plQ s t).2) :=
  (sPlay_c s hf t hth tv pv gv hvv avv w hr hrt).imp id (fun _ => rfl) (fun _ h => h) (fun _ _ _ h => ⟨h.1.ll, h.2.ll⟩)
theorem proveTruth_c (s : Smp) (hf : Few s) (t : Tth) (hth : ThT t) (tv pv gv hvv avv : Value) (w : World) (hr : RdSm w s tv pv gv) (hrt : RdTh w t hvv avv) :
    CnV Tryz.prog 45 #[smV s tv pv gv, tV hvv avv] w (.bool (decide (plE s t = 0))) := by
  have hr0 := hr
  have ht0 := hrt
  obtain ⟨_, _, _, _, rfl, _, _⟩ := hr.st.open boE_len false
  obtain ⟨_, _, _, _, rfl, _, _⟩ := hr.ps.open psE_len pas0
  obtain ⟨_, _, _, _, rfl, _, _⟩ := hr.sg.open sgE_len sgt0
  obtain ⟨_, _, _, _, rfl, _, _⟩ := hrt.hs.open
  obtain ⟨_, _, _, _, _, rfl, _, _, _⟩ := hrt.ac.open
  refine cnv (vs := [_, _]) Tryz.func45 rfl rfl ?_
  all_goals refine tc_seq fun K1 hK1 => ?_; refine tc_region ?_; refine tl_e (e_box rfl rfl rfl) rfl (fun b2 _ => ?_); refine tl_e (e_box rfl rfl rfl) rfl (fun b3 _ => ?_); refine tl_q (y_assign rfl) rfl ?_; refine tl_nil ?_; ((refine hK1 ?_; try (clear hK1; clear K1)))
  all_goals refine tc_seq fun K2 hK2 => ?_; refine tc_region ?_; refine tl_q (y_loadW rfl (by repeat constructor) (by rfl)) rfl ?_; refine tl_q (y_loadW rfl (by repeat constructor) (by rfl)) rfl ?_; refine tl_e (e_callX rfl (.cons rfl (.cons rfl .nil)) (fun w' hw' => sPlayL_c s hf t hth _ _ _ _ _ w' (hr0.fr (hw'.fr (w0 := w) (S := []) MI.m)) (ht0.fr (hw'.fr (w0 := w) (S := []) MI.m)))) rfl (fun _ _ => ?_); refine tl_q (y_move rfl) rfl ?_; refine tl_q (y_extract rfl rfl) rfl ?_; refine tl_q (y_extract rfl rfl) rfl ?_; refine tl_q (y_extract rfl rfl) rfl ?_; refine tl_q (y_assign rfl) rfl ?_; refine tl_q (y_assign rfl) rfl ?_; refine tl_q (y_assign rfl) rfl ?_; refine tl_nil ?_; ((refine hK2 ?_; try (clear hK2; clear K2)))
  all_goals refine tc_seq fun K3 hK3 => ?_; refine tc_region ?_; refine tl_q (y_move rfl) rfl ?_; refine tl_q (y_eql rfl rfl) rfl ?_; refine tl_q (y_assign rfl) rfl ?_; refine tl_nil ?_; ((refine hK3 ?_; try (clear hK3; clear K3)))
  all_goals refine tc_ret ?_; (repeat (first | refine tk_then_ret ?_))
  all_goals (refine tk_ret rfl rfl (.cons (.tmp rfl) .nil) ?_)
  all_goals (
   exact fun w' hw' => ⟨rfl, hw'.fr (w0 := w) (S := []) MI.m⟩)
end Go.Sp
/-
  Law's helpers: truths for the program; what is thin; the reference's IsListed.
-/
namespace Go.Sp
open Go Go.Proofs
theorem llist_c (l : List Int) (hl : l.length ≤ 100) (lv : Value) (w : World) (hr : RdI w lv l) :
    CnX Tryz.prog 81 #[lv] w [] (fun y : Option Addr × Nat => slV l.length y) (fun y w' => RdI w' (slV l.length y) l ∧ NewS w (slV l.length y)) := by
  have hr0 := hr
  obtain ⟨ad, cp, b0, o, rfl, had, hcell⟩ := hr.open
  refine cnx0 (vs := [_]) Tryz.func81 rfl rfl ?_
  all_goals refine tc_seq fun K1 hK1 => ?_; refine tc_region ?_; refine tl_q (y_assign rfl) rfl ?_; refine tl_nil ?_; ((refine hK1 ?_; try (clear hK1; clear K1)))
  all_goals refine tc_seq fun K2 hK2 => ?_; refine tc_region ?_; (refine tl_e (e_bslice rfl (by (repeat (exact .nil)); done) rfl rfl) rfl (fun _ _ => ?_))
  all_goals refine tl_q (y_move rfl) rfl ?_; (refine tl_e (e_append_own (old := []) (junk := []) rfl rfl rfl (by repeat constructor) rfl rfl (Nat.le_refl 0) (fun w' hw' => hr0.fr (hw'.fr (by simp))) (fun u hu => by obtain ⟨_, _, rfl⟩ := List.mem_map.1 hu; rfl) (by omega) rfl) rfl (fun r hq => ?_))
  all_goals refine tl_q (y_assign rfl) rfl ?_; refine tl_nil ?_; ((refine hK2 ?_; try (clear hK2; clear K2)))
  all_goals refine tc_ret ?_; (repeat (first | refine tk_then_ret ?_))
  all_goals (refine tk_ret rfl rfl (.cons (.tmp rfl) .nil) ?_)
  all_goals (
   refine fun w' hw' => ⟨(some ⟨r.1, 0, none⟩, r.2.1), by simp [outV, slV], hw'.fr (by simp), ?_, ?_⟩
   · have h2 := hw'.heap _ (HM.mem (b := r.1) (by repeat constructor))
     refine ⟨by simp, some ⟨r.1, 0, none⟩, r.2.1, rfl, fun _ => ⟨r.1, 0, rfl, ?_⟩⟩
     have h1 := CA_pre (l.map vi) r.2.2 3 (0, 0)
     rw [List.length_map] at h1
     rw [Nat.mul_one]
     exact h1.cells (by simpa using h2)
   · intro p m c e
     cases e
     exact (hw'.own _ (HM.mem (b := r.1) (by repeat constructor)) (w, []) (by simp)).resolve_left (by simp))
set_option maxHeartbeats 4000000 in
theorem lawTruth_c (t : Tth) (ht : ThT t) (hvv avv : Value) (w : World) (hrt : RdTh w t hvv avv) :
    CnX Tryz.prog 44 #[tV hvv avv] w [] (fun y : (Option Addr × Nat) × (Option Addr × Nat) => tV (slV t.hs.length y.1) (slV t.ac.length y.2)) (fun y w' => RdTh w' t (slV t.hs.length y.1) (slV t.ac.length y.2)) := by
  have ht0 := hrt
  have hth := ht.hs
  have hta := ht.an
  obtain ⟨_, _, _, _, rfl, _, _⟩ := hrt.hs.open
  obtain ⟨ada, cpa, ba, oa, aus, rfl, hada, hca, hra⟩ := hrt.ac.open
  refine cnx0 (vs := [_]) Tryz.func44 rfl rfl ?_
  all_goals refine tc_seq fun K1 hK1 => ?_; refine tc_region ?_; refine tl_e (e_box rfl rfl rfl) rfl (fun b1 _ => ?_); refine tl_e (e_allocN rfl) rfl (fun b2 _ => ?_); refine tl_nil ?_; ((refine hK1 ?_; try (clear hK1; clear K1)))
  all_goals refine tc_seq fun K2 hK2 => ?_; refine tc_lay ([(b2, .cells #[.slice none 0 0, .slice none 0 0] 83 (0, 0))]) SB.s (fun wl1 hl1 => ?_); ((have hn1 : ¬ b1 = b2 := by have hh := hl1.nodup; simp only [List.map_cons, List.map_nil, List.nodup_cons, List.mem_cons, not_or, List.not_mem_nil, not_false_eq_true, and_true] at hh; omega))
  all_goals refine tc_region ?_; refine tl_q (y_field rfl) rfl ?_; ((refine tl_q (y_load1f rfl (hl1.at (by repeat constructor)) MI.m (by first | (simp; done) | (simp; omega)) (by rfl)) rfl ?_))
  all_goals (refine tl_e (e_callX rfl (.cons rfl .nil) (fun w' hw' => (llist_c t.hs (by omega) _ w' (ht0.hs.fr (hw'.fr (w0 := w) (S := []) MI.m))).imp (val' := fun y : Option Addr × Nat => slV t.hs.length y) (p' := fun y w2 => RdI w2 (slV t.hs.length y) t.hs ∧ sepS (slV t.hs.length y) [b2]) id (fun _ => rfl) (fun _ h => h) (fun _ _ _ hp => ⟨hp.1, hp.2.sep hw'⟩))) rfl (fun y1 hy1 => ?_)); refine tl_q (y_build_g (by repeat constructor)) rfl ?_; refine tl_e (e_allocN rfl) rfl (fun b3 _ => ?_); refine tl_e (e_storeW rfl rfl (by repeat constructor) (by rfl) (by rfl) (two_ones rfl rfl)) rfl (fun _ _ => ?_); refine tl_nil ?_; ((refine hK2 ?_; try (clear hK2; clear K2)))
  all_goals refine tc_seq fun K3 hK3 => ?_; refine tc_seq fun K4 hK4 => ?_; refine tc_region ?_; refine tl_q (y_assign rfl) rfl ?_; refine tl_nil ?_; ((refine hK4 ?_; try (clear hK4; clear K4)))
  all_goals refine tc_block ?_
  all_goals (
   refine tc_loop (fun p : Nat × List Sv × OwnB × World => (p.1 ≤ t.ac.length ∧ okE 1 p.2.1 p.2.2.1) ∧ OKV 1 inE p.2.2.2 (b3 :: b2 :: (slE 29 svE p.2.1 p.2.2.1).map Prod.fst) p.2.1 (t.ac.take p.1)) (fun p => [(1, ptr b1), (2, ptr b2), (3, ptr b3), (4, vi p.1)]) (fun p => [(p.2.2.2, b3 :: b2 :: (slE 29 svE p.2.1 p.2.2.1).map Prod.fst), (y1.2, [b2]), (wl1, [b2]), (w, [])]) (fun p => (b3, .cells #[slV t.hs.length y1.1, ouV p.2.1.length p.2.2.1] 83 (0, 0)) :: (b2, .cells #[.slice none 0 0, .slice none 0 0] 83 (0, 0)) :: slE 29 svE p.2.1 p.2.2.1) (fun p => t.ac.length - p.1) ?_ ?_
   · exact tk_lay [(b3, .cells #[slV t.hs.length y1.1, .slice none 0 0] 83 (0, 0)), (b2, .cells #[.slice none 0 0, .slice none 0 0] 83 (0, 0))] SB.s fun wl2 hl2 => tk_start (0, [], none, wl2) ⟨⟨Nat.zero_le _, rfl⟩, OKV.nil⟩ (.cons rfl (.cons rfl (.cons rfl (.cons rfl .nil)))) (fun _ h => by dsimp only; rw [slE_none]; exact h.subl SB.s SB.s)
   · rintro ⟨n, us, oo, wz⟩ ⟨⟨hn, hok⟩, hu⟩
     dsimp only at hn hok hu ⊢
     have hul := hu.1
     rw [List.length_take_of_le hn] at hul
     all_goals refine tc_seq fun K5 hK5 => ?_; refine tc_seq fun K6 hK6 => ?_; refine tc_region ?_; refine tl_q (y_move rfl) rfl ?_; refine tl_q (y_field rfl) rfl ?_; ((refine tl_q (y_load1f rfl (hl1.at (by repeat constructor)) MI.m (by first | (simp; done) | (simp; omega)) (by rfl)) rfl ?_))
     all_goals refine tl_q (y_len rfl) rfl ?_; refine tl_q (y_lss rfl rfl) rfl ?_; refine tl_nil ?_; ((refine hK6 ?_; try (clear hK6; clear K6)))
     all_goals (
      refine tc_cond rfl (fun hc => ?_) (fun hc => ?_)
      · try simp only [qn1, qn2, qn3, qn4, qn5, qn6, qn7, qn8] at hc
        all_goals refine tc_skip ?_; ((refine hK5 ?_; try (clear hK5; clear K5)))
        all_goals refine tc_seq fun K7 hK7 => ?_; refine tc_block ?_; ((have hnB : n < t.ac.length := (by omega); have hal := ht.al n hnB; obtain ⟨adn, cpn, bn, on, hen, hadn, hcn⟩ := (hra w (Fr.refl _ _) n hnB).open inE_len 0))
        all_goals ((have hrn : ∀ w', Fr [] w w' → RdI w' (.slice adn (t.ac.getD n []).length cpn) (t.ac.getD n []) := fun w' f => by rw [← hen]; exact (hra w' f n hnB).toI))
        all_goals refine tc_drawS ((b3, .cells #[slV t.hs.length y1.1, ouV us.length oo] 83 (0, 0)) :: (b2, .cells #[.slice none 0 0, .slice none 0 0] 83 (0, 0)) :: []) (by kernel_rfl) ?_; refine tx_p 0 rfl (by kernel_rfl) (y_field rfl) rfl (fun _ _ _ h => h) (fun _ h => h.subl SB.s SB.s) ?_; refine tx_qS 1 rfl (by kernel_rfl) (y_load1 rfl (by repeat constructor) (by rfl)) rfl (fun _ _ _ h => h) (fun _ h => h.subl SB.s SB.s) ?_; refine tx_p 2 rfl (by kernel_rfl) (y_field rfl) rfl (fun _ _ _ h => h) (fun _ h => h.subl SB.s SB.s) ?_; ((refine tx_qS 3 rfl (by kernel_rfl) (y_load1f rfl (hl1.at (by repeat constructor)) MI.m (by first | (simp; done) | (simp; omega)) (by rfl)) rfl (fun _ _ _ h => h) (fun _ h => h.subl SB.s SB.s) ?_))
        all_goals refine tx_p 4 rfl (by kernel_rfl) (y_move rfl) rfl (fun _ _ _ h => h) (fun _ h => h.subl SB.s SB.s) ?_; refine tx_p 5 rfl (by kernel_rfl) (y_index rfl rfl (by omega) (hada (by omega))) rfl (fun _ _ _ h => h) (fun _ h => h.subl SB.s SB.s) ?_; ((refine tx_qS 6 rfl (by kernel_rfl) (y_load1o (v := .slice adn (t.ac.getD n []).length cpn) rfl (fun w' hw' => by rw [show Int.toNat (n : Int) * 1 = n from by omega, ← hen]; exact hca w' (hw'.fr (w0 := w) (S := []) MI.m) n hnB)) rfl (fun _ _ _ h => h) (fun _ h => h.subl SB.s SB.s) ?_))
        all_goals (refine tx_single 7 (by kernel_rfl) (to_e rfl rfl (e_callX rfl (.cons rfl .nil) (fun w' hw' => (llist_c (t.ac.getD n []) (by omega) _ w' (hrn w' (hw'.fr (w0 := w) (S := []) MI.m))).imp (val' := fun y : Option Addr × Nat => slV (t.ac.getD n []).length y) (p' := fun y w2 => RdI w2 (slV (t.ac.getD n []).length y) (t.ac.getD n []) ∧ sepS (slV (t.ac.getD n []).length y) (b3 :: b2 :: (slE 29 svE us oo).map Prod.fst)) id (fun _ => rfl) (fun _ h => h) (fun _ _ _ hp => ⟨hp.1, hp.2.sep hw'⟩))) (.inr ⟨fun _ _ h => h.subl SB.s SB.s, fun _ h => h⟩) (fun y5 hy5 => ?_))); (refine tx_single 8 (by kernel_rfl) (to_e rfl rfl (e_bslice rfl (by (repeat (first | exact .nil | apply PV.one rfl rfl)); done) rfl rfl) (.inr ⟨fun _ _ h => h.subl SB.s SB.s, fun _ h => h⟩) (fun b8 _ => ?_)))
        all_goals (refine tx_single 9 (by kernel_rfl) (to_e rfl rfl (e_appendE (enc := svE) (xs := us) (ys := [svS (t.ac.getD n []).length y5.1]) svE_len svE_one rfl rfl rfl hok (fun _ => by repeat constructor) (fun w' hw' => RdS.own0 svE_len hw' (by repeat constructor)) (by simp only [List.length_cons, List.length_nil]; omega) rfl) (.inr ⟨fun _ _ h => h.subl SB.s SB.s, fun _ h => h⟩) (fun oo' hok' => ?_)))
        all_goals refine tx_p 10 rfl (by kernel_rfl) (y_field rfl) rfl (fun _ _ _ h => h) (fun _ h => h.subl SB.s SB.s) ?_; refine tx_single 11 (by kernel_rfl) (to_e (S' := HG [] []) rfl rfl (e_store1 rfl rfl (by repeat constructor) (by repeat constructor) (by rfl) (by rfl)) (.inl (by kernel_rfl)) (fun _ _ => ?_)); refine tx_done (by kernel_rfl) ?_; ((refine hK7 ?_; try (clear hK7; clear K7)))
        all_goals refine tc_lay ((b3, .cells #[slV t.hs.length y1.1, ouV (us ++ [svS (t.ac.getD n []).length y5.1]).length oo'] 83 (0, 0)) :: (b2, .cells #[.slice none 0 0, .slice none 0 0] 83 (0, 0)) :: slE 29 svE (us ++ [svS (t.ac.getD n []).length y5.1]) oo') ((List.Sublist.refl _).cons _) (fun wl4 hl4 => ?_); refine tc_region ?_; refine tl_q (y_move rfl) rfl ?_; refine tl_q (y_add rfl rfl (by omega)) rfl ?_; refine tl_q (y_assign rfl) rfl ?_; refine tl_nil ?_
        all_goals (
         have hfz : Fr (b3 :: b2 :: (slE 29 svE us oo).map Prod.fst) wz wl4 := hl4.fr (w0 := wz) MI.m
         have hoz := hl4.ownsK ((List.Sublist.refl ((b3, .cells #[slV t.hs.length y1.1, ouV (us ++ [svS (t.ac.getD n []).length y5.1]).length oo'] 83 (0, 0)) :: (b2, .cells #[.slice none 0 0, .slice none 0 0] 83 (0, 0)) :: slE 29 svE (us ++ [svS (t.ac.getD n []).length y5.1]) oo')).cons _) (w0 := wz) (S := b3 :: b2 :: (slE 29 svE us oo).map Prod.fst) MI.m
         have hol : OKS 1 inE wl4 (((b3, .cells #[slV t.hs.length y1.1, ouV (us ++ [svS (t.ac.getD n []).length y5.1]).length oo'] 83 (0, 0)) :: (b2, .cells #[.slice none 0 0, .slice none 0 0] 83 (0, 0)) :: slE 29 svE (us ++ [svS (t.ac.getD n []).length y5.1]) oo').map Prod.fst) (svS (t.ac.getD n []).length y5.1).1 (t.ac.getD n []) := OKS.mk' inE_len (by decide) hl4 ((List.Sublist.refl _).cons _) (x2 := y5.2) (S0 := b3 :: b2 :: (slE 29 svE us oo).map Prod.fst) MI.m hy5.1.2 (RdS.int.2 hy5.1.1)
         have htk := takeG_succ (d := ([] : List Int)) (l := t.ac) (n := n) hnB
         exact tk_round (n + 1, us ++ [svS (t.ac.getD n []).length y5.1], oo', wl4) ⟨⟨by dsimp only; omega, hok'⟩, by dsimp only; rw [htk]; exact (hu.step hfz hoz).snoc hol⟩ (by dsimp only; omega) (.cons rfl (.cons rfl (.cons rfl (.cons rfl .nil)))) (fun _ h => h.subl SB.s SB.s))
      · try simp only [qn1, qn2, qn3, qn4, qn5, qn6, qn7, qn8] at hc
        all_goals refine tc_exit ?_; ((refine hK3 ?_; try (clear hK3; clear K3)))
        all_goals refine tc_seq fun K8 hK8 => ?_; refine tc_region ?_; refine tl_q (y_loadW rfl (by repeat constructor) (by rfl)) rfl ?_; refine tl_e (e_storeW rfl rfl (by repeat constructor) (by rfl) (by rfl) (two_ones rfl rfl)) rfl (fun _ _ => ?_); refine tl_nil ?_; ((refine hK8 ?_; try (clear hK8; clear K8)))
        all_goals refine tc_ret ?_; (repeat (first | refine tk_then_ret ?_))
        all_goals (refine tk_ret rfl rfl (.cons (.agg inferInstance rfl (by repeat constructor) (by rfl)) .nil) ?_)
        all_goals (
         obtain rfl : n = t.ac.length := by omega
         rw [List.take_of_length_le (Nat.le_refl _)] at hu
         refine fun w' hw' => ⟨(y1.1, ouA oo), ?_, hw'.fr (w0 := w) (S := []) MI.m, hy1.1.1.toS.frS (hw'.fr (w0 := y1.2) (S := [b2]) MI.m) hy1.1.2 |>.toI, ?_⟩
         · show _ = Ending.returned (tV _ (slV t.ac.length (ouA oo)))
           rw [← hul]; rfl
         · have := RdLL.ofO hok hu hw' (hw'.fr (w0 := wz) (S := b3 :: b2 :: (slE 29 svE us oo).map Prod.fst) MI.m) (by repeat constructor)
           rw [hul] at this; exact this)))
end Go.Sp
/-
  SampleTruth.
-/
namespace Go.Sp
open Go Go.Proofs
theorem RdLL.openV {α : Type} {k : Nat} {enc : α → List Value} {w : World} {n : Nat} {y : Option Addr × Nat} {xss : List (List α)} (h : RdLL k enc w (slV n y) xss) :
    ∃ b o, ∃ us : List Sv, (0 < xss.length → y.1 = some ⟨b, o, none⟩) ∧ (∀ w', Fr [] w w' → ∀ i, i < xss.length → w'.cell? ⟨b, o + i, none⟩ = some (us.getD i sv0).1) ∧ ∀ w', Fr [] w w' → ∀ i, i < xss.length → RdS k enc w' (us.getD i sv0).1 (xss.getD i []) := by
  obtain ⟨ad, cap, b, o, us, e, had, hc, hr⟩ := h.open
  injection e with e1 e2 e3
  subst e1
  exact ⟨b, o, us, had, hc, hr⟩
theorem sPlayV_c {s : Smp} (hf : Few s) (hv : VSm s) {t : Tth} (hth : ThT t) (hlo : LstOk s t) {q : List (List Int) × List (List Bool)} (hq : playF s t = some q) (tv pv gv hvv avv : Value) (w : World) (hr : RdSm w s tv pv gv) (hrt : RdTh w t hvv avv) :
    CnX Tryz.prog 43 #[smV s tv pv gv, tV hvv avv] w [] (fun y : (Option Addr × Nat) × (Option Addr × Nat) => .tuple #[slV q.1.length y.1, slV q.2.length y.2, vi 0])
      (fun y w' => RdLL 1 inE w' (slV q.1.length y.1) q.1 ∧ RdLL 1 boE w' (slV q.2.length y.2) q.2) := by
  have h := sPlayL_c s hf t hth tv pv gv hvv avv w hr hrt
  obtain ⟨e1, e2⟩ := plE_4 (chkS_0.2 hv) (lstF_yes hlo) hq
  rw [e1, e2] at h
  exact h
theorem proveTruth_v {s : Smp} (hf : Few s) (hv : VSm s) {t : Tth} (hth : ThT t) (hlo : LstOk s t) {q : List (List Int) × List (List Bool)} (hq : playF s t = some q) (tv pv gv hvv avv : Value) (w : World) (hr : RdSm w s tv pv gv) (hrt : RdTh w t hvv avv) :
    CnV Tryz.prog 45 #[smV s tv pv gv, tV hvv avv] w (.bool true) := by
  have h := proveTruth_c s hf t hth tv pv gv hvv avv w hr hrt
  rw [(plE_4 (chkS_0.2 hv) (lstF_yes hlo) hq).1] at h
  exact h
theorem lhas_v {l : List Int} {n : Int} (hm : n ∈ l) (hl : l.length ≤ 100) (lv : Value) (w : World) (hr : RdI w lv l) : CnV Tryz.prog 50 #[lv, vi n] w (.bool true) := by
  have h := lhas_c l n hl lv w hr
  rw [decide_eq_true hm] at h
  exact h
theorem opA_dec (a : Int) : opA a = decide (a = 1 ∨ a = 3) := by
  unfold opA
  by_cases h1 : a = 1 <;> by_cases h3 : a = 3 <;> simp [h1, h3]
theorem opnB_t {ws : List Bool} {acts : List Int} {k : Nat} (h : ws.getD (k - 1) false = true) : opnB ws acts k = decide (acts.getD k 0 = 1 ∨ acts.getD k 0 = 3) := by
  unfold opnB
  rw [opA_dec]
  cases k with
  | zero => rfl
  | succ k =>
    show (!ws.getD k false || _) = _
    rw [Nat.add_sub_cancel] at h
    rw [h]; rfl
theorem opnB_f {ws : List Bool} {acts : List Int} {k : Nat} (h : ws.getD (k - 1) false = false) : opnB ws acts k = decide (0 < k ∨ acts.getD k 0 = 1 ∨ acts.getD k 0 = 3) := by
  unfold opnB
  rw [opA_dec]
  cases k with
  | zero => simp [brA]
  | succ k =>
    show (!ws.getD k false || _) = _
    rw [Nat.add_sub_cancel] at h
    rw [h]; simp
set_option maxHeartbeats 16000000 in
theorem struth_c (s : Smp) (ws : List Int) (hws : ∀ x ∈ ws, 0 ≤ x ∧ x ≤ 255) (hwl : (ws.length : Int) ≤ 9223372036854775807) (n2 : Int) (w2 : 0 ≤ n2 ∧ n2 ≤ 65535) (tv pv gv wv : Value) (w : World) (hr : RdSm w s tv pv gv) (hW : RdW w wv ws) :
    CnV Tryz.prog 14 #[smV s tv pv gv, wv, .int .u16 n2] w (.bool true) := by
  have hr0 := hr
  have hot := hr.st.one
  obtain ⟨adt, cpt, _, _, rfl, _, _⟩ := hr.st.open boE_len false
  obtain ⟨adp, cpp, _, _, rfl, _, _⟩ := hr.ps.open psE_len pas0
  obtain ⟨adg, cpg, _, _, rfl, _, _⟩ := hr.sg.open sgE_len sgt0
  obtain ⟨adw, cpw, _, _, rfl, _, _⟩ := rdkH_open hW
  have hWr : ∀ w', Fr [] w w' → RdW w' (.slice adw ws.length cpw) ws := fun w' f => Reads.frS hW f (by simp)
  refine cnv (vs := [_, _, _]) Tryz.func14 rfl rfl ?_
  all_goals refine tc_seq fun K1 hK1 => ?_; refine tc_region ?_; refine tl_e (e_box rfl rfl rfl) rfl (fun b3 _ => ?_); refine tl_q (y_assign rfl) rfl ?_; refine tl_nil ?_; ((refine hK1 ?_; try (clear hK1; clear K1)))
  all_goals refine tc_seq fun K2 hK2 => ?_; refine tc_seq fun K3 hK3 => ?_; refine tc_lay ([]) (SB.s .nil) (fun wl1 hl1 => ?_); refine tc_region ?_; refine tl_q (y_loadWf rfl (hl1.at (by repeat constructor)) MI.m (by simp) (by rfl)) rfl ?_; refine tl_e (e_callV rfl (.cons rfl .nil) (fun w' hw' => ready_c s _ _ _ w' (hr0.fr (hw'.fr (w0 := w) (S := []) MI.m)))) rfl (fun _ _ => ?_); refine tl_q (y_not_dec rfl) rfl ?_; refine tl_nil ?_; ((refine hK3 ?_; try (clear hK3; clear K3)))
  all_goals (
   refine tc_cond rfl (fun hc => ?_) (fun hc => ?_)
   · try simp only [qn1, qn2, qn3, qn4, qn5, qn6, qn7, qn8] at hc
     all_goals refine tc_seq fun K4 hK4 => ?_; refine tc_lay ([]) (SB.s .nil) (fun wl2 hl2 => ?_); refine tc_region ?_; refine tl_e (e_callV rfl .nil (fun w' _ => awake_c w')) rfl (fun _ _ => ?_); refine tl_q (y_assign rfl) rfl ?_; refine tl_nil ?_; ((refine hK4 ?_; try (clear hK4; clear K4)))
     all_goals refine tc_ret ?_; (repeat (refine tk_then_ret ?_))
     all_goals (refine tk_ret rfl rfl (.cons (.tmp rfl) .nil) ?_)
     all_goals (
      exact fun w' hw' => ⟨rfl, hw'.fr (w0 := w) (S := []) MI.m⟩)
   · try simp only [qn1, qn2, qn3, qn4, qn5, qn6, qn7, qn8] at hc
     all_goals refine tc_skip ?_; ((refine hK2 ?_; try (clear hK2; clear K2)))
     all_goals refine tc_seq fun K5 hK5 => ?_; refine tc_lay ([]) (SB.s .nil) (fun wl3 hl3 => ?_); ((have hv := chkS_0.1 hc.2; have hf := hc.1.few; have hb1 := hv.b1; have hb3 := hv.b3; have hp1 := hv.p1; have hp4 := hv.p4; have hl0 := hv.l0; have hl9 := hv.l9))
     all_goals refine tc_region ?_; refine tl_q (y_loadWf rfl (hl1.at (by repeat constructor)) MI.m (by simp) (by rfl)) rfl ?_; refine tl_q (y_move rfl) rfl ?_; refine tl_e (e_callX rfl (.cons rfl (.cons rfl .nil)) (fun w' hw' => (happened_c s hf hv ws hws hwl _ _ _ _ w' (hr0.fr (hw'.fr (w0 := w) (S := []) MI.m)) (hWr w' (hw'.fr (w0 := w) (S := []) MI.m))).imp (val' := fun y : (Smp × Tth) × (Option Addr × Nat) × (Option Addr × Nat) × (Option Addr × Nat) => .tuple #[smV y.1.1 (.slice adt s.st.length cpt) (slV y.1.1.ps.length y.2.1) (.slice none 0 0), tV (slV y.1.2.hs.length y.2.2.1) (slV y.1.2.ac.length y.2.2.2)]) (p' := fun y w2 => HapOk s y.1.1 y.1.2 ∧ RdS 5 psE w2 (slV y.1.1.ps.length y.2.1) y.1.1.ps ∧ RdTh w2 y.1.2 (slV y.1.2.hs.length y.2.2.1) (slV y.1.2.ac.length y.2.2.2)) id (fun _ => rfl) (fun _ h => h) (fun y w2 _ hp => ⟨hp.1, hp.2.1.1, hp.2.2.1.1, hp.2.2.2.ll⟩))) rfl (fun y hy => ?_); refine tl_q (y_move rfl) rfl ?_; refine tl_q (y_extract rfl rfl) rfl ?_; refine tl_q (y_extract rfl rfl) rfl ?_; refine tl_e (e_allocN rfl) rfl (fun b7 _ => ?_); refine tl_e (e_allocN rfl) rfl (fun b8 _ => ?_); refine tl_e (e_storeW rfl rfl (by repeat constructor) (by rfl) (by rfl) (smV_ones (s := y.1.1.1) rfl rfl rfl)) rfl (fun _ _ => ?_); refine tl_e (e_storeW rfl rfl (by repeat constructor) (by rfl) (by rfl) (two_ones rfl rfl)) rfl (fun _ _ => ?_); refine tl_nil ?_; ((refine hK5 ?_; try (clear hK5; clear K5)))
     all_goals refine tc_seq fun K6 hK6 => ?_; ((obtain ⟨⟨hok, hps, hth⟩, hyw⟩ := hy; obtain ⟨q, hq⟩ := Option.isSome_iff_exists.1 hok.p))
     all_goals ((have hxB : y.1.1.1.B = s.B := hok.B; have hxL : y.1.1.1.L = s.L := hok.L; have hn6 := hok.v.n6))
     all_goals ((have hfx : Few y.1.1.1 := ⟨by rw [hok.st]; exact hf.st, by omega, by rw [hok.sg]; simp⟩))
     all_goals ((have hrx : ∀ w', Fr [] w w' → Fr [] y.2 w' → RdSm w' y.1.1.1 (.slice adt s.st.length cpt) (slV y.1.1.1.ps.length y.1.2.1) (.slice none 0 0) := fun w' f f2 => ⟨by rw [hok.st]; exact hr0.st.fr f, hps.fr f2, by rw [hok.sg]; exact RdS.nil 3 sgE w' 0⟩))
     all_goals refine tc_region ?_; refine tl_q (y_loadW rfl (by repeat constructor) (by rfl)) rfl ?_; refine tl_q (y_loadW rfl (by repeat constructor) (by rfl)) rfl ?_; refine tl_q (y_move rfl) rfl ?_; refine tl_e (e_callX rfl (.cons rfl (.cons rfl (.cons rfl .nil))) (fun w' hw' => (sighted_c y.1.1.1 hfx hok.v y.1.1.2 hok.l q hq hok.r n2 w2 _ _ _ _ w' (hrx w' (hw'.fr (w0 := w) (S := []) MI.m) (hw'.fr (w0 := y.2) (S := []) MI.m)) (hth.fr (hw'.fr (w0 := y.2) (S := []) MI.m))).imp (val' := fun z : List Sgt × (Option Addr × Nat) => smV (sgS y.1.1.1 z.1) (.slice adt s.st.length cpt) (slV y.1.1.1.ps.length y.1.2.1) (slV z.1.length z.2)) (p' := fun z w2 => SgOk y.1.1.1 q z.1 ∧ RdS 3 sgE w2 (slV z.1.length z.2) z.1 ∧ sepS (slV z.1.length z.2) [b8, b7]) id (fun _ => rfl) (fun _ h => h) (fun z w2 _ hp => ⟨hp.1, hp.2.1, hp.2.2.sep hw'⟩))) rfl (fun y4 hy4 => ?_); refine tl_e (e_storeW rfl rfl (by repeat constructor) (by rfl) (by rfl) (smV_ones (s := y.1.1.1) rfl rfl rfl)) rfl (fun _ _ => ?_); refine tl_nil ?_; ((refine hK6 ?_; try (clear hK6; clear K6)))
     all_goals refine tc_seq fun K7 hK7 => ?_; refine tc_lay ([]) (SB.s .nil) (fun wl5 hl5 => ?_); ((obtain ⟨⟨hsg, hgr, hgs⟩, hy4w⟩ := hy4; obtain ⟨sg, hsgd⟩ : ∃ sg, sg = y4.1.1 := ⟨_, rfl⟩; rw [← hsgd] at hsg hgr hgs hl5 ⊢))
     all_goals ((have hg6 := hsg.n6; have hvx : VSm (sgS y.1.1.1 sg) := hsg.vsm hok.v; have hqx := hsg.play hq; have hcx : consF (sgS y.1.1.1 sg) = true := truth_cons hvx hok.r (by rw [hqx]; rfl)))
     all_goals ((have hsL : (sgS y.1.1.1 sg).L = s.L := hxL; have hsB : (sgS y.1.1.1 sg).B = s.B := hxB))
     all_goals ((have hfx2 : Few (sgS y.1.1.1 sg) := ⟨hfx.st, hfx.ps, by show sg.length ≤ 9; omega⟩))
     all_goals ((have hr5 : RdSm wl5 (sgS y.1.1.1 sg) (.slice adt s.st.length cpt) (slV y.1.1.1.ps.length y.1.2.1) (slV sg.length y4.1.2) := ⟨by show RdS 1 boE wl5 _ y.1.1.1.st; rw [hok.st]; exact hr0.st.fr (hl5.fr (w0 := w) (S := []) MI.m), hps.fr (hl5.fr (w0 := y.2) (S := []) MI.m), hgr.frS (hl5.fr (w0 := y4.2) (S := [b8, b7]) MI.m) hgs⟩))
     all_goals ((have hlo : LstOk (sgS y.1.1.1 sg) y.1.1.2 := ⟨⟨hok.l.hs, hok.l.an, hok.l.al⟩, hok.r, hok.a3⟩; have hhs := hok.l.hs; have han := hok.l.an))
     all_goals ((have htt : ThT y.1.1.2 := ⟨by omega, by omega, fun j hj => by have := hok.l.al j hj; omega⟩))
     all_goals ((have hvd : vdE (sgS y.1.1.1 sg) = 0 := sure_ok hvx hcx; have hql := playN_len hqx; have hq1 : (q.1.length : Int) = s.B := by have h1 : q.1.length = y.1.1.1.B.toNat := hql.1; omega))
     all_goals ((have hq2 : (q.2.length : Int) = s.B := by have h1 : q.2.length = y.1.1.1.B.toNat := hql.2; omega))
     all_goals ((have hvl : ((vdL (sgS y.1.1.1 sg)).length : Int) = s.B := by rw [vdL_v hvd, vdN_len]; show ((y.1.1.1.B.toNat : Nat) : Int) = s.B; omega))
     all_goals ((have hll : ((lsL (sgS y.1.1.1 sg)).length : Int) = s.B := by rw [lsL_v hvd, lsN'_len]; show ((y.1.1.1.B.toNat : Nat) : Int) = s.B; omega))
     all_goals refine tc_draw (by kernel_rfl) ?_; refine tx_q 0 rfl (by kernel_rfl) (y_loadWf rfl (hl5.at (by repeat constructor)) MI.m (by simp) (by rfl)) rfl (fun _ _ _ h => h) (fun _ h => h) ?_; refine tx_q 2 rfl (by kernel_rfl) (y_loadWf rfl (hl5.at (by repeat constructor)) MI.m (by simp) (by rfl)) rfl (fun _ _ _ h => h) (fun _ h => h) ?_; refine tx_e 1 rfl (by kernel_rfl) rfl (e_callX rfl (.cons rfl .nil) (fun w' hw' => lawSample_c (sgS y.1.1.1 sg) hfx2 _ _ _ w' (hr5.fr (hw'.fr (w0 := wl5) (S := []) MI.m)))) (.inr fun _ _ h => h.sub (fun _ h => List.mem_cons_of_mem _ h) (List.Sublist.refl _)) (fun x5 hx5 => ?_); refine tx_e 3 rfl (by kernel_rfl) rfl (e_callX rfl (.cons rfl .nil) (fun w' hw' => lawTruth_c y.1.1.2 htt _ _ w' (hth.fr (hw'.fr (w0 := y.2) (S := []) MI.m)))) (.inr fun _ _ h => h.sub (fun _ h => List.mem_cons_of_mem _ h) (List.Sublist.refl _)) (fun t5 ht5 => ?_); refine tx_e 4 rfl (by kernel_rfl) rfl (e_callX rfl (.cons rfl (.cons rfl .nil)) (fun w' hw' => sPlayV_c hfx2 hvx htt hlo hqx _ _ _ _ _ w' (hx5.1.fr (hw'.calm hx5.2 MI.m (List.Sublist.refl _))) (ht5.1.fr (hw'.calm ht5.2 MI.m (List.Sublist.refl _))))) (.inr fun _ _ h => h.sub (fun _ h => List.mem_cons_of_mem _ h) (List.Sublist.refl _)) (fun p5 hp5 => ?_); refine tx_p 5 rfl (by kernel_rfl) (y_move rfl) rfl (fun _ _ _ h => h) (fun _ h => h) ?_; refine tx_p 6 rfl (by kernel_rfl) (y_extract rfl rfl) rfl (fun _ _ _ h => h) (fun _ h => h) ?_; refine tx_p 7 rfl (by kernel_rfl) (y_extract rfl rfl) rfl (fun _ _ _ h => h) (fun _ h => h) ?_; refine tx_p 8 rfl (by kernel_rfl) (y_extract rfl rfl) rfl (fun _ _ _ h => h) (fun _ h => h) ?_; refine tx_p 9 rfl (by kernel_rfl) (y_assign rfl) rfl (fun _ _ _ h => h) (fun _ h => h) ?_; refine tx_p 10 rfl (by kernel_rfl) (y_assign rfl) rfl (fun _ _ _ h => h) (fun _ h => h) ?_; refine tx_p 11 rfl (by kernel_rfl) (y_assign rfl) rfl (fun _ _ _ h => h) (fun _ h => h) ?_; refine tx_done (by kernel_rfl) ?_; ((refine hK7 ?_; try (clear hK7; clear K7)))
     all_goals refine tc_seq fun K8 hK8 => ?_; refine tc_region ?_; refine tl_q (y_loadWf rfl (hl5.at (by repeat constructor)) MI.m (by simp) (by rfl)) rfl ?_; refine tl_e (e_callX rfl (.cons rfl .nil) (fun w' hw' => lawSample_c (sgS y.1.1.1 sg) hfx2 _ _ _ w' (hr5.fr (hw'.fr (w0 := wl5) (S := []) MI.m)))) rfl (fun x6 hx6 => ?_); refine tl_e (e_callX rfl (.cons rfl .nil) (fun w' hw' => leastK_v hvd hfx2 _ _ _ w' (hx6.1.fr (hw'.calm hx6.2 MI.m (List.Sublist.refl _))))) rfl (fun l6 hl6' => ?_); refine tl_q (y_move rfl) rfl ?_; refine tl_q (y_extract rfl rfl) rfl ?_; refine tl_q (y_extract rfl rfl) rfl ?_; refine tl_q (y_assign rfl) rfl ?_; refine tl_q (y_assign rfl) rfl ?_; refine tl_nil ?_; ((refine hK8 ?_; try (clear hK8; clear K8)))
     all_goals refine tc_seq fun K9 hK9 => ?_; refine tc_region ?_; refine tl_q (y_loadWf rfl (hl5.at (by repeat constructor)) MI.m (by simp) (by rfl)) rfl ?_; refine tl_e (e_callX rfl (.cons rfl .nil) (fun w' hw' => lawSample_c (sgS y.1.1.1 sg) hfx2 _ _ _ w' (hr5.fr (hw'.fr (w0 := wl5) (S := []) MI.m)))) rfl (fun x7 hx7 => ?_); refine tl_e (e_callX rfl (.cons rfl .nil) (fun w' hw' => verdictsK_v hvd hfx2 _ _ _ w' (hx7.1.fr (hw'.calm hx7.2 MI.m (List.Sublist.refl _))))) rfl (fun v7 hv7 => ?_); refine tl_q (y_move rfl) rfl ?_; refine tl_q (y_extract rfl rfl) rfl ?_; refine tl_q (y_extract rfl rfl) rfl ?_; refine tl_q (y_assign rfl) rfl ?_; refine tl_q (y_assign rfl) rfl ?_; refine tl_nil ?_; ((refine hK9 ?_; try (clear hK9; clear K9)))
     all_goals refine tc_seq fun K10 hK10 => ?_; refine tc_region ?_; refine tl_q (y_loadWf rfl (hl5.at (by repeat constructor)) MI.m (by simp) (by rfl)) rfl ?_; refine tl_e (e_callX rfl (.cons rfl .nil) (fun w' hw' => lawSample_c (sgS y.1.1.1 sg) hfx2 _ _ _ w' (hr5.fr (hw'.fr (w0 := wl5) (S := []) MI.m)))) rfl (fun x8 hx8 => ?_); refine tl_e (e_callX rfl (.cons rfl .nil) (fun w' hw' => leaveK_c hvx (lev_nil hvx hcx) hfx2 _ _ _ w' (hx8.1.fr (hw'.calm hx8.2 MI.m (List.Sublist.refl _))))) rfl (fun e8 he8 => ?_); refine tl_q (y_move rfl) rfl ?_; refine tl_q (y_extract rfl rfl) rfl ?_; refine tl_q (y_extract rfl rfl) rfl ?_; refine tl_q (y_assign rfl) rfl ?_; refine tl_q (y_assign rfl) rfl ?_; refine tl_nil ?_; ((refine hK10 ?_; try (clear hK10; clear K10)))
     all_goals refine tc_seq fun K11 hK11 => ?_; refine tc_seq fun K12 hK12 => ?_; refine tc_draw (by kernel_rfl) ?_; refine tx_p 0 rfl (by kernel_rfl) (y_move rfl) rfl (fun _ _ _ h => h) (fun _ h => h) ?_; refine tx_p 1 rfl (by kernel_rfl) (y_neq rfl rfl) rfl (fun _ _ _ h => h) (fun _ h => h) ?_; refine tx_p 2 rfl (by kernel_rfl) (y_move rfl) rfl (fun _ _ _ h => h) (fun _ h => h) ?_; refine tx_pg 3 rfl (by kernel_rfl) rfl rfl (y_move rfl) rfl (fun _ _ _ h => h) (fun _ h => h) ?_; refine tx_pg 4 rfl (by kernel_rfl) rfl rfl (y_neq rfl rfl) rfl (fun _ _ _ h => h) (fun _ h => h) ?_; refine tx_p 5 rfl (by kernel_rfl) (y_pick_f rfl rfl) rfl (fun _ _ _ h => h) (fun _ h => h) ?_; refine tx_norm (L' := [true, true, true, true, true, true, false, false, false, false, false, false, false, false, false, false, false, false, false, false, false, false, false, false, false, false, false, false, false, false, false, false, false, false, false, false, false, false, false, false, false, false, false, false, false, false, false, false, false, false, false, false, false, false, false]) (by kernel_rfl) ?_; refine tx_p 6 rfl (by kernel_rfl) (y_move rfl) rfl (fun _ _ _ h => h) (fun _ h => h) ?_; refine tx_pg 7 rfl (by kernel_rfl) rfl rfl (y_move rfl) rfl (fun _ _ _ h => h) (fun _ h => h) ?_; refine tx_pg 8 rfl (by kernel_rfl) rfl rfl (y_neq rfl rfl) rfl (fun _ _ _ h => h) (fun _ h => h) ?_; refine tx_p 9 rfl (by kernel_rfl) (y_pick_f rfl rfl) rfl (fun _ _ _ h => h) (fun _ h => h) ?_; refine tx_p 10 rfl (by kernel_rfl) (y_move rfl) rfl (fun _ _ _ h => h) (fun _ h => h) ?_; refine tx_pg 11 rfl (by kernel_rfl) rfl rfl (y_move rfl) rfl (fun _ _ _ h => h) (fun _ h => h) ?_; refine tx_norm (L' := [true, true, true, true, true, true, true, true, true, true, true, true, false, false, false, false, false, false, false, false, false, false, false, false, false, false, false, false, false, false, false, false, false, false, false, false, false, false, false, false, false, false, false, false, false, false, false, false, false, false, false, false, false, false, false]) (by kernel_rfl) ?_; refine tx_pg 12 rfl (by kernel_rfl) rfl rfl (y_neq rfl rfl) rfl (fun _ _ _ h => h) (fun _ h => h) ?_; refine tx_p 13 rfl (by kernel_rfl) (y_pick_f rfl rfl) rfl (fun _ _ _ h => h) (fun _ h => h) ?_; refine tx_p 14 rfl (by kernel_rfl) (y_move rfl) rfl (fun _ _ _ h => h) (fun _ h => h) ?_; refine tx_pg 15 rfl (by kernel_rfl) rfl rfl (y_move rfl) rfl (fun _ _ _ h => h) (fun _ h => h) ?_; refine tx_qg 16 rfl (by kernel_rfl) rfl rfl (y_len rfl) rfl (fun _ _ _ h => h) (fun _ h => h) ?_; refine tx_pg 17 rfl (by kernel_rfl) rfl rfl (y_neq rfl rfl) rfl (fun _ _ _ h => h) (fun _ h => h) ?_; refine tx_norm (L' := [true, true, true, true, true, true, true, true, true, true, true, true, true, true, true, true, true, true, false, false, false, false, false, false, false, false, false, false, false, false, false, false, false, false, false, false, false, false, false, false, false, false, false, false, false, false, false, false, false, false, false, false, false, false, false]) (by kernel_rfl) ?_; refine tx_p 18 rfl (by kernel_rfl) (y_pick_f rfl rfl) rfl (fun _ _ _ h => h) (fun _ h => h) ?_; refine tx_p 19 rfl (by kernel_rfl) (y_move rfl) rfl (fun _ _ _ h => h) (fun _ h => h) ?_; refine tx_pg 20 rfl (by kernel_rfl) rfl rfl (y_move rfl) rfl (fun _ _ _ h => h) (fun _ h => h) ?_; refine tx_qg 21 rfl (by kernel_rfl) rfl rfl (y_len rfl) rfl (fun _ _ _ h => h) (fun _ h => h) ?_; refine tx_pg 22 rfl (by kernel_rfl) rfl rfl (y_field rfl) rfl (fun _ _ _ h => h) (fun _ h => h) ?_; refine tx_qg 23 rfl (by kernel_rfl) rfl rfl (y_load1f rfl (hl5.at (by repeat constructor)) MI.m (by simp) (by rfl)) rfl (fun _ _ _ h => h) (fun _ h => h) ?_; refine tx_norm (L' := [true, true, true, true, true, true, true, true, true, true, true, true, true, true, true, true, true, true, true, true, true, true, true, true, false, false, false, false, false, false, false, false, false, false, false, false, false, false, false, false, false, false, false, false, false, false, false, false, false, false, false, false, false, false, false]) (by kernel_rfl) ?_; refine tx_pg 24 rfl (by kernel_rfl) rfl rfl (y_neq rfl rfl) rfl (fun _ _ _ h => h) (fun _ h => h) ?_; refine tx_p 25 rfl (by kernel_rfl) (y_pick_f rfl rfl) rfl (fun _ _ _ h => h) (fun _ h => h) ?_; refine tx_p 26 rfl (by kernel_rfl) (y_move rfl) rfl (fun _ _ _ h => h) (fun _ h => h) ?_; ((refine tx_gs 92 rfl (fun hc => ?_) (fun hc => ?_) <;> (try simp only [qn1, qn2, qn3, qn4, qn5, qn6, qn7, qn8] at hc) <;> (first | (exfalso; omega) | refine tx_pg 27 rfl (by kernel_rfl) rfl rfl (y_move rfl) rfl (fun _ _ _ h => h) (fun _ h => h) ?_)))
     all_goals (refine tx_qg 28 rfl (by kernel_rfl) rfl rfl (y_len rfl) rfl (fun _ _ _ h => h) (fun _ h => h) ?_); refine tx_pg 29 rfl (by kernel_rfl) rfl rfl (y_field rfl) rfl (fun _ _ _ h => h) (fun _ h => h) ?_; refine tx_norm (L' := [true, true, true, true, true, true, true, true, true, true, true, true, true, true, true, true, true, true, true, true, true, true, true, true, true, true, true, true, true, true, false, false, false, false, false, false, false, false, false, false, false, false, false, false, false, false, false, false, false, false, false, false, false, false, false]) (by kernel_rfl) ?_; refine tx_qg 30 rfl (by kernel_rfl) rfl rfl (y_load1f rfl (hl5.at (by repeat constructor)) MI.m (by simp) (by rfl)) rfl (fun _ _ _ h => h) (fun _ h => h) ?_; refine tx_pg 31 rfl (by kernel_rfl) rfl rfl (y_neq rfl rfl) rfl (fun _ _ _ h => h) (fun _ h => h) ?_; refine tx_p 32 rfl (by kernel_rfl) (y_pick_f rfl rfl) rfl (fun _ _ _ h => h) (fun _ h => h) ?_; refine tx_p 33 rfl (by kernel_rfl) (y_move rfl) rfl (fun _ _ _ h => h) (fun _ h => h) ?_; ((refine tx_gs 99 rfl (fun hc => ?_) (fun hc => ?_) <;> (try simp only [qn1, qn2, qn3, qn4, qn5, qn6, qn7, qn8] at hc) <;> (first | (exfalso; omega) | refine tx_pg 34 rfl (by kernel_rfl) rfl rfl (y_move rfl) rfl (fun _ _ _ h => h) (fun _ h => h) ?_)))
     all_goals (refine tx_qg 35 rfl (by kernel_rfl) rfl rfl (y_len rfl) rfl (fun _ _ _ h => h) (fun _ h => h) ?_); refine tx_norm (L' := [true, true, true, true, true, true, true, true, true, true, true, true, true, true, true, true, true, true, true, true, true, true, true, true, true, true, true, true, true, true, true, true, true, true, true, true, false, false, false, false, false, false, false, false, false, false, false, false, false, false, false, false, false, false, false]) (by kernel_rfl) ?_; refine tx_pg 36 rfl (by kernel_rfl) rfl rfl (y_field rfl) rfl (fun _ _ _ h => h) (fun _ h => h) ?_; refine tx_qg 37 rfl (by kernel_rfl) rfl rfl (y_load1f rfl (hl5.at (by repeat constructor)) MI.m (by simp) (by rfl)) rfl (fun _ _ _ h => h) (fun _ h => h) ?_; refine tx_pg 38 rfl (by kernel_rfl) rfl rfl (y_neq rfl rfl) rfl (fun _ _ _ h => h) (fun _ h => h) ?_; refine tx_p 39 rfl (by kernel_rfl) (y_pick_f rfl rfl) rfl (fun _ _ _ h => h) (fun _ h => h) ?_; refine tx_p 40 rfl (by kernel_rfl) (y_move rfl) rfl (fun _ _ _ h => h) (fun _ h => h) ?_; ((refine tx_gs 106 rfl (fun hc => ?_) (fun hc => ?_) <;> (try simp only [qn1, qn2, qn3, qn4, qn5, qn6, qn7, qn8] at hc) <;> (first | (exfalso; omega) | refine tx_pg 41 rfl (by kernel_rfl) rfl rfl (y_move rfl) rfl (fun _ _ _ h => h) (fun _ h => h) ?_)))
     all_goals refine tx_norm (L' := [true, true, true, true, true, true, true, true, true, true, true, true, true, true, true, true, true, true, true, true, true, true, true, true, true, true, true, true, true, true, true, true, true, true, true, true, true, true, true, true, true, true, false, false, false, false, false, false, false, false, false, false, false, false, false]) (by kernel_rfl) ?_; refine tx_qg 42 rfl (by kernel_rfl) rfl rfl (y_len rfl) rfl (fun _ _ _ h => h) (fun _ h => h) ?_; refine tx_pg 43 rfl (by kernel_rfl) rfl rfl (y_field rfl) rfl (fun _ _ _ h => h) (fun _ h => h) ?_; refine tx_qg 44 rfl (by kernel_rfl) rfl rfl (y_load1f rfl (hl5.at (by repeat constructor)) MI.m (by simp) (by rfl)) rfl (fun _ _ _ h => h) (fun _ h => h) ?_; refine tx_pg 45 rfl (by kernel_rfl) rfl rfl (y_neq rfl rfl) rfl (fun _ _ _ h => h) (fun _ h => h) ?_; refine tx_p 46 rfl (by kernel_rfl) (y_pick_f rfl rfl) rfl (fun _ _ _ h => h) (fun _ h => h) ?_; refine tx_p 47 rfl (by kernel_rfl) (y_move rfl) rfl (fun _ _ _ h => h) (fun _ h => h) ?_; refine tx_norm (L' := [true, true, true, true, true, true, true, true, true, true, true, true, true, true, true, true, true, true, true, true, true, true, true, true, true, true, true, true, true, true, true, true, true, true, true, true, true, true, true, true, true, true, true, true, true, true, true, true, false, false, false, false, false, false, false]) (by kernel_rfl) ?_; ((refine tx_gs 113 rfl (fun hc => ?_) (fun hc => ?_) <;> (try simp only [qn1, qn2, qn3, qn4, qn5, qn6, qn7, qn8] at hc) <;> (first | (exfalso; omega) | refine tx_qg 48 rfl (by kernel_rfl) rfl rfl (y_loadWf rfl (hl5.at (by repeat constructor)) MI.m (by simp) (by rfl)) rfl (fun _ _ _ h => h) (fun _ h => h) ?_)))
     all_goals (refine tx_qg 50 rfl (by kernel_rfl) rfl rfl (y_loadWf rfl (hl5.at (by repeat constructor)) MI.m (by simp) (by rfl)) rfl (fun _ _ _ h => h) (fun _ h => h) ?_); refine tx_eg 49 rfl (by kernel_rfl) rfl rfl rfl (e_callX rfl (.cons rfl .nil) (fun w' hw' => lawSample_c (sgS y.1.1.1 sg) hfx2 _ _ _ w' (hr5.fr (hw'.fr (w0 := wl5) (S := []) MI.m)))) (.inr fun _ _ h => h.sub (fun _ h => List.mem_cons_of_mem _ h) (List.Sublist.refl _)) (fun x9 hx9 => ?_); refine tx_eg 51 rfl (by kernel_rfl) rfl rfl rfl (e_callX rfl (.cons rfl .nil) (fun w' hw' => lawTruth_c y.1.1.2 htt _ _ w' (hth.fr (hw'.fr (w0 := y.2) (S := []) MI.m)))) (.inr fun _ _ h => h.sub (fun _ h => List.mem_cons_of_mem _ h) (List.Sublist.refl _)) (fun u9 hu9 => ?_); refine tx_eg 52 rfl (by kernel_rfl) rfl rfl rfl (e_callV rfl (.cons rfl (.cons rfl .nil)) (fun w' hw' => proveTruth_v hfx2 hvx htt hlo hqx _ _ _ _ _ w' (hx9.1.fr (hw'.calm hx9.2 MI.m (List.Sublist.refl _))) (hu9.1.fr (hw'.calm hu9.2 MI.m (List.Sublist.refl _))))) (.inr fun _ _ h => h) (fun _ _ => ?_); refine tx_pg 53 rfl (by kernel_rfl) rfl rfl (y_not rfl) rfl (fun _ _ _ h => h) (fun _ h => h) ?_; refine tx_norm (L' := [true, true, true, true, true, true, true, true, true, true, true, true, true, true, true, true, true, true, true, true, true, true, true, true, true, true, true, true, true, true, true, true, true, true, true, true, true, true, true, true, true, true, true, true, true, true, true, true, true, true, true, true, true, true, false]) (by kernel_rfl) ?_; refine tx_p 54 rfl (by kernel_rfl) (y_pick_f rfl rfl) rfl (fun _ _ _ h => h) (fun _ h => h) ?_; refine tx_done (by kernel_rfl) ?_; ((refine hK12 ?_; try (clear hK12; clear K12)))
     all_goals (
      refine tc_cond rfl (fun hc => ?_) (fun hc => ?_)
      · try simp only [qn1, qn2, qn3, qn4, qn5, qn6, qn7, qn8] at hc
        all_goals ((exfalso; with_reducible exact btf hc))
      · try simp only [qn1, qn2, qn3, qn4, qn5, qn6, qn7, qn8] at hc
        all_goals refine tc_skip ?_; ((refine hK11 ?_; try (clear hK11; clear K11)))
        all_goals refine tc_seq fun K14 hK14 => ?_; refine tc_seq fun K15 hK15 => ?_; refine tc_region ?_; refine tl_q (y_assign rfl) rfl ?_; refine tl_nil ?_; ((refine hK15 ?_; try (clear hK15; clear K15)))
        all_goals refine tc_block ?_
        all_goals (
         obtain ⟨hp5r1, hp5r2⟩ := hp5.1
         obtain ⟨hb0, ho0, hus, hadh, hch, hrh⟩ := hp5r1.openV
         obtain ⟨wb0, wo0, wus, hadw, hcw, hrw⟩ := hp5r2.openV
         obtain ⟨ab0, ao0, aus, hada, hca, hra⟩ := hth.ac.openV
         obtain ⟨lb0, lo0, hadl, hcl⟩ := hl6'.1.opensK2
         obtain ⟨vb0, vo0, hadv, hcv⟩ := hv7.1.opensK2
         refine tc_loop (fun b : Nat => (b : Int) ≤ s.B) (fun b => [(7, ptr b7), (8, ptr b8), (9, slV q.1.length p5.1.1), (10, slV q.2.length p5.1.2), (12, slV (lsL (sgS y.1.1.1 sg)).length l6.1), (14, slV (vdL (sgS y.1.1.1 sg)).length v7.1), (18, vi b)]) (fun _ => [(v7.2, []), (l6.2, []), (p5.2, []), (wl5, []), (y.2, []), (w, [])]) (fun _ => []) (fun b => s.B.toNat - b) ?_ ?_
         · exact tk_start 0 (by omega) (.cons rfl (.cons rfl (.cons rfl (.cons rfl (.cons rfl (.cons rfl (.cons rfl .nil))))))) (fun _ h => h.subl SB.s SB.s)
         · rintro b hb
           all_goals refine tc_seq fun K16 hK16 => ?_; refine tc_seq fun K17 hK17 => ?_; refine tc_region ?_; refine tl_q (y_move rfl) rfl ?_; refine tl_q (y_field rfl) rfl ?_; refine tl_q (y_load1f rfl (hl5.at (by repeat constructor)) MI.m (by simp) (by rfl)) rfl ?_; refine tl_q (y_lss rfl rfl) rfl ?_; refine tl_nil ?_; ((refine hK17 ?_; try (clear hK17; clear K17)))
           all_goals (
            refine tc_cond rfl (fun hc => ?_) (fun hc => ?_)
            · try simp only [qn1, qn2, qn3, qn4, qn5, qn6, qn7, qn8] at hc
              all_goals refine tc_skip ?_; ((refine hK16 ?_; try (clear hK16; clear K16)))
              all_goals refine tc_seq fun K18 hK18 => ?_; refine tc_block ?_; refine tc_seq fun K19 hK19 => ?_; ((have hbB : 0 ≤ (b : Int) ∧ (b : Int) < (sgS y.1.1.1 sg).B := ⟨by omega, by show (b : Int) < y.1.1.1.B; omega⟩; have hoe := opE_ok hvx hcx hbB; have htc := truth_case hvx hok.r hqx (j := b) (by show b < y.1.1.1.B.toNat; omega)))
              all_goals ((have htl : ((q.1.getD b []).length : Int) = s.L + 1 := (by have := htc.l; rw [← hxL]; exact this); have htw : ((q.2.getD b []).length : Int) = s.L + 1 := (by have := htc.w; rw [← hxL]; exact this)))
              all_goals ((have hbA : b < y.1.1.2.ac.length := (by omega); have hta : ((y.1.1.2.ac.getD b []).length : Int) = s.L + 1 := (by rw [← hxL]; exact hok.l.al b hbA)))
              all_goals (obtain ⟨ad1, cp1, b1, o1, hen1, had1, hcn1⟩ := (hrh p5.2 (Fr.refl _ _) b (by omega)).open inE_len 0)
              all_goals (obtain ⟨ad2, cp2, b2, o2, hen2, had2, hcn2⟩ := (hrw p5.2 (Fr.refl _ _) b (by omega)).open boE_len false)
              all_goals (obtain ⟨ad3, cp3, b3', o3, hen3, had3, hcn3⟩ := (hra y.2 (Fr.refl _ _) b hbA).open inE_len 0)
              all_goals ((have hlg : (lsL (sgS y.1.1.1 sg)).getD b 0 = (askF (sgS y.1.1.1 sg) b).least := by rw [lsL_v hvd]; exact lsN'_get (by show b < y.1.1.1.B.toNat; omega)))
              all_goals ((have hvg : (vdL (sgS y.1.1.1 sg)).getD b 0 = verdF (askF (sgS y.1.1.1 sg) b) := by rw [vdL_v hvd]; exact vdN_get (by show b < y.1.1.1.B.toNat; omega)))
              all_goals refine tc_region ?_; refine tl_q (y_loadWf rfl (hl5.at (by repeat constructor)) MI.m (by simp) (by rfl)) rfl ?_; refine tl_e (e_callX rfl (.cons rfl .nil) (fun w' hw' => lawSample_c (sgS y.1.1.1 sg) hfx2 _ _ _ w' (hr5.fr (hw'.fr (w0 := wl5) (S := []) MI.m)))) rfl (fun x14 hx14 => ?_); refine tl_q (y_move rfl) rfl ?_; refine tl_e (e_callX rfl (.cons rfl (.cons rfl .nil)) (fun w' hw' => openersK_v hoe hfx2 _ _ _ w' (hx14.1.fr (hw'.calm hx14.2 MI.m (List.Sublist.refl _))))) rfl (fun o14 ho14 => ?_); refine tl_q (y_move rfl) rfl ?_; refine tl_q (y_extract rfl rfl) rfl ?_; refine tl_q (y_extract rfl rfl) rfl ?_; refine tl_q (y_assign rfl) rfl ?_; refine tl_q (y_assign rfl) rfl ?_; refine tl_nil ?_; ((refine hK19 ?_; try (clear hK19; clear K19)))
              all_goals refine tc_seq fun K20 hK20 => ?_; refine tc_seq fun K21 hK21 => ?_; refine tc_draw (by kernel_rfl) ?_; refine tx_p 0 rfl (by kernel_rfl) (y_move rfl) rfl (fun _ _ _ h => h) (fun _ h => h) ?_; refine tx_p 1 rfl (by kernel_rfl) (y_neq rfl rfl) rfl (fun _ _ _ h => h) (fun _ h => h) ?_; refine tx_p 2 rfl (by kernel_rfl) (y_move rfl) rfl (fun _ _ _ h => h) (fun _ h => h) ?_; refine tx_pg 3 rfl (by kernel_rfl) rfl rfl (y_move rfl) rfl (fun _ _ _ h => h) (fun _ h => h) ?_; refine tx_pg 4 rfl (by kernel_rfl) rfl rfl (y_move rfl) rfl (fun _ _ _ h => h) (fun _ h => h) ?_; refine tx_pg 5 rfl (by kernel_rfl) rfl rfl (y_index rfl rfl (by omega) (hadh (by omega))) rfl (fun _ _ _ h => h) (fun _ h => h) ?_; ((refine tx_qg 6 rfl (by kernel_rfl) rfl rfl (y_load1o (v := .slice ad1 (q.1.getD b []).length cp1) rfl (fun w' hw' => by rw [show Int.toNat (b : Int) * 1 = b from by omega, ← hen1]; exact hch w' (hw'.fr (w0 := p5.2) (S := []) MI.m) b (by omega))) rfl (fun _ _ _ h => h) (fun _ h => h) ?_))
              all_goals (refine tx_qg 7 rfl (by kernel_rfl) rfl rfl (y_len rfl) rfl (fun _ _ _ h => h) (fun _ h => h) ?_); refine tx_pg 8 rfl (by kernel_rfl) rfl rfl (y_field rfl) rfl (fun _ _ _ h => h) (fun _ h => h) ?_; refine tx_qg 9 rfl (by kernel_rfl) rfl rfl (y_load1f rfl (hl5.at (by repeat constructor)) MI.m (by simp) (by rfl)) rfl (fun _ _ _ h => h) (fun _ h => h) ?_; refine tx_pg 10 rfl (by kernel_rfl) rfl rfl (y_add rfl rfl (by omega)) rfl (fun _ _ _ h => h) (fun _ h => h) ?_; refine tx_pg 11 rfl (by kernel_rfl) rfl rfl (y_neq rfl rfl) rfl (fun _ _ _ h => h) (fun _ h => h) ?_; refine tx_p 12 rfl (by kernel_rfl) (y_pick_f rfl rfl) rfl (fun _ _ _ h => h) (fun _ h => h) ?_; refine tx_p 13 rfl (by kernel_rfl) (y_move rfl) rfl (fun _ _ _ h => h) (fun _ h => h) ?_; ((refine tx_gs 147 rfl (fun hc => ?_) (fun hc => ?_) <;> (try simp only [qn1, qn2, qn3, qn4, qn5, qn6, qn7, qn8] at hc) <;> (first | (exfalso; omega) | refine tx_pg 14 rfl (by kernel_rfl) rfl rfl (y_move rfl) rfl (fun _ _ _ h => h) (fun _ h => h) ?_)))
              all_goals (refine tx_pg 15 rfl (by kernel_rfl) rfl rfl (y_move rfl) rfl (fun _ _ _ h => h) (fun _ h => h) ?_); refine tx_pg 16 rfl (by kernel_rfl) rfl rfl (y_index rfl rfl (by omega) (hadw (by omega))) rfl (fun _ _ _ h => h) (fun _ h => h) ?_; ((refine tx_qg 17 rfl (by kernel_rfl) rfl rfl (y_load1o (v := .slice ad2 (q.2.getD b []).length cp2) rfl (fun w' hw' => by rw [show Int.toNat (b : Int) * 1 = b from by omega, ← hen2]; exact hcw w' (hw'.fr (w0 := p5.2) (S := []) MI.m) b (by omega))) rfl (fun _ _ _ h => h) (fun _ h => h) ?_))
              all_goals (refine tx_qg 18 rfl (by kernel_rfl) rfl rfl (y_len rfl) rfl (fun _ _ _ h => h) (fun _ h => h) ?_); refine tx_pg 19 rfl (by kernel_rfl) rfl rfl (y_field rfl) rfl (fun _ _ _ h => h) (fun _ h => h) ?_; refine tx_qg 20 rfl (by kernel_rfl) rfl rfl (y_load1f rfl (hl5.at (by repeat constructor)) MI.m (by simp) (by rfl)) rfl (fun _ _ _ h => h) (fun _ h => h) ?_; refine tx_pg 21 rfl (by kernel_rfl) rfl rfl (y_add rfl rfl (by omega)) rfl (fun _ _ _ h => h) (fun _ h => h) ?_; refine tx_pg 22 rfl (by kernel_rfl) rfl rfl (y_neq rfl rfl) rfl (fun _ _ _ h => h) (fun _ h => h) ?_; refine tx_p 23 rfl (by kernel_rfl) (y_pick_f rfl rfl) rfl (fun _ _ _ h => h) (fun _ h => h) ?_; refine tx_done (by kernel_rfl) ?_; ((refine hK21 ?_; try (clear hK21; clear K21)))
              all_goals (
               refine tc_cond rfl (fun hc => ?_) (fun hc => ?_)
               · try simp only [qn1, qn2, qn3, qn4, qn5, qn6, qn7, qn8] at hc
                 all_goals ((exfalso; omega))
               · try simp only [qn1, qn2, qn3, qn4, qn5, qn6, qn7, qn8] at hc
                 all_goals refine tc_skip ?_; ((refine hK20 ?_; try (clear hK20; clear K20)))
                 all_goals refine tc_seq fun K23 hK23 => ?_; refine tc_region ?_; refine tl_q (y_assign rfl) rfl ?_; refine tl_nil ?_; ((refine hK23 ?_; try (clear hK23; clear K23)))
                 all_goals refine tc_seq fun K24 hK24 => ?_; refine tc_seq fun K25 hK25 => ?_; refine tc_region ?_; refine tl_q (y_assign rfl) rfl ?_; refine tl_nil ?_; ((refine hK25 ?_; try (clear hK25; clear K25)))
                 all_goals refine tc_block ?_
                 all_goals (
                  refine tc_loop (fun k : Nat => (k : Int) ≤ s.L + 1) (fun k => [(7, ptr b7), (8, ptr b8), (9, slV q.1.length p5.1.1), (10, slV q.2.length p5.1.2), (12, slV (lsL (sgS y.1.1.1 sg)).length l6.1), (14, slV (vdL (sgS y.1.1.1 sg)).length v7.1), (18, vi b), (19, slV (opL (sgS y.1.1.1 sg) b).length o14.1), (21, vi (cntB (q.2.getD b []) (y.1.1.2.ac.getD b []) k)), (22, vi k)]) (fun _ => [(o14.2, []), (v7.2, []), (l6.2, []), (p5.2, []), (wl5, []), (y.2, []), (w, [])]) (fun _ => []) (fun k => (s.L + 1).toNat - k) ?_ ?_
                  · exact tk_start 0 (by omega) (.cons rfl (.cons rfl (.cons rfl (.cons rfl (.cons rfl (.cons rfl (.cons rfl (.cons rfl (.cons rfl (.cons rfl .nil)))))))))) (fun _ h => h.subl SB.s SB.s)
                  · rintro k hk
                    have hcb := cntB_bd (q.2.getD b []) (y.1.1.2.ac.getD b []) k
                    all_goals refine tc_seq fun K26 hK26 => ?_; refine tc_seq fun K27 hK27 => ?_; refine tc_region ?_; refine tl_q (y_move rfl) rfl ?_; refine tl_q (y_field rfl) rfl ?_; refine tl_q (y_load1f rfl (hl5.at (by repeat constructor)) MI.m (by simp) (by rfl)) rfl ?_; refine tl_q (y_leq rfl rfl) rfl ?_; refine tl_nil ?_; ((refine hK27 ?_; try (clear hK27; clear K27)))
                    all_goals (
                     refine tc_cond rfl (fun hc => ?_) (fun hc => ?_)
                     · try simp only [qn1, qn2, qn3, qn4, qn5, qn6, qn7, qn8] at hc
                       all_goals refine tc_skip ?_; ((refine hK26 ?_; try (clear hK26; clear K26)))
                       all_goals refine tc_seq fun K28 hK28 => ?_; refine tc_block ?_; refine tc_seq fun K29 hK29 => ?_; ((have hkL : (k : Int) ≤ (sgS y.1.1.1 sg).L := (by show (k : Int) ≤ y.1.1.1.L; omega); have hhe := hdE_ok hvx hcx hbB (h := (k : Int)) ⟨by omega, hkL⟩; have hhl := hdL_len hvx (b : Int) (k : Int); have hol := opL_len hvx (b : Int); obtain ⟨htk1, htk2⟩ := htc.h k hkL))
                       all_goals refine tc_region ?_; refine tl_q (y_loadWf rfl (hl5.at (by repeat constructor)) MI.m (by simp) (by rfl)) rfl ?_; refine tl_e (e_callX rfl (.cons rfl .nil) (fun w' hw' => lawSample_c (sgS y.1.1.1 sg) hfx2 _ _ _ w' (hr5.fr (hw'.fr (w0 := wl5) (S := []) MI.m)))) rfl (fun x21 hx21 => ?_); refine tl_q (y_move rfl) rfl ?_; refine tl_q (y_move rfl) rfl ?_; refine tl_e (e_callX rfl (.cons rfl (.cons rfl (.cons rfl .nil))) (fun w' hw' => holdersK_v hhe hfx2 _ _ _ w' (hx21.1.fr (hw'.calm hx21.2 MI.m (List.Sublist.refl _))))) rfl (fun h21 hh21 => ?_); refine tl_q (y_move rfl) rfl ?_; refine tl_q (y_extract rfl rfl) rfl ?_; refine tl_q (y_extract rfl rfl) rfl ?_; refine tl_q (y_assign rfl) rfl ?_; refine tl_q (y_assign rfl) rfl ?_; refine tl_nil ?_; ((refine hK29 ?_; try (clear hK29; clear K29)))
                       all_goals refine tc_seq fun K30 hK30 => ?_; refine tc_seq fun K31 hK31 => ?_; refine tc_region ?_; refine tl_q (y_move rfl) rfl ?_; refine tl_q (y_neq rfl rfl) rfl ?_; refine tl_q (y_move rfl) rfl ?_; refine tl_qg rfl rfl (y_move rfl) rfl ?_; refine tl_qg rfl rfl (y_move rfl) rfl ?_; refine tl_qg rfl rfl (y_move rfl) rfl ?_; refine tl_qg rfl rfl (y_index rfl rfl (by omega) (hadh (by omega))) rfl ?_; ((refine tl_qg rfl rfl (y_load1o (v := .slice ad1 (q.1.getD b []).length cp1) rfl (fun w' hw' => by rw [show Int.toNat (b : Int) * 1 = b from by omega, ← hen1]; exact hch w' (hw'.fr (w0 := p5.2) (S := []) MI.m) b (by omega))) rfl ?_))
                       all_goals (refine tl_qg rfl rfl (y_move rfl) rfl ?_); refine tl_qg rfl rfl (y_index rfl rfl (by omega) (had1 (by omega))) rfl ?_; ((refine tl_qg rfl rfl (y_load1o (v := vi ((q.1.getD b []).getD k 0)) rfl (fun w' hw' => by have hx := (hcn1 w' [] (hw'.fr (w0 := p5.2) (S := []) MI.m) (by simp) k (by omega)).get 0 _ rfl; exact hx)) rfl ?_))
                       all_goals (refine tl_eg rfl rfl rfl (e_callV rfl (.cons rfl (.cons rfl .nil)) (fun w' hw' => lhas_v htk1 (by omega) _ w' (hh21.1.fr (hw'.calm hh21.2 MI.m (List.Sublist.refl _))))) (fun _ _ => ?_)); refine tl_qg rfl rfl (y_not rfl) rfl ?_; refine tl_q (y_pick_f rfl rfl) rfl ?_; refine tl_nil ?_; ((refine hK31 ?_; try (clear hK31; clear K31)))
                       all_goals (
                        refine tc_cond rfl (fun hc => ?_) (fun hc => ?_)
                        · try simp only [qn1, qn2, qn3, qn4, qn5, qn6, qn7, qn8] at hc
                          all_goals ((exfalso; with_reducible exact btf hc))
                        · try simp only [qn1, qn2, qn3, qn4, qn5, qn6, qn7, qn8] at hc
                          all_goals refine tc_skip ?_; ((refine hK30 ?_; try (clear hK30; clear K30)))
                          all_goals refine tc_seq fun K33 hK33 => ?_; (rcases hwv : (q.2.getD b []).getD (k - 1) false with _ | _)
                          all_goals (first | have hob := opnB_t (acts := y.1.1.2.ac.getD b []) hwv | have hob := opnB_f (acts := y.1.1.2.ac.getD b []) hwv)
                          all_goals refine tc_region ?_; refine tl_q (y_move rfl) rfl ?_; refine tl_q (y_gtr rfl rfl) rfl ?_; refine tl_q (y_move rfl) rfl ?_; ((refine tl_gs rfl rfl (fun hc => ?_) (fun hc => ?_) <;> (try simp only [qn1, qn2, qn3, qn4, qn5, qn6, qn7, qn8] at hc) <;> (first | refine tl_sk rfl rfl rfl rfl ?_ | refine tl_qg rfl rfl (y_move rfl) rfl ?_)))
                          all_goals (first | refine tl_sk rfl rfl rfl rfl ?_ | refine tl_qg rfl rfl (y_move rfl) rfl ?_); (first | refine tl_sk rfl rfl rfl rfl ?_ | refine tl_qg rfl rfl (y_index rfl rfl (by omega) (hadw (by omega))) rfl ?_); ((first | refine tl_sk rfl rfl rfl rfl ?_ | refine tl_qg rfl rfl (y_load1o (v := .slice ad2 (q.2.getD b []).length cp2) rfl (fun w' hw' => by rw [show Int.toNat (b : Int) * 1 = b from by omega, ← hen2]; exact hcw w' (hw'.fr (w0 := p5.2) (S := []) MI.m) b (by omega))) rfl ?_))
                          all_goals (first | refine tl_sk rfl rfl rfl rfl ?_ | refine tl_qg rfl rfl (y_move rfl) rfl ?_); (first | refine tl_sk rfl rfl rfl rfl ?_ | refine tl_qg rfl rfl (y_sub rfl rfl (by omega)) rfl ?_); (first | refine tl_sk rfl rfl rfl rfl ?_ | refine tl_qg rfl rfl (y_index rfl rfl (by omega) (had2 (by omega))) rfl ?_); ((first | refine tl_sk rfl rfl rfl rfl ?_ | refine tl_qg rfl rfl (y_load1o (v := .bool true) rfl (fun w' hw' => by rw [← hwv, show Int.toNat ((k : Int) - 1) = k - 1 from by omega]; have hx := (hcn2 w' [] (hw'.fr (w0 := p5.2) (S := []) MI.m) (by simp) (k - 1) (by omega)).get 0 _ rfl; exact hx)) rfl ?_ | refine tl_qg rfl rfl (y_load1o (v := .bool false) rfl (fun w' hw' => by rw [← hwv, show Int.toNat ((k : Int) - 1) = k - 1 from by omega]; have hx := (hcn2 w' [] (hw'.fr (w0 := p5.2) (S := []) MI.m) (by simp) (k - 1) (by omega)).get 0 _ rfl; exact hx)) rfl ?_))
                          all_goals (first | refine tl_sk rfl rfl rfl rfl ?_ | refine tl_qg rfl rfl (y_not rfl) rfl ?_); (first | refine tl_q (y_pick_t rfl rfl) rfl ?_ | refine tl_q (y_pick_f rfl rfl) rfl ?_); refine tl_q (y_move rfl) rfl ?_; (first | refine tl_sk rfl rfl rfl rfl ?_ | refine tl_qg rfl rfl (y_field rfl) rfl ?_); (first | refine tl_sk rfl rfl rfl rfl ?_ | refine tl_qg rfl rfl (y_load1f rfl (hl5.at (by repeat constructor)) MI.m (by simp) (by rfl)) rfl ?_); (first | refine tl_sk rfl rfl rfl rfl ?_ | refine tl_qg rfl rfl (y_move rfl) rfl ?_); (first | refine tl_sk rfl rfl rfl rfl ?_ | refine tl_qg rfl rfl (y_index rfl rfl (by omega) (hada (by omega))) rfl ?_); ((first | refine tl_sk rfl rfl rfl rfl ?_ | refine tl_qg rfl rfl (y_load1o (v := .slice ad3 (y.1.1.2.ac.getD b []).length cp3) rfl (fun w' hw' => by rw [show Int.toNat (b : Int) * 1 = b from by omega, ← hen3]; exact hca w' (hw'.fr (w0 := y.2) (S := []) MI.m) b hbA)) rfl ?_))
                          all_goals (first | refine tl_sk rfl rfl rfl rfl ?_ | refine tl_qg rfl rfl (y_move rfl) rfl ?_); (first | refine tl_sk rfl rfl rfl rfl ?_ | refine tl_qg rfl rfl (y_index rfl rfl (by omega) (had3 (by omega))) rfl ?_); ((first | refine tl_sk rfl rfl rfl rfl ?_ | refine tl_qg rfl rfl (y_load1o (v := vi ((y.1.1.2.ac.getD b []).getD k 0)) rfl (fun w' hw' => by have hx := (hcn3 w' [] (hw'.fr (w0 := y.2) (S := []) MI.m) (by simp) k (by omega)).get 0 _ rfl; exact hx)) rfl ?_))
                          all_goals (first | refine tl_sk rfl rfl rfl rfl ?_ | refine tl_qg rfl rfl (y_eql rfl rfl) rfl ?_); (first | refine tl_q (y_pick_t rfl rfl) rfl ?_ | refine tl_q (y_pick_f rfl rfl) rfl ?_); refine tl_q (y_move rfl) rfl ?_; ((first | refine tl_sk rfl rfl rfl rfl ?_ | (refine tl_gs rfl rfl (fun hc => ?_) (fun hc => ?_) <;> (try simp only [qn1, qn2, qn3, qn4, qn5, qn6, qn7, qn8] at hc) <;> (first | refine tl_sk rfl rfl rfl rfl ?_ | refine tl_qg rfl rfl (y_field rfl) rfl ?_))))
                          all_goals (first | refine tl_sk rfl rfl rfl rfl ?_ | refine tl_qg rfl rfl (y_load1f rfl (hl5.at (by repeat constructor)) MI.m (by simp) (by rfl)) rfl ?_); (first | refine tl_sk rfl rfl rfl rfl ?_ | refine tl_qg rfl rfl (y_move rfl) rfl ?_); (first | refine tl_sk rfl rfl rfl rfl ?_ | refine tl_qg rfl rfl (y_index rfl rfl (by omega) (hada (by omega))) rfl ?_); ((first | refine tl_sk rfl rfl rfl rfl ?_ | refine tl_qg rfl rfl (y_load1o (v := .slice ad3 (y.1.1.2.ac.getD b []).length cp3) rfl (fun w' hw' => by rw [show Int.toNat (b : Int) * 1 = b from by omega, ← hen3]; exact hca w' (hw'.fr (w0 := y.2) (S := []) MI.m) b hbA)) rfl ?_))
                          all_goals (first | refine tl_sk rfl rfl rfl rfl ?_ | refine tl_qg rfl rfl (y_move rfl) rfl ?_); (first | refine tl_sk rfl rfl rfl rfl ?_ | refine tl_qg rfl rfl (y_index rfl rfl (by omega) (had3 (by omega))) rfl ?_); ((first | refine tl_sk rfl rfl rfl rfl ?_ | refine tl_qg rfl rfl (y_load1o (v := vi ((y.1.1.2.ac.getD b []).getD k 0)) rfl (fun w' hw' => by have hx := (hcn3 w' [] (hw'.fr (w0 := y.2) (S := []) MI.m) (by simp) k (by omega)).get 0 _ rfl; exact hx)) rfl ?_))
                          all_goals (first | refine tl_sk rfl rfl rfl rfl ?_ | refine tl_qg rfl rfl (y_eql rfl rfl) rfl ?_); (first | refine tl_q (y_pick_t rfl rfl) rfl ?_ | refine tl_q (y_pick_f rfl rfl) rfl ?_); refine tl_nil ?_; ((refine hK33 ?_; try (clear hK33; clear K33)))
                          all_goals (
                           refine tc_cond rfl (fun hc => ?_) (fun hc => ?_)
                           · try simp only [qn1, qn2, qn3, qn4, qn5, qn6, qn7, qn8] at hc
                             all_goals refine tc_seq fun K34 hK34 => ?_; refine tc_region ?_; refine tl_q (y_move rfl) rfl ?_; refine tl_q (y_add rfl rfl (by omega)) rfl ?_; refine tl_q (y_assign rfl) rfl ?_; refine tl_nil ?_; ((refine hK34 ?_; try (clear hK34; clear K34)))
                             all_goals refine tc_seq fun K35 hK35 => ?_; (have ho := hob.trans (decide_eq_true (by omega)))
                             all_goals refine tc_region ?_; refine tl_q (y_move rfl) rfl ?_; refine tl_q (y_move rfl) rfl ?_; refine tl_q (y_move rfl) rfl ?_; refine tl_q (y_index rfl rfl (by omega) (hadh (by omega))) rfl ?_; ((refine tl_q (y_load1o (v := .slice ad1 (q.1.getD b []).length cp1) rfl (fun w' hw' => by rw [show Int.toNat (b : Int) * 1 = b from by omega, ← hen1]; exact hch w' (hw'.fr (w0 := p5.2) (S := []) MI.m) b (by omega))) rfl ?_))
                             all_goals refine tl_q (y_move rfl) rfl ?_; refine tl_q (y_index rfl rfl (by omega) (had1 (by omega))) rfl ?_; ((refine tl_q (y_load1o (v := vi ((q.1.getD b []).getD k 0)) rfl (fun w' hw' => by have hx := (hcn1 w' [] (hw'.fr (w0 := p5.2) (S := []) MI.m) (by simp) k (by omega)).get 0 _ rfl; exact hx)) rfl ?_))
                             all_goals (refine tl_e (e_callV rfl (.cons rfl (.cons rfl .nil)) (fun w' hw' => lhas_v (htk2 ho) (by omega) _ w' (ho14.1.fr (hw'.fr (w0 := o14.2) (S := []) MI.m)))) rfl (fun _ _ => ?_)); refine tl_q (y_not rfl) rfl ?_; refine tl_nil ?_; ((refine hK35 ?_; try (clear hK35; clear K35)))
                             all_goals (
                              refine tc_cond rfl (fun hc => ?_) (fun hc => ?_)
                              · try simp only [qn1, qn2, qn3, qn4, qn5, qn6, qn7, qn8] at hc
                                all_goals ((exfalso; with_reducible exact btf hc))
                              · try simp only [qn1, qn2, qn3, qn4, qn5, qn6, qn7, qn8] at hc
                                all_goals refine tc_skip ?_; ((refine hK28 ?_; try (clear hK28; clear K28)))
                                all_goals refine tc_region ?_; refine tl_q (y_move rfl) rfl ?_; refine tl_q (y_add rfl rfl (by omega)) rfl ?_; refine tl_q (y_assign rfl) rfl ?_; refine tl_nil ?_
                                all_goals (
                                 first
                                 | (have hcs : cntB (q.2.getD b []) (y.1.1.2.ac.getD b []) (k + 1) = cntB (q.2.getD b []) (y.1.1.2.ac.getD b []) k + 1 := (congrArg (fun z => cntB (q.2.getD b []) (y.1.1.2.ac.getD b []) k + (if z = true then (1 : Int) else 0)) ho)
                                    exact tk_round (k + 1) (by omega) (by omega) (.cons rfl (.cons rfl (.cons rfl (.cons rfl (.cons rfl (.cons rfl (.cons rfl (.cons rfl (.cons (by rw [hcs]; rfl) (.cons rfl .nil)))))))))) (fun _ h => h.subl SB.s SB.s))
                                 | (have ho := hob.trans (decide_eq_false (by omega))
                                    have hcs : cntB (q.2.getD b []) (y.1.1.2.ac.getD b []) (k + 1) = cntB (q.2.getD b []) (y.1.1.2.ac.getD b []) k := (congrArg (fun z => cntB (q.2.getD b []) (y.1.1.2.ac.getD b []) k + (if z = true then (1 : Int) else 0)) ho).trans (Int.add_zero _)
                                    exact tk_round (k + 1) (by omega) (by omega) (.cons rfl (.cons rfl (.cons rfl (.cons rfl (.cons rfl (.cons rfl (.cons rfl (.cons rfl (.cons (by rw [hcs]; rfl) (.cons rfl .nil)))))))))) (fun _ h => h.subl SB.s SB.s))))
                           · try simp only [qn1, qn2, qn3, qn4, qn5, qn6, qn7, qn8] at hc
                             all_goals ((first | (exfalso; with_reducible exact btf hc) | skip))
                             all_goals refine tc_skip ?_; ((refine hK28 ?_; try (clear hK28; clear K28)))
                             all_goals refine tc_region ?_; refine tl_q (y_move rfl) rfl ?_; refine tl_q (y_add rfl rfl (by omega)) rfl ?_; refine tl_q (y_assign rfl) rfl ?_; refine tl_nil ?_
                             all_goals (
                              first
                              | (have hcs : cntB (q.2.getD b []) (y.1.1.2.ac.getD b []) (k + 1) = cntB (q.2.getD b []) (y.1.1.2.ac.getD b []) k + 1 := (congrArg (fun z => cntB (q.2.getD b []) (y.1.1.2.ac.getD b []) k + (if z = true then (1 : Int) else 0)) ho)
                                 exact tk_round (k + 1) (by omega) (by omega) (.cons rfl (.cons rfl (.cons rfl (.cons rfl (.cons rfl (.cons rfl (.cons rfl (.cons rfl (.cons (by rw [hcs]; rfl) (.cons rfl .nil)))))))))) (fun _ h => h.subl SB.s SB.s))
                              | (have ho := hob.trans (decide_eq_false (by omega))
                                 have hcs : cntB (q.2.getD b []) (y.1.1.2.ac.getD b []) (k + 1) = cntB (q.2.getD b []) (y.1.1.2.ac.getD b []) k := (congrArg (fun z => cntB (q.2.getD b []) (y.1.1.2.ac.getD b []) k + (if z = true then (1 : Int) else 0)) ho).trans (Int.add_zero _)
                                 exact tk_round (k + 1) (by omega) (by omega) (.cons rfl (.cons rfl (.cons rfl (.cons rfl (.cons rfl (.cons rfl (.cons rfl (.cons rfl (.cons (by rw [hcs]; rfl) (.cons rfl .nil)))))))))) (fun _ h => h.subl SB.s SB.s)))))
                     · try simp only [qn1, qn2, qn3, qn4, qn5, qn6, qn7, qn8] at hc
                       all_goals refine tc_exit ?_; ((refine hK24 ?_; try (clear hK24; clear K24)))
                       all_goals refine tc_seq fun K37 hK37 => ?_; ((have hkn : k = ((sgS y.1.1.1 sg).L + 1).toNat := (by show k = (y.1.1.1.L + 1).toNat; omega); have hm := htc.m; have hv2 := htc.v2; have hv1 := htc.v1; rw [← hkn] at hm hv2 hv1))
                       all_goals ((obtain ⟨cn, hcn⟩ : ∃ cn, cn = cntB (q.2.getD b []) (y.1.1.2.ac.getD b []) k := ⟨_, rfl⟩; rw [← hcn] at hm hv2 hv1 hcb ⊢))
                       all_goals refine tc_region ?_; refine tl_q (y_move rfl) rfl ?_; refine tl_q (y_move rfl) rfl ?_; refine tl_q (y_move rfl) rfl ?_; refine tl_q (y_index rfl rfl (by omega) (hadl (by omega))) rfl ?_; ((refine tl_q (y_load1o (v := vi (askF (sgS y.1.1.1 sg) b).least) rfl (fun w' hw' => by rw [show Int.toNat (b : Int) * 1 = b from by omega, ← hlg]; exact hcl w' (hw'.fr (w0 := l6.2) (S := []) MI.m) b (by omega))) rfl ?_))
                       all_goals refine tl_q (y_lss rfl rfl) rfl ?_; refine tl_q (y_move rfl) rfl ?_; ((refine tl_gs rfl rfl (fun hc => ?_) (fun hc => ?_) <;> (try simp only [qn1, qn2, qn3, qn4, qn5, qn6, qn7, qn8] at hc) <;> (first | (exfalso; omega) | refine tl_qg rfl rfl (y_move rfl) rfl ?_)))
                       all_goals (refine tl_qg rfl rfl (y_gtr rfl rfl) rfl ?_); refine tl_qg rfl rfl (y_move rfl) rfl ?_; ((refine tl_gs rfl rfl (fun hc => ?_) (fun hc => ?_) <;> (try simp only [qn1, qn2, qn3, qn4, qn5, qn6, qn7, qn8] at hc) <;> (first | refine tl_sk rfl rfl rfl rfl ?_ | refine tl_qg rfl rfl (y_move rfl) rfl ?_)))
                       all_goals (first | refine tl_sk rfl rfl rfl rfl ?_ | refine tl_qg rfl rfl (y_move rfl) rfl ?_); (first | refine tl_sk rfl rfl rfl rfl ?_ | refine tl_qg rfl rfl (y_index rfl rfl (by omega) (hadv (by omega))) rfl ?_); ((first | refine tl_sk rfl rfl rfl rfl ?_ | refine tl_qg rfl rfl (y_load1o (v := vi (verdF (askF (sgS y.1.1.1 sg) b))) rfl (fun w' hw' => by rw [show Int.toNat (b : Int) * 1 = b from by omega, ← hvg]; exact hcv w' (hw'.fr (w0 := v7.2) (S := []) MI.m) b (by omega))) rfl ?_))
                       all_goals (first | refine tl_sk rfl rfl rfl rfl ?_ | refine tl_qg rfl rfl (y_eql rfl rfl) rfl ?_); (first | refine tl_qg rfl rfl (y_pick_t rfl rfl) rfl ?_ | refine tl_qg rfl rfl (y_pick_f rfl rfl) rfl ?_); refine tl_q (y_pick_f rfl rfl) rfl ?_; refine tl_q (y_move rfl) rfl ?_; ((first | refine tl_qg rfl rfl (y_move rfl) rfl ?_ | (refine tl_gs rfl rfl (fun hc => ?_) (fun hc => ?_) <;> (try simp only [qn1, qn2, qn3, qn4, qn5, qn6, qn7, qn8] at hc) <;> (first | (exfalso; omega) | refine tl_qg rfl rfl (y_move rfl) rfl ?_))))
                       all_goals (refine tl_qg rfl rfl (y_eql rfl rfl) rfl ?_); refine tl_qg rfl rfl (y_move rfl) rfl ?_; ((refine tl_gs rfl rfl (fun hc => ?_) (fun hc => ?_) <;> (try simp only [qn1, qn2, qn3, qn4, qn5, qn6, qn7, qn8] at hc) <;> (first | (exfalso; omega) | refine tl_sk rfl rfl rfl rfl ?_ | refine tl_qg rfl rfl (y_move rfl) rfl ?_)))
                       all_goals (first | refine tl_sk rfl rfl rfl rfl ?_ | refine tl_qg rfl rfl (y_move rfl) rfl ?_); (first | refine tl_sk rfl rfl rfl rfl ?_ | refine tl_qg rfl rfl (y_index rfl rfl (by omega) (hadv (by omega))) rfl ?_); ((first | refine tl_sk rfl rfl rfl rfl ?_ | refine tl_qg rfl rfl (y_load1o (v := vi (verdF (askF (sgS y.1.1.1 sg) b))) rfl (fun w' hw' => by rw [show Int.toNat (b : Int) * 1 = b from by omega, ← hvg]; exact hcv w' (hw'.fr (w0 := v7.2) (S := []) MI.m) b (by omega))) rfl ?_))
                       all_goals (first | refine tl_sk rfl rfl rfl rfl ?_ | refine tl_qg rfl rfl (y_eql rfl rfl) rfl ?_); (first | refine tl_qg rfl rfl (y_pick_t rfl rfl) rfl ?_ | refine tl_qg rfl rfl (y_pick_f rfl rfl) rfl ?_); refine tl_q (y_pick_f rfl rfl) rfl ?_; refine tl_nil ?_; ((refine hK37 ?_; try (clear hK37; clear K37)))
                       all_goals (
                        refine tc_cond rfl (fun hc => ?_) (fun hc => ?_)
                        · try simp only [qn1, qn2, qn3, qn4, qn5, qn6, qn7, qn8] at hc
                          all_goals ((first | (exfalso; with_reducible exact bft hc) | (exfalso; omega)))
                        · try simp only [qn1, qn2, qn3, qn4, qn5, qn6, qn7, qn8] at hc
                          all_goals refine tc_skip ?_; ((refine hK18 ?_; try (clear hK18; clear K18)))
                          all_goals refine tc_region ?_; refine tl_q (y_move rfl) rfl ?_; refine tl_q (y_add rfl rfl (by omega)) rfl ?_; refine tl_q (y_assign rfl) rfl ?_; refine tl_nil ?_
                          all_goals (
                           exact tk_round (b + 1) (by omega) (by omega) (.cons rfl (.cons rfl (.cons rfl (.cons rfl (.cons rfl (.cons rfl (.cons rfl .nil))))))) (fun _ h => h.subl SB.s SB.s))))))
            · try simp only [qn1, qn2, qn3, qn4, qn5, qn6, qn7, qn8] at hc
              all_goals refine tc_exit ?_; ((refine hK14 ?_; try (clear hK14; clear K14)))
              all_goals refine tc_seq fun K39 hK39 => ?_; refine tc_region ?_; refine tl_e (e_callV rfl .nil (fun w' _ => awake_c w')) rfl (fun _ _ => ?_); refine tl_q (y_assign rfl) rfl ?_; refine tl_nil ?_; ((refine hK39 ?_; try (clear hK39; clear K39)))
              all_goals refine tc_ret ?_; (repeat (first | refine tk_then_ret ?_))
              all_goals (refine tk_ret rfl rfl (.cons (.tmp rfl) .nil) ?_)
              all_goals (
               exact fun w' hw' => ⟨rfl, hw'.fr (w0 := w) (S := []) MI.m⟩)))))
end Go.Sp
/-
  From a contract of a law's function to its row: what the arguments read as, and that they read so afterwards.
-/
namespace Go.Sp
open Go Go.Proofs Go.ChangeShapes Go.WideShapes Go.RowKit
section
variable {H : Type} {enc : TypeId × Value → H} {P : Program} {w : World} {base : Nat} {spare : Nat → Bool} {held : Bool}
theorem Fr.kept {W W' : World} (h : Fr [] W W') (p : MemPlace → Prop) : W.keptBut W' p :=
  ⟨h.os, h.output, fun i hi => by
    have e := h.block i hi (by simp)
    rw [e]
    cases hb : W.heap[i]? with
    | none => trivial
    | some o => cases o <;> simp⟩
/-- What is left of a post without 'again'. -/
theorem post_na {f : Func} {s : ChangeSpec} {apart fresh handsOn : Bool} {W W' : World} {args : Array Value} {v : Value} {ds gs : List (DataW H)} {before pa pv : List MemPlace}
    (hW : DataW.Whole enc P f.params.toList s.vars apart W args.toList ds gs before)
    (hres : ∀ (b : Nat) (sp : Nat → Bool) (hd : Bool), DataW.TrodAll enc P W' b sp hd f.resultTypes.toList (v.resultList f.resultTypes.size) (s.fn H (ds ++ gs)).results [])
    (hargs : ∀ sp : Nat → Bool, (∀ p ∈ before, sp p.block = true) → DataW.TrodAll enc P W' 0 sp true f.params.toList args.toList (s.fn H (ds ++ gs)).args pa)
    (hvars : ∀ sp : Nat → Bool, (∀ p ∈ before, sp p.block = true) → DataW.TrodVars enc P W' sp s.vars (s.fn H (ds ++ gs)).vars pv)
    (hps : before = pa ++ pv) (hk : W.keptBut W' (· ∈ before)) : s.post enc P f apart fresh handsOn false W args v W' := by
  have hold : ∀ p ∈ before, (fun b => decide (b < W.heap.size)) p.block = true := fun p hp => by simpa using hW.lt p hp
  refine ⟨ds, gs, before, [], pa, pv, hW, hres _ _ _, hargs _ hold, hvars _ hold, World.keptBut_mono (fun p hp => ⟨hp, ?_⟩) hk, fun h => by cases h⟩
  rw [hps, List.mem_append] at hp
  exact Or.inr hp
theorem all_stays (hl : laidOutB P = true) {W W' : World} {sp : Nat → Bool} (hb : Below W.heap.size W W') : ∀ {ts : List TypeId} {vs : List Value} {ds : List (DataW H)} {ps : List MemPlace}, (ts.all fun t => P.readableRec t && decide (t < P.types.size)) = true →
    DataW.TrodAll enc P W 0 (fun _ => true) true ts vs ds ps → (∀ p ∈ ps, sp p.block = true) → DataW.TrodAll enc P W' 0 sp true ts vs ds ps := by
  intro ts
  induction ts with
  | nil => intro vs ds ps _ h _; cases vs <;> cases ds <;> simp [DataW.TrodAll] at h ⊢; exact h
  | cons t ts ih =>
    intro vs ds ps ht h hs
    have hlt := h.lt
    obtain ⟨v, vs', d, ds', p, q, rfl, rfl, rfl, h1, h2⟩ := trodAll_cons h
    simp only [List.all_cons, Bool.and_eq_true, decide_eq_true_eq] at ht
    exact ⟨p, q, WideElems.Trod_stays hl ht.1.1 ht.1.2 h1 (fun x hx => hb.same (hlt x (List.mem_append_left _ hx))) (fun x hx => hs x (List.mem_append_left _ hx)),
      ih (by simpa using ht.2) h2 (fun x hx => hs x (List.mem_append_right _ hx)), rfl⟩
/-- A slice reads as the cells of its elements, each of which reads. -/
theorem slice_reads {t e : TypeId} {fuel : Nat} {cs : List Value} {x : DataW H × List MemPlace} (ht : P.underlying t = some (.slice e)) (hc : 0 < P.cellsOf e) (h : DataW.trod enc P w base spare held fuel t cs = some x) :
    ∃ ad cap, ∃ ess : List (List Value), cs = [.slice ad ess.length cap] ∧ ess.length ≤ maxLen ∧ Reads w (.slice ad ess.length cap) (P.cellsOf e) ess.length ess.flatten ∧ ∀ es ∈ ess, ∃ m y, DataW.trod enc P w base spare held m e es = some y := by
  rcases DataW.trod_slice ht h with ⟨rfl, _⟩ | ⟨a, len, cap, elems, rest, n, _, rfl, _, hb, hl, hm, hlen, hel, _, _⟩
  · exact ⟨none, 0, [], rfl, Nat.zero_le _, ⟨by simp, none, 0, rfl, fun h => absurd rfl h⟩, by simp⟩
  · -- the cells of each element
    have hone : ∀ i, i < len → ∃ es y, w.cells? base (a.add (i * P.cellsOf e)) (P.cellsOf e) = some es ∧ DataW.trod enc P w base spare held n e es = some y := fun i hi => by
      have h1 := hel i hi
      rw [List.getElem?_eq_getElem (by omega)] at h1
      obtain ⟨es, h2, h3⟩ := Option.bind_eq_some_iff.1 h1
      exact ⟨es, _, h2, h3⟩
    have hadd : ∀ m, a.spot = none → a.add m = ⟨a.block, a.off + m, none⟩ := fun m hs => by
      obtain ⟨b, o, sp⟩ := a
      simp only at hs
      subst hs
      unfold Addr.add; split
      · rename_i h0; subst h0; rfl
      · rfl
    have hsp0 : 0 < len → a.spot = none := fun h0 => by
      obtain ⟨es, y, g1, g2⟩ := hone 0 h0
      obtain ⟨_, hl1, hat⟩ := World.cells?_some g1
      have := hat 0 hc
      rw [List.getElem?_eq_getElem (by omega), Nat.zero_mul, show (a.add 0).add 0 = a from rfl] at this
      unfold World.cell? at this
      split at this
      · split at this
        · cases this
        · rename_i hs; simpa using hs
      · cases this
    have hcell : ∀ k, k ≤ len → ∃ ess : List (List Value), ess.length = k ∧ (∀ es ∈ ess, ∃ m y, DataW.trod enc P w base spare held m e es = some y) ∧ ess.flatten.length = k * P.cellsOf e ∧
        (k ≠ 0 → a.spot = none) ∧ ∀ j v, ess.flatten[j]? = some v → w.cell? ⟨a.block, a.off + j, none⟩ = some v := by
      intro k
      induction k with
      | zero => intro _; exact ⟨[], rfl, by simp, by simp, fun h => absurd rfl h, by simp⟩
      | succ k ih =>
        intro hk
        obtain ⟨ess, h1, h2, h3, h4, h5⟩ := ih (by omega)
        obtain ⟨es, y, g1, g2⟩ := hone k (by omega)
        obtain ⟨_, hl1, hat⟩ := World.cells?_some g1
        have hspot : a.spot = none := hsp0 (by omega)
        refine ⟨ess ++ [es], by simp [h1], fun u hu => ?_, ?_, fun _ => hspot, fun j v hv => ?_⟩
        · rcases List.mem_append.1 hu with hu | hu
          · exact h2 u hu
          · obtain rfl := List.mem_singleton.1 hu; exact ⟨n, y, g2⟩
        · rw [List.flatten_append, List.length_append, h3]; simp [hl1]; rw [Nat.add_mul]; omega
        · rw [List.flatten_append] at hv
          by_cases hj : j < ess.flatten.length
          · rw [List.getElem?_append_left hj] at hv; exact h5 j v hv
          · rw [List.getElem?_append_right (by omega)] at hv
            simp only [List.flatten_cons, List.flatten_nil, List.append_nil] at hv
            have hjl : j - ess.flatten.length < es.length := (List.getElem?_eq_some_iff.1 hv).1
            have := hat (j - ess.flatten.length) (by omega)
            rw [hv, hadd _ hspot] at this
            have e2 : (⟨a.block, a.off + k * P.cellsOf e, none⟩ : Addr).add (j - ess.flatten.length) = ⟨a.block, a.off + j, none⟩ := by
              unfold Addr.add; split
              · rename_i h0; simp only [Addr.mk.injEq, true_and, and_true]; omega
              · simp only [Addr.mk.injEq, true_and, and_true]; omega
            rw [e2] at this
            exact this
    obtain ⟨ess, h1, h2, h3, h4, h5⟩ := hcell len (Nat.le_refl _)
    subst h1
    refine ⟨some a, cap, ess, rfl, by omega, ⟨h3, _, _, rfl, fun hn => ⟨a.block, a.off, ?_, ?_⟩⟩, h2⟩
    · have := h4 hn
      obtain ⟨b, o, sp⟩ := a
      simp only at this
      subst this
      rfl
    · rw [← h3]
      generalize ess.flatten = vs at h5
      have key : ∀ (vs : List Value) (o : Nat), (∀ j v, vs[j]? = some v → w.cell? ⟨a.block, o + j, none⟩ = some v) → CA (fun k => w.cell? ⟨a.block, k, none⟩) o vs.length vs := by
        intro vs
        induction vs with
        | nil => intro o _; exact .nil
        | cons v vs ih => intro o hv; exact .cons (hv 0 v rfl) (ih (o + 1) fun j u hu => by rw [Nat.add_assoc, Nat.add_comm 1 j]; exact hv (j + 1) u hu)
      exact key vs a.off h5
theorem exists_map {α β : Type} {f : α → β} {q : α → Prop} : ∀ (l : List β), (∀ y ∈ l, ∃ x, y = f x ∧ q x) → ∃ xs : List α, l = xs.map f ∧ ∀ x ∈ xs, q x
  | [], _ => ⟨[], rfl, by simp⟩
  | y :: l, h => by
    obtain ⟨x, rfl, hq⟩ := h y List.mem_cons_self
    obtain ⟨xs, rfl, hxs⟩ := exists_map l (fun z hz => h z (List.mem_cons_of_mem _ hz))
    exact ⟨x :: xs, rfl, fun z hz => by rcases List.mem_cons.1 hz with rfl | hz; exact hq; exact hxs z hz⟩
theorem flatten_map_one {α : Type} (f : α → Value) (xs : List α) : (xs.map fun x => [f x]).flatten = xs.map f := by
  induction xs with
  | nil => rfl
  | cons x xs ih => simp [ih]
/-- A slice of integers of one kind. -/
theorem ints_reads {t e : TypeId} {k : IntKind} {fuel : Nat} {cs : List Value} {x : DataW H × List MemPlace} (ht : P.underlying t = some (.slice e)) (he : P.underlying e = some (.int k)) (hc : P.cellsOf e = 1) (h : DataW.trod enc P w base spare held fuel t cs = some x) :
    ∃ sl, ∃ xs : List Int, cs = [sl] ∧ xs.length ≤ maxLen ∧ Reads w sl 1 xs.length (xs.map (Value.int k)) ∧ ∀ n ∈ xs, (Lit.int k n).wf = true := by
  obtain ⟨ad, cap, ess, rfl, hm, hr, hes⟩ := slice_reads ht (by omega) h
  obtain ⟨xs, rfl, hxs⟩ := exists_map (f := fun n : Int => [Value.int k n]) (q := fun n => (Lit.int k n).wf = true) ess (fun es h => by
    obtain ⟨m, y, hy⟩ := hes es h
    obtain ⟨n, rfl, _, hw⟩ := DataW.trod_int he hy
    exact ⟨n, rfl, hw⟩)
  rw [flatten_map_one, hc] at hr
  simp only [List.length_map] at hr hm
  exact ⟨_, xs, by simp, hm, hr, hxs⟩
/-- The fields of a struct. -/
theorem fields_reads {t : TypeId} {fs : Array Field} {fuel : Nat} {cs : List Value} {x : DataW H × List MemPlace} (ht : P.underlying t = some (.struct fs)) (h : DataW.trod enc P w base spare held fuel t cs = some x) :
    cs.length = P.cellsOf t ∧ ∀ (i : Nat) (f : Field), fs[i]? = some f → ∃ m y, DataW.trod enc P w base spare held m f.type ((cs.drop f.offset).take (P.cellsOf f.type)) = some y := by
  obtain ⟨xs, n, _, _, hl, hx, hf⟩ := DataW.trod_struct ht h
  refine ⟨hl, fun i f hi => ?_⟩
  have := hf i f hi
  have hlt : i < fs.size := (Array.getElem?_eq_some_iff.1 hi).1
  rw [List.getElem?_eq_getElem (by omega)] at this
  exact ⟨n, _, this⟩
def flds (enc : TypeId × Value → H) (P : Program) (w : World) (base : Nat) (spare : Nat → Bool) (held : Bool) (cs : List Value) : List Field → Prop
  | [] => True
  | f :: fs => (∃ m y, DataW.trod enc P w base spare held m f.type ((cs.drop f.offset).take (P.cellsOf f.type)) = some y) ∧ flds enc P w base spare held cs fs
theorem fields_list {t : TypeId} {l : List Field} {fuel : Nat} {cs : List Value} {x : DataW H × List MemPlace} (ht : P.underlying t = some (.struct l.toArray)) (h : DataW.trod enc P w base spare held fuel t cs = some x) :
    cs.length = P.cellsOf t ∧ flds enc P w base spare held cs l := by
  obtain ⟨hl, hf⟩ := fields_reads ht h
  refine ⟨hl, ?_⟩
  have key : ∀ l' : List Field, (∀ f ∈ l', f ∈ l) → flds enc P w base spare held cs l' := by
    intro l'
    induction l' with
    | nil => intro _; trivial
    | cons f fs ih =>
      intro hm
      obtain ⟨i, hi, e⟩ := List.getElem_of_mem (hm f List.mem_cons_self)
      exact ⟨hf i f (by simp [hi, e]), ih fun g hg => hm g (List.mem_cons_of_mem _ hg)⟩
  exact key l fun _ h => h
end
end Go.Sp
/-
  What a sample reads as.
-/
namespace Go.Sp
open Go Go.Proofs Go.ChangeShapes Go.WideShapes Go.RowKit
theorem laidTryz : laidOutB Tryz.prog = true := by kernel_rfl
theorem cells_3 : Tryz.prog.cellsOf 3 = 1 := by kernel_rfl
theorem cells_4 : Tryz.prog.cellsOf 4 = 1 := by kernel_rfl
theorem cells_22 : Tryz.prog.cellsOf 22 = 1 := by kernel_rfl
theorem cells_23 : Tryz.prog.cellsOf 23 = 1 := by kernel_rfl
theorem cells_24 : Tryz.prog.cellsOf 24 = 1 := by kernel_rfl
theorem cells_77 : Tryz.prog.cellsOf 77 = 5 := by kernel_rfl
theorem cells_75 : Tryz.prog.cellsOf 75 = 2 := by kernel_rfl
theorem cells_65 : Tryz.prog.cellsOf 65 = 3 := by kernel_rfl
theorem cells_26 : Tryz.prog.cellsOf 26 = 7 := by kernel_rfl
theorem wf64 {n : Int} (h : (Lit.int .i64 n).wf = true) : -9223372036854775808 ≤ n ∧ n ≤ 9223372036854775807 := by
  simpa [Lit.wf, IntKind.min, IntKind.max, IntKind.signed, IntKind.bits] using h
theorem wf16 {n : Int} (h : (Lit.int .u16 n).wf = true) : 0 ≤ n ∧ n ≤ 65535 := by
  simpa [Lit.wf, IntKind.min, IntKind.max, IntKind.signed, IntKind.bits] using h
theorem wf8 {n : Int} (h : (Lit.int .u8 n).wf = true) : 0 ≤ n ∧ n ≤ 255 := by
  simpa [Lit.wf, IntKind.min, IntKind.max, IntKind.signed, IntKind.bits] using h
theorem lenOf {n : Nat} (h : n ≤ maxLen) : (n : Int) ≤ 9223372036854775807 := by
  have : maxLen = 9223372036854775807 := by kernel_rfl
  omega
abbrev Bd (n : Int) : Prop := -9223372036854775808 ≤ n ∧ n ≤ 9223372036854775807
theorem two' {α : Type} {l : List α} (h : l.length = 2) : ∃ a b, l = [a, b] := by
  match l, h with
  | [a, b], _ => exact ⟨a, b, rfl⟩
theorem three' {α : Type} {l : List α} (h : l.length = 3) : ∃ a b c, l = [a, b, c] := by
  match l, h with
  | [a, b, c], _ => exact ⟨a, b, c, rfl⟩
theorem five' {α : Type} {l : List α} (h : l.length = 5) : ∃ a b c d e, l = [a, b, c, d, e] := by
  match l, h with
  | [a, b, c, d, e], _ => exact ⟨a, b, c, d, e, rfl⟩
theorem seven' {α : Type} {l : List α} (h : l.length = 7) : ∃ a b c d e f g, l = [a, b, c, d, e, f, g] := by
  match l, h with
  | [a, b, c, d, e, f, g], _ => exact ⟨a, b, c, d, e, f, g, rfl⟩
theorem flatten_map {α : Type} (enc : α → List Value) (xs : List α) : (xs.map enc).flatten = xs.flatMap enc := rfl
section
variable {H : Type} {enc : TypeId × Value → H} {w : World} {base : Nat} {spare : Nat → Bool} {held : Bool}
theorem bools_reads {fuel : Nat} {cs : List Value} {x : DataW H × List MemPlace} (h : DataW.trod enc Tryz.prog w base spare held fuel 22 cs = some x) :
    ∃ (sl : Value) (l : List Bool), cs = [sl] ∧ RdS 1 boE w sl l ∧ l.length ≤ maxLen := by
  obtain ⟨ad, cap, ess, rfl, hm, hr, hes⟩ := slice_reads Tryz.underlying22 (by rw [cells_4]; decide) h
  obtain ⟨xs, rfl, hxs⟩ := exists_map (f := boE) (q := fun _ => True) ess (fun es h => by
    obtain ⟨m, y, hy⟩ := hes es h
    obtain ⟨b, rfl, _⟩ := DataW.trod_bool Tryz.underlying4 hy
    exact ⟨b, rfl, trivial⟩)
  rw [flatten_map, cells_4] at hr
  simp only [List.length_map] at hr hm
  exact ⟨_, xs, by simp, hr, hm⟩
theorem rng_reads {fuel : Nat} {cs : List Value} {x : DataW H × List MemPlace} (h : DataW.trod enc Tryz.prog w base spare held fuel 75 cs = some x) :
    ∃ a b : Int, cs = [vi a, vi b] ∧ Bd a ∧ Bd b := by
  obtain ⟨hl, hf⟩ := fields_list Tryz.underlying75 h
  rw [cells_75] at hl
  obtain ⟨c0, c1, rfl⟩ := two' hl
  obtain ⟨⟨_, _, f0⟩, ⟨_, _, f1⟩, _⟩ := hf
  rw [cells_3] at f0 f1
  obtain ⟨n0, e0, _, w0⟩ := DataW.trod_int Tryz.underlying3 f0
  obtain ⟨n1, e1, _, w1⟩ := DataW.trod_int Tryz.underlying3 f1
  simp at e0 e1
  subst e0; subst e1
  exact ⟨n0, n1, rfl, wf64 w0, wf64 w1⟩
theorem pas_reads {fuel : Nat} {cs : List Value} {x : DataW H × List MemPlace} (h : DataW.trod enc Tryz.prog w base spare held fuel 77 cs = some x) :
    ∃ p : Pas, cs = psE p := by
  obtain ⟨hl, hf⟩ := fields_list Tryz.underlying77 h
  rw [cells_77] at hl
  obtain ⟨c0, c1, c2, c3, c4, rfl⟩ := five' hl
  obtain ⟨⟨_, _, f0⟩, ⟨_, _, f1⟩, ⟨_, _, f2⟩, ⟨_, _, f3⟩, _⟩ := hf
  rw [cells_3] at f0 f1 f2
  rw [cells_75] at f3
  obtain ⟨n0, e0, _, w0⟩ := DataW.trod_int Tryz.underlying3 f0
  obtain ⟨n1, e1, _, w1⟩ := DataW.trod_int Tryz.underlying3 f1
  obtain ⟨n2, e2, _, w2⟩ := DataW.trod_int Tryz.underlying3 f2
  obtain ⟨a, b, e3, _, _⟩ := rng_reads f3
  simp at e0 e1 e2 e3
  obtain ⟨rfl, rfl⟩ := e3
  subst e0; subst e1; subst e2
  exact ⟨⟨n0, n1, n2, a, b⟩, rfl⟩
theorem sgt_reads {fuel : Nat} {cs : List Value} {x : DataW H × List MemPlace} (h : DataW.trod enc Tryz.prog w base spare held fuel 65 cs = some x) :
    ∃ g : Sgt, cs = sgE g := by
  obtain ⟨hl, hf⟩ := fields_list Tryz.underlying65 h
  rw [cells_65] at hl
  obtain ⟨c0, c1, c2, rfl⟩ := three' hl
  obtain ⟨⟨_, _, f0⟩, ⟨_, _, f1⟩, ⟨_, _, f2⟩, _⟩ := hf
  rw [cells_3] at f0 f1
  rw [cells_4] at f2
  obtain ⟨n0, e0, _, w0⟩ := DataW.trod_int Tryz.underlying3 f0
  obtain ⟨n1, e1, _, w1⟩ := DataW.trod_int Tryz.underlying3 f1
  obtain ⟨b, e2, _⟩ := DataW.trod_bool Tryz.underlying4 f2
  simp at e0 e1 e2
  subst e0; subst e1; subst e2
  exact ⟨⟨n0, n1, b⟩, rfl⟩
theorem pass_reads {fuel : Nat} {cs : List Value} {x : DataW H × List MemPlace} (h : DataW.trod enc Tryz.prog w base spare held fuel 23 cs = some x) :
    ∃ (sl : Value) (l : List Pas), cs = [sl] ∧ RdS 5 psE w sl l ∧ l.length ≤ maxLen := by
  obtain ⟨ad, cap, ess, rfl, hm, hr, hes⟩ := slice_reads Tryz.underlying23 (by rw [cells_77]; decide) h
  obtain ⟨xs, rfl, hxs⟩ := exists_map (f := psE) (q := fun _ => True) ess (fun es h => by
    obtain ⟨m, y, hy⟩ := hes es h
    obtain ⟨p, hp⟩ := pas_reads hy
    exact ⟨p, hp, trivial⟩)
  rw [flatten_map, cells_77] at hr
  simp only [List.length_map] at hr hm
  exact ⟨_, xs, by simp, hr, hm⟩
theorem sgts_reads {fuel : Nat} {cs : List Value} {x : DataW H × List MemPlace} (h : DataW.trod enc Tryz.prog w base spare held fuel 24 cs = some x) :
    ∃ (sl : Value) (l : List Sgt), cs = [sl] ∧ RdS 3 sgE w sl l ∧ l.length ≤ maxLen := by
  obtain ⟨ad, cap, ess, rfl, hm, hr, hes⟩ := slice_reads Tryz.underlying24 (by rw [cells_65]; decide) h
  obtain ⟨xs, rfl, hxs⟩ := exists_map (f := sgE) (q := fun _ => True) ess (fun es h => by
    obtain ⟨m, y, hy⟩ := hes es h
    obtain ⟨p, hp⟩ := sgt_reads hy
    exact ⟨p, hp, trivial⟩)
  rw [flatten_map, cells_65] at hr
  simp only [List.length_map] at hr hm
  exact ⟨_, xs, by simp, hr, hm⟩
theorem smp_reads {fuel : Nat} {cs : List Value} {x : DataW H × List MemPlace} (h : DataW.trod enc Tryz.prog w base spare held fuel 26 cs = some x) :
    ∃ (s : Smp) (tv pv gv : Value), cs = [vi s.B, vi s.P, vi s.L, vi s.F, tv, pv, gv] ∧ RdSm w s tv pv gv := by
  obtain ⟨hl, hf⟩ := fields_list Tryz.underlying26 h
  rw [cells_26] at hl
  obtain ⟨c0, c1, c2, c3, c4, c5, c6, rfl⟩ := seven' hl
  obtain ⟨⟨_, _, f0⟩, ⟨_, _, f1⟩, ⟨_, _, f2⟩, ⟨_, _, f3⟩, ⟨_, _, f4⟩, ⟨_, _, f5⟩, ⟨_, _, f6⟩, _⟩ := hf
  rw [cells_3] at f0 f1 f2 f3
  rw [cells_22] at f4
  rw [cells_23] at f5
  rw [cells_24] at f6
  obtain ⟨n0, e0, _, w0⟩ := DataW.trod_int Tryz.underlying3 f0
  obtain ⟨n1, e1, _, w1⟩ := DataW.trod_int Tryz.underlying3 f1
  obtain ⟨n2, e2, _, w2⟩ := DataW.trod_int Tryz.underlying3 f2
  obtain ⟨n3, e3, _, w3⟩ := DataW.trod_int Tryz.underlying3 f3
  obtain ⟨tv, st, e4, h4, _⟩ := bools_reads f4
  obtain ⟨pv, ps, e5, h5, _⟩ := pass_reads f5
  obtain ⟨gv, sg, e6, h6, _⟩ := sgts_reads f6
  simp at e0 e1 e2 e3 e4 e5 e6
  subst e0; subst e1; subst e2; subst e3; subst e4; subst e5; subst e6
  exact ⟨⟨n0, n1, n2, n3, st, ps, sg⟩, _, _, _, rfl, h4, h5, h6⟩
end
end Go.Sp
