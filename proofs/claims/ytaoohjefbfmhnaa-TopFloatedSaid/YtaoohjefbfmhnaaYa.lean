/-
  What Leave returns is what the reference says.
-/
import Derived.Test.YtaoohjefbfmhnaaVa
import Derived.Test.YtaoohjefbfmhnaaLs
set_option linter.unusedVariables false
set_option linter.unusedSimpArgs false
set_option linter.deprecated false
namespace Go.Sp
open Go Go.Proofs
theorem full_fits {s : Sn} {l : List (Int × Int)} {o : List Int} (h : ∀ i : Nat, i < l.length → (i : Int) ∈ o) : ∀ n, n ≤ l.length → narF s l o n = (1, 2000) := by
  intro n
  induction n with
  | zero => intro _; rfl
  | succ n ih =>
    intro hn
    rw [narF_succ, ih (by omega)]
    unfold narStep
    rw [if_pos (h n (by omega))]
theorem many_iff {s : Sn} (hs : VS s) {l : List (Int × Int)} (hl : l.length ≤ 16) (hok : l.all (rdOk s) = true) (n : Nat) : 0 < (rAll s l n).2 ↔ fitsP s l (bitsL n) = true := by
  rw [rAll_nar hs hok (o := bitsL n) (fun i hi => by rw [bitsL_iff (by omega), ← bitB_nat]; rfl)]
  unfold fitsP emptyF
  by_cases h : (narF s l (bitsL n) l.length).1 ≤ (narF s l (bitsL n) l.length).2
  · rw [if_pos h]
    simp only [Bool.not_eq_true', decide_eq_false_iff_not]
    omega
  · rw [if_neg h]
    simp only [Bool.not_eq_true', decide_eq_false_iff_not]
    omega
theorem bits_full {N i : Nat} (hN : N ≤ 16) (hi : i < N) : (i : Int) ∈ bitsL ((2 ^ N - 1 : Nat) : Int) := by
  rw [bitsL_iff (by omega), Nat.testBit_two_pow_sub_one]
  exact decide_eq_true hi
theorem rLeave_least {s : Sn} (hs : VS s) {l : List (Int × Int)} (hl : l.length ≤ 16) (hok : l.all (rdOk s) = true) : Least (fitsP s l) l.length (rLeave s l) := by
  have hfull : fitsP s l (bitsL ((2 ^ l.length - 1 : Nat) : Int)) = true := by
    unfold fitsP
    rw [full_fits (fun i hi => bits_full hl hi) l.length (Nat.le_refl _)]
    rfl
  have hpos : 0 < 2 ^ l.length := Nat.two_pow_pos _
  have key : ∀ n : Nat, n ≤ 2 ^ l.length → (∃ m : Nat, m < 2 ^ l.length ∧ rLeaveN s l n = bitsL m) ∧ fitsP s l (rLeaveN s l n) = true ∧ ∀ m : Nat, m < n → fitsP s l (bitsL m) = true → lessF (bitsL m) (rLeaveN s l n) = false := by
    intro n
    induction n with
    | zero =>
      intro _
      have e : rLeaveN s l 0 = bitsL ((2 ^ l.length - 1 : Nat) : Int) := by
        show bitsL (2 ^ l.length - 1) = _
        congr 1
        have : ((2 ^ l.length : Nat) : Int) = 2 ^ l.length := by simp
        omega
      exact ⟨⟨2 ^ l.length - 1, by omega, e⟩, by rw [e]; exact hfull, fun m hm => absurd hm (Nat.not_lt_zero m)⟩
    | succ n ih =>
      intro hn
      obtain ⟨g1, g2, g3⟩ := ih (by omega)
      rw [rLeaveN_succ]
      unfold rLeaveStep
      have hm := many_iff hs hl hok n
      by_cases hc : lessF (bitsL n) (rLeaveN s l n) = true ∧ 0 < (rAll s l n).2
      · rw [if_pos hc]
        refine ⟨⟨n, by omega, rfl⟩, hm.1 hc.2, fun m hmn hp => ?_⟩
        rcases Nat.lt_succ_iff_lt_or_eq.1 hmn with h | rfl
        · cases hh : lessF (bitsL m) (bitsL n)
          · rfl
          · have := g3 m h hp
            rw [less_trans hh hc.1] at this; cases this
        · exact less_irr _
      · rw [if_neg hc]
        refine ⟨g1, g2, fun m hmn hp => ?_⟩
        rcases Nat.lt_succ_iff_lt_or_eq.1 hmn with h | rfl
        · exact g3 m h hp
        · cases hh : lessF (bitsL m) (rLeaveN s l m)
          · rfl
          · exact absurd ⟨hh, hm.2 hp⟩ hc
  obtain ⟨g1, g2, g3⟩ := key (2 ^ l.length) (Nat.le_refl _)
  exact fold_least hl g1 g2 g3
theorem leaveL_least {s : Sn} {l : List (Int × Int)} (hl : l.length ≤ 16) : Least (fitsP s l) l.length (leaveL s l) := by
  unfold leaveL
  rcases h : ((List.range (l.length + 1)).findSome? fun (k : Nat) => srch (fitsP s l) l.length k [] 0) with _ | r
  · have hn := search_none (by omega) h (bitsL_inc (n := 2 ^ l.length - 1) (m := l.length) (by have := Nat.two_pow_pos l.length; omega))
    have hfull : fitsP s l (bitsL ((2 ^ l.length - 1 : Nat) : Int)) = true := by
      unfold fitsP
      rw [full_fits (fun i hi => bits_full hl hi) l.length (Nat.le_refl _)]
      rfl
    rw [hfull] at hn; cases hn
  · exact search_some (by omega) h
theorem leave_eq {s : Sn} (hs : VS s) {l : List (Int × Int)} (hl : l.length ≤ 16) (hok : l.all (rdOk s) = true) : leaveL s l = rLeave s l := (leaveL_least hl).uniq (rLeave_least hs hl hok)
/-- A slice that is returned, laid open. -/
theorem CnX.sliced {P : Program} {f : FuncId} {args : Array Value} {w : World} {g : Value → Value} {xs : List Int} (h : CnX P f args w [] g (fun v w' => RdI w' v xs)) :
    CnX P f args w [] (fun x : Option Addr × Nat => g (slV xs.length x)) (fun x w' => RdI w' (slV xs.length x) xs) :=
  CnX.of (h.out.mono fun e w' he => by
    obtain ⟨v, rfl, hf, hr⟩ := he
    obtain ⟨hl, ad, cap, rfl, h2⟩ := hr
    exact ⟨(ad, cap), rfl, hf, ⟨hl, ad, cap, rfl, h2⟩⟩)
theorem leave_v (s : Sn) (hn : NB s) (l : List (Int × Int)) (hl : (l.length : Int) ≤ 9000000000000000000) {ll : List Int} {f : Int} (hE : leaveE s l = (ll, f)) (sl lv : Value) (w : World) (hr : RdI w sl s.weights) (hR : RdR w lv l) :
    CnX Try.prog 13 #[spV s sl, lv] w [] (fun x : Option Addr × Nat => .tuple #[slV ll.length x, vi f]) (fun x w' => RdI w' (slV ll.length x) ll) := by
  have h := leave_e s hn l hl sl lv w hr hR
  rw [hE] at h; exact h.sliced
theorem narrow_v (s : Sn) (hn : NB s) (l : List (Int × Int)) (hl : (l.length : Int) ≤ 9000000000000000000) {r : Int × Int} {f : Int} (hE : narrowE s l = (r, f)) (sl lv : Value) (w : World) (hr : RdI w sl s.weights) (hR : RdR w lv l) :
    CnV Try.prog 8 #[spV s sl, lv] w (.tuple #[rV r, vi f]) := by
  have h := narrow_e s hn l hl sl lv w hr hR
  rw [hE] at h; exact h
end Go.Sp
