/-
  The loads, Verdicts.
-/
import Derived.Test.YtaoohjefbfmhnaaG
set_option linter.unusedVariables false
set_option linter.unusedSimpArgs false
set_option linter.deprecated false
namespace Go.Sp
open Go Go.Proofs
def rangedF (s : Sn) (r : Int × Int) : Int := if ¬ chkF s = 0 then chkF s else if emptyF r = true ∨ ¬ (1 ≤ r.1 ∧ r.1 ≤ 2000) ∨ ¬ (1 ≤ r.2 ∧ r.2 ≤ 2000) then 2 else 0
theorem KnS.mem {H : List (Nat × Obj)} {S : List Nat} {w1 : World} (h : KnS H S w1 w1) : ∀ p ∈ H, p.1 ∈ S := fun p hp =>
  (h.own p.1 (List.mem_map.2 ⟨p, hp, rfl⟩)).resolve_right (fun hh => by
    have := h.kn p hp
    rw [Array.getElem?_eq_none hh] at this; cases this)
def vdF (s : Sn) (r : Int × Int) (k : Nat) : Int := if meetF (floF s k) r = r then 1 else if emptyF (meetF (floF s k) r) = true then 2 else 3
def verdictsL (s : Sn) (r : Int × Int) (n : Nat) : List Int := (List.range n).map (vdF s r)
def verdictsE (s : Sn) (r : Int × Int) : List Int × Int := if ¬ rangedF s r = 0 then ([], rangedF s r) else (verdictsL s r (s.weights.length + 1), 0)
theorem rangedF_0 {s : Sn} {r : Int × Int} (h : rangedF s r = 0) : VS s ∧ (r.1 ≤ r.2) ∧ (1 ≤ r.1 ∧ r.1 ≤ 2000) ∧ (1 ≤ r.2 ∧ r.2 ≤ 2000) := by
  unfold rangedF emptyF at h
  split at h
  · exact absurd h ‹_›
  · split at h
    · cases h
    · rename_i h1 h2
      simp only [decide_eq_true_eq] at h2
      exact ⟨chkF_valid.1 (by omega), by omega, by omega, by omega⟩
theorem vdF_1 {s : Sn} {r : Int × Int} {k : Nat} (h : max (floF s k).1 r.1 = r.1 ∧ min (floF s k).2 r.2 = r.2) : vdF s r k = 1 := by
  unfold vdF meetF; rw [if_pos (by rw [h.1, h.2])]
theorem vdF_2 {s : Sn} {r : Int × Int} {k : Nat} (h : ¬ (max (floF s k).1 r.1 = r.1 ∧ min (floF s k).2 r.2 = r.2)) (h2 : min (floF s k).2 r.2 < max (floF s k).1 r.1) : vdF s r k = 2 := by
  unfold vdF meetF emptyF; rw [if_neg (fun e => h ⟨congrArg Prod.fst e, congrArg Prod.snd e⟩), if_pos (by simpa using h2)]
theorem vdF_3 {s : Sn} {r : Int × Int} {k : Nat} (h : ¬ (max (floF s k).1 r.1 = r.1 ∧ min (floF s k).2 r.2 = r.2)) (h2 : max (floF s k).1 r.1 ≤ min (floF s k).2 r.2) : vdF s r k = 3 := by
  unfold vdF meetF emptyF; rw [if_neg (fun e => h ⟨congrArg Prod.fst e, congrArg Prod.snd e⟩), if_neg (by simpa using h2)]
theorem verdictsL_succ (s : Sn) (r : Int × Int) (n : Nat) : verdictsL s r (n + 1) = verdictsL s r n ++ [vdF s r n] := by simp [verdictsL, List.range_succ]
theorem verdictsL_len (s : Sn) (r : Int × Int) (n : Nat) : (verdictsL s r n).length = n := by simp [verdictsL]
/-- The slice out of a loop that appends: none yet, or a block of its own. -/
abbrev OutS := Nat × Option (Nat × Nat × List Value)
def outV' : OutS → Value
  | (_, none) => .slice none 0 0
  | (n, some (b, cap, _)) => .slice (some ⟨b, 0, none⟩) n cap
def outOk : OutS → Prop
  | (n, none) => n = 0
  | (n, some (_, cap, junk)) => n ≤ cap ∧ junk.length = cap - n
def outH (f : Nat → List Int) (bo : Nat) (H : List (Nat × Obj)) : OutS → List (Nat × Obj)
  | (_, none) => (bo, .cells #[.slice none 0 0] 22 (0, 0)) :: H
  | (n, some (b, cap, junk)) => (b, .cells ((f n).map vi ++ junk).toArray 3 (0, 0)) :: (bo, .cells #[.slice (some ⟨b, 0, none⟩) n cap] 22 (0, 0)) :: H
theorem HG.sw {bs : List (World × List Nat)} {p q : Nat × Obj} {H : List (Nat × Obj)} {w : World} (h : HG bs (p :: q :: H) w) : HG bs (q :: p :: H) w := h.perm (List.Perm.swap _ _ _)
end Go.Sp
