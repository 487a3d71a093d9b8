/-
  Verdicts, Cover, ProveCover and the reference's answers, as values that stand behind calls.
-/
import Derived.Test.YtdmnmhkonfadhaaFea
set_option linter.unusedVariables false
set_option linter.unusedSimpArgs false
set_option linter.deprecated false
namespace Go.Sp
open Go Go.Proofs
theorem verdicts_v (s : Sn) (hn : NB s) (r : Int × Int) {ll : List Int} {e : Int} (hE : verdictsE s r = (ll, e)) (sl : Value) (w : World) (hr : RdI w sl s.weights) :
    CnX Try.prog 50 #[spV s sl, rV r] w [] (fun x : Option Addr × Nat => .tuple #[slV ll.length x, vi e]) (fun x w' => RdI w' (slV ll.length x) ll) := by
  have h := verdicts_e s hn r sl w hr
  rw [hE] at h; exact h.sliced
theorem cover_v (s : Sn) (hn : NB s) (r : Int × Int) {ll : List Int} {e : Int} (hE : coverE s r = (ll, e)) (sl : Value) (w : World) (hr : RdI w sl s.weights) :
    CnX Try.prog 51 #[spV s sl, rV r] w [] (fun x : Option Addr × Nat => .tuple #[slV ll.length x, vi e]) (fun x w' => RdI w' (slV ll.length x) ll) := by
  have h := cover_e s hn r sl w hr
  rw [hE] at h; exact h.sliced
theorem rcover_v (s : Sn) (hs : VS s) (r : Int × Int) (hr1 : 1 ≤ r.1 ∧ r.1 ≤ 2000) (hr2 : r.2 ≤ 2000) {ll : List Int} {b : Bool} (hE : rCover s r = (ll, b)) (sl : Value) (w : World) (hr : RdI w sl s.weights) :
    CnX Try.prog 57 #[spV s sl, rV r] w [] (fun x : Option Addr × Nat => .tuple #[slV ll.length x, .bool b]) (fun x w' => RdI w' (slV ll.length x) ll) := by
  have h := rcover_c s hs r hr1 hr2 sl w hr
  rw [hE] at h; exact h.sliced
theorem prove_v (s : Sn) (hn : NB s) (r : Int × Int) (l : List Int) (hl : (l.length : Int) ≤ 9000000000000000000) (many : Int) {b : Bool} (hE : proveF s r l many = b) (sl lv : Value) (w : World) (hr : RdI w sl s.weights) (hL : RdI w lv l) :
    CnV Try.prog 52 #[spV s sl, rV r, lv, vi many] w (.bool b) := by
  subst hE; exact prove_c s hn r l hl many sl lv w hr hL
theorem isl_v (s : Sn) (hn : NB s) (l : List Int) (hl : (l.length : Int) ≤ 9000000000000000000) {b : Bool} (hE : isLoadsF s l = b) (sl lv : Value) (w : World) (hr : RdI w sl s.weights) (hL : RdI w lv l) :
    CnV Try.prog 54 #[spV s sl, lv] w (.bool b) := by
  subst hE; exact risloads_c s hn l hl sl lv w hr hL
theorem rcov_v (s : Sn) (hs : VS s) (r : Int × Int) (hr1 : 1 ≤ r.1 ∧ r.1 ≤ 2000) (hr2 : r.2 ≤ 2000) (l : List Int) (hl : (l.length : Int) ≤ 9000000000000000000) (hlo : isLoadsF s l = true) {b : Bool} (hE : rCovers s r l = b) (sl lv : Value) (w : World) (hr : RdI w sl s.weights) (hL : RdI w lv l) :
    CnV Try.prog 55 #[spV s sl, rV r, lv] w (.bool b) := by
  subst hE
  unfold isLoadsF at hlo
  exact rcovers_c s hs r hr1 hr2 l hl (allIn_iff.1 (Bool.and_eq_true_iff.1 hlo).1) sl lv w hr hL
theorem RdI.opens {w : World} {xs : List Int} {x : Option Addr × Nat} (h : RdI w (slV xs.length x) xs) : ∃ b o, (0 < xs.length → x.1 = some ⟨b, o, none⟩) ∧ ∀ w', Fr [] w w' → ∀ i, i < xs.length → w'.cell? ⟨b, o + i, none⟩ = some (vi (xs.getD i 0)) := by
  obtain ⟨ad, cap, b, o, e, had, hcell⟩ := h.open
  injection e with e1 e2 e3
  subst e1
  exact ⟨b, o, had, hcell⟩
theorem list_v (xs : List Int) (hx : xs.length ≤ 1000) (sl : Value) (w : World) (hr : RdI w sl xs) : CnX Try.prog 53 #[sl] w [] (slV xs.length) (fun x w' => RdI w' (slV xs.length x) xs) :=
  (list_c xs hx sl w hr).imp id (fun _ => rfl) (fun _ h => h) (fun _ _ _ h => h.1)
theorem prove_cases {s : Sn} (hs : VS s) {r : Int × Int} (h : rangedF s r = 0) {l : List Int} {many : Int} {pb : Bool} (hp : proveF s r l many = pb) : (isLoadsF s l = false ∧ pb = false) ∨ (isLoadsF s l = true ∧ many < l.length ∧ pb = false) ∨ (isLoadsF s l = true ∧ (l.length : Int) ≤ many ∧ rCovers s r l = false ∧ pb = false) ∨ (isLoadsF s l = true ∧ (l.length : Int) ≤ many ∧ rCovers s r l = true ∧ pb = true) := by
  subst hp
  rw [prove_eq hs h]
  cases isLoadsF s l
  · exact .inl ⟨rfl, rfl⟩
  · by_cases hl : (l.length : Int) ≤ many
    · rw [decide_eq_true hl]
      cases rCovers s r l
      · exact .inr (.inr (.inl ⟨rfl, hl, rfl, rfl⟩))
      · exact .inr (.inr (.inr ⟨rfl, hl, rfl, rfl⟩))
    · rw [decide_eq_false hl]
      exact .inr (.inl ⟨rfl, by omega, rfl⟩)
theorem verd_get {s : Sn} {r : Int × Int} {n i : Nat} (hi : i < n) : (verdictsL s r n).getD i 0 = vdF s r i := by
  unfold verdictsL
  rw [List.getD_eq_getElem?_getD, List.getElem?_map, List.getElem?_range hi]; rfl
end Go.Sp
