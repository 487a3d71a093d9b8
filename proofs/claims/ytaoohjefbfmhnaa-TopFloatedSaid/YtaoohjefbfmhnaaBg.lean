/-
  Literals of structs, whatever fields are named.
-/
import Derived.Test.YtaoohjefbfmhnaaA
set_option linter.unusedVariables false
set_option linter.unusedSimpArgs false
set_option linter.deprecated false
namespace Go.Sp
open Go Go.Proofs
inductive PreL : List Value → List Value → List Value → Prop
  | nil {zs : List Value} : PreL [] zs zs
  | cons {v x : Value} {c zs zs' : List Value} : PreL c zs zs' → PreL (v :: c) (x :: zs) (v :: zs')
inductive SetL : List Value → Nat → List Value → List Value → Prop
  | here {c zs zs' : List Value} : PreL c zs zs' → SetL zs 0 c zs'
  | there {x : Value} {zs zs' c : List Value} {o : Nat} : SetL zs o c zs' → SetL (x :: zs) (o + 1) c (x :: zs')
theorem PreL.eq {c zs zs' : List Value} (h : PreL c zs zs') : c.length ≤ zs.length ∧ zs' = c ++ zs.drop c.length := by
  induction h with
  | nil => simp
  | cons _ ih => exact ⟨by simpa using ih.1, by simpa using ih.2⟩
theorem SetL.eq {c zs zs' : List Value} {o : Nat} (h : SetL zs o c zs') : o + c.length ≤ zs.length ∧ zs' = zs.take o ++ c ++ zs.drop (o + c.length) := by
  induction h with
  | here h => exact ⟨by have := h.eq.1; omega, by have := h.eq.2; simpa using this⟩
  | there _ ih => exact ⟨by have := ih.1; simp; omega, by rw [ih.2]; simp [Nat.add_right_comm]⟩
inductive FL (F : List (Nat × Value)) (pl : List (Nat × Nat)) : List Value → List (Nat × Operand) → List Value → Prop
  | nil {zs : List Value} : FL F pl zs [] zs
  | cons {zs zs' out c : List Value} {i o n : Nat} {x : Operand} {v : Value} {rest : List (Nat × Operand)} : pl[i]? = some (o, n) → evalO F x = some v → v.cells = c.toArray → c.length = n → SetL zs o c zs' → FL F pl zs' rest out → FL F pl zs ((i, x) :: rest) out
theorem foldl_set (c : List Value) : ∀ (o k : Nat) (cells : List Value), o + k + c.length ≤ cells.length →
    (c.zipIdx k).foldl (fun (cs : Array Value) (p : Value × Nat) => cs.setIfInBounds (o + p.2) p.1) cells.toArray = (cells.take (o + k) ++ c ++ cells.drop (o + k + c.length)).toArray := by
  induction c with
  | nil => intro o k cells h; simp
  | cons x c ih =>
    intro o k cells h
    simp only [List.length_cons] at h
    rw [List.zipIdx_cons, List.foldl_cons]
    have e : cells.toArray.setIfInBounds (o + k) x = (cells.set (o + k) x).toArray := by simp
    simp only [e]
    rw [ih o (k + 1) (cells.set (o + k) x) (by simp; omega)]
    congr 1
    obtain ⟨A, y, B, rfl, hA⟩ : ∃ A y B, cells = A ++ y :: B ∧ A.length = o + k :=
      ⟨cells.take (o + k), cells[o + k]'(by omega), cells.drop (o + k + 1), by rw [← List.drop_eq_getElem_cons, List.take_append_drop], by simp; omega⟩
    rw [← hA]
    have e1 : (A ++ y :: B).set A.length x = A ++ x :: B := by simp
    have e2 : A ++ x :: B = (A ++ [x]) ++ B := by simp
    rw [e1, show o + (k + 1) = (A ++ [x]).length by simp; omega, e2, List.take_left' rfl, ← List.drop_drop, List.drop_left' rfl]
    rw [show A.length + (x :: c).length = A.length + (1 + c.length) by simp; omega, ← List.drop_drop (j := A.length), List.drop_left' rfl, Nat.add_comm 1]
    simp
theorem FL.fill {F : List (Nat × Value)} {pl : List (Nat × Nat)} {zs out : List Value} {ps : List (Nat × Operand)} (h : FL F pl zs ps out) {N : NN} {a : Act} (ht : TF N F a) :
    Instr.fill (pl[·]?) zs.toArray (ps.map fun (i, x) => (i, a.eval x)) = some out.toArray := by
  induction h with
  | nil => rfl
  | @cons zs zs' out c i o n x v rest hp hx hv hn hs _ ih =>
    obtain ⟨hb, rfl⟩ := hs.eq
    have := foldl_set c o 0 zs (by simpa using hb)
    simp only [Nat.add_zero] at this
    simp only [List.map_cons, Instr.fill, hp, ht.eval hx, hv, List.size_toArray]
    rw [if_neg (by subst hn; simp; omega), ← ih, ← this]
    congr 1
    rw [Array.zipIdx_toArray, List.foldl_toArray]
theorem y_build_g {P : Program} {F : List (Nat × Value)} {bs : List (World × List Nat)} {H : List (Nat × Obj)} {d : Option Tmp} {ty : TypeId} {pos : String} {after : Array Edge} {g : Option (Nat × Bool)} {t : TypeId} {pl : List (Nat × Nat)} {n : Nat} {zs out : List Value} [TyPlaces P t pl] [TyAgg P t n zs.toArray] {ps : List (Nat × Operand)} (h : FL F pl zs ps out) :
    OpY P ⟨d, .build t ps.toArray, ty, pos, after, g⟩ F bs H (.agg out.toArray) := by
  unfold OpY
  intro N a w ht hw
  have := build_run (P := P) (t := t) (parts := (ps.map fun (i, x) => (i, a.eval x)).toArray) (h.fill ht) w
  simp [execOp, this, Result.andThen]
end Go.Sp
