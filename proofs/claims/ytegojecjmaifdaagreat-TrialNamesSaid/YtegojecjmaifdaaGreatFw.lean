
/-
  A frame for walks, over any program: what is known of the temporaries and of the heap is kept as lists of facts, each operation has one law.
-/
import Derived.WalkKit
import Derived.OrdersIn
import Derived.TacticsIn
import Derived.RangeFuncLeaves
import Derived.Deep.AppendSrc
import Derived.Laws.AppendOwn
import Derived.Laws.StructEq
import Derived.WalkSpells
import Derived.Scope
import Derived.RangeFuncRecord
import Derived.RangeFuncNested
set_option linter.unusedVariables false
set_option linter.unusedSimpArgs false
namespace Go.Sp
open Go
theorem beq_no {a b : Nat} (h : ¬ a = b) : Nat.beq a b = false := by
  cases e : Nat.beq a b
  · rfl
  · exact absurd (Nat.eq_of_beq_eq_true e) h
def look : List (Nat × Value) → Nat → Option Value
  | [], _ => none
  | (k, v) :: F, n => bif Nat.beq k n then some v else look F n
/-- How many temporaries there are, and the marks that wait for the end. -/
structure NN where
  n : Nat
  ds : List Deferred
structure TF (N : NN) (F : List (Nat × Value)) (a : Act) : Prop where
  defers : a.defers = N.ds
  size : a.tmps.size = N.n
  tmp : ∀ k v, look F k = some v → a.tmps[k]? = some v
def evalO (F : List (Nat × Value)) : Operand → Option Value
  | .tmp t => look F t
  | .const v => some v
  | .global g => some (.pointer (some ⟨g, 0, none⟩))
  | .func f => some (.func (.func f) #[] #[])
theorem TF.eval {N : NN} {F : List (Nat × Value)} {a : Act} (h : TF N F a) {x : Operand} {v : Value} (e : evalO F x = some v) : a.eval x = v := by
  cases x with
  | tmp t => simp only [evalO] at e; simp [Act.eval, h.tmp t v e]
  | const c => simpa [evalO, Act.eval] using e
  | global g => simpa [evalO, Act.eval] using e
  | func f => simpa [evalO, Act.eval] using e
theorem TF.put {N : NN} {F : List (Nat × Value)} {a : Act} (h : TF N F a) {d : Nat} (hd : Nat.blt d N.n = true) (v : Value) : TF N ((d, v) :: F) (a.put (some d) v) := by
  have hd' : d < N.n := by simpa using hd
  refine ⟨h.defers, by simp [Act.put, h.size], fun k u hk => ?_⟩
  simp only [look] at hk
  by_cases e : d = k
  · subst e
    simp at hk
    subst hk
    simp [Act.put, h.size, hd']
  · have e' : Nat.beq d k = false := beq_no e
    rw [e'] at hk
    simp only [cond_false] at hk
    simp [Act.put, Array.getElem?_setIfInBounds_ne e, h.tmp k u hk]
/-- Facts that say no more. -/
def Sub (F F' : List (Nat × Value)) : Prop := ∀ k v, look F' k = some v → look F k = some v
theorem Sub.nil {F : List (Nat × Value)} : Sub F [] := fun _ _ h => by simp [look] at h
theorem Sub.cons {F F' : List (Nat × Value)} {k : Nat} {v : Value} (h : look F k = some v) (hs : Sub F F') : Sub F ((k, v) :: F') := fun n u hn => by
  simp only [look] at hn
  by_cases e : k = n
  · subst e; simp at hn; rw [← hn]; exact h
  · have e' : Nat.beq k n = false := beq_no e
    rw [e'] at hn; exact hs n u hn
theorem TF.sub {N : NN} {F F' : List (Nat × Value)} {a : Act} (h : TF N F a) (hs : Sub F F') : TF N F' a := ⟨h.defers, h.size, fun k v e => h.tmp k v (hs k v e)⟩
/-- w' is w but for new blocks and for the blocks S. -/
structure Fr (S : List Nat) (w w' : World) : Prop where
  os : w'.os = w.os
  tape : w'.tape = w.tape
  output : w'.output = w.output
  size : w.heap.size ≤ w'.heap.size
  block : ∀ k, k < w.heap.size → k ∉ S → w'.heap[k]? = w.heap[k]?
/-- No cell of the object is frozen. -/
def unfz : Obj → Bool
  | .cells _ _ f => f.1 == 0 && f.2 == 0
  | _ => true
theorem unfz_at {w : World} {b : Nat} {o : Obj} (h : w.heap[b]? = some o) (hz : unfz o = true) {a : Addr} (ha : a.block = b) : w.frozen? a = false := by
  unfold World.frozen?
  rw [ha, h]
  cases o with
  | cells c t f =>
    obtain ⟨lo, hi⟩ := f
    simp only [unfz, Bool.and_eq_true, beq_iff_eq] at hz
    obtain ⟨rfl, rfl⟩ := hz
    simp
  | _ => rfl
theorem Fr.refl (S : List Nat) (w : World) : Fr S w w := ⟨rfl, rfl, rfl, Nat.le_refl _, fun _ _ _ => rfl⟩
theorem Fr.trans {S S' : List Nat} {a b c : World} (h : Fr S a b) (k : Fr S' b c) (hS : ∀ x ∈ S', x ∈ S ∨ a.heap.size ≤ x) : Fr S a c :=
  ⟨k.os.trans h.os, k.tape.trans h.tape, k.output.trans h.output, Nat.le_trans h.size k.size, fun i hi hn => by
    rw [k.block i (Nat.lt_of_lt_of_le hi h.size) (fun hx => (hS i hx).elim hn (fun e => by omega)), h.block i hi hn]⟩
theorem Fr.mono {S S' : List Nat} {a b : World} (h : Fr S a b) (hS : ∀ x ∈ S, x ∈ S' ∨ a.heap.size ≤ x) : Fr S' a b :=
  ⟨h.os, h.tape, h.output, h.size, fun i hi hn => h.block i hi (fun hx => (hS i hx).elim hn (fun e => by omega))⟩
theorem Fr.below {w w' : World} (h : Fr [] w w') : RowKit.Below w.heap.size w w' := ⟨h.os, h.tape, h.output, h.size, fun k hk => h.block k hk (by simp)⟩
theorem Fr.cell {S : List Nat} {w w' : World} (h : Fr S w w') {p : Addr} (hp : p.block ∉ S) {v : Value} (hc : w.cell? p = some v) : w'.cell? p = some v := by
  have hlt := World.block_lt_of_cell? w p hc
  rw [← hc]
  exact World.cell?_of_block (w := w) (h.block p.block hlt hp)
/-- The heap: bases (worlds since which nothing but the named blocks has turned) and blocks known whole. -/
structure HG (bs : List (World × List Nat)) (H : List (Nat × Obj)) (w : World) : Prop where
  base : ∀ β ∈ bs, Fr β.2 β.1 w
  heap : ∀ p ∈ H, w.heap[p.1]? = some p.2
  nodup : (H.map Prod.fst).Nodup
  own : ∀ p ∈ H, ∀ β ∈ bs, p.1 ∈ β.2 ∨ β.1.heap.size ≤ p.1
theorem HG.lt {bs : List (World × List Nat)} {H : List (Nat × Obj)} {w : World} (h : HG bs H w) {p : Nat × Obj} (hp : p ∈ H) : p.1 < w.heap.size := by
  have := h.heap p hp
  rcases Nat.lt_or_ge p.1 w.heap.size with h' | h'
  · exact h'
  · rw [Array.getElem?_eq_none h'] at this; cases this
theorem HG.drawn {bs : List (World × List Nat)} {H : List (Nat × Obj)} {w : World} (h : HG bs H w) (n : Nat) : HG bs H { w with drawn := n } :=
  ⟨fun β hβ => let f := h.base β hβ; ⟨f.os, f.tape, f.output, f.size, f.block⟩, h.heap, h.nodup, h.own⟩
theorem HG.alloc {bs : List (World × List Nat)} {H : List (Nat × Obj)} {w : World} (h : HG bs H w) (o : Obj) (hz : unfz o = true := by rfl) : HG bs ((w.heap.size, o) :: H) (w.alloc o) := by
  have hs : (w.alloc o).heap.size = w.heap.size + 1 := by simp
  refine ⟨fun β hβ => ?_, fun p hp => ?_, ?_, fun p hp β hβ => ?_⟩
  · have f := h.base β hβ
    exact ⟨f.os, f.tape, f.output, by have := f.size; omega, fun k hk hn => by rw [RowKit.Below.heap_alloc _ _ _ (Nat.lt_of_lt_of_le hk f.size)]; exact f.block k hk hn⟩
  · rcases List.mem_cons.1 hp with rfl | hp
    · show (w.heap.push o)[w.heap.size]? = some o
      simp
    · rw [RowKit.Below.heap_alloc _ _ _ (h.lt hp)]; exact h.heap p hp
  · simp only [List.map_cons, List.nodup_cons]
    refine ⟨fun hm => ?_, h.nodup⟩
    obtain ⟨p, hp, e⟩ := List.mem_map.1 hm
    have := h.lt hp
    omega
  · rcases List.mem_cons.1 hp with rfl | hp
    · exact .inr (h.base β hβ).size
    · exact h.own p hp β hβ
/-- A block's object is replaced. -/
inductive HU (b : Nat) (o o' : Obj) : List (Nat × Obj) → List (Nat × Obj) → Prop
  | head {H : List (Nat × Obj)} : HU b o o' ((b, o) :: H) ((b, o') :: H)
  | tail {p : Nat × Obj} {H H' : List (Nat × Obj)} : HU b o o' H H' → HU b o o' (p :: H) (p :: H')
theorem HU.keys {b : Nat} {o o' : Obj} {H H' : List (Nat × Obj)} (h : HU b o o' H H') : H'.map Prod.fst = H.map Prod.fst := by
  induction h with
  | head => rfl
  | tail _ ih => simp [ih]
theorem HU.mem {b : Nat} {o o' : Obj} {H H' : List (Nat × Obj)} (h : HU b o o' H H') : (b, o) ∈ H := by
  induction h with
  | head => exact List.mem_cons_self
  | tail _ ih => exact List.mem_cons_of_mem _ ih
theorem HU.old {b : Nat} {o o' : Obj} {H H' : List (Nat × Obj)} (h : HU b o o' H H') (hn : (H.map Prod.fst).Nodup) : ∀ p ∈ H', p = (b, o') ∨ (p ∈ H ∧ p.1 ≠ b) := by
  induction h with
  | @head H =>
    intro p hp
    rcases List.mem_cons.1 hp with rfl | hp
    · exact .inl rfl
    · refine .inr ⟨List.mem_cons_of_mem _ hp, fun e => ?_⟩
      simp only [List.map_cons, List.nodup_cons] at hn
      exact hn.1 (e ▸ List.mem_map.2 ⟨p, hp, rfl⟩)
  | @tail q H H' hu ih =>
    intro p hp
    simp only [List.map_cons, List.nodup_cons] at hn
    rcases List.mem_cons.1 hp with rfl | hp
    · exact .inr ⟨List.mem_cons_self, fun e => hn.1 (e ▸ List.mem_map.2 ⟨_, hu.mem, rfl⟩)⟩
    · rcases ih hn.2 p hp with e | ⟨e, e'⟩
      · exact .inl e
      · exact .inr ⟨List.mem_cons_of_mem _ e, e'⟩
/-- Membership, found by looking. -/
inductive HM (b : Nat) (o : Obj) : List (Nat × Obj) → Prop
  | head {H : List (Nat × Obj)} : HM b o ((b, o) :: H)
  | tail {p : Nat × Obj} {H : List (Nat × Obj)} : HM b o H → HM b o (p :: H)
theorem HM.mem {b : Nat} {o : Obj} {H : List (Nat × Obj)} (h : HM b o H) : (b, o) ∈ H := by
  induction h with
  | head => exact List.mem_cons_self
  | tail _ ih => exact List.mem_cons_of_mem _ ih
theorem HG.set {bs : List (World × List Nat)} {H H' : List (Nat × Obj)} {w w' : World} {b : Nat} {o o' : Obj} (h : HG bs H w) (hu : HU b o o' H H')
    (hw : w'.os = w.os ∧ w'.tape = w.tape ∧ w'.output = w.output ∧ w'.heap = w.heap.setIfInBounds b o') (hz : unfz o = true := by rfl) (hz' : unfz o' = true := by rfl) : HG bs H' w' := by
  obtain ⟨h1, h2, h3, h4⟩ := hw
  have hb := h.lt hu.mem
  have ne : ∀ k, k ≠ b → w'.heap[k]? = w.heap[k]? := fun k hk => by rw [h4, Array.getElem?_setIfInBounds_ne (Ne.symm hk)]
  refine ⟨fun β hβ => ?_, fun p hp => ?_, by rw [hu.keys]; exact h.nodup, fun p hp β hβ => ?_⟩
  · have f := h.base β hβ
    refine ⟨h1.trans f.os, h2.trans f.tape, h3.trans f.output, by rw [h4]; simpa using f.size, fun k hk hn => ?_⟩
    · rw [ne k, f.block k hk hn]
      rintro rfl
      rcases h.own _ hu.mem β hβ with e | e
      · exact hn e
      · simp only at e; omega
  · rcases hu.old h.nodup p hp with rfl | ⟨e, e'⟩
    · rw [h4]; simp only; rw [Array.getElem?_setIfInBounds]; simp [show b < w.heap.size from hb]
    · rw [ne _ e']; exact h.heap p e
  · have : p.1 ∈ H.map Prod.fst := by rw [← hu.keys]; exact List.mem_map.2 ⟨p, hp, rfl⟩
    obtain ⟨q, hq, e⟩ := List.mem_map.1 this
    rw [← e]; exact h.own q hq β hβ
/-- Another world behind a call: nothing has turned but S, of which nothing is known among H; new blocks are known. -/
theorem HG.call {bs : List (World × List Nat)} {H : List (Nat × Obj)} {w w' : World} (h : HG bs H w) (f : Fr [] w w') : HG bs H w' :=
  ⟨fun β hβ => (h.base β hβ).trans f (by simp), fun p hp => by rw [f.block p.1 (h.lt hp) (by simp)]; exact h.heap p hp, h.nodup, h.own⟩
theorem HG.add {bs : List (World × List Nat)} {H : List (Nat × Obj)} {w w' : World} (h : HG bs H w) (f : Fr [] w w') {b : Nat} {o : Obj} (hb : w.heap.size ≤ b) (ho : w'.heap[b]? = some o) : HG bs ((b, o) :: H) w' := by
  have h' := h.call f
  refine ⟨h'.base, fun p hp => ?_, ?_, fun p hp β hβ => ?_⟩
  · rcases List.mem_cons.1 hp with rfl | hp
    · exact ho
    · exact h'.heap p hp
  · simp only [List.map_cons, List.nodup_cons]
    refine ⟨fun hm => ?_, h.nodup⟩
    obtain ⟨p, hp, e⟩ := List.mem_map.1 hm
    have := h.lt hp
    omega
  · rcases List.mem_cons.1 hp with rfl | hp
    · exact .inr (Nat.le_trans (h.base β hβ).size hb)
    · exact h.own p hp β hβ
/-- Less is known. -/
theorem HG.sub {bs bs' : List (World × List Nat)} {H H' : List (Nat × Obj)} {w : World} (h : HG bs H w) (hb : ∀ β ∈ bs', β ∈ bs) (hH : H'.Sublist H) : HG bs' H' w :=
  ⟨fun β hβ => h.base β (hb β hβ), fun p hp => h.heap p (hH.subset hp), h.nodup.sublist (hH.map _), fun p hp β hβ => h.own p (hH.subset hp) β (hb β hβ)⟩
/-- The world at hand is a base from here on. -/
theorem HG.push {bs : List (World × List Nat)} {H : List (Nat × Obj)} {w : World} (h : HG bs H w) : HG ((w, H.map Prod.fst) :: bs) H w :=
  ⟨fun β hβ => by
    rcases List.mem_cons.1 hβ with rfl | hβ
    · exact Fr.refl _ _
    · exact h.base β hβ, h.heap, h.nodup, fun p hp β hβ => by
    rcases List.mem_cons.1 hβ with rfl | hβ
    · exact .inl (List.mem_map.2 ⟨p, hp, rfl⟩)
    · exact h.own p hp β hβ⟩
def lget : List Value → Nat → Option Value
  | [], _ => none
  | v :: _, 0 => some v
  | _ :: l, n + 1 => lget l n
theorem lget_eq (l : List Value) (n : Nat) : lget l n = l[n]? := by
  induction l generalizing n with
  | nil => simp [lget]
  | cons v l ih => cases n <;> simp [lget, ih]
def cellAt : Obj → Nat → Option Value
  | .cells ⟨l⟩ _ _, n => lget l n
  | _, _ => none
theorem cellAt_cell? {w : World} {b : Nat} {o : Obj} (h : w.heap[b]? = some o) {n : Nat} {v : Value} (hc : cellAt o n = some v) : w.cell? ⟨b, n, none⟩ = some v := by
  cases o with
  | cells c e f =>
    obtain ⟨l⟩ := c
    simp only [cellAt, lget_eq] at hc
    simp [World.cell?, h, hc]
  | _ => simp [cellAt] at hc
inductive CA (f : Nat → Option Value) : Nat → Nat → List Value → Prop
  | nil {o : Nat} : CA f o 0 []
  | cons {o n : Nat} {v : Value} {vs : List Value} : f o = some v → CA f (o + 1) n vs → CA f o (n + 1) (v :: vs)
theorem loadCellsFrom_run {P : Program} {w : World} {b o : Nat} {f : Nat → Option Value} (hf : ∀ n v, f n = some v → w.cell? ⟨b, n, none⟩ = some v) :
    ∀ (n i : Nat) (vs : List Value) (acc : Array Value), CA f (o + i) n vs → (loadCellsFrom ⟨b, o, none⟩ i n acc).run P w = .ok (acc ++ vs.toArray) w := by
  intro n
  induction n with
  | zero => intro i vs acc h; cases h; simp [loadCellsFrom, pure, Sem.run]
  | succ n ih =>
    intro i vs acc h
    cases h with
    | @cons _ _ v vs' hv hr =>
      have hc := hf _ _ hv
      have ha : (⟨b, o, none⟩ : Addr).add i = ⟨b, o + i, none⟩ := by
        unfold Addr.add; split
        · rename_i h0; subst h0; rfl
        · rfl
      simp only [loadCellsFrom, bind, load, Sem.bind, Sem.run, ha, hc]
      have := ih (i + 1) vs' (acc.push v) (by rw [← Nat.add_assoc]; exact hr)
      rw [this]
      simp
end Go.Sp
namespace Go.Sp
open Go
def plainD : TypeDesc → Bool
  | .struct _ | .array _ _ | .invalid | .named _ _ => false
  | _ => true
def aggD : TypeDesc → Bool
  | .struct _ | .array _ _ => true
  | _ => false
/-- A type of one cell, with its zero value. -/
class TyOne (P : Program) (t : TypeId) (z : outParam Value) : Prop where
  ty : ∃ d, P.underlying t = some d ∧ plainD d = true
  info : ∃ i, P.info? t = some i ∧ i.size = 1 ∧ i.zero = some z
  zc : z.cells = #[z]
/-- A struct or an array of n cells. -/
class TyAgg (P : Program) (t : TypeId) (n : outParam Nat) (zs : outParam (Array Value)) : Prop where
  ty : ∃ d, P.underlying t = some d ∧ aggD d = true
  info : ∃ i, P.info? t = some i ∧ i.size = n ∧ i.zero = some (.agg zs)
class TyField (P : Program) (s : TypeId) (i : Nat) (off : outParam Nat) : Prop where
  ty : ∃ fs f, P.underlying s = some (.struct fs) ∧ fs[i]? = some f ∧ f.offset = off ∧ ∃ k, (P.info? f.type).map (·.size) = some (k + 1)
class TySlice (P : Program) (t : TypeId) (e : outParam TypeId) (sz : outParam Nat) : Prop where
  ty : P.underlying t = some (.slice e)
  info : (P.info? e).map (·.size) = some sz
class TyArr (P : Program) (t : TypeId) (n : outParam Nat) (e : outParam TypeId) (sz : outParam Nat) : Prop where
  ty : P.underlying t = some (.array n e)
  info : (P.info? e).map (·.size) = some sz
class TyInt (P : Program) (t : TypeId) (k : outParam IntKind) : Prop where
  ty : P.underlying t = some (.int k)
class GoFn (P : Program) (g : FuncId) : Prop where
  fn : ∃ f, P.funcs[g]? = some f ∧ (f.name == "runtime.NumGoroutine") = false ∧ f.body.isNone = false
section
variable {P : Program}
theorem underlying_run {t : TypeId} {d : TypeDesc} (h : P.underlying t = some d) (w : World) : (underlying t).run P w = .ok d w := by
  simp [underlying, h]
theorem typeInfo_run {t : TypeId} {i : TypeInfo} (h : P.info? t = some i) (w : World) : (typeInfo t).run P w = .ok i w := by
  simp [typeInfo, h]
theorem sizeOf_run {t : TypeId} {n : Nat} (h : (P.info? t).map (·.size) = some n) (w : World) : (sizeOf t).run P w = .ok n w := by
  obtain ⟨i, hi, rfl⟩ := Option.map_eq_some_iff.1 h
  simp [sizeOf, typeInfo_run hi]
theorem isAgg_run {t : TypeId} {d : TypeDesc} (h : P.underlying t = some d) (w : World) : (isAgg t).run P w = .ok (aggD d) w := by
  simp only [isAgg, Sem.run_bind, underlying_run h, Result.andThen]
  cases d <;> simp [aggD]
theorem aggD_plain {d : TypeDesc} (h : plainD d = true) : aggD d = false := by cases d <;> simp_all [plainD, aggD]
theorem loadVar_one {t : TypeId} {z : Value} [h : TyOne P t z] {w : World} {a : Addr} {v : Value} (hc : w.cell? a = some v) : (loadVar t a).run P w = .ok v w := by
  obtain ⟨d, hd, hp⟩ := h.ty
  simp only [loadVar, Sem.run_bind, isAgg_run hd, Result.andThen, aggD_plain hp]
  simp [hc]
theorem loadVar_agg {t : TypeId} {n : Nat} {zs : Array Value} [h : TyAgg P t n zs] {w : World} {b o : Nat} {vs : List Value}
    (hc : CA (fun k => w.cell? ⟨b, k, none⟩) o n vs) : (loadVar t ⟨b, o, none⟩).run P w = .ok (.agg vs.toArray) w := by
  obtain ⟨d, hd, hp⟩ := h.ty
  obtain ⟨i, hi, hs, _⟩ := h.info
  simp only [loadVar, Sem.run_bind, isAgg_run hd, Result.andThen, hp, if_true]
  have hz : (sizeOf t).run P w = .ok n w := sizeOf_run (by simp [hi, hs]) w
  have := loadCellsFrom_run (P := P) (w := w) (b := b) (o := o) (f := fun k => w.cell? ⟨b, k, none⟩) (fun n v h => h) n 0 vs #[] (by simpa using hc)
  simp [hz, Result.andThen, loadCells, this]
theorem zeroValue_run {t : TypeId} {i : TypeInfo} {z : Value} (h : P.info? t = some i) (hz : i.zero = some z) (w : World) : (zeroValue t).run P w = .ok z w := by
  simp [zeroValue, typeInfo_run h, Result.andThen, hz]
end
theorem CA.cells {w : World} {b : Nat} {obj : Obj} (h : w.heap[b]? = some obj) {o n : Nat} {vs : List Value} (hc : CA (cellAt obj) o n vs) : CA (fun k => w.cell? ⟨b, k, none⟩) o n vs := by
  induction hc with
  | nil => exact .nil
  | cons hv _ ih => exact .cons (cellAt_cell? h hv) ih
theorem CA_list (l : List Value) (t : TypeId) (f : Nat × Nat) : ∀ (k : Nat) (vs pre : List Value), l = pre ++ vs → pre.length = k → CA (cellAt (.cells ⟨l⟩ t f)) k vs.length vs
  | _, [], _, _, _ => .nil
  | k, v :: vs, pre, hl, hk => .cons (by subst hl; subst hk; simp [cellAt, lget_eq]) (CA_list l t f (k + 1) vs (pre ++ [v]) (by simp [hl]) (by simp [hk]))
theorem CA_whole {c : Array Value} {t : TypeId} {f : Nat × Nat} {n : Nat} (h : c.size = n) : CA (cellAt (.cells c t f)) 0 n c.toList := by
  obtain ⟨l⟩ := c
  subst h
  exact CA_list l t f 0 l [] rfl rfl
def OpY (P : Program) (o : Oper) (F : List (Nat × Value)) (bs : List (World × List Nat)) (H : List (Nat × Obj)) (v : Value) : Prop :=
  ∀ N a w, TF N F a → HG bs H w → (execOp a.eval o).run P w = .ok (.value v) w
section
variable {P : Program} {F : List (Nat × Value)} {bs : List (World × List Nat)} {H : List (Nat × Obj)}
  {d : Option Tmp} {ty : TypeId} {pos : String} {after : Array Edge} {g : Option (Nat × Bool)}
theorem y_move {x : Operand} {v : Value} (h : evalO F x = some v) : OpY P ⟨d, .move x, ty, pos, after, g⟩ F bs H v := fun N a w ht _ => by
  simp [execOp, ht.eval h]
theorem y_assign {x : Operand} {v : Value} (h : evalO F x = some v) : OpY P ⟨d, .assign x, ty, pos, after, g⟩ F bs H v := fun N a w ht _ => by
  simp [execOp, ht.eval h]
theorem y_pick_t {c x y : Operand} {v : Value} (hc : evalO F c = some (.bool true)) (h : evalO F x = some v) : OpY P ⟨d, .pick c x y, ty, pos, after, g⟩ F bs H v := fun N a w ht _ => by
  simp [execOp, ht.eval h, ht.eval hc, asBool]
theorem y_pick_f {c x y : Operand} {v : Value} (hc : evalO F c = some (.bool false)) (h : evalO F y = some v) : OpY P ⟨d, .pick c x y, ty, pos, after, g⟩ F bs H v := fun N a w ht _ => by
  simp [execOp, ht.eval h, ht.eval hc, asBool]
theorem y_not {x : Operand} {b : Bool} {t : TypeId} (h : evalO F x = some (.bool b)) : OpY P ⟨d, .unOp .not t x, ty, pos, after, g⟩ F bs H (.bool (!b)) := fun N a w ht _ => by
  simp [execOp, ht.eval h, Op.unary]
theorem y_not_dec {x : Operand} {p : Prop} [Decidable p] {t : TypeId} (h : evalO F x = some (.bool (decide p))) : OpY P ⟨d, .unOp .not t x, ty, pos, after, g⟩ F bs H (.bool (decide (¬ p))) := by
  rw [decide_not]; exact y_not h
theorem y_nil {x : Operand} {p : Addr} (h : evalO F x = some (.pointer (some p))) : OpY P ⟨d, .nilCheck x, ty, pos, after, g⟩ F bs H (.pointer (some p)) := fun N a w ht _ => by
  simp [execOp, ht.eval h]
theorem y_field {x : Operand} {b o : Nat} {s : TypeId} {i off : Nat} [hf : TyField P s i off] (h : evalO F x = some (.pointer (some ⟨b, o, none⟩))) :
    OpY P ⟨d, .fieldAddr s x i, ty, pos, after, g⟩ F bs H (.pointer (some ⟨b, o + off, none⟩)) := fun N a w ht _ => by
  obtain ⟨fs, f, hu, hfi, ho, k, hk⟩ := hf.ty
  have ha : (⟨b, o, none⟩ : Addr).add off = ⟨b, o + off, none⟩ := by
    unfold Addr.add; split
    · rename_i h0; subst h0; rfl
    · rfl
  simp [execOp, Instr.fieldAt, ht.eval h, underlying_run hu, hfi, Result.andThen, Instr.sureAddr, fieldPlace, sizeOf_run hk, ho, ha]
theorem y_load1 {x : Operand} {b o : Nat} {t : TypeId} {z : Value} [TyOne P t z] {obj : Obj} {v : Value} (h : evalO F x = some (.pointer (some ⟨b, o, none⟩)))
    (hm : HM b obj H) (hc : cellAt obj o = some v) : OpY P ⟨d, .load t x, ty, pos, after, g⟩ F bs H v := fun N a w ht hw => by
  simp [execOp, Instr.loadAt, Instr.sureAddr, ht.eval h, loadVar_one (cellAt_cell? (hw.heap _ hm.mem) hc), Result.andThen]
theorem y_loadN {x : Operand} {b o : Nat} {t : TypeId} {n : Nat} {zs : Array Value} [TyAgg P t n zs] {obj : Obj} {vs : List Value} (h : evalO F x = some (.pointer (some ⟨b, o, none⟩)))
    (hm : HM b obj H) (hc : CA (cellAt obj) o n vs) : OpY P ⟨d, .load t x, ty, pos, after, g⟩ F bs H (.agg vs.toArray) := fun N a w ht hw => by
  simp [execOp, Instr.loadAt, Instr.sureAddr, ht.eval h, loadVar_agg (hc.cells (hw.heap _ hm.mem)), Result.andThen]
theorem y_loadW {x : Operand} {b : Nat} {t : TypeId} {n : Nat} {zs : Array Value} [TyAgg P t n zs] {c : Array Value} {e : TypeId} {f : Nat × Nat} (h : evalO F x = some (.pointer (some ⟨b, 0, none⟩)))
    (hm : HM b (.cells c e f) H) (hn : c.size = n) : OpY P ⟨d, .load t x, ty, pos, after, g⟩ F bs H (.agg c) := by
  have := y_loadN (P := P) (F := F) (bs := bs) (H := H) (d := d) (ty := ty) (pos := pos) (after := after) (g := g) (t := t) h hm (CA_whole (t := e) (f := f) hn)
  simpa using this
theorem y_load1o {x : Operand} {p : Addr} {t : TypeId} {z : Value} [TyOne P t z] {v : Value} (h : evalO F x = some (.pointer (some p)))
    (hc : ∀ w, HG bs H w → w.cell? p = some v) : OpY P ⟨d, .load t x, ty, pos, after, g⟩ F bs H v := fun N a w ht hw => by
  simp [execOp, Instr.loadAt, Instr.sureAddr, ht.eval h, loadVar_one (hc w hw), Result.andThen]
theorem y_loadNo {x : Operand} {b o : Nat} {t : TypeId} {n : Nat} {zs : Array Value} [TyAgg P t n zs] {vs : List Value} (h : evalO F x = some (.pointer (some ⟨b, o, none⟩)))
    (hc : ∀ w, HG bs H w → CA (fun k => w.cell? ⟨b, k, none⟩) o n vs) : OpY P ⟨d, .load t x, ty, pos, after, g⟩ F bs H (.agg vs.toArray) := fun N a w ht hw => by
  simp [execOp, Instr.loadAt, Instr.sureAddr, ht.eval h, loadVar_agg (hc w hw), Result.andThen]
theorem y_index {x ix : Operand} {b o len cap : Nat} {i : Int} {k : IntKind} {t e : TypeId} {sz : Nat} {ad : Option Addr} [hs : TySlice P t e sz] (h : evalO F x = some (.slice ad len cap))
    (hi : evalO F ix = some (.int k i)) (hb : 0 ≤ i ∧ i < len) (had : ad = some ⟨b, o, none⟩) : OpY P ⟨d, .indexAddr t x ix, ty, pos, after, g⟩ F bs H (.pointer (some ⟨b, o + i.toNat * sz, none⟩)) := fun N a w ht hw => by
  subst had
  have ha : (⟨b, o, none⟩ : Addr).add (i.toNat * sz) = ⟨b, o + i.toNat * sz, none⟩ := by
    unfold Addr.add; split
    · rename_i h0; rw [h0]; rfl
    · rfl
  simp [execOp, Instr.indexAt, ht.eval h, ht.eval hi, asIntOf, underlying_run hs.ty, Result.andThen, hb.1, hb.2, sizeOf_run hs.info, ha]
theorem y_indexA {x ix : Operand} {b o n : Nat} {i : Int} {k : IntKind} {t e : TypeId} {sz : Nat} [hs : TyArr P t n e sz] (h : evalO F x = some (.pointer (some ⟨b, o, none⟩)))
    (hi : evalO F ix = some (.int k i)) (hb : 0 ≤ i ∧ i < n) : OpY P ⟨d, .indexAddr t x ix, ty, pos, after, g⟩ F bs H (.pointer (some ⟨b, o + i.toNat * sz, none⟩)) := fun N a w ht hw => by
  have ha : (⟨b, o, none⟩ : Addr).add (i.toNat * sz) = ⟨b, o + i.toNat * sz, none⟩ := by
    unfold Addr.add; split
    · rename_i h0; rw [h0]; rfl
    · rfl
  simp [execOp, Instr.indexAt, ht.eval h, ht.eval hi, asIntOf, underlying_run hs.ty, Result.andThen, Instr.sureAddr, hb.1, hb.2, sizeOf_run hs.info, ha]
theorem y_extract {x : Operand} {vs : List Value} {i : Nat} {v : Value} (h : evalO F x = some (.tuple vs.toArray)) (hv : lget vs i = some v) :
    OpY P ⟨d, .extract x i, ty, pos, after, g⟩ F bs H v := fun N a w ht hw => by
  rw [lget_eq] at hv
  simp [execOp, ht.eval h, Instr.extract, hv]
theorem y_len {x : Operand} {t e : TypeId} {sz : Nat} [hs : TySlice P t e sz] {a0 : Option Addr} {len cap : Nat} (h : evalO F x = some (.slice a0 len cap)) :
    OpY P ⟨d, .call ⟨.builtin .len, #[x], #[t]⟩, ty, pos, after, g⟩ F bs H (.int .i64 len) := fun N a w ht hw => by
  simp [execOp, resolve, invoke, builtin, Builtin.len_, ht.eval h, underlying_run hs.ty, Result.andThen, goInt]
theorem y_max {x y : Operand} {k : IntKind} {m n : Int} {ts : Array TypeId} (hx : evalO F x = some (.int k m)) (hy : evalO F y = some (.int k n)) :
    OpY P ⟨d, .call ⟨.builtin .max, #[x, y], ts⟩, ty, pos, after, g⟩ F bs H (.int k (max m n)) := fun N a w ht hw => by
  have : (if m < n then n else m) = max m n := by omega
  simp [execOp, resolve, invoke, builtin, Builtin.max_, Builtin.max2, ht.eval hx, ht.eval hy, Result.andThen, this]
theorem y_min {x y : Operand} {k : IntKind} {m n : Int} {ts : Array TypeId} (hx : evalO F x = some (.int k m)) (hy : evalO F y = some (.int k n)) :
    OpY P ⟨d, .call ⟨.builtin .min, #[x, y], ts⟩, ty, pos, after, g⟩ F bs H (.int k (min m n)) := fun N a w ht hw => by
  have : (if n < m then n else m) = min m n := by omega
  simp [execOp, resolve, invoke, builtin, Builtin.min_, Builtin.min2, ht.eval hx, ht.eval hy, Result.andThen, this]
theorem eqGuard_int {op : BinOp} {t : TypeId} {x y : Operand} {k k' : IntKind} {m n : Int} {w : World} : (eqGuard op t x y (.int k m) (.int k' n)).run P w = .ok () w := by
  unfold eqGuard; split <;> simp
theorem y_add {x y : Operand} {t t' : TypeId} {m n : Int} (hx : evalO F x = some (.int .i64 m)) (hy : evalO F y = some (.int .i64 n)) (hb : -9223372036854775808 ≤ m + n ∧ m + n ≤ 9223372036854775807) :
    OpY P ⟨d, .binOp .add t x y t', ty, pos, after, g⟩ F bs H (.int .i64 (m + n)) := fun N a w ht hw => by
  simp [execOp, ht.eval hx, ht.eval hy, eqGuard_int, binOp, Op.intArith, Result.andThen, IntWalk.i64_in _ hb]
theorem y_sub {x y : Operand} {t t' : TypeId} {m n : Int} (hx : evalO F x = some (.int .i64 m)) (hy : evalO F y = some (.int .i64 n)) (hb : -9223372036854775808 ≤ m - n ∧ m - n ≤ 9223372036854775807) :
    OpY P ⟨d, .binOp .sub t x y t', ty, pos, after, g⟩ F bs H (.int .i64 (m - n)) := fun N a w ht hw => by
  simp [execOp, ht.eval hx, ht.eval hy, eqGuard_int, binOp, Op.intArith, Result.andThen, IntWalk.i64_in _ hb]
theorem y_mul {x y : Operand} {t t' : TypeId} {m n : Int} (hx : evalO F x = some (.int .i64 m)) (hy : evalO F y = some (.int .i64 n)) (hb : -9223372036854775808 ≤ m * n ∧ m * n ≤ 9223372036854775807) :
    OpY P ⟨d, .binOp .mul t x y t', ty, pos, after, g⟩ F bs H (.int .i64 (m * n)) := fun N a w ht hw => by
  simp [execOp, ht.eval hx, ht.eval hy, eqGuard_int, binOp, Op.intArith, Result.andThen, IntWalk.i64_in _ hb]
theorem y_quo {x y : Operand} {t t' : TypeId} {m n : Int} (hx : evalO F x = some (.int .i64 m)) (hy : evalO F y = some (.int .i64 n)) (h0 : 0 ≤ m ∧ m ≤ 9223372036854775807) (h1 : 0 < n) :
    OpY P ⟨d, .binOp .quo t x y t', ty, pos, after, g⟩ F bs H (.int .i64 (m / n)) := fun N a w ht hw => by
  have hq : m.tdiv n = m / n := Int.tdiv_eq_ediv_of_nonneg h0.1
  have hb : -9223372036854775808 ≤ m / n ∧ m / n ≤ 9223372036854775807 := ⟨by have := Int.ediv_nonneg h0.1 (Int.le_of_lt h1); omega, by have := Int.ediv_le_self n h0.1; omega⟩
  have hn : n ≠ 0 := by omega
  simp [execOp, ht.eval hx, ht.eval hy, eqGuard_int, binOp, Op.intDiv, Result.andThen, hn, hq, IntWalk.i64_in _ hb]
theorem y_eql {x y : Operand} {t t' : TypeId} {k : IntKind} {m n : Int} (hx : evalO F x = some (.int k m)) (hy : evalO F y = some (.int k n)) :
    OpY P ⟨d, .binOp .eql t x y t', ty, pos, after, g⟩ F bs H (.bool (decide (m = n))) := fun N a w ht hw => by
  simp [execOp, ht.eval hx, ht.eval hy, eqGuard_int, binOp, Op.intCmp, Result.andThen]; rfl
theorem y_neq {x y : Operand} {t t' : TypeId} {k : IntKind} {m n : Int} (hx : evalO F x = some (.int k m)) (hy : evalO F y = some (.int k n)) :
    OpY P ⟨d, .binOp .neq t x y t', ty, pos, after, g⟩ F bs H (.bool (decide (¬ m = n))) := fun N a w ht hw => by
  have : (m != n) = decide (¬ m = n) := by by_cases h : m = n <;> simp [h]
  simp only [execOp, ht.eval hx, ht.eval hy, Sem.run_bind, eqGuard_int, binOp, Op.intCmp, Result.andThen, ne_eq, not_true, if_false, Sem.run_pure, this]
theorem y_lss {x y : Operand} {t t' : TypeId} {k : IntKind} {m n : Int} (hx : evalO F x = some (.int k m)) (hy : evalO F y = some (.int k n)) :
    OpY P ⟨d, .binOp .lss t x y t', ty, pos, after, g⟩ F bs H (.bool (decide (m < n))) := fun N a w ht hw => by
  simp [execOp, ht.eval hx, ht.eval hy, eqGuard_int, binOp, Op.intCmp, Result.andThen]
theorem y_leq {x y : Operand} {t t' : TypeId} {k : IntKind} {m n : Int} (hx : evalO F x = some (.int k m)) (hy : evalO F y = some (.int k n)) :
    OpY P ⟨d, .binOp .leq t x y t', ty, pos, after, g⟩ F bs H (.bool (decide (m ≤ n))) := fun N a w ht hw => by
  simp [execOp, ht.eval hx, ht.eval hy, eqGuard_int, binOp, Op.intCmp, Result.andThen]
theorem y_gtr {x y : Operand} {t t' : TypeId} {k : IntKind} {m n : Int} (hx : evalO F x = some (.int k m)) (hy : evalO F y = some (.int k n)) :
    OpY P ⟨d, .binOp .gtr t x y t', ty, pos, after, g⟩ F bs H (.bool (decide (n < m))) := fun N a w ht hw => by
  simp [execOp, ht.eval hx, ht.eval hy, eqGuard_int, binOp, Op.intCmp, Result.andThen]
theorem y_geq {x y : Operand} {t t' : TypeId} {k : IntKind} {m n : Int} (hx : evalO F x = some (.int k m)) (hy : evalO F y = some (.int k n)) :
    OpY P ⟨d, .binOp .geq t x y t', ty, pos, after, g⟩ F bs H (.bool (decide (n ≤ m))) := fun N a w ht hw => by
  simp [execOp, ht.eval hx, ht.eval hy, eqGuard_int, binOp, Op.intCmp, Result.andThen]
theorem y_func {f : Fn} {first captured : Array Operand} {vs us : List Value} (h1 : ∀ (N : NN) (a : Act), TF N F a → first.map a.eval = vs.toArray) (h2 : ∀ (N : NN) (a : Act), TF N F a → captured.map a.eval = us.toArray) :
    OpY P ⟨d, .makeFunc f first captured, ty, pos, after, g⟩ F bs H (.func f vs.toArray us.toArray) := fun N a w ht _ => by
  simp [execOp, Instr.makeFunc, h1 N a ht, h2 N a ht]
end
/-- Operands and their values. -/
inductive EA (F : List (Nat × Value)) : List Operand → List Value → Prop
  | nil : EA F [] []
  | cons {x : Operand} {v : Value} {xs : List Operand} {vs : List Value} : evalO F x = some v → EA F xs vs → EA F (x :: xs) (v :: vs)
theorem EA.map {N : NN} {F : List (Nat × Value)} {xs : List Operand} {vs : List Value} (h : EA F xs vs) {a : Act} (ht : TF N F a) : xs.toArray.map a.eval = vs.toArray := by
  have : xs.map a.eval = vs := by
    induction h with
    | nil => rfl
    | cons hv _ ih => simp [ht.eval hv, ih]
  simp [this]
section
variable {P : Program} {F : List (Nat × Value)} {bs : List (World × List Nat)} {H : List (Nat × Obj)}
  {d : Option Tmp} {ty : TypeId} {pos : String} {after : Array Edge} {g : Option (Nat × Bool)}
theorem y_fn {f : Fn} {xs ys : List Operand} {vs us : List Value} (h1 : EA F xs vs) (h2 : EA F ys us) :
    OpY P ⟨d, .makeFunc f xs.toArray ys.toArray, ty, pos, after, g⟩ F bs H (.func f vs.toArray us.toArray) := y_func (fun _ a ht => h1.map ht) (fun _ a ht => h2.map ht)
end
end Go.Sp
namespace Go.Sp
open Go
section
variable {P : Program} {ops : Array Oper} {Q : Exit → Act → World → Prop}
/-- No fence; in a round of loop r, or in none. -/
abbrev FW (r : Option Nat) : Fence := { Fence.wide with round := r }
variable {r : Option Nat}
/-- In state a, in every world that meets S, the operation leaves v. -/
def YIf (P : Program) (ops : Array Oper) (S : World → Prop) (o : Oper) (v : Value) (a : Act) : Prop :=
  (Region.wanted o (yielded ops a.tmps) = true ∧ ∀ w, S w → (execOp a.eval o).run P w = .ok (.value v) w) ∨
  (Region.wanted o (yielded ops a.tmps) = false ∧ v = undef)
theorem semAt_value {ρ : Operand → Value} {o : Oper} {w w' : World} {v : Value} (h : (execOp ρ o).run P w = .ok (.value v) w') : o.semAt r ρ = execOp ρ o := by
  refine Oper.semAt_eq _ _ _ fun c hc => ?_
  unfold execOp at h
  rw [hc] at h
  simp only [Sem.run_bind] at h
  cases hr : (resolve ρ c o.type).run P w with
  | ok d w1 => rw [hr] at h; simp [Result.andThen] at h
  | halt x w1 => rw [hr] at h; simp [Result.andThen] at h
theorem wpIn_quiet {ρ : Act} {o : Oper} {w : World} {v : Value} {K : Act → World → Prop} (h : (execOp ρ.eval o).run P w = .ok (.value v) w) (hK : K (ρ.put o.dst v) w) : o.wpIn (FW r) 0 P ρ w K Q :=
  ⟨fun _ _ => trivial, by rw [semAt_value (r := r) h, h]; exact hK⟩
def notDefer (o : Op) : Bool := match o with | .defer _ => false | _ => true
theorem notDefer_spec {o : Oper} (h : notDefer o.op = true) (ρ : Operand → Value) : o.semAt r ρ = execOp ρ o := Oper.semAt_eq _ _ _ fun c hc => by rw [hc] at h; cases h
/-- What holds without a fence holds in a round. -/
theorem wpIn_of_wp {o : Oper} (hn : notDefer o.op = true) {a : Act} {w : World} {K : Act → World → Prop} (h : o.wp P a w K Q) : o.wpIn (FW r) 0 P a w K Q := by
  refine ⟨fun _ _ => trivial, ?_⟩
  rw [notDefer_spec hn]
  unfold Oper.wp at h
  generalize (execOp a.eval o).run P w = x at *
  cases x with
  | ok n w' =>
    cases n <;> simp only [Oper.upon, Oper.uponIn] at h ⊢
    case value => exact h
    case skip => exact h
    case defer => exact h
    case enter f args => exact ⟨fun h => (by cases h), callsIn_wide.2 h⟩
    case row row args => exact ⟨fun h => (by cases h), fun c cs _ => let ⟨v, w', rr, s⟩ := h c cs; ⟨v, w', rr, stepsIn_wide.2 s⟩⟩
  | halt x w' => cases x <;> simp only [Oper.upon, Oper.uponIn] at h ⊢ <;> exact h
theorem YIf.wpOp {S : World → Prop} {i : Nat} {o : Oper} {v : Value} {a : Act} (hi : ops[i]? = some o) (hy : YIf P ops S o v a)
    {K : Act → World → Prop} {w : World} (hS : S w) (h : K (a.put o.dst v) w) : wpOpIn (FW r) 0 P ops Q i K a w := by
  unfold Go.wpOpIn
  simp only [hi]
  rcases hy with ⟨hw, hv⟩ | ⟨hw, rfl⟩
  · simp only [hw, if_true]; exact wpIn_quiet (hv w hS) h
  · simp only [hw, Bool.false_eq_true, if_false]; exact ⟨fun _ _ => trivial, h⟩
theorem YIf.same {S : World → Prop} {o : Oper} {v : Value} {a a' : Act} (hy : YIf P ops S o v a) (he : execOp a'.eval o = execOp a.eval o)
    (hw : Region.wanted o (yielded ops a'.tmps) = Region.wanted o (yielded ops a.tmps)) : YIf P ops S o v a' := by
  unfold YIf at *
  rw [he, hw]
  exact hy
theorem wpOp_putX {S : World → Prop} {j : Nat} {oi oj : Oper} {v : Value} (hj : ops[j]? = some oj) (hap : oi.apart ops oj = true)
    (hsi : ∀ cs b, oi.op ≠ .select cs b) (hsj : ∀ cs b, oj.op ≠ .select cs b) (hdj : notDefer oj.op = true)
    (hQ : ∀ c a w, Q (.panic c) (a.put oi.dst v) w → Q (.panic c) a w) {K : Act → World → Prop} {a : Act} {w : World}
    (hy : YIf P ops S oi v a) (h : wpOpIn (FW r) 0 P ops Q j K (a.put oi.dst v) w) :
    wpOpIn (FW r) 0 P ops Q j (fun a' w' => YIf P ops S oi v a' ∧ K (a'.put oi.dst v) w') a w := by
  obtain ⟨h1, h2, h3⟩ := Oper.apart_spec hap
  have keep : ∀ (a : Act), YIf P ops S oi v a → ∀ u, YIf P ops S oi v (a.put oj.dst u) := fun a hy u =>
    hy.same (execOp_put oi hsi a oj.dst u h3) (wanted_put oi a oj.dst u h3)
  have keepD : ∀ d, YIf P ops S oi v { a with defers := d :: a.defers } := fun d => hy.same rfl rfl
  unfold wpOpIn at *
  simp only [hj] at *
  rw [wanted_put oj a oi.dst v h1] at h
  split
  · rename_i hw
    simp only [hw, if_true] at h
    refine ⟨fun _ _ => trivial, ?_⟩
    have h := h.2
    rw [notDefer_spec hdj] at h ⊢
    rw [execOp_put oj hsj a oi.dst v h1] at h
    generalize (execOp a.eval oj).run P w = x at *
    cases x with
    | ok n w' =>
      cases n <;> simp only [Oper.uponIn] at h ⊢
      case value u => exact ⟨keep a hy u, by rw [← Act.put_comm a v u h2]; exact h⟩
      case skip => exact ⟨keep a hy _, by rw [← Act.put_comm a v undef h2]; exact h⟩
      case defer d =>
        refine ⟨keep _ (keepD d) _, ?_⟩
        rw [← Act.put_comm _ v undef h2, ← Act.put_defers]
        exact h
      case enter f args =>
        refine ⟨h.1, CallsIn.mono h.2 fun e w'' he => ?_⟩
        cases e with
        | returned u => exact ⟨keep a hy u, by rw [← Act.put_comm a v u h2]; exact he⟩
        | panicked c => exact hQ _ _ _ he
        | outgrown => exact he
      case row row args => exact ⟨h.1, RowsIn.mono h.2 fun u w'' he => ⟨keep a hy u, by rw [← Act.put_comm a v u h2]; exact he⟩⟩
      case round l f tmps assign body =>
        refine ⟨h.1, RoundIn.mono h.2 fun e w'' he => ?_⟩
        cases e with
        | returned u => exact ⟨keep a hy u, by rw [← Act.put_comm a v u h2]; exact he⟩
        | panicked c => exact hQ _ _ _ he
        | outgrown => exact he
    | halt x w' =>
      cases x <;> simp only [Oper.uponIn] at h ⊢
      case panic u => exact hQ _ _ _ h
  · rename_i hw
    simp only [hw] at h
    exact ⟨fun _ _ => trivial, keep a hy _, by rw [← Act.put_comm a v undef h2]; exact h.2⟩
/-- Operations whose value hangs on their operands alone. -/
def isPure : Op → Bool
  | .move _ | .assign _ | .pick .. | .build .. | .nilCheck _ | .binOp .. | .unOp .. | .convert .. | .makeFunc .. | .fieldAddr .. | .indexAddr .. | .extract .. => true
  | .call ⟨.builtin b, _, _⟩ => match b with | .max | .min => true | _ => false
  | _ => false
/-- Operations that are never taken ahead of their turn, or whose value hangs on their operands alone. -/
def exempt (o : Op) : Bool := isPure o || match o with
  | .call ⟨.value _, _, _⟩ => true
  | .call ⟨.builtin b, _, _⟩ => match b with | .append => true | _ => false
  | .buildSlice .. | .store .. => true
  | _ => false
/-- The operation waits for all that is listed, but for exempt operations. -/
def waitsAll (ops : Array Oper) (listed : Array Bool) (i : Nat) : Bool :=
  match ops[i]? with
  | none => false
  | some o => (List.range listed.size).all fun k => !listed.getD k false || ((ops[k]?).map (exempt ·.op)).getD false || o.after.any fun e => Region.binds .any e && e.on == k
/-- Whatever order is picked; S holds behind each operation, but behind one that waits for all before it. -/
def noDefer (ops : Array Oper) : Bool := ops.all fun o => notDefer o.op
theorem noDefer_spec (h : noDefer ops = true) (j : Nat) (o : Oper) (ho : ops[j]? = some o) : notDefer o.op = true := Array.all_eq_true_iff_forall_mem.1 h o (Array.mem_of_getElem? ho)
def wpX (r : Option Nat) (P : Program) (ops : Array Oper) (Q : Exit → Act → World → Prop) : Nat → (World → Prop) → Array Bool → Act → World → Prop
  | 0, _, listed, a, w => Region.ready .any ops listed = [] ∧ Q .normal a w
  | fuel + 1, S, listed, a, w =>
    (Region.ready .any ops listed = [] → Q .normal a w) ∧
    ∀ i ∈ Region.ready .any ops listed, wpOpIn (FW r) 0 P ops Q i (fun a' w' =>
      (waitsAll ops listed i = true ∧ ∃ S', wpX r P ops Q fuel S' (listed.setIfInBounds i true) a' w') ∨ (S w' ∧ wpX r P ops Q fuel S (listed.setIfInBounds i true) a' w')) a w
theorem wpAny_of_X : ∀ (fuel : Nat) (S : World → Prop) (listed : Array Bool) (a : Act) (w : World), wpX r P ops Q fuel S listed a w → wpAnyIn (FW r) 0 P .any ops Q fuel listed a w
  | 0, _, _, _, _, h => h
  | fuel + 1, S, _, _, _, h => ⟨h.1, fun i hi => wpOpIn_mono (fun a' w' h' => by
      rcases h' with ⟨_, S', h'⟩ | ⟨_, h'⟩
      · exact wpAny_of_X fuel S' _ a' w' h'
      · exact wpAny_of_X fuel S _ a' w' h') (h.2 i hi)⟩
theorem wpX_mono {S S' : World → Prop} (hS : ∀ w, S' w → S w) : ∀ (fuel : Nat) (listed : Array Bool) (a : Act) (w : World), wpX r P ops Q fuel S' listed a w → wpX r P ops Q fuel S listed a w
  | 0, _, _, _, h => h
  | fuel + 1, _, _, _, h => ⟨h.1, fun i hi => wpOpIn_mono (fun a' w' h' => by
      rcases h' with h' | ⟨h1, h2⟩
      · exact .inl h'
      · exact .inr ⟨hS _ h1, wpX_mono hS fuel _ a' w' h2⟩) (h.2 i hi)⟩
theorem wpX_first {S : World → Prop} {i : Nat} {oi : Oper} {v : Value} (hi : ops[i]? = some oi) (hnp : exempt oi.op = false) (hsel : ∀ (j : Nat) (o : Oper) cs b, ops[j]? = some o → o.op ≠ .select cs b) (hdef : noDefer ops = true)
    (hQ : ∀ c a w, Q (.panic c) (a.put oi.dst v) w → Q (.panic c) a w) :
    ∀ (fuel : Nat) (listed : Array Bool) (a : Act) (w : World), i < listed.size →
      (∀ j oj, ops[j]? = some oj → j ≠ i → listed.getD j true = false → (∀ e ∈ oj.after, Region.binds .any e = true → e.on ≠ i) → oi.apart ops oj = true) →
      i ∈ Region.ready .any ops listed → YIf P ops S oi v a → S w →
      wpX r P ops Q fuel S (listed.setIfInBounds i true) (a.put oi.dst v) w → wpX r P ops Q (fuel + 1) S listed a w := by
  intro fuel
  induction fuel with
  | zero =>
    intro listed a w _ hfree hr hy hS H
    refine ⟨fun h => (by rw [h] at hr; cases hr), fun j hj => ?_⟩
    by_cases hji : j = i
    · subst hji; exact hy.wpOp hi hS (.inr ⟨hS, H⟩)
    · have := ready_mono hj hji
      rw [H.1] at this
      cases this
  | succ fuel ih =>
    intro listed a w hlt hfree hr hy hS H
    refine ⟨fun h => (by rw [h] at hr; cases hr), fun j hj => ?_⟩
    by_cases hji : j = i
    · subst hji; exact hy.wpOp hi hS (.inr ⟨hS, H⟩)
    · have h1 := H.2 j (ready_mono hj hji)
      obtain ⟨hjun, oj, hoj, hall⟩ := mem_ready.1 hj
      have hnot : ∀ e ∈ oj.after, Region.binds .any e = true → e.on ≠ i := fun e he hb heq => by
        have h1 := hall e he hb
        have h0 := (mem_ready.1 hr).1
        rw [heq] at h1
        rcases Nat.lt_or_ge i listed.size with h' | h'
        · simp [h'] at h0 h1; rw [h0] at h1; cases h1
        · simp [Array.getElem?_eq_none h'] at h1
      have hw : waitsAll ops (listed.setIfInBounds i true) j = false := by
        cases hc : waitsAll ops (listed.setIfInBounds i true) j
        · rfl
        · exfalso
          simp only [waitsAll, hoj, List.all_eq_true, List.mem_range, Array.size_setIfInBounds] at hc
          have h5 := hc i hlt
          rw [show (listed.setIfInBounds i true).getD i false = true from by simp [hlt], hi] at h5
          simp only [Bool.not_true, Bool.false_or, Option.map_some, Option.getD_some, hnp] at h5
          obtain ⟨e, he, hb⟩ := Array.any_eq_true'.1 h5
          simp only [Bool.and_eq_true, beq_iff_eq] at hb
          exact hnot e he hb.1 hb.2
      have h2 := wpOp_putX hoj (hfree j oj hoj hji hjun hnot) (fun cs b => hsel i oi cs b hi) (fun cs b => hsel j oj cs b hoj) (noDefer_spec hdef j oj hoj) hQ hy h1
      have hfree' : ∀ k ok, ops[k]? = some ok → k ≠ i → (listed.setIfInBounds j true).getD k true = false →
          (∀ e ∈ ok.after, Region.binds .any e = true → e.on ≠ i) → oi.apart ops ok = true := fun k ok hk hki hun hno => by
        refine hfree k ok hk hki ?_ hno
        by_cases hjk : j = k
        · subst hjk; exact hjun
        · rw [getD_set_ne true hjk] at hun; exact hun
      refine wpOpIn_mono (fun a' w' h3 => ?_) h2
      obtain ⟨hy', h3⟩ := h3
      rcases h3 with ⟨hc, _⟩ | ⟨hS', h4⟩
      · rw [hw] at hc; cases hc
      · refine .inr ⟨hS', ih (listed.setIfInBounds j true) a' w' (by simpa using hlt) hfree' (ready_mono hr (Ne.symm hji)) hy' hS' ?_⟩
        rw [Array.setIfInBounds_comm _ _ hji]
        exact h4
theorem waitsAll_less {listed : Array Bool} {i j : Nat} (h : waitsAll ops (listed.setIfInBounds i true) j = true) : waitsAll ops listed j = true := by
  unfold waitsAll at *
  cases ho : ops[j]? with
  | none => rw [ho] at h; exact h
  | some o =>
    rw [ho] at h
    simp only [List.all_eq_true, List.mem_range, Array.size_setIfInBounds] at h ⊢
    intro k hk
    have := h k hk
    by_cases hik : i = k
    · subst hik
      rw [show (listed.setIfInBounds i true).getD i false = true from by simp [hk]] at this
      simp only [Bool.not_true, Bool.false_or] at this
      simp only [Bool.or_eq_true] at this ⊢
      rcases this with h1 | h1
      · exact .inl (.inr h1)
      · exact .inr h1
    · rw [getD_set_ne false hik] at this
      exact this
theorem wpX_firstP {i : Nat} {oi : Oper} {v : Value} (hi : ops[i]? = some oi) (hsel : ∀ (j : Nat) (o : Oper) cs b, ops[j]? = some o → o.op ≠ .select cs b) (hdef : noDefer ops = true)
    (hQ : ∀ c a w, Q (.panic c) (a.put oi.dst v) w → Q (.panic c) a w) :
    ∀ (fuel : Nat) (S : World → Prop) (listed : Array Bool) (a : Act) (w : World),
      (∀ j oj, ops[j]? = some oj → j ≠ i → listed.getD j true = false → (∀ e ∈ oj.after, Region.binds .any e = true → e.on ≠ i) → oi.apart ops oj = true) →
      i ∈ Region.ready .any ops listed → YIf P ops (fun _ => True) oi v a → S w →
      wpX r P ops Q fuel S (listed.setIfInBounds i true) (a.put oi.dst v) w → wpX r P ops Q (fuel + 1) S listed a w := by
  intro fuel
  induction fuel with
  | zero =>
    intro S listed a w hfree hr hy hS H
    refine ⟨fun h => (by rw [h] at hr; cases hr), fun j hj => ?_⟩
    by_cases hji : j = i
    · subst hji; exact hy.wpOp hi trivial (.inr ⟨hS, H⟩)
    · have := ready_mono hj hji
      rw [H.1] at this
      cases this
  | succ fuel ih =>
    intro S listed a w hfree hr hy hS H
    refine ⟨fun h => (by rw [h] at hr; cases hr), fun j hj => ?_⟩
    by_cases hji : j = i
    · subst hji; exact hy.wpOp hi trivial (.inr ⟨hS, H⟩)
    · have h1 := H.2 j (ready_mono hj hji)
      obtain ⟨hjun, oj, hoj, hall⟩ := mem_ready.1 hj
      have hnot : ∀ e ∈ oj.after, Region.binds .any e = true → e.on ≠ i := fun e he hb heq => by
        have h1 := hall e he hb
        have h0 := (mem_ready.1 hr).1
        rw [heq] at h1
        rcases Nat.lt_or_ge i listed.size with h' | h'
        · simp [h'] at h0 h1; rw [h0] at h1; cases h1
        · simp [Array.getElem?_eq_none h'] at h1
      have h2 := wpOp_putX hoj (hfree j oj hoj hji hjun hnot) (fun cs b => hsel i oi cs b hi) (fun cs b => hsel j oj cs b hoj) (noDefer_spec hdef j oj hoj) hQ hy h1
      have hfree' : ∀ k ok, ops[k]? = some ok → k ≠ i → (listed.setIfInBounds j true).getD k true = false →
          (∀ e ∈ ok.after, Region.binds .any e = true → e.on ≠ i) → oi.apart ops ok = true := fun k ok hk hki hun hno => by
        refine hfree k ok hk hki ?_ hno
        by_cases hjk : j = k
        · subst hjk; exact hjun
        · rw [getD_set_ne true hjk] at hun; exact hun
      refine wpOpIn_mono (fun a' w' h3 => ?_) h2
      obtain ⟨hy', h3⟩ := h3
      rcases h3 with ⟨hc, S', h4⟩ | ⟨hS', h4⟩
      · -- another condition from here on; it is not asked of this world
        refine .inl ⟨waitsAll_less hc, fun _ => True, ih (fun _ => True) (listed.setIfInBounds j true) a' w' hfree' (ready_mono hr (Ne.symm hji)) hy' trivial ?_⟩
        rw [Array.setIfInBounds_comm _ _ hji]
        exact wpX_mono (fun _ _ => trivial) _ _ _ _ h4
      · refine .inr ⟨hS', ih S (listed.setIfInBounds j true) a' w' hfree' (ready_mono hr (Ne.symm hji)) hy' hS' ?_⟩
        rw [Array.setIfInBounds_comm _ _ hji]
        exact h4
theorem wpX_done {S : World → Prop} {listed : Array Bool} {a : Act} {w : World} (hr : Region.ready .any ops listed = []) (h : Q .normal a w) :
    ∀ fuel, wpX r P ops Q fuel S listed a w
  | 0 => ⟨hr, h⟩
  | _ + 1 => ⟨fun _ => h, by rw [hr]; simp⟩
end
def TL (r : Option Nat) (P : Program) (ops : Array Oper) (Q : Exit → Act → World → Prop) (rest : List Oper) (N : NN) (F : List (Nat × Value)) (bs : List (World × List Nat)) (H : List (Nat × Obj)) : Prop :=
  ∀ a w, TF N F a → HG bs H w → wpListIn (FW r) 0 P ops Q rest a w
def TC (r : Option Nat) (P : Program) (c : Code) (Q : Exit → Act → World → Prop) (N : NN) (F : List (Nat × Value)) (bs : List (World × List Nat)) (H : List (Nat × Obj)) : Prop :=
  ∀ a w, TF N F a → HG bs H w → c.wpIn (FW r) 0 P Q a w
def TX (r : Option Nat) (P : Program) (ops : Array Oper) (Q : Exit → Act → World → Prop) (n : Nat) (S : World → Prop) (listed : Array Bool) (N : NN) (F : List (Nat × Value)) (bs : List (World × List Nat)) (H : List (Nat × Obj)) : Prop :=
  ∀ a w, TF N F a → HG bs H w → wpX r P ops Q n S listed a w
/-- A continuation. -/
def TK (K : Act → World → Prop) (N : NN) (F : List (Nat × Value)) (bs : List (World × List Nat)) (H : List (Nat × Obj)) : Prop :=
  ∀ a w, TF N F a → HG bs H w → K a w
/-- An operation that may change the heap, call, or draw: behind it one of a family of states. -/
def OpE (P : Program) (o : Oper) (N : NN) (F : List (Nat × Value)) (bs : List (World × List Nat)) (H : List (Nat × Obj)) {α : Type} (p : α → Prop)
    (F' : α → List (Nat × Value)) (bs' : α → List (World × List Nat)) (H' : α → List (Nat × Obj)) : Prop :=
  ∀ a w, TF N F a → HG bs H w → ∀ (K : Act → World → Prop) (Q : Exit → Act → World → Prop), (∀ x a' w', p x → TF N (F' x) a' → HG (bs' x) (H' x) w' → K a' w') → o.wp P a w K Q
section
variable {r : Option Nat} {P : Program} {ops : Array Oper} {Q : Exit → Act → World → Prop} {N : NN} {F : List (Nat × Value)} {bs : List (World × List Nat)} {H : List (Nat × Obj)}
theorem tl_q {d : Tmp} {op : Op} {ty : TypeId} {pos : String} {after : Array Edge} {v : Value} {rest : List Oper} (hy : OpY P ⟨some d, op, ty, pos, after, none⟩ F bs H v) (hd : Nat.blt d N.n = true)
    (h : TL r P ops Q rest N ((d, v) :: F) bs H) : TL r P ops Q (⟨some d, op, ty, pos, after, none⟩ :: rest) N F bs H := fun a w ht hw => by
  unfold wpListIn
  rw [if_pos (by simp [Region.wanted])]
  exact wpIn_quiet (hy N a w ht hw) (h _ _ (ht.put hd v) hw)
/-- A quiet operation whose guard says yes. -/
def gdT (ops : Array Oper) (j : Nat) : Option Tmp := (ops[j]?).bind (·.dst)
theorem yielded_of {a : Act} (ht : TF N F a) {j : Nat} {t : Tmp} {b : Bool} (h1 : gdT ops j = some t) (h2 : look F t = some (.bool b)) : yielded ops a.tmps j = some b := by
  have := ht.tmp t _ h2
  unfold gdT at h1
  simp [yielded, h1, this]
theorem tl_qg {d : Tmp} {op : Op} {ty : TypeId} {pos : String} {after : Array Edge} {v : Value} {rest : List Oper} {j : Nat} {b : Bool} {t : Tmp} (h1 : gdT ops j = some t) (h2 : look F t = some (.bool b))
    (hy : OpY P ⟨some d, op, ty, pos, after, some (j, b)⟩ F bs H v) (hd : Nat.blt d N.n = true)
    (h : TL r P ops Q rest N ((d, v) :: F) bs H) : TL r P ops Q (⟨some d, op, ty, pos, after, some (j, b)⟩ :: rest) N F bs H := fun a w ht hw =>
  by
    unfold wpListIn
    rw [if_pos (by simp [Region.wanted, yielded_of ht h1 h2])]
    exact wpIn_quiet (hy N a w ht hw) (h _ _ (ht.put hd v) hw)
theorem tl_sk {d : Tmp} {op : Op} {ty : TypeId} {pos : String} {after : Array Edge} {rest : List Oper} {j : Nat} {b b' : Bool} {t : Tmp} (h1 : gdT ops j = some t) (h2 : look F t = some (.bool b))
    (hb : (b == b') = false) (hd : Nat.blt d N.n = true)
    (h : TL r P ops Q rest N ((d, undef) :: F) bs H) : TL r P ops Q (⟨some d, op, ty, pos, after, some (j, b')⟩ :: rest) N F bs H := fun a w ht hw =>
  by
    unfold wpListIn
    rw [if_neg (by simp [Region.wanted, yielded_of ht h1 h2, hb])]
    exact ⟨fun _ _ => trivial, h _ _ (ht.put hd undef) hw⟩
/-- The guard's bool is decided. -/
theorem tl_gs {d : Option Tmp} {op : Op} {ty : TypeId} {pos : String} {after : Array Edge} {rest : List Oper} {j : Nat} {b b' : Bool} {t : Tmp} (h1 : gdT ops j = some t) (h2 : look F t = some (.bool b))
    (ht : b = true → TL r P ops Q (⟨d, op, ty, pos, after, some (j, b')⟩ :: rest) N ((t, .bool true) :: F) bs H)
    (hf : b = false → TL r P ops Q (⟨d, op, ty, pos, after, some (j, b')⟩ :: rest) N ((t, .bool false) :: F) bs H) : TL r P ops Q (⟨d, op, ty, pos, after, some (j, b')⟩ :: rest) N F bs H := fun a w h hw => by
  have hs : ∀ c : Bool, b = c → TF N ((t, .bool c) :: F) a := fun c hc => ⟨h.defers, h.size, fun k u hk => by
    simp only [look] at hk
    by_cases e : t = k
    · subst e; simp at hk; subst hk; subst hc; exact h.tmp _ _ h2
    · rw [beq_no e] at hk; exact h.tmp _ _ hk⟩
  cases hb : b
  · exact hf hb a w (hs false hb) hw
  · exact ht hb a w (hs true hb) hw
theorem tl_e {o : Oper} {rest : List Oper} {α : Type} {p : α → Prop} {F' : α → List (Nat × Value)} {bs' : α → List (World × List Nat)} {H' : α → List (Nat × Obj)}
    (he : OpE P o N F bs H p F' bs' H') (hg : (o.guard.isNone && notDefer o.op) = true) (h : ∀ x, p x → TL r P ops Q rest N (F' x) (bs' x) (H' x)) : TL r P ops Q (o :: rest) N F bs H := fun a w ht hw => by
  simp only [Bool.and_eq_true, Option.isNone_iff_eq_none] at hg
  unfold wpListIn
  rw [if_pos (by simp [Region.wanted, hg])]
  exact wpIn_of_wp hg.2 <| he a w ht hw (wpListIn (FW r) 0 P ops Q rest) Q (fun x a' w' hx h1 h2 => h x hx a' w' h1 h2)
theorem tl_eg {d : Option Tmp} {op : Op} {ty : TypeId} {pos : String} {after : Array Edge} {j : Nat} {b : Bool} {t : Tmp} {rest : List Oper} {α : Type} {p : α → Prop} {F' : α → List (Nat × Value)} {bs' : α → List (World × List Nat)} {H' : α → List (Nat × Obj)}
    (h1 : gdT ops j = some t) (h2 : look F t = some (.bool b)) (hn : notDefer op = true)
    (he : OpE P ⟨d, op, ty, pos, after, some (j, b)⟩ N F bs H p F' bs' H') (h : ∀ x, p x → TL r P ops Q rest N (F' x) (bs' x) (H' x)) : TL r P ops Q (⟨d, op, ty, pos, after, some (j, b)⟩ :: rest) N F bs H := fun a w ht hw => by
  unfold wpListIn
  rw [if_pos (by simp [Region.wanted, yielded_of ht h1 h2])]
  exact wpIn_of_wp hn <| he a w ht hw (wpListIn (FW r) 0 P ops Q rest) Q (fun x a' w' hx h1 h2 => h x hx a' w' h1 h2)
theorem tl_nil (h : TK (Q .normal) N F bs H) : TL r P ops Q [] N F bs H := fun a w ht hw => wpListIn_nil (h a w ht hw)
theorem wpIn_loopX {Fc : Fence} {m : Nat} {c : Code} {a : Act} {w : World} (J : Act → World → Nat → Prop) (n0 : Nat) (h0 : J a w n0)
    (round : ∀ a w n, J a w n → c.wpIn Fc m P (Exit.then (fun a' w' => ∃ n', n' < n ∧ J a' w' n') Q) a w) : (Code.loop c).wpIn Fc m P Q a w := by
  intro b k cs hro hb hr
  have key : ∀ n, ∀ a w, J a w n →
      ∃ e a' w', Q e a' w' ∧ ArrivesIn (Machine.fenced P Fc) P (lone (b.atR a (.code c :: .inLoop c :: k)) cs w) b k cs e a' w' := by
    intro n
    induction n using Nat.strongRecOn with
    | _ n ih =>
      intro a w hJ
      obtain ⟨e, a₁, w₁, hq, harr⟩ := round a w n hJ b (.inLoop c :: k) cs hro hb hr
      cases e with
      | normal =>
        obtain ⟨n', hlt, hJ'⟩ := hq
        obtain ⟨e₂, a₂, w₂, hq₂, harr₂⟩ := ih n' hlt a₁ w₁ hJ'
        exact ⟨e₂, a₂, w₂, hq₂, .of_steps (StepsIn.trans harr (.one (fenced_calm hb hr rfl) stepR_inLoop)) harr₂⟩
      | exit id => exact ⟨_, a₁, w₁, hq, .pass (x := .inLoop c) rfl (fun _ _ => .inl (by simp)) harr⟩
      | goto l => exact ⟨_, a₁, w₁, hq, .pass (x := .inLoop c) rfl (fun _ _ => .inl (by simp)) harr⟩
      | ret => exact ⟨_, a₁, w₁, hq, .pass (x := .inLoop c) rfl (fun _ _ => .inl (by simp)) harr⟩
      | panic ch => exact ⟨_, a₁, w₁, hq, .pass (x := .inLoop c) rfl (fun _ _ => .inl (by simp)) harr⟩
      | outgrown => exact ⟨_, a₁, w₁, hq, .pass (x := .inLoop c) rfl (fun _ _ => .inl (by simp)) harr⟩
  obtain ⟨e, a', w', hq, harr⟩ := key n0 a w h0
  exact ⟨e, a', w', hq, .of_steps (.one (fenced_calm hb hr rfl) stepR_loop) harr⟩
theorem tc_seq {x y : Code} (h : ∀ K : Act → World → Prop, (∀ {N : NN} {F : List (Nat × Value)} {bs : List (World × List Nat)} {H : List (Nat × Obj)}, TC r P y Q N F bs H → TK K N F bs H) → TC r P x (Exit.then K Q) N F bs H) : TC r P (.seq x y) Q N F bs H := fun a w ht hw =>
  wpIn_seq (h (y.wpIn (FW r) 0 P Q) (fun hy a w ht hw => hy a w ht hw) a w ht hw)
theorem tc_region {id : Nat} {l : List Oper} (h : TL r P l.toArray Q l N F bs H) : TC r P (.region id l.toArray false) Q N F bs H := fun a w ht hw => wpIn_region_lit (h a w ht hw)
theorem tc_skip (h : TK (Q .normal) N F bs H) : TC r P .skip Q N F bs H := fun a w ht hw => wpIn_skip (h a w ht hw)
theorem tc_exit {id : Nat} (h : TK (Q (.exit id)) N F bs H) : TC r P (.exit id) Q N F bs H := fun a w ht hw => wpIn_exit (h a w ht hw)
theorem tc_ret (h : TK (Q .ret) N F bs H) : TC r P .ret Q N F bs H := fun a w ht hw => wpIn_ret (h a w ht hw)
theorem tc_block {id : Nat} {c : Code} (h : TC r P c (Exit.inBlock id Q) N F bs H) : TC r P (.block id c) Q N F bs H := fun a w ht hw => wpIn_block (h a w ht hw)
theorem tc_cond {c : Operand} {x y : Code} {b : Bool} (hc : evalO F c = some (.bool b)) (h1 : b = true → TC r P x Q N F bs H) (h2 : b = false → TC r P y Q N F bs H) : TC r P (.cond c x y) Q N F bs H := fun a w ht hw =>
  wpIn_cond_split (ht.eval hc) (fun e => h1 e a w ht hw) (fun e => h2 e a w ht hw)
theorem tc_loop {c : Code} {α : Type} (I : α → Prop) (F' : α → List (Nat × Value)) (bs' : α → List (World × List Nat)) (H' : α → List (Nat × Obj)) (μ : α → Nat)
    (h0 : TK (fun a w => ∃ x, I x ∧ TF N (F' x) a ∧ HG (bs' x) (H' x) w) N F bs H)
    (round : ∀ x, I x → TC r P c (Exit.then (fun a w => ∃ y, I y ∧ μ y < μ x ∧ TF N (F' y) a ∧ HG (bs' y) (H' y) w) Q) N (F' x) (bs' x) (H' x)) : TC r P (.loop c) Q N F bs H := fun a w ht hw => by
  obtain ⟨x, hx, h1, h2⟩ := h0 a w ht hw
  refine wpIn_loopX (fun a w n => ∃ x, μ x = n ∧ I x ∧ TF N (F' x) a ∧ HG (bs' x) (H' x) w) (μ x) ⟨x, rfl, hx, h1, h2⟩ (fun a w n hn => ?_)
  obtain ⟨x, rfl, hx, h1, h2⟩ := hn
  refine wpIn_mono (round x hx a w h1 h2) fun e a w he => ?_
  cases e with
  | normal => obtain ⟨y, hy, hlt, h3, h4⟩ := he; exact ⟨_, hlt, y, rfl, hy, h3, h4⟩
  | _ => exact he
theorem HG.empty {w : World} : HG [] [] w := ⟨by simp, by simp, by simp, by simp⟩
theorem tc_draw {id : Nat} {l : List Oper} (hm : P.follows .mixedOrders = true) (h : TX r P l.toArray Q l.length (HG bs H) (Array.replicate l.length false) N F bs H) : TC r P (.region id l.toArray true) Q N F bs H := fun a w ht hw =>
  wpIn_region_any hm (wpAny_of_X _ _ _ _ _ (by
    have := h a { w with drawn := w.drawn + 1 } ht (hw.drawn _)
    simpa using this))
/-- Take number i first. -/
theorem tx_q {fuel : Nat} {S : World → Prop} {listed : List Bool} (i : Nat) {d : Tmp} {op : Op} {ty : TypeId} {pos : String} {after : Array Edge} {v : Value}
    (hi : ops[i]? = some ⟨some d, op, ty, pos, after, none⟩) (hok : (!exempt op && Region.noSelect ops && noDefer ops && Region.free .any ops listed.toArray i && (Region.ready .any ops listed.toArray).contains i && Nat.blt i listed.length) = true)
    (hy : OpY P ⟨some d, op, ty, pos, after, none⟩ F bs H v) (hd : Nat.blt d N.n = true)
    (hQ : ∀ c a w, Q (.panic c) (a.put (some d) v) w → Q (.panic c) a w) (hS : ∀ w, HG bs H w → S w)
    (h : TX r P ops Q fuel (HG bs H) (listed.set i true).toArray N ((d, v) :: F) bs H) : TX r P ops Q (fuel + 1) S listed.toArray N F bs H := fun a w ht hw => by
  simp only [Bool.and_eq_true] at hok
  obtain ⟨⟨⟨⟨⟨h0, h1⟩, h1'⟩, h2⟩, h3⟩, h4⟩ := hok
  refine wpX_mono hS _ _ _ _ (wpX_first hi (by simpa using h0) (Region.noSelect_spec h1) h1' hQ fuel listed.toArray a w (by simpa using h4) (Region.free_spec hi h2) (by simpa using h3) (.inl ⟨by simp [Region.wanted], fun w' hw' => hy N a w' ht hw'⟩) hw ?_)
  have := h _ _ (ht.put hd v) hw
  simpa using this
theorem tx_p {fuel : Nat} {S : World → Prop} {listed : List Bool} (i : Nat) {d : Tmp} {op : Op} {ty : TypeId} {pos : String} {after : Array Edge} {v : Value}
    (hi : ops[i]? = some ⟨some d, op, ty, pos, after, none⟩) (hok : (isPure op && Region.noSelect ops && noDefer ops && Region.free .any ops listed.toArray i && (Region.ready .any ops listed.toArray).contains i) = true)
    (hy : OpY P ⟨some d, op, ty, pos, after, none⟩ F [] [] v) (hd : Nat.blt d N.n = true)
    (hQ : ∀ c a w, Q (.panic c) (a.put (some d) v) w → Q (.panic c) a w) (hS : ∀ w, HG bs H w → S w)
    (h : TX r P ops Q fuel S (listed.set i true).toArray N ((d, v) :: F) bs H) : TX r P ops Q (fuel + 1) S listed.toArray N F bs H := fun a w ht hw => by
  simp only [Bool.and_eq_true] at hok
  obtain ⟨⟨⟨⟨h0, h1⟩, h1'⟩, h2⟩, h3⟩ := hok
  refine wpX_firstP hi (Region.noSelect_spec h1) h1' hQ fuel S listed.toArray a w (Region.free_spec hi h2) (by simpa using h3) (.inl ⟨by simp [Region.wanted], fun w' _ => hy N a w' ht HG.empty⟩) (hS w hw) ?_
  have := h _ _ (ht.put hd v) hw
  simpa using this
theorem tx_qg {fuel : Nat} {S : World → Prop} {listed : List Bool} (i : Nat) {d : Tmp} {op : Op} {ty : TypeId} {pos : String} {after : Array Edge} {v : Value} {j : Nat} {b : Bool} {t : Tmp}
    (hi : ops[i]? = some ⟨some d, op, ty, pos, after, some (j, b)⟩) (hok : (!exempt op && Region.noSelect ops && noDefer ops && Region.free .any ops listed.toArray i && (Region.ready .any ops listed.toArray).contains i && Nat.blt i listed.length) = true)
    (h1 : gdT ops j = some t) (h2 : look F t = some (.bool b))
    (hy : OpY P ⟨some d, op, ty, pos, after, some (j, b)⟩ F bs H v) (hd : Nat.blt d N.n = true)
    (hQ : ∀ c a w, Q (.panic c) (a.put (some d) v) w → Q (.panic c) a w) (hS : ∀ w, HG bs H w → S w)
    (h : TX r P ops Q fuel (HG bs H) (listed.set i true).toArray N ((d, v) :: F) bs H) : TX r P ops Q (fuel + 1) S listed.toArray N F bs H := fun a w ht hw => by
  simp only [Bool.and_eq_true] at hok
  obtain ⟨⟨⟨⟨⟨k0, k1⟩, k1'⟩, k2⟩, k3⟩, k4⟩ := hok
  refine wpX_mono hS _ _ _ _ (wpX_first hi (by simpa using k0) (Region.noSelect_spec k1) k1' hQ fuel listed.toArray a w (by simpa using k4) (Region.free_spec hi k2) (by simpa using k3) (.inl ⟨by simp [Region.wanted, yielded_of ht h1 h2], fun w' hw' => hy N a w' ht hw'⟩) hw ?_)
  have := h _ _ (ht.put hd v) hw
  simpa using this
theorem tx_pg {fuel : Nat} {S : World → Prop} {listed : List Bool} (i : Nat) {d : Tmp} {op : Op} {ty : TypeId} {pos : String} {after : Array Edge} {v : Value} {j : Nat} {b : Bool} {t : Tmp}
    (hi : ops[i]? = some ⟨some d, op, ty, pos, after, some (j, b)⟩) (hok : (isPure op && Region.noSelect ops && noDefer ops && Region.free .any ops listed.toArray i && (Region.ready .any ops listed.toArray).contains i) = true)
    (h1 : gdT ops j = some t) (h2 : look F t = some (.bool b))
    (hy : OpY P ⟨some d, op, ty, pos, after, some (j, b)⟩ F [] [] v) (hd : Nat.blt d N.n = true)
    (hQ : ∀ c a w, Q (.panic c) (a.put (some d) v) w → Q (.panic c) a w) (hS : ∀ w, HG bs H w → S w)
    (h : TX r P ops Q fuel S (listed.set i true).toArray N ((d, v) :: F) bs H) : TX r P ops Q (fuel + 1) S listed.toArray N F bs H := fun a w ht hw => by
  simp only [Bool.and_eq_true] at hok
  obtain ⟨⟨⟨⟨k0, k1⟩, k1'⟩, k2⟩, k3⟩ := hok
  refine wpX_firstP hi (Region.noSelect_spec k1) k1' hQ fuel S listed.toArray a w (Region.free_spec hi k2) (by simpa using k3) (.inl ⟨by simp [Region.wanted, yielded_of ht h1 h2], fun w' _ => hy N a w' ht HG.empty⟩) (hS w hw) ?_
  have := h _ _ (ht.put hd v) hw
  simpa using this
theorem tx_sk {fuel : Nat} {S : World → Prop} {listed : List Bool} (i : Nat) {d : Tmp} {op : Op} {ty : TypeId} {pos : String} {after : Array Edge} {j : Nat} {b b' : Bool} {t : Tmp}
    (hi : ops[i]? = some ⟨some d, op, ty, pos, after, some (j, b')⟩) (hok : (Region.noSelect ops && noDefer ops && Region.free .any ops listed.toArray i && (Region.ready .any ops listed.toArray).contains i) = true)
    (h1 : gdT ops j = some t) (h2 : look F t = some (.bool b)) (hb : (b == b') = false) (hd : Nat.blt d N.n = true)
    (hQ : ∀ c a w, Q (.panic c) (a.put (some d) undef) w → Q (.panic c) a w) (hS : ∀ w, HG bs H w → S w)
    (h : TX r P ops Q fuel S (listed.set i true).toArray N ((d, undef) :: F) bs H) : TX r P ops Q (fuel + 1) S listed.toArray N F bs H := fun a w ht hw => by
  simp only [Bool.and_eq_true] at hok
  obtain ⟨⟨⟨k1, k1'⟩, k2⟩, k3⟩ := hok
  refine wpX_firstP hi (Region.noSelect_spec k1) k1' hQ fuel S listed.toArray a w (Region.free_spec hi k2) (by simpa using k3) (.inr ⟨by simp [Region.wanted, yielded_of ht h1 h2, hb], rfl⟩) (hS w hw) ?_
  have := h _ _ (ht.put hd undef) hw
  simpa using this
/-- The bool of a temporary is decided. -/
theorem tx_gs {fuel : Nat} {S : World → Prop} {listed : Array Bool} (t : Tmp) {b : Bool} (h2 : look F t = some (.bool b))
    (ht : b = true → TX r P ops Q fuel S listed N ((t, .bool true) :: F) bs H)
    (hf : b = false → TX r P ops Q fuel S listed N ((t, .bool false) :: F) bs H) : TX r P ops Q fuel S listed N F bs H := fun a w h hw => by
  have hs : ∀ c : Bool, b = c → TF N ((t, .bool c) :: F) a := fun c hc => ⟨h.defers, h.size, fun k u hk => by
    simp only [look] at hk
    by_cases e : t = k
    · subst e; simp at hk; subst hk; subst hc; exact h.tmp _ _ h2
    · rw [beq_no e] at hk; exact h.tmp _ _ hk⟩
  cases hb : b
  · exact hf hb a w (hs false hb) hw
  · exact ht hb a w (hs true hb) hw
/-- Number i is the only one that may come up; S holds behind it, or it waits for all before it. -/
theorem tx_e {fuel : Nat} {S : World → Prop} {listed : List Bool} (i : Nat) {d : Option Tmp} {op : Op} {ty : TypeId} {pos : String} {after : Array Edge} {α : Type} {p : α → Prop} {F' : α → List (Nat × Value)} {bs' : α → List (World × List Nat)} {H' : α → List (Nat × Obj)}
    (hi : ops[i]? = some ⟨d, op, ty, pos, after, none⟩) (hr : Region.ready .any ops listed.toArray = [i]) (hn : notDefer op = true) (he : OpE P ⟨d, op, ty, pos, after, none⟩ N F bs H p F' bs' H')
    (hS : waitsAll ops listed.toArray i = true ∨ ∀ x w, HG (bs' x) (H' x) w → S w)
    (h : ∀ x, p x → TX r P ops Q fuel (HG (bs' x) (H' x)) (listed.set i true).toArray N (F' x) (bs' x) (H' x)) : TX r P ops Q (fuel + 1) S listed.toArray N F bs H := fun a w ht hw => by
  refine ⟨fun h0 => (by rw [h0] at hr; cases hr), fun j hj => ?_⟩
  rw [hr] at hj
  obtain rfl : j = i := by simpa using hj
  unfold wpOpIn
  simp only [hi]
  rw [if_pos (by simp [Region.wanted])]
  exact wpIn_of_wp hn <| he a w ht hw _ Q (fun x a' w' hx h1 h2 => (by
    have hx' := h x hx a' w' h1 h2
    rw [show (listed.set j true).toArray = listed.toArray.setIfInBounds j true from by simp] at hx'
    rcases hS with hS | hS
    · exact .inl ⟨hS, _, hx'⟩
    · exact .inr ⟨hS x w' h2, wpX_mono (hS x) _ _ _ _ hx'⟩ :
      (waitsAll ops listed.toArray j = true ∧ ∃ S', wpX r P ops Q fuel S' (listed.toArray.setIfInBounds j true) a' w') ∨ (S w' ∧ wpX r P ops Q fuel S (listed.toArray.setIfInBounds j true) a' w')))
theorem tx_eg {fuel : Nat} {S : World → Prop} {listed : List Bool} (i : Nat) {d : Option Tmp} {op : Op} {ty : TypeId} {pos : String} {after : Array Edge} {j : Nat} {b : Bool} {t : Tmp}
    {α : Type} {p : α → Prop} {F' : α → List (Nat × Value)} {bs' : α → List (World × List Nat)} {H' : α → List (Nat × Obj)}
    (hi : ops[i]? = some ⟨d, op, ty, pos, after, some (j, b)⟩) (hr : Region.ready .any ops listed.toArray = [i]) (hn : notDefer op = true) (k1 : gdT ops j = some t) (k2 : look F t = some (.bool b)) (he : OpE P ⟨d, op, ty, pos, after, some (j, b)⟩ N F bs H p F' bs' H')
    (hS : waitsAll ops listed.toArray i = true ∨ ∀ x w, HG (bs' x) (H' x) w → S w)
    (h : ∀ x, p x → TX r P ops Q fuel (HG (bs' x) (H' x)) (listed.set i true).toArray N (F' x) (bs' x) (H' x)) : TX r P ops Q (fuel + 1) S listed.toArray N F bs H := fun a w ht hw => by
  refine ⟨fun h0 => (by rw [h0] at hr; cases hr), fun j' hj => ?_⟩
  rw [hr] at hj
  obtain rfl : j' = i := by simpa using hj
  unfold wpOpIn
  simp only [hi]
  rw [if_pos (by simp [Region.wanted, yielded_of ht k1 k2])]
  exact wpIn_of_wp hn <| he a w ht hw _ Q (fun x a' w' hx h1 h2 => (by
    have hx' := h x hx a' w' h1 h2
    rw [show (listed.set j' true).toArray = listed.toArray.setIfInBounds j' true from by simp] at hx'
    rcases hS with hS | hS
    · exact .inl ⟨hS, _, hx'⟩
    · exact .inr ⟨hS x w' h2, wpX_mono (hS x) _ _ _ _ hx'⟩ :
      (waitsAll ops listed.toArray j' = true ∧ ∃ S', wpX r P ops Q fuel S' (listed.toArray.setIfInBounds j' true) a' w') ∨ (S w' ∧ wpX r P ops Q fuel S (listed.toArray.setIfInBounds j' true) a' w')))
theorem tx_done {fuel : Nat} {S : World → Prop} {listed : Array Bool} (hr : Region.ready .any ops listed = []) (h : TK (Q .normal) N F bs H) : TX r P ops Q fuel S listed N F bs H := fun a w ht hw => wpX_done hr (h a w ht hw) fuel
end
end Go.Sp
namespace Go.Sp
open Go
/-- A contract: it returns v; nothing that was there has turned. -/
def CnV (P : Program) (g : FuncId) (args : Array Value) (w : World) (v : Value) : Prop :=
  Calls P g args w fun e w' => e = .returned v ∧ Fr [] w w'
/-- A contract: for some x with p x (of the world behind it) it returns val x; nothing that was there has turned but S. -/
def CnX (P : Program) (g : FuncId) (args : Array Value) (w : World) (S : List Nat) {α : Type} (val : α → Value) (p : α → World → Prop) : Prop :=
  Calls P g args w fun e w' => ∃ x, e = .returned (val x) ∧ Fr S w w' ∧ p x w'
theorem setCell_heap (w : World) (b o : Nat) (v : Value) (c : Array Value) (e : TypeId) (f : Nat × Nat) (h : w.heap[b]? = some (.cells c e f)) :
    (w.setCell ⟨b, o, none⟩ v).heap = w.heap.setIfInBounds b (.cells (c.setIfInBounds o v) e f) := by
  apply Array.ext_getElem?
  intro i
  simp only [World.setCell, Array.getElem?_modify, Array.getElem?_setIfInBounds]
  by_cases hi : b = i
  · subst hi
    have hb : b < w.heap.size := by
      rcases Nat.lt_or_ge b w.heap.size with h' | h'
      · exact h'
      · rw [Array.getElem?_eq_none h'] at h; cases h
    obtain ⟨_, hg⟩ := Array.getElem?_eq_some_iff.1 h
    simp [hb, hg]
  · simp [hi]
inductive LU : Nat → Value → List Value → List Value → Prop
  | head {v x : Value} {l : List Value} : LU 0 v (x :: l) (v :: l)
  | tail {n : Nat} {v x : Value} {l l' : List Value} : LU n v l l' → LU (n + 1) v (x :: l) (x :: l')
theorem LU.eq {n : Nat} {v : Value} {l l' : List Value} (h : LU n v l l') : l' = l.set n v ∧ n < l.length := by
  induction h with
  | head => simp
  | tail _ ih => simp [ih.1.symm, ih.2]
section
variable {P : Program} {N : NN} {F : List (Nat × Value)} {bs : List (World × List Nat)} {H : List (Nat × Obj)}
  {d : Tmp} {ty : TypeId} {pos : String} {after : Array Edge} {g : Option (Nat × Bool)}
theorem e_alloc1 {t : TypeId} {z : Value} [h : TyOne P t z] (hd : Nat.blt d N.n = true) :
    OpE P ⟨some d, .alloc t, ty, pos, after, g⟩ N F bs H (fun _ : Nat => True) (fun b => (d, .pointer (some ⟨b, 0, none⟩)) :: F) (fun _ => bs) (fun b => (b, .cells #[z] t (0, 0)) :: H) := fun a w ht hw K Q hK => by
  obtain ⟨i, hi, _, hz⟩ := h.info
  unfold Oper.wp
  simp only [execOp, Instr.alloc, Sem.run_bind, zeroValue_run hi hz, Result.andThen, newVar, newRow, h.zc, Sem.run_pure, run_newObj, Oper.upon]
  exact hK w.heap.size _ _ trivial (ht.put hd _) (hw.alloc _)
theorem e_allocN {t : TypeId} {n : Nat} {zs : Array Value} [h : TyAgg P t n zs] (hd : Nat.blt d N.n = true) :
    OpE P ⟨some d, .alloc t, ty, pos, after, g⟩ N F bs H (fun _ : Nat => True) (fun b => (d, .pointer (some ⟨b, 0, none⟩)) :: F) (fun _ => bs) (fun b => (b, .cells zs t (0, 0)) :: H) := fun a w ht hw K Q hK => by
  obtain ⟨i, hi, _, hz⟩ := h.info
  unfold Oper.wp
  simp only [execOp, Instr.alloc, Sem.run_bind, zeroValue_run hi hz, Result.andThen, newVar, newRow, Value.cells, Sem.run_pure, run_newObj, Oper.upon]
  exact hK w.heap.size _ _ trivial (ht.put hd _) (hw.alloc _)
theorem e_box {t : TypeId} {x : Operand} {v : Value} {c : Array Value} (h : evalO F x = some v) (hc : v.cells = c) (hd : Nat.blt d N.n = true) :
    OpE P ⟨some d, .box t x, ty, pos, after, g⟩ N F bs H (fun _ : Nat => True) (fun b => (d, .pointer (some ⟨b, 0, none⟩)) :: F) (fun _ => bs) (fun b => (b, .cells c t (0, 0)) :: H) := fun a w ht hw K Q hK => by
  unfold Oper.wp
  simp only [execOp, Instr.box, Sem.run_bind, ht.eval h, Result.andThen, newVar, newRow, hc, Sem.run_pure, run_newObj, Oper.upon]
  exact hK w.heap.size _ _ trivial (ht.put hd _) (hw.alloc _)
theorem e_makeMap {t : TypeId} (hd : Nat.blt d N.n = true) :
    OpE P ⟨some d, .makeMap t none, ty, pos, after, g⟩ N F bs H (fun _ : Nat => True) (fun b => (d, .map (some b)) :: F) (fun _ => bs) (fun b => (b, .map #[] 0) :: H) := fun a w ht hw K Q hK => by
  unfold Oper.wp
  simp only [execOp, Instr.makeMap, Sem.run_bind, Option.map_none, Result.andThen, Sem.run_pure, run_newObj, Oper.upon]
  exact hK w.heap.size _ _ trivial (ht.put hd _) (hw.alloc _)
/-- A store of one cell into a block that is known. -/
theorem e_store1g {t : TypeId} {z : Value} [h : TyOne P t z] {x y : Operand} {b o : Nat} {v : Value} {c : Array Value} {e : TypeId} {H' : List (Nat × Obj)}
    (hx : evalO F x = some (.pointer (some ⟨b, o, none⟩))) (hy : evalO F y = some v) (hv : v.cells = #[v]) (ho : v.oneCell' = true) (hlt : o < c.size)
    (hu : HU b (.cells c e (0, 0)) (.cells (c.setIfInBounds o v) e (0, 0)) H H') :
    OpE P ⟨none, .store t x y, ty, pos, after, g⟩ N F bs H (fun _ : Unit => True) (fun _ => F) (fun _ => bs) (fun _ => H') := fun a w ht hw K Q hK => by
  obtain ⟨i, hi, hs, _⟩ := h.info
  have hb := hw.heap _ hu.mem
  have hcell : w.cell? ⟨b, o, none⟩ = some (c[o]) := by simp [World.cell?, hb, hlt]
  have hfz : w.frozen? ⟨b, o, none⟩ = false := by simp [World.frozen?, hb]
  have hz : (sizeOf t).run P w = .ok 1 w := sizeOf_run (by simp [hi, hs]) w
  have ha : (⟨b, o, none⟩ : Addr).add 0 = ⟨b, o, none⟩ := rfl
  unfold Oper.wp
  simp only [execOp, Instr.storeAt, Instr.sureAddr, Sem.run_bind, ht.eval hx, ht.eval hy, Result.andThen, Sem.run_pure, storeVar, hz, hv, storeCells, ha]
  simp only [List.size_toArray, List.length_cons, List.length_nil, Nat.zero_add, ne_eq, not_true, if_false, storeCells, Sem.run_bind, ha, run_store P w _ v _ ho, hcell, hfz, Bool.false_eq_true, Result.andThen, Sem.run_pure, Oper.upon]
  exact hK () _ _ trivial ht (hw.set hu ⟨rfl, rfl, rfl, setCell_heap w b o v c e (0, 0) hb⟩)
theorem e_store1 {t : TypeId} {z : Value} [h : TyOne P t z] {x y : Operand} {b o : Nat} {v : Value} {l l' : List Value} {e : TypeId} {H' : List (Nat × Obj)}
    (hx : evalO F x = some (.pointer (some ⟨b, o, none⟩))) (hy : evalO F y = some v) (hu : HU b (.cells l.toArray e (0, 0)) (.cells l'.toArray e (0, 0)) H H')
    (hl : LU o v l l') (hv : v.cells = #[v]) (ho : v.oneCell' = true) :
    OpE P ⟨none, .store t x y, ty, pos, after, g⟩ N F bs H (fun _ : Unit => True) (fun _ => F) (fun _ => bs) (fun _ => H') :=
  e_store1g hx hy hv ho (c := l.toArray) (by simpa using hl.eq.2) (by rw [show l.toArray.setIfInBounds o v = l'.toArray by simp [hl.eq.1]]; exact hu)
theorem storeCells_at {b o : Nat} {e : TypeId} : ∀ (vs : List Value) (i : Nat) (w : World) (c : Array Value), w.heap[b]? = some (.cells c e (0, 0)) → o + i + vs.length ≤ c.size → (∀ v ∈ vs, v.oneCell' = true) →
    ∃ w' c', (storeCells ⟨b, o, none⟩ vs i).run P w = .ok () w' ∧ w'.os = w.os ∧ w'.tape = w.tape ∧ w'.output = w.output ∧ w'.heap = w.heap.setIfInBounds b (.cells c' e (0, 0)) ∧ c'.size = c.size ∧
      (∀ k, c'[k]? = if o + i ≤ k ∧ k < o + i + vs.length then vs[k - (o + i)]? else c[k]?) := by
  intro vs
  induction vs with
  | nil =>
    intro i w c h hl hv
    refine ⟨w, c, by simp [storeCells], rfl, rfl, rfl, ?_, rfl, fun k => ?_⟩
    · apply Array.ext_getElem?
      intro j
      rw [Array.getElem?_setIfInBounds]
      split
      · rename_i hj; subst hj; split
        · exact h
        · rename_i hn; rw [Array.getElem?_eq_none (by omega)] at h; cases h
      · rfl
    · rw [if_neg (by simp only [List.length_nil]; omega)]
  | cons v vs ih =>
    intro i w c h hl hv
    have ha : (⟨b, o, none⟩ : Addr).add i = ⟨b, o + i, none⟩ := by
      unfold Addr.add; split
      · rename_i h0; rw [h0]; rfl
      · rfl
    have hlt : o + i < c.size := by simp at hl; omega
    have hcell : w.cell? ⟨b, o + i, none⟩ = some (c[o + i]) := by simp [World.cell?, h, hlt]
    have hfz : w.frozen? ⟨b, o + i, none⟩ = false := by simp [World.frozen?, h]
    have hh := setCell_heap w b (o + i) v c e (0, 0) h
    have hb : b < w.heap.size := by
      rcases Nat.lt_or_ge b w.heap.size with h' | h'
      · exact h'
      · rw [Array.getElem?_eq_none h'] at h; cases h
    obtain ⟨w', c', h1, h2, h3, h4, h5, h6, h7⟩ := ih (i + 1) (w.setCell ⟨b, o + i, none⟩ v) (c.setIfInBounds (o + i) v) (by rw [hh, Array.getElem?_setIfInBounds]; simp [hb]) (by simp at hl ⊢; omega) (fun u hu => hv u (List.mem_cons_of_mem _ hu))
    refine ⟨w', c', ?_, h2, h3, h4, ?_, by simpa using h6, fun k => ?_⟩
    · simp only [storeCells, Sem.run_bind, ha, run_store P w _ v _ (hv v List.mem_cons_self), hcell, hfz, Bool.false_eq_true, if_false, Result.andThen]
      exact h1
    · rw [h5, hh]; simp
    · rw [h7 k]
      by_cases hk : o + (i + 1) ≤ k ∧ k < o + (i + 1) + vs.length
      · rw [if_pos hk, if_pos (by simp only [List.length_cons]; omega), show k - (o + i) = (k - (o + (i + 1))) + 1 by omega]; simp
      · rw [if_neg hk, Array.getElem?_setIfInBounds]
        by_cases hk' : o + i = k
        · subst hk'; simp [hlt]
        · rw [if_neg hk', if_neg (by simp only [List.length_cons]; omega)]
theorem storeCells_whole {w : World} {b : Nat} {e : TypeId} (vs : List Value) (i : Nat) (w : World) (c : Array Value) (h : w.heap[b]? = some (.cells c e (0, 0))) (hl : i + vs.length ≤ c.size) (hv : ∀ v ∈ vs, v.oneCell' = true) :
    ∃ w' c', (storeCells ⟨b, 0, none⟩ vs i).run P w = .ok () w' ∧ w'.os = w.os ∧ w'.tape = w.tape ∧ w'.output = w.output ∧ w'.heap = w.heap.setIfInBounds b (.cells c' e (0, 0)) ∧ c'.size = c.size ∧
      (∀ k, c'[k]? = if i ≤ k ∧ k < i + vs.length then vs[k - i]? else c[k]?) := by
  have := storeCells_at (P := P) (b := b) (o := 0) (e := e) vs i w c h (by omega) hv
  simpa using this
theorem e_storeW {t : TypeId} {n : Nat} {zs : Array Value} [h : TyAgg P t n zs] {x y : Operand} {b : Nat} {cs c : Array Value} {e : TypeId} {H' : List (Nat × Obj)}
    (hx : evalO F x = some (.pointer (some ⟨b, 0, none⟩))) (hy : evalO F y = some (.agg cs)) (hu : HU b (.cells c e (0, 0)) (.cells cs e (0, 0)) H H')
    (hn : cs.size = n) (hc : c.size = n) (ho : ∀ v ∈ cs.toList, v.oneCell' = true) :
    OpE P ⟨none, .store t x y, ty, pos, after, g⟩ N F bs H (fun _ : Unit => True) (fun _ => F) (fun _ => bs) (fun _ => H') := fun a w ht hw K Q hK => by
  obtain ⟨i, hi, hs, _⟩ := h.info
  have hb := hw.heap _ hu.mem
  have hz : (sizeOf t).run P w = .ok n w := sizeOf_run (by simp [hi, hs]) w
  obtain ⟨w', c', h1, h2, h3, h4, h5, h6, h7⟩ := storeCells_whole (P := P) (w := w) cs.toList 0 w c hb (by simp; omega) ho
  have hcc : c' = cs := by
    apply Array.ext_getElem?
    intro k
    rw [h7 k]
    by_cases hk : k < cs.size
    · rw [if_pos (by simp; omega)]; simp
    · rw [if_neg (by simp; omega), Array.getElem?_eq_none (by omega), Array.getElem?_eq_none (by omega)]
  subst hcc
  unfold Oper.wp
  simp only [execOp, Instr.storeAt, Instr.sureAddr, Sem.run_bind, ht.eval hx, ht.eval hy, Result.andThen, Sem.run_pure, storeVar, hz, Value.cells, hn, ne_eq, not_true, if_false, h1, Oper.upon]
  exact hK () _ _ trivial ht (hw.set hu ⟨h2, h3, h4, h5⟩)
theorem callFunc_run {f : FuncId} [h : GoFn P f] (args : Array Value) (w : World) : (callFunc f args).run P w = .ok (.enter f args) w := by
  obtain ⟨fn, h1, h2, h3⟩ := h.fn
  simp only [callFunc, Sem.run_bind, run_program, Result.andThen, h1, h2, h3, if_false, Bool.false_eq_true, Sem.run_pure]
theorem exec_call {f : FuncId} [GoFn P f] {x : Operand} {xs : List Operand} {tys : Array TypeId} {vs : List Value} {first cap : Array Value}
    (hx : evalO F x = some (.func (.func f) first cap)) (hxs : EA F xs vs) {a : Act} (ht : TF N F a) (w : World) :
    (execOp a.eval ⟨some d, .call ⟨.value x, xs.toArray, tys⟩, ty, pos, after, g⟩).run P w = .ok (.enter f (first ++ vs.toArray ++ cap)) w := by
  simp only [execOp, resolve, Sem.run_bind, ht.eval hx, Deferred.ofValue, Sem.run_pure, Result.andThen, invoke, hxs.map ht, callFunc_run]
/-- A call of a plain function by a contract 'returns v'. -/
theorem e_callV {f : FuncId} [GoFn P f] {xs : List Operand} {tys : Array TypeId} {vs : List Value} {v : Value}
    (hd : Nat.blt d N.n = true) (hxs : EA F xs vs) (hc : ∀ w, HG bs H w → CnV P f vs.toArray w v) :
    OpE P ⟨some d, .call ⟨.value (.func f), xs.toArray, tys⟩, ty, pos, after, g⟩ N F bs H (fun _ : Unit => True) (fun _ => (d, v) :: F) (fun _ => bs) (fun _ => H) := fun a w ht hw K Q hK => by
  unfold Oper.wp
  rw [exec_call (x := .func f) rfl hxs ht w]
  simp only [Oper.upon]
  simp only [Array.empty_append, Array.append_empty]
  refine (hc w hw).mono fun e w' he => ?_
  obtain ⟨rfl, hf⟩ := he
  exact hK () _ _ trivial (ht.put hd _) (hw.call hf)
/-- The same of a function value. -/
theorem e_callVf {f : FuncId} [GoFn P f] {x : Operand} {xs : List Operand} {tys : Array TypeId} {vs : List Value} {first cap : Array Value} {v : Value}
    (hd : Nat.blt d N.n = true) (hx : evalO F x = some (.func (.func f) first cap)) (hxs : EA F xs vs) (hc : ∀ w, HG bs H w → CnV P f (first ++ vs.toArray ++ cap) w v) :
    OpE P ⟨some d, .call ⟨.value x, xs.toArray, tys⟩, ty, pos, after, g⟩ N F bs H (fun _ : Unit => True) (fun _ => (d, v) :: F) (fun _ => bs) (fun _ => H) := fun a w ht hw K Q hK => by
  unfold Oper.wp
  rw [exec_call hx hxs ht w]
  simp only [Oper.upon]
  refine (hc w hw).mono fun e w' he => ?_
  obtain ⟨rfl, hf⟩ := he
  exact hK () _ _ trivial (ht.put hd _) (hw.call hf)
/-- A call of a plain function: for some x it returns val x; the world behind it is a base. -/
theorem e_callX {f : FuncId} [GoFn P f] {xs : List Operand} {tys : Array TypeId} {vs : List Value} {α : Type} {val : α → Value} {p : α → World → Prop}
    (hd : Nat.blt d N.n = true) (hxs : EA F xs vs) (hc : ∀ w, HG bs H w → CnX P f vs.toArray w [] val p) :
    OpE P ⟨some d, .call ⟨.value (.func f), xs.toArray, tys⟩, ty, pos, after, g⟩ N F bs H (fun y : α × World => p y.1 y.2 ∧ HG bs H y.2) (fun y => (d, val y.1) :: F) (fun y => (y.2, H.map Prod.fst) :: bs) (fun _ => H) := fun a w ht hw K Q hK => by
  unfold Oper.wp
  rw [exec_call (x := .func f) rfl hxs ht w]
  simp only [Oper.upon]
  simp only [Array.empty_append, Array.append_empty]
  refine (hc w hw).mono fun e w' he => ?_
  obtain ⟨x, rfl, hf, hp⟩ := he
  exact hK (x, w') _ _ ⟨hp, hw.call hf⟩ (ht.put hd _) (hw.call hf).push
/-- A call of a plain function: for some x it returns val x, and a new block ob x lies at bk x. -/
theorem e_callB {f : FuncId} [GoFn P f] {xs : List Operand} {tys : Array TypeId} {vs : List Value} {α : Type} {val : α → Value} {p : α → Prop} {bk : α → Nat} {ob : α → Obj}
    (hd : Nat.blt d N.n = true) (hxs : EA F xs vs) (hc : ∀ w, HG bs H w → CnX P f vs.toArray w [] val (fun x w' => p x ∧ w.heap.size ≤ bk x ∧ w'.heap[bk x]? = some (ob x))) :
    OpE P ⟨some d, .call ⟨.value (.func f), xs.toArray, tys⟩, ty, pos, after, g⟩ N F bs H p (fun y => (d, val y) :: F) (fun _ => bs) (fun y => (bk y, ob y) :: H) := fun a w ht hw K Q hK => by
  unfold Oper.wp
  rw [exec_call (x := .func f) rfl hxs ht w]
  simp only [Oper.upon]
  simp only [Array.empty_append, Array.append_empty]
  refine (hc w hw).mono fun e w' he => ?_
  obtain ⟨x, rfl, hf, hp, h1, h2⟩ := he
  exact hK x _ _ hp (ht.put hd _) (hw.add hf h1 h2)
end
inductive RV (P : Program) (F : List (Nat × Value)) (bs : List (World × List Nat)) (H : List (Nat × Obj)) : ResultVar → Value → Prop
  | tmp {t : Tmp} {v : Value} : look F t = some v → RV P F bs H (.tmp t) v
  | one {t : Tmp} {ty : TypeId} {b o : Nat} {z v : Value} {obj : Obj} : TyOne P ty z → look F t = some (.pointer (some ⟨b, o, none⟩)) → HM b obj H → cellAt obj o = some v → RV P F bs H (.cell t ty) v
  | agg {t : Tmp} {ty : TypeId} {b : Nat} {n : Nat} {zs c : Array Value} {e : TypeId} {f : Nat × Nat} : TyAgg P ty n zs → look F t = some (.pointer (some ⟨b, 0, none⟩)) → HM b (.cells c e f) H → c.size = n → RV P F bs H (.cell t ty) (.agg c)
inductive RVs (P : Program) (F : List (Nat × Value)) (bs : List (World × List Nat)) (H : List (Nat × Obj)) : List ResultVar → List Value → Prop
  | nil : RVs P F bs H [] []
  | cons {r : ResultVar} {v : Value} {rs : List ResultVar} {vs : List Value} : RV P F bs H r v → RVs P F bs H rs vs → RVs P F bs H (r :: rs) (v :: vs)
def outV : List Value → Value
  | [v] => v
  | vs => .tuple vs.toArray
theorem mapM_results {P : Program} {N : NN} {F : List (Nat × Value)} {bs : List (World × List Nat)} {H : List (Nat × Obj)} {rs : List ResultVar} {vs : List Value} (h : RVs P F bs H rs vs) {a : Act} {w : World} (ht : TF N F a) (hw : HG bs H w)
    (φ : ResultVar → Sem Value) (h1 : ∀ t, φ (.tmp t) = pure (a.tmps.getD t undef)) (h2 : ∀ p t, φ (.cell p t) = do loadVar t (← asAddr (a.tmps.getD p undef))) :
    (rs.mapM φ : Sem (List Value)).run P w = .ok vs w := by
  induction h with
  | nil => simp
  | @cons r v rs vs hr _ ih =>
    have h1 : (φ r).run P w = .ok v w := by
      cases hr with
      | tmp hl => simp [h1, ht.tmp _ _ hl]
      | @one t ty b o z v obj hty hl hm hc =>
        have := @loadVar_one P _ _ hty w _ _ (cellAt_cell? (hw.heap _ hm.mem) hc)
        simp [h2, ht.tmp _ _ hl, asAddr, Result.andThen, this]
      | @agg t ty b n zs c e f hty hl hm hn =>
        have := @loadVar_agg P ty n zs hty w b 0 c.toList ((CA_whole (t := e) (f := f) hn).cells (hw.heap _ hm.mem))
        simp [h2, ht.tmp _ _ hl, asAddr, Result.andThen, this]
    rw [List.mapM_cons]
    simp only [Sem.run_bind, h1, Result.andThen, ih, Sem.run_pure]
theorem results_run {P : Program} {N : NN} {F : List (Nat × Value)} {bs : List (World × List Nat)} {H : List (Nat × Obj)} {fn : Func} {rs : List ResultVar} {vs : List Value} (hf : fn.results = rs.toArray) (h : RVs P F bs H rs vs) {a : Act} {w : World} (ht : TF N F a) (hw : HG bs H w) :
    (results fn a.tmps).run P w = .ok (outV vs) w := by
  unfold results
  rw [hf]
  rw [List.mapM_toArray]
  simp only [Sem.run_bind, Sem.run_map]
  rw [mapM_results h ht hw _ (fun _ => rfl) (fun _ _ => rfl)]
  simp only [Result.andThen, Sem.run_pure]
  congr 1
  match vs with
  | [] => simp [outV]
  | [v] => simp [outV]
  | v :: u :: vs => simp [outV]
/-- What a function's body must achieve. -/
def bodyP (P : Program) (fn : Func) (R : Ending → World → Prop) : Exit → Act → World → Prop
  | .normal, a, w | .ret, a, w => LeavesInM (FW none) 0 P fn a.tmps R a.defers .returning w
  | _, _, _ => False
theorem bodyP_M {P : Program} {fn : Func} {R : Ending → World → Prop} (e : Exit) (a : Act) (w : World) (h : bodyP P fn R e a w) : bodyPostM (FW none) 0 P fn R e a w := by
  cases e <;> first | exact h | exact h.elim
section
variable {P : Program} {N : NN} {F : List (Nat × Value)} {bs : List (World × List Nat)} {H : List (Nat × Obj)} {fn : Func} {R : Ending → World → Prop}
theorem tk_ret {rs : List ResultVar} {vs : List Value} (hds : N.ds = []) (hf : fn.results = rs.toArray) (h : RVs P F bs H rs vs) (hR : ∀ w, HG bs H w → R (.returned (outV vs)) w) : TK (bodyP P fn R .ret) N F bs H := fun a w ht hw => by
  show LeavesInM (FW none) 0 P fn a.tmps R a.defers .returning w
  rw [ht.defers, hds]
  exact ⟨_, results_run hf h ht hw, hR w hw⟩
theorem tk_end {rs : List ResultVar} {vs : List Value} (hds : N.ds = []) (hf : fn.results = rs.toArray) (h : RVs P F bs H rs vs) (hR : ∀ w, HG bs H w → R (.returned (outV vs)) w) : TK (bodyP P fn R .normal) N F bs H := tk_ret hds hf h hR
end
theorem tk_start {N : NN} {F : List (Nat × Value)} {bs : List (World × List Nat)} {H : List (Nat × Obj)} {α : Type} {I : α → Prop} {F' : α → List (Nat × Value)} {bs' : α → List (World × List Nat)} {H' : α → List (Nat × Obj)} (x : α)
    (hI : I x) (hF : Sub F (F' x)) (hH : ∀ w, HG bs H w → HG (bs' x) (H' x) w) : TK (fun a w => ∃ x, I x ∧ TF N (F' x) a ∧ HG (bs' x) (H' x) w) N F bs H := fun a w ht hw => ⟨x, hI, ht.sub hF, hH w hw⟩
theorem tk_round {N : NN} {F : List (Nat × Value)} {bs : List (World × List Nat)} {H : List (Nat × Obj)} {α : Type} {I : α → Prop} {F' : α → List (Nat × Value)} {bs' : α → List (World × List Nat)} {H' : α → List (Nat × Obj)} {μ : α → Nat} {m : Nat} {Q : Exit → Act → World → Prop} (x : α)
    (hI : I x) (hm : μ x < m) (hF : Sub F (F' x)) (hH : ∀ w, HG bs H w → HG (bs' x) (H' x) w) : TK (Exit.then (fun a w => ∃ x, I x ∧ μ x < m ∧ TF N (F' x) a ∧ HG (bs' x) (H' x) w) Q .normal) N F bs H := fun a w ht hw => ⟨x, hI, hm, ht.sub hF, hH w hw⟩
theorem tk_then_ret {K : Act → World → Prop} {Q : Exit → Act → World → Prop} {N : NN} {F : List (Nat × Value)} {bs : List (World × List Nat)} {H : List (Nat × Obj)} (h : TK (Q .ret) N F bs H) : TK (Exit.then K Q .ret) N F bs H := h
theorem tk_block_ret {id : Nat} {Q : Exit → Act → World → Prop} {N : NN} {F : List (Nat × Value)} {bs : List (World × List Nat)} {H : List (Nat × Obj)} (h : TK (Q .ret) N F bs H) : TK (Exit.inBlock id Q .ret) N F bs H := h
/-- The beginning. -/
def argF : Nat → List Value → List (Nat × Value)
  | _, [] => []
  | n, v :: vs => (n, v) :: argF (n + 1) vs
theorem look_argF {vs : List Value} {n k : Nat} {v : Value} (h : look (argF n vs) k = some v) : n ≤ k ∧ vs[k - n]? = some v := by
  induction vs generalizing n with
  | nil => simp [argF, look] at h
  | cons u us ih =>
    simp only [argF, look] at h
    by_cases e : n = k
    · subst e; simp at h; simp [h]
    · rw [beq_no e] at h
      obtain ⟨h1, h2⟩ := ih h
      exact ⟨by omega, by rw [show k - n = (k - (n + 1)) + 1 by omega]; simpa using h2⟩
theorem calls_tc {P : Program} {f : FuncId} {fn : Func} {c : Code} {vs : List Value} {w : World} {R : Ending → World → Prop} {S : List Nat} {H : List (Nat × Obj)} (hf : P.funcs[f]? = some fn) (hb : fn.body = some c) (hn : Nat.ble vs.length fn.ntmps = true)
    (hH : (∀ p ∈ H, w.heap[p.1]? = some p.2) ∧ (H.map Prod.fst).Nodup ∧ ∀ p ∈ H, p.1 ∈ S)
    (h : TC none P c (bodyP P fn R) ⟨fn.ntmps, []⟩ (argF 0 vs) [(w, S)] H) : Calls P f vs.toArray w R := by
  refine callsIn_wide.1 (callsIn_of_wp_marks (F := FW none) (n := 0) hf hb trivial (wpIn_mono (h _ w ⟨rfl, ?_, fun k v hk => ?_⟩ ⟨fun β hβ => ?_, hH.1, hH.2.1, fun p hp β hβ => ?_⟩) bodyP_M))
  · have : vs.length ≤ fn.ntmps := by simpa using hn
    simp; omega
  · obtain ⟨_, h2⟩ := look_argF hk
    simp only [Nat.sub_zero] at h2
    have hlt : k < vs.length := (List.getElem?_eq_some_iff.1 h2).1
    rw [Array.getElem?_append_left (by simpa using hlt)]
    simpa using h2
  · obtain rfl : β = (w, S) := by simpa using hβ
    exact Fr.refl _ _
  · obtain rfl : β = (w, S) := by simpa using hβ
    exact .inl (hH.2.2 p hp)
theorem calls_tc0 {P : Program} {f : FuncId} {fn : Func} {c : Code} {vs : List Value} {w : World} {R : Ending → World → Prop} (hf : P.funcs[f]? = some fn) (hb : fn.body = some c) (hn : Nat.ble vs.length fn.ntmps = true)
    (h : TC none P c (bodyP P fn R) ⟨fn.ntmps, []⟩ (argF 0 vs) [(w, [])] []) : Calls P f vs.toArray w R := calls_tc hf hb hn ⟨by simp, by simp, by simp⟩ h
theorem CnV.of {P : Program} {g : FuncId} {args : Array Value} {w : World} {v : Value} (h : Calls P g args w fun e w' => e = .returned v ∧ Fr [] w w') : CnV P g args w v := h
theorem CnX.of {P : Program} {g : FuncId} {args : Array Value} {w : World} {S : List Nat} {α : Type} {val : α → Value} {p : α → World → Prop} (h : Calls P g args w fun e w' => ∃ x, e = .returned (val x) ∧ Fr S w w' ∧ p x w') : CnX P g args w S val p := h
theorem CnV.out {P : Program} {g : FuncId} {args : Array Value} {w : World} {v : Value} (h : CnV P g args w v) : Calls P g args w fun e w' => e = .returned v ∧ Fr [] w w' := h
theorem CnX.out {P : Program} {g : FuncId} {args : Array Value} {w : World} {S : List Nat} {α : Type} {val : α → Value} {p : α → World → Prop} (h : CnX P g args w S val p) : Calls P g args w fun e w' => ∃ x, e = .returned (val x) ∧ Fr S w w' ∧ p x w' := h
/-- A walk for 'returns v'. -/
theorem cnv {P : Program} {f : FuncId} {fn : Func} {c : Code} {vs : List Value} {w : World} {v : Value} (hf : P.funcs[f]? = some fn) (hb : fn.body = some c) (hn : Nat.ble vs.length fn.ntmps = true)
    (h : TC none P c (bodyP P fn fun e w' => e = .returned v ∧ Fr [] w w') ⟨fn.ntmps, []⟩ (argF 0 vs) [(w, [])] []) : CnV P f vs.toArray w v := calls_tc0 hf hb hn h
theorem cnx0 {P : Program} {f : FuncId} {fn : Func} {c : Code} {vs : List Value} {w : World} {α : Type} {val : α → Value} {p : α → World → Prop} (hf : P.funcs[f]? = some fn) (hb : fn.body = some c) (hn : Nat.ble vs.length fn.ntmps = true)
    (h : TC none P c (bodyP P fn fun e w' => ∃ x, e = .returned (val x) ∧ Fr [] w w' ∧ p x w') ⟨fn.ntmps, []⟩ (argF 0 vs) [(w, [])] []) : CnX P f vs.toArray w [] val p := calls_tc0 hf hb hn h
theorem HG.fr {bs : List (World × List Nat)} {H : List (Nat × Obj)} {w w0 : World} {S : List Nat} (h : HG bs H w) (hm : (w0, S) ∈ bs) : Fr S w0 w := h.base _ hm
end Go.Sp
namespace Go.Sp
open Go
/-- The places of a struct's fields. -/
class TyPlaces (P : Program) (t : TypeId) (pl : outParam (List (Nat × Nat))) : Prop where
  ty : ∃ fs, P.underlying t = some (.struct fs) ∧ ∀ w, ((fs.toList.mapM fun f => (do pure (f.offset, ← sizeOf f.type) : Sem (Nat × Nat))) : Sem (List (Nat × Nat))).run P w = .ok pl w
section
variable {P : Program} {F : List (Nat × Value)} {bs : List (World × List Nat)} {H : List (Nat × Obj)} {N : NN}
  {d : Option Tmp} {ty : TypeId} {pos : String} {after : Array Edge} {g : Option (Nat × Bool)}
theorem build_run {t : TypeId} {pl : List (Nat × Nat)} {n : Nat} {zs : Array Value} [hp : TyPlaces P t pl] [hz : TyAgg P t n zs] {parts : Array (Nat × Value)} {cells : Array Value}
    (hf : Instr.fill (pl[·]?) zs parts.toList = some cells) (w : World) : (Instr.build t parts).run P w = .ok (.agg cells) w := by
  obtain ⟨i, hi, _, hz'⟩ := hz.info
  obtain ⟨fs, hu, hfs⟩ := hp.ty
  have h1 : ((fs.mapM fun f => (do pure (f.offset, ← sizeOf f.type) : Sem (Nat × Nat))) : Sem (Array (Nat × Nat))).run P w = .ok pl.toArray w := by
    have : fs = fs.toList.toArray := by simp
    rw [this, List.mapM_toArray, Sem.run_map, hfs w]
    rfl
  simp only [Instr.build, Sem.run_bind, Sem.run_map, zeroValue_run hi hz', Result.andThen, underlying_run hu, Value.cells, h1]
  simp only [List.getElem?_toArray, hf, Sem.run_pure]
theorem fill_one {pl : Nat → Option (Nat × Nat)} {cells : List Value} {i o : Nat} {v : Value} {rest : List (Nat × Value)} {out : Option (Array Value)} (hp : pl i = some (o, 1)) (hv : v.cells = #[v]) (ho : o < cells.length)
    (h : Instr.fill pl (cells.set o v).toArray rest = out) : Instr.fill pl cells.toArray ((i, v) :: rest) = out := by
  simp only [Instr.fill, hp, hv]
  rw [if_neg (by simp; omega)]
  simpa using h
theorem y_build_0 {t : TypeId} {pl : List (Nat × Nat)} {n : Nat} {zs : Array Value} [TyPlaces P t pl] [TyAgg P t n zs] :
    OpY P ⟨d, .build t #[], ty, pos, after, g⟩ F bs H (.agg zs) := fun N a w ht hw => by
  simp [execOp, build_run (P := P) (t := t) (parts := #[]) (cells := zs) rfl, Result.andThen]
theorem y_build_2 {t : TypeId} {z0 z1 : Value} [TyPlaces P t [(0, 1), (1, 1)]] [TyAgg P t 2 #[z0, z1]] {x0 x1 : Operand} {v0 v1 : Value} (h0 : evalO F x0 = some v0) (h1 : evalO F x1 = some v1) (c0 : v0.cells = #[v0]) (c1 : v1.cells = #[v1]) :
    OpY P ⟨d, .build t #[(0, x0), (1, x1)], ty, pos, after, g⟩ F bs H (.agg #[v0, v1]) := fun N a w ht hw => by
  have := build_run (P := P) (t := t) (parts := #[(0, v0), (1, v1)]) (cells := #[v0, v1]) (fill_one rfl c0 (by simp) (fill_one rfl c1 (by simp) rfl)) w
  simp [execOp, ht.eval h0, ht.eval h1, this, Result.andThen]
theorem fill_cons {pl : Nat → Option (Nat × Nat)} {cells c : Array Value} {i o sz : Nat} {v : Value} {rest : List (Nat × Value)} {out : Option (Array Value)} (hp : pl i = some (o, sz)) (hv : v.cells = c) (hs : c.size = sz) (ho : o + sz ≤ cells.size)
    (h : Instr.fill pl (c.zipIdx.foldl (fun cs (x, j) => cs.setIfInBounds (o + j) x) cells) rest = out) : Instr.fill pl cells ((i, v) :: rest) = out := by
  simp only [Instr.fill, hp, hv]
  rw [if_neg (by simp; omega)]
  exact h
theorem y_build_w {t : TypeId} {z0 z1 z2 z3 z4 z5 z6 : Value} [TyPlaces P t [(0, 6), (6, 1)]] [TyAgg P t 7 #[z0, z1, z2, z3, z4, z5, z6]] {x y : Operand} {v0 v1 v2 v3 v4 v5 v6 : Value}
    (hx : evalO F x = some (.agg #[v0, v1, v2, v3, v4, v5])) (hy : evalO F y = some v6) (c6 : v6.cells = #[v6]) :
    OpY P ⟨d, .build t #[(0, x), (1, y)], ty, pos, after, g⟩ F bs H (.agg #[v0, v1, v2, v3, v4, v5, v6]) := fun N a w ht hw => by
  have h2 : Instr.fill (([(0, 6), (6, 1)] : List (Nat × Nat))[·]?) #[v0, v1, v2, v3, v4, v5, z6] [(1, v6)] = some #[v0, v1, v2, v3, v4, v5, v6] := fill_one (cells := [v0, v1, v2, v3, v4, v5, z6]) (o := 6) rfl c6 (by simp) rfl
  have h1 : Instr.fill (([(0, 6), (6, 1)] : List (Nat × Nat))[·]?) #[z0, z1, z2, z3, z4, z5, z6] [(0, .agg #[v0, v1, v2, v3, v4, v5]), (1, v6)] = some #[v0, v1, v2, v3, v4, v5, v6] :=
    fill_cons (o := 0) (sz := 6) (c := #[v0, v1, v2, v3, v4, v5]) rfl rfl rfl (by simp) (by simpa [Array.zipIdx] using h2)
  have := build_run (P := P) (t := t) (parts := #[(0, .agg #[v0, v1, v2, v3, v4, v5]), (1, v6)]) (cells := #[v0, v1, v2, v3, v4, v5, v6]) h1 w
  simp [execOp, ht.eval hx, ht.eval hy, this, Result.andThen]
inductive PV (F : List (Nat × Value)) : Nat → Nat → List (Nat × Operand) → List Value → Prop
  | nil {sz k : Nat} : PV F sz k [] []
  | one {k : Nat} {x : Operand} {v : Value} {rest : List (Nat × Operand)} {out : List Value} : evalO F x = some v → v.cells = #[v] → PV F 1 (k + 1) rest out → PV F 1 k ((k, x) :: rest) (v :: out)
  | two {k : Nat} {x : Operand} {a b : Value} {rest : List (Nat × Operand)} {out : List Value} : evalO F x = some (.agg #[a, b]) → PV F 2 (k + 1) rest out → PV F 2 k ((k, x) :: rest) (a :: b :: out)
theorem PV.length {sz k : Nat} {ps : List (Nat × Operand)} {out : List Value} (h : PV F sz k ps out) : out.length = ps.length * sz := by
  induction h with
  | nil => simp
  | one _ _ _ ih => simp [ih]
  | two _ _ ih => simp [ih]; omega
theorem PV.fill {sz k : Nat} {ps : List (Nat × Operand)} {out : List Value} (h : PV F sz k ps out) {N : NN} {a : Act} (ht : TF N F a) : ∀ (pre junk : List Value), pre.length = k * sz → junk.length = ps.length * sz →
    Instr.fill (fun i => some (i * sz, sz)) (pre ++ junk).toArray (ps.map fun (i, x) => (i, a.eval x)) = some (pre ++ out).toArray := by
  induction h with
  | nil => intro pre junk _ hj; obtain rfl : junk = [] := by simpa using hj
           rfl
  | @one k x v rest out hx hc _ ih =>
    intro pre junk hp hj
    match junk, hj with
    | z :: junk, hj =>
      have := ih (pre ++ [v]) junk (by simp [hp]) (by simpa using hj)
      simp only [List.append_assoc, List.singleton_append] at this
      simp only [List.map_cons, ht.eval hx]
      refine fill_one rfl hc (by simp; omega) ?_
      rw [show (pre ++ z :: junk).set (k * 1) v = pre ++ v :: junk from by simp [← hp]]
      exact this
  | @two k x v u rest out hx _ ih =>
    intro pre junk hp hj
    match junk, hj with
    | z :: z' :: junk, hj =>
      have := ih (pre ++ [v, u]) junk (by simp [hp]; omega) (by simp at hj ⊢; omega)
      simp only [List.append_assoc, List.cons_append, List.nil_append] at this
      simp only [List.map_cons, ht.eval hx]
      refine fill_cons (o := k * 2) (sz := 2) (c := #[v, u]) rfl rfl rfl (by simp; omega) ?_
      rw [show (#[v, u].zipIdx.foldl (fun cs (x, j) => cs.setIfInBounds (k * 2 + j) x) (pre ++ z :: z' :: junk).toArray) = (pre ++ v :: u :: junk).toArray from by simp [Array.zipIdx, ← hp]]
      exact this
    | [z], hj => simp at hj; omega
class TyElem (P : Program) (e : TypeId) (sz : outParam Nat) (by_ : outParam Nat) : Prop where
  info : ∃ i z, P.info? e = some i ∧ i.zero = some z ∧ i.size = sz ∧ i.bytes = by_ ∧ z.cells.size = sz
theorem e_bslice {dd : Tmp} {t e : TypeId} {sz by_ len : Nat} {ps : List (Nat × Operand)} {out : List Value} [hs : TySlice P t e sz] [hi : TyElem P e sz by_] (hd : Nat.blt dd N.n = true) (hp : PV F sz 0 ps out) (hl : ps.length = len) (hb : Nat.ble (len * sz) 16777216 = true) :
    OpE P ⟨some dd, .buildSlice t len ps.toArray, ty, pos, after, g⟩ N F bs H (fun _ : Nat => True) (fun b => (dd, .slice (some ⟨b, 0, none⟩) len len) :: F) (fun _ => bs) (fun b => (b, .cells out.toArray e (0, 0)) :: H) := by
  unfold OpE
  intro a w ht hw K Q hK
  obtain ⟨i, z, h1, h2, h3, h4, h5⟩ := hi.info
  have hb' : ¬ len * sz > 2 ^ 24 := by have := Nat.le_of_ble_eq_true hb; omega
  subst hl
  have hmap : (ps.toArray.map fun (i, x) => (i, a.eval x)).toList = ps.map fun (i, x) => (i, a.eval x) := by simp
  have key : ∀ zero : Array Value, Instr.fill (fun i => some (i * sz, sz)) ((Array.range (ps.length * sz)).map (zero[· % zero.size]!)) (ps.map fun (i, x) => (i, a.eval x)) = some out.toArray := fun zero => by
    have := hp.fill ht [] ((Array.range (ps.length * sz)).map (zero[· % zero.size]!)).toList (by simp) (by simp)
    rw [List.nil_append, Array.toArray_toList] at this
    exact this
  have hrun : (Instr.buildSlice t ps.length (ps.toArray.map fun (i, x) => (i, a.eval x))).run P w = .ok (.slice (some ⟨w.heap.size, 0, none⟩) ps.length ps.length) (w.alloc (.cells out.toArray e)) := by
    unfold Instr.buildSlice
    simp only [Sem.run_bind, underlying_run hs.ty, Result.andThen, sizeOf_run hs.info, hb', if_false]
    split
    · simp only [Sem.run_bind, Sem.run_pure, Result.andThen, hmap, key, newRow, run_newObj]; rfl
    · simp only [Sem.run_bind, zeroValue_run h1 h2, Sem.run_pure, Result.andThen, hmap, key, newRow, run_newObj]; rfl
  unfold Oper.wp
  simp only [execOp, Sem.run_bind, hrun, Result.andThen, Sem.run_pure, Oper.upon]
  exact hK w.heap.size _ _ trivial (ht.put hd _) (hw.alloc _)
/-- A block is struck from what is known. -/
inductive HD (b : Nat) (o : Obj) : List (Nat × Obj) → List (Nat × Obj) → Prop
  | head {H : List (Nat × Obj)} : HD b o ((b, o) :: H) H
  | tail {p : Nat × Obj} {H H' : List (Nat × Obj)} : HD b o H H' → HD b o (p :: H) (p :: H')
theorem HD.mem {b : Nat} {o : Obj} {H H' : List (Nat × Obj)} (h : HD b o H H') : (b, o) ∈ H := by
  induction h with
  | head => exact List.mem_cons_self
  | tail _ ih => exact List.mem_cons_of_mem _ ih
theorem HD.sub {b : Nat} {o : Obj} {H H' : List (Nat × Obj)} (h : HD b o H H') : H'.Sublist H := by
  induction h with
  | head => exact List.sublist_cons_self _ _
  | tail _ ih => exact ih.cons_cons _
theorem HD.perm {b : Nat} {o : Obj} {H H' : List (Nat × Obj)} (h : HD b o H H') : H.Perm ((b, o) :: H') := by
  induction h with
  | head => exact List.Perm.refl _
  | tail _ ih => exact (ih.cons _).trans (List.Perm.swap _ _ _)
theorem HG.perm {bs : List (World × List Nat)} {H H' : List (Nat × Obj)} {w : World} (h : HG bs H w) (hp : H.Perm H') : HG bs H' w :=
  ⟨h.base, fun p hm => h.heap p (hp.symm.subset hm), (hp.map Prod.fst).nodup_iff.1 h.nodup, fun p hm => h.own p (hp.symm.subset hm)⟩
/-- What a slice's value reads as: n elements of sz cells. -/
def Reads (w : World) (v : Value) (sz : Nat) (n : Nat) (vs : List Value) : Prop :=
  vs.length = n * sz ∧ ∃ ad cap, v = .slice ad n cap ∧ (n ≠ 0 → ∃ b o, ad = some ⟨b, o, none⟩ ∧ CA (fun k => w.cell? ⟨b, k, none⟩) o (n * sz) vs)
theorem firstCells_run {w : World} {v : Value} {sz n : Nat} {vs : List Value} (h : Reads w v sz n vs) : (Builtin.firstCells sz n v).run P w = .ok vs.toArray w := by
  obtain ⟨hl, ad, cap, rfl, hr⟩ := h
  by_cases hn : n = 0
  · subst hn
    obtain rfl : vs = [] := by simpa using hl
    cases ad with
    | none => simp [Builtin.firstCells]
    | some p => simp [Builtin.firstCells, loadCells, loadCellsFrom]
  · obtain ⟨b, o, rfl, hc⟩ := hr hn
    have := loadCellsFrom_run (P := P) (w := w) (b := b) (o := o) (f := fun k => w.cell? ⟨b, k, none⟩) (fun n v h => h) (n * sz) 0 vs #[] (by simpa using hc)
    simp [Builtin.firstCells, loadCells, this]
theorem growBy_le (newLen r c : Nat) : Builtin.growBy newLen r c ≤ (c + 768) * 2 ^ r := by
  induction r generalizing c with
  | zero => simp [Builtin.growBy]
  | succ r ih =>
    have hp : 0 < 2 ^ r := Nat.two_pow_pos _
    simp only [Builtin.growBy]
    split
    · have := Nat.le_mul_of_pos_right (c + 768) (Nat.two_pow_pos (r + 1)); omega
    · refine Nat.le_trans (ih _) ?_
      rw [Nat.pow_succ, Nat.mul_comm (2 ^ r) 2, ← Nat.mul_assoc]
      exact Nat.mul_le_mul_right _ (by omega)
set_option maxRecDepth 100000 in
theorem nextcap_le (need cap : Nat) (h : cap < need) : Builtin.nextslicecap need cap ≤ 16 * need + 12288 := by
  unfold Builtin.nextslicecap
  split
  · omega
  · split
    · omega
    · have := growBy_le need 4 cap
      simp only [Nat.reducePow] at this
      omega
def one' (vs : List Value) : Prop := ∀ u ∈ vs, u.oneCell' = true
theorem Reads.src {t e : TypeId} {sz : Nat} [hs : TySlice P t e sz] {xv : Value} {n : Nat} {vs : List Value} {w : World} (h : Reads w xv sz n vs) (h1 : one' vs) : Src P sz t xv n vs w := by
  have h' : Reads w.drew xv sz n vs := h
  refine ⟨.inl ⟨e, hs.ty⟩, fun w' => ?_, firstCells_run h, firstCells_run h', h.1, h1⟩
  obtain ⟨_, ad, c, rfl, _⟩ := h
  simp [Builtin.lenOf]
set_option maxRecDepth 100000 in
theorem nfit {n by_ cap : Nat} (hlt : cap < n) (hsm : n ≤ 100000) (hby : by_ ≤ 1000) : Builtin.nextslicecap n cap * by_ ≤ 281474976710656 := by
  have := Nat.mul_le_mul (nextcap_le n cap hlt) hby
  omega
theorem HG.drew {w : World} (h : HG bs H w) : HG bs H w.drew := h.drawn _
theorem CA_pre (l junk : List Value) (t : TypeId) (f : Nat × Nat) : CA (cellAt (.cells (l ++ junk).toArray t f)) 0 l.length l := by
  have key : ∀ (vs pre : List Value), l = pre ++ vs → CA (cellAt (.cells (l ++ junk).toArray t f)) pre.length vs.length vs := by
    intro vs
    induction vs with
    | nil => intro pre _; exact .nil
    | cons v vs ih =>
      intro pre hl
      refine .cons (by subst hl; simp [cellAt, lget_eq]) ?_
      have := ih (pre ++ [v]) (by simp [hl])
      simpa using this
  exact key l [] rfl
/-- append to nil: a new block. -/
theorem e_append_nil {dd : Tmp} {t e : TypeId} {sz by_ : Nat} [hs : TySlice P t e sz] [hi : TyElem P e sz by_] {x y : Operand} {xv : Value} {n : Nat} {vs : List Value} (hd : Nat.blt dd N.n = true)
    (hx : evalO F x = some (.slice none 0 0)) (hy : evalO F y = some xv) (hr : ∀ w, HG bs H w → Reads w xv sz n vs) (h1 : one' vs) (hn : 0 < n) (hsm : n ≤ 100000) (hby : Nat.ble by_ 1000 = true) :
    OpE P ⟨some dd, .call ⟨.builtin .append, #[x, y], #[t, t]⟩, ty, pos, after, g⟩ N F bs H (fun r : Nat × Nat × List Value => n ≤ r.2.1 ∧ r.2.2.length = (r.2.1 - n) * sz) (fun r => (dd, .slice (some ⟨r.1, 0, none⟩) n r.2.1) :: F) (fun _ => bs)
      (fun r => (r.1, .cells (vs ++ r.2.2).toArray e (0, 0)) :: H) := by
  unfold OpE
  intro a w ht hw K Q hK
  obtain ⟨i, z, h1', h2, h3, h4, h5⟩ := hi.info
  have hrun := run_append_grow_src (P := P) w t t ty e i z hs.ty h1' h2 none 0 0 [] (run_firstCells_none _ _ _ _ _) xv n vs (by rw [h3]; exact (hr w hw).src h1) (by omega) (by omega) (by rw [h4]; exact nfit (by omega) (by omega) (Nat.le_of_ble_eq_true hby))
  unfold Oper.wp
  simp only [execOp, resolve, invoke, builtin, Sem.run_bind, Sem.run_pure, Result.andThen, List.map_toArray, List.map_cons, List.map_nil, ht.eval hx, ht.eval hy]
  rw [hrun]
  simp only [Sem.run_pure, Result.andThen, Oper.upon, Nat.zero_add, List.nil_append]
  have hcells : vs.toArray ++ Builtin.zeroCells z.cells (grownCap w n 0 e - n) = (vs ++ (Builtin.zeroCells z.cells (grownCap w n 0 e - n)).toList).toArray := by apply Array.ext'; simp
  rw [hcells]
  refine hK (w.heap.size, grownCap w n 0 e, (Builtin.zeroCells z.cells (grownCap w n 0 e - n)).toList) _ _ ⟨?_, ?_⟩ (ht.put hd _) (hw.drew.alloc _)
  · simp [grownCap, Question.cut]
  · simp [Builtin.zeroCells, h5]
/-- append to a slice of the call's own that lies at the head of its block: the block behind it is another or the same. -/
theorem e_append_own {dd : Tmp} {t e : TypeId} {sz by_ : Nat} [hs : TySlice P t e sz] [hi : TyElem P e sz by_] {x y : Operand} {b len cap : Nat} {old junk : List Value} {H' : List (Nat × Obj)} {xv : Value} {n : Nat} {vs : List Value} (hd : Nat.blt dd N.n = true)
    (hx : evalO F x = some (.slice (some ⟨b, 0, none⟩) len cap)) (hy : evalO F y = some xv) (hdel : HD b (.cells (old ++ junk).toArray e (0, 0)) H H') (hlen : old.length = len * sz) (hcap : junk.length = (cap - len) * sz) (hlc : len ≤ cap)
    (hr : ∀ w, HG bs H w → Reads w xv sz n vs) (h1 : one' vs) (hsm : len + n ≤ 100000) (hby : Nat.ble by_ 1000 = true) :
    OpE P ⟨some dd, .call ⟨.builtin .append, #[x, y], #[t, t]⟩, ty, pos, after, g⟩ N F bs H (fun r : Nat × Nat × List Value => len + n ≤ r.2.1 ∧ r.2.2.length = (r.2.1 - (len + n)) * sz) (fun r => (dd, .slice (some ⟨r.1, 0, none⟩) (len + n) r.2.1) :: F) (fun _ => bs)
      (fun r => (r.1, .cells (old ++ vs ++ r.2.2).toArray e (0, 0)) :: H') := by
  unfold OpE
  intro a w ht hw K Q hK
  obtain ⟨i, z, h1', h2, h3, h4, h5⟩ := hi.info
  have hb := hw.heap _ hdel.mem
  have hsrc : Src P i.size t xv n vs w := by rw [h3]; exact (hr w hw).src h1
  have hvl : vs.length = n * sz := (hr w hw).1
  unfold Oper.wp
  simp only [execOp, resolve, invoke, builtin, Sem.run_bind, Sem.run_pure, Result.andThen, List.map_toArray, List.map_cons, List.map_nil, ht.eval hx, ht.eval hy]
  by_cases hroom : len + n ≤ cap
  · have hsz : (old ++ junk).length = cap * sz := by
      rw [List.length_append, hlen, hcap, ← Nat.add_mul]; congr 1; omega
    have hle : len * sz + n * sz ≤ cap * sz := by rw [← Nat.add_mul]; exact Nat.mul_le_mul_right _ hroom
    obtain ⟨w', c', k1, k2, k3, k4, k5, k6, k7⟩ := storeCells_at (P := P) (b := b) (o := len * sz) (e := e) vs 0 w (old ++ junk).toArray hb (by simp only [List.size_toArray, hsz, hvl]; omega) h1
    have hlt : ∀ j, j < vs.length → len * sz + j < (old ++ junk).length := fun j hj => by rw [hsz]; omega
    have hcc : ∀ j, j < vs.length → (w.cell? ⟨b, 0 + len * i.size + j, none⟩).isSome = true := fun j hj => by
      have := hlt j hj
      simp only [World.cell?, hb, h3, Nat.zero_add]
      simp
      simpa using this
    have hff : ∀ j, j < vs.length → w.frozen? ⟨b, 0 + len * i.size + j, none⟩ = false := fun j hj => by simp [World.frozen?, hb]
    have hrun := run_append_room_src (P := P) w t t ty e i hs.ty h1' b 0 len cap xv n vs hsrc hroom hcc hff
    have hst := run_storeCells_cells (P := P) b (0 + len * i.size) vs 0 w (by simpa using hcc) (by simpa using hff) h1
    simp only [Nat.add_zero, Nat.zero_add, h3] at hst hrun
    rw [k1] at hst
    obtain rfl : w' = w.setCells b (len * sz) vs := by injection hst
    rw [hrun]
    simp only [Sem.run_pure, Result.andThen, Oper.upon]
    have hcells : c' = (old ++ vs ++ junk.drop (n * sz)).toArray := by
      apply Array.ext_getElem?
      intro k
      rw [k7 k]
      simp only [Nat.add_zero, List.getElem?_toArray]
      by_cases hk : len * sz ≤ k ∧ k < len * sz + vs.length
      · rw [if_pos hk, List.append_assoc, List.getElem?_append_right (by omega), List.getElem?_append_left (by omega), hlen]
      · rw [if_neg hk]
        by_cases hk' : k < len * sz
        · rw [List.getElem?_append_left (by omega), List.append_assoc, List.getElem?_append_left (by omega)]
        · rw [List.getElem?_append_right (by omega), List.getElem?_append_right (by simp only [List.length_append]; omega), List.getElem?_drop]
          congr 1
          simp only [List.length_append]
          omega
    subst hcells
    have hhg : HG bs ((b, .cells (old ++ vs ++ junk.drop (n * sz)).toArray e (0, 0)) :: H') (w.setCells b (len * sz) vs) :=
      (hw.perm hdel.perm).set .head ⟨k2, k3, k4, k5⟩
    refine hK (b, cap, junk.drop (n * sz)) _ _ ⟨hroom, ?_⟩ (ht.put hd _) hhg
    simp only [List.length_drop, hcap]
    rw [← Nat.sub_mul]; congr 1; omega
  · have hrun := run_append_grow_src (P := P) w t t ty e i z hs.ty h1' h2 (some ⟨b, 0, none⟩) len cap old (by
      rw [h3]
      refine firstCells_run (w := w.drew) ⟨hlen, _, _, rfl, fun hne => ⟨b, 0, rfl, ?_⟩⟩
      have hca := CA_pre old junk e (0, 0)
      rw [hlen] at hca
      exact hca.cells hb) xv n vs hsrc (by omega) (by omega) (by rw [h4]; exact nfit (by omega) (by omega) (Nat.le_of_ble_eq_true hby))
    rw [hrun]
    simp only [Sem.run_pure, Result.andThen, Oper.upon]
    have hcells : (old ++ vs).toArray ++ Builtin.zeroCells z.cells (grownCap w (len + n) cap e - (len + n)) = (old ++ vs ++ (Builtin.zeroCells z.cells (grownCap w (len + n) cap e - (len + n))).toList).toArray := by apply Array.ext'; simp
    rw [hcells]
    refine hK (w.heap.size, grownCap w (len + n) cap e, (Builtin.zeroCells z.cells (grownCap w (len + n) cap e - (len + n))).toList) _ _ ⟨?_, ?_⟩ (ht.put hd _) ((hw.sub (fun _ h => h) hdel.sub).drew.alloc _)
    · simp [grownCap, Question.cut]
    · simp [Builtin.zeroCells, h5]
end
end Go.Sp
namespace Go.Sp
open Go
section
variable {P : Program} {F : List (Nat × Value)} {bs : List (World × List Nat)} {H : List (Nat × Obj)} {N : NN}
  {d : Option Tmp} {ty : TypeId} {pos : String} {after : Array Edge} {g : Option (Nat × Bool)}
/-- A struct of two integers, to be compared. -/
class TyEq2 (P : Program) (t : TypeId) (k k' : outParam IntKind) : Prop where
  ty : P.underlying t = some (.struct (P.fieldsOf t))
  st : P.stoodInHeld t = false
  gd : P.eqGuardType P.depth t = false
  fs : ∃ f0 f1, (P.fieldsOf t).toList = [f0, f1] ∧ (f0.name == "_") = false ∧ (f1.name == "_") = false ∧ f0.offset = 0 ∧ f1.offset = 1 ∧ P.underlying f0.type = some (.int k) ∧ P.underlying f1.type = some (.int k')
theorem part_int {t : TypeId} {k : IntKind} (h : P.underlying t = some (.int k)) {cs : Array Value} {o : Nat} {v : Value} (hv : cs[o]? = some v) (w : World) : (part t cs o).run P w = .ok v w := by
  simp [part, isAgg_run h, aggD, Result.andThen, hv]
theorem equalIn_int {n : Nat} {t : TypeId} {k : IntKind} (h : P.underlying t = some (.int k)) (x y : Int) (w : World) : (Op.equalIn (n + 1) t (.int k x) (.int k y)).run P w = .ok (decide (x = y)) w := by
  simp [Op.equalIn, underlying_run h, Result.andThen]; rfl
theorem equal2_run {t : TypeId} {k k' : IntKind} [h : TyEq2 P t k k'] (a b c e : Int) (w : World) :
    (Op.equal t (.agg #[.int k a, .int k' b]) (.agg #[.int k c, .int k' e])).run P w = .ok (decide (a = c ∧ b = e)) w := by
  obtain ⟨f0, f1, hf, hn0, hn1, ho0, ho1, ht0, ht1⟩ := h.fs
  have hn0' : f0.name ≠ "_" := by simpa using hn0
  have hn1' : f1.name ≠ "_" := by simpa using hn1
  unfold Op.equal Op.maxDepth
  rw [run_equalIn_struct w 9999 t _ _ h.ty h.st, hf]
  have e0 : ∀ w, (Op.equalIn 9999 f0.type (.int k a) (.int k c)).run P w = .ok (decide (a = c)) w := fun w => equalIn_int (n := 9998) ht0 a c w
  have e1 : ∀ w, (Op.equalIn 9999 f1.type (.int k' b) (.int k' e)).run P w = .ok (decide (b = e)) w := fun w => equalIn_int (n := 9998) ht1 b e w
  have p0 : ∀ w, (part f0.type #[.int k a, .int k' b] 0).run P w = .ok (.int k a) w := fun w => part_int ht0 rfl w
  have p1 : ∀ w, (part f0.type #[.int k c, .int k' e] 0).run P w = .ok (.int k c) w := fun w => part_int ht0 rfl w
  have p2 : ∀ w, (part f1.type #[.int k a, .int k' b] 1).run P w = .ok (.int k' b) w := fun w => part_int ht1 rfl w
  have p3 : ∀ w, (part f1.type #[.int k c, .int k' e] 1).run P w = .ok (.int k' e) w := fun w => part_int ht1 rfl w
  simp only [Op.eqFields, hn0', hn1', ho0, ho1, ne_eq, not_false_eq_true, if_true, Sem.run_bind, Sem.run_ite, Sem.run_pure, p0, p1, p2, p3, Result.andThen, e0, e1]
  by_cases h1 : a = c <;> by_cases h2 : b = e <;> simp [h1, h2]
theorem eqGuard2 {op : BinOp} {t : TypeId} {x y : Operand} {k k' : IntKind} [h : TyEq2 P t k k'] {cs ds : Array Value} {w : World} : (eqGuard op t x y (.agg cs) (.agg ds)).run P w = .ok () w := by
  unfold eqGuard
  split <;> simp [h.gd]
theorem y_eql2 {x y : Operand} {t t' : TypeId} {k k' : IntKind} [h : TyEq2 P t k k'] {a b c e : Int} (hx : evalO F x = some (.agg #[.int k a, .int k' b])) (hy : evalO F y = some (.agg #[.int k c, .int k' e])) :
    OpY P ⟨d, .binOp .eql t x y t', ty, pos, after, g⟩ F bs H (.bool (decide (a = c ∧ b = e))) := by
  unfold OpY
  intro N a' w ht hw
  simp only [execOp, ht.eval hx, ht.eval hy, Sem.run_bind, eqGuard2, binOp, Result.andThen, equal2_run, Sem.run_pure]
theorem y_neq2 {x y : Operand} {t t' : TypeId} {k k' : IntKind} [h : TyEq2 P t k k'] {a b c e : Int} (hx : evalO F x = some (.agg #[.int k a, .int k' b])) (hy : evalO F y = some (.agg #[.int k c, .int k' e])) :
    OpY P ⟨d, .binOp .neq t x y t', ty, pos, after, g⟩ F bs H (.bool (decide (¬ (a = c ∧ b = e)))) := by
  unfold OpY
  intro N a' w ht hw
  simp only [execOp, ht.eval hx, ht.eval hy, Sem.run_bind, eqGuard2, binOp, Result.andThen, equal2_run, Sem.run_pure, decide_not]
class TyBool (P : Program) (t : TypeId) : Prop where
  ty : P.underlying t = some .bool
theorem y_eql_nil {x y : Operand} {t t' e : TypeId} {sz : Nat} [h : TySlice P t e sz] {ad : Option Addr} {n c : Nat} (hx : evalO F x = some (.slice ad n c)) (hy : evalO F y = some (.slice none 0 0)) :
    OpY P ⟨d, .binOp .eql t x y t', ty, pos, after, g⟩ F bs H (.bool ad.isNone) := by
  unfold OpY
  intro N a' w ht hw
  have : (eqGuard .eql t x y (.slice ad n c) (.slice none 0 0)).run P w = .ok () w := by unfold eqGuard; simp
  simp only [execOp, ht.eval hx, ht.eval hy, Sem.run_bind, this, Result.andThen, Lib.run_eql_slice_nil w t e ad n c 0 0 h.ty, Sem.run_pure]
theorem y_neg {x : Operand} {t : TypeId} {n : Int} (hx : evalO F x = some (.int .i64 n)) (hb : -9223372036854775808 ≤ -n ∧ -n ≤ 9223372036854775807) :
    OpY P ⟨d, .unOp .neg t x, ty, pos, after, g⟩ F bs H (.int .i64 (-n)) := by
  unfold OpY
  intro N a' w ht hw
  have : (0 : Int) - n = -n := by omega
  simp [execOp, ht.eval hx, Op.unary, Op.intArith, Result.andThen, IntWalk.i64_in _ hb]
theorem y_shr {x y : Operand} {t t' : TypeId} {k' : IntKind} {m n : Int} (hx : evalO F x = some (.int .i64 m)) (hy : evalO F y = some (.int k' n)) (hn : 0 ≤ n ∧ n ≤ 63) :
    OpY P ⟨d, .binOp .shr t x y t', ty, pos, after, g⟩ F bs H (.int .i64 (m / 2 ^ n.toNat)) := by
  unfold OpY
  intro N a' w ht hw
  have h0 : ¬ n < 0 := by omega
  have hm : min n.toNat IntKind.i64.bits = n.toNat := by simp only [IntKind.bits]; omega
  have hd : m.fdiv (2 ^ n.toNat) = m / 2 ^ n.toNat := by
    have hp : (0 : Int) ≤ 2 ^ n.toNat := Int.le_of_lt (Int.pow_pos (by omega))
    rw [Int.fdiv_eq_ediv_of_nonneg m hp]
  simp only [execOp, ht.eval hx, ht.eval hy, Sem.run_bind, eqGuard_int, binOp, Op.shift, h0, if_false, hm, Result.andThen, Sem.run_pure, hd]
end
theorem places_run {P : Program} : ∀ {fs : List Field} {pl : List (Nat × Nat)}, (fs.map fun f => (f.offset, (P.info? f.type).map (·.size))) = (pl.map fun p => (p.1, some p.2)) →
    ∀ w, ((fs.mapM fun f => (do pure (f.offset, ← sizeOf f.type) : Sem (Nat × Nat))) : Sem (List (Nat × Nat))).run P w = .ok pl w
  | [], [], _, w => by simp
  | f :: fs, p :: pl, h, w => by
    simp only [List.map_cons, List.cons.injEq, Prod.mk.injEq] at h
    have ih := places_run h.2 w
    rw [List.mapM_cons]
    simp only [Sem.run_bind, sizeOf_run h.1.2, Result.andThen, Sem.run_pure, ih, h.1.1]
  | [], _ :: _, h, _ => by simp at h
  | _ :: _, [], h, _ => by simp at h
theorem tyElem {P : Program} {e : TypeId} {z : Value} {n b : Nat} (hi : (P.info? e).map (fun i => (i.zero, i.size, i.bytes)) = some (some z, n, b)) (hz : z.cells.size = n) : TyElem P e n b := by
  obtain ⟨i, h1, h2⟩ := Option.map_eq_some_iff.1 hi
  simp only [Prod.mk.injEq] at h2
  exact ⟨i, z, h1, h2.1, h2.2.1, h2.2.2, hz⟩
theorem tyEq2 {P : Program} {t : TypeId} {f0 f1 : Field} {k k' : IntKind} (hu : P.underlying t = some (.struct #[f0, f1])) (hs : P.stoodInHeld t = false) (hg : P.eqGuardType P.depth t = false)
    (h0 : (f0.name == "_") = false) (h1 : (f1.name == "_") = false) (h2 : f0.offset = 0) (h3 : f1.offset = 1) (h4 : P.underlying f0.type = some (.int k)) (h5 : P.underlying f1.type = some (.int k')) : TyEq2 P t k k' := by
  have hf : P.fieldsOf t = #[f0, f1] := by simp [Program.fieldsOf, hu]
  exact ⟨by rw [hf]; exact hu, hs, hg, f0, f1, by rw [hf], h0, h1, h2, h3, h4, h5⟩
end Go.Sp
namespace Go.Sp
open Go
section
variable {P : Program} {F : List (Nat × Value)} {bs : List (World × List Nat)} {H : List (Nat × Obj)} {N : NN}
  {d : Option Tmp} {ty : TypeId} {pos : String} {after : Array Edge} {g : Option (Nat × Bool)}
class TyMap2 (P : Program) (t : TypeId) (key elem : outParam TypeId) (zv : outParam Value) : Prop where
  ty : P.underlying t = some (.map key elem)
  key : TyEq2 P key .i64 .i64
  zero : ∃ i, P.info? elem = some i ∧ i.zero = some zv
def kv (a b : Int) : Value := .agg #[.int .i64 a, .int .i64 b]
def hasL (l : List MapEntry) (a b : Int) : Bool := l.any fun e => match e.key with
  | .agg ⟨[.int .i64 c, .int .i64 d]⟩ => decide (a = c ∧ b = d)
  | _ => false
/-- Each entry holds f of its key. -/
def Cache (f : Int → Int → Value) (l : List MapEntry) : Prop := ∀ e ∈ l, ∃ a b, e.key = kv a b ∧ e.val = f a b
theorem findAsking_run {key : TypeId} [h : TyEq2 P key .i64 .i64] {f : Int → Int → Value} (a b : Int) (w : World) : ∀ (l : List MapEntry), Cache f l → ∀ i, ∃ r, (Instr.findAsking key (kv a b) l i).run P w = .ok r w ∧ (hasL l a b = true → ∃ j, r = some (j, f a b)) ∧ (hasL l a b = false → r = none) := by
  intro l
  induction l with
  | nil => intro _ i; exact ⟨none, by simp [Instr.findAsking], by simp [hasL], fun _ => rfl⟩
  | cons e l ih =>
    intro hc i
    obtain ⟨c, d, hk, hv⟩ := hc e List.mem_cons_self
    obtain ⟨r, h1, h2, h3⟩ := ih (fun e he => hc e (List.mem_cons_of_mem _ he)) (i + 1)
    have he : (Op.equal key (kv a b) e.key).run P w = .ok (decide (a = c ∧ b = d)) w := by rw [hk]; exact equal2_run a b c d w
    have hh : hasL (e :: l) a b = (decide (a = c ∧ b = d) || hasL l a b) := by simp [hasL, hk, kv]
    by_cases hq : a = c ∧ b = d
    · refine ⟨some (i, e.val), ?_, fun _ => ⟨i, by rw [hv, hq.1, hq.2]⟩, fun hn => ?_⟩
      · simp only [Instr.findAsking, Sem.run_bind, he, Result.andThen, decide_eq_true hq, if_true, Sem.run_pure]
      · rw [hh, decide_eq_true hq] at hn; simp at hn
    · refine ⟨r, ?_, fun hy => h2 ?_, fun hn => h3 ?_⟩
      · simp only [Instr.findAsking, Sem.run_bind, he, Result.andThen, decide_eq_false hq, Bool.false_eq_true, if_false]
        exact h1
      · rw [hh, decide_eq_false hq] at hy; simpa using hy
      · rw [hh, decide_eq_false hq] at hn; simpa using hn
theorem findKey_run {key : TypeId} [h : TyEq2 P key .i64 .i64] {f : Int → Int → Value} (a b : Int) (w : World) (l : List MapEntry) (hc : Cache f l) : ∃ r, (Instr.findKey key (kv a b) l).run P w = .ok r w ∧ (hasL l a b = true → ∃ j, r = some (j, f a b)) ∧ (hasL l a b = false → r = none) := by
  cases l with
  | nil => exact ⟨none, by simp [Instr.findKey, underlying_run h.ty, Result.andThen, Instr.findNow], by simp [hasL], fun _ => rfl⟩
  | cons e l =>
    obtain ⟨r, h1, h2⟩ := findAsking_run (P := P) (key := key) a b w (e :: l) hc 0
    refine ⟨r, ?_, h2⟩
    have hn : Instr.findNow (.struct (P.fieldsOf key)) (kv a b) (e :: l) 0 = none := by simp [Instr.findNow, Instr.sameNow]
    simp only [Instr.findKey, Sem.run_bind, underlying_run h.ty, Result.andThen, hn]
    exact h1
theorem checkKey_int {e : Bool} {n : Nat} {t : TypeId} {k : IntKind} (ht : P.underlying t = some (.int k)) (x : Int) (w : World) : (Instr.checkKey e (n + 1) t (.int k x)).run P w = .ok () w := by
  simp [Instr.checkKey, underlying_run ht, Result.andThen]
theorem checkKey_run {key : TypeId} [h : TyEq2 P key .i64 .i64] {e : Bool} (a b : Int) (w : World) : (Instr.checkKey e 10000 key (kv a b)).run P w = .ok () w := by
  obtain ⟨f0, f1, hf, hn0, hn1, ho0, ho1, ht0, ht1⟩ := h.fs
  have hn0' : f0.name ≠ "_" := by simpa using hn0
  have hn1' : f1.name ≠ "_" := by simpa using hn1
  have p0 : ∀ w, (part f0.type #[.int .i64 a, .int .i64 b] 0).run P w = .ok (.int .i64 a) w := fun w => part_int ht0 rfl w
  have p1 : ∀ w, (part f1.type #[.int .i64 a, .int .i64 b] 1).run P w = .ok (.int .i64 b) w := fun w => part_int ht1 rfl w
  have c0 : ∀ w, (Instr.checkKey e 9999 f0.type (.int .i64 a)).run P w = .ok () w := fun w => checkKey_int (n := 9998) ht0 a w
  have c1 : ∀ w, (Instr.checkKey e 9999 f1.type (.int .i64 b)).run P w = .ok () w := fun w => checkKey_int (n := 9998) ht1 b w
  have : (Instr.checkKey e (9999 + 1) key (kv a b)).run P w = .ok () w := by
    rw [Instr.checkKey]
    simp only [Sem.run_bind, underlying_run h.ty, Result.andThen, kv]
    rw [← Array.forIn_toList, hf]
    simp only [List.forIn_cons, List.forIn_nil, Sem.run_bind, Sem.run_ite, hn0', hn1', ne_eq, not_false_eq_true, if_true, ho0, ho1, p0, p1, c0, c1, Result.andThen, Sem.run_pure]
  exact this
theorem lookup_run {t key elem : TypeId} {zv : Value} [h : TyMap2 P t key elem zv] {f : Int → Int → Value} (a b : Int) (w : World) {r : Nat} {es : Array MapEntry} {ck : Nat} (hr : w.heap[r]? = some (.map es ck)) (hc : Cache f es.toList) :
    (Instr.lookup t (.map (some r)) (kv a b) true).run P w = .ok (.tuple #[if hasL es.toList a b then f a b else zv, .bool (hasL es.toList a b)]) w := by
  have := h.key
  obtain ⟨i, hi, hz⟩ := h.zero
  obtain ⟨q, h1, h2, h3⟩ := findKey_run (P := P) (key := key) a b w es.toList hc
  have hg : (getObj r).run P w = .ok (.map es ck) w := by simp [getObj, Sem.run, hr]
  simp only [Instr.lookup, Sem.run_bind, underlying_run h.ty, Result.andThen, hg, Sem.run_pure, checkKey_run, h1]
  cases hq : hasL es.toList a b
  · rw [h3 hq]
    simp [zeroValue_run hi hz, Result.andThen]
  · obtain ⟨j, rfl⟩ := h2 hq
    simp
theorem y_lookup_hit {t key elem : TypeId} {zv : Value} [h : TyMap2 P t key elem zv] {x y : Operand} {f : Int → Int → Value} {a b : Int} {r : Nat} {es : Array MapEntry} {ck : Nat} (hh : hasL es.toList a b = true)
    (hx : evalO F x = some (.map (some r))) (hy : evalO F y = some (.agg #[.int .i64 a, .int .i64 b])) (hm : HM r (.map es ck) H) (hc : Cache f es.toList) :
    OpY P ⟨d, .lookup t x y true, ty, pos, after, g⟩ F bs H (.tuple #[f a b, .bool true]) := by
  unfold OpY
  intro N a' w ht hw
  have := lookup_run (P := P) (t := t) a b w (hw.heap _ hm.mem) hc
  rw [hh] at this
  simp only [if_true, kv] at this
  simp only [execOp, ht.eval hx, ht.eval hy, Sem.run_bind, this, Result.andThen, Sem.run_pure]
theorem y_lookup_miss {t key elem : TypeId} {zv : Value} [h : TyMap2 P t key elem zv] {x y : Operand} {f : Int → Int → Value} {a b : Int} {r : Nat} {es : Array MapEntry} {ck : Nat} (hh : hasL es.toList a b = false)
    (hx : evalO F x = some (.map (some r))) (hy : evalO F y = some (.agg #[.int .i64 a, .int .i64 b])) (hm : HM r (.map es ck) H) (hc : Cache f es.toList) :
    OpY P ⟨d, .lookup t x y true, ty, pos, after, g⟩ F bs H (.tuple #[zv, .bool false]) := by
  unfold OpY
  intro N a' w ht hw
  have := lookup_run (P := P) (t := t) a b w (hw.heap _ hm.mem) hc
  rw [hh] at this
  simp only [Bool.false_eq_true, if_false, kv] at this
  simp only [execOp, ht.eval hx, ht.eval hy, Sem.run_bind, this, Result.andThen, Sem.run_pure]
theorem e_mapUpdate_new {t key elem : TypeId} {zv : Value} [h : TyMap2 P t key elem zv] {x y z : Operand} {f : Int → Int → Value} {a b : Int} {v : Value} {r : Nat} {es : Array MapEntry} {ck : Nat} {H' : List (Nat × Obj)} (hh : hasL es.toList a b = false) (hc : Cache f es.toList)
    (hx : evalO F x = some (.map (some r))) (hy : evalO F y = some (.agg #[.int .i64 a, .int .i64 b])) (hz : evalO F z = some v) (hu : HU r (.map es ck) (.map (es.push { key := kv a b, val := v, born := ck }) (ck + 1)) H H') :
    OpE P ⟨none, .mapUpdate t x y z, ty, pos, after, g⟩ N F bs H (fun _ : Unit => True) (fun _ => F) (fun _ => bs) (fun _ => H') := by
  unfold OpE
  intro a' w ht hw K Q hK
  have := h.key
  obtain ⟨q, h1, h2, h3⟩ := findKey_run (P := P) (key := key) a b w es.toList hc
  have hb := hw.heap _ hu.mem
  have hg : (getObj r).run P w = .ok (.map es ck) w := by simp [getObj, Sem.run, hb]
  have hs : ∀ o, (setObj r o).run P w = .ok () { w with heap := w.heap.setIfInBounds r o } := fun o => by simp [setObj, Sem.run, hb]
  have hk : (Instr.mapUpdate t (.map (some r)) (kv a b) v).run P w = .ok () { w with heap := w.heap.setIfInBounds r (.map (es.push { key := kv a b, val := v, born := ck }) (ck + 1)) } := by
    simp only [Instr.mapUpdate, Sem.run_bind, underlying_run h.ty, Result.andThen, hg, checkKey_run, h1, h3 hh]
    exact hs _
  unfold Oper.wp
  simp only [kv] at hk
  simp only [execOp, ht.eval hx, ht.eval hy, ht.eval hz, Sem.run_bind, hk, Result.andThen, Sem.run_pure, Oper.upon]
  exact hK () _ _ trivial ht (hw.set hu ⟨rfl, rfl, rfl, rfl⟩)
theorem Cache.push' {f : Int → Int → Value} {es : Array MapEntry} (h : Cache f es.toList) {a b : Int} {n : Nat} {v : Value} (hv : v = f a b) : Cache f (es.push { key := kv a b, val := v, born := n }).toList := fun e he => by
  simp only [Array.toList_push, List.mem_append, List.mem_singleton] at he
  rcases he with he | rfl
  · exact h e he
  · exact ⟨a, b, rfl, hv⟩
theorem Cache.push {f : Int → Int → Value} {es : Array MapEntry} (h : Cache f es.toList) (a b : Int) (n : Nat) : Cache f (es.push { key := kv a b, val := f a b, born := n }).toList := fun e he => by
  simp only [Array.toList_push, List.mem_append, List.mem_singleton] at he
  rcases he with he | rfl
  · exact h e he
  · exact ⟨a, b, rfl, rfl⟩
end
end Go.Sp
namespace Go.Sp
open Go
theorem HG.addN {bs : List (World × List Nat)} {H Hn : List (Nat × Obj)} {w w' : World} (h : HG bs H w) (f : Fr [] w w') (hn : ∀ q ∈ Hn, w.heap.size ≤ q.1 ∧ w'.heap[q.1]? = some q.2) (hd : (Hn.map Prod.fst).Nodup) : HG bs (Hn ++ H) w' := by
  have h' := h.call f
  refine ⟨h'.base, fun p hp => ?_, ?_, fun p hp β hβ => ?_⟩
  · rcases List.mem_append.1 hp with hp | hp
    · exact (hn p hp).2
    · exact h'.heap p hp
  · rw [List.map_append, List.nodup_append]
    refine ⟨hd, h.nodup, fun a ha b hb e => ?_⟩
    obtain ⟨p, hp, rfl⟩ := List.mem_map.1 ha
    obtain ⟨q, hq, rfl⟩ := List.mem_map.1 hb
    have := h.lt hq
    have := (hn p hp).1
    omega
  · rcases List.mem_append.1 hp with hp | hp
    · exact .inr (Nat.le_trans (h.base β hβ).size (hn p hp).1)
    · exact h.own p hp β hβ
theorem HG.callU {bs : List (World × List Nat)} {H H' : List (Nat × Obj)} {w w' : World} {b : Nat} {o o' : Obj} (h : HG bs H w) (f : Fr [b] w w') (ho : w'.heap[b]? = some o') (hu : HU b o o' H H') : HG bs H' w' := by
  refine ⟨fun β hβ => (h.base β hβ).trans f (fun x hx => ?_), fun p hp => ?_, by rw [hu.keys]; exact h.nodup, fun p hp β hβ => ?_⟩
  · obtain rfl : x = b := by simpa using hx
    exact h.own _ hu.mem β hβ
  · rcases hu.old h.nodup p hp with rfl | ⟨e, e'⟩
    · exact ho
    · rw [f.block p.1 (h.lt e) (by simpa using e')]; exact h.heap p e
  · have : p.1 ∈ H.map Prod.fst := by rw [← hu.keys]; exact List.mem_map.2 ⟨p, hp, rfl⟩
    obtain ⟨q, hq, e⟩ := List.mem_map.1 this
    rw [← e]; exact h.own q hq β hβ
theorem Fr.but {S : List Nat} {b : Nat} {w w' : World} (h : Fr (b :: S) w w') (hb : w'.heap[b]? = w.heap[b]?) : Fr S w w' :=
  ⟨h.os, h.tape, h.output, h.size, fun k hk hn => by
    by_cases e : k = b
    · subst e; exact hb
    · exact h.block k hk (by simp [e, hn])⟩
section
variable {P : Program} {N : NN} {F : List (Nat × Value)} {bs : List (World × List Nat)} {H : List (Nat × Obj)}
  {d : Tmp} {ty : TypeId} {pos : String} {after : Array Edge} {g : Option (Nat × Bool)}
/-- Several new blocks. -/
theorem e_callN {f : FuncId} [GoFn P f] {xs : List Operand} {tys : Array TypeId} {vs : List Value} {α : Type} {val : α → Value} {p : α → Prop} {Hn : α → List (Nat × Obj)}
    (hd : Nat.blt d N.n = true) (hxs : EA F xs vs) (hc : ∀ w, HG bs H w → CnX P f vs.toArray w [] val (fun x w' => p x ∧ (∀ q ∈ Hn x, w.heap.size ≤ q.1 ∧ w'.heap[q.1]? = some q.2) ∧ ((Hn x).map Prod.fst).Nodup)) :
    OpE P ⟨some d, .call ⟨.value (.func f), xs.toArray, tys⟩, ty, pos, after, g⟩ N F bs H p (fun y => (d, val y) :: F) (fun _ => bs) (fun y => Hn y ++ H) := fun a w ht hw K Q hK => by
  unfold Oper.wp
  rw [exec_call (x := .func f) rfl hxs ht w]
  simp only [Oper.upon]
  simp only [Array.empty_append, Array.append_empty]
  refine (hc w hw).mono fun e w' he => ?_
  obtain ⟨x, rfl, hf, hp, h1, h2⟩ := he
  exact hK x _ _ hp (ht.put hd _) (hw.addN hf h1 h2)
/-- One known block is turned. -/
theorem e_callU {f : FuncId} [GoFn P f] {xs : List Operand} {tys : Array TypeId} {vs : List Value} {α : Type} {val : α → Value} {p : α → Prop} {b : Nat} {o : Obj} {ob : α → Obj} {H' : α → List (Nat × Obj)}
    (hd : Nat.blt d N.n = true) (hxs : EA F xs vs) (hc : ∀ w, HG bs H w → CnX P f vs.toArray w [b] val (fun x w' => p x ∧ w'.heap[b]? = some (ob x))) (hu : ∀ x, HU b o (ob x) H (H' x)) :
    OpE P ⟨some d, .call ⟨.value (.func f), xs.toArray, tys⟩, ty, pos, after, g⟩ N F bs H p (fun y => (d, val y) :: F) (fun _ => bs) H' := fun a w ht hw K Q hK => by
  unfold Oper.wp
  rw [exec_call (x := .func f) rfl hxs ht w]
  simp only [Oper.upon]
  simp only [Array.empty_append, Array.append_empty]
  refine (hc w hw).mono fun e w' he => ?_
  obtain ⟨x, rfl, hf, hp, h1⟩ := he
  exact hK x _ _ hp (ht.put hd _) (hw.callU hf h1 (hu x))
/-- The same of a function value. -/
theorem e_callUf {f : FuncId} [GoFn P f] {x : Operand} {xs : List Operand} {tys : Array TypeId} {vs : List Value} {first cap : Array Value} {α : Type} {val : α → Value} {p : α → Prop} {b : Nat} {o : Obj} {ob : α → Obj} {H' : α → List (Nat × Obj)}
    (hd : Nat.blt d N.n = true) (hx : evalO F x = some (.func (.func f) first cap)) (hxs : EA F xs vs) (hc : ∀ w, HG bs H w → CnX P f (first ++ vs.toArray ++ cap) w [b] val (fun x w' => p x ∧ w'.heap[b]? = some (ob x))) (hu : ∀ x, HU b o (ob x) H (H' x)) :
    OpE P ⟨some d, .call ⟨.value x, xs.toArray, tys⟩, ty, pos, after, g⟩ N F bs H p (fun y => (d, val y) :: F) (fun _ => bs) H' := fun a w ht hw K Q hK => by
  unfold Oper.wp
  rw [exec_call hx hxs ht w]
  simp only [Oper.upon]
  refine (hc w hw).mono fun e w' he => ?_
  obtain ⟨y, rfl, hf, hp, h1⟩ := he
  exact hK y _ _ hp (ht.put hd _) (hw.callU hf h1 (hu y))
end
theorem cnxS {P : Program} {f : FuncId} {fn : Func} {c : Code} {vs : List Value} {w : World} {S S' : List Nat} {α : Type} {val : α → Value} {p : α → World → Prop} (H : List (Nat × Obj)) (hf : P.funcs[f]? = some fn) (hb : fn.body = some c) (hn : Nat.ble vs.length fn.ntmps = true)
    (hH : (∀ p ∈ H, w.heap[p.1]? = some p.2) ∧ (H.map Prod.fst).Nodup ∧ ∀ p ∈ H, p.1 ∈ S)
    (h : TC none P c (bodyP P fn fun e w' => ∃ x, e = .returned (val x) ∧ Fr S' w w' ∧ p x w') ⟨fn.ntmps, []⟩ (argF 0 vs) [(w, S)] H) : CnX P f vs.toArray w S' val p := calls_tc hf hb hn hH h
theorem tyMap2 {P : Program} {t key elem : TypeId} {zv : Value} {n b : Nat} (hu : P.underlying t = some (.map key elem)) (hk : TyEq2 P key .i64 .i64) (hi : (P.info? elem).map (fun i => (i.zero, i.size, i.bytes)) = some (some zv, n, b)) : TyMap2 P t key elem zv := by
  obtain ⟨i, h1, h2⟩ := Option.map_eq_some_iff.1 hi
  simp only [Prod.mk.injEq] at h2
  exact ⟨hu, hk, i, h1, h2.1⟩
end Go.Sp
namespace Go.Sp
open Go
section
variable {r : Option Nat} {P : Program} {ops : Array Oper} {Q : Exit → Act → World → Prop} {N : NN} {F : List (Nat × Value)} {bs : List (World × List Nat)} {H : List (Nat × Obj)}
theorem tc_drawS (Hs : List (Nat × Obj)) {id : Nat} {l : List Oper} (hm : P.follows .mixedOrders = true) (h : TX r P l.toArray Q l.length (HG bs Hs) (Array.replicate l.length false) N F bs H) : TC r P (.region id l.toArray true) Q N F bs H := fun a w ht hw =>
  wpIn_region_any hm (wpAny_of_X _ _ _ _ _ (by
    have := h a { w with drawn := w.drawn + 1 } ht (hw.drawn _)
    simpa using this))
theorem tx_qS {fuel : Nat} {Hs : List (Nat × Obj)} {bs0 : List (World × List Nat)} {listed : List Bool} (i : Nat) {d : Tmp} {op : Op} {ty : TypeId} {pos : String} {after : Array Edge} {v : Value}
    (hi : ops[i]? = some ⟨some d, op, ty, pos, after, none⟩) (hok : (!exempt op && Region.noSelect ops && noDefer ops && Region.free .any ops listed.toArray i && (Region.ready .any ops listed.toArray).contains i && Nat.blt i listed.length) = true)
    (hy : OpY P ⟨some d, op, ty, pos, after, none⟩ F bs0 Hs v) (hd : Nat.blt d N.n = true)
    (hQ : ∀ c a w, Q (.panic c) (a.put (some d) v) w → Q (.panic c) a w) (hS : ∀ w, HG bs H w → HG bs0 Hs w)
    (h : TX r P ops Q fuel (HG bs0 Hs) (listed.set i true).toArray N ((d, v) :: F) bs H) : TX r P ops Q (fuel + 1) (HG bs0 Hs) listed.toArray N F bs H := fun a w ht hw => by
  simp only [Bool.and_eq_true] at hok
  obtain ⟨⟨⟨⟨⟨h0, h1⟩, h1'⟩, h2⟩, h3⟩, h4⟩ := hok
  refine wpX_first hi (by simpa using h0) (Region.noSelect_spec h1) h1' hQ fuel listed.toArray a w (by simpa using h4) (Region.free_spec hi h2) (by simpa using h3) (.inl ⟨by simp [Region.wanted], fun w' hw' => hy N a w' ht hw'⟩) (hS w hw) ?_
  have := h _ _ (ht.put hd v) hw
  simpa using this
/-- Number i comes up. -/
def TOne (r : Option Nat) (P : Program) (ops : Array Oper) (Q : Exit → Act → World → Prop) (n : Nat) (S : World → Prop) (listed : Array Bool) (i : Nat) (N : NN) (F : List (Nat × Value)) (bs : List (World × List Nat)) (H : List (Nat × Obj)) : Prop :=
  ∀ a w, TF N F a → HG bs H w → wpOpIn (FW r) 0 P ops Q i (fun a' w' =>
      (waitsAll ops listed i = true ∧ ∃ S', wpX r P ops Q n S' (listed.setIfInBounds i true) a' w') ∨ (S w' ∧ wpX r P ops Q n S (listed.setIfInBounds i true) a' w')) a w
theorem to_e {fuel : Nat} {S S' : World → Prop} {listed : List Bool} {i : Nat} {d : Option Tmp} {op : Op} {ty : TypeId} {pos : String} {after : Array Edge} {α : Type} {p : α → Prop} {F' : α → List (Nat × Value)} {bs' : α → List (World × List Nat)} {H' : α → List (Nat × Obj)}
    (hi : ops[i]? = some ⟨d, op, ty, pos, after, none⟩) (hn : notDefer op = true) (he : OpE P ⟨d, op, ty, pos, after, none⟩ N F bs H p F' bs' H')
    (hS : waitsAll ops listed.toArray i = true ∨ ((∀ x w, HG (bs' x) (H' x) w → S w) ∧ ∀ w, S' w → S w))
    (h : ∀ x, p x → TX r P ops Q fuel S' (listed.set i true).toArray N (F' x) (bs' x) (H' x)) : TOne r P ops Q fuel S listed.toArray i N F bs H := fun a w ht hw => by
  unfold wpOpIn
  simp only [hi]
  rw [if_pos (by simp [Region.wanted])]
  exact wpIn_of_wp hn <| he a w ht hw _ Q (fun x a' w' hx h1 h2 => (by
    have hx' := h x hx a' w' h1 h2
    rw [show (listed.set i true).toArray = listed.toArray.setIfInBounds i true from by simp] at hx'
    rcases hS with hS | ⟨hS, hS'⟩
    · exact .inl ⟨hS, _, hx'⟩
    · exact .inr ⟨hS x w' h2, wpX_mono hS' _ _ _ _ hx'⟩ :
      (waitsAll ops listed.toArray i = true ∧ ∃ S', wpX r P ops Q fuel S' (listed.toArray.setIfInBounds i true) a' w') ∨ (S w' ∧ wpX r P ops Q fuel S (listed.toArray.setIfInBounds i true) a' w')))
theorem tx_single {fuel : Nat} {S : World → Prop} {listed : Array Bool} (i : Nat) (hr : Region.ready .any ops listed = [i]) (h : TOne r P ops Q fuel S listed i N F bs H) : TX r P ops Q (fuel + 1) S listed N F bs H := fun a w ht hw =>
  ⟨fun h0 => (by rw [h0] at hr; cases hr), fun j hj => by
    rw [hr] at hj
    obtain rfl : j = i := by simpa using hj
    exact h a w ht hw⟩
theorem tx_pair {fuel : Nat} {S : World → Prop} {listed : Array Bool} (i k : Nat) (hr : Region.ready .any ops listed = [i, k]) (h1 : TOne r P ops Q fuel S listed i N F bs H) (h2 : TOne r P ops Q fuel S listed k N F bs H) : TX r P ops Q (fuel + 1) S listed N F bs H := fun a w ht hw =>
  ⟨fun h0 => (by rw [h0] at hr; cases hr), fun j hj => by
    rw [hr] at hj
    rcases (by simpa using hj : j = i ∨ j = k) with rfl | rfl
    · exact h1 a w ht hw
    · exact h2 a w ht hw⟩
/-- A fact of every world that is met here. -/
theorem tc_fact {c : Code} (p : Prop) (hp : ∀ w, HG bs H w → p) (h : p → TC r P c Q N F bs H) : TC r P c Q N F bs H := fun a w ht hw => h (hp w hw) a w ht hw
end
end Go.Sp
namespace Go.Sp
open Go
section
variable {r : Option Nat} {P : Program} {N : NN} {F : List (Nat × Value)} {bs : List (World × List Nat)} {H : List (Nat × Obj)}
  {d : Tmp} {ty : TypeId} {pos : String} {after : Array Edge} {g : Option (Nat × Bool)}
theorem wpIn_scope_straight {Fc : Fence} {m : Nat} {c : Code} {Q : Exit → Act → World → Prop} {a : Act} {w : World} (h : c.wpIn Fc m P (Exit.noGoto Q) a w) : (Code.scope c).wpIn Fc m P Q a w := by
  intro b k cs hro hb hr
  have h0 : (lone (b.atR a (.code (.scope c) :: k)) cs w).fenced P Fc := fenced_calm hb hr rfl
  have s1 : step P (lone (b.atR a (.code (.scope c) :: k)) cs w) = .next (lone (b.atR a (.code c :: .inScope c :: k)) cs w) :=
    step_lone_go (by simp [stepG, stepG.exec, Frame.atR])
  have s2 : ∀ a w, step P (lone (b.atR a (.inScope c :: k)) cs w) = .next (lone (b.atR a k) cs w) := fun a w => step_lone_go (by simp [stepG, stepG.exec, Frame.atR])
  obtain ⟨e, a₁, w₁, hq, harr⟩ := h b (.inScope c :: k) cs hro hb hr
  cases e with
  | normal => exact ⟨.normal, a₁, w₁, hq, .head h0 s1 (StepsIn.trans harr (.one (fenced_calm hb hr rfl) (s2 _ _)))⟩
  | exit id =>
    have hx : exitTo id (.inScope c :: k) = exitTo id k := by simp [exitTo]
    exact ⟨.exit id, a₁, w₁, hq, fun k' hk => .head h0 s1 (harr.1 k' (by rw [hx]; exact hk)), fun hr' hk => let ⟨k₁, h1, h2⟩ := harr.2 hr' (by rw [hx]; exact hk); ⟨k₁, h1, .head h0 s1 h2⟩⟩
  | goto l => exact hq.elim
  | ret => exact ⟨_, a₁, w₁, hq, .of_steps (.one h0 s1) harr⟩
  | panic ch => exact ⟨_, a₁, w₁, hq, .of_steps (.one h0 s1) harr⟩
  | outgrown => exact ⟨_, a₁, w₁, hq, .of_steps (.one h0 s1) harr⟩
theorem tc_scope {c : Code} {Q : Exit → Act → World → Prop} (h : TC r P c (Exit.noGoto Q) N F bs H) : TC r P (.scope c) Q N F bs H := fun a w ht hw => wpIn_scope_straight (h a w ht hw)
theorem tc_label {l : Nat} {Q : Exit → Act → World → Prop} (h : TK (Q .normal) N F bs H) : TC r P (.label l) Q N F bs H := fun a w ht hw => wpIn_label (h a w ht hw)
theorem tk_scope_ret {Q : Exit → Act → World → Prop} (h : TK (Q .ret) N F bs H) : TK (Exit.noGoto Q .ret) N F bs H := h
theorem HG.callU2 {H1 H' : List (Nat × Obj)} {w w' : World} {b c : Nat} {o o' q q' : Obj} (h : HG bs H w) (f : Fr [b, c] w w') (ho : w'.heap[b]? = some o') (hq : w'.heap[c]? = some q') (hu : HU b o o' H H1) (hv : HU c q q' H1 H') : HG bs H' w' := by
  refine ⟨fun β hβ => (h.base β hβ).trans f (fun x hx => ?_), fun p hp => ?_, by rw [hv.keys, hu.keys]; exact h.nodup, fun p hp β hβ => ?_⟩
  · rcases (by simpa using hx : x = b ∨ x = c) with rfl | rfl
    · exact h.own _ hu.mem β hβ
    · have : x ∈ H.map Prod.fst := by rw [← hu.keys]; exact List.mem_map.2 ⟨_, hv.mem, rfl⟩
      obtain ⟨r, hr, e⟩ := List.mem_map.1 this
      rw [← e]; exact h.own r hr β hβ
  · rcases hv.old (by rw [hu.keys]; exact h.nodup) p hp with rfl | ⟨e, e'⟩
    · exact hq
    · rcases hu.old h.nodup p e with rfl | ⟨e1, e2⟩
      · exact ho
      · rw [f.block p.1 (h.lt e1) (by simp [e2, e'])]; exact h.heap p e1
  · have : p.1 ∈ H.map Prod.fst := by rw [← hu.keys, ← hv.keys]; exact List.mem_map.2 ⟨p, hp, rfl⟩
    obtain ⟨r, hr, e⟩ := List.mem_map.1 this
    rw [← e]; exact h.own r hr β hβ
theorem HG.pick {w : World} (h : HG bs H w) (H' : List (Nat × Obj)) (hm : ∀ q ∈ H', q ∈ H) (hd : (H'.map Prod.fst).Nodup) : HG bs H' w := ⟨h.base, fun q hq => h.heap q (hm q hq), hd, fun q hq => h.own q (hm q hq)⟩
/-- A function value is called; two known blocks are turned. -/
theorem e_callU2f {f : FuncId} [GoFn P f] {x : Operand} {xs : List Operand} {tys : Array TypeId} {vs : List Value} {first cap : Array Value} {α : Type} {val : α → Value} {p : α → Prop} {b c : Nat} {o q : Obj} {ob oc : α → Obj} {H1 H' : α → List (Nat × Obj)}
    (hd : Nat.blt d N.n = true) (hx : evalO F x = some (.func (.func f) first cap)) (hxs : EA F xs vs) (hc : ∀ w, HG bs H w → CnX P f (first ++ vs.toArray ++ cap) w [b, c] val (fun x w' => p x ∧ w'.heap[b]? = some (ob x) ∧ w'.heap[c]? = some (oc x))) (hu : ∀ x, HU b o (ob x) H (H1 x)) (hv : ∀ x, HU c q (oc x) (H1 x) (H' x)) :
    OpE P ⟨some d, .call ⟨.value x, xs.toArray, tys⟩, ty, pos, after, g⟩ N F bs H p (fun y => (d, val y) :: F) (fun _ => bs) H' := fun a w ht hw K Q hK => by
  unfold Oper.wp
  rw [exec_call hx hxs ht w]
  simp only [Oper.upon]
  refine (hc w hw).mono fun e w' he => ?_
  obtain ⟨y, rfl, hf, hp, h1, h2⟩ := he
  exact hK y _ _ hp (ht.put hd _) (hw.callU2 hf h1 h2 (hu y) (hv y))
/-- A call behind which all that is known is said of the world that it left. -/
theorem e_callEnd {f : FuncId} [GoFn P f] {x : Operand} {xs : List Operand} {tys : Array TypeId} {vs : List Value} {first cap : Array Value} {α : Type} {val : α → Value} {p : α → World → Prop} {S : List Nat}
    (hd : Nat.blt d N.n = true) (hx : evalO F x = some (.func (.func f) first cap)) (hxs : EA F xs vs) (hc : ∀ w, HG bs H w → CnX P f (first ++ vs.toArray ++ cap) w S val p) (hS : ∀ w, HG bs H w → ∀ β ∈ bs, ∀ x ∈ S, x ∈ β.2 ∨ β.1.heap.size ≤ x) :
    OpE P ⟨some d, .call ⟨.value x, xs.toArray, tys⟩, ty, pos, after, g⟩ N F bs H (fun y : α × World × World => HG bs H y.2.1 ∧ Fr S y.2.1 y.2.2 ∧ p y.1 y.2.2) (fun y => (d, val y.1) :: F) (fun y => (y.2.2, []) :: bs) (fun _ => []) := fun a w ht hw K Q hK => by
  unfold Oper.wp
  rw [exec_call hx hxs ht w]
  simp only [Oper.upon]
  refine (hc w hw).mono fun e w' he => ?_
  obtain ⟨y, rfl, hf, hp⟩ := he
  refine hK (y, w, w') _ _ ⟨hw, hf, hp⟩ (ht.put hd _) ⟨fun β hβ => ?_, by simp, by simp, by simp⟩
  rcases List.mem_cons.1 hβ with rfl | hβ
  · exact Fr.refl _ _
  · exact (hw.base β hβ).trans hf (hS w hw β hβ)
theorem e_callEndF {f : FuncId} [GoFn P f] {xs : List Operand} {tys : Array TypeId} {vs : List Value} {α : Type} {val : α → Value} {p : α → World → Prop} {S : List Nat}
    (hd : Nat.blt d N.n = true) (hxs : EA F xs vs) (hc : ∀ w, HG bs H w → CnX P f vs.toArray w S val p) (hS : ∀ w, HG bs H w → ∀ β ∈ bs, ∀ x ∈ S, x ∈ β.2 ∨ β.1.heap.size ≤ x) :
    OpE P ⟨some d, .call ⟨.value (.func f), xs.toArray, tys⟩, ty, pos, after, g⟩ N F bs H (fun y : α × World × World => HG bs H y.2.1 ∧ Fr S y.2.1 y.2.2 ∧ p y.1 y.2.2) (fun y => (d, val y.1) :: F) (fun y => (y.2.2, []) :: bs) (fun _ => []) :=
  e_callEnd (first := #[]) (cap := #[]) hd rfl hxs (fun w hw => by simpa using hc w hw) hS
end
theorem CnX.imp {P : Program} {f : FuncId} {args : Array Value} {w : World} {S S' : List Nat} {α β : Type} {val : α → Value} {val' : β → Value} {p : α → World → Prop} {p' : β → World → Prop} (h : CnX P f args w S val p) (φ : α → β) (hv : ∀ x, val' (φ x) = val x) (hS : ∀ x ∈ S, x ∈ S')
    (hp : ∀ x w', Fr S w w' → p x w' → p' (φ x) w') : CnX P f args w S' val' p' :=
  Calls.mono h fun e w' he => let ⟨x, h1, h2, h3⟩ := he; ⟨φ x, by rw [hv]; exact h1, h2.mono (fun y hy => .inl (hS y hy)), hp x w' h2 h3⟩
end Go.Sp
namespace Go.Sp
open Go
/-- The blocks are known. -/
def Kn (H : List (Nat × Obj)) (w : World) : Prop := ∀ q ∈ H, w.heap[q.1]? = some q.2
/-- What a call of yield does: it says whether to go on. -/
def YieldC (P : Program) (yv : Value) (args : List Value) (w : World) (R : Bool → World → Prop) : Prop :=
  ∃ l f tmps assign body, yv = .func (.yield l) #[] #[] ∧ (Instr.yield l args.toArray).run P w = .ok (.round l f tmps assign body) w ∧
    RoundIn (FW none) 0 P l f tmps assign body w (fun e w' => ∃ b, e = .returned (.bool b) ∧ R b w')
/-- The blocks are known; they are among S, or newer than w1. -/
structure KnS (H : List (Nat × Obj)) (S : List Nat) (w1 w : World) : Prop where
  kn : Kn H w
  nd : (H.map Prod.fst).Nodup
  own : ∀ b ∈ H.map Prod.fst, b ∈ S ∨ w1.heap.size ≤ b
/-- What is asked of the rounds of a loop over xs: the known blocks are Hx s. -/
def Yd {α σ : Type} (P : Program) (yv : Value) (enc : α → List Value) (xs : List α) (S : List Nat) (Hx : σ → List (Nat × Obj)) (I : Nat → σ → Prop) (J : σ → Prop) (w1 : World) : Prop :=
  ∀ (i : Nat) (s : σ) (x : α) (w2 : World), xs[i]? = some x → I i s → Fr S w1 w2 → KnS (Hx s) S w1 w2 →
    YieldC P yv (enc x) w2 (fun b w3 => Fr ((Hx s).map Prod.fst) w2 w3 ∧ ∃ s', KnS (Hx s') ((Hx s).map Prod.fst) w2 w3 ∧ (b = true ∧ I (i + 1) s' ∨ b = false ∧ J s'))
/-- A function that yields xs: S0 may be turned by the rounds. -/
def Seq {α : Type} (P : Program) (g : FuncId) (lb : Array Value) (enc : α → List Value) (xs : List α) (S0 : List Nat) (w0 : World) : Prop :=
  ∀ (σ : Type) (l : Nat) (S : List Nat) (Hx : σ → List (Nat × Obj)) (I : Nat → σ → Prop) (J : σ → Prop) (s0 : σ) (w1 : World), Fr [] w0 w1 → (∀ b ∈ S, b ∈ S0 ∨ w0.heap.size ≤ b) → KnS (Hx s0) S w1 w1 → I 0 s0 →
    Yd P (.func (.yield l) #[] #[]) enc xs S Hx I J w1 →
    CnX P g (#[.func (.yield l) #[] #[]] ++ lb) w1 S (fun _ : σ => .tuple #[]) (fun s w' => KnS (Hx s) S w1 w' ∧ (I xs.length s ∨ J s))
theorem HG.knS {bs : List (World × List Nat)} {H : List (Nat × Obj)} {w w1 : World} {S : List Nat} (h : HG bs H w) (hb : (w1, S) ∈ bs) : KnS H S w1 w :=
  ⟨h.heap, h.nodup, fun b hb' => by
    obtain ⟨q, hq, rfl⟩ := List.mem_map.1 hb'
    exact h.own q hq (w1, S) hb⟩
theorem HG.callS {bs : List (World × List Nat)} {H H' H2 : List (Nat × Obj)} {w w' : World} (h : HG bs (H ++ H2) w) (f : Fr (H.map Prod.fst) w w') (hn : KnS H' (H.map Prod.fst) w w') : HG bs (H' ++ H2) w' := by
  have hnd := h.nodup
  rw [List.map_append, List.nodup_append] at hnd
  have h2 : ∀ q ∈ H2, q.1 < w.heap.size ∧ q.1 ∉ H.map Prod.fst := fun q hq => ⟨h.lt (List.mem_append_right _ hq), fun hm => hnd.2.2 q.1 hm q.1 (List.mem_map.2 ⟨q, hq, rfl⟩) rfl⟩
  refine ⟨fun β hβ => (h.base β hβ).trans f (fun x hx => ?_), fun q hq => ?_, ?_, fun p hp β hβ => ?_⟩
  · obtain ⟨q, hq, rfl⟩ := List.mem_map.1 hx
    exact h.own q (List.mem_append_left _ hq) β hβ
  · rcases List.mem_append.1 hq with hq | hq
    · exact hn.kn q hq
    · rw [f.block q.1 (h2 q hq).1 (h2 q hq).2]; exact h.heap q (List.mem_append_right _ hq)
  · rw [List.map_append, List.nodup_append]
    refine ⟨hn.nd, hnd.2.1, fun a ha b hb e => ?_⟩
    subst e
    obtain ⟨q, hq, rfl⟩ := List.mem_map.1 hb
    rcases hn.own _ ha with h' | h'
    · exact (h2 q hq).2 h'
    · have := (h2 q hq).1; omega
  · rcases List.mem_append.1 hp with hp | hp
    · rcases hn.own p.1 (List.mem_map.2 ⟨p, hp, rfl⟩) with h' | h'
      · obtain ⟨q, hq, e⟩ := List.mem_map.1 h'
        rw [← e]; exact h.own q (List.mem_append_left _ hq) β hβ
      · exact .inr (Nat.le_trans (h.base β hβ).size h')
    · exact h.own p (List.mem_append_right _ hp) β hβ
theorem YieldC.mono {P : Program} {yv : Value} {args : List Value} {w : World} {R R' : Bool → World → Prop} (h : YieldC P yv args w R) (hr : ∀ b w', R b w' → R' b w') : YieldC P yv args w R' := by
  obtain ⟨l, f, t, a, b, h1, h2, h3⟩ := h
  exact ⟨l, f, t, a, b, h1, h2, h3.mono fun e w' ⟨b, e1, e2⟩ => ⟨b, e1, hr _ _ e2⟩⟩
section
variable {r : Option Nat} {P : Program} {N : NN} {F : List (Nat × Value)} {bs : List (World × List Nat)} {H : List (Nat × Obj)}
  {d : Tmp} {ty : TypeId} {pos : String} {after : Array Edge} {g : Option (Nat × Bool)}
/-- The law of an operation that may call yield. -/
def OpR (P : Program) (o : Oper) (N : NN) (F : List (Nat × Value)) (bs : List (World × List Nat)) (H : List (Nat × Obj)) {α : Type} (p : α → Prop)
    (F' : α → List (Nat × Value)) (bs' : α → List (World × List Nat)) (H' : α → List (Nat × Obj)) : Prop :=
  ∀ (r : Option Nat) a w, TF N F a → HG bs H w → ∀ (K : Act → World → Prop) (Q : Exit → Act → World → Prop), (∀ x a' w', p x → TF N (F' x) a' → HG (bs' x) (H' x) w' → K a' w') → o.wpIn (FW r) 0 P a w K Q
theorem tl_r {ops : Array Oper} {Q : Exit → Act → World → Prop} {o : Oper} {rest : List Oper} {α : Type} {p : α → Prop} {F' : α → List (Nat × Value)} {bs' : α → List (World × List Nat)} {H' : α → List (Nat × Obj)}
    (he : OpR P o N F bs H p F' bs' H') (hg : o.guard = none) (h : ∀ x, p x → TL r P ops Q rest N (F' x) (bs' x) (H' x)) : TL r P ops Q (o :: rest) N F bs H := fun a w ht hw => by
  unfold wpListIn
  rw [if_pos (by simp [Region.wanted, hg])]
  exact he r a w ht hw (wpListIn (FW r) 0 P ops Q rest) Q (fun x a' w' hx h1 h2 => h x hx a' w' h1 h2)
theorem tl_rg {ops : Array Oper} {Q : Exit → Act → World → Prop} {op : Op} {dd : Option Tmp} {j : Nat} {b : Bool} {t : Tmp} {rest : List Oper} {α : Type} {p : α → Prop} {F' : α → List (Nat × Value)} {bs' : α → List (World × List Nat)} {H' : α → List (Nat × Obj)}
    (h1 : gdT ops j = some t) (h2 : look F t = some (.bool b))
    (he : OpR P ⟨dd, op, ty, pos, after, some (j, b)⟩ N F bs H p F' bs' H') (h : ∀ x, p x → TL r P ops Q rest N (F' x) (bs' x) (H' x)) : TL r P ops Q (⟨dd, op, ty, pos, after, some (j, b)⟩ :: rest) N F bs H := fun a w ht hw => by
  unfold wpListIn
  rw [if_pos (by simp [Region.wanted, yielded_of ht h1 h2])]
  exact he r a w ht hw (wpListIn (FW r) 0 P ops Q rest) Q (fun x a' w' hx h1 h2 => h x hx a' w' h1 h2)
/-- Yield is called, in state s of the known blocks. -/
theorem e_yield {α σ : Type} {x : Operand} {xo : List Operand} {tys : Array TypeId} {l : Nat} {cap : Array Value} {vs : List Value} {enc : α → List Value} {xs : List α} {S : List Nat} {Hx : σ → List (Nat × Obj)} {I : Nat → σ → Prop} {J : σ → Prop} {w1 : World} (H2 : List (Nat × Obj)) (i : Nat) (s : σ) (y : α)
    (hd : Nat.blt d N.n = true) (hx : evalO F x = some (.func (.yield l) #[] cap)) (hcap : cap = #[]) (hxs : EA F xo vs) (hvs : vs = enc y) (hy : xs[i]? = some y) (hI : I i s) (hYd : Yd P (.func (.yield l) #[] #[]) enc xs S Hx I J w1)
    (hb : (w1, S) ∈ bs) (hH : H = Hx s ++ H2) :
    OpR P ⟨some d, .call ⟨.value x, xo.toArray, tys⟩, ty, pos, after, g⟩ N F bs H (fun q : Bool × σ => q.1 = true ∧ I (i + 1) q.2 ∨ q.1 = false ∧ J q.2) (fun q => (d, .bool q.1) :: F) (fun _ => bs) (fun q => Hx q.2 ++ H2) := fun r a w ht hw K Q hK => by
  subst hcap; subst hH; subst hvs
  have hw1 : HG [(w1, S)] (Hx s) w := hw.sub (fun β hβ => by obtain rfl := List.mem_singleton.1 hβ; exact hb) (List.sublist_append_left _ _)
  obtain ⟨l', f, tmps, assign, body, h1, h2, h3⟩ := hYd i s y w hy hI (hw.fr hb) (hw1.knS (by simp))
  cases h1
  have he : (execOp a.eval ⟨some d, .call ⟨.value x, xo.toArray, tys⟩, ty, pos, after, g⟩).run P w = .ok (.round l f tmps assign body) w := by
    simp only [execOp, resolve, Sem.run_bind, ht.eval hx, Deferred.ofValue, Sem.run_pure, Result.andThen, invoke, hxs.map ht]
    simpa using h2
  refine ⟨fun _ _ => trivial, ?_⟩
  rw [Oper.semAt_eq _ _ _ (by simp), he]
  refine ⟨fun h => (by cases h), RoundIn.mono (F := FW r) h3 fun e w' hq => ?_⟩
  obtain ⟨b, rfl, hf, s', hk', hor⟩ := hq
  exact hK (b, s') _ _ hor (ht.put hd _) (hw.callS hf hk')
end
def zipF : List Tmp → List Value → List (Nat × Value) → List (Nat × Value)
  | p :: ps, v :: vs, F => zipF ps vs ((p, v) :: F)
  | _, _, F => F
theorem TF.params {N : NN} {a : Act} : ∀ {ps : List Tmp} {vs : List Value} {F : List (Nat × Value)} {tm : Array Value}, ps.all (Nat.blt · N.n) = true → TF N F { a with tmps := tm } → TF N (zipF ps vs F) { a with tmps := (ps.zip vs).foldl (fun t (p, v) => t.setIfInBounds p v) tm }
  | [], _, _, _, _, h => by simpa [zipF] using h
  | _ :: _, [], _, _, _, h => by simpa [zipF] using h
  | p :: ps, v :: vs, F, tm, hp, h => by
    simp only [List.all_cons, Bool.and_eq_true] at hp
    have := h.put hp.1 v
    exact TF.params (ps := ps) (vs := vs) hp.2 this
end Go.Sp
namespace Go.Sp
open Go
/-- How a round ends. -/
def roundQ {σ : Type} (bs : List (World × List Nat)) (l : Nat) (R1 : Obj) (Hx : σ → List (Nat × Obj)) (I' : σ → Prop) (Jx : Code → σ → Prop) : Exit → Act → World → Prop
  | .normal, _, w => ∃ s', I' s' ∧ HG bs ((l, R1) :: Hx s') w
  | .ret, _, w => ∃ s', Jx .ret s' ∧ HG bs ((l, R1) :: Hx s') w
  | .exit id, _, w => ∃ s', Jx (.exit id) s' ∧ HG bs ((l, R1) :: Hx s') w
  | .goto t, _, w => ∃ s', Jx (.goto t) s' ∧ HG bs ((l, R1) :: Hx s') w
  | _, _, _ => False
theorem HG.put {bs : List (World × List Nat)} {H H' : List (Nat × Obj)} {w : World} {b : Nat} {o o' : Obj} (h : HG bs H w) (hu : HU b o o' H H') (hz : unfz o = true := by rfl) (hz' : unfz o' = true := by rfl) : HG bs H' (w.putObj b o') :=
  h.set hu ⟨rfl, rfl, rfl, rfl⟩ hz hz'
theorem HG.base1 {bs : List (World × List Nat)} {H : List (Nat × Obj)} {w : World} {S : List Nat} (h : HG bs H w) (hS : ∀ q ∈ H, q.1 ∈ S) : HG ((w, S) :: bs) H w :=
  ⟨fun β hβ => by
    rcases List.mem_cons.1 hβ with rfl | hβ
    · exact Fr.refl _ _
    · exact h.base β hβ, h.heap, h.nodup, fun q hq β hβ => by
    rcases List.mem_cons.1 hβ with rfl | hβ
    · exact .inl (hS q hq)
    · exact h.own q hq β hβ⟩
/-- The loop's record between two rounds, or behind the last one. -/
def recO (fn : FuncId) (tmps : Array Value) (ps : List Tmp) (assign body : Code) (D : Nat) (o : Option Code) : Loop :=
  { state := if o.isNone then .ready else .done, pending := o, fn := fn, tmps := tmps, params := ps.toArray, assign := assign, body := body, defers := D }
theorem tc_range {α σ : Type} {P : Program} {N : NN} {F : List (Nat × Value)} {bs : List (World × List Nat)} {H : List (Nat × Obj)} {gop : Operand} {ps : List Tmp} {assign body : Code} {Q : Exit → Act → World → Prop} {gf : FuncId} [GoFn P gf] {lb : Array Value} {enc : α → List Value} (xs : List α)
    (S0 : List Nat) (Hx : σ → List (Nat × Obj)) (I : Nat → σ → Prop) (Jx : Code → σ → Prop) (s0 : σ)
    (hg : evalO F gop = some (.func (.func gf) #[] lb)) (hps : ps.all (Nat.blt · N.n) = true) (hen : ∀ x, (enc x).length = ps.length) (h0 : I 0 s0) (hS0 : ∀ q ∈ Hx s0, q.1 ∈ S0)
    (hH : ∀ w, HG bs H w → HG bs (Hx s0) w) (hseq : ∀ w, HG bs H w → Seq P gf lb enc xs S0 w)
    (hround : ∀ (l : Nat) (R0 R1 : Obj) (i : Nat) (s : σ) (x : α) (w2 : World), xs[i]? = some x → I i s → ∀ K : Act → World → Prop,
      (∀ {F2 : List (Nat × Value)}, TC (some l) P body (roundQ ((w2, l :: (Hx s).map Prod.fst) :: bs) l R1 Hx (I (i + 1)) Jx) ⟨N.n, []⟩ F2 ((w2, l :: (Hx s).map Prod.fst) :: bs) ((l, R1) :: Hx s) → TK K ⟨N.n, []⟩ F2 ((w2, l :: (Hx s).map Prod.fst) :: bs) ((l, R0) :: Hx s)) →
      TC (some l) P assign (Exit.then K (fun _ _ _ => False)) ⟨N.n, []⟩ (zipF ps (enc x) F) ((w2, l :: (Hx s).map Prod.fst) :: bs) ((l, R0) :: Hx s))
    (hdone : ∀ (D : Nat) (s : σ), I xs.length s → TK (Q .normal) ⟨N.n, { target := .collected D, args := #[] } :: N.ds⟩ F bs ((D, .deferred (some [])) :: Hx s))
    (hstop : ∀ (D : Nat) (c : Code) (s : σ), Jx c s → TC none P c Q ⟨N.n, { target := .collected D, args := #[] } :: N.ds⟩ F bs ((D, .deferred (some [])) :: Hx s)) :
    TC none P (.rangeFunc gop ps.toArray assign body) Q N F bs H := fun a w ht hw => by
  refine wpIn_rangeFunc fun fn _ => ?_
  obtain ⟨D, hD⟩ : ∃ D, D = w.heap.size := ⟨_, rfl⟩
  obtain ⟨l, hl⟩ : ∃ l, l = w.heap.size + 1 := ⟨_, rfl⟩
  obtain ⟨W1, hW⟩ : ∃ W1, W1 = (w.alloc (.deferred (some []))).alloc (.loop (recO fn a.tmps ps assign body D none)) := ⟨_, rfl⟩
  have hHx := hH w hw
  have hA : HG bs ((l, .loop (recO fn a.tmps ps assign body D none)) :: (D, .deferred (some [])) :: Hx s0) W1 := by
    have h1 := (hHx.alloc (.deferred (some []))).alloc (.loop (recO fn a.tmps ps assign body D none))
    rw [World.size_alloc] at h1
    rw [hW, hl]
    conv => enter [2, 2, 1]; rw [hD]
    exact h1
  have hb0 : Fr [] w W1 := by
    have := (hHx.base1 (S := S0) hS0)
    have h1 := (this.alloc (.deferred (some []))).alloc (.loop (recO fn a.tmps ps assign body D none))
    rw [← hW] at h1
    have h2 := h1.base (w, S0) (by simp)
    refine ⟨h2.os, h2.tape, h2.output, h2.size, fun k hk _ => ?_⟩
    rw [hW, Go.RowKit.Below.heap_alloc _ _ k (by simp; omega), Go.RowKit.Below.heap_alloc _ _ k hk]
  refine ⟨l, [{ target := .collected D, args := #[] }], W1, { target := .fn (.func gf) lb, args := #[.func (.yield l) #[] #[]] }, W1, gf, #[.func (.yield l) #[] #[]] ++ lb, W1, ?_, ?_, fun _ _ => trivial, ?_, fun h => (by cases h), ?_⟩
  · rw [hW, hl, hD]; exact run_enterLoop_outer _ _ _ _ _
  · simp only [resolve, ht.eval hg]
    simp [go_sem]
  · simp [invoke, callFunc_run]
  -- the function that is ranged over
  have hKn : KnS ((l, .loop (recO fn a.tmps ps assign body D none)) :: Hx s0) (l :: (Hx s0).map Prod.fst) W1 W1 :=
    ((hA.sub (bs' := bs) (fun _ h => h) (.cons_cons _ (.cons _ (List.Sublist.refl _)))).base1 (S := l :: (Hx s0).map Prod.fst) (fun q hq => by
      rcases List.mem_cons.1 hq with rfl | hq
      · simp
      · exact List.mem_cons_of_mem _ (List.mem_map.2 ⟨q, hq, rfl⟩))).knS (by simp)
  have hperm : ∀ (X : Nat × Obj) (Z : List (Nat × Obj)), (X :: (D, Obj.deferred (some [])) :: Z).Perm ((X :: Z) ++ [(D, Obj.deferred (some []))]) := fun X Z =>
    .cons _ ((List.perm_append_singleton _ _).symm)
  have hA' := hA.perm (hperm _ _)
  -- in any world behind some rounds
  have hback : ∀ (w2 : World) (o : Option Code) (s : σ), Fr (l :: (Hx s0).map Prod.fst) W1 w2 → KnS ((l, .loop (recO fn a.tmps ps assign body D o)) :: Hx s) (l :: (Hx s0).map Prod.fst) W1 w2 →
      HG bs ((l, .loop (recO fn a.tmps ps assign body D o)) :: (D, .deferred (some [])) :: Hx s) w2 := fun w2 o s f h =>
    (hA'.callS (H' := (l, .loop (recO fn a.tmps ps assign body D o)) :: Hx s) f h).perm (hperm _ _).symm
  refine CallsIn.mono (callsIn_wide (n := 0).2 (hseq w hw (σ × Option Code) l (l :: (Hx s0).map Prod.fst) (fun p => (l, .loop (recO fn a.tmps ps assign body D p.2)) :: Hx p.1) (fun i p => p.2 = none ∧ I i p.1) (fun p => ∃ c, p.2 = some c ∧ Jx c p.1) (s0, none) W1 hb0
    (fun b hb => by
      rcases List.mem_cons.1 hb with rfl | hb
      · exact .inr (by omega)
      · obtain ⟨q, hq, rfl⟩ := List.mem_map.1 hb
        exact .inl (hS0 q hq)) hKn ⟨rfl, h0⟩ ?_)) ?_
  · -- a round
    rintro i ⟨s, o⟩ x w2 hx ⟨rfl, hI⟩ f2 hk2
    have h2 := hback w2 none s f2 hk2
    have h3 : HG ((w2, l :: (Hx s).map Prod.fst) :: bs) ((l, .loop (recO fn a.tmps ps assign body D none)) :: Hx s) w2 :=
      (h2.sub (fun _ h => h) (.cons_cons _ (.cons _ (List.Sublist.refl _)))).base1 (fun q hq => by
        rcases List.mem_cons.1 hq with rfl | hq
        · simp
        · exact List.mem_cons_of_mem _ (List.mem_map.2 ⟨q, hq, rfl⟩))
    have hl2 := h3.heap (l, .loop (recO fn a.tmps ps assign body D none)) (by simp)
    have hy := run_yield (P := P) (args := (enc x).toArray) hl2 (by simp [recO, hen])
    refine ⟨l, _, _, _, _, rfl, hy, roundIn_of_wpIn (F := FW none) (n := 0) trivial ?_⟩
    have hT : TF ⟨N.n, []⟩ F { tmps := a.tmps, defers := [] } := ⟨rfl, ht.size, ht.tmp⟩
    have hT2 := TF.params (N := ⟨N.n, []⟩) (a := { tmps := a.tmps, defers := [] }) (ps := ps) (vs := enc x) (tm := a.tmps) hps hT
    refine hround l (.loop (recO fn a.tmps ps assign body D none)) (.loop { recO fn a.tmps ps assign body D none with state := .busy }) i s x w2 hx hI _ (fun hb a1 w1 ht1 hw1 => ?_) _ w2 (by simpa [recO] using hT2) h3
    refine ⟨_, run_beginRound (hw1.heap (l, .loop (recO fn a.tmps ps assign body D none)) (by simp)) rfl, wpIn_mono (hb a1 _ ht1 (hw1.put .head)) fun e a3 w3 he => ?_⟩
    have fin : ∀ (jump : Option Code) (s' : σ), HG ((w2, l :: (Hx s).map Prod.fst) :: bs) ((l, .loop { recO fn a.tmps ps assign body D none with state := .busy }) :: Hx s') w3 →
        (Instr.endRound l jump).run P w3 = .ok (.bool jump.isNone) (w3.putObj l (.loop (recO fn a.tmps ps assign body D jump))) ∧
        Fr (l :: (Hx s).map Prod.fst) w2 (w3.putObj l (.loop (recO fn a.tmps ps assign body D jump))) ∧ KnS ((l, .loop (recO fn a.tmps ps assign body D jump)) :: Hx s') (l :: (Hx s).map Prod.fst) w2 (w3.putObj l (.loop (recO fn a.tmps ps assign body D jump))) := fun jump s' h => by
      have hp := h.put (o' := .loop (recO fn a.tmps ps assign body D jump)) .head
      exact ⟨run_endRound jump (h.heap (l, .loop { recO fn a.tmps ps assign body D none with state := .busy }) (by simp)), hp.base (w2, l :: (Hx s).map Prod.fst) (by simp), hp.knS (by simp)⟩
    cases e with
    | normal => obtain ⟨s', h1, h2⟩ := he; obtain ⟨e1, e2, e3⟩ := fin none s' h2; exact ⟨_, _, e1, true, rfl, e2, (s', none), e3, .inl ⟨rfl, rfl, h1⟩⟩
    | ret => obtain ⟨s', h1, h2⟩ := he; obtain ⟨e1, e2, e3⟩ := fin (some .ret) s' h2; exact ⟨_, _, e1, false, rfl, e2, (s', some .ret), e3, .inr ⟨rfl, _, rfl, h1⟩⟩
    | exit id => obtain ⟨s', h1, h2⟩ := he; obtain ⟨e1, e2, e3⟩ := fin (some (.exit id)) s' h2; exact ⟨_, _, e1, false, rfl, e2, (s', some (.exit id)), e3, .inr ⟨rfl, _, rfl, h1⟩⟩
    | goto t => obtain ⟨s', h1, h2⟩ := he; obtain ⟨e1, e2, e3⟩ := fin (some (.goto t)) s' h2; exact ⟨_, _, e1, false, rfl, e2, (s', some (.goto t)), e3, .inr ⟨rfl, _, rfl, h1⟩⟩
    | panic c => exact he.elim
    | outgrown => exact he.elim
  · -- behind it
    rintro e w3 ⟨⟨s, o⟩, rfl, f3, hk3, hor⟩
    have h3 := hback w3 o s f3 hk3
    have hT : TF ⟨N.n, { target := .collected D, args := #[] } :: N.ds⟩ F { a with defers := [{ target := .collected D, args := #[] }] ++ a.defers } := ⟨by simp [ht.defers], ht.size, ht.tmp⟩
    have hp := (h3.put (o' := .loop { recO fn a.tmps ps assign body D o with state := .exhausted }) .head).sub (bs' := bs) (fun _ h => h) (.cons _ (List.Sublist.refl _))
    refine ⟨o, _, run_endLoop (h3.heap (l, .loop (recO fn a.tmps ps assign body D o)) (by simp)) (by cases o <;> simp [recO]), ?_⟩
    rcases hor with ⟨ho, hI⟩ | ⟨c, ho, hJ⟩
    · simp only at ho; subst ho; exact hdone D s hI _ _ hT hp
    · simp only at ho; subst ho; exact hstop D c s hJ _ _ hT hp
end Go.Sp
namespace Go.Sp
open Go
section
variable {P : Program} {N : NN} {F : List (Nat × Value)} {bs : List (World × List Nat)} {H : List (Nat × Obj)}
theorem tk_ib {id : Nat} {Q : Exit → Act → World → Prop} (h : TK (Q .normal) N F bs H) : TK (Exit.inBlock id Q .normal) N F bs H := h
theorem tk_rq {σ : Type} {bs0 : List (World × List Nat)} {l : Nat} {R1 : Obj} {Hx : σ → List (Nat × Obj)} {I' : σ → Prop} {Jx : Code → σ → Prop} (s' : σ) (h1 : I' s') (h2 : ∀ w, HG bs H w → HG bs0 ((l, R1) :: Hx s') w) : TK (roundQ bs0 l R1 Hx I' Jx .normal) N F bs H := fun _ w _ hw => ⟨s', h1, h2 w hw⟩
theorem tk_rexit {σ : Type} {bs0 : List (World × List Nat)} {l id : Nat} {R1 : Obj} {Hx : σ → List (Nat × Obj)} {I' : σ → Prop} {Jx : Code → σ → Prop} (s' : σ) (h1 : Jx (.exit id) s') (h2 : ∀ w, HG bs H w → HG bs0 ((l, R1) :: Hx s') w) : TK (roundQ bs0 l R1 Hx I' Jx (.exit id)) N F bs H := fun _ w _ hw => ⟨s', h1, h2 w hw⟩
theorem tk_retM {fn : Func} {R : Ending → World → Prop} {H' : List (Nat × Obj)} {rs : List ResultVar} {vs : List Value} {D : Nat} (hds : N.ds = [{ target := .collected D, args := #[] }]) (hu : HU D (.deferred (some [])) (.deferred none) H H') (hf : fn.results = rs.toArray) (h : RVs P F bs H' rs vs) (hR : ∀ w, HG bs H' w → R (.returned (outV vs)) w) : TK (bodyP P fn R .ret) N F bs H := fun a w ht hw => by
  show LeavesInM (FW none) 0 P fn a.tmps R a.defers .returning w
  rw [ht.defers, hds]
  exact ⟨by simp, .inl ⟨D, _, rfl, run_takeDeferred (hw.heap _ hu.mem), _, results_run hf h ht (hw.put hu), hR _ (hw.put hu)⟩⟩
end
end Go.Sp
namespace Go.Sp
open Go
section
variable {P : Program} {N : NN} {F : List (Nat × Value)} {bs : List (World × List Nat)} {H : List (Nat × Obj)}
  {d : Option Tmp} {ty : TypeId} {pos : String} {after : Array Edge} {g : Option (Nat × Bool)}
/-- An array of bools. -/
class TyArrB (P : Program) (t : TypeId) (n : outParam Nat) : Prop where
  arr : ∃ e, P.underlying t = some (.array n e) ∧ P.underlying e = some .bool ∧ (P.info? e).map (·.size) = some 1
  gd : P.eqGuardType P.depth t = false
end
section
variable {P : Program} {N : NN} {F : List (Nat × Value)} {bs : List (World × List Nat)} {H : List (Nat × Obj)}
  {ty : TypeId} {pos : String} {after : Array Edge} {g : Option (Nat × Bool)}
end
end Go.Sp
namespace Go.Sp
open Go
theorem bft (h : false = true) : False := Bool.noConfusion h
theorem btf (h : true = false) : False := Bool.noConfusion h
section
variable {r : Option Nat} {P : Program} {N : NN} {F : List (Nat × Value)} {bs : List (World × List Nat)} {H : List (Nat × Obj)}
theorem HG.lay {w : World} (h : HG bs H w) {Hk : List (Nat × Obj)} (hk : Hk.Sublist H) : HG ((w, Hk.map Prod.fst) :: bs) Hk w := (h.sub (fun _ h => h) hk).push
/-- All but Hk is laid down in the world w1. -/
theorem tc_lay (Hk : List (Nat × Obj)) {c : Code} {Q : Exit → Act → World → Prop} (hk : Hk.Sublist H) (h : ∀ w1, HG bs H w1 → TC r P c Q N F ((w1, Hk.map Prod.fst) :: bs) Hk) : TC r P c Q N F bs H :=
  fun a w ht hw => h w hw a w ht (hw.lay hk)
theorem tk_lay (Hk : List (Nat × Obj)) {K : Act → World → Prop} (hk : Hk.Sublist H) (h : ∀ w1, HG bs H w1 → TK K N F ((w1, Hk.map Prod.fst) :: bs) Hk) : TK K N F bs H :=
  fun a w ht hw => h w hw a w ht (hw.lay hk)
end
section
variable {P : Program} {F : List (Nat × Value)} {bs : List (World × List Nat)} {H : List (Nat × Obj)}
  {d : Option Tmp} {ty : TypeId} {pos : String} {after : Array Edge} {g : Option (Nat × Bool)}
theorem Fr.keeps {S : List Nat} {w w' : World} (h : Fr S w w') {b : Nat} {o : Obj} (hS : b ∉ S) (hb : w.heap[b]? = some o) : w'.heap[b]? = some o := by
  rw [h.block b (by rcases Nat.lt_or_ge b w.heap.size with h | h; exact h; rw [Array.getElem?_eq_none h] at hb; cases hb) hS]; exact hb
theorem y_load1f {x : Operand} {b o : Nat} {t : TypeId} {z : Value} [TyOne P t z] {obj : Obj} {v : Value} {w1 : World} {S : List Nat} (h : evalO F x = some (.pointer (some ⟨b, o, none⟩)))
    (hb : w1.heap[b]? = some obj) (hm : (w1, S) ∈ bs) (hS : b ∉ S) (hc : cellAt obj o = some v) : OpY P ⟨d, .load t x, ty, pos, after, g⟩ F bs H v :=
  y_load1o h fun w hw => cellAt_cell? ((hw.base _ hm).keeps hS hb) hc
theorem y_loadWf {x : Operand} {b : Nat} {t : TypeId} {n : Nat} {zs : Array Value} [TyAgg P t n zs] {c : Array Value} {e : TypeId} {f : Nat × Nat} {w1 : World} {S : List Nat} (h : evalO F x = some (.pointer (some ⟨b, 0, none⟩)))
    (hb : w1.heap[b]? = some (.cells c e f)) (hm : (w1, S) ∈ bs) (hS : b ∉ S) (hn : c.size = n) : OpY P ⟨d, .load t x, ty, pos, after, g⟩ F bs H (.agg c) := by
  have := y_loadNo (P := P) (F := F) (bs := bs) (H := H) (d := d) (ty := ty) (pos := pos) (after := after) (g := g) (t := t) h (fun w hw => (CA_whole (t := e) (f := f) hn).cells ((hw.base _ hm).keeps hS hb))
  simpa using this
end
section
variable {r : Option Nat} {P : Program} {ops : Array Oper} {Q : Exit → Act → World → Prop} {N : NN} {F : List (Nat × Value)} {bs : List (World × List Nat)} {H : List (Nat × Obj)}
/-- A guard that was skipped itself. -/
theorem yielded_un {a : Act} (ht : TF N F a) {j : Nat} {t : Tmp} (h1 : gdT ops j = some t) (h2 : look F t = some undef) : yielded ops a.tmps j = none := by
  have := ht.tmp t _ h2
  unfold gdT at h1
  simp [yielded, h1, this, undef]
theorem tl_su {d : Tmp} {op : Op} {ty : TypeId} {pos : String} {after : Array Edge} {rest : List Oper} {j : Nat} {b' : Bool} {t : Tmp} (h1 : gdT ops j = some t) (h2 : look F t = some undef)
    (hd : Nat.blt d N.n = true)
    (h : TL r P ops Q rest N ((d, undef) :: F) bs H) : TL r P ops Q (⟨some d, op, ty, pos, after, some (j, b')⟩ :: rest) N F bs H := fun a w ht hw =>
  by
    unfold wpListIn
    rw [if_neg (by simp [Region.wanted, yielded_un ht h1 h2])]
    exact ⟨fun _ _ => trivial, h _ _ (ht.put hd undef) hw⟩
end
end Go.Sp
namespace Go.Sp
open Go
theorem HG.subl {bs bs' : List (World × List Nat)} {H H' : List (Nat × Obj)} {w : World} (h : HG bs H w) (hb : bs'.Sublist bs) (hH : H'.Sublist H) : HG bs' H' w := h.sub (fun _ h => hb.subset h) hH
/-- Nothing has turned since w1: what could have is known to be as it was. -/
theorem HG.calm {bs bs0 : List (World × List Nat)} {H H0 : List (Nat × Obj)} {w w1 : World} (hw : HG bs H w) (h1 : HG bs0 H0 w1) (hb : (w1, H0.map Prod.fst) ∈ bs) (hs : H0.Sublist H) : Fr [] w1 w :=
  let f := hw.base _ hb
  ⟨f.os, f.tape, f.output, f.size, fun k hk _ => by
    by_cases hm : k ∈ H0.map Prod.fst
    · obtain ⟨p, hp, rfl⟩ := List.mem_map.1 hm
      rw [hw.heap p (hs.subset hp), h1.heap p hp]
    · exact f.block k hk hm⟩
/-- The heap as it was laid down. -/
theorem HG.at {bs : List (World × List Nat)} {H : List (Nat × Obj)} {w : World} (h : HG bs H w) {b : Nat} {o : Obj} (hm : HM b o H) : w.heap[b]? = some o := h.heap _ hm.mem
section
variable {r : Option Nat} {P : Program} {ops : Array Oper} {Q : Exit → Act → World → Prop} {N : NN} {F : List (Nat × Value)} {bs : List (World × List Nat)} {H : List (Nat × Obj)}
theorem to_eg {fuel : Nat} {S S' : World → Prop} {listed : List Bool} {i : Nat} {d : Option Tmp} {op : Op} {ty : TypeId} {pos : String} {after : Array Edge} {j : Nat} {b : Bool} {t : Tmp} {α : Type} {p : α → Prop} {F' : α → List (Nat × Value)} {bs' : α → List (World × List Nat)} {H' : α → List (Nat × Obj)}
    (hi : ops[i]? = some ⟨d, op, ty, pos, after, some (j, b)⟩) (h1 : gdT ops j = some t) (h2 : look F t = some (.bool b)) (hn : notDefer op = true) (he : OpE P ⟨d, op, ty, pos, after, some (j, b)⟩ N F bs H p F' bs' H')
    (hS : waitsAll ops listed.toArray i = true ∨ ((∀ x w, HG (bs' x) (H' x) w → S w) ∧ ∀ w, S' w → S w))
    (h : ∀ x, p x → TX r P ops Q fuel S' (listed.set i true).toArray N (F' x) (bs' x) (H' x)) : TOne r P ops Q fuel S listed.toArray i N F bs H := fun a w ht hw => by
  unfold wpOpIn
  simp only [hi]
  rw [if_pos (by simp [Region.wanted, yielded_of ht h1 h2])]
  exact wpIn_of_wp hn <| he a w ht hw _ Q (fun x a' w' hx h1 h2 => (by
    have hx' := h x hx a' w' h1 h2
    rw [show (listed.set i true).toArray = listed.toArray.setIfInBounds i true from by simp] at hx'
    rcases hS with hS | ⟨hS, hS'⟩
    · exact .inl ⟨hS, _, hx'⟩
    · exact .inr ⟨hS x w' h2, wpX_mono hS' _ _ _ _ hx'⟩ :
      (waitsAll ops listed.toArray i = true ∧ ∃ S', wpX r P ops Q fuel S' (listed.toArray.setIfInBounds i true) a' w') ∨ (S w' ∧ wpX r P ops Q fuel S (listed.toArray.setIfInBounds i true) a' w')))
end
end Go.Sp
namespace Go.Sp
open Go
inductive SB {α : Type} : List α → List α → Prop
  | nil {m : List α} : SB [] m
  | two {a : α} {l m : List α} : SB l m → SB (a :: l) (a :: m)
  | one {a : α} {l m : List α} : SB l m → SB l (a :: m)
  | refl {l : List α} : SB l l
theorem qn1 {p : Prop} [Decidable p] : (decide p = true) = p := decide_eq_true_eq
theorem qn2 {p : Prop} [Decidable p] : decide p = false ↔ ¬ p := decide_eq_false_iff_not
theorem qn3 {a b : Int} : ¬ a < b ↔ b ≤ a := Int.not_lt
theorem qn4 {a b : Int} : ¬ a ≤ b ↔ b < a := Int.not_le
theorem qn5 (b : Bool) : ((!b) = true) = (b = false) := Bool.not_eq_true' b
theorem qn6 (b : Bool) : ((!b) = false) = (b = true) := Bool.not_eq_false' b
theorem qn7 {p : Prop} [Decidable p] : ¬ ¬ p ↔ p := Decidable.not_not
theorem qn8 : (¬ True) = False := not_true_eq_false
theorem SB.s {α : Type} {l m : List α} (h : SB l m := by repeat constructor) : l.Sublist m := by
  induction h with
  | nil => exact List.nil_sublist _
  | two _ ih => exact ih.cons_cons _
  | one _ ih => exact ih.cons _
  | refl => exact List.Sublist.refl _
inductive MI {α : Type} (a : α) : List α → Prop
  | head {l : List α} : MI a (a :: l)
  | tail {b : α} {l : List α} : MI a l → MI a (b :: l)
theorem MI.m {α : Type} {a : α} {l : List α} (h : MI a l := by repeat constructor) : a ∈ l := by
  induction h with
  | head => exact List.mem_cons_self
  | tail _ ih => exact List.mem_cons_of_mem _ ih
theorem qq1 {α : Type} {bs : List (World × List Nat)} {q : α → Nat × Obj} {H : List (Nat × Obj)} : ∀ (x : α) (w : World), HG bs (q x :: H) w → HG bs H w := fun _ _ h => h.sub (fun _ h => h) (List.sublist_cons_self _ _)
/-- Ways meet again: behind x a family of states is met. -/
theorem tc_join {r : Option Nat} {P : Program} {x y : Code} {Q : Exit → Act → World → Prop} {N : NN} {F : List (Nat × Value)} {bs : List (World × List Nat)} {H : List (Nat × Obj)} {α : Type} (I : α → Prop) (F' : α → List (Nat × Value)) (bs' : α → List (World × List Nat)) (H' : α → List (Nat × Obj))
    (hx : TC r P x (Exit.then (fun a w => ∃ z, I z ∧ TF N (F' z) a ∧ HG (bs' z) (H' z) w) Q) N F bs H)
    (hy : ∀ z, I z → TC r P y Q N (F' z) (bs' z) (H' z)) : TC r P (.seq x y) Q N F bs H := fun a w ht hw =>
  wpIn_seq (wpIn_mono (hx a w ht hw) fun e a w he => by
    cases e with
    | normal => obtain ⟨z, hz, h1, h2⟩ := he; exact hy z hz a w h1 h2
    | _ => exact he)
section
variable {P : Program} {F : List (Nat × Value)} {bs : List (World × List Nat)} {H : List (Nat × Obj)}
  {d : Option Tmp} {ty : TypeId} {pos : String} {after : Array Edge} {g : Option (Nat × Bool)}
end
end Go.Sp
namespace Go.Sp
open Go
section
variable {r : Option Nat} {P : Program} {ops : Array Oper} {Q : Exit → Act → World → Prop} {N : NN} {F : List (Nat × Value)} {bs : List (World × List Nat)} {H : List (Nat × Obj)}
/-- What is said behind a point where all orders meet is said once. -/
theorem tx_cut {fuel n' : Nat} {bs0 : List (World × List Nat)} {Hs : List (Nat × Obj)} {listed : Array Bool} {L' : List Bool} (F' : List (Nat × Value)) (h1 : TX r P ops Q n' (HG bs0 Hs) L'.toArray N F' bs0 Hs)
    (h2 : TX r P ops Q n' (HG bs0 Hs) L'.toArray N F' bs0 Hs → TX r P ops Q fuel (HG bs0 Hs) listed N F bs H) : TX r P ops Q fuel (HG bs0 Hs) listed N F bs H := h2 h1
theorem tx_meet {n n' : Nat} {bs0 : List (World × List Nat)} {Hs : List (Nat × Obj)} {listed : Array Bool} {L' : List Bool} {F' : List (Nat × Value)} (h1 : TX r P ops Q n' (HG bs0 Hs) L'.toArray N F' bs0 Hs)
    (hn : n = n') (hL : listed = L'.toArray) (hF : Sub F F') (hH : ∀ w, HG bs H w → HG bs0 Hs w) : TX r P ops Q n (HG bs0 Hs) listed N F bs H := by
  subst hn; subst hL
  unfold TX at h1 ⊢
  exact fun a w ht hw => h1 a w (ht.sub hF) (hH w hw)
/-- What is listed, written out. -/
theorem tx_norm {n : Nat} {S : World → Prop} {listed : Array Bool} {L' : List Bool} (hL : listed = L'.toArray) (h : TX r P ops Q n S L'.toArray N F bs H) : TX r P ops Q n S listed N F bs H := by
  subst hL; exact h
end
end Go.Sp
namespace Go.Sp
open Go
/-- A function that yields xs, and turns one block of its own: S0 may be turned. -/
def SeqP {α : Type} (P : Program) (g : FuncId) (lb : Array Value) (enc : α → List Value) (xs : List α) (b : Nat) (Jb : Obj → Prop) (S0 : List Nat) (w0 : World) : Prop :=
  ∀ (σ : Type) (l : Nat) (S : List Nat) (Hx : σ → List (Nat × Obj)) (I : Nat → σ → Prop) (J : σ → Prop) (s0 : σ) (w1 : World) (o : Obj), Fr [] w0 w1 → b ∈ S → (∀ x ∈ S, x ∈ S0 ∨ w0.heap.size ≤ x) → w1.heap[b]? = some o → Jb o → (∀ s, ((∃ i, I i s) ∨ J s) → b ∉ (Hx s).map Prod.fst) → KnS (Hx s0) S w1 w1 → I 0 s0 →
    Yd P (.func (.yield l) #[] #[]) enc xs S Hx I J w1 →
    CnX P g (#[.func (.yield l) #[] #[]] ++ lb) w1 S (fun _ : σ × Obj => .tuple #[]) (fun p w' => KnS (Hx p.1) S w1 w' ∧ (I xs.length p.1 ∨ J p.1) ∧ w'.heap[b]? = some p.2 ∧ Jb p.2)
theorem tc_rangeP {α σ : Type} {P : Program} {N : NN} {F : List (Nat × Value)} {bs : List (World × List Nat)} {H : List (Nat × Obj)} {gop : Operand} {ps : List Tmp} {assign body : Code} {Q : Exit → Act → World → Prop} {gf : FuncId} [GoFn P gf] {lb : Array Value} {enc : α → List Value} (xs : List α)
    (S0 : List Nat) (b : Nat) (ob : Obj) (Jb : Obj → Prop) (Hx : σ → List (Nat × Obj)) (I : Nat → σ → Prop) (Jx : Code → σ → Prop) (s0 : σ)
    (hg : evalO F gop = some (.func (.func gf) #[] lb)) (hps : ps.all (Nat.blt · N.n) = true) (hen : ∀ x, (enc x).length = ps.length) (h0 : I 0 s0) (hS0 : ∀ q ∈ Hx s0, q.1 ∈ S0)
    (hH : ∀ w, HG bs H w → HG bs ((b, ob) :: Hx s0) w) (hbS : b ∈ S0) (hJb : Jb ob) (hbx : ∀ s, ((∃ i, I i s) ∨ ∃ c, Jx c s) → b ∉ (Hx s).map Prod.fst) (hseq : ∀ w, HG bs H w → SeqP P gf lb enc xs b Jb S0 w)
    (hround : ∀ (l : Nat) (R0 R1 : Obj) (i : Nat) (s : σ) (x : α) (w2 : World), l ≠ b → b < w2.heap.size → xs[i]? = some x → I i s → ∀ K : Act → World → Prop,
      (∀ {F2 : List (Nat × Value)}, TC (some l) P body (roundQ ((w2, l :: (Hx s).map Prod.fst) :: bs) l R1 Hx (I (i + 1)) Jx) ⟨N.n, []⟩ F2 ((w2, l :: (Hx s).map Prod.fst) :: bs) ((l, R1) :: Hx s) → TK K ⟨N.n, []⟩ F2 ((w2, l :: (Hx s).map Prod.fst) :: bs) ((l, R0) :: Hx s)) →
      TC (some l) P assign (Exit.then K (fun _ _ _ => False)) ⟨N.n, []⟩ (zipF ps (enc x) F) ((w2, l :: (Hx s).map Prod.fst) :: bs) ((l, R0) :: Hx s))
    (hdone : ∀ (D : Nat) (s : σ) (o' : Obj), Jb o' → I xs.length s → TK (Q .normal) ⟨N.n, { target := .collected D, args := #[] } :: N.ds⟩ F bs ((D, .deferred (some [])) :: (b, o') :: Hx s))
    (hstop : ∀ (D : Nat) (c : Code) (s : σ) (o' : Obj), Jb o' → Jx c s → TC none P c Q ⟨N.n, { target := .collected D, args := #[] } :: N.ds⟩ F bs ((D, .deferred (some [])) :: (b, o') :: Hx s)) :
    TC none P (.rangeFunc gop ps.toArray assign body) Q N F bs H := fun a w ht hw => by
  refine wpIn_rangeFunc fun fn _ => ?_
  obtain ⟨D, hD⟩ : ∃ D, D = w.heap.size := ⟨_, rfl⟩
  obtain ⟨l, hl⟩ : ∃ l, l = w.heap.size + 1 := ⟨_, rfl⟩
  obtain ⟨W1, hW⟩ : ∃ W1, W1 = (w.alloc (.deferred (some []))).alloc (.loop (recO fn a.tmps ps assign body D none)) := ⟨_, rfl⟩
  have hHx := hH w hw
  have hA : HG bs ((l, .loop (recO fn a.tmps ps assign body D none)) :: (D, .deferred (some [])) :: (b, ob) :: Hx s0) W1 := by
    have h1 := (hHx.alloc (.deferred (some []))).alloc (.loop (recO fn a.tmps ps assign body D none))
    rw [World.size_alloc] at h1
    rw [hW, hl]
    conv => enter [2, 2, 1]; rw [hD]
    exact h1
  have hb0 : Fr [] w W1 := by
    have := (hHx.base1 (S := S0) (fun q hq => by rcases List.mem_cons.1 hq with rfl | hq; exact hbS; exact hS0 q hq))
    have h1 := (this.alloc (.deferred (some []))).alloc (.loop (recO fn a.tmps ps assign body D none))
    rw [← hW] at h1
    have h2 := h1.base (w, S0) (by simp)
    refine ⟨h2.os, h2.tape, h2.output, h2.size, fun k hk _ => ?_⟩
    rw [hW, Go.RowKit.Below.heap_alloc _ _ k (by simp; omega), Go.RowKit.Below.heap_alloc _ _ k hk]
  refine ⟨l, [{ target := .collected D, args := #[] }], W1, { target := .fn (.func gf) lb, args := #[.func (.yield l) #[] #[]] }, W1, gf, #[.func (.yield l) #[] #[]] ++ lb, W1, ?_, ?_, fun _ _ => trivial, ?_, fun h => (by cases h), ?_⟩
  · rw [hW, hl, hD]; exact run_enterLoop_outer _ _ _ _ _
  · simp only [resolve, ht.eval hg]
    simp [go_sem]
  · simp [invoke, callFunc_run]
  -- the function that is ranged over
  have hblt : b < w.heap.size := hHx.lt (p := (b, ob)) (by simp)
  have hbl : b ≠ l := by omega
  have hW1b : W1.heap[b]? = some ob := hA.heap (b, ob) (by simp)
  have hKn : KnS ((l, .loop (recO fn a.tmps ps assign body D none)) :: Hx s0) (l :: b :: (Hx s0).map Prod.fst) W1 W1 :=
    ((hA.sub (bs' := bs) (fun _ h => h) (.cons_cons _ (.cons _ (.cons _ (List.Sublist.refl _))))).base1 (S := l :: b :: (Hx s0).map Prod.fst) (fun q hq => by
      rcases List.mem_cons.1 hq with rfl | hq
      · simp
      · exact List.mem_cons_of_mem _ (List.mem_cons_of_mem _ (List.mem_map.2 ⟨q, hq, rfl⟩)))).knS (by simp)
  have hperm : ∀ (X : Nat × Obj) (Z : List (Nat × Obj)), (X :: (D, Obj.deferred (some [])) :: Z).Perm ((X :: Z) ++ [(D, Obj.deferred (some []))]) := fun X Z =>
    .cons _ ((List.perm_append_singleton _ _).symm)
  have hA' := hA.perm (hperm _ _)
  -- in any world behind some rounds
  have hback : ∀ (w2 : World) (o : Option Code) (s : σ), Fr (l :: b :: (Hx s0).map Prod.fst) W1 w2 → KnS ((l, .loop (recO fn a.tmps ps assign body D o)) :: Hx s) (l :: b :: (Hx s0).map Prod.fst) W1 w2 →
      HG bs ((l, .loop (recO fn a.tmps ps assign body D o)) :: (D, .deferred (some [])) :: Hx s) w2 := fun w2 o s f h =>
    (hA'.callS (H' := (l, .loop (recO fn a.tmps ps assign body D o)) :: Hx s) f h).perm (hperm _ _).symm
  have hback2 : ∀ (w2 : World) (o : Option Code) (s : σ) (o' : Obj), Fr (l :: b :: (Hx s0).map Prod.fst) W1 w2 → KnS ((l, .loop (recO fn a.tmps ps assign body D o)) :: Hx s) (l :: b :: (Hx s0).map Prod.fst) W1 w2 → w2.heap[b]? = some o' → b ∉ (Hx s).map Prod.fst →
      HG bs ((l, .loop (recO fn a.tmps ps assign body D o)) :: (D, .deferred (some [])) :: (b, o') :: Hx s) w2 := fun w2 o s o' f h hb hn => by
    have hk : KnS ((l, .loop (recO fn a.tmps ps assign body D o)) :: (b, o') :: Hx s) (l :: b :: (Hx s0).map Prod.fst) W1 w2 := by
      refine ⟨fun q hq => ?_, ?_, fun x hx => ?_⟩
      · rcases List.mem_cons.1 hq with rfl | hq
        · exact h.kn _ (by simp)
        · rcases List.mem_cons.1 hq with rfl | hq
          · exact hb
          · exact h.kn _ (List.mem_cons_of_mem _ hq)
      · have hnd := h.nd
        simp only [List.map_cons, List.nodup_cons] at hnd ⊢
        refine ⟨fun hm => ?_, hn, hnd.2⟩
        rcases List.mem_cons.1 hm with e | hm
        · exact hbl e.symm
        · exact hnd.1 hm
      · simp only [List.map_cons] at hx
        rcases List.mem_cons.1 hx with rfl | hx
        · simp
        · rcases List.mem_cons.1 hx with rfl | hx
          · simp
          · exact h.own x (by simp only [List.map_cons]; exact List.mem_cons_of_mem _ hx)
    exact (hA'.callS (H' := (l, .loop (recO fn a.tmps ps assign body D o)) :: (b, o') :: Hx s) f hk).perm (hperm _ _).symm
  have hq0 := hseq w hw (σ × Option Code) l (l :: b :: (Hx s0).map Prod.fst) (fun p => (l, .loop (recO fn a.tmps ps assign body D p.2)) :: Hx p.1) (fun i p => p.2 = none ∧ I i p.1) (fun p => ∃ c, p.2 = some c ∧ Jx c p.1) (s0, none) W1 ob hb0 (by simp)
    (fun x hb => by
      rcases List.mem_cons.1 hb with rfl | hb
      · exact .inr (by omega)
      · rcases List.mem_cons.1 hb with rfl | hb
        · exact .inl hbS
        · obtain ⟨q, hq, rfl⟩ := List.mem_map.1 hb
          exact .inl (hS0 q hq)) hW1b hJb (fun p hp => by
      simp only [List.map_cons, List.mem_cons, not_or]
      refine ⟨hbl, hbx p.1 ?_⟩
      rcases hp with ⟨i, _, h⟩ | ⟨c, _, h⟩
      · exact .inl ⟨i, h⟩
      · exact .inr ⟨c, h⟩) hKn ⟨rfl, h0⟩
  refine CallsIn.mono (callsIn_wide (n := 0).2 (CnX.out (hq0 ?_))) ?_
  · -- a round
    rintro i ⟨s, o⟩ x w2 hx ⟨rfl, hI⟩ f2 hk2
    have h2 := hback w2 none s f2 hk2
    have h3 : HG ((w2, l :: (Hx s).map Prod.fst) :: bs) ((l, .loop (recO fn a.tmps ps assign body D none)) :: Hx s) w2 :=
      (h2.sub (fun _ h => h) (.cons_cons _ (.cons _ (List.Sublist.refl _)))).base1 (fun q hq => by
        rcases List.mem_cons.1 hq with rfl | hq
        · simp
        · exact List.mem_cons_of_mem _ (List.mem_map.2 ⟨q, hq, rfl⟩))
    have hl2 := h3.heap (l, .loop (recO fn a.tmps ps assign body D none)) (by simp)
    have hy := run_yield (P := P) (args := (enc x).toArray) hl2 (by simp [recO, hen])
    refine ⟨l, _, _, _, _, rfl, hy, roundIn_of_wpIn (F := FW none) (n := 0) trivial ?_⟩
    have hT : TF ⟨N.n, []⟩ F { tmps := a.tmps, defers := [] } := ⟨rfl, ht.size, ht.tmp⟩
    have hT2 := TF.params (N := ⟨N.n, []⟩) (a := { tmps := a.tmps, defers := [] }) (ps := ps) (vs := enc x) (tm := a.tmps) hps hT
    refine hround l (.loop (recO fn a.tmps ps assign body D none)) (.loop { recO fn a.tmps ps assign body D none with state := .busy }) i s x w2 (Ne.symm hbl) (Nat.lt_of_lt_of_le hblt (Nat.le_trans hb0.size f2.size)) hx hI _ (fun hb a1 w1 ht1 hw1 => ?_) _ w2 (by simpa [recO] using hT2) h3
    refine ⟨_, run_beginRound (hw1.heap (l, .loop (recO fn a.tmps ps assign body D none)) (by simp)) rfl, wpIn_mono (hb a1 _ ht1 (hw1.put .head)) fun e a3 w3 he => ?_⟩
    have fin : ∀ (jump : Option Code) (s' : σ), HG ((w2, l :: (Hx s).map Prod.fst) :: bs) ((l, .loop { recO fn a.tmps ps assign body D none with state := .busy }) :: Hx s') w3 →
        (Instr.endRound l jump).run P w3 = .ok (.bool jump.isNone) (w3.putObj l (.loop (recO fn a.tmps ps assign body D jump))) ∧
        Fr (l :: (Hx s).map Prod.fst) w2 (w3.putObj l (.loop (recO fn a.tmps ps assign body D jump))) ∧ KnS ((l, .loop (recO fn a.tmps ps assign body D jump)) :: Hx s') (l :: (Hx s).map Prod.fst) w2 (w3.putObj l (.loop (recO fn a.tmps ps assign body D jump))) := fun jump s' h => by
      have hp := h.put (o' := .loop (recO fn a.tmps ps assign body D jump)) .head
      exact ⟨run_endRound jump (h.heap (l, .loop { recO fn a.tmps ps assign body D none with state := .busy }) (by simp)), hp.base (w2, l :: (Hx s).map Prod.fst) (by simp), hp.knS (by simp)⟩
    cases e with
    | normal => obtain ⟨s', h1, h2⟩ := he; obtain ⟨e1, e2, e3⟩ := fin none s' h2; exact ⟨_, _, e1, true, rfl, e2, (s', none), e3, .inl ⟨rfl, rfl, h1⟩⟩
    | ret => obtain ⟨s', h1, h2⟩ := he; obtain ⟨e1, e2, e3⟩ := fin (some .ret) s' h2; exact ⟨_, _, e1, false, rfl, e2, (s', some .ret), e3, .inr ⟨rfl, _, rfl, h1⟩⟩
    | exit id => obtain ⟨s', h1, h2⟩ := he; obtain ⟨e1, e2, e3⟩ := fin (some (.exit id)) s' h2; exact ⟨_, _, e1, false, rfl, e2, (s', some (.exit id)), e3, .inr ⟨rfl, _, rfl, h1⟩⟩
    | goto t => obtain ⟨s', h1, h2⟩ := he; obtain ⟨e1, e2, e3⟩ := fin (some (.goto t)) s' h2; exact ⟨_, _, e1, false, rfl, e2, (s', some (.goto t)), e3, .inr ⟨rfl, _, rfl, h1⟩⟩
    | panic c => exact he.elim
    | outgrown => exact he.elim
  · -- behind it
    rintro e w3 ⟨⟨⟨s, o⟩, o'⟩, rfl, f3, hk3, hor, hb3, hJ3⟩
    have h3 := hback2 w3 o s o' f3 hk3 hb3 (hbx s (by
      rcases hor with ⟨_, h⟩ | ⟨c, _, h⟩
      · exact .inl ⟨_, h⟩
      · exact .inr ⟨c, h⟩))
    have hT : TF ⟨N.n, { target := .collected D, args := #[] } :: N.ds⟩ F { a with defers := [{ target := .collected D, args := #[] }] ++ a.defers } := ⟨by simp [ht.defers], ht.size, ht.tmp⟩
    have hp := (h3.put (o' := .loop { recO fn a.tmps ps assign body D o with state := .exhausted }) .head).sub (bs' := bs) (fun _ h => h) (.cons _ (List.Sublist.refl _))
    refine ⟨o, _, run_endLoop (h3.heap (l, .loop (recO fn a.tmps ps assign body D o)) (by simp)) (by cases o <;> simp [recO]), ?_⟩
    rcases hor with ⟨ho, hI⟩ | ⟨c, ho, hJ⟩
    · simp only at ho; subst ho; exact hdone D s o' hJ3 hI _ _ hT hp
    · simp only at ho; subst ho; exact hstop D c s o' hJ3 hJ _ _ hT hp
abbrev coll (D : Nat) : Deferred := { target := .collected D, args := #[] }
def Dl (Ds : List Nat) : List (Nat × Obj) := Ds.map fun D => (D, Obj.deferred (some []))
section
variable {r : Option Nat} {P : Program} {N : NN} {F : List (Nat × Value)} {bs : List (World × List Nat)} {H : List (Nat × Obj)} {Q : Exit → Act → World → Prop}
theorem tc_loopN {c : Code} {α : Type} (I : α → Prop) (N' : α → NN) (F' : α → List (Nat × Value)) (bs' : α → List (World × List Nat)) (H' : α → List (Nat × Obj)) (μ : α → Nat)
    (h0 : TK (fun a w => ∃ x, I x ∧ TF (N' x) (F' x) a ∧ HG (bs' x) (H' x) w) N F bs H)
    (round : ∀ x, I x → TC r P c (Exit.then (fun a w => ∃ y, I y ∧ μ y < μ x ∧ TF (N' y) (F' y) a ∧ HG (bs' y) (H' y) w) Q) (N' x) (F' x) (bs' x) (H' x)) : TC r P (.loop c) Q N F bs H := fun a w ht hw => by
  obtain ⟨x, hx, h1, h2⟩ := h0 a w ht hw
  refine wpIn_loopX (fun a w n => ∃ x, μ x = n ∧ I x ∧ TF (N' x) (F' x) a ∧ HG (bs' x) (H' x) w) (μ x) ⟨x, rfl, hx, h1, h2⟩ (fun a w n hn => ?_)
  obtain ⟨x, rfl, hx, h1, h2⟩ := hn
  refine wpIn_mono (round x hx a w h1 h2) fun e a w he => ?_
  cases e with
  | normal => obtain ⟨y, hy, hlt, h3, h4⟩ := he; exact ⟨_, hlt, y, rfl, hy, h3, h4⟩
  | _ => exact he
theorem tk_startN {α : Type} {I : α → Prop} {N' : α → NN} {F' : α → List (Nat × Value)} {bs' : α → List (World × List Nat)} {H' : α → List (Nat × Obj)} (x : α) (hI : I x) (hN : N = N' x) (hF : Sub F (F' x)) (hH : ∀ w, HG bs H w → HG (bs' x) (H' x) w) : TK (fun a w => ∃ x, I x ∧ TF (N' x) (F' x) a ∧ HG (bs' x) (H' x) w) N F bs H := fun a w ht hw => ⟨x, hI, hN ▸ ht.sub hF, hH w hw⟩
theorem tk_roundN {α : Type} {I : α → Prop} {N' : α → NN} {F' : α → List (Nat × Value)} {bs' : α → List (World × List Nat)} {H' : α → List (Nat × Obj)} {μ : α → Nat} {m : Nat} (x : α)
    (hI : I x) (hm : μ x < m) (hN : N = N' x) (hF : Sub F (F' x)) (hH : ∀ w, HG bs H w → HG (bs' x) (H' x) w) : TK (Exit.then (fun a w => ∃ x, I x ∧ μ x < m ∧ TF (N' x) (F' x) a ∧ HG (bs' x) (H' x) w) Q .normal) N F bs H := fun a w ht hw => ⟨x, hI, hm, hN ▸ ht.sub hF, hH w hw⟩
theorem tk_retD {fn : Func} {R : Ending → World → Prop} {H0 : List (Nat × Obj)} {rs : List ResultVar} {vs : List Value} (Ds : List Nat) (hds : N.ds = Ds.map coll) (hH : ∀ w, HG bs H w → HG bs (Dl Ds ++ H0) w) (hf : fn.results = rs.toArray) (h : RVs P F bs H0 rs vs) (hR : ∀ w, HG bs H0 w → R (.returned (outV vs)) w) : TK (bodyP P fn R .ret) N F bs H := fun a w ht hw => by
  show LeavesInM (FW none) 0 P fn a.tmps R a.defers .returning w
  rw [ht.defers, hds]
  have key : ∀ (Ds : List Nat) (w : World), HG bs (Dl Ds ++ H0) w → LeavesInM (FW none) 0 P fn a.tmps R (Ds.map coll) .returning w := by
    intro Ds
    induction Ds with
    | nil => exact fun w hw => ⟨_, results_run hf h ht hw, hR _ hw⟩
    | cons D Ds ih =>
      intro w hw
      have hw1 : HG bs ((D, .deferred (some [])) :: (Dl Ds ++ H0)) w := hw
      exact ⟨by simp, .inl ⟨D, _, rfl, run_takeDeferred (hw1.heap (D, .deferred (some [])) (by simp)), ih _ ((hw1.put .head).sub (fun _ h => h) (List.sublist_cons_self _ _))⟩⟩
  exact key Ds w (hH w hw)
theorem tk_fact {K : Act → World → Prop} (p : Prop) (hp : ∀ w, HG bs H w → p) (h : p → TK K N F bs H) : TK K N F bs H := fun a w ht hw => h (hp w hw) a w ht hw
end
end Go.Sp
namespace Go.Sp
open Go
/-- An array of three numbers. -/
class TyArr3 (P : Program) (t : TypeId) : Prop where
  arr : ∃ e, P.underlying t = some (.array 3 e) ∧ P.underlying e = some (.int .i64) ∧ (P.info? e).map (·.size) = some 1
  gd : P.eqGuardType P.depth t = false
section
variable {P : Program} {N : NN} {F : List (Nat × Value)} {bs : List (World × List Nat)} {H : List (Nat × Obj)}
  {ty : TypeId} {pos : String} {after : Array Edge} {g : Option (Nat × Bool)}
theorem equalIn_int3 {t e : TypeId} (hu : P.underlying t = some (.array 3 e)) (he : P.underlying e = some (.int .i64)) (hs : (P.info? e).map (·.size) = some 1) (a b c x y z : Int) (w : World) (k : Nat) :
    (Op.equalIn (k + 2) t (.agg #[.int .i64 a, .int .i64 b, .int .i64 c]) (.agg #[.int .i64 x, .int .i64 y, .int .i64 z])).run P w = .ok (decide (a = x ∧ b = y ∧ c = z)) w := by
  rw [Op.equalIn]
  simp only [Sem.run_bind, underlying_run hu, Result.andThen_ok, sizeOf_run hs]
  rw [Std.Legacy.Range.forIn_eq_forIn_range']
  simp only [Std.Legacy.Range.size, Nat.sub_zero, Nat.add_sub_cancel, Nat.div_one]
  have h3 : ∀ (m n : Int) w, (Op.equalIn (k + 1) e (.int .i64 m) (.int .i64 n)).run P w = .ok (decide (m = n)) w := fun m n w => equalIn_int he m n w
  have h0 : ∀ (p q r : Int) w, (part e #[Value.int .i64 p, .int .i64 q, .int .i64 r] 0).run P w = .ok (.int .i64 p) w := fun p q r w => part_int he rfl w
  have h1 : ∀ (p q r : Int) w, (part e #[Value.int .i64 p, .int .i64 q, .int .i64 r] 1).run P w = .ok (.int .i64 q) w := fun p q r w => part_int he rfl w
  have h2 : ∀ (p q r : Int) w, (part e #[Value.int .i64 p, .int .i64 q, .int .i64 r] 2).run P w = .ok (.int .i64 r) w := fun p q r w => part_int he rfl w
  rw [show List.range' 0 3 = [0, 1, 2] from rfl]
  by_cases e0 : a = x
  · by_cases e1 : b = y
    · by_cases e2 : c = z
      · simp [h0, h1, h2, h3, e0, e1, e2, Result.andThen, Nat.zero_mul, Nat.one_mul]
      · simp [h0, h1, h2, h3, e0, e1, e2, Result.andThen]
    · simp [h0, h1, h2, h3, e0, e1, Result.andThen]
  · simp [h0, h1, h2, h3, e0, Result.andThen]
theorem y_eqlA3 {d : Option Tmp} {x y : Operand} {t t' : TypeId} [h : TyArr3 P t] {a b c p q r : Int} (hx : evalO F x = some (.agg #[.int .i64 a, .int .i64 b, .int .i64 c])) (hy : evalO F y = some (.agg #[.int .i64 p, .int .i64 q, .int .i64 r])) :
    OpY P ⟨d, .binOp .eql t x y t', ty, pos, after, g⟩ F bs H (.bool (decide (a = p ∧ b = q ∧ c = r))) := by
  unfold OpY
  intro N a' w ht hw
  obtain ⟨e, hu, he, hs⟩ := h.arr
  have hq := equalIn_int3 hu he hs a b c p q r w 9998
  have hgd : (eqGuard .eql t x y (.agg #[.int .i64 a, .int .i64 b, .int .i64 c]) (.agg #[.int .i64 p, .int .i64 q, .int .i64 r])).run P w = .ok () w := run_eqGuard_agg w .eql t x y _ _ h.gd
  simp only [execOp, ht.eval hx, ht.eval hy, Sem.run_bind, hgd, binOp, Op.equal, Op.maxDepth, hq, Result.andThen, Sem.run_pure]
theorem e_yieldF {d : Tmp} {α σ : Type} {x : Operand} {xo : List Operand} {tys : Array TypeId} {l : Nat} {cap : Array Value} {vs : List Value} {enc : α → List Value} {xs : List α} {S : List Nat} {Hx : σ → List (Nat × Obj)} {I : Nat → σ → Prop} {J : σ → Prop} {w1 : World} (H2 : List (Nat × Obj)) (i : Nat) (s : σ) (y : α)
    (hd : Nat.blt d N.n = true) (hx : evalO F x = some (.func (.yield l) #[] cap)) (hcap : cap = #[]) (hxs : EA F xo vs) (hvs : vs = enc y) (hy : xs[i]? = some y) (hI : I i s) (hYd : Yd P (.func (.yield l) #[] #[]) enc xs S Hx I J w1)
    (hb : (w1, S) ∈ bs) (hH : H = H2 ++ Hx s) :
    OpR P ⟨some d, .call ⟨.value x, xo.toArray, tys⟩, ty, pos, after, g⟩ N F bs H (fun q : Bool × σ => q.1 = true ∧ I (i + 1) q.2 ∨ q.1 = false ∧ J q.2) (fun q => (d, .bool q.1) :: F) (fun _ => bs) (fun q => H2 ++ Hx q.2) := by
  have h := e_yield (P := P) (N := N) (F := F) (bs := bs) (H := Hx s ++ H2) (ty := ty) (pos := pos) (after := after) (g := g) (tys := tys) H2 i s y hd hx hcap hxs hvs hy hI hYd hb rfl
  unfold OpR at h ⊢
  subst hH
  exact fun r a w ht hw K Q hK => h r a w ht (hw.perm List.perm_append_comm) K Q (fun q a' w' hp h1 h2 => hK q a' w' hp h1 (h2.perm List.perm_append_comm))
end
end Go.Sp
namespace Go.Sp
open Go
theorem tc_rangeU {α σ : Type} {P : Program} {N : NN} {F : List (Nat × Value)} {bs : List (World × List Nat)} {H : List (Nat × Obj)} {gop : Operand} {ps : List Tmp} {assign body : Code} {Q : Exit → Act → World → Prop} {gf : FuncId} [GoFn P gf] {lb : Array Value} {enc : α → List Value} (xs : List α)
    (S0 : List Nat) (Hx : σ → List (Nat × Obj)) (I : Nat → σ → Prop) (Jx : Code → σ → Prop) (s0 : σ)
    (hg : evalO F gop = some (.func (.func gf) #[] lb)) (hps : ps.all (Nat.blt · N.n) = true) (hen : ∀ x, (enc x).length = ps.length) (h0 : I 0 s0) (hS0 : ∀ q ∈ Hx s0, q.1 ∈ S0)
    (hH : ∀ w, HG bs H w → HG bs (Hx s0) w) (hseq : ∀ w, HG bs H w → Seq P gf lb enc xs S0 w)
    (hround : ∀ (l : Nat) (R0 R1 : Obj) (i : Nat) (s : σ) (x : α) (w2 : World), xs[i]? = some x → I i s → ∀ K : Act → World → Prop,
      (∀ {F2 : List (Nat × Value)} {H1 H2 : List (Nat × Obj)}, HU l R0 R1 H1 H2 → TC (some l) P body (roundQ ((w2, l :: (Hx s).map Prod.fst) :: bs) l R1 Hx (I (i + 1)) Jx) ⟨N.n, []⟩ F2 ((w2, l :: (Hx s).map Prod.fst) :: bs) H2 → TK K ⟨N.n, []⟩ F2 ((w2, l :: (Hx s).map Prod.fst) :: bs) H1) →
      TC (some l) P assign (Exit.then K (fun _ _ _ => False)) ⟨N.n, []⟩ (zipF ps (enc x) F) ((w2, l :: (Hx s).map Prod.fst) :: bs) ((l, R0) :: Hx s))
    (hdone : ∀ (D : Nat) (s : σ), I xs.length s → TK (Q .normal) ⟨N.n, { target := .collected D, args := #[] } :: N.ds⟩ F bs ((D, .deferred (some [])) :: Hx s))
    (hstop : ∀ (D : Nat) (c : Code) (s : σ), Jx c s → TC none P c Q ⟨N.n, { target := .collected D, args := #[] } :: N.ds⟩ F bs ((D, .deferred (some [])) :: Hx s)) :
    TC none P (.rangeFunc gop ps.toArray assign body) Q N F bs H := fun a w ht hw => by
  refine wpIn_rangeFunc fun fn _ => ?_
  obtain ⟨D, hD⟩ : ∃ D, D = w.heap.size := ⟨_, rfl⟩
  obtain ⟨l, hl⟩ : ∃ l, l = w.heap.size + 1 := ⟨_, rfl⟩
  obtain ⟨W1, hW⟩ : ∃ W1, W1 = (w.alloc (.deferred (some []))).alloc (.loop (recO fn a.tmps ps assign body D none)) := ⟨_, rfl⟩
  have hHx := hH w hw
  have hA : HG bs ((l, .loop (recO fn a.tmps ps assign body D none)) :: (D, .deferred (some [])) :: Hx s0) W1 := by
    have h1 := (hHx.alloc (.deferred (some []))).alloc (.loop (recO fn a.tmps ps assign body D none))
    rw [World.size_alloc] at h1
    rw [hW, hl]
    conv => enter [2, 2, 1]; rw [hD]
    exact h1
  have hb0 : Fr [] w W1 := by
    have := (hHx.base1 (S := S0) hS0)
    have h1 := (this.alloc (.deferred (some []))).alloc (.loop (recO fn a.tmps ps assign body D none))
    rw [← hW] at h1
    have h2 := h1.base (w, S0) (by simp)
    refine ⟨h2.os, h2.tape, h2.output, h2.size, fun k hk _ => ?_⟩
    rw [hW, Go.RowKit.Below.heap_alloc _ _ k (by simp; omega), Go.RowKit.Below.heap_alloc _ _ k hk]
  refine ⟨l, [{ target := .collected D, args := #[] }], W1, { target := .fn (.func gf) lb, args := #[.func (.yield l) #[] #[]] }, W1, gf, #[.func (.yield l) #[] #[]] ++ lb, W1, ?_, ?_, fun _ _ => trivial, ?_, fun h => (by cases h), ?_⟩
  · rw [hW, hl, hD]; exact run_enterLoop_outer _ _ _ _ _
  · simp only [resolve, ht.eval hg]
    simp [go_sem]
  · simp [invoke, callFunc_run]
  -- the function that is ranged over
  have hKn : KnS ((l, .loop (recO fn a.tmps ps assign body D none)) :: Hx s0) (l :: (Hx s0).map Prod.fst) W1 W1 :=
    ((hA.sub (bs' := bs) (fun _ h => h) (.cons_cons _ (.cons _ (List.Sublist.refl _)))).base1 (S := l :: (Hx s0).map Prod.fst) (fun q hq => by
      rcases List.mem_cons.1 hq with rfl | hq
      · simp
      · exact List.mem_cons_of_mem _ (List.mem_map.2 ⟨q, hq, rfl⟩))).knS (by simp)
  have hperm : ∀ (X : Nat × Obj) (Z : List (Nat × Obj)), (X :: (D, Obj.deferred (some [])) :: Z).Perm ((X :: Z) ++ [(D, Obj.deferred (some []))]) := fun X Z =>
    .cons _ ((List.perm_append_singleton _ _).symm)
  have hA' := hA.perm (hperm _ _)
  -- in any world behind some rounds
  have hback : ∀ (w2 : World) (o : Option Code) (s : σ), Fr (l :: (Hx s0).map Prod.fst) W1 w2 → KnS ((l, .loop (recO fn a.tmps ps assign body D o)) :: Hx s) (l :: (Hx s0).map Prod.fst) W1 w2 →
      HG bs ((l, .loop (recO fn a.tmps ps assign body D o)) :: (D, .deferred (some [])) :: Hx s) w2 := fun w2 o s f h =>
    (hA'.callS (H' := (l, .loop (recO fn a.tmps ps assign body D o)) :: Hx s) f h).perm (hperm _ _).symm
  refine CallsIn.mono (callsIn_wide (n := 0).2 (hseq w hw (σ × Option Code) l (l :: (Hx s0).map Prod.fst) (fun p => (l, .loop (recO fn a.tmps ps assign body D p.2)) :: Hx p.1) (fun i p => p.2 = none ∧ I i p.1) (fun p => ∃ c, p.2 = some c ∧ Jx c p.1) (s0, none) W1 hb0
    (fun b hb => by
      rcases List.mem_cons.1 hb with rfl | hb
      · exact .inr (by omega)
      · obtain ⟨q, hq, rfl⟩ := List.mem_map.1 hb
        exact .inl (hS0 q hq)) hKn ⟨rfl, h0⟩ ?_)) ?_
  · -- a round
    rintro i ⟨s, o⟩ x w2 hx ⟨rfl, hI⟩ f2 hk2
    have h2 := hback w2 none s f2 hk2
    have h3 : HG ((w2, l :: (Hx s).map Prod.fst) :: bs) ((l, .loop (recO fn a.tmps ps assign body D none)) :: Hx s) w2 :=
      (h2.sub (fun _ h => h) (.cons_cons _ (.cons _ (List.Sublist.refl _)))).base1 (fun q hq => by
        rcases List.mem_cons.1 hq with rfl | hq
        · simp
        · exact List.mem_cons_of_mem _ (List.mem_map.2 ⟨q, hq, rfl⟩))
    have hl2 := h3.heap (l, .loop (recO fn a.tmps ps assign body D none)) (by simp)
    have hy := run_yield (P := P) (args := (enc x).toArray) hl2 (by simp [recO, hen])
    refine ⟨l, _, _, _, _, rfl, hy, roundIn_of_wpIn (F := FW none) (n := 0) trivial ?_⟩
    have hT : TF ⟨N.n, []⟩ F { tmps := a.tmps, defers := [] } := ⟨rfl, ht.size, ht.tmp⟩
    have hT2 := TF.params (N := ⟨N.n, []⟩) (a := { tmps := a.tmps, defers := [] }) (ps := ps) (vs := enc x) (tm := a.tmps) hps hT
    refine hround l (.loop (recO fn a.tmps ps assign body D none)) (.loop { recO fn a.tmps ps assign body D none with state := .busy }) i s x w2 hx hI _ (fun hu hb a1 w1 ht1 hw1 => ?_) _ w2 (by simpa [recO] using hT2) h3
    refine ⟨_, run_beginRound (hw1.heap (l, .loop (recO fn a.tmps ps assign body D none)) hu.mem) rfl, wpIn_mono (hb a1 _ ht1 (hw1.put hu)) fun e a3 w3 he => ?_⟩
    have fin : ∀ (jump : Option Code) (s' : σ), HG ((w2, l :: (Hx s).map Prod.fst) :: bs) ((l, .loop { recO fn a.tmps ps assign body D none with state := .busy }) :: Hx s') w3 →
        (Instr.endRound l jump).run P w3 = .ok (.bool jump.isNone) (w3.putObj l (.loop (recO fn a.tmps ps assign body D jump))) ∧
        Fr (l :: (Hx s).map Prod.fst) w2 (w3.putObj l (.loop (recO fn a.tmps ps assign body D jump))) ∧ KnS ((l, .loop (recO fn a.tmps ps assign body D jump)) :: Hx s') (l :: (Hx s).map Prod.fst) w2 (w3.putObj l (.loop (recO fn a.tmps ps assign body D jump))) := fun jump s' h => by
      have hp := h.put (o' := .loop (recO fn a.tmps ps assign body D jump)) .head
      exact ⟨run_endRound jump (h.heap (l, .loop { recO fn a.tmps ps assign body D none with state := .busy }) (by simp)), hp.base (w2, l :: (Hx s).map Prod.fst) (by simp), hp.knS (by simp)⟩
    cases e with
    | normal => obtain ⟨s', h1, h2⟩ := he; obtain ⟨e1, e2, e3⟩ := fin none s' h2; exact ⟨_, _, e1, true, rfl, e2, (s', none), e3, .inl ⟨rfl, rfl, h1⟩⟩
    | ret => obtain ⟨s', h1, h2⟩ := he; obtain ⟨e1, e2, e3⟩ := fin (some .ret) s' h2; exact ⟨_, _, e1, false, rfl, e2, (s', some .ret), e3, .inr ⟨rfl, _, rfl, h1⟩⟩
    | exit id => obtain ⟨s', h1, h2⟩ := he; obtain ⟨e1, e2, e3⟩ := fin (some (.exit id)) s' h2; exact ⟨_, _, e1, false, rfl, e2, (s', some (.exit id)), e3, .inr ⟨rfl, _, rfl, h1⟩⟩
    | goto t => obtain ⟨s', h1, h2⟩ := he; obtain ⟨e1, e2, e3⟩ := fin (some (.goto t)) s' h2; exact ⟨_, _, e1, false, rfl, e2, (s', some (.goto t)), e3, .inr ⟨rfl, _, rfl, h1⟩⟩
    | panic c => exact he.elim
    | outgrown => exact he.elim
  · -- behind it
    rintro e w3 ⟨⟨s, o⟩, rfl, f3, hk3, hor⟩
    have h3 := hback w3 o s f3 hk3
    have hT : TF ⟨N.n, { target := .collected D, args := #[] } :: N.ds⟩ F { a with defers := [{ target := .collected D, args := #[] }] ++ a.defers } := ⟨by simp [ht.defers], ht.size, ht.tmp⟩
    have hp := (h3.put (o' := .loop { recO fn a.tmps ps assign body D o with state := .exhausted }) .head).sub (bs' := bs) (fun _ h => h) (.cons _ (List.Sublist.refl _))
    refine ⟨o, _, run_endLoop (h3.heap (l, .loop (recO fn a.tmps ps assign body D o)) (by simp)) (by cases o <;> simp [recO]), ?_⟩
    rcases hor with ⟨ho, hI⟩ | ⟨c, ho, hJ⟩
    · simp only at ho; subst ho; exact hdone D s hI _ _ hT hp
    · simp only at ho; subst ho; exact hstop D c s hJ _ _ hT hp
end Go.Sp
namespace Go.Sp
open Go
inductive PreL : List Value → List Value → List Value → Prop
  | nil {zs : List Value} : PreL [] zs zs
  | cons {v x : Value} {c zs zs' : List Value} : PreL c zs zs' → PreL (v :: c) (x :: zs) (v :: zs')
inductive SetL : List Value → Nat → List Value → List Value → Prop
  | here {c zs zs' : List Value} : PreL c zs zs' → SetL zs 0 c zs'
  | there {x : Value} {zs zs' c : List Value} {o : Nat} : SetL zs o c zs' → SetL (x :: zs) (o + 1) c (x :: zs')
theorem PreL.eq {c zs zs' : List Value} (h : PreL c zs zs') : c.length ≤ zs.length ∧ zs' = c ++ zs.drop c.length := by
  induction h with
  | nil => simp
  | cons _ ih => exact ⟨by simpa using ih.1, by simpa using ih.2⟩
theorem SetL.eq {c zs zs' : List Value} {o : Nat} (h : SetL zs o c zs') : o + c.length ≤ zs.length ∧ zs' = zs.take o ++ c ++ zs.drop (o + c.length) := by
  induction h with
  | here h => exact ⟨by have := h.eq.1; omega, by have := h.eq.2; simpa using this⟩
  | there _ ih => exact ⟨by have := ih.1; simp; omega, by rw [ih.2]; simp [Nat.add_right_comm]⟩
inductive FL (F : List (Nat × Value)) (pl : List (Nat × Nat)) : List Value → List (Nat × Operand) → List Value → Prop
  | nil {zs : List Value} : FL F pl zs [] zs
  | cons {zs zs' out c : List Value} {i o n : Nat} {x : Operand} {v : Value} {rest : List (Nat × Operand)} : pl[i]? = some (o, n) → evalO F x = some v → v.cells = c.toArray → c.length = n → SetL zs o c zs' → FL F pl zs' rest out → FL F pl zs ((i, x) :: rest) out
theorem foldl_set (c : List Value) : ∀ (o k : Nat) (cells : List Value), o + k + c.length ≤ cells.length →
    (c.zipIdx k).foldl (fun (cs : Array Value) (p : Value × Nat) => cs.setIfInBounds (o + p.2) p.1) cells.toArray = (cells.take (o + k) ++ c ++ cells.drop (o + k + c.length)).toArray := by
  induction c with
  | nil => intro o k cells h; simp
  | cons x c ih =>
    intro o k cells h
    simp only [List.length_cons] at h
    rw [List.zipIdx_cons, List.foldl_cons]
    have e : cells.toArray.setIfInBounds (o + k) x = (cells.set (o + k) x).toArray := by simp
    simp only [e]
    rw [ih o (k + 1) (cells.set (o + k) x) (by simp; omega)]
    congr 1
    obtain ⟨A, y, B, rfl, hA⟩ : ∃ A y B, cells = A ++ y :: B ∧ A.length = o + k :=
      ⟨cells.take (o + k), cells[o + k]'(by omega), cells.drop (o + k + 1), by rw [← List.drop_eq_getElem_cons, List.take_append_drop], by simp; omega⟩
    rw [← hA]
    have e1 : (A ++ y :: B).set A.length x = A ++ x :: B := by simp
    have e2 : A ++ x :: B = (A ++ [x]) ++ B := by simp
    rw [e1, show o + (k + 1) = (A ++ [x]).length by simp; omega, e2, List.take_left' rfl, ← List.drop_drop, List.drop_left' rfl]
    rw [show A.length + (x :: c).length = A.length + (1 + c.length) by simp; omega, ← List.drop_drop (j := A.length), List.drop_left' rfl, Nat.add_comm 1]
    simp
theorem FL.fill {F : List (Nat × Value)} {pl : List (Nat × Nat)} {zs out : List Value} {ps : List (Nat × Operand)} (h : FL F pl zs ps out) {N : NN} {a : Act} (ht : TF N F a) :
    Instr.fill (pl[·]?) zs.toArray (ps.map fun (i, x) => (i, a.eval x)) = some out.toArray := by
  induction h with
  | nil => rfl
  | @cons zs zs' out c i o n x v rest hp hx hv hn hs _ ih =>
    obtain ⟨hb, rfl⟩ := hs.eq
    have := foldl_set c o 0 zs (by simpa using hb)
    simp only [Nat.add_zero] at this
    simp only [List.map_cons, Instr.fill, hp, ht.eval hx, hv, List.size_toArray]
    rw [if_neg (by subst hn; simp; omega), ← ih, ← this]
    congr 1
    rw [Array.zipIdx_toArray, List.foldl_toArray]
theorem y_build_g {P : Program} {F : List (Nat × Value)} {bs : List (World × List Nat)} {H : List (Nat × Obj)} {d : Option Tmp} {ty : TypeId} {pos : String} {after : Array Edge} {g : Option (Nat × Bool)} {t : TypeId} {pl : List (Nat × Nat)} {n : Nat} {zs out : List Value} [TyPlaces P t pl] [TyAgg P t n zs.toArray] {ps : List (Nat × Operand)} (h : FL F pl zs ps out) :
    OpY P ⟨d, .build t ps.toArray, ty, pos, after, g⟩ F bs H (.agg out.toArray) := by
  unfold OpY
  intro N a w ht hw
  have := build_run (P := P) (t := t) (parts := (ps.map fun (i, x) => (i, a.eval x)).toArray) (h.fill ht) w
  simp [execOp, this, Result.andThen]
/-- A field of an integer's type. -/
class TyFieldI (P : Program) (s : TypeId) (i : Nat) (off : outParam Nat) : Prop where
  ok : ∃ fs f k, P.underlying s = some (.struct fs) ∧ fs[i]? = some f ∧ f.offset = off ∧ P.underlying f.type = some (.int k)
/-- An array of arrays of bools. -/
class TyArrA (P : Program) (t : TypeId) (n : outParam Nat) (e : outParam TypeId) (m : outParam Nat) : Prop where
  arr : P.underlying t = some (.array n e) ∧ (P.info? e).map (·.size) = some m
section
variable {P : Program} {F : List (Nat × Value)} {bs : List (World × List Nat)} {H : List (Nat × Obj)}
  {d : Option Tmp} {ty : TypeId} {pos : String} {after : Array Edge} {g : Option (Nat × Bool)}
/-- 's[:n]'. -/
theorem y_sliceTo {x y : Operand} {t e : TypeId} {sz : Nat} [hs : TySlice P t e sz] {a0 : Option Addr} {len cap : Nat} {k : IntKind} {n : Nat} (h : evalO F x = some (.slice a0 len cap)) (hy : evalO F y = some (.int k n)) (hn : n ≤ cap) :
    OpY P ⟨d, .slice t x none (some y) none, ty, pos, after, g⟩ F bs H (.slice a0 n cap) := by
  unfold OpY
  intro N a w ht hw
  have ha : (if cap = 0 then a0 else Option.map (fun x => x.add 0) a0) = a0 := by
    cases a0 <;> simp [Addr.add]
  have hz := hs.info
  simp [execOp, Instr.sliceAt, Instr.slice, ht.eval h, ht.eval hy, underlying_run hs.ty, Result.andThen, Instr.sliceBounds, Instr.sliceBound, asIntOf, hn, sizeOf_run hz, ha]
end
section
variable {P : Program} {N : NN} {F : List (Nat × Value)} {bs : List (World × List Nat)} {H : List (Nat × Obj)}
  {ty : TypeId} {pos : String} {after : Array Edge} {g : Option (Nat × Bool)}
end
section
variable {P : Program} {F : List (Nat × Value)} {bs : List (World × List Nat)} {H : List (Nat × Obj)}
  {d : Option Tmp} {ty : TypeId} {pos : String} {after : Array Edge} {g : Option (Nat × Bool)}
end
end Go.Sp
namespace Go.Sp
open Go
section
variable {P : Program} {F : List (Nat × Value)} {bs : List (World × List Nat)} {H : List (Nat × Obj)}
  {d : Option Tmp} {ty : TypeId} {pos : String} {after : Array Edge} {g : Option (Nat × Bool)}
theorem y_sliceA {t e : TypeId} {n sz : Nat} [hs : TyArr P t n e sz] {x : Operand} {b o : Nat} (h : evalO F x = some (.pointer (some ⟨b, o, none⟩))) :
    OpY P ⟨d, .slice t x none none none, ty, pos, after, g⟩ F bs H (.slice (some ⟨b, o, none⟩) n n) := by
  unfold OpY
  intro N a w ht hw
  have hz := hs.info
  simp [execOp, Instr.sliceAt, Instr.sureAddr, ht.eval h, underlying_run hs.ty, Result.andThen, Instr.sliceBounds, sizeOf_run hz, Addr.add]
theorem y_sliceAT {t e : TypeId} {n sz : Nat} [hs : TyArr P t n e sz] {x y : Operand} {b o : Nat} {k : IntKind} {m : Nat} (h : evalO F x = some (.pointer (some ⟨b, o, none⟩))) (hy : evalO F y = some (.int k m)) (hm : m ≤ n) :
    OpY P ⟨d, .slice t x none (some y) none, ty, pos, after, g⟩ F bs H (.slice (some ⟨b, o, none⟩) m n) := by
  unfold OpY
  intro N a w ht hw
  have hz := hs.info
  simp [execOp, Instr.sliceAt, Instr.sureAddr, ht.eval h, ht.eval hy, underlying_run hs.ty, Result.andThen, Instr.sliceBounds, Instr.sliceBound, asIntOf, hm, sizeOf_run hz, Addr.add]
end
section
variable {P : Program} {N : NN} {F : List (Nat × Value)} {bs : List (World × List Nat)} {H : List (Nat × Obj)}
  {ty : TypeId} {pos : String} {after : Array Edge} {g : Option (Nat × Bool)}
/-- 'copy' into a block that is known, from its beginning. -/
theorem e_copy {dd : Tmp} {t ts e e' : TypeId} [hs : TySlice P t e' 1] {x y : Operand} {b dn dc n : Nat} {xv : Value} {l vs : List Value} {H' : List (Nat × Obj)} (hd : Nat.blt dd N.n = true)
    (hx : evalO F x = some (.slice (some ⟨b, 0, none⟩) dn dc)) (hy : evalO F y = some xv) (hr : ∀ w, HG bs H w → Reads w xv 1 n vs) (h1 : one' vs) (hn : n ≤ dn) (hl : n ≤ l.length)
    (hu : HU b (.cells l.toArray e (0, 0)) (.cells (vs ++ l.drop n).toArray e (0, 0)) H H') :
    OpE P ⟨some dd, .call ⟨.builtin .copy, #[x, y], #[t, ts]⟩, ty, pos, after, g⟩ N F bs H (fun _ : Unit => True) (fun _ => (dd, .int .i64 n) :: F) (fun _ => bs) (fun _ => H') := by
  unfold OpE
  intro a w ht hw K Q hK
  have hb := hw.heap _ hu.mem
  have hrd := hr w hw
  have hvl : vs.length = n := by have := hrd.1; omega
  obtain ⟨w', c', k1, k2, k3, k4, k5, k6, k7⟩ := storeCells_whole (P := P) (w := w) (b := b) (e := e) vs 0 w l.toArray hb (by simp; omega) h1
  have hc' : c' = (vs ++ l.drop n).toArray := by
    apply Array.ext_getElem?
    intro k
    rw [k7 k]
    simp only [Nat.sub_zero, List.getElem?_toArray]
    by_cases hk : k < vs.length
    · rw [if_pos ⟨Nat.zero_le _, by omega⟩, List.getElem?_append_left hk]
    · rw [if_neg (by omega), List.getElem?_append_right (by omega), List.getElem?_drop]
      congr 1; omega
  subst hc'
  have hf := firstCells_run (P := P) hrd
  obtain ⟨_, ad, cp, rfl, _⟩ := hrd
  have hz := hs.info
  have hmin : Nat.min n dn = n := Nat.min_eq_left hn
  have hrun : (Builtin.copy_ #[t, ts] ty #[.slice (some ⟨b, 0, none⟩) dn dc, .slice ad n cp]).run P w = .ok (.int .i64 n) w' := by
    simp [Builtin.copy_, underlying_run hs.ty, Result.andThen, Builtin.lenOf, sizeOf_run hz, hmin, hf, k1, goInt]
  unfold Oper.wp
  simp only [execOp, resolve, invoke, builtin, Sem.run_bind, Sem.run_pure, Result.andThen, List.map_toArray, List.map_cons, List.map_nil, ht.eval hx, ht.eval hy]
  rw [hrun]
  simp only [Sem.run_pure, Result.andThen, Oper.upon]
  exact hK () _ _ trivial (ht.put hd _) (hw.set hu ⟨k2, k3, k4, k5⟩)
end
end Go.Sp
namespace Go.Sp
open Go
section
variable {P : Program} {F : List (Nat × Value)} {bs : List (World × List Nat)} {H : List (Nat × Obj)} {N : NN}
  {d : Option Tmp} {ty : TypeId} {pos : String} {after : Array Edge} {g : Option (Nat × Bool)}
/-- A struct of an integer and a bool, to be compared. -/
class TyEqIB (P : Program) (t : TypeId) : Prop where
  ty : P.underlying t = some (.struct (P.fieldsOf t))
  st : P.stoodInHeld t = false
  gd : P.eqGuardType P.depth t = false
  fs : ∃ f0 f1, (P.fieldsOf t).toList = [f0, f1] ∧ (f0.name == "_") = false ∧ (f1.name == "_") = false ∧ f0.offset = 0 ∧ f1.offset = 1 ∧ P.underlying f0.type = some (.int .i64) ∧ P.underlying f1.type = some .bool
class TyMapIB (P : Program) (t : TypeId) (key elem : outParam TypeId) : Prop where
  ty : P.underlying t = some (.map key elem)
  key : TyEqIB P key
  zero : ∃ i, P.info? elem = some i ∧ i.zero = some (.int .i64 0)
def kvb (a : Int) (b : Bool) : Value := .agg #[.int .i64 a, .bool b]
/-- All keys are such structs, all values numbers. -/
def KeyB (l : List MapEntry) : Prop := ∀ e ∈ l, ∃ a b v, e.key = kvb a b ∧ e.val = .int .i64 v
theorem KeyB.push {es : Array MapEntry} (h : KeyB es.toList) (a : Int) (b : Bool) (v : Int) (n : Nat) : KeyB (es.push ⟨kvb a b, .int .i64 v, n⟩).toList := fun e he => by
  simp only [Array.toList_push, List.mem_append, List.mem_singleton] at he
  rcases he with he | rfl
  · exact h e he
  · exact ⟨a, b, v, rfl, rfl⟩
/-- A list of integers as an array's cells. -/
def isV (l : List Int) : Array Value := (l.map (Value.int .i64)).toArray
class TyArrI (P : Program) (t : TypeId) (n : outParam Nat) : Prop where
  arr : ∃ e, P.underlying t = some (.array n e) ∧ P.underlying e = some (.int .i64) ∧ (P.info? e).map (·.size) = some 1
  gd : P.eqGuardType P.depth t = false
end
end Go.Sp
namespace Go.Sp
open Go
section
variable {r : Option Nat} {P : Program} {N : NN} {F : List (Nat × Value)} {bs : List (World × List Nat)} {H : List (Nat × Obj)}
  {d : Tmp} {ty : TypeId} {pos : String} {after : Array Edge} {g : Option (Nat × Bool)}
end
section
variable {P : Program} {F : List (Nat × Value)} {bs : List (World × List Nat)} {H : List (Nat × Obj)}
  {d : Option Tmp} {ty : TypeId} {pos : String} {after : Array Edge} {g : Option (Nat × Bool)}
end
end Go.Sp
namespace Go.Sp
open Go
section
variable {P : Program}
end
section
variable {P : Program} {F : List (Nat × Value)} {bs : List (World × List Nat)} {H : List (Nat × Obj)} {N : NN}
  {d : Option Tmp} {ty : TypeId} {pos : String} {after : Array Edge} {g : Option (Nat × Bool)}
/-- All keys are lists of so many numbers; what they hold is M of them. -/
def GoodM (n : Nat) (M : List Int → List Int) (es : Array MapEntry) : Prop := ∀ e ∈ es.toList, ∃ k : List Int, k.length = n ∧ e.key = .agg (isV k) ∧ e.val = .agg (isV (M k))
theorem GoodM.nil (n : Nat) (M : List Int → List Int) : GoodM n M #[] := fun e h => by cases h
open Classical in
noncomputable def hasF (es : Array MapEntry) (k : List Int) : Bool := decide (∃ e ∈ es.toList, e.key = .agg (isV k))
theorem GoodM.push {n : Nat} {M : List Int → List Int} {es : Array MapEntry} (h : GoodM n M es) {k : List Int} (hk : k.length = n) (b : Nat) : GoodM n M (es.push ⟨.agg (isV k), .agg (isV (M k)), b⟩) := fun e he => by
  simp only [Array.toList_push, List.mem_append, List.mem_singleton] at he
  rcases he with he | rfl
  · exact h e he
  · exact ⟨k, hk, rfl, rfl⟩
end
end Go.Sp
namespace Go.Sp
attribute [irreducible] TL TC TX TK TOne OpY OpE OpR CnV CnX
end Go.Sp
