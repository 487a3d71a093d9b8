/-
  The smallest set of readings: what is kept fits, and without any smaller list nothing does.
-/
import Derived.Test.YtaoohjefbfmhnaaYa
set_option linter.unusedVariables false
set_option linter.unusedSimpArgs false
set_option linter.deprecated false
namespace Go.Sp
open Go Go.Proofs
theorem y_orn {P : Program} {F : List (Nat × Value)} {bs : List (World × List Nat)} {H : List (Nat × Obj)} {d : Option Tmp} {ty : TypeId} {pos : String} {after : Array Edge} {g : Option (Nat × Bool)} {x y : Operand} {t t' : TypeId} {a b : Nat} (hx : evalO F x = some (.int .i64 a)) (hy : evalO F y = some (.int .i64 b)) (ha : a < 2 ^ 62) (hb : b < 2 ^ 62) :
    OpY P ⟨d, .binOp .or t x y t', ty, pos, after, g⟩ F bs H (.int .i64 ((a ||| b : Nat) : Int)) := by
  unfold OpY
  intro N a' w ht _
  have hab : a ||| b < 2 ^ 62 := Nat.or_lt_two_pow ha hb
  have e : (BitVec.ofInt 64 (a : Int) ||| BitVec.ofInt 64 (b : Int)).toNat = a ||| b := by
    rw [BitVec.toNat_or, BitVec.ofInt_natCast, BitVec.ofInt_natCast, BitVec.toNat_ofNat, BitVec.toNat_ofNat, Nat.mod_eq_of_lt (by omega), Nat.mod_eq_of_lt (by omega)]
  have hw : IntKind.i64.wrap ((a ||| b : Nat) : Int) = ((a ||| b : Nat) : Int) := IntWalk.i64_in _ (by omega)
  simp only [execOp, ht.eval hx, ht.eval hy, Sem.run_bind, eqGuard_int, binOp_or, Op.intBits, IntKind.bits, e, hw, Result.andThen, Sem.run_pure, binOp, ne_eq, not_true, if_false]
  have e2 : IntKind.i64.wrap ((BitVec.ofInt IntKind.i64.bits (a : Int) ||| BitVec.ofInt IntKind.i64.bits (b : Int)).toNat : Int) = ((a ||| b : Nat) : Int) := by
    rw [← hw]; exact congrArg (fun n : Nat => IntKind.i64.wrap (n : Int)) e
  exact congrArg (fun n => Result.ok (Next.value (Value.int .i64 n)) w) e2
theorem y_shl1 {P : Program} {F : List (Nat × Value)} {bs : List (World × List Nat)} {H : List (Nat × Obj)} {d : Option Tmp} {ty : TypeId} {pos : String} {after : Array Edge} {g : Option (Nat × Bool)} {x y : Operand} {t t' : TypeId} {k' : IntKind} {n : Int} (hx : evalO F x = some (.int .i64 1)) (hy : evalO F y = some (.int k' n)) (hn : 0 ≤ n ∧ n ≤ 60) :
    OpY P ⟨d, .binOp .shl t x y t', ty, pos, after, g⟩ F bs H (.int .i64 ((2 ^ n.toNat : Nat) : Int)) := by
  have hp : 2 ^ n.toNat ≤ 2 ^ 60 := Nat.pow_le_pow_right (by omega) (by omega)
  have e : (1 : Int) * 2 ^ n.toNat = ((2 ^ n.toNat : Nat) : Int) := by simp
  have h : OpY P ⟨d, .binOp .shl t x y t', ty, pos, after, g⟩ F bs H (.int .i64 (1 * 2 ^ n.toNat)) := y_shl hx hy (by omega) (by rw [e]; generalize 2 ^ n.toNat = q at hp ⊢; omega)
  rw [e] at h; exact h
theorem fitsP_iff {s : Sn} (hs : VS s) {l : List (Int × Int)} (hok : l.all (rdOk s) = true) {o : List Int} : fitsP s l o = true ↔ ∃ d : Int, 1 ≤ d ∧ d ≤ 2000 ∧ ∀ i : Nat, i < l.length → (i : Int) ∈ o ∨ rFit s (l.getD i (0, 0)) d = true := by
  have hb := nar_bd hs l o l.length
  unfold fitsP emptyF
  simp only [Bool.not_eq_true', decide_eq_false_iff_not]
  constructor
  · intro h
    refine ⟨(narF s l o l.length).1, by omega, by omega, ?_⟩
    exact (nar_mem hs hok o (by omega) (by omega) l.length (Nat.le_refl _)).1 (by omega)
  · rintro ⟨d, h1, h2, h3⟩
    have := (nar_mem hs hok o h1 h2 l.length (Nat.le_refl _)).2 h3
    omega
def keepN (l : List (Int × Int)) (out : Int) (n : Nat) : List (Int × Int) := ((List.range n).filter fun i => !outB out i).map fun i => l.getD i (0, 0)
theorem keepN_succ (l : List (Int × Int)) (out : Int) (n : Nat) : keepN l out (n + 1) = if outB out n = true then keepN l out n else keepN l out n ++ [l.getD n (0, 0)] := by
  unfold keepN
  rw [List.range_succ, List.filter_append, List.map_append]
  by_cases h : outB out n = true
  · rw [if_pos h]; simp [h]
  · rw [if_neg h]; simp [h]
theorem keepN_len (l : List (Int × Int)) (out : Int) (n : Nat) : (keepN l out n).length ≤ n := by
  unfold keepN
  rw [List.length_map]
  exact Nat.le_trans (List.length_filter_le _ _) (by simp)
theorem mem_keep {l : List (Int × Int)} {out : Int} {n : Nat} {r : Int × Int} : r ∈ keepN l out n ↔ ∃ i : Nat, i < n ∧ outB out i = false ∧ l.getD i (0, 0) = r := by
  unfold keepN
  simp only [List.mem_map, List.mem_filter, List.mem_range, Bool.not_eq_true']
  constructor
  · rintro ⟨i, ⟨h1, h2⟩, h3⟩; exact ⟨i, h1, h2, h3⟩
  · rintro ⟨i, h1, h2, h3⟩; exact ⟨i, ⟨h1, h2⟩, h3⟩
theorem keep_ok {s : Sn} {l : List (Int × Int)} (hok : l.all (rdOk s) = true) (out : Int) : (keepN l out l.length).all (rdOk s) = true := List.all_eq_true.2 fun r hr => by
  obtain ⟨i, h1, _, rfl⟩ := mem_keep.1 hr
  rw [List.getD_eq_getElem?_getD, List.getElem?_eq_getElem h1]
  exact List.all_eq_true.1 hok _ (List.getElem_mem h1)
theorem fits_keep {s : Sn} (hs : VS s) {l : List (Int × Int)} (hok : l.all (rdOk s) = true) {o : List Int} {out : Int} (ho : ∀ i : Nat, i < l.length → (outB out i = true ↔ (i : Int) ∈ o)) : fitsP s (keepN l out l.length) [] = fitsP s l o := by
  rw [Bool.eq_iff_iff, fitsP_iff hs (keep_ok hok out), fitsP_iff hs hok]
  constructor
  · rintro ⟨d, h1, h2, h3⟩
    refine ⟨d, h1, h2, fun i hi => ?_⟩
    by_cases hb : outB out i = true
    · exact .inl ((ho i hi).1 hb)
    · refine .inr ?_
      have hm : l.getD i (0, 0) ∈ keepN l out l.length := mem_keep.2 ⟨i, hi, by simpa using hb, rfl⟩
      obtain ⟨j, hj, e⟩ := List.getElem_of_mem hm
      have := (h3 j hj).resolve_left List.not_mem_nil
      rw [List.getD_eq_getElem?_getD, List.getElem?_eq_getElem hj, e] at this
      exact this
  · rintro ⟨d, h1, h2, h3⟩
    refine ⟨d, h1, h2, fun j hj => .inr ?_⟩
    have hm : (keepN l out l.length).getD j (0, 0) ∈ keepN l out l.length := by
      rw [List.getD_eq_getElem?_getD, List.getElem?_eq_getElem hj]; exact List.getElem_mem hj
    obtain ⟨i, g1, g2, g3⟩ := mem_keep.1 hm
    rw [← g3]
    exact (h3 i g1).resolve_left fun hh => by rw [(ho i g1).2 hh] at g2; cases g2
theorem narrowE_ok {s : Sn} (hs : VS s) {l : List (Int × Int)} (hl : l.length ≤ 6) (hok : l.all (rdOk s) = true) {r : Int × Int} {f : Int} (h : narrowE s l = (r, f)) : (f = 0 ∧ fitsP s l [] = true) ∨ (f = 11 ∧ fitsP s l [] = false) := by
  have h0 : readF s l = 0 := by
    unfold readF
    rw [chkF_valid.2 hs, if_neg (fun h => h rfl), if_neg (by omega), if_pos hok]
  unfold narrowE at h
  rw [if_neg (fun hh => hh h0)] at h
  unfold fitsP
  by_cases hc : emptyF (narF s l [] l.length) = true
  · rw [if_pos hc] at h
    cases h
    exact .inr ⟨rfl, by rw [hc]; rfl⟩
  · rw [if_neg hc] at h
    have := congrArg Prod.snd h
    refine .inl ⟨this.symm, ?_⟩
    simpa using hc
/-! the set of a list, by bits -/
def setN (x : List Int) (n : Nat) : Nat := (x.take n).foldl (fun a k => a ||| 2 ^ k.toNat) 0
theorem setN_succ (x : List Int) {n : Nat} (h : n < x.length) : setN x (n + 1) = setN x n ||| 2 ^ (x.getD n 0).toNat := by
  unfold setN
  rw [List.take_add_one, List.getElem?_eq_getElem h, List.getD_eq_getElem?_getD, List.getElem?_eq_getElem h, List.foldl_append]; rfl
theorem setN_lt {x : List Int} {N : Nat} (hx : ∀ k ∈ x, 0 ≤ k ∧ k < (N : Int)) : ∀ n, setN x n < 2 ^ N := by
  intro n
  induction n with
  | zero => exact Nat.two_pow_pos _
  | succ n ih =>
    rcases Nat.lt_or_ge n x.length with h | h
    · rw [setN_succ x h]
      have hm := hx (x.getD n 0) (by rw [List.getD_eq_getElem?_getD, List.getElem?_eq_getElem h]; exact List.getElem_mem h)
      exact Nat.or_lt_two_pow ih (Nat.pow_lt_pow_right (by omega) (by omega))
    · unfold setN at ih ⊢
      rw [List.take_of_length_le (by omega)] at ih ⊢; exact ih
theorem setN_bit {x : List Int} (hx : ∀ k ∈ x, 0 ≤ k) (i : Nat) : outB (setN x x.length : Nat) i = true ↔ (i : Int) ∈ x := by
  have key : ∀ n : Nat, n ≤ x.length → ((setN x n).testBit i = true ↔ (i : Int) ∈ x.take n) := by
    intro n
    induction n with
    | zero => intro _; simp [setN]
    | succ n ih =>
      intro hn
      have hm := hx (x.getD n 0) (by rw [List.getD_eq_getElem?_getD, List.getElem?_eq_getElem (by omega)]; exact List.getElem_mem (by omega))
      rw [setN_succ x (by omega), Nat.testBit_or, Bool.or_eq_true, ih (by omega), List.take_add_one, List.getElem?_eq_getElem (by omega), List.mem_append]
      rw [List.getD_eq_getElem?_getD, List.getElem?_eq_getElem (by omega), Option.getD_some] at hm ⊢
      refine or_congr Iff.rfl ?_
      rw [Nat.testBit_two_pow]
      simp only [decide_eq_true_eq, Option.toList_some, List.mem_singleton]
      omega
  have := key x.length (Nat.le_refl _)
  rw [List.take_length] at this
  rw [← this, ← bitB_nat]; rfl
theorem left_spec {s : Sn} (hs : VS s) {l : List (Int × Int)} (hl : l.length ≤ 6) (hok : l.all (rdOk s) = true) {x : List Int} (hx : x = leaveL s l) {t : Nat} (ht : t < 2 ^ l.length) {r1 r2 : Int × Int} {f g : Int}
    (h1 : narrowE s (keepN l (setN x x.length : Nat) l.length) = (r1, f)) (h2 : narrowE s (keepN l t l.length) = (r2, g)) : f = 0 ∧ (g = 11 ∨ (g = 0 ∧ lessF (bitsL t) x = false)) := by
  subst hx
  have hL := leaveL_least (s := s) (l := l) (by omega)
  have hk1 := keepN_len l (setN (leaveL s l) (leaveL s l).length : Nat) l.length
  have hk2 := keepN_len l (t : Nat) l.length
  constructor
  · rcases narrowE_ok hs (by omega) (keep_ok hok _) h1 with ⟨e, _⟩ | ⟨_, e⟩
    · exact e
    · rw [fits_keep hs hok (fun i _ => setN_bit (fun k hk => (hL.inc.2 k hk).1) i), hL.ok] at e
      cases e
  · rcases narrowE_ok hs (by omega) (keep_ok hok _) h2 with ⟨e, e2⟩ | ⟨e, _⟩
    · refine .inr ⟨e, hL.least _ (bitsL_inc ht) ?_⟩
      rw [← fits_keep hs hok (out := (t : Int)) (fun i hi => by rw [bitsL_iff (by omega), ← bitB_nat]; rfl)]
      exact e2
    · exact .inl e
end Go.Sp
