/-
  The facts of SpindleNames: what the program's functions return at the chapter's examples.
-/
import Derived.Test.YtdmnmhkonfadhaaR
import Derived.Test.YtdmnmhkonfadhaaCob
set_option linter.unusedVariables false
set_option linter.unusedSimpArgs false
set_option linter.deprecated false
namespace Go.Sp
open Go Go.Proofs
theorem e_mkS {P : Program} {N : NN} {F : List (Nat × Value)} {bs : List (World × List Nat)} {H : List (Nat × Obj)} {ty : TypeId} {pos : String} {after : Array Edge} {g : Option (Nat × Bool)} {dd : Tmp} {t e : TypeId} {sz by_ : Nat} {x y : Operand} {z : Value} {n : Nat} {out : List Value} [hs : TySlice P t e sz] (hi : (P.info? e).map (fun i => (i.zero, i.size, i.bytes)) = some (some z, sz, by_)) (hd : Nat.blt dd N.n = true)
    (hx : evalO F x = some (.int .i64 n)) (hy : evalO F y = some (.int .i64 n)) (hb : by_ * n ≤ 1000000) (hn : n * sz ≤ 1000000) (hn2 : n ≤ 1000000) (hout : madeCells z.cells (n * sz) = out.toArray) :
    OpE P ⟨some dd, .makeSlice t x y, ty, pos, after, g⟩ N F bs H (fun _ : Nat => True) (fun b => (dd, .slice (some ⟨b, 0, none⟩) n n) :: F) (fun _ => bs) (fun b => (b, .cells out.toArray e (0, 0)) :: H) := by
  unfold OpE
  intro a w ht hw K Q hK
  obtain ⟨i, h1, h2⟩ := Option.map_eq_some_iff.1 hi
  simp only [Prod.mk.injEq] at h2
  have hbb : (i.bytes : Int) * (n : Int) ≤ 281474976710656 := by
    have : ((i.bytes * n : Nat) : Int) ≤ 1000000 := by rw [h2.2.2]; omega
    rw [Int.natCast_mul] at this; omega
  have hrun := run_makeSlice (P := P) w t e i z hs.ty h1 h2.1 .i64 .i64 n n (by omega) (Int.le_refl _) (by rw [h2.2.1, Int.toNat_natCast]; omega) hbb (by omega)
  simp only [Int.toNat_natCast, h2.2.1, hout] at hrun
  unfold Oper.wp
  simp only [execOp, Sem.run_bind, ht.eval hx, ht.eval hy, hrun, Result.andThen, Sem.run_pure, Oper.upon]
  exact hK w.heap.size _ _ trivial (ht.put hd _) (hw.alloc _)
theorem nm1 : floatsF brassS 0 1126 = (-2, 0) := by kernel_rfl
theorem nm2 : floatsF brassS 0 1000 = (0, 0) := by kernel_rfl
theorem nm3 : seeF brassS 0 1000 = ((5, 5), 0) := by kernel_rfl
theorem nm4 : seeF brassS 0 1125 = ((0, 0), 0) := by kernel_rfl
theorem nm5 : meanE brassS 0 5 = ((990, 1011), 0) := by kernel_rfl
theorem nm6 : meanE brassS 0 10 = ((900, 909), 0) := by kernel_rfl
theorem nm7 : meanE brassS 0 (-1) = ((1, 899), 0) := by kernel_rfl
theorem nm8 : narrowE brassS [] = ((1, 2000), 0) := by kernel_rfl
theorem nmr : rangedF brassS (950, 1300) = 0 := by kernel_rfl
theorem np1 : proveF brassS (950, 1300) [0, 2] 2 = true := by rw [prove_eq brass_vs nmr]; kernel_rfl
theorem np2 : proveF brassS (950, 1300) [0, 2] 1 = false := by rw [prove_eq brass_vs nmr]; kernel_rfl
theorem np3 : proveF brassS (950, 1300) [0, 1] 9 = false := by rw [prove_eq brass_vs nmr]; kernel_rfl
theorem np4 : proveF brassS (950, 1300) [2, 0] 9 = false := by rw [prove_eq brass_vs nmr]; kernel_rfl
theorem nm9 : floatsF brassS 3 1000 = (0, 2) := by kernel_rfl
theorem nm10 : floatsF brassS 0 2001 = (0, 2) := by kernel_rfl
theorem nm11 : seeF brassS 0 899 = ((0, 0), 10) := by kernel_rfl
theorem nm12 : meanE brassS 0 11 = ((0, 0), 2) := by kernel_rfl
theorem nm13 : meanE brassS 0 (-3) = ((0, 0), 2) := by kernel_rfl
theorem nm14 : narrowE brassS [(0, 5), (1, 10), (0, 3)] = ((0, 0), 11) := by kernel_rfl
theorem nm15 : leaveE brassS [(0, 0), (0, 0), (0, 0), (0, 0), (0, 0), (0, 0), (0, 0)] = ([], 3) := by kernel_rfl
theorem nmr2 : rangedF brassS (850, 900) = 0 := by kernel_rfl
theorem nm16 : coverE brassS (850, 900) = ([], 10) := by
  have h : coverO brassS (850, 900) = none := by rw [coverO_eq brass_vs (by decide) (by decide)]; kernel_rfl
  exact cover_e1 nmr2 h
theorem nm17 : verdictsE brassS (2, 1) = ([], 2) := by kernel_rfl
abbrev heavyS : Sn := ⟨5000, 100, 20, 10, 10, [100, 200]⟩
theorem heavy_nb : NB heavyS := by unfold NB; decide
theorem nm18 : meanE heavyS 0 0 = ((0, 0), 7) := by kernel_rfl
theorem nc1 : chkF ⟨0, 800, 20, 10, 10, [100, 200]⟩ = 1 := by kernel_rfl
theorem nc2 : chkF ⟨900, 800, 101, 10, 10, [100, 200]⟩ = 1 := by kernel_rfl
theorem nc3 : chkF ⟨900, 800, 20, 10, 21, [100, 200]⟩ = 1 := by kernel_rfl
theorem nc4 : chkF ⟨900, 800, 20, 10, 9, [100, 200]⟩ = 1 := by kernel_rfl
theorem nc5 : chkF ⟨900, 800, 20, 10, 10, [1001, 200]⟩ = 1 := by kernel_rfl
theorem nc6 : chkF ⟨900, 800, 20, 10, 10, [0, 0, 0, 0, 0, 0, 0]⟩ = 3 := by kernel_rfl
theorem brassB_c (w : World) : CnX Try.prog 58 #[] w [] (fun b : Nat => spV brassS (.slice (some ⟨b, 0, none⟩) 2 2)) (fun b w' => True ∧ w.heap.size ≤ b ∧ w'.heap[b]? = some (.cells #[vi 100, vi 200] 3 (0, 0))) := by
  refine cnx0 (vs := []) Try.func58 rfl rfl ?_
  all_goals refine tc_seq fun K1 hK1 => ?_
  all_goals refine tc_region ?_
  all_goals refine tl_e (e_allocN rfl) rfl (fun b0 _ => ?_)
  all_goals refine tl_nil ?_
  all_goals (refine hK1 ?_; try (clear hK1; clear K1))
  all_goals refine tc_seq fun K2 hK2 => ?_
  all_goals refine tc_region ?_
  all_goals refine tl_e (e_bslice rfl (by (repeat (first | exact .nil | apply PV.one rfl rfl | apply PV.two rfl)); done) rfl rfl) rfl (fun b1 _ => ?_)
  all_goals refine tl_q (y_build_6 rfl rfl rfl rfl rfl rfl rfl rfl rfl rfl rfl rfl) rfl ?_
  all_goals refine tl_e (e_storeW rfl rfl (by repeat constructor) (by rfl) (by rfl) (by simp [Value.oneCell'])) rfl (fun _ _ => ?_)
  all_goals refine tl_nil ?_
  all_goals (refine hK2 ?_; try (clear hK2; clear K2))
  all_goals refine tc_ret ?_
  all_goals (repeat (first | refine tk_then_ret ?_ | refine tk_block_ret ?_ | refine tk_scope_ret ?_))
  all_goals first | refine tk_ret rfl rfl (.cons (.agg inferInstance rfl (by repeat constructor) (by rfl)) .nil) ?_ | refine tk_retM rfl (by repeat constructor) rfl (.cons (.agg inferInstance rfl (by repeat constructor) (by rfl)) .nil) ?_
  all_goals (
   exact fun w' hw' => ⟨b1, rfl, hw'.fr (by simp), trivial, (hw'.own _ (HM.mem (b := b1) (by repeat constructor)) (w, []) (by simp)).resolve_left (by simp), hw'.heap _ (HM.mem (by repeat constructor))⟩)
end Go.Sp
