/-
  The given law holds for every input.
  Conditions: none beyond those that the given statement itself bears.
-/
import Derived.Test.YtdmnmhkonfadhaaTr
import Derived.Test.YtdmnmhkonfadhaaRow2
namespace Go.Proofs.Ytdmnmhkonfadhaa.spindleTruth
open Go.ChangeShapes Go.WideShapes Go.ChangeAt Go.RowKit Go.Sp
set_option linter.unusedVariables false
set_option linter.unusedSimpArgs false
theorem own : ownKnob Try.prog.godebug = none := by kernel_rfl
set_option maxRecDepth 100000 in
theorem lifted (os : Os) (started : os.Started) (H : Type) (enc : TypeId × Value → H) :
    ReturnsInHanded {} Try.checked os 7 .any (Rows.spindleTruthSpec.pre6 enc Try.prog Try.f7 Rows.spindleTruthRow.domain false) (Rows.spindleTruthSpec.post enc Try.prog Try.f7 false true false false) := by
  refine returnsInHanded_of_change (C := Try.checked) own started (by kernel_rfl) Try.func7
    (ChangeSpec.witness6 (enc := enc) (C := Try.checked) false ⟨#[], #[.agg #[.int .i64 0, .int .i64 0, .int .i64 0, .int .i64 0, .int .i64 0, .slice none 0 0], .int .u16 0, .slice none 0 0, .agg #[.int .i64 0, .int .i64 0]], []⟩ 8 (by kernel_rfl) (by kernel_rfl) (by kernel_rfl) (by kernel_rfl)) ?_
  intro W base args ds gs before hval0 hW hcnd _
  have hval : ∀ (j : Nat) t v, Try.f7.params[j]? = some t → args[j]? = some v → Value.okWide Try.prog W .any base t v := hval0
  have hW' := hW
  obtain ⟨p, q, hA0, hV, rfl, hfz, hnd⟩ := hW
  have hA : DataW.TrodAll enc Try.prog W 0 (fun _ => true) true Try.f7.params.toList args.toList ds p := hA0
  rw [Try.params7] at hA hval
  obtain ⟨v0, vs0, d0, ds0, p0, q0, hargs, rfl, rfl, h0, r0⟩ := trodAll_cons hA
  obtain ⟨v1, vs1, d1, ds1, p1, q1, rfl, rfl, rfl, h1, r1⟩ := trodAll_cons r0
  obtain ⟨v2, vs2, d2, ds2, p2, q2, rfl, rfl, rfl, h2, r2⟩ := trodAll_cons r1
  obtain ⟨v3, vs3, d3, ds3, p3, q3, rfl, rfl, rfl, h3, r3⟩ := trodAll_cons r2
  obtain ⟨rfl, rfl, rfl⟩ := trodAll_nil r3
  have hargs2 : args = #[v0, v1, v2, v3] := by cases args; simp_all
  subst hargs2
  obtain ⟨rfl, rfl⟩ := trodVars_none hV
  obtain ⟨cs0, rfl, _⟩ := okWide_struct Try.underlying24 (hval 0 24 v0 rfl rfl)
  obtain ⟨fu0, t0⟩ := h0
  obtain ⟨s0, sl0, e0, hr0, hm0⟩ := sn_reads t0
  have ee0 : cs0 = _ := (Array.toArray_toList (xs := cs0)).symm.trans (congrArg List.toArray e0)
  subst ee0
  obtain ⟨n1, rfl, rfl, rfl, wf1⟩ := open_int Try.underlying66 (hval 1 66 v1 rfl rfl) h1
  have w1 := wf16 wf1
  obtain ⟨ad2, le2, ca2, rfl⟩ := okWide_slice Try.underlying67 (hval 2 67 v2 rfl rfl)
  obtain ⟨fu2, t2⟩ := h2
  obtain ⟨sv2, l2, e2, hm2, hr2, hb2⟩ := ints_reads Try.underlying67 Try.underlying5 (by kernel_rfl) t2
  simp [Value.cells] at e2
  subst e2
  obtain ⟨cs3, rfl, _⟩ := okWide_struct Try.underlying42 (hval 3 42 v3 rfl rfl)
  obtain ⟨fu3, t3⟩ := h3
  obtain ⟨r3, e3, b3⟩ := pair_reads Try.underlying42 cells_42 rfl rfl rfl rfl t3
  have ee3 : cs3 = _ := (Array.toArray_toList (xs := cs3)).symm.trans (congrArg List.toArray e3)
  subst ee3
  simp only [List.append_nil] at hW'
  refine (CnV.out (truth_c s0 n1 w1 l2 (fun x hx => wf8 (hb2 x hx)) (lenOf hm2) r3 sl0 _ W hr0 hr2)).mono fun e W' ⟨he, hf⟩ => ?_
  subst he
  have hg := hf.grown
  exact ⟨_, rfl, post_of_same (pa := _) (pv := []) hW' (fun _ _ _ => (trodAll_cons_mk (shut_bool Try.underlying4 _) trodAll_mk0))
    (fun sp hsp => all_stays (ts := Try.f7.params.toList) laidTry hf.below (by kernel_rfl) hA0 (fun x hx => hsp x (by simpa using hx))) (fun _ _ => rfl) (by simp)
    (hg.frame _) hg.2.1 (ok_one (by kernel_rfl) rfl (okWide_bool_mk Try.underlying4 _))⟩
theorem over : Rows.spindleTruthRow.holds Try.pinned (OpenSpec.ofChange Rows.spindleTruthSpec) :=
  OpenClaim.holds_of_wide 7 Try.f7 rfl rfl rfl rfl rfl rfl rfl ⟨rfl, rfl, rfl, rfl, rfl⟩ rfl rfl rfl rfl rfl (by kernel_rfl) Try.func7 (by kernel_rfl)
    (of_decide_eq_true (by kernel_rfl)) (by unfold Func.isWrapper; first | (rw [if_pos (by decide +kernel)]; kernel_rfl) | (rw [if_neg (by decide +kernel)]; exact ⟨rfl, rfl⟩))
    (fun os started H enc _ => lifted os started H enc)
/-- The statement. -/
theorem proved : Rows.SpindleTruthSaid :=
  over
#print axioms proved
end Go.Proofs.Ytdmnmhkonfadhaa.spindleTruth
