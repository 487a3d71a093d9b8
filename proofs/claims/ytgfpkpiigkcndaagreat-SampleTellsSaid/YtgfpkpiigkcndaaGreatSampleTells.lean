
/-
  The given law holds for every input.
  Conditions: none beyond those that the given statement itself bears.
-/
import Derived.Test.YtgfpkpiigkcndaaGreatM6
namespace Go.Proofs.YtgfpkpiigkcndaaGreat.sampleTells
open Go.ChangeShapes Go.WideShapes Go.ChangeAt Go.RowKit Go.Sp
set_option linter.unusedVariables false
set_option linter.unusedSimpArgs false
theorem own : ownKnob Tryz.prog.godebug = none := by kernel_rfl
set_option maxRecDepth 100000 in
theorem lifted (os : Os) (started : os.Started) (H : Type) (enc : TypeId × Value → H) :
    ReturnsInHanded {} Tryz.checked os 4 .any (Rows.sampleTellsSpec.pre6 enc Tryz.prog Tryz.f4 Rows.sampleTellsRow.domain false) (Rows.sampleTellsSpec.post enc Tryz.prog Tryz.f4 false true false false) := by
  refine returnsInHanded_of_change (C := Tryz.checked) own started (by kernel_rfl) Tryz.func4
    (ChangeSpec.witness6 (enc := enc) (C := Tryz.checked) false ⟨#[], #[.agg #[.int .i64 0, .int .i64 0, .int .i64 0, .int .i64 0, .slice none 0 0, .slice none 0 0, .slice none 0 0]], []⟩ 8 (by kernel_rfl) (by kernel_rfl) (by kernel_rfl) (by kernel_rfl)) ?_
  intro W base args ds gs before hval0 hW hcnd _
  have hval : ∀ (j : Nat) t v, Tryz.f4.params[j]? = some t → args[j]? = some v → Value.okWide Tryz.prog W .any base t v := hval0
  have hW' := hW
  obtain ⟨p, q, hA0, hV, rfl, hfz, hnd⟩ := hW
  have hA : DataW.TrodAll enc Tryz.prog W 0 (fun _ => true) true Tryz.f4.params.toList args.toList ds p := hA0
  rw [Tryz.params4] at hA hval
  obtain ⟨v0, vs0, d0, ds0, p0, q0, hargs, rfl, rfl, h0, tr0⟩ := trodAll_cons hA
  obtain ⟨rfl, rfl, rfl⟩ := trodAll_nil tr0
  have hargs2 : args = #[v0] := by cases args; simp_all
  subst hargs2
  obtain ⟨rfl, rfl⟩ := trodVars_none hV
  obtain ⟨cs0, rfl, _⟩ := okWide_struct Tryz.underlying26 (hval 0 26 v0 rfl rfl)
  obtain ⟨fu0, t0⟩ := h0
  obtain ⟨s0, tv0, pv0, gv0, e0, hr0⟩ := smp_reads t0
  have ee0 : cs0 = _ := (Array.toArray_toList (xs := cs0)).symm.trans (congrArg List.toArray e0)
  subst ee0
  simp only [List.append_nil] at hW'
  refine (CnV.out (stells_c s0 tv0 pv0 gv0 W hr0)).mono fun e W' ⟨he, hf⟩ => ?_
  subst he
  exact ⟨_, rfl, post_na (pa := _) (pv := []) hW' (fun _ _ _ => (trodAll_cons_mk (shut_bool Tryz.underlying4 _) trodAll_mk0))
    (fun sp hsp => all_stays (ts := Tryz.f4.params.toList) laidTryz hf.below (by kernel_rfl) hA0 (fun x hx => hsp x (by simpa using hx))) (fun _ _ => rfl) (by simp)
    (hf.kept _)⟩
theorem over : Rows.sampleTellsRow.holds Tryz.pinned (OpenSpec.ofChange Rows.sampleTellsSpec) :=
  OpenClaim.holds_of_wide 4 Tryz.f4 rfl rfl rfl rfl rfl rfl rfl ⟨rfl, rfl, rfl, rfl, rfl⟩ rfl rfl rfl rfl rfl (by kernel_rfl) Tryz.func4 (by kernel_rfl)
    (of_decide_eq_true (by kernel_rfl)) (by unfold Func.isWrapper; first | (rw [if_pos (by decide +kernel)]; kernel_rfl) | (rw [if_neg (by decide +kernel)]; exact ⟨rfl, rfl⟩))
    (fun os started H enc _ => lifted os started H enc)
/-- The statement. -/
theorem proved : Rows.SampleTellsSaid :=
  over
#print axioms proved
end Go.Proofs.YtgfpkpiigkcndaaGreat.sampleTells
