
/-
  The given law holds for every input.
  Conditions: none beyond those that the given statement itself bears.
-/
import Derived.Test.YtgfpkpiigkcndaaGreatM5
namespace Go.Proofs.YtgfpkpiigkcndaaGreat.samplePlays
open Go.ChangeShapes Go.WideShapes Go.ChangeAt Go.RowKit Go.Sp
set_option linter.unusedVariables false
set_option linter.unusedSimpArgs false
theorem own : ownKnob Tryz.prog.godebug = none := by kernel_rfl
set_option maxRecDepth 100000 in
theorem lifted (os : Os) (started : os.Started) (H : Type) (enc : TypeId × Value → H) :
    ReturnsInHanded {} Tryz.checked os 12 .any (Rows.samplePlaysSpec.pre6 enc Tryz.prog Tryz.f12 Rows.samplePlaysRow.domain false) (Rows.samplePlaysSpec.post enc Tryz.prog Tryz.f12 false true false false) := by
  refine returnsInHanded_of_change (C := Tryz.checked) own started (by kernel_rfl) Tryz.func12
    (ChangeSpec.witness6 (enc := enc) (C := Tryz.checked) false ⟨#[], #[.agg #[.int .i64 0, .int .i64 0, .int .i64 0, .int .i64 0, .slice none 0 0, .slice none 0 0, .slice none 0 0], .agg #[.slice none 0 0, .slice none 0 0]], []⟩ 8 (by kernel_rfl) (by kernel_rfl) (by kernel_rfl) (by kernel_rfl)) ?_
  intro W base args ds gs before hval0 hW hcnd _
  have hval : ∀ (j : Nat) t v, Tryz.f12.params[j]? = some t → args[j]? = some v → Value.okWide Tryz.prog W .any base t v := hval0
  have hW' := hW
  obtain ⟨p, q, hA0, hV, rfl, hfz, hnd⟩ := hW
  have hA : DataW.TrodAll enc Tryz.prog W 0 (fun _ => true) true Tryz.f12.params.toList args.toList ds p := hA0
  rw [Tryz.params12] at hA hval
  obtain ⟨v0, vs0, d0, ds0, p0, q0, hargs, rfl, rfl, h0, tr0⟩ := trodAll_cons hA
  obtain ⟨v1, vs1, d1, ds1, p1, q1, rfl, rfl, rfl, h1, tr1⟩ := trodAll_cons tr0
  obtain ⟨rfl, rfl, rfl⟩ := trodAll_nil tr1
  have hargs2 : args = #[v0, v1] := by cases args; simp_all
  subst hargs2
  obtain ⟨rfl, rfl⟩ := trodVars_none hV
  obtain ⟨cs0, rfl, _⟩ := okWide_struct Tryz.underlying26 (hval 0 26 v0 rfl rfl)
  obtain ⟨fu0, t0⟩ := h0
  obtain ⟨s0, tv0, pv0, gv0, e0, hr0⟩ := smp_reads t0
  have ee0 : cs0 = _ := (Array.toArray_toList (xs := cs0)).symm.trans (congrArg List.toArray e0)
  subst ee0
  obtain ⟨cs1, rfl, _⟩ := okWide_struct Tryz.underlying60 (hval 1 60 v1 rfl rfl)
  obtain ⟨fu1, t1⟩ := h1
  obtain ⟨T1, hv1, av1, e1, hr1⟩ := th_reads t1
  have ee1 : cs1 = _ := (Array.toArray_toList (xs := cs1)).symm.trans (congrArg List.toArray e1)
  subst ee1
  simp only [List.append_nil] at hW'
  refine (CnV.out (splays_c s0 T1 tv0 pv0 gv0 hv1 av1 W hr0 hr1)).mono fun e W' ⟨he, hf⟩ => ?_
  subst he
  exact ⟨_, rfl, post_na (pa := _) (pv := []) hW' (fun _ _ _ => (trodAll_cons_mk (shut_bool Tryz.underlying4 _) trodAll_mk0))
    (fun sp hsp => all_stays (ts := Tryz.f12.params.toList) laidTryz hf.below (by kernel_rfl) hA0 (fun x hx => hsp x (by simpa using hx))) (fun _ _ => rfl) (by simp)
    (hf.kept _)⟩
theorem over : Rows.samplePlaysRow.holds Tryz.pinned (OpenSpec.ofChange Rows.samplePlaysSpec) :=
  OpenClaim.holds_of_wide 12 Tryz.f12 rfl rfl rfl rfl rfl rfl rfl ⟨rfl, rfl, rfl, rfl, rfl⟩ rfl rfl rfl rfl rfl (by kernel_rfl) Tryz.func12 (by kernel_rfl)
    (of_decide_eq_true (by kernel_rfl)) (by unfold Func.isWrapper; first | (rw [if_pos (by decide +kernel)]; kernel_rfl) | (rw [if_neg (by decide +kernel)]; exact ⟨rfl, rfl⟩))
    (fun os started H enc _ => lifted os started H enc)
/-- The statement. -/
theorem proved : Rows.SamplePlaysSaid :=
  over
#print axioms proved
end Go.Proofs.YtgfpkpiigkcndaaGreat.samplePlays
