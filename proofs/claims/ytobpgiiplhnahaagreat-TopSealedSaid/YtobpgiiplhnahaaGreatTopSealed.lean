
/-
  The given law holds for every input.
  Conditions: none beyond those that the given statement itself bears.
-/
import Derived.Test.YtobpgiiplhnahaaGreatM5
namespace Go.Proofs.YtobpgiiplhnahaaGreat.topSealed
open Go.ChangeShapes Go.WideShapes Go.ChangeAt Go.RowKit Go.Sp
set_option linter.unusedVariables false
set_option linter.unusedSimpArgs false
theorem own : ownKnob Tryz.prog.godebug = none := by kernel_rfl
set_option maxRecDepth 100000 in
theorem lifted (os : Os) (started : os.Started) (H : Type) (enc : TypeId × Value → H) :
    ReturnsInHanded {} Tryz.checked os 3 .any (Rows.topSealedSpec.pre6 enc Tryz.prog Tryz.f3 Rows.topSealedRow.domain false) (Rows.topSealedSpec.post enc Tryz.prog Tryz.f3 false true false false) := by
  refine returnsInHanded_of_change (C := Tryz.checked) own started (by kernel_rfl) Tryz.func3
    (ChangeSpec.witness6 (enc := enc) (C := Tryz.checked) false ⟨#[], #[.agg #[.int .i64 0, .int .i64 0, .int .i64 0, .int .i64 0, .slice none 0 0, .slice none 0 0, .slice none 0 0], .agg #[.slice none 0 0, .slice none 0 0, .slice none 0 0], .slice none 0 0], []⟩ 8 (by kernel_rfl) (by kernel_rfl) (by kernel_rfl) (by kernel_rfl)) ?_
  intro W base args ds gs before hval0 hW hcnd _
  have hval : ∀ (j : Nat) t v, Tryz.f3.params[j]? = some t → args[j]? = some v → Value.okWide Tryz.prog W .any base t v := hval0
  have hW' := hW
  obtain ⟨p, q, hA0, hV, rfl, hfz, hnd⟩ := hW
  have hA : DataW.TrodAll enc Tryz.prog W 0 (fun _ => true) true Tryz.f3.params.toList args.toList ds p := hA0
  rw [Tryz.params3] at hA hval
  obtain ⟨v0, vs0, d0, ds0, p0, q0, hargs, rfl, rfl, h0, tr0⟩ := trodAll_cons hA
  obtain ⟨v1, vs1, d1, ds1, p1, q1, rfl, rfl, rfl, h1, tr1⟩ := trodAll_cons tr0
  obtain ⟨v2, vs2, d2, ds2, p2, q2, rfl, rfl, rfl, h2, tr2⟩ := trodAll_cons tr1
  obtain ⟨rfl, rfl, rfl⟩ := trodAll_nil tr2
  have hargs2 : args = #[v0, v1, v2] := by cases args; simp_all
  subst hargs2
  obtain ⟨rfl, rfl⟩ := trodVars_none hV
  obtain ⟨cs0, rfl, _⟩ := okWide_struct Tryz.underlying26 (hval 0 26 v0 rfl rfl)
  obtain ⟨fu0, t0⟩ := h0
  obtain ⟨s0, tv0, pv0, gv0, e0, hr0⟩ := smp_reads t0
  have ee0 : cs0 = _ := (Array.toArray_toList (xs := cs0)).symm.trans (congrArg List.toArray e0)
  subst ee0
  obtain ⟨cs1, rfl, _⟩ := okWide_struct Tryz.underlying30 (hval 1 30 v1 rfl rfl)
  obtain ⟨fu1, t1⟩ := h1
  obtain ⟨Tb1, wv1, mv1, vv1, e1, hr1, hz1⟩ := tab_reads t1
  have ee1 : cs1 = _ := (Array.toArray_toList (xs := cs1)).symm.trans (congrArg List.toArray e1)
  subst ee1
  obtain ⟨ad2, le2, ca2, rfl⟩ := okWide_slice Tryz.underlying31 (hval 2 31 v2 rfl rfl)
  obtain ⟨fu2, t2⟩ := h2
  obtain ⟨sv2, l2, e2, hm2, hr2, hb2⟩ := ints_reads Tryz.underlying31 Tryz.underlying5 (by kernel_rfl) t2
  simp [Value.cells] at e2
  subst e2
  simp only [List.append_nil] at hW'
  refine (CnV.out (topSealed_c s0 Tb1 hz1 l2 (fun x hx => wf8 (hb2 x hx)) (lenOf hm2) tv0 pv0 gv0 wv1 mv1 vv1 _ W hr0 hr1 hr2)).mono fun e W' ⟨he, hf⟩ => ?_
  subst he
  exact ⟨_, rfl, post_na (pa := _) (pv := []) hW' (fun _ _ _ => (trodAll_cons_mk (shut_bool Tryz.underlying4 _) trodAll_mk0))
    (fun sp hsp => all_stays (ts := Tryz.f3.params.toList) laidTryz hf.below (by kernel_rfl) hA0 (fun x hx => hsp x (by simpa using hx))) (fun _ _ => rfl) (by simp)
    (hf.kept _)⟩
theorem over : Rows.topSealedRow.holds Tryz.pinned (OpenSpec.ofChange Rows.topSealedSpec) :=
  OpenClaim.holds_of_wide 3 Tryz.f3 rfl rfl rfl rfl rfl rfl rfl ⟨rfl, rfl, rfl, rfl, rfl⟩ rfl rfl rfl rfl rfl (by kernel_rfl) Tryz.func3 (by kernel_rfl)
    (of_decide_eq_true (by kernel_rfl)) (by unfold Func.isWrapper; first | (rw [if_pos (by decide +kernel)]; kernel_rfl) | (rw [if_neg (by decide +kernel)]; exact ⟨rfl, rfl⟩))
    (fun os started H enc _ => lifted os started H enc)
/-- The statement. -/
theorem proved : Rows.TopSealedSaid :=
  over
#print axioms proved
end Go.Proofs.YtobpgiiplhnahaaGreat.topSealed
