-- Laid together by wip/shake.py out of: PureHoltCasts
import Derived.Test.YtemnfnbjapobcaaHoltCastsm9
section
namespace Go.Proofs.Ytemnfnbjapobcaa.Pure
open Go.RowKit Go.Proofs.Ytemnfnbjapobcaa.Hp Go.Proofs.YtemnfnbjapobcaaW.PrintWords Go.Proofs.YtemnfnbjapobcaaW.PrintLast
open Go.Proofs.Ytemnfnbjapobcaa.HS
theorem holt_alive : lysimeterlaw23_alive.f (50 + 1) = some true := by decide +kernel
theorem HoltCasts : lysimeterlaw23_HoltCasts.Pure := by
  intro l0 n a b c ahead last _ _ hl w0 w1 w2 w3 w4 w5
  have hin : AllIn l0 := fun x hx => FM.i64_of_wf (hl x hx)
  refine ⟨50 + 1, ?_⟩
  unfold lysimeterlaw23_HoltCasts.f
  rw [holt_alive]
  simp only [Option.bind_some, if_true]
  by_cases h : (l0.length : Int) > 1000
  · simp only [lysimeterlaw23_HoltCasts.j0, decide_eq_true h, if_true]
  · have g1 : (okL l0 && InB n && InB ahead) = true := by
      simp only [Bool.and_eq_true, okL_iff, inB_iff]
      exact ⟨⟨⟨hin, by omega⟩, FM.i64_of_wf w0⟩, FM.i64_of_wf w4⟩
    have g2 : (okL l0 && InB n && InB last) = true := by
      simp only [Bool.and_eq_true, okL_iff, inB_iff]
      exact ⟨⟨⟨hin, by omega⟩, FM.i64_of_wf w0⟩, FM.i64_of_wf w5⟩
    simp only [lysimeterlaw23_HoltCasts.j0, decide_eq_false h, Bool.false_eq_true, if_false, holt_Check.f, lysimeterref21_CheckModel.f, holt_Cast.f, lysimeterref21_Holt.f, holt_Miss.f, lysimeterref21_HoltMiss.f, lysimeterlaw23_num.f, g1, g2, if_true, Option.bind_some, beq_self_eq_true]
end Go.Proofs.Ytemnfnbjapobcaa.Pure
end
