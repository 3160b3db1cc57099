/- ResamplePoints: the points of all samples and their gaps are the reference's, or the same error. Conditions: none beyond the statement's own. -/
import Derived.Test.YtdglifoakdkheaaResaRef
namespace Go.Proofs.Ytdglifoakdkheaa.Pure
open Go.RowKit Go.Proofs.Ytdglifoakdkheaa.Resa Go.Proofs.Ytdglifoakdkheaa.RS Go.Proofs.YtdglifoakdkheaaW.PrintWords Go.Proofs.YtdglifoakdkheaaW.PrintLast Go.Proofs.YtdglifoakdkheaaW.PrintMore

theorem ResamplePoints : lysimeterlaw21_ResamplePoints.Pure := by
  intro l from_ step n hm hz hw wf ws wn
  refine Ev.rounds ?_
  unfold lysimeterlaw21_ResamplePoints.f
  refine Ev.bind alive_ev ?_
  simp only [if_true]
  have out : Ev (fun k => lysimeterlaw21_ResamplePoints.j0 k l from_ step n true true) true := by
    refine Ev.step (f := fun _ => some true) (fun k => ?_) (Ev.now _)
    simp only [lysimeterlaw21_ResamplePoints.j0]; rfl
  by_cases h1 : (l.length : Int) > 1000
  · simp only [if_pos h1]; exact out
  simp only [if_neg h1]
  by_cases h2 : n > 20000
  · rw [decide_eq_true h2]; exact out
  rw [decide_eq_false h2]
  obtain ⟨p, g, x, e1, e2, e3, e4⟩ := ref_ev l (by omega) from_ step n
  refine Ev.step (f := fun k => (resample_Points.f k l from_ step n).bind fun bt180 => ((resample_Gaps.f k l from_ step n).bind fun bt184 => ((lysimeterref21_Points.f k l from_ step n).bind fun bt186 => (if bt180.2 = bt186.2.2 then (if bt184.2 = bt186.2.2 then ((lysimeterlaw6_SameInts.f k bt180.1 bt186.1).bind fun t193 => (if t193 = true then (some (bt184.1 == bt186.2.1)) else (some false))) else (some false)) else (some false))))) (fun k => ?_) ?_
  · simp only [lysimeterlaw21_ResamplePoints.j0, lysimeterlaw21_num.f, Option.bind_some]
    rw [if_neg (by decide)]
  · refine Ev.bind e2 (Ev.bind e3 (Ev.bind e1 ?_))
    simp only [if_true]
    refine Ev.bind (same_ev p (by omega)) ?_
    simpa using Ev.now true
end Go.Proofs.Ytdglifoakdkheaa.Pure
