/- SeasonCasts: what comes of all points as a season ago, and how much that missed, is the reference's, or the same error. Conditions: none beyond the statement's own. -/
import Derived.Test.YtdglifoakdkheaaSeasSpec
namespace Go.Proofs.Ytdglifoakdkheaa.Pure
open Go.RowKit Go.Proofs.Ytdglifoakdkheaa.Seas Go.Proofs.Ytdglifoakdkheaa.SS Go.Proofs.YtdglifoakdkheaaW.PrintWords Go.Proofs.YtdglifoakdkheaaW.PrintLast Go.Proofs.YtdglifoakdkheaaW.PrintMore

theorem SeasonCasts : lysimeterlaw22_SeasonCasts.Pure := by
  intro l s ahead last hm hz hw ws wa wl
  refine Ev.rounds ?_
  unfold lysimeterlaw22_SeasonCasts.f
  simp only [alive_eq, Option.bind_some, if_true]
  by_cases h1 : (l.length : Int) > 2000
  · rw [decide_eq_true h1]
    refine Ev.step (f := fun _ => some true) (fun k => ?_) (Ev.now _)
    simp only [lysimeterlaw22_SeasonCasts.j0]; rfl
  rw [decide_eq_false h1]
  have hl : l.length ≤ 1152921504606846976 := by omega
  refine Ev.step (f := fun k => (season_Miss.f k l s last).bind fun bt136 => ((lysimeterref21_NaiveMiss.f k l s last).bind fun bt138 => (if bt136.2 = bt138.2 then (some (bt136.1 == bt138.1)) else (some false)))) (fun k => ?_) ?_
  · simp only [lysimeterlaw22_SeasonCasts.j0, cast_eq l hl, naive_eq l hl, lysimeterlaw22_num.f, Option.bind_some]
    rw [if_neg (by decide)]
    simp
  · refine Ev.bind (miss_ev l hl (allIn_of hw) s last (i64_of_wf ws) (i64_of_wf wl)) (Ev.bind (rmiss_ev l hl (allIn_of hw) s last (i64_of_wf ws) (i64_of_wf wl)) ?_)
    simpa using Ev.now true
end Go.Proofs.Ytdglifoakdkheaa.Pure
