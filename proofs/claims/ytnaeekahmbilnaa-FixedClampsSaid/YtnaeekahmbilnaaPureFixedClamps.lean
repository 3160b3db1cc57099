/- FixedClamps: a number is held between two. Conditions: none beyond the statement's own. -/
import Derived.Test.YtnaeekahmbilnaaFixOver
namespace Go.Proofs.Ytnaeekahmbilnaa.Pure
open Go.RowKit Go.Proofs.Ytnaeekahmbilnaa.Fix Go.Proofs.Ytnaeekahmbilnaa.FM Go.Proofs.Ytnaeekahmbilnaa.FS Go.Proofs.YtnaeekahmbilnaaW.PrintWords Go.Proofs.YtnaeekahmbilnaaW.PrintLast Go.Proofs.YtnaeekahmbilnaaW.PrintMore

theorem FixedClamps : lysimeterlaw1_FixedClamps.Pure := by
  intro x low high _ _ _
  refine ⟨400, ?_⟩
  unfold lysimeterlaw1_FixedClamps.f
  rw [alive_eq (by omega), Option.bind_some]
  have e : fixed_Clamp.f x low high = lysimeterref1_Clamp.f x low high := rfl
  rw [← e]
  have c : ∃ c, fixed_Clamp.f x low high = some c ∧ (low ≤ high → low ≤ c ∧ c ≤ high) := by
    unfold fixed_Clamp.f
    split
    · exact ⟨_, rfl, fun h => by omega⟩
    · split
      · exact ⟨_, rfl, fun h => by omega⟩
      · exact ⟨_, rfl, fun h => by omega⟩
  obtain ⟨c, hc, h⟩ := c
  rw [hc, Option.bind_some, if_pos rfl, Option.bind_some, if_pos rfl]
  by_cases hl : low > high
  · rw [if_pos hl]
  · rw [if_neg hl, if_pos (by have := h (by omega); omega), decide_eq_true (by have := h (by omega); omega)]
end Go.Proofs.Ytnaeekahmbilnaa.Pure
