/- FixedWholes: whole numbers and fixed-point numbers go to one another as in the reference. Conditions: none beyond the statement's own. -/
import Derived.Test.YtnaeekahmbilnaaFixOver
namespace Go.Proofs.Ytnaeekahmbilnaa.Pure
open Go.RowKit Go.Proofs.Ytnaeekahmbilnaa.Fix Go.Proofs.Ytnaeekahmbilnaa.FM Go.Proofs.Ytnaeekahmbilnaa.FS Go.Proofs.YtnaeekahmbilnaaW.PrintWords Go.Proofs.YtnaeekahmbilnaaW.PrintLast Go.Proofs.YtnaeekahmbilnaaW.PrintMore

theorem FixedWholes : lysimeterlaw1_FixedWholes.Pure := by
  intro a wa
  have ha := i64_of_wf wa
  refine ⟨400, ?_⟩
  unfold lysimeterlaw1_FixedWholes.f
  rw [alive_eq (by omega), Option.bind_some, if_pos rfl, of_eq ha, Option.bind_some, rof_eq ha, Option.bind_some, if_pos rfl, floor_eq, Option.bind_some, rfloor_eq, Option.bind_some, if_pos rfl, ceil_eq ha, Option.bind_some, rceil_eq ha, Option.bind_some]
  simp
end Go.Proofs.Ytnaeekahmbilnaa.Pure
