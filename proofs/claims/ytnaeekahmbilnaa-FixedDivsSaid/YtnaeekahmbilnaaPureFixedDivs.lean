/- FixedDivs: every quotient of package fixed, rounded down and up, is the reference's. Conditions: none beyond the statement's own. -/
import Derived.Test.YtnaeekahmbilnaaFixOver
namespace Go.Proofs.Ytnaeekahmbilnaa.Pure
open Go.RowKit Go.Proofs.Ytnaeekahmbilnaa.Fix Go.Proofs.Ytnaeekahmbilnaa.FM Go.Proofs.Ytnaeekahmbilnaa.FS Go.Proofs.YtnaeekahmbilnaaW.PrintWords Go.Proofs.YtnaeekahmbilnaaW.PrintLast Go.Proofs.YtnaeekahmbilnaaW.PrintMore

theorem FixedDivs : lysimeterlaw1_FixedDivs.Pure := by
  intro a b wa wb
  have ha := i64_of_wf wa
  have hb := i64_of_wf wb
  refine ⟨400, ?_⟩
  unfold lysimeterlaw1_FixedDivs.f
  rw [alive_eq (by omega), Option.bind_some, if_pos rfl, div_eq (by omega) ha hb, Option.bind_some, rdiv_eq (by omega) ha hb, Option.bind_some, if_pos rfl, cdiv_eq (by omega) ha hb, Option.bind_some, rcdiv_eq (by omega) ha hb, Option.bind_some]
  simp
end Go.Proofs.Ytnaeekahmbilnaa.Pure
