/- FixedSums: every sum, difference and opposite of package fixed is the reference's. Conditions: none beyond the statement's own. -/
import Derived.Test.YtnaeekahmbilnaaFixOver
namespace Go.Proofs.Ytnaeekahmbilnaa.Pure
open Go.RowKit Go.Proofs.Ytnaeekahmbilnaa.Fix Go.Proofs.Ytnaeekahmbilnaa.FM Go.Proofs.Ytnaeekahmbilnaa.FS Go.Proofs.YtnaeekahmbilnaaW.PrintWords Go.Proofs.YtnaeekahmbilnaaW.PrintLast Go.Proofs.YtnaeekahmbilnaaW.PrintMore

theorem FixedSums : lysimeterlaw1_FixedSums.Pure := by
  intro a b wa wb
  have ha := i64_of_wf wa
  have hb := i64_of_wf wb
  refine ⟨400, ?_⟩
  unfold lysimeterlaw1_FixedSums.f
  rw [alive_eq (by omega), Option.bind_some, if_pos rfl, add_eq (by omega) ha hb, Option.bind_some, radd_eq (by omega) ha hb, Option.bind_some, if_pos rfl, sub_eq (by omega) ha hb, Option.bind_some, rsub_eq (by omega) ha hb, Option.bind_some, if_pos rfl, neg_eq (by omega) ha, Option.bind_some, rneg_eq ha, Option.bind_some]
  simp
end Go.Proofs.Ytnaeekahmbilnaa.Pure
