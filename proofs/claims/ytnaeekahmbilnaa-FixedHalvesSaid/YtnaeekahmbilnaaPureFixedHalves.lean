/- FixedHalves: half of a number, and half of the rest, are the number. Conditions: none beyond the statement's own. -/
import Derived.Test.YtnaeekahmbilnaaFixOver
namespace Go.Proofs.Ytnaeekahmbilnaa.Pure
open Go.RowKit Go.Proofs.Ytnaeekahmbilnaa.Fix Go.Proofs.Ytnaeekahmbilnaa.FM Go.Proofs.Ytnaeekahmbilnaa.FS Go.Proofs.YtnaeekahmbilnaaW.PrintWords Go.Proofs.YtnaeekahmbilnaaW.PrintLast Go.Proofs.YtnaeekahmbilnaaW.PrintMore

theorem FixedHalves : lysimeterlaw1_FixedHalves.Pure := by
  intro x wx
  have hx := i64_of_wf wx
  refine ⟨400, ?_⟩
  unfold lysimeterlaw1_FixedHalves.f
  have e2 : lysimeterref1_Of.f 2 = some 8589934592 := by rw [rof_eq (in_lit rfl rfl)]; rfl
  have h8 : In 8589934592 := in_lit rfl rfl
  have a1 := hx.1
  have a2 := hx.2
  have f1 : sat (x * 2147483648 / 4294967296) = x / 2 := by rw [sat_id (by omega) (by omega)]; omega
  have f2 : divS x 8589934592 = x / 2 := by rw [divS_pos (by decide), sat_id (by omega) (by omega)]; omega
  have f3 : cdivS x 8589934592 = -(-x / 2) := by rw [cdivS_pos (by decide), sat_id (by omega) (by omega)]; omega
  rw [alive_eq (by omega), Option.bind_some, mul_eq (by omega) hx (in_lit rfl rfl), Option.bind_some, e2, Option.bind_some, div_eq (by omega) hx h8, Option.bind_some, Option.bind_some, cdiv_eq (by omega) hx h8, Option.bind_some, if_pos rfl, f1, f2, if_pos rfl, if_pos rfl, f3, and_i64_one]
  rw [if_pos (by rw [wrap64_id (by omega) (by omega)]; omega), add_eq (by omega) ⟨by omega, by omega⟩ ⟨by omega, by omega⟩, Option.bind_some, sat_id (by omega) (by omega)]
  rw [Option.some.injEq, beq_iff_eq]
  omega
end Go.Proofs.Ytnaeekahmbilnaa.Pure
