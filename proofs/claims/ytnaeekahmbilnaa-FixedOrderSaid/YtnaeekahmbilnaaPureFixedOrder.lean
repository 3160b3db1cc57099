/- FixedOrder: sums, differences, products and quotients go the way of their parts. Conditions: none beyond the statement's own. -/
import Derived.Test.YtnaeekahmbilnaaFixOver
namespace Go.Proofs.Ytnaeekahmbilnaa.Pure
open Go.RowKit Go.Proofs.Ytnaeekahmbilnaa.Fix Go.Proofs.Ytnaeekahmbilnaa.FM Go.Proofs.Ytnaeekahmbilnaa.FS Go.Proofs.YtnaeekahmbilnaaW.PrintWords Go.Proofs.YtnaeekahmbilnaaW.PrintLast Go.Proofs.YtnaeekahmbilnaaW.PrintMore

theorem ord (a b c : Int) (ha : In a) (hb : In b) (hc : In c) (hab : a ≤ b) (k : Nat) (hk : 402 ≤ k) : lysimeterlaw1_FixedOrder.j0 k a b c true = some true := by
  obtain ⟨k, rfl⟩ : ∃ m, k = m + 2 := ⟨k - 2, by omega⟩
  have key : ∀ up : Int, In up → 0 ≤ up → lysimeterlaw1_FixedOrder.j1 (k + 1) a b c true up = some true := by
    intro up hu h0
    simp only [lysimeterlaw1_FixedOrder.j1]
    have m1 : sat (a + c) ≤ sat (b + c) := sat_mono (by omega)
    have m2 : sat (c - b) ≤ sat (c - a) := sat_mono (by omega)
    have m3 : sat (a * up / 4294967296) ≤ sat (b * up / 4294967296) := sat_mono (Int.ediv_le_ediv (by decide) (Int.mul_le_mul_of_nonneg_right hab h0))
    rw [if_pos trivial, add_eq (by omega) ha hc, Option.bind_some, add_eq (by omega) hb hc, Option.bind_some, if_pos m1, sub_eq (by omega) hc ha, Option.bind_some, sub_eq (by omega) hc hb, Option.bind_some, if_pos m2, mul_eq (by omega) ha hu, Option.bind_some, mul_eq (by omega) hb hu, Option.bind_some, if_pos m3]
    have m4 : a / 4294967296 ≤ b / 4294967296 := Int.ediv_le_ediv (by decide) hab
    by_cases hz : up = 0
    · rw [if_pos hz, floor_eq, Option.bind_some, floor_eq, Option.bind_some, decide_eq_true m4]
    · have hp : 0 < up := by omega
      have m5 : sat (a * 4294967296 / up) ≤ sat (b * 4294967296 / up) := sat_mono (Int.ediv_le_ediv hp (by omega))
      rw [if_neg hz, div_eq (by omega) ha hu, Option.bind_some, div_eq (by omega) hb hu, Option.bind_some, divS_pos hp, divS_pos hp, if_pos m5, floor_eq, Option.bind_some, floor_eq, Option.bind_some, decide_eq_true m4]
  simp only [lysimeterlaw1_FixedOrder.j0]
  by_cases h : c < 0
  · rw [if_pos h, neg_eq (by omega) hc, Option.bind_some]
    exact key _ (in_sat _) (by have := hc.1; unfold sat; repeat' split
                               all_goals omega)
  · rw [if_neg h]
    exact key _ hc (by omega)
theorem FixedOrder : lysimeterlaw1_FixedOrder.Pure := by
  intro a b c wa wb wc
  have ha := i64_of_wf wa
  have hb := i64_of_wf wb
  have hc := i64_of_wf wc
  refine ⟨500, ?_⟩
  unfold lysimeterlaw1_FixedOrder.f
  rw [alive_eq (by omega), Option.bind_some]
  by_cases h : a > b
  · rw [if_pos h]; exact ord b a c hb ha hc (by omega) 500 (by omega)
  · rw [if_neg h]; exact ord a b c ha hb hc (by omega) 500 (by omega)
end Go.Proofs.Ytnaeekahmbilnaa.Pure
