/- FixedTurns: sums and products are the same either way round, one changes nothing, and what is divided comes back by the product. Conditions: none beyond the statement's own. -/
import Derived.Test.YtnaeekahmbilnaaFixOver
namespace Go.Proofs.Ytnaeekahmbilnaa.Pure
open Go.RowKit Go.Proofs.Ytnaeekahmbilnaa.Fix Go.Proofs.Ytnaeekahmbilnaa.FM Go.Proofs.Ytnaeekahmbilnaa.FS Go.Proofs.YtnaeekahmbilnaaW.PrintWords Go.Proofs.YtnaeekahmbilnaaW.PrintLast Go.Proofs.YtnaeekahmbilnaaW.PrintMore

theorem turns_j1 (a b : Int) (ha : In a) (hb : In b) (k : Nat) (hk : 402 ≤ k) (b0 : 1048576 ≤ b) (b1 : b ≤ 1099511627776) (a0 : -1125899906842624 ≤ a) (a1 : a ≤ 1125899906842624) : lysimeterlaw1_FixedTurns.j1 k a b false = some true := by
  obtain ⟨k, rfl⟩ : ∃ m, k = m + 1 := ⟨k - 1, by omega⟩
  simp only [lysimeterlaw1_FixedTurns.j1]
  have hp : 0 < b := by omega
  have g1 := Int.emod_add_mul_ediv (a * 4294967296) b
  have g2 := Int.emod_nonneg (a * 4294967296) (show b ≠ 0 by omega)
  have g3 := Int.emod_lt_of_pos (a * 4294967296) hp
  have c1 := Int.emod_add_mul_ediv (-(a * 4294967296)) b
  have c2 := Int.emod_nonneg (-(a * 4294967296)) (show b ≠ 0 by omega)
  have c3 := Int.emod_lt_of_pos (-(a * 4294967296)) hp
  rw [if_neg (by decide), div_eq (by omega) ha hb, Option.bind_some, cdiv_eq (by omega) ha hb, Option.bind_some, divS_pos hp, cdivS_pos hp]
  obtain ⟨q, hq⟩ : ∃ q, a * 4294967296 / b = q := ⟨_, rfl⟩
  obtain ⟨m, hm⟩ : ∃ m, -(a * 4294967296) / b = m := ⟨_, rfl⟩
  have q0 : -4611686018427387904 ≤ q := by rw [← hq]; exact (Int.le_ediv_iff_mul_le hp).2 (by have := Int.mul_le_mul_of_nonneg_left b0 (show (0 : Int) ≤ 4611686018427387904 by decide); omega)
  have q1 : q ≤ 4611686018427387904 := by
    have : q < 4611686018427387905 := by rw [← hq]; exact (Int.ediv_lt_iff_lt_mul hp).2 (by omega)
    omega
  rw [hq] at g1
  rw [hm] at c1
  rw [hq, hm, sat_id (by omega) (by omega)]
  -- r = -m is q or q + 1
  have s1 : (q + m) * b = b * q + b * m := by grind
  have s2 : q + m ≤ 0 := by
    rcases Int.lt_or_le 0 (q + m) with h | h
    · have := Int.mul_le_mul_of_nonneg_right (show 1 ≤ q + m by omega) (show 0 ≤ b by omega)
      omega
    · exact h
  have s3 : -1 ≤ q + m := by
    rcases Int.lt_or_le (q + m) (-1) with h | h
    · have := Int.mul_le_mul_of_nonneg_right (show q + m ≤ -2 by omega) (show 0 ≤ b by omega)
      omega
    · exact h
  rw [sat_id (by omega) (by omega)]
  have t1 : q * b = b * q := Int.mul_comm _ _
  have t2 : -m * b = -(b * m) := by grind
  have hIq : In q := ⟨by omega, by omega⟩
  have hIm : In (-m) := ⟨by omega, by omega⟩
  rw [mul_eq (by omega) hIq hb, Option.bind_some, sat_id (by omega) (by omega), if_pos (by omega), if_pos (by omega), wrap64_id (by omega) (by omega), if_pos (by omega), mul_eq (by omega) hIm hb, Option.bind_some, sat_id (by omega) (by omega), wrap64_id (by omega) (by omega), decide_eq_true (by omega)]
theorem turns_j0 (a b : Int) (ha : In a) (hb : In b) (k : Nat) (hk : 404 ≤ k) : lysimeterlaw1_FixedTurns.j0 k a b false = some true := by
  obtain ⟨k, rfl⟩ : ∃ m, k = m + 2 := ⟨k - 2, by omega⟩
  have out : lysimeterlaw1_FixedTurns.j1 (k + 1) a b true = some true := by simp only [lysimeterlaw1_FixedTurns.j1]; rfl
  simp only [lysimeterlaw1_FixedTurns.j0]
  rw [if_neg (by decide)]
  by_cases h1 : b < 1048576
  · rw [if_pos h1]; exact out
  rw [if_neg h1]
  by_cases h2 : b > 1099511627776
  · rw [if_pos h2]; exact out
  rw [if_neg h2]
  by_cases h3 : a > 1125899906842624
  · rw [if_pos h3]; exact out
  rw [if_neg h3]
  by_cases h4 : a < -1125899906842624
  · rw [decide_eq_true h4]; exact out
  rw [decide_eq_false h4]
  exact turns_j1 a b ha hb (k + 1) (by omega) (by omega) (by omega) (by omega) (by omega)
theorem FixedTurns : lysimeterlaw1_FixedTurns.Pure := by
  intro a b wa wb
  have ha := i64_of_wf wa
  have hb := i64_of_wf wb
  have a0 := ha.1
  have a1 := ha.2
  refine ⟨500, ?_⟩
  unfold lysimeterlaw1_FixedTurns.f
  have e1 : sat (b + a) = sat (a + b) := by rw [Int.add_comm]
  have e2 : sat (b * a / 4294967296) = sat (a * b / 4294967296) := by rw [Int.mul_comm]
  have h1 : In 4294967296 := in_lit rfl rfl
  have h0 : In 0 := in_lit rfl rfl
  have e3 : sat (a * 4294967296 / 4294967296) = a := by rw [sat_id (by omega) (by omega)]; omega
  have e4 : divS a 4294967296 = a := by rw [divS_pos (by decide), sat_id (by omega) (by omega)]; omega
  have e5 : sat (a * 0 / 4294967296) = 0 := by rw [Int.mul_zero]; rfl
  rw [alive_eq (by omega), Option.bind_some, if_pos rfl, add_eq (by omega) ha hb, Option.bind_some, add_eq (by omega) hb ha, Option.bind_some, e1, if_pos rfl, mul_eq (by omega) ha hb, Option.bind_some, mul_eq (by omega) hb ha, Option.bind_some, e2, if_pos rfl, mul_eq (by omega) ha h1, Option.bind_some, e3, if_pos rfl, div_eq (by omega) ha h1, Option.bind_some, e4, if_pos rfl, mul_eq (by omega) ha h0, Option.bind_some, e5]
  exact turns_j0 a b ha hb 500 (by omega)
end Go.Proofs.Ytnaeekahmbilnaa.Pure
