/- FixedCeils: the whole number that is not below a quotient, times what it was divided by, is enough, and one less is not. Conditions: none beyond the statement's own. -/
import Derived.Test.YtnaeekahmbilnaaFixOver
namespace Go.Proofs.Ytnaeekahmbilnaa.Pure
open Go.RowKit Go.Proofs.Ytnaeekahmbilnaa.Fix Go.Proofs.Ytnaeekahmbilnaa.FM Go.Proofs.Ytnaeekahmbilnaa.FS Go.Proofs.YtnaeekahmbilnaaW.PrintWords Go.Proofs.YtnaeekahmbilnaaW.PrintLast Go.Proofs.YtnaeekahmbilnaaW.PrintMore

theorem FixedCeils : lysimeterlaw1_FixedCeils.Pure := by
  intro load per wl wp
  have hl := i64_of_wf wl
  have hp := i64_of_wf wp
  refine ⟨500, ?_⟩
  unfold lysimeterlaw1_FixedCeils.f
  rw [alive_eq (by omega), Option.bind_some, if_pos rfl]
  have out : lysimeterlaw1_FixedCeils.j0 500 load per true true = some true := by simp only [lysimeterlaw1_FixedCeils.j0]; rfl
  by_cases h1 : load < 0
  · rw [if_pos h1]; exact out
  rw [if_neg h1]
  by_cases h2 : load > 1125899906842624
  · rw [if_pos h2]; exact out
  rw [if_neg h2]
  by_cases h3 : per < 1
  · rw [if_pos h3]; exact out
  rw [if_neg h3]
  by_cases h4 : per > 1099511627776
  · rw [decide_eq_true h4]; exact out
  rw [decide_eq_false h4]
  simp only [lysimeterlaw1_FixedCeils.j0]
  rw [if_neg (by decide), if_neg (by omega)]
  have ht : load.tdiv per = load / per := Int.tdiv_eq_ediv_of_nonneg (by omega)
  have hpp : 0 < per := by omega
  have d0 : 0 ≤ load / per := Int.ediv_nonneg (by omega) (by omega)
  have d1 : load / per ≤ load := Int.ediv_le_self _ (by omega)
  rw [ht, wrap64_id (by omega) (by omega)]
  by_cases h5 : load / per > 1048576
  · rw [if_pos h5]
  rw [if_neg h5, cdiv_eq (by omega) hl hp, Option.bind_some, ceil_eq (in_cdivS _ _), Option.bind_some, cdivS_pos hpp]
  -- the quotient, rounded up: c
  have g1 := Int.emod_add_mul_ediv (-(load * 4294967296)) per
  have g2 := Int.emod_nonneg (-(load * 4294967296)) (show per ≠ 0 by omega)
  have g3 := Int.emod_lt_of_pos (-(load * 4294967296)) hpp
  have g4 := Int.emod_add_mul_ediv load per
  have g5 := Int.emod_nonneg load (show per ≠ 0 by omega)
  have g6 := Int.emod_lt_of_pos load hpp
  obtain ⟨m, hm⟩ : ∃ m, -(load * 4294967296) / per = m := ⟨_, rfl⟩
  obtain ⟨e, he⟩ : ∃ e, load / per = e := ⟨_, rfl⟩
  rw [hm] at g1 ⊢
  rw [he] at g4 d0 d1 h5
  have m0 : m ≤ 0 := by
    rw [← hm]
    have : -(load * 4294967296) / per ≤ 0 / per := Int.ediv_le_ediv hpp (by omega)
    simpa using this
  have m1 : -((e + 1) * 4294967296) ≤ m := by
    rw [← hm]
    refine (Int.le_ediv_iff_mul_le hpp).2 ?_
    have : -((e + 1) * 4294967296) * per = -((per * e + per) * 4294967296) := by grind
    omega
  rw [sat_id (by omega) (by omega), Int.neg_neg]
  -- the whole number: n
  obtain ⟨n, hn⟩ : ∃ n, -(m / 4294967296) = n := ⟨_, rfl⟩
  rw [hn]
  have n0 : 0 ≤ n := by omega
  have n1 : n ≤ e + 1 := by omega
  have p0 : 0 ≤ n * per := Int.mul_nonneg n0 (by omega)
  have p1 : n * per ≤ 1048577 * 1099511627776 := Int.mul_le_mul (by omega) (by omega) (by omega) (by decide)
  have q1 : (n - 1) * per = n * per - per := by grind
  -- n * 2^32 is not below -m, and n - 1 is below
  have r1 : -m * per ≤ n * 4294967296 * per := Int.mul_le_mul_of_nonneg_right (by omega) (by omega)
  have r2 : n * 4294967296 * per = n * per * 4294967296 := by grind
  have r3 : -m * per = -(per * m) := by grind
  have r4 : n = 0 ∨ (n - 1) * 4294967296 * per ≤ (-m - 1) * per := by
    by_cases hz : n = 0
    · exact .inl hz
    · exact .inr (Int.mul_le_mul_of_nonneg_right (by omega) (by omega))
  have r5 : (n - 1) * 4294967296 * per = (n - 1) * per * 4294967296 := by grind
  have r6 : (-m - 1) * per = -(per * m) - per := by grind
  rw [if_pos n0, wrap64_id (by omega) (by omega), if_pos (by omega)]
  by_cases hz : n = 0
  · rw [if_pos hz]
  · rw [if_neg hz, wrap64_id (show _ ≤ n - 1 by omega) (by omega), wrap64_id (by omega) (by omega), decide_eq_true (by omega)]
end Go.Proofs.Ytnaeekahmbilnaa.Pure
