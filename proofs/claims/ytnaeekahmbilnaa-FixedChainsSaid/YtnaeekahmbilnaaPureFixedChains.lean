/- FixedChains: a sum of many, cut at each step, never leaves the bounds, and n times a small number is its product by n. Conditions: none beyond the statement's own. -/
import Derived.Test.YtnaeekahmbilnaaFixOver
namespace Go.Proofs.Ytnaeekahmbilnaa.Pure
open Go.RowKit Go.Proofs.Ytnaeekahmbilnaa.Fix Go.Proofs.Ytnaeekahmbilnaa.FM Go.Proofs.Ytnaeekahmbilnaa.FS Go.Proofs.YtnaeekahmbilnaaW.PrintWords Go.Proofs.YtnaeekahmbilnaaW.PrintLast Go.Proofs.YtnaeekahmbilnaaW.PrintMore

theorem chain_step (x i : Int) (hi : 0 ≤ i) (hx : In x) : sat (sat (i * x) + x) = sat ((i + 1) * x) := by
  obtain ⟨x0, x1⟩ := hx
  have e : (i + 1) * x = i * x + x := by grind
  rw [e]
  rcases Int.le_total 0 x with h | h
  · have := Int.mul_nonneg hi h
    unfold sat
    repeat' split
    all_goals omega
  · have : i * x ≤ 0 := by
      have := Int.mul_nonneg hi (show 0 ≤ -x by omega)
      rw [Int.mul_neg] at this; omega
    unfold sat
    repeat' split
    all_goals omega
theorem chain_l0 (x n : Int) (hx : In x) (_hn0 : 0 ≤ n) (hn : n ≤ 1000) (d : Nat) : ∀ (k : Nat) (i : Int), 0 ≤ i → i + d = n → 402 + d ≤ k → lysimeterlaw1_FixedChains.l0 k x n (sat (i * x)) i = some true := by
  induction d with
  | zero =>
    intro k i h0 hd hk
    obtain ⟨k, rfl⟩ : ∃ m, k = m + 1 := ⟨k - 1, by omega⟩
    simp only [lysimeterlaw1_FixedChains.l0]
    have hIn : In n := ⟨by omega, by omega⟩
    rw [if_neg (by omega), of_eq hIn, Option.bind_some, sat_id (by omega) (by omega), mul_eq (by omega) hx ⟨by omega, by omega⟩, Option.bind_some]
    have e : x * (n * 4294967296) / 4294967296 = i * x := by
      have : x * (n * 4294967296) = n * x * 4294967296 := by grind
      rw [this, Int.mul_ediv_cancel _ (by decide), show n = i by omega]
    rw [e, if_pos rfl]
  | succ d ih =>
    intro k i h0 hd hk
    obtain ⟨k, rfl⟩ : ∃ m, k = m + 1 := ⟨k - 1, by omega⟩
    have next := ih k (i + 1) (by omega) (by omega) (by omega)
    simp only [lysimeterlaw1_FixedChains.l0]
    rw [if_pos (by omega), add_eq (by omega) (in_sat _) hx, Option.bind_some, chain_step x i h0 hx, wrap64_id (by omega) (by omega)]
    have e : (i + 1) * x = i * x + x := by grind
    by_cases h1 : x > 0
    · rw [if_pos h1, if_neg (by have := sat_mono (show i * x ≤ (i + 1) * x by omega); omega), if_neg (by omega)]
      exact next
    · rw [if_neg h1]
      by_cases h2 : x < 0
      · rw [if_pos h2, if_neg (by have := sat_mono (show (i + 1) * x ≤ i * x by omega); omega)]
        exact next
      · rw [if_neg h2]
        exact next
theorem FixedChains : lysimeterlaw1_FixedChains.Pure := by
  intro x n wx wn
  have hx := i64_of_wf wx
  refine ⟨2000, ?_⟩
  unfold lysimeterlaw1_FixedChains.f
  have out : lysimeterlaw1_FixedChains.j0 2000 x n true true = some true := by simp only [lysimeterlaw1_FixedChains.j0]; rfl
  rw [alive_eq (by omega), Option.bind_some, if_pos rfl]
  by_cases h1 : n < 0
  · rw [if_pos h1]; exact out
  rw [if_neg h1]
  by_cases h2 : n > 1000
  · rw [decide_eq_true h2]; exact out
  rw [decide_eq_false h2]
  simp only [lysimeterlaw1_FixedChains.j0]
  rw [if_neg (by decide)]
  have := chain_l0 x n hx (by omega) (by omega) n.toNat 1999 0 (by omega) (by omega) (by omega)
  simpa [sat] using this
end Go.Proofs.Ytnaeekahmbilnaa.Pure
