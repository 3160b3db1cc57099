/- math/bits.Div64 tells the quotient and the rest. -/
import Derived.Test.YtnaeekahmbilnaaFixSpec
namespace Go.Proofs.Ytnaeekahmbilnaa.FS
open Go.RowKit Go.Proofs.Ytnaeekahmbilnaa.Fix Go.Proofs.Ytnaeekahmbilnaa.FM Go.Proofs.YtnaeekahmbilnaaW.PrintWords Go.Proofs.YtnaeekahmbilnaaW.PrintLast Go.Proofs.YtnaeekahmbilnaaW.PrintMore

/-- What is known at the head of the loop that seeks a digit: u (of three halves: un32 and un1) by y. -/
structure Dig (y yn1 yn0 un32 un1 q r : Int) : Prop where
  hy : y = yn1 * 4294967296 + yn0
  hn1 : 2147483648 ≤ yn1
  hn1' : yn1 < 4294967296
  hn0 : 0 ≤ yn0
  hn0' : yn0 < 4294967296
  hu : 0 ≤ un32
  huy : un32 < y
  h1 : 0 ≤ un1
  h1' : un1 < 4294967296
  q0 : 0 ≤ q
  q1 : q ≤ 4294967297
  rr : q * yn1 + r = un32
  r0 : 0 ≤ r
  r1 : r < 4294967296
  up : un32 * 4294967296 + un1 < q * y + y

theorem Dig.qy {y yn1 yn0 un32 un1 q r : Int} (h : Dig y yn1 yn0 un32 un1 q r) : q * y = (un32 - r) * 4294967296 + q * yn0 := by
  have a := h.hy
  have b := h.rr
  rw [a]; grind
theorem Dig.ypos {y yn1 yn0 un32 un1 q r : Int} (h : Dig y yn1 yn0 un32 un1 q r) : 0 < y := by
  have a := h.hy; have b := h.hn1; have c := h.hn0; omega
/-- The test says no: the digit is right. -/
theorem Dig.no {y yn1 yn0 un32 un1 q r : Int} (h : Dig y yn1 yn0 un32 un1 q r) (hc : q * yn0 ≤ 4294967296 * r + un1) : q = (un32 * 4294967296 + un1) / y := by
  have hq := h.qy
  have h1 : q ≤ (un32 * 4294967296 + un1) / y := (Int.le_ediv_iff_mul_le h.ypos).2 (by omega)
  have h2 : (un32 * 4294967296 + un1) / y < q + 1 := (Int.ediv_lt_iff_lt_mul h.ypos).2 (by
    have := h.up
    have e : (q + 1) * y = q * y + y := by grind
    omega)
  omega
/-- The test says yes: the digit is too great. -/
theorem Dig.yes {y yn1 yn0 un32 un1 q r : Int} (h : Dig y yn1 yn0 un32 un1 q r) (hc : 4294967296 ≤ q ∨ 4294967296 * r + un1 < q * yn0) : un32 * 4294967296 + un1 < q * y ∧ 1 ≤ q := by
  have hy := h.ypos
  have a1 := h.huy; have a2 := h.h1'; have a3 := h.hu; have a4 := h.h1
  have key : un32 * 4294967296 + un1 < q * y := by
    rcases hc with hc | hc
    · have := Int.mul_le_mul_of_nonneg_right hc (Int.le_of_lt hy)
      omega
    · have hq := h.qy
      omega
  refine ⟨key, ?_⟩
  by_cases hz : q ≤ 0
  · have hq0 := h.q0
    obtain rfl : q = 0 := by omega
    omega
  · omega
theorem Dig.next {y yn1 yn0 un32 un1 q r : Int} (h : Dig y yn1 yn0 un32 un1 q r) (hc : 4294967296 ≤ q ∨ 4294967296 * r + un1 < q * yn0) (hr : r + yn1 < 4294967296) : Dig y yn1 yn0 un32 un1 (q - 1) (r + yn1) := by
  obtain ⟨k1, k2⟩ := h.yes hc
  have e1 : (q - 1) * y = q * y - y := by grind
  have e2 : (q - 1) * yn1 = q * yn1 - yn1 := by grind
  exact { h with q0 := by omega, q1 := by have := h.q1; omega, rr := by have := h.rr; omega, r0 := by have := h.r0; have := h.hn1; omega, r1 := hr, up := by omega }
theorem Dig.stop {y yn1 yn0 un32 un1 q r : Int} (h : Dig y yn1 yn0 un32 un1 q r) (hc : 4294967296 ≤ q ∨ 4294967296 * r + un1 < q * yn0) (hr : 4294967296 ≤ r + yn1) : q - 1 = (un32 * 4294967296 + un1) / y := by
  obtain ⟨k1, k2⟩ := h.yes hc
  have hq := h.qy
  have e1 : (q - 1) * y = q * y - y := by grind
  have e3 : (q - 1) * yn0 = q * yn0 - yn0 := by grind
  have hm : (q - 1) * yn0 ≤ 4294967296 * 4294967295 := Int.mul_le_mul (by have := h.q1; omega) (by have := h.hn0'; omega) h.hn0 (by decide)
  have a1 := h.hy; have a2 := h.h1
  have h1 : q - 1 ≤ (un32 * 4294967296 + un1) / y := (Int.le_ediv_iff_mul_le h.ypos).2 (by omega)
  have h2 : (un32 * 4294967296 + un1) / y < q := (Int.ediv_lt_iff_lt_mul h.ypos).2 (by omega)
  omega
theorem Dig.start {y yn1 yn0 un32 un1 : Int} (hy : y = yn1 * 4294967296 + yn0) (hn1 : 2147483648 ≤ yn1) (hn1' : yn1 < 4294967296) (hn0 : 0 ≤ yn0) (hn0' : yn0 < 4294967296) (hu : 0 ≤ un32) (huy : un32 < y) (h1 : 0 ≤ un1) (h1' : un1 < 4294967296) :
    Dig y yn1 yn0 un32 un1 (un32 / yn1) (un32 - un32 / yn1 * yn1) := by
  have hp : 0 < yn1 := by omega
  have d1 := Int.emod_add_mul_ediv un32 yn1
  have d2 := Int.emod_nonneg un32 (show yn1 ≠ 0 by omega)
  have d3 := Int.emod_lt_of_pos un32 hp
  have e0 : un32 / yn1 * yn1 = yn1 * (un32 / yn1) := Int.mul_comm _ _
  have q0 : 0 ≤ un32 / yn1 := Int.ediv_nonneg hu (by omega)
  have q1 : un32 / yn1 < 4294967298 := (Int.ediv_lt_iff_lt_mul hp).2 (by omega)
  refine ⟨hy, hn1, hn1', hn0, hn0', hu, huy, h1, h1', q0, by omega, by omega, by omega, by omega, ?_⟩
  have e1 : un32 / yn1 * y + y = (yn1 * (un32 / yn1) + yn1) * 4294967296 + (un32 / yn1 * yn0 + yn0) := by rw [hy]; grind
  have e2 : 0 ≤ un32 / yn1 * yn0 := Int.mul_nonneg q0 hn0
  omega
theorem Dig.prod {y yn1 yn0 un32 un1 q r : Int} (h : Dig y yn1 yn0 un32 un1 q r) (hq : q < 4294967296) : 0 ≤ q * yn0 ∧ q * yn0 < 18446744073709551616 := by
  have := prod_bd (m := 4294967295) h.q0 (by omega) h.hn0 (by have := h.hn0'; omega)
  omega

/-- The first loop. -/
theorem l0_eq (y s yn1 yn0 un32 un1 un0 : Int) (n : Nat) : ∀ (k : Nat) (q r : Int), 2 * n + 2 ≤ k → Dig y yn1 yn0 un32 un1 q r → 4294967296 ≤ r + n * 2147483648 →
    ∃ k', k ≤ k' + 2 * n + 2 ∧ bits_Div64.l0 k y s yn1 yn0 un32 un1 un0 q r = bits_Div64.j2 k' y s yn1 yn0 un32 un1 un0 ((un32 * 4294967296 + un1) / y) := by
  induction n with
  | zero => intro k q r _ h hm; have := h.r1; omega
  | succ n ih =>
    intro k q r hk h hm
    obtain ⟨k, rfl⟩ : ∃ m, k = m + 2 := ⟨k - 2, by omega⟩
    have hr0 := h.r0; have hr1 := h.r1; have hq0 := h.q0; have hq1 := h.q1; have b1 := h.h1; have b2 := h.h1'; have b3 := h.hn1; have b4 := h.hn1'
    have w1 : IntKind.u64.wrap (r + yn1) = r + yn1 := by rw [u64w]; omega
    have goes : (4294967296 ≤ q ∨ 4294967296 * r + un1 < q * yn0) → ∃ k', k + 2 ≤ k' + 2 * (n + 1) + 2 ∧ bits_Div64.j1 (k + 1) y s yn1 yn0 un32 un1 un0 q r true = bits_Div64.j2 k' y s yn1 yn0 un32 un1 un0 ((un32 * 4294967296 + un1) / y) := by
      intro hc
      have hq2 := (h.yes hc).2
      have w2 : IntKind.u64.wrap (q - 1) = q - 1 := by rw [u64w]; omega
      simp only [bits_Div64.j1, if_true, w1, w2]
      by_cases hs : r + yn1 ≥ 4294967296
      · rw [if_pos hs, h.stop hc hs]
        exact ⟨k, by omega, rfl⟩
      · rw [if_neg hs]
        obtain ⟨k', hk', e⟩ := ih k (q - 1) (r + yn1) (by omega) (h.next hc (by omega)) (by omega)
        exact ⟨k', by omega, e⟩
    simp only [bits_Div64.l0]
    by_cases hb : q ≥ 4294967296
    · rw [if_pos hb]
      exact goes (.inl hb)
    · rw [if_neg hb]
      have hp := h.prod (by omega)
      have w3 : IntKind.u64.wrap (q * yn0) = q * yn0 := by rw [u64w]; omega
      have w4 : IntKind.u64.wrap (IntKind.u64.wrap (4294967296 * r) + un1) = 4294967296 * r + un1 := by simp only [u64w]; omega
      rw [w3, w4]
      by_cases hc : q * yn0 > 4294967296 * r + un1
      · rw [decide_eq_true hc]
        exact goes (.inr hc)
      · rw [decide_eq_false hc]
        simp only [bits_Div64.j1]
        rw [if_neg (by decide), ← h.no (by omega)]
        exact ⟨k, by omega, rfl⟩
/-- The second loop. -/
theorem l1_eq (y s yn1 yn0 un0 q1 un21 : Int) (hs0 : 0 ≤ s) (n : Nat) : ∀ (k : Nat) (q r : Int), 2 * n + 2 ≤ k → Dig y yn1 yn0 un21 un0 q r → 4294967296 ≤ r + n * 2147483648 →
    bits_Div64.l1 k y s yn1 yn0 un0 q1 r un21 q = some (IntKind.u64.wrap ((IntKind.u64.wrap (q1 * 4294967296)) + (un21 * 4294967296 + un0) / y), shr .u64 (IntKind.u64.wrap ((IntKind.u64.wrap ((IntKind.u64.wrap (un21 * 4294967296)) + un0)) - (IntKind.u64.wrap ((un21 * 4294967296 + un0) / y * y)))) s) := by
  induction n with
  | zero => intro k q r _ h hm; have := h.r1; omega
  | succ n ih =>
    intro k q r hk h hm
    obtain ⟨k, rfl⟩ : ∃ m, k = m + 2 := ⟨k - 2, by omega⟩
    have hr0 := h.r0; have hr1 := h.r1; have hq0 := h.q0; have hq1 := h.q1; have b1 := h.h1; have b2 := h.h1'; have b3 := h.hn1; have b4 := h.hn1'
    have w1 : IntKind.u64.wrap (r + yn1) = r + yn1 := by rw [u64w]; omega
    have goes : (4294967296 ≤ q ∨ 4294967296 * r + un0 < q * yn0) → bits_Div64.j4 (k + 1) y s yn1 yn0 un0 q1 r un21 q true = some (IntKind.u64.wrap ((IntKind.u64.wrap (q1 * 4294967296)) + (un21 * 4294967296 + un0) / y), shr .u64 (IntKind.u64.wrap ((IntKind.u64.wrap ((IntKind.u64.wrap (un21 * 4294967296)) + un0)) - (IntKind.u64.wrap ((un21 * 4294967296 + un0) / y * y)))) s) := by
      intro hc
      have hq2 := (h.yes hc).2
      have w2 : IntKind.u64.wrap (q - 1) = q - 1 := by rw [u64w]; omega
      simp only [bits_Div64.j4, if_true, w1, w2]
      by_cases hs : r + yn1 ≥ 4294967296
      · rw [if_pos hs, if_pos hs0, h.stop hc hs]
      · rw [if_neg hs]
        exact ih k (q - 1) (r + yn1) (by omega) (h.next hc (by omega)) (by omega)
    simp only [bits_Div64.l1]
    by_cases hb : q ≥ 4294967296
    · rw [if_pos hb]
      exact goes (.inl hb)
    · rw [if_neg hb]
      have hp := h.prod (by omega)
      have w3 : IntKind.u64.wrap (q * yn0) = q * yn0 := by rw [u64w]; omega
      have w4 : IntKind.u64.wrap (IntKind.u64.wrap (4294967296 * r) + un0) = 4294967296 * r + un0 := by simp only [u64w]; omega
      rw [w3, w4]
      by_cases hc : q * yn0 > 4294967296 * r + un0
      · rw [decide_eq_true hc]
        exact goes (.inr hc)
      · rw [decide_eq_false hc]
        simp only [bits_Div64.j4]
        rw [if_neg (by decide), if_pos hs0, ← h.no (by omega)]
/-! ### The shift -/
theorem bitLenAux_le (f x : Nat) : Lib.bitLenAux f x ≤ f := by
  induction f generalizing x with
  | zero => exact Nat.le_refl _
  | succ f ih =>
    unfold Lib.bitLenAux
    split
    · omega
    · have := ih (x / 2); omega
theorem bitLenAux_spec (f : Nat) : ∀ x : Nat, x ≠ 0 → x < 2 ^ f → 1 ≤ Lib.bitLenAux f x ∧ 2 ^ (Lib.bitLenAux f x - 1) ≤ x ∧ x < 2 ^ Lib.bitLenAux f x := by
  induction f with
  | zero => intro x h0 h1; simp at h1; omega
  | succ f ih =>
    intro x h0 h1
    unfold Lib.bitLenAux
    rw [if_neg h0]
    by_cases hz : x / 2 = 0
    · have e : Lib.bitLenAux f (x / 2) = 0 := by rw [hz]; cases f <;> simp [Lib.bitLenAux]
      rw [e]
      refine ⟨by omega, ?_, ?_⟩
      · simp; omega
      · simp; omega
    · obtain ⟨g0, g1, g2⟩ := ih (x / 2) hz (by rw [Nat.pow_succ] at h1; omega)
      refine ⟨by omega, ?_, ?_⟩
      · rw [show 1 + Lib.bitLenAux f (x / 2) - 1 = (Lib.bitLenAux f (x / 2) - 1) + 1 by omega, Nat.pow_succ]; omega
      · rw [show 1 + Lib.bitLenAux f (x / 2) = Lib.bitLenAux f (x / 2) + 1 by omega, Nat.pow_succ]; omega
/-- The shift s by which y is made to fill 64 bits. -/
theorem norm (y : Int) (h0 : 0 < y) (h1 : y < 18446744073709551616) :
    ∃ s : Nat, s ≤ 63 ∧ (64 - (Lib.bitLen y.toNat : Int)) = s ∧ 9223372036854775808 ≤ y * 2 ^ s ∧ y * 2 ^ s < 18446744073709551616 := by
  obtain ⟨n, rfl⟩ := Int.eq_ofNat_of_zero_le (Int.le_of_lt h0)
  have hn0 : n ≠ 0 := by omega
  obtain ⟨g0, g1, g2⟩ := bitLenAux_spec 64 n hn0 (by omega)
  have g3 := bitLenAux_le 64 n
  have hb : Lib.bitLen (n : Int).toNat = Lib.bitLenAux 64 n := rfl
  rw [hb]
  generalize Lib.bitLenAux 64 n = L at *
  refine ⟨64 - L, by omega, by omega, ?_, ?_⟩
  · have e : 2 ^ (L - 1) * 2 ^ (64 - L) = 9223372036854775808 := by
      rw [← Nat.pow_add, show L - 1 + (64 - L) = 63 by omega]
    have := Nat.mul_le_mul_right (2 ^ (64 - L)) g1
    rw [e] at this
    have z : ((n * 2 ^ (64 - L) : Nat) : Int) = (n : Int) * 2 ^ (64 - L) := by simp
    rw [← z]
    omega
  · have e : 2 ^ L * 2 ^ (64 - L) = 18446744073709551616 := by
      rw [← Nat.pow_add, show L + (64 - L) = 64 by omega]
    have := Nat.mul_lt_mul_of_pos_right g2 (Nat.two_pow_pos (64 - L))
    rw [e] at this
    have z : ((n * 2 ^ (64 - L) : Nat) : Int) = (n : Int) * 2 ^ (64 - L) := by simp
    rw [← z]
    omega
theorem shl_eq (x : Int) (s : Nat) (hs : s ≤ 64) : shl .u64 x s = (x * 2 ^ s) % 18446744073709551616 := by
  unfold shl
  rw [u64w]
  have e : min (s : Int).toNat IntKind.u64.bits = s := by show min s 64 = s; omega
  rw [e]
theorem shr_eq (x : Int) (s : Nat) (hs : s ≤ 64) : shr .u64 x s = x / 2 ^ s := by
  unfold shr
  have e : min (s : Int).toNat IntKind.u64.bits = s := by show min s 64 = s; omega
  rw [e]
theorem div64_eq {k : Nat} (hk : 20 ≤ k) {hi lo y : Int} (h0 : 0 ≤ hi) (hy : hi < y) (hy1 : y < 18446744073709551616) (l0 : 0 ≤ lo) (l1 : lo < 18446744073709551616) :
    bits_Div64.f k hi lo y = some ((hi * 18446744073709551616 + lo) / y, (hi * 18446744073709551616 + lo) % y) := by
  unfold bits_Div64.f
  rw [if_neg (by omega), if_neg (by omega)]
  by_cases hz : hi = 0
  · rw [if_pos hz]
    subst hz
    have e1 : lo.tdiv y = lo / y := Int.tdiv_eq_ediv_of_nonneg l0
    have e2 : lo.tmod y = lo % y := Int.tmod_eq_emod_of_nonneg l0
    rw [e1, e2, u64w]
    have d1 := Int.ediv_nonneg l0 (show 0 ≤ y by omega)
    have d2 := Int.ediv_le_self y l0
    rw [Int.emod_eq_of_lt d1 (by omega)]
    simp
  rw [if_neg hz]
  obtain ⟨s, hs, es, n1, n2⟩ := norm y (by omega) hy1
  unfold bits_LeadingZeros64.f
  rw [if_pos (by omega), if_pos (by omega), es]
  simp only [Option.bind_some]
  have ws : IntKind.u64.wrap (s : Int) = s := by rw [u64w]; omega
  have ws2 : IntKind.u64.wrap (64 - (s : Int)) = ((64 - s : Nat) : Int) := by rw [u64w]; omega
  rw [ws, ws2, if_pos (by omega), if_pos (by omega)]
  simp only [shl_eq _ s (by omega), shr_eq _ (64 - s) (by omega)]
  obtain ⟨p, hp⟩ : ∃ p : Int, (2 : Int) ^ s = p := ⟨_, rfl⟩
  obtain ⟨p', hp'⟩ : ∃ p' : Int, (2 : Int) ^ (64 - s) = p' := ⟨_, rfl⟩
  have hpp : p * p' = 18446744073709551616 := by
    rw [← hp, ← hp', ← Int.pow_add, show s + (64 - s) = 64 by omega]
    decide
  have hp0 : 0 < p := by rw [← hp]; exact Int.pow_pos (by decide)
  have hp0' : 0 < p' := by rw [← hp']; exact Int.pow_pos (by decide)
  rw [hp] at n1 n2
  rw [hp, hp']
  have hyn : y * p % 18446744073709551616 = y * p := Int.emod_eq_of_lt (by omega) n2
  have hhi : hi * p % 18446744073709551616 = hi * p := by
    have := Int.mul_lt_mul_of_pos_right hy hp0
    exact Int.emod_eq_of_lt (Int.mul_nonneg h0 (by omega)) (by omega)
  rw [hyn, hhi]
  have l2 := Int.emod_add_mul_ediv lo p'
  have l3 := Int.emod_nonneg lo (show p' ≠ 0 by omega)
  have l4 := Int.emod_lt_of_pos lo hp0'
  have l5 : lo / p' < p := (Int.ediv_lt_iff_lt_mul hp0').2 (by omega)
  have l6 : 0 ≤ lo / p' := Int.ediv_nonneg l0 (by omega)
  have l7 : lo * p = (lo / p') * 18446744073709551616 + lo % p' * p := by
    have : lo * p = (lo % p' + p' * (lo / p')) * p := by rw [l2]
    rw [this, ← hpp]; grind
  have l8 : lo % p' * p < 18446744073709551616 := by
    have := Int.mul_lt_mul_of_pos_right l4 hp0
    rw [Int.mul_comm p' p, hpp] at this
    exact this
  have l9 : 0 ≤ lo % p' * p := Int.mul_nonneg l3 (by omega)
  have l10 : lo * p % 18446744073709551616 = lo % p' * p := by omega
  have h1 : hi * p + p ≤ y * p := by
    have := Int.mul_le_mul_of_nonneg_right (show hi + 1 ≤ y by omega) (show 0 ≤ p by omega)
    have e : (hi + 1) * p = hi * p + p := by grind
    omega
  have h2 : 0 ≤ hi * p := Int.mul_nonneg h0 (by omega)
  have hor : Go.bits .or .u64 (hi * p) (lo / p') = hi * p + lo / p' := by
    refine bits_join .u64 64 (by decide) wraps_u64 s _ _ h2 ?_ (by omega) l6 (by rw [hp]; exact l5) (by omega)
    rw [hp]; exact Int.mul_emod_left _ _
  rw [hor, l10]
  have hT : (hi * 18446744073709551616 + lo) * p = (hi * p + lo / p') * 18446744073709551616 + lo % p' * p := by
    have : (hi * 18446744073709551616 + lo) * p = hi * p * 18446744073709551616 + lo * p := by grind
    rw [this, l7]; grind
  have eq1 : (hi * 18446744073709551616 + lo) / y = (hi * 18446744073709551616 + lo) * p / (y * p) := (Int.mul_ediv_mul_of_pos_left _ _ hp0).symm
  have eq2 : (hi * 18446744073709551616 + lo) % y = (hi * 18446744073709551616 + lo) * p % (y * p) / p := by
    rw [Int.mul_comm _ p, Int.mul_comm y p, Int.mul_emod_mul_of_pos _ _ hp0, Int.mul_ediv_cancel_left _ (by omega)]
  rw [eq1, eq2, hT]
  have hup : hi * p + lo / p' < y * p := by omega
  have hun : 0 ≤ hi * p + lo / p' := by omega
  generalize hi * p + lo / p' = u at *
  generalize lo % p' * p = v at *
  generalize y * p = yn at *
  clear eq1 eq2 hT h1 h2 hor l2 l3 l4 l5 l6 l7 l10 hhi hyn
  rw [and_low yn (by omega) n2, and_low v l9 l8]
  rw [if_neg (by omega)]
  obtain ⟨y1, hy1⟩ : ∃ x, yn / 4294967296 = x := ⟨_, rfl⟩
  obtain ⟨y0, hy0⟩ : ∃ x, yn % 4294967296 = x := ⟨_, rfl⟩
  obtain ⟨v1, hv1⟩ : ∃ x, v / 4294967296 = x := ⟨_, rfl⟩
  obtain ⟨v0, hv0⟩ : ∃ x, v % 4294967296 = x := ⟨_, rfl⟩
  rw [hy1, hy0, hv1, hv0]
  have S := Dig.start (y := yn) (yn1 := y1) (yn0 := y0) (un32 := u) (un1 := v1) (by omega) (by omega) (by omega) (by omega) (by omega) hun hup (by omega) (by omega)
  have t1 : u.tdiv y1 = u / y1 := Int.tdiv_eq_ediv_of_nonneg hun
  have hS0 := S.q0; have hS1 := S.q1; have hSr := S.rr; have hSr0 := S.r0; have hSr1 := S.r1
  have t2 : IntKind.u64.wrap (u / y1) = u / y1 := by rw [u64w]; omega
  have t3 : IntKind.u64.wrap (u - IntKind.u64.wrap (u / y1 * y1)) = u - u / y1 * y1 := by simp only [u64w]; omega
  rw [t1, t2, t3]
  obtain ⟨k', hk', e⟩ := l0_eq yn s y1 y0 u v1 v0 2 k _ _ (by omega) S (by omega)
  rw [e]
  obtain ⟨k', rfl⟩ : ∃ m, k' = m + 1 := ⟨k' - 1, by omega⟩
  simp only [bits_Div64.j2]
  rw [if_neg (by omega)]
  have hyp : 0 < yn := by omega
  have c1 := Int.emod_add_mul_ediv (u * 4294967296 + v1) yn
  have c2 := Int.emod_nonneg (u * 4294967296 + v1) (show yn ≠ 0 by omega)
  have c3 := Int.emod_lt_of_pos (u * 4294967296 + v1) hyp
  have c4 : (u * 4294967296 + v1) / yn < 4294967296 := (Int.ediv_lt_iff_lt_mul hyp).2 (by omega)
  have c5 : 0 ≤ (u * 4294967296 + v1) / yn := Int.ediv_nonneg (by omega) (by omega)
  have c6 : (u * 4294967296 + v1) / yn * yn = yn * ((u * 4294967296 + v1) / yn) := Int.mul_comm _ _
  obtain ⟨q1, hq1⟩ : ∃ x, (u * 4294967296 + v1) / yn = x := ⟨_, rfl⟩
  obtain ⟨r1, hr1⟩ : ∃ x, (u * 4294967296 + v1) % yn = x := ⟨_, rfl⟩
  rw [hq1] at c1 c4 c5 c6 ⊢
  rw [hr1] at c1 c2 c3
  rw [c6]
  have w21 : IntKind.u64.wrap (IntKind.u64.wrap (IntKind.u64.wrap (u * 4294967296) + v1) - IntKind.u64.wrap (yn * q1)) = r1 := by simp only [u64w]; omega
  rw [w21]
  have S2 := Dig.start (y := yn) (yn1 := y1) (yn0 := y0) (un32 := r1) (un1 := v0) (by omega) (by omega) (by omega) (by omega) (by omega) c2 c3 (by omega) (by omega)
  have t4 : r1.tdiv y1 = r1 / y1 := Int.tdiv_eq_ediv_of_nonneg c2
  have hZ0 := S2.q0; have hZ1 := S2.q1; have hZr := S2.rr; have hZr0 := S2.r0; have hZr1 := S2.r1
  have t5 : IntKind.u64.wrap (r1 / y1) = r1 / y1 := by rw [u64w]; omega
  have t6 : IntKind.u64.wrap (r1 - IntKind.u64.wrap (r1 / y1 * y1)) = r1 - r1 / y1 * y1 := by simp only [u64w]; omega
  rw [t4, t5, t6, l1_eq yn s y1 y0 v0 q1 r1 (by omega) 2 k' _ _ (by omega) S2 (by omega), shr_eq _ s (by omega), hp]
  have f1 := Int.emod_add_mul_ediv (r1 * 4294967296 + v0) yn
  have f2 := Int.emod_nonneg (r1 * 4294967296 + v0) (show yn ≠ 0 by omega)
  have f3 := Int.emod_lt_of_pos (r1 * 4294967296 + v0) hyp
  have f4 : (r1 * 4294967296 + v0) / yn < 4294967296 := (Int.ediv_lt_iff_lt_mul hyp).2 (by omega)
  have f5 : 0 ≤ (r1 * 4294967296 + v0) / yn := Int.ediv_nonneg (by omega) (by omega)
  have f6 : (r1 * 4294967296 + v0) / yn * yn = yn * ((r1 * 4294967296 + v0) / yn) := Int.mul_comm _ _
  obtain ⟨q0, hq0⟩ : ∃ x, (r1 * 4294967296 + v0) / yn = x := ⟨_, rfl⟩
  obtain ⟨r0, hr0⟩ : ∃ x, (r1 * 4294967296 + v0) % yn = x := ⟨_, rfl⟩
  rw [hq0] at f1 f4 f5 f6 ⊢
  rw [hr0] at f1 f2 f3
  rw [f6]
  have w22 : IntKind.u64.wrap (IntKind.u64.wrap (IntKind.u64.wrap (r1 * 4294967296) + v0) - IntKind.u64.wrap (yn * q0)) = r0 := by simp only [u64w]; omega
  have w23 : IntKind.u64.wrap (IntKind.u64.wrap (q1 * 4294967296) + q0) = q1 * 4294967296 + q0 := by simp only [u64w]; omega
  rw [w22, w23]
  have fin := (Int.ediv_emod_unique (a := u * 18446744073709551616 + v) (b := yn) (r := r0) (q := q1 * 4294967296 + q0) hyp).2 ⟨by
    have e1 : yn * (q1 * 4294967296 + q0) = yn * q1 * 4294967296 + yn * q0 := by grind
    rw [e1]; omega, f2, f3⟩
  rw [fin.1, fin.2]
end Go.Proofs.Ytnaeekahmbilnaa.FS
