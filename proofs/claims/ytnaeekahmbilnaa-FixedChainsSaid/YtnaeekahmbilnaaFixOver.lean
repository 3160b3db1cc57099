/- The quotients of package fixed, and those of the reference (bit by bit): each the quotient of the sizes, rounded, with its sign, cut. -/
import Derived.Test.YtnaeekahmbilnaaFixDiv
namespace Go.Proofs.Ytnaeekahmbilnaa.FS
open Go.RowKit Go.Proofs.Ytnaeekahmbilnaa.Fix Go.Proofs.Ytnaeekahmbilnaa.FM Go.Proofs.YtnaeekahmbilnaaW.PrintWords Go.Proofs.YtnaeekahmbilnaaW.PrintLast Go.Proofs.YtnaeekahmbilnaaW.PrintMore

theorem pow_pos' (t : Nat) : (0 : Int) < 2 ^ t := Int.pow_pos (by decide)
theorem half (N : Int) (t : Nat) : N / 2 ^ t = 2 * (N / 2 ^ (t + 1)) + (N / 2 ^ t) % 2 := by
  have e : N / 2 ^ (t + 1) = N / 2 ^ t / 2 := by
    rw [Int.pow_succ, ← Int.ediv_ediv_of_nonneg (Int.le_of_lt (pow_pos' t))]
  omega
theorem step_div (M b d : Int) (hd : 0 < d) (hb0 : 0 ≤ b) (hb1 : b < 2) (_hM : 0 ≤ M) :
    (2 * M + b) / d = 2 * (M / d) + (if 2 * (M % d) + b ≥ d then 1 else 0) ∧ (2 * M + b) % d = 2 * (M % d) + b - (if 2 * (M % d) + b ≥ d then d else 0) := by
  have h1 := Int.emod_add_mul_ediv M d
  have h2 := Int.emod_nonneg M (show d ≠ 0 by omega)
  have h3 := Int.emod_lt_of_pos M hd
  refine (Int.ediv_emod_unique hd).2 ⟨?_, ?_, ?_⟩
  · split
    · have : d * (2 * (M / d) + 1) = 2 * (d * (M / d)) + d := by grind
      omega
    · have : d * (2 * (M / d) + 0) = 2 * (d * (M / d)) := by grind
      omega
  · split <;> omega
  · split <;> omega
theorem bit_hi (hi lo : Int) (j : Nat) (l0 : 0 ≤ lo) (l1 : lo < 18446744073709551616) : (hi * 18446744073709551616 + lo) / 2 ^ (64 + j) = hi / 2 ^ j := by
  rw [Int.pow_add, ← Int.ediv_ediv_of_nonneg (by decide)]
  have : (hi * 18446744073709551616 + lo) / 2 ^ 64 = hi := by
    show (hi * 18446744073709551616 + lo) / 18446744073709551616 = hi
    omega
  rw [this]
theorem bit_lo (hi lo : Int) (i : Nat) (hi' : i ≤ 63) : (hi * 18446744073709551616 + lo) / 2 ^ i % 2 = lo / 2 ^ i % 2 := by
  have e : (18446744073709551616 : Int) = 2 ^ i * (2 * 2 ^ (63 - i)) := by
    rw [← Int.mul_assoc, Int.mul_comm (2 ^ i) 2, Int.mul_assoc, ← Int.pow_add, show i + (63 - i) = 63 by omega]
    decide
  have e2 : hi * 18446744073709551616 + lo = lo + 2 ^ i * (2 * (hi * 2 ^ (63 - i))) := by rw [e]; grind
  rw [e2, Int.add_mul_ediv_left _ _ (by have := pow_pos' i; omega)]
  omega
theorem two_pow_le (t : Nat) (h : t ≤ 127) : (2 : Int) ^ t ≤ 2 ^ 127 := by
  have := Nat.pow_le_pow_right (show 0 < 2 by decide) h
  exact_mod_cast this

set_option maxRecDepth 4000 in
theorem over_l0 (d hi lo : Int) (hd : 0 < d) (hd1 : d ≤ 9223372036854775808) (h0 : 0 ≤ hi) (h1 : hi < 4294967296) (l0 : 0 ≤ lo) (l1 : lo < 18446744073709551616) (t : Nat) :
    ∀ k : Nat, t ≤ 128 → 2 * t + 1 ≤ k →
    lysimeterref1_over.l0 k d ((t : Int) - 1) hi lo ((hi * 18446744073709551616 + lo) / 2 ^ t / d / 18446744073709551616) ((hi * 18446744073709551616 + lo) / 2 ^ t / d % 18446744073709551616) 0 ((hi * 18446744073709551616 + lo) / 2 ^ t % d) =
      some ((hi * 18446744073709551616 + lo) / d / 18446744073709551616, (hi * 18446744073709551616 + lo) / d % 18446744073709551616, ((hi * 18446744073709551616 + lo) % d != 0)) := by
  obtain ⟨N, hN⟩ : ∃ N, hi * 18446744073709551616 + lo = N := ⟨_, rfl⟩
  induction t with
  | zero =>
    intro k _ hk
    obtain ⟨k, rfl⟩ : ∃ m, k = m + 1 := ⟨k - 1, by omega⟩
    simp only [lysimeterref1_over.l0]
    rw [if_neg (by omega)]
    simp
  | succ t ih =>
    intro k ht hk
    rw [hN] at ih ⊢
    obtain ⟨k, rfl⟩ : ∃ m, k = m + 2 := ⟨k - 2, by omega⟩
    have hM : 0 ≤ N / 2 ^ (t + 1) := Int.ediv_nonneg (by omega) (Int.le_of_lt (pow_pos' _))
    have hMl : N / 2 ^ (t + 1) ≤ N := Int.ediv_le_self _ (by omega)
    have hh := half N t
    obtain ⟨bit, hbit⟩ : ∃ b, N / 2 ^ t % 2 = b := ⟨_, rfl⟩
    rw [hbit] at hh
    obtain ⟨sd1, sd2⟩ := step_div (N / 2 ^ (t + 1)) bit d hd (by omega) (by omega) hM
    rw [← hh] at sd1 sd2
    have r0 := Int.emod_nonneg (N / 2 ^ (t + 1)) (show d ≠ 0 by omega)
    have r1 := Int.emod_lt_of_pos (N / 2 ^ (t + 1)) hd
    have q0 : 0 ≤ N / 2 ^ (t + 1) / d := Int.ediv_nonneg hM (by omega)
    have q1 : N / 2 ^ (t + 1) / d ≤ N / 2 ^ (t + 1) := Int.ediv_le_self _ hM
    obtain ⟨q, hq⟩ : ∃ q, N / 2 ^ (t + 1) / d = q := ⟨_, rfl⟩
    obtain ⟨r, hr⟩ : ∃ r, N / 2 ^ (t + 1) % d = r := ⟨_, rfl⟩
    rw [hq] at sd1 q0 q1
    rw [hr] at sd1 sd2 r0 r1
    have hqN : q ≤ N := by omega
    have e0 : (((t + 1 : Nat) : Int) - 1) = (t : Int) := by omega
    have w1 : wrap64 ((t : Int) - 1) = (t : Int) - 1 := wrap64_id (by omega) (by omega)
    have o1 : Go.bits .or .u64 (IntKind.u64.wrap (0 * 2)) (r / 9223372036854775808) = 0 := by
      rw [u64w, or_bit _ _ (by omega) (by omega) (by omega) (by omega) (by omega)]; omega
    have o2 : IntKind.u64.wrap (r * 2) = r * 2 := by rw [u64w]; omega
    have o3 : Go.bits .or .u64 (r * 2) bit = 2 * r + bit := by
      rw [or_bit _ _ (by omega) (by omega) (by omega) (by omega) (by omega)]; omega
    have goes : lysimeterref1_over.j1 (k + 1) d (t : Int) bit hi lo (q / 18446744073709551616) (q % 18446744073709551616) 0 (r * 2) = some (N / d / 18446744073709551616, N / d % 18446744073709551616, (N % d != 0)) := by
      simp only [lysimeterref1_over.j1]
      rw [if_neg (by omega), o3, w1]
      have p1 : Go.bits .or .u64 (IntKind.u64.wrap (q / 18446744073709551616 * 2)) (q % 18446744073709551616 / 9223372036854775808) = 2 * q / 18446744073709551616 := by
        rw [u64w, or_bit _ _ (by omega) (by omega) (by omega) (by omega) (by omega)]; omega
      by_cases hc : 2 * r + bit ≥ d
      · rw [if_pos hc, p1]
        rw [if_pos hc] at sd1 sd2
        have p2 : Go.bits .or .u64 (IntKind.u64.wrap (q % 18446744073709551616 * 2)) 1 = (2 * q + 1) % 18446744073709551616 := by
          rw [u64w, or_bit _ _ (by omega) (by omega) (by omega) (by omega) (by omega)]; omega
        have p3 : IntKind.u64.wrap (2 * r + bit - d) = 2 * r + bit - d := by rw [u64w]; omega
        rw [p2, p3]
        have := ih k (by omega) (by omega)
        rw [sd1, sd2] at this
        rw [← this]
        congr 1
        omega
      · rw [if_neg hc, p1]
        rw [if_neg hc] at sd1 sd2
        have p2 : IntKind.u64.wrap (q % 18446744073709551616 * 2) = 2 * q % 18446744073709551616 := by rw [u64w]; omega
        rw [p2]
        have := ih k (by omega) (by omega)
        rw [sd1, sd2] at this
        rw [← this]
        congr 1 <;> omega
    rw [hq, hr]
    simp only [lysimeterref1_over.l0]
    rw [e0, if_pos (by omega)]
    by_cases h63 : (t : Int) > 63
    · have a63 : 0 ≤ IntKind.u64.wrap (Go.bits .and .i64 (t : Int) 63) := by rw [u64w]; omega
      have s1 : IntKind.u64.wrap (wrap64 ((t : Int) - 64)) = ((t - 64 : Nat) : Int) := by rw [wrap64_id (by omega) (by omega), u64w]; omega
      rw [if_pos a63, if_pos h63, s1, if_pos (by omega), shr_eq _ _ (by omega), o1, o2]
      have hhn : 0 ≤ hi / 2 ^ (t - 64) := Int.ediv_nonneg h0 (Int.le_of_lt (pow_pos' _))
      have hhl : hi / 2 ^ (t - 64) ≤ hi := Int.ediv_le_self _ h0
      rw [and_one _ hhn (by omega)]
      have hb : hi / 2 ^ (t - 64) % 2 = bit := by
        have := bit_hi hi lo (t - 64) l0 l1
        rw [show 64 + (t - 64) = t by omega, hN] at this
        rw [← this]; exact hbit
      rw [hb]
      exact goes
    · have a63 : Go.bits .and .i64 (t : Int) 63 = (t : Int) := by rw [and_63 _ (by omega) (by omega)]; omega
      have s1 : IntKind.u64.wrap (t : Int) = (t : Int) := by rw [u64w]; omega
      rw [a63, s1, if_pos (by omega), if_neg h63, shr_eq _ _ (by omega), o1, o2]
      have hhn : 0 ≤ lo / 2 ^ t := Int.ediv_nonneg l0 (Int.le_of_lt (pow_pos' _))
      have hhl : lo / 2 ^ t ≤ lo := Int.ediv_le_self _ l0
      rw [and_one _ hhn (by omega)]
      have hb : lo / 2 ^ t % 2 = bit := by
        rw [← bit_lo hi lo t (by omega), hN]; exact hbit
      rw [hb]
      exact goes
theorem over_eq {k : Nat} (hk : 400 ≤ k) {a d : Int} (ha : 0 ≤ a) (ha1 : a ≤ 9223372036854775808) (hd : 0 < d) (hd1 : d ≤ 9223372036854775808) :
    lysimeterref1_over.f k a d = some (a * 4294967296 / d / 18446744073709551616, a * 4294967296 / d % 18446744073709551616, (a * 4294967296 % d != 0)) := by
  unfold lysimeterref1_over.f
  have e : a / 4294967296 * 18446744073709551616 + IntKind.u64.wrap (a * 4294967296) = a * 4294967296 := by rw [u64w]; omega
  have l0 : 0 ≤ IntKind.u64.wrap (a * 4294967296) := by rw [u64w]; omega
  have l1 : IntKind.u64.wrap (a * 4294967296) < 18446744073709551616 := by rw [u64w]; omega
  have h := over_l0 d (a / 4294967296) (IntKind.u64.wrap (a * 4294967296)) hd hd1 (by omega) (by omega) l0 l1 128 k (by omega) (by omega)
  rw [e] at h
  have z : a * 4294967296 / 2 ^ 128 = 0 := Int.ediv_eq_zero_of_lt (by omega) (by
    have : a * 4294967296 ≤ 9223372036854775808 * 4294967296 := by omega
    have e2 : (9223372036854775808 * 4294967296 : Int) < 2 ^ 128 := by decide
    omega)
  rw [z] at h
  simpa using h
/-! ### Quotients -/
def edgeS (a : Int) : Int := if a > 0 then 9223372036854775807 else if a < 0 then -9223372036854775808 else 0
/-- What a quotient is: up: is the size rounded up where something is left? -/
def quoS (up : Bool → Bool) (a b : Int) : Int :=
  if b = 0 then edgeS a else
    sat (if (decide (a < 0) != decide (b < 0)) then -(sz a * 4294967296 / sz b + (if (sz a * 4294967296 % sz b != 0 && up true) then 1 else 0))
      else sz a * 4294967296 / sz b + (if (sz a * 4294967296 % sz b != 0 && up false) then 1 else 0))
def divS (a b : Int) : Int := quoS id a b
def cdivS (a b : Int) : Int := quoS not a b
theorem edge_eq (a : Int) : fixed_edge.f a = some (edgeS a) := by unfold fixed_edge.f edgeS; split; rfl; split <;> rfl
theorem none_eq (a : Int) : lysimeterref1_none.f a = some (edgeS a) := by unfold lysimeterref1_none.f edgeS; split; rfl; split <;> rfl
theorem sz_pos {b : Int} (h : b ≠ 0) : 0 < sz b := by unfold sz; split <;> omega
theorem signed_big {k : Nat} (hk : 1 ≤ k) (m : Int) (h : 18446744073709551616 ≤ m) (below : Bool) : fixed_signed.f k 0 true below = some (sat (if below then -m else m)) := by
  obtain ⟨k, rfl⟩ : ∃ q, k = q + 1 := ⟨k - 1, by omega⟩
  unfold fixed_signed.f
  simp only [fixed_signed.j0]
  cases below
  · simp [sat_hi (show 9223372036854775807 ≤ m by omega)]
  · simp [sat_lo (show -m ≤ -9223372036854775808 by omega)]
/-- One way through: the sign is told. -/
theorem way_eq {k : Nat} (hk : 400 ≤ k) {a b : Int} (ha : In a) (hb : In b) (hz : b ≠ 0) (below : Bool) :
    (if sz a / 4294967296 ≥ sz b then fixed_signed.f k 0 true below = some (sat (if below then -(sz a * 4294967296 / sz b) else sz a * 4294967296 / sz b)) ∧ 18446744073709551616 ≤ sz a * 4294967296 / sz b
     else bits_Div64.f k (sz a / 4294967296) (IntKind.u64.wrap (sz a * 4294967296)) (sz b) = some (sz a * 4294967296 / sz b, sz a * 4294967296 % sz b) ∧ 0 ≤ sz a * 4294967296 / sz b ∧ sz a * 4294967296 / sz b < 18446744073709551616) := by
  have a0 := sz_nonneg a
  have b0 := sz_pos hz
  have a1 := sz_le ha.1 ha.2
  have b1 := sz_le hb.1 hb.2
  generalize sz a = n at *
  generalize sz b = d at *
  split
  · rename_i h
    have : 18446744073709551616 ≤ n * 4294967296 / d := (Int.le_ediv_iff_mul_le b0).2 (by omega)
    exact ⟨signed_big (by omega) _ this below, this⟩
  · rename_i h
    have e : n / 4294967296 * 18446744073709551616 + IntKind.u64.wrap (n * 4294967296) = n * 4294967296 := by rw [u64w]; omega
    have h1 := div64_eq (k := k) (by omega) (hi := n / 4294967296) (lo := IntKind.u64.wrap (n * 4294967296)) (y := d) (by omega) (by omega) (by omega) (by rw [u64w]; omega) (by rw [u64w]; omega)
    rw [e] at h1
    exact ⟨h1, Int.ediv_nonneg (by omega) (by omega), (Int.ediv_lt_iff_lt_mul b0).2 (by omega)⟩
theorem rounded_small (q : Int) (h0 : 0 ≤ q) (h1 : q < 18446744073709551616) (more : Bool) : fixed_rounded.f q false more =
    some ((q + if more then 1 else 0) % 18446744073709551616, decide (18446744073709551616 ≤ q + if more then 1 else 0)) := by
  have h := rounded_eq q h0 more
  rw [Int.emod_eq_of_lt h0 h1, decide_eq_false (by omega)] at h
  exact h
theorem div_eq {k : Nat} (hk : 400 ≤ k) {a b : Int} (ha : In a) (hb : In b) : fixed_Div.f k a b = some (divS a b) := by
  unfold fixed_Div.f fixed_quotient_47.f divS quoS
  by_cases hz : b = 0
  · rw [if_pos hz, if_pos hz, edge_eq]; rfl
  rw [if_neg hz, if_neg hz]
  simp only [size_eq ha, size_eq hb, Option.bind_some, fixed_Div_1.f]
  have W := fun below => way_eq hk ha hb hz below
  have b0 := sz_pos hz
  have r0 := Int.emod_nonneg (sz a * 4294967296) (show sz b ≠ 0 by omega)
  by_cases hbig : sz a / 4294967296 ≥ sz b
  · simp only [if_pos hbig] at W ⊢
    have W1 := W true
    have W2 := W false
    have sat1 : ∀ m : Int, 18446744073709551616 ≤ m → ∀ c : Bool, sat (-(m + if c then 1 else 0)) = sat (-m) := by
      intro m hm c; rw [sat_lo (show -m ≤ _ by omega), sat_lo (by split <;> omega)]
    by_cases h1 : a < 0 <;> by_cases h2 : b < 0 <;> simp [h1, h2, W1.1, W2.1]
    all_goals (have := sat1 _ W1.2 (sz a * 4294967296 % sz b != 0); simp at this; rw [this])
  · simp only [if_neg hbig] at W ⊢
    obtain ⟨W1, W2, W3⟩ := W true
    simp only [W1, Option.bind_some]
    by_cases hr : sz a * 4294967296 % sz b = 0
    · simp only [if_pos hr, rounded_small _ W2 W3, Option.bind_some]
      have q0 : 0 ≤ sz a * 4294967296 / sz b + if false = true then 1 else 0 := by simpa using W2
      simp only [signed_eq (show 1 ≤ k by omega) _ q0]
      by_cases h1 : a < 0 <;> by_cases h2 : b < 0 <;> simp [h1, h2, hr]
    · simp only [if_neg hr, rounded_small _ W2 W3, Option.bind_some]
      have q0 : ∀ c : Bool, 0 ≤ sz a * 4294967296 / sz b + if c = true then 1 else 0 := by intro c; split <;> omega
      have z1 := fun c => signed_eq (k := k) (by omega) _ (q0 true) c
      have z2 := fun c => signed_eq (k := k) (by omega) _ (q0 false) c
      simp only [if_true, Bool.false_eq_true, if_false, Int.add_zero] at z1 z2
      by_cases h1 : a < 0 <;> by_cases h2 : b < 0 <;> simp [h1, h2, hr, z1, z2]
theorem cdiv_eq {k : Nat} (hk : 400 ≤ k) {a b : Int} (ha : In a) (hb : In b) : fixed_CeilDiv.f k a b = some (cdivS a b) := by
  unfold fixed_CeilDiv.f fixed_quotient_50.f cdivS quoS
  by_cases hz : b = 0
  · rw [if_pos hz, if_pos hz, edge_eq]; rfl
  rw [if_neg hz, if_neg hz]
  simp only [size_eq ha, size_eq hb, Option.bind_some, fixed_CeilDiv_1.f]
  have W := fun below => way_eq hk ha hb hz below
  have b0 := sz_pos hz
  have r0 := Int.emod_nonneg (sz a * 4294967296) (show sz b ≠ 0 by omega)
  by_cases hbig : sz a / 4294967296 ≥ sz b
  · simp only [if_pos hbig] at W ⊢
    have W1 := W true
    have W2 := W false
    have sat1 : ∀ m : Int, 18446744073709551616 ≤ m → ∀ c : Bool, sat (m + if c then 1 else 0) = sat m := by
      intro m hm c; rw [sat_hi (show _ ≤ m by omega), sat_hi (by split <;> omega)]
    by_cases h1 : a < 0 <;> by_cases h2 : b < 0 <;> simp [h1, h2, W1.1, W2.1]
    all_goals (have := sat1 _ W1.2 (sz a * 4294967296 % sz b != 0); simp at this; rw [this])
  · simp only [if_neg hbig] at W ⊢
    obtain ⟨W1, W2, W3⟩ := W true
    simp only [W1, Option.bind_some]
    by_cases hr : sz a * 4294967296 % sz b = 0
    · simp only [if_pos hr, rounded_small _ W2 W3, Option.bind_some]
      have q0 : 0 ≤ sz a * 4294967296 / sz b + if false = true then 1 else 0 := by simpa using W2
      simp only [signed_eq (show 1 ≤ k by omega) _ q0]
      by_cases h1 : a < 0 <;> by_cases h2 : b < 0 <;> simp [h1, h2, hr]
    · simp only [if_neg hr, rounded_small _ W2 W3, Option.bind_some]
      have q0 : ∀ c : Bool, 0 ≤ sz a * 4294967296 / sz b + if c = true then 1 else 0 := by intro c; split <;> omega
      have z1 := fun c => signed_eq (k := k) (by omega) _ (q0 true) c
      have z2 := fun c => signed_eq (k := k) (by omega) _ (q0 false) c
      simp only [if_true, Bool.false_eq_true, if_false, Int.add_zero] at z1 z2
      by_cases h1 : a < 0 <;> by_cases h2 : b < 0 <;> simp [h1, h2, hr, z1, z2]
/-- The reference's: a quotient of 128 bits, one more where that is asked, with its sign. -/
theorem rway_eq {k : Nat} (hk : 400 ≤ k) (Q : Int) (h0 : 0 ≤ Q) (h1 : Q < 18446744073709551616 * 4294967296) (neg : Bool) :
    lysimeterref1_back.f k neg (Q / 18446744073709551616) (Q % 18446744073709551616) = some (sat (if neg then -Q else Q)) ∧
    ((lysimeterref1_more.f (Q / 18446744073709551616) (Q % 18446744073709551616)).bind fun b => lysimeterref1_back.f k neg b.1 b.2) = some (sat (if neg then -(Q + 1) else Q + 1)) := by
  constructor
  · rw [back_eq (by omega) _ _ (by omega) (by omega) (by omega)]
    rw [show Q / 18446744073709551616 * 18446744073709551616 + Q % 18446744073709551616 = Q by omega]
  · obtain ⟨hi, lo, e, a1, a2, a3, a4⟩ := more_eq (Q / 18446744073709551616) (Q % 18446744073709551616) (by omega) (by omega) (by omega) (by omega)
    rw [e]
    simp only [Option.bind_some]
    rw [back_eq (by omega) _ _ a1 a2 a3, a4, show Q / 18446744073709551616 * 18446744073709551616 + Q % 18446744073709551616 + 1 = Q + 1 by omega]
theorem quo_bd {a b : Int} (ha : In a) (hz : b ≠ 0) : 0 ≤ sz a * 4294967296 / sz b ∧ sz a * 4294967296 / sz b < 18446744073709551616 * 4294967296 := by
  have a0 := sz_nonneg a
  have a1 := sz_le ha.1 ha.2
  have b0 := sz_pos hz
  have := Int.ediv_le_self (sz b) (show 0 ≤ sz a * 4294967296 by omega)
  exact ⟨Int.ediv_nonneg (by omega) (by omega), by omega⟩
theorem rdiv_eq {k : Nat} (hk : 400 ≤ k) {a b : Int} (ha : In a) (hb : In b) : lysimeterref1_Div.f k a b = some (divS a b) := by
  unfold lysimeterref1_Div.f divS quoS
  by_cases hz : b = 0
  · rw [if_pos hz, if_pos hz, none_eq]; rfl
  rw [if_neg hz, if_neg hz]
  simp only [rsize_eq ha, rsize_eq hb, Option.bind_some, over_eq hk (sz_nonneg a) (sz_le ha.1 ha.2) (sz_pos hz) (sz_le hb.1 hb.2)]
  obtain ⟨q0, q1⟩ := quo_bd ha hz
  have R := rway_eq hk _ q0 q1
  have R1 := R true
  have R2 := R false
  by_cases hr : sz a * 4294967296 % sz b = 0
  · by_cases h1 : a < 0 <;> by_cases h2 : b < 0 <;> simp [h1, h2, hr, R1.1, R2.1]
  · have R3 := R1.2
    by_cases h1 : a < 0 <;> by_cases h2 : b < 0 <;> simp [h1, h2, hr, R2.1]
    all_goals (simp at R3; exact R3)
theorem rcdiv_eq {k : Nat} (hk : 400 ≤ k) {a b : Int} (ha : In a) (hb : In b) : lysimeterref1_CeilDiv.f k a b = some (cdivS a b) := by
  unfold lysimeterref1_CeilDiv.f cdivS quoS
  by_cases hz : b = 0
  · rw [if_pos hz, if_pos hz, none_eq]; rfl
  rw [if_neg hz, if_neg hz]
  simp only [rsize_eq ha, rsize_eq hb, Option.bind_some, over_eq hk (sz_nonneg a) (sz_le ha.1 ha.2) (sz_pos hz) (sz_le hb.1 hb.2)]
  obtain ⟨q0, q1⟩ := quo_bd ha hz
  have R := rway_eq hk _ q0 q1
  have R1 := R true
  have R2 := R false
  by_cases hr : sz a * 4294967296 % sz b = 0
  · by_cases h1 : a < 0 <;> by_cases h2 : b < 0 <;> simp [h1, h2, hr, R1.1, R2.1]
  · have R3 := R2.2
    by_cases h1 : a < 0 <;> by_cases h2 : b < 0 <;> simp [h1, h2, hr, R1.1]
    all_goals (simp at R3; exact R3)
theorem rmul_way {k : Nat} (hk : 400 ≤ k) (P : Int) (hP : 0 ≤ P) (hPb : P ≤ 9223372036854775808 * 9223372036854775808) :
    lysimeterref1_back.f k false (P / 18446744073709551616 / 4294967296) (Go.bits .or .u64 (P % 18446744073709551616 / 4294967296) (IntKind.u64.wrap (P / 18446744073709551616 * 4294967296))) = some (sat (P / 4294967296)) ∧
    (if Go.bits .and .u64 (P % 18446744073709551616) 4294967295 = 0 then lysimeterref1_back.f k true (P / 18446744073709551616 / 4294967296) (Go.bits .or .u64 (P % 18446744073709551616 / 4294967296) (IntKind.u64.wrap (P / 18446744073709551616 * 4294967296)))
     else (lysimeterref1_more.f (P / 18446744073709551616 / 4294967296) (Go.bits .or .u64 (P % 18446744073709551616 / 4294967296) (IntKind.u64.wrap (P / 18446744073709551616 * 4294967296)))).bind fun b => lysimeterref1_back.f k true b.1 b.2) = some (sat (-P / 4294967296)) := by
  have m1 : Go.bits .or .u64 (P % 18446744073709551616 / 4294967296) (IntKind.u64.wrap (P / 18446744073709551616 * 4294967296)) = P / 4294967296 % 18446744073709551616 := by
    rw [FM.or_comm]; exact mul_parts P hP
  have m2 : P / 18446744073709551616 / 4294967296 = P / 4294967296 / 18446744073709551616 := by omega
  have m3 : Go.bits .and .u64 (P % 18446744073709551616) 4294967295 = P % 4294967296 := by rw [and_low _ (by omega) (by omega)]; omega
  have hf := mul_floor P hP
  rw [m1, m2, m3]
  have q1 : P / 4294967296 < 18446744073709551616 * 4294967296 := by omega
  have R1 := rway_eq hk (P / 4294967296) (by omega) q1 true
  have R2 := rway_eq hk (P / 4294967296) (by omega) q1 false
  simp only [if_true, Bool.false_eq_true, if_false] at R1 R2
  refine ⟨R2.1, ?_⟩
  by_cases hr : P % 4294967296 = 0
  · rw [if_pos hr, R1.1, hf, if_neg (fun h => h hr), Int.add_zero]
  · rw [if_neg hr, R1.2, hf, if_pos hr]
theorem bind_some_id {α : Type} (x : Option α) : (x.bind fun t => some t) = x := by cases x <;> rfl
theorem szm {a b : Int} : ((a < 0 ↔ b < 0) → a * b = sz a * sz b) ∧ (¬ (a < 0 ↔ b < 0) → a * b = -(sz a * sz b)) := by
  unfold sz
  by_cases h1 : a < 0 <;> by_cases h2 : b < 0 <;> simp [h1, h2, Int.neg_mul, Int.mul_neg]
theorem rmul_eq {k : Nat} (hk : 400 ≤ k) {a b : Int} (ha : In a) (hb : In b) : lysimeterref1_Mul.f k a b = some (sat (a * b / 4294967296)) := by
  obtain ⟨e1, e2⟩ := @szm a b
  have a0 := sz_nonneg a
  have b0 := sz_nonneg b
  have a1 := sz_le ha.1 ha.2
  have b1 := sz_le hb.1 hb.2
  have s1 := rsize_eq ha
  have s2 := rsize_eq hb
  have R := rmul_way hk _ (Int.mul_nonneg a0 b0) (prod_bd a0 a1 b0 b1).2
  have T := times_eq a0 (show sz a < 18446744073709551616 by omega) b0 (show sz b < 18446744073709551616 by omega)
  unfold lysimeterref1_Mul.f
  rw [s1, s2]
  generalize sz a = n at *
  generalize sz b = d at *
  simp -implicitDefEqProofs only [Option.bind_some, T, bind_some_id]
  by_cases h1 : a < 0
  · by_cases h2 : b < 0
    · rw [if_pos h1, if_pos h2, R.1, e1 (by simp [h1, h2])]
    · rw [if_pos h1, if_neg h2, R.2, e2 (by simp [h1, h2])]
  · by_cases h2 : b < 0
    · rw [if_neg h1, if_pos h2, R.2, e2 (by simp [h1, h2])]
    · rw [if_neg h1, if_neg h2, R.1, e1 (by simp [h1, h2])]
/-! ### By a divisor above 0: rounded down, and up -/
theorem divS_pos {a b : Int} (hb : 0 < b) : divS a b = sat (a * 4294967296 / b) := by
  unfold divS quoS
  rw [if_neg (by omega)]
  have e2 : sz b = b := by unfold sz; rw [if_neg (by omega)]
  have d2 : decide (b < 0) = false := decide_eq_false (by omega)
  rw [e2, d2]
  by_cases h : a < 0
  · have e1 : sz a = -a := by unfold sz; rw [if_pos h]
    rw [e1, decide_eq_true h]
    simp only [Bool.true_bne, Bool.not_false, if_true, id]
    have h1 := Int.emod_add_mul_ediv (-a * 4294967296) b
    have h2 := Int.emod_nonneg (-a * 4294967296) (show b ≠ 0 by omega)
    have h3 := Int.emod_lt_of_pos (-a * 4294967296) hb
    congr 1
    by_cases hr : -a * 4294967296 % b = 0
    · have : a * 4294967296 / b = -(-a * 4294967296 / b) := by
        refine ((Int.ediv_emod_unique (r := 0) hb).2 ⟨?_, by omega, hb⟩).1
        rw [Int.mul_neg]; omega
      rw [this]; simp [hr]
    · have : a * 4294967296 / b = -(-a * 4294967296 / b + 1) := by
        refine ((Int.ediv_emod_unique (r := b - -a * 4294967296 % b) hb).2 ⟨?_, by omega, by omega⟩).1
        have : b * -(-a * 4294967296 / b + 1) = -(b * (-a * 4294967296 / b)) - b := by grind
        omega
      rw [this]; simp [hr]
  · have e1 : sz a = a := by unfold sz; rw [if_neg h]
    rw [e1, decide_eq_false h]
    simp
theorem cdivS_pos {a b : Int} (hb : 0 < b) : cdivS a b = sat (-(-(a * 4294967296) / b)) := by
  unfold cdivS quoS
  rw [if_neg (by omega)]
  have e2 : sz b = b := by unfold sz; rw [if_neg (by omega)]
  have d2 : decide (b < 0) = false := decide_eq_false (by omega)
  rw [e2, d2]
  by_cases h : a < 0
  · have e1 : sz a = -a := by unfold sz; rw [if_pos h]
    rw [e1, decide_eq_true h]
    simp [Int.neg_mul]
  · have e1 : sz a = a := by unfold sz; rw [if_neg h]
    rw [e1, decide_eq_false h]
    have h1 := Int.emod_add_mul_ediv (a * 4294967296) b
    have h2 := Int.emod_nonneg (a * 4294967296) (show b ≠ 0 by omega)
    have h3 := Int.emod_lt_of_pos (a * 4294967296) hb
    by_cases hr : a * 4294967296 % b = 0
    · have : -(a * 4294967296) / b = -(a * 4294967296 / b) := by
        refine ((Int.ediv_emod_unique (r := 0) hb).2 ⟨?_, by omega, hb⟩).1
        rw [Int.mul_neg]; omega
      rw [this]; simp [hr]
    · have : -(a * 4294967296) / b = -(a * 4294967296 / b + 1) := by
        refine ((Int.ediv_emod_unique (r := b - a * 4294967296 % b) hb).2 ⟨?_, by omega, by omega⟩).1
        have : b * -(a * 4294967296 / b + 1) = -(b * (a * 4294967296 / b)) - b := by grind
        omega
      rw [this]; simp [hr]
theorem in_lit {x : Int} (h : decide (-9223372036854775808 ≤ x) = true) (h' : decide (x ≤ 9223372036854775807) = true) : In x := ⟨of_decide_eq_true h, of_decide_eq_true h'⟩
theorem in_divS (a b : Int) : In (divS a b) := by
  unfold divS quoS
  split
  · unfold edgeS; split
    · exact in_lit rfl rfl
    · split
      · exact in_lit rfl rfl
      · exact in_lit rfl rfl
  · exact in_sat _
theorem in_cdivS (a b : Int) : In (cdivS a b) := by
  unfold cdivS quoS
  split
  · unfold edgeS; split
    · exact in_lit rfl rfl
    · split
      · exact in_lit rfl rfl
      · exact in_lit rfl rfl
  · exact in_sat _
theorem alive_eq {k : Nat} (hk : 400 ≤ k) : lysimeterlaw1_alive.f k = some true := by
  unfold lysimeterlaw1_alive.f
  rw [mul_eq hk (in_lit rfl rfl) (in_lit rfl rfl), Option.bind_some, if_pos (by decide), div_eq hk (in_lit rfl rfl) (in_lit rfl rfl), Option.bind_some, if_pos (by decide)]
  rw [of_eq (in_lit rfl rfl), Option.bind_some, if_pos (by decide), floor_eq, Option.bind_some, if_pos (by decide), ceil_eq (in_lit rfl rfl), Option.bind_some]
  rfl
end Go.Proofs.Ytnaeekahmbilnaa.FS
