/- What the functions of package fixed and of the reference compute: sums, differences, sizes, products, each as a number that is cut at the ends. -/
import Derived.Test.YtnaeekahmbilnaaFixMath
import Derived.Test.YtnaeekahmbilnaaFixx
namespace Go.Proofs.Ytnaeekahmbilnaa.FS
open Go.RowKit Go.Proofs.Ytnaeekahmbilnaa.Fix Go.Proofs.Ytnaeekahmbilnaa.FM Go.Proofs.YtnaeekahmbilnaaW.PrintWords Go.Proofs.YtnaeekahmbilnaaW.PrintLast Go.Proofs.YtnaeekahmbilnaaW.PrintMore

def In (x : Int) : Prop := -9223372036854775808 ≤ x ∧ x ≤ 9223372036854775807
theorem in_sat (z : Int) : In (sat z) := ⟨sat_ge z, sat_le z⟩

theorem add_eq {k : Nat} (hk : 400 ≤ k) {a b : Int} (ha : In a) (hb : In b) : fixed_Add.f k a b = some (sat (a + b)) := by
  obtain ⟨k, rfl⟩ : ∃ m, k = m + 1 := ⟨k - 1, by omega⟩
  obtain ⟨a0, a1⟩ := ha
  obtain ⟨b0, b1⟩ := hb
  unfold fixed_Add.f
  simp only [fixed_Add.j0]
  unfold wrap64 sat
  repeat' split
  all_goals first | (congr 1; omega) | (simp_all; done) | (simp_all; omega)
theorem sub_eq {k : Nat} (hk : 400 ≤ k) {a b : Int} (ha : In a) (hb : In b) : fixed_Sub.f k a b = some (sat (a - b)) := by
  obtain ⟨k, rfl⟩ : ∃ m, k = m + 1 := ⟨k - 1, by omega⟩
  obtain ⟨a0, a1⟩ := ha
  obtain ⟨b0, b1⟩ := hb
  unfold fixed_Sub.f
  simp only [fixed_Sub.j0]
  unfold wrap64 sat
  repeat' split
  all_goals first | (congr 1; omega) | (simp_all; done) | (simp_all; omega)
theorem neg_eq {k : Nat} (hk : 400 ≤ k) {a : Int} (ha : In a) : fixed_Neg.f k a = some (sat (-a)) := by
  unfold fixed_Neg.f
  rw [sub_eq hk (⟨by decide, by decide⟩ : In 0) ha]
  simp
theorem radd_eq {k : Nat} (hk : 400 ≤ k) {a b : Int} (ha : In a) (hb : In b) : lysimeterref1_Add.f k a b = some (sat (a + b)) := by
  obtain ⟨k, rfl⟩ : ∃ m, k = m + 1 := ⟨k - 1, by omega⟩
  obtain ⟨a0, a1⟩ := ha
  obtain ⟨b0, b1⟩ := hb
  unfold lysimeterref1_Add.f
  simp only [lysimeterref1_Add.j0]
  unfold wrap64 sat
  repeat' split
  all_goals first | (congr 1; omega) | (simp_all; done) | (simp_all; omega)
theorem rneg_eq {a : Int} (ha : In a) : lysimeterref1_Neg.f a = some (sat (-a)) := by
  obtain ⟨a0, a1⟩ := ha
  unfold lysimeterref1_Neg.f wrap64 sat
  repeat' split
  all_goals first | rfl | (congr 1; omega) | omega
theorem rsub_eq {k : Nat} (hk : 400 ≤ k) {a b : Int} (ha : In a) (hb : In b) : lysimeterref1_Sub.f k a b = some (sat (a - b)) := by
  unfold lysimeterref1_Sub.f
  by_cases h : b = -9223372036854775808
  · rw [if_pos h]
    obtain ⟨a0, a1⟩ := ha
    unfold wrap64 sat
    repeat' split
    all_goals first | rfl | (congr 1; omega) | omega
  · rw [if_neg h]
    obtain ⟨b0, b1⟩ := hb
    have e : wrap64 (-b) = -b := wrap64_id (by omega) (by omega)
    rw [e, radd_eq hk ha ⟨by omega, by omega⟩]
    simp only [Option.bind_some]
    congr 2
theorem of_eq {n : Int} (_hn : In n) : fixed_Of.f n = some (sat (n * 4294967296)) := by
  unfold fixed_Of.f wrap64 sat
  repeat' split
  all_goals first | rfl | (congr 1; omega) | omega
theorem rof_eq {n : Int} (_hn : In n) : lysimeterref1_Of.f n = some (sat (n * 4294967296)) := by
  unfold lysimeterref1_Of.f wrap64 sat
  repeat' split
  all_goals first | rfl | (congr 1; omega) | omega
theorem floor_eq (x : Int) : fixed_Floor.f x = some (x / 4294967296) := rfl
theorem rfloor_eq (x : Int) : lysimeterref1_Floor.f x = some (x / 4294967296) := rfl
theorem ceil_eq {x : Int} (hx : In x) : fixed_Ceil.f x = some (-(-x / 4294967296)) := by
  obtain ⟨a0, a1⟩ := hx
  unfold fixed_Ceil.f wrap64
  repeat' split
  all_goals first | rfl | (congr 1; omega) | omega
theorem rceil_eq {x : Int} (hx : In x) : lysimeterref1_Ceil.f x = some (-(-x / 4294967296)) := by
  obtain ⟨a0, a1⟩ := hx
  unfold lysimeterref1_Ceil.f
  rw [and_i64_low]
  unfold wrap64
  repeat' split
  all_goals first | rfl | (congr 1; omega) | omega

/-! ### Products -/
theorem size_eq {a : Int} (ha : In a) : fixed_size.f a = some (sz a) := by
  obtain ⟨a0, a1⟩ := ha
  unfold fixed_size.f sz
  simp only [u64w]
  repeat' split
  all_goals (congr 1; omega)
theorem rsize_eq {a : Int} (ha : In a) : lysimeterref1_size.f a = some (sz a) := by
  obtain ⟨a0, a1⟩ := ha
  unfold lysimeterref1_size.f sz wrap64
  simp only [u64w]
  repeat' split
  all_goals (congr 1; omega)
/-- A size m is told by its low word and whether it is too great. -/
theorem rounded_eq (m : Int) (h0 : 0 ≤ m) (more : Bool) : fixed_rounded.f (m % 18446744073709551616) (decide (18446744073709551616 ≤ m)) more =
    some ((m + if more then 1 else 0) % 18446744073709551616, decide (18446744073709551616 ≤ m + if more then 1 else 0)) := by
  unfold fixed_rounded.f
  simp only [u64w]
  cases more
  · simp
  · by_cases h : 18446744073709551616 ≤ m
    · simp only [if_true, h]
      have h2 : 18446744073709551616 ≤ m + 1 := by omega
      simp [h2]
    · simp only [if_true, decide_eq_false h]
      simp only [Bool.false_eq_true, if_false]
      congr 2
      · omega
      · rw [Bool.eq_iff_iff]; simp; omega
theorem signed_eq {k : Nat} (hk : 1 ≤ k) (m : Int) (h0 : 0 ≤ m) (below : Bool) : fixed_signed.f k (m % 18446744073709551616) (decide (18446744073709551616 ≤ m)) below = some (sat (if below then -m else m)) := by
  obtain ⟨k, rfl⟩ : ∃ q, k = q + 1 := ⟨k - 1, by omega⟩
  unfold fixed_signed.f
  simp only [fixed_signed.j0]
  unfold wrap64 sat
  cases below
  · by_cases h : 18446744073709551616 ≤ m
    · simp [h]
      repeat' split
      all_goals first | done | rfl | omega
    · simp [h]
      repeat' split
      all_goals first | rfl | (congr 1; omega) | omega | (simp; omega)
  · by_cases h : 18446744073709551616 ≤ m
    · simp [h]
      repeat' split
      all_goals first | done | rfl | omega
    · simp [h]
      repeat' split
      all_goals first | rfl | (congr 1; omega) | omega | (simp; omega)
theorem back_eq {k : Nat} (hk : 1 ≤ k) (hi lo : Int) (h0 : 0 ≤ hi) (l0 : 0 ≤ lo) (l1 : lo < 18446744073709551616) (neg : Bool) : lysimeterref1_back.f k neg hi lo = some (sat (if neg then -(hi * 18446744073709551616 + lo) else hi * 18446744073709551616 + lo)) := by
  obtain ⟨k, rfl⟩ : ∃ q, k = q + 1 := ⟨k - 1, by omega⟩
  unfold lysimeterref1_back.f
  simp only [lysimeterref1_back.j0]
  unfold wrap64 sat
  cases neg
  · simp
    repeat' split
    all_goals first | done | rfl | (congr 1; omega) | omega
  · simp
    repeat' split
    all_goals first | done | rfl | (congr 1; omega) | omega
theorem more_eq (hi lo : Int) (h0 : 0 ≤ hi) (h1 : hi < 18446744073709551615) (l0 : 0 ≤ lo) (l1 : lo < 18446744073709551616) :
    ∃ hi' lo', lysimeterref1_more.f hi lo = some (hi', lo') ∧ 0 ≤ hi' ∧ 0 ≤ lo' ∧ lo' < 18446744073709551616 ∧ hi' * 18446744073709551616 + lo' = hi * 18446744073709551616 + lo + 1 := by
  unfold lysimeterref1_more.f
  simp only [u64w]
  by_cases h : (lo + 1) % 18446744073709551616 = 0
  · rw [if_pos h]
    exact ⟨_, _, rfl, by omega, by omega, by omega, by omega⟩
  · rw [if_neg h]
    exact ⟨_, _, rfl, by omega, by omega, by omega, by omega⟩
theorem prod_bd {x y m : Int} (hx0 : 0 ≤ x) (hx : x ≤ m) (hy0 : 0 ≤ y) (hy : y ≤ m) : 0 ≤ x * y ∧ x * y ≤ m * m :=
  ⟨Int.mul_nonneg hx0 hy0, Int.mul_le_mul hx hy hy0 (by omega)⟩
theorem times_eq {a b : Int} (ha0 : 0 ≤ a) (ha : a < 18446744073709551616) (hb0 : 0 ≤ b) (hb : b < 18446744073709551616) :
    lysimeterref1_times.f a b = some (a * b / 18446744073709551616, a * b % 18446744073709551616) := by
  unfold lysimeterref1_times.f
  rw [and_low a ha0 ha, and_low b hb0 hb]
  obtain ⟨al, hal⟩ : ∃ x, a % 4294967296 = x := ⟨_, rfl⟩
  obtain ⟨ah, hah⟩ : ∃ x, a / 4294967296 = x := ⟨_, rfl⟩
  obtain ⟨bl, hbl⟩ : ∃ x, b % 4294967296 = x := ⟨_, rfl⟩
  obtain ⟨bh, hbh⟩ : ∃ x, b / 4294967296 = x := ⟨_, rfl⟩
  have ea : a = 4294967296 * ah + al := by omega
  have eb : b = 4294967296 * bh + bl := by omega
  rw [hal, hah, hbl, hbh]
  have d1 := prod_bd (m := 4294967295) (show 0 ≤ al by omega) (by omega) (show 0 ≤ bl by omega) (by omega)
  have d2 := prod_bd (m := 4294967295) (show 0 ≤ al by omega) (by omega) (show 0 ≤ bh by omega) (by omega)
  have d3 := prod_bd (m := 4294967295) (show 0 ≤ ah by omega) (by omega) (show 0 ≤ bl by omega) (by omega)
  have d4 := prod_bd (m := 4294967295) (show 0 ≤ ah by omega) (by omega) (show 0 ≤ bh by omega) (by omega)
  have e : a * b = 18446744073709551616 * (ah * bh) + 4294967296 * (al * bh) + 4294967296 * (ah * bl) + al * bl := by
    rw [ea, eb]; grind
  rw [e]
  clear e ea eb hal hah hbl hbh ha0 ha hb0 hb
  generalize al * bl = LL at *
  generalize al * bh = LH at *
  generalize ah * bl = HL at *
  generalize ah * bh = HH at *
  simp only [u64w]
  have m1 : LL % 18446744073709551616 = LL := by omega
  have m2 : LH % 18446744073709551616 = LH := by omega
  have m3 : HL % 18446744073709551616 = HL := by omega
  have m4 : HH % 18446744073709551616 = HH := by omega
  rw [m1, m2, m3, m4]
  rw [and_low LL (by omega) (by omega), and_low LH (by omega) (by omega), and_low HL (by omega) (by omega)]
  rw [or_join _ _ (by omega) (by omega) (by omega) (by omega) (by omega)]
  congr 2 <;> omega
theorem mul_parts (P : Int) (_h0 : 0 ≤ P) : Go.bits .or .u64 (IntKind.u64.wrap (P / 18446744073709551616 * 4294967296)) (P % 18446744073709551616 / 4294967296) = (P / 4294967296) % 18446744073709551616 := by
  rw [u64w, or_join _ _ (by omega) (by omega) (by omega) (by omega) (by omega)]
  omega
theorem mul_over (P : Int) (_h0 : 0 ≤ P) : ((P / 18446744073709551616 / 4294967296) != 0) = decide (18446744073709551616 ≤ P / 4294967296) := by
  rw [Bool.eq_iff_iff]; simp; omega
theorem mul_rest (P : Int) (_h0 : 0 ≤ P) : ((IntKind.u64.wrap (P % 18446744073709551616 * 4294967296)) != 0) = decide (P % 4294967296 ≠ 0) := by
  rw [u64w, Bool.eq_iff_iff]; simp; omega
theorem sz_mul {a b : Int} : a * b = if (decide (a < 0) != decide (b < 0)) then -(sz a * sz b) else sz a * sz b := by
  unfold sz
  by_cases h1 : a < 0 <;> by_cases h2 : b < 0 <;> simp [h1, h2, Int.neg_mul, Int.mul_neg]
theorem mul_floor (P : Int) (_h0 : 0 ≤ P) : -P / 4294967296 = -(P / 4294967296 + if P % 4294967296 ≠ 0 then 1 else 0) := by
  split <;> omega
theorem mul64_eq {a b : Int} (ha : In a) (hb : In b) : bits_Mul64.f (sz a) (sz b) = some (sz a * sz b / 18446744073709551616, sz a * sz b % 18446744073709551616) := by
  have a0 := sz_nonneg a
  have b0 := sz_nonneg b
  have a1 := sz_le ha.1 ha.2
  have b1 := sz_le hb.1 hb.2
  unfold bits_Mul64.f
  rw [if_pos ⟨a0, by omega, b0, by omega⟩]
theorem mul_eq {k : Nat} (hk : 400 ≤ k) {a b : Int} (ha : In a) (hb : In b) : fixed_Mul.f k a b = some (sat (a * b / 4294967296)) := by
  have hP := Int.mul_nonneg (sz_nonneg a) (sz_nonneg b)
  unfold fixed_Mul.f
  simp only [size_eq ha, size_eq hb, Option.bind_some, mul64_eq ha hb, mul_parts _ hP, mul_over _ hP, mul_rest _ hP]
  have q0 : 0 ≤ sz a * sz b / 4294967296 := by omega
  simp only [rounded_eq _ q0, Option.bind_some]
  have e := @sz_mul a b
  have hf := mul_floor (sz a * sz b) hP
  by_cases h1 : a < 0
  · by_cases h2 : b < 0
    · rw [if_pos h1, if_pos h2, signed_eq (by omega) _ (by omega)]
      simp [h1, h2] at e
      rw [e]; simp
    · rw [if_pos h1, if_neg h2, signed_eq (by omega) _ (by split <;> omega)]
      simp [h1, h2] at e
      rw [e, hf]; simp
  · by_cases h2 : b < 0
    · rw [if_neg h1, if_pos h2, signed_eq (by omega) _ (by split <;> omega)]
      simp [h1, h2] at e
      rw [e, hf]; simp
    · rw [if_neg h1, if_neg h2, signed_eq (by omega) _ (by omega)]
      simp [h1, h2] at e
      rw [e]; simp
end Go.Proofs.Ytnaeekahmbilnaa.FS
