/- Numbers alone: words of 64 bits, products and quotients, sums that are cut. No program is in sight here. -/
import Derived.WalkKit
import Derived.Laws.BitsLemmas
import Derived.RowKit
import Derived.Test.YtnaeekahmbilnaaWMore
namespace Go.Proofs.Ytnaeekahmbilnaa.FM
open Go.RowKit Go.Proofs.YtnaeekahmbilnaaW.PrintWords Go.Proofs.YtnaeekahmbilnaaW.PrintLast Go.Proofs.YtnaeekahmbilnaaW.PrintMore

theorem u64w (n : Int) : IntKind.u64.wrap n = n % 18446744073709551616 := by simp [IntKind.wrap, IntKind.bits, IntKind.signed]
theorem wraps_u64 (n : Int) (h0 : 0 ≤ n) (h1 : n < 2 ^ 64) : IntKind.u64.wrap n = n := by rw [u64w]; omega
theorem i64_of_wf {x : Int} (h : (Lit.int .i64 x).wf = true) : -9223372036854775808 ≤ x ∧ x ≤ 9223372036854775807 := by
  have hmin : IntKind.i64.min = -9223372036854775808 := rfl
  have hmax : IntKind.i64.max = 9223372036854775807 := rfl
  simp only [Lit.wf, Bool.and_eq_true, decide_eq_true_eq] at h
  omega
theorem wrap64_id {n : Int} (h0 : -9223372036854775808 ≤ n) (h1 : n ≤ 9223372036854775807) : wrap64 n = n := by unfold wrap64; omega
theorem and_low (x : Int) (h0 : 0 ≤ x) (h1 : x < 18446744073709551616) : Go.bits .and .u64 x 4294967295 = x % 4294967296 :=
  bits_mask .u64 64 (by decide) wraps_u64 32 (by decide) x h0 (by omega)
theorem and_one (x : Int) (h0 : 0 ≤ x) (h1 : x < 18446744073709551616) : Go.bits .and .u64 x 1 = x % 2 :=
  bits_mask .u64 64 (by decide) wraps_u64 1 (by decide) x h0 (by omega)
theorem or_join (x y : Int) (h0 : 0 ≤ x) (h : x % 4294967296 = 0) (h1 : x < 18446744073709551616) (h2 : 0 ≤ y) (h3 : y < 4294967296) : Go.bits .or .u64 x y = x + y :=
  bits_join .u64 64 (by decide) wraps_u64 32 x y h0 h (by omega) h2 h3 (by omega)
theorem or_bit (x y : Int) (h0 : 0 ≤ x) (h : x % 2 = 0) (h1 : x < 18446744073709551616) (h2 : 0 ≤ y) (h3 : y < 2) : Go.bits .or .u64 x y = x + y :=
  bits_join .u64 64 (by decide) wraps_u64 1 x y h0 h (by omega) h2 h3 (by omega)
theorem or_comm (x y : Int) : Go.bits .or .u64 x y = Go.bits .or .u64 y x := by
  simp only [bits, BitVec.or_comm]
theorem or_join' (x y : Int) (h0 : 0 ≤ x) (h : x % 4294967296 = 0) (h1 : x < 18446744073709551616) (h2 : 0 ≤ y) (h3 : y < 4294967296) : Go.bits .or .u64 y x = x + y := by
  rw [or_comm]; exact or_join x y h0 h h1 h2 h3
theorem wraps_i64 (n : Int) (h0 : 0 ≤ n) (h1 : n < 2 ^ 63) : IntKind.i64.wrap n = n := by rw [IntKind.wrap_i64]; omega
theorem and_63 (x : Int) (h0 : 0 ≤ x) (h1 : x < 9223372036854775808) : Go.bits .and .i64 x 63 = x % 64 :=
  bits_mask .i64 63 (by decide) wraps_i64 6 (by decide) x h0 (by omega)
theorem ofInt_mod (x : Int) : BitVec.ofInt 64 x = BitVec.ofInt 64 (x % 18446744073709551616) := by
  apply BitVec.eq_of_toNat_eq
  simp only [BitVec.toNat_ofInt]
  congr 1
  omega
theorem and_i64 (x y : Int) (hy0 : 0 ≤ y) (hy : y < 9223372036854775808) : Go.bits .and .i64 x y = (((x % 18446744073709551616).toNat &&& y.toNat : Nat) : Int) := by
  have e : Go.bits .and .i64 x y = Go.bits .and .i64 (x % 18446744073709551616) y := by
    have h := ofInt_mod x
    show IntKind.wrap .i64 ((BitVec.ofInt 64 x &&& BitVec.ofInt 64 y).toNat : Int) = IntKind.wrap .i64 ((BitVec.ofInt 64 (x % 18446744073709551616) &&& BitVec.ofInt 64 y).toNat : Int)
    rw [h]
  rw [e]
  obtain ⟨a, ha⟩ := Int.eq_ofNat_of_zero_le (show 0 ≤ x % 18446744073709551616 by omega)
  obtain ⟨b, rfl⟩ := Int.eq_ofNat_of_zero_le hy0
  have hal : a < 2 ^ IntKind.i64.bits := by show a < 18446744073709551616; omega
  have hbl : b < 2 ^ IntKind.i64.bits := by show b < 18446744073709551616; omega
  rw [ha]
  have hr : a &&& b ≤ b := Nat.and_le_right
  simp only [bits, BitVec.ofInt_natCast, BitVec.toNat_and, BitVec.toNat_ofNat, Int.toNat_natCast]
  rw [Nat.mod_eq_of_lt hal, Nat.mod_eq_of_lt hbl]
  exact wraps_i64 _ (by omega) (by omega)
theorem and_i64_low (x : Int) : Go.bits .and .i64 x 4294967295 = x % 4294967296 := by
  rw [and_i64 x _ (by decide) (by decide)]
  have h := Nat.and_two_pow_sub_one_eq_mod (x % 18446744073709551616).toNat 32
  have h2 : (x % 18446744073709551616).toNat &&& (4294967295 : Int).toNat = (x % 18446744073709551616).toNat % 4294967296 := h
  rw [h2]
  omega
theorem and_i64_one (x : Int) : Go.bits .and .i64 x 1 = x % 2 := by
  rw [and_i64 x _ (by decide) (by decide)]
  have h := Nat.and_two_pow_sub_one_eq_mod (x % 18446744073709551616).toNat 1
  have h2 : (x % 18446744073709551616).toNat &&& (1 : Int).toNat = (x % 18446744073709551616).toNat % 2 := h
  rw [h2]
  omega

/-! ### A number that is cut at the ends -/
def sat (z : Int) : Int := if z > 9223372036854775807 then 9223372036854775807 else if z < -9223372036854775808 then -9223372036854775808 else z
theorem sat_id {z : Int} (h0 : -9223372036854775808 ≤ z) (h1 : z ≤ 9223372036854775807) : sat z = z := by
  unfold sat; rw [if_neg (by omega), if_neg (by omega)]
theorem sat_hi {z : Int} (h : 9223372036854775807 ≤ z) : sat z = 9223372036854775807 := by
  unfold sat; split <;> omega
theorem sat_lo {z : Int} (h : z ≤ -9223372036854775808) : sat z = -9223372036854775808 := by
  unfold sat; rw [if_neg (by omega)]; split <;> omega
theorem sat_ge (z : Int) : -9223372036854775808 ≤ sat z := by unfold sat; split; omega; split <;> omega
theorem sat_le (z : Int) : sat z ≤ 9223372036854775807 := by unfold sat; split; omega; split <;> omega
theorem sat_mono {x y : Int} (h : x ≤ y) : sat x ≤ sat y := by unfold sat; repeat' split
                                                               all_goals omega
/-- A size without its sign. -/
def sz (a : Int) : Int := if a < 0 then -a else a
theorem sz_nonneg (a : Int) : 0 ≤ sz a := by unfold sz; split <;> omega
theorem sz_le {a : Int} (h0 : -9223372036854775808 ≤ a) (h1 : a ≤ 9223372036854775807) : sz a ≤ 9223372036854775808 := by unfold sz; split <;> omega
/-- The quotient of n by d, rounded down, where the sign is told apart. -/
def sg (neg : Bool) (m : Int) : Int := if neg then -m else m
end Go.Proofs.Ytnaeekahmbilnaa.FM
