-- Laid together by wip/shake.py out of: FixMath Shelf
import Derived.Test.YtemnfnbjapobcaaPolicyDecidesm0
import Derived.WalkKit
import Derived.Laws.BitsLemmas
import Derived.RowKit
import Derived.Shelf.Small.Bits
import Derived.Shelf.Strconv.Itoa0
import Derived.Shelf.Bits.Mul64
import Derived.Test.YtemnfnbjapobcaaProg
set_option maxHeartbeats 8000000
set_option maxRecDepth 100000
set_option linter.unusedVariables false
set_option linter.unusedSimpArgs false
namespace Go.Proofs
open Go.RowKit
theorem zq6 {P : Prop} (h : P := by kernel_rfl) : P := h
theorem zaR {P : Prop} (h : P := by decide) : P := h
end Go.Proofs
section
namespace Go.Proofs.Ytemnfnbjapobcaa.FM
open Go.RowKit Go.Proofs.ZW.PrintWords Go.Proofs.ZW.PrintLast Go.Proofs.ZW.PrintMore
theorem zct (n : Int) : IntKind.u64.wrap n = n % 18446744073709551616 := by simp [IntKind.wrap, IntKind.bits, IntKind.signed]
theorem zfB (n : Int) (h0 : 0 ≤ n) (h1 : n < 2 ^ 64) : IntKind.u64.wrap n = n := by rw [zct]; omega
theorem zfG {x : Int} (h : (Lit.int .i64 x).wf = true) : -9223372036854775808 ≤ x ∧ x ≤ 9223372036854775807 := by
 have hmin : IntKind.i64.min = -9223372036854775808 := rfl; have hmax : IntKind.i64.max = 9223372036854775807 := rfl; simp only [Lit.wf, Bool.and_eq_true, decide_eq_true_eq] at h; omega
theorem zaI {n : Int} (h0 : -9223372036854775808 ≤ n) (h1 : n ≤ 9223372036854775807) : wrap64 n = n := by unfold wrap64; omega
theorem zfh (x : Int) (h0 : 0 ≤ x) (h1 : x < 18446744073709551616) : Go.bits .and .u64 x 4294967295 = x % 4294967296 :=
 bits_mask .u64 64 zaR zfB 32 zaR x h0 zq8
theorem zmN (x : Int) (h0 : 0 ≤ x) (h1 : x < 18446744073709551616) : Go.bits .and .u64 x 1 = x % 2 :=
 bits_mask .u64 64 zaR zfB 1 zaR x h0 zq8
theorem zmy (x y : Int) (h0 : 0 ≤ x) (h : x % 4294967296 = 0) (h1 : x < 18446744073709551616) (h2 : 0 ≤ y) (h3 : y < 4294967296) : Go.bits .or .u64 x y = x + y :=
 bits_join .u64 64 zaR zfB 32 x y h0 h zq8 h2 h3 zq8
theorem zjx (x y : Int) (h0 : 0 ≤ x) (h : x % 2 = 0) (h1 : x < 18446744073709551616) (h2 : 0 ≤ y) (h3 : y < 2) : Go.bits .or .u64 x y = x + y :=
 bits_join .u64 64 zaR zfB 1 x y h0 h zq8 h2 h3 zq8
theorem zmz (x y : Int) : Go.bits .or .u64 x y = Go.bits .or .u64 y x := by
 simp only [bits, BitVec.or_comm]
theorem zkp (n : Int) (h0 : 0 ≤ n) (h1 : n < 2 ^ 63) : IntKind.i64.wrap n = n := by rw [IntKind.wrap_i64]; omega
theorem zra (x : Int) (h0 : 0 ≤ x) (h1 : x < 9223372036854775808) : Go.bits .and .i64 x 63 = x % 64 :=
 bits_mask .i64 63 zaR zkp 6 zaR x h0 zq8
theorem znX (x : Int) : BitVec.ofInt 64 x = BitVec.ofInt 64 (x % 18446744073709551616) := by
 apply BitVec.eq_of_toNat_eq
 simp only [BitVec.toNat_ofInt]
 congr 1
 omega
theorem zqv (x y : Int) (hy0 : 0 ≤ y) (hy : y < 9223372036854775808) : Go.bits .and .i64 x y = (((x % 18446744073709551616).toNat &&& y.toNat : Nat) : Int) := by
 have e : Go.bits .and .i64 x y = Go.bits .and .i64 (x % 18446744073709551616) y := by
  have h := znX x; show IntKind.wrap .i64 ((BitVec.ofInt 64 x &&& BitVec.ofInt 64 y).toNat : Int) = IntKind.wrap .i64 ((BitVec.ofInt 64 (x % 18446744073709551616) &&& BitVec.ofInt 64 y).toNat : Int)
  rw [h]
 rw [e]; obtain ⟨a, ha⟩ := Int.eq_ofNat_of_zero_le (show 0 ≤ x % 18446744073709551616 by omega); obtain ⟨b, rfl⟩ := Int.eq_ofNat_of_zero_le hy0; have hal : a < 2 ^ IntKind.i64.bits := by show a < 18446744073709551616; omega
 have hbl : b < 2 ^ IntKind.i64.bits := by show b < 18446744073709551616; omega
 rw [ha]; have hr : a &&& b ≤ b := Nat.and_le_right; simp only [bits, BitVec.ofInt_natCast, BitVec.toNat_and, BitVec.toNat_ofNat, Int.toNat_natCast]; rw [Nat.mod_eq_of_lt hal, Nat.mod_eq_of_lt hbl]; exact zkp _ zq8 zq8
theorem zmq (x : Int) : Go.bits .and .i64 x 4294967295 = x % 4294967296 := by
 rw [zqv x _ zaR zaR]; have h := Nat.and_two_pow_sub_one_eq_mod (x % 18446744073709551616).toNat 32; have h2 : (x % 18446744073709551616).toNat &&& (4294967295 : Int).toNat = (x % 18446744073709551616).toNat % 4294967296 := h; rw [h2]; omega
def sat (z : Int) : Int := if z > 9223372036854775807 then 9223372036854775807 else if z < -9223372036854775808 then -9223372036854775808 else z
theorem zlr {z : Int} (h : 9223372036854775807 ≤ z) : sat z = 9223372036854775807 := by
 unfold sat; split <;> omega
theorem zlq {z : Int} (h : z ≤ -9223372036854775808) : sat z = -9223372036854775808 := by
 unfold sat; rw [if_neg zq8]; split <;> omega
theorem zqF (z : Int) : -9223372036854775808 ≤ sat z := by unfold sat; split; omega; split <;> omega
theorem zqE (z : Int) : sat z ≤ 9223372036854775807 := by unfold sat; split; omega; split <;> omega
def sz (a : Int) : Int := if a < 0 then -a else a
theorem zdX (a : Int) : 0 ≤ sz a := by unfold sz; split <;> omega
theorem zfm {a : Int} (h0 : -9223372036854775808 ≤ a) (h1 : a ≤ 9223372036854775807) : sz a ≤ 9223372036854775808 := by unfold sz; split <;> omega
end Go.Proofs.Ytemnfnbjapobcaa.FM
end
section
namespace Go.Proofs
open Go.Shelf
def Try.lays134_ren : Go.Shelf.Ren := ⟨fun | 134 => 147 | 129 => 148 | n => n, fun | 53 => 134 | 3 => 3 | 4 => 4 | 46 => 82 | 5 => 5 | 9 => 9 | n => n, fun | n => n⟩
theorem Try.lays134 : Go.Proofs.Lays.n134 Try.prog Try.lays134_ren := {
 mixed := by kernel_rfl
 f129 := Try.func148.trans (congrArg some zq6)
 f134 := Try.func147.trans (congrArg some zq6)
 t3 := Try.underlying3
 a3 := Try.isAgg3
 z3 := Try.sizeOf3
 v3 := Try.zeroValue3
 t4 := Try.underlying4
 a4 := Try.isAgg4
 z4 := Try.sizeOf4
 v4 := Try.zeroValue4
 t5 := Try.underlying5
 a5 := Try.isAgg5
 z5 := Try.sizeOf5
 v5 := Try.zeroValue5
 t9 := Try.underlying9
 a9 := Try.isAgg9
 z9 := Try.sizeOf9
 v9 := Try.zeroValue9
 t46 := Try.underlying82
 a46 := Try.isAgg82
 z46 := Try.sizeOf82
 v46 := Try.zeroValue82
 t53 := Try.underlying134
 a53 := Try.isAgg134
 z53 := Try.sizeOf134
 v53 := Try.zeroValue134 }
theorem Try.bits_LeadingZeros64 (x : Int) (w : World) (h0 : 0 ≤ x) (h1 : x ≤ 18446744073709551615) :
 Calls Try.prog 147 #[.int .u64 x] w fun e w' => e = .returned (.int .i64 (64 - (Lib.bitLen x.toNat : Int))) ∧ w' = w := Any.bits_LeadingZeros64 Try.lays134 x w h0 h1
def Try.lays264_ren : Go.Shelf.Ren := ⟨fun | 264 => 109 | n => n, fun | 53 => 134 | 46 => 82 | n => n, fun | n => n⟩
theorem Try.lays264 : Go.Proofs.Lays.n264 Try.prog Try.lays264_ren := {
 mixed := by kernel_rfl
 f264 := Try.func109.trans (congrArg some zq6)
 t46 := Try.underlying82
 a46 := Try.isAgg82
 z46 := Try.sizeOf82
 v46 := Try.zeroValue82
 t53 := Try.underlying134
 a53 := Try.isAgg134
 z53 := Try.sizeOf134
 v53 := Try.zeroValue134 }
open Go.RowKit Go.Lib in
theorem Try.bits_Mul64 (x y : Nat) (hx : x < 18446744073709551616) (hy : y < 18446744073709551616) (w : World) :
 Calls Try.prog 109 #[.int .u64 x, .int .u64 y] w fun e w' => e = .returned (.tuple #[.int .u64 ((x * y / 18446744073709551616 : Nat) : Int), .int .u64 ((x * y % 18446744073709551616 : Nat) : Int)]) ∧ w' = w := Any.bits_Mul64 Try.lays264 x y hx hy w
end Go.Proofs
end
