-- Laid together by wip/shake.py out of: VarEq VarEq2 Pkx2 VarRef Pk0 Pk1 Pk2 Pk3 Pqx0 Pqx1 Pk4 VarUnp VarPack VarAll
import Derived.Test.YtemnfnbjapobcaaPolicyPacksm9
import Derived.Laws.BitsLemmas
import Derived.Test.YtemnfnbjapobcaaProg
import Derived.Below
import Derived.Deep.Draws
import Derived.Deep.AppendLies
import Derived.Maps.AppendAt
import Derived.OwnWalk
import Derived.Laws.BytesArg
import Derived.Laws.MakeOwn
import Derived.Laws.OwnMore
import Derived.Deep.OwnRows
import Derived.Tactics
import Derived.Lib.ConvBytes
import Derived.Laws.Slices
import Derived.WalkKit
import Derived.KernelRfl
import Derived.RowKit3
import Derived.Deep.LoopGhost
import Derived.Deep.QuietTactic
import Derived.BigQuiet
import Derived.WideLaws
import Derived.Deep.DeepCutAuto
import Derived.Deep.CutBlock
import Derived.Deep.RegionHeld3
import Derived.Laws.Rows
import Derived.Lib.AppendStr
import Derived.ArgAppend
import Derived.Laws.IdiomCopy
import Derived.OrdersHeld
import Derived.RowKit
section
namespace Go.Proofs.Ytemnfnbjapobcaa.VS
open Go.RowKit Go.Proofs.YtemnfnbjapobcaaW.PrintWords Go.Proofs.Ytemnfnbjapobcaa.Pk
set_option linter.unusedVariables false
theorem vwrap64_id {n : Int} (h0 : -9223372036854775808 ≤ n) (h1 : n ≤ 9223372036854775807) : wrap64 n = n := by unfold wrap64; omega
theorem vu64w (n : Int) : IntKind.u64.wrap n = n % 18446744073709551616 := by simp [IntKind.wrap, IntKind.bits, IntKind.signed]
theorem vwraps_u64 (n : Int) (h0 : 0 ≤ n) (h1 : n < 2 ^ 64) : IntKind.u64.wrap n = n := by rw [vu64w]; omega
theorem or8_all : ∀ n : Fin 256, Go.bits .or .u8 (n.val : Int) 128 = ((n.val % 128 + 128 : Nat) : Int) := by decide +kernel
theorem and8_all : ∀ n : Fin 256, Go.bits .and .u8 (n.val : Int) 127 = ((n.val % 128 : Nat) : Int) := by decide +kernel
theorem or8 (x : Nat) (h : x < 256) : Go.bits .or .u8 (x : Int) 128 = ((x % 128 + 128 : Nat) : Int) := or8_all ⟨x, h⟩
theorem and8 (x : Nat) (h : x < 256) : Go.bits .and .u8 (x : Int) 127 = ((x % 128 : Nat) : Int) := and8_all ⟨x, h⟩
theorem vor_comm (x y : Int) : Go.bits .or .u64 x y = Go.bits .or .u64 y x := by
  simp only [bits, BitVec.or_comm]
theorem pow7 (i : Nat) : (128 : Nat) ^ i = 2 ^ (7 * i) := by rw [Nat.pow_mul]
theorem orS (v c i : Nat) (hi : i ≤ 9) (hv : v < 128 ^ i) (hc : c * 128 ^ i < 18446744073709551616) : Go.bits .or .u64 (v : Int) (shl .u64 (IntKind.u64.wrap (c : Int)) (wrap64 (7 * (i : Int)))) = ((v + c * 128 ^ i : Nat) : Int) := by
  have hp : 0 < 128 ^ i := Nat.pow_pos (by decide)
  have hc1 : c < 18446744073709551616 := Nat.lt_of_le_of_lt (Nat.le_mul_of_pos_right c hp) hc
  have hv64 : v < 18446744073709551616 := by
    have : 128 ^ i ≤ 128 ^ 9 := Nat.pow_le_pow_right (by decide) hi
    have e : (128 : Nat) ^ 9 = 9223372036854775808 := by decide
    omega
  rw [vwraps_u64 (c : Int) (by omega) (by omega), vwrap64_id (by omega) (by omega)]
  unfold shl
  have e1 : min (7 * (i : Int)).toNat IntKind.u64.bits = 7 * i := by
    show min (7 * (i : Int)).toNat 64 = 7 * i
    omega
  have e2 : (c : Int) * 2 ^ (7 * i) = ((c * 128 ^ i : Nat) : Int) := by rw [pow7]; simp
  rw [e1, e2, vwraps_u64 _ (by omega) (by omega), vor_comm]
  have e3 : ((c * 128 ^ i : Nat) : Int) % 2 ^ (7 * i) = 0 := by
    rw [pow7]
    have : ((2 ^ (7 * i) : Nat) : Int) = 2 ^ (7 * i) := by simp
    rw [← this, Int.natCast_mul]
    exact Int.mul_emod_left _ _
  have e4 : (v : Int) < 2 ^ (7 * i) := by
    have : ((2 ^ (7 * i) : Nat) : Int) = 2 ^ (7 * i) := by simp
    rw [← this, ← pow7]
    omega
  rw [bits_join .u64 64 (by decide) vwraps_u64 (7 * i) _ _ (by omega) e3 (by omega) (by omega) e4 (by omega)]
  omega
theorem put_ev : ∀ (u : Nat) (acc : List Int), u < 18446744073709551616 → acc.length + (putN u).length ≤ 1000000 → Ev (fun k => varint_Put.l0 k acc (u : Int)) (acc ++ putN u) := by
  intro u
  induction u using Nat.strongRecOn with
  | _ u ih =>
    intro acc hu hl
    by_cases h : u < 128
    · rw [putN_eq, if_pos h] at hl ⊢
      refine Ev.step (f := fun _ => some (acc ++ [(u : Int)])) (fun k => ?_) (Ev.now _)
      show varint_Put.l0 (k + 1) acc (u : Int) = _
      simp only [varint_Put.l0]
      rw [if_neg (by omega), if_pos (by simp at hl; omega), show (u : Int) % 256 = (u : Int) by omega]
    · rw [putN_eq, if_neg h] at hl ⊢
      rw [List.length_cons] at hl
      have hi := ih (u / 128) (by omega) (acc ++ [((u % 128 + 128 : Nat) : Int)]) (by omega) (by rw [List.length_append, List.length_singleton]; omega)
      rw [List.append_assoc] at hi
      refine Ev.step (fun k => ?_) hi
      show varint_Put.l0 (k + 1) acc (u : Int) = _
      simp only [varint_Put.l0]
      have e1 : (u : Int) % 256 = ((u % 256 : Nat) : Int) := by omega
      have e2 : (u : Int) / 128 = ((u / 128 : Nat) : Int) := by omega
      rw [if_pos (by omega), if_pos (by omega), e1, or8 _ (by omega), e2, show u % 256 % 128 = u % 128 by omega]
theorem pos7 (i : Nat) (h : i ≤ 9) : 0 ≤ wrap64 (7 * (i : Int)) := by
  rw [vwrap64_id (by omega) (by omega)]
  omega
theorem succ1 (i : Nat) (h : i ≤ 1000000) : wrap64 ((i : Int) + 1) = ((i + 1 : Nat) : Int) := by
  rw [vwrap64_id (by omega) (by omega)]
  omega
def fin (r : Option (Nat × Nat)) : Int × Int × Int := match r with
  | none => (0, 0, 5)
  | some (n, k) => (wrap64 (n : Int), (k : Int), 0)
theorem get_ev (l : List Int) (hb : ∀ x ∈ l, 0 ≤ x ∧ x < 256) (hl : l.length ≤ 1000000) : ∀ (d i v : Nat), l.length - i = d → i ≤ 9 → i ≤ l.length → v < 128 ^ i → Ev (fun k => varint_Get.l0 k (v : Int) l (l.length : Int) (i : Int)) (fin (getL i v (l.drop i))) := by
  intro d
  induction d with
  | zero =>
    intro i v hd hi hil hv
    rw [List.drop_eq_nil_of_le (by omega)]
    refine Ev.step (f := fun _ => some (0, 0, 5)) (fun k => ?_) (Ev.now _)
    show varint_Get.l0 (k + 1) (v : Int) l (l.length : Int) (i : Int) = _
    simp only [varint_Get.l0]
    rw [if_neg (by omega)]
  | succ d ih =>
    intro i v hd hi hil hv
    have hlt : i < l.length := by omega
    have e0 : l.drop i = l[i] :: l.drop (i + 1) := by rw [List.drop_eq_getElem_cons hlt]
    have er : rd l (i : Int) = l[i] := by simp [rd, List.getD_eq_getElem?_getD, List.getElem?_eq_getElem hlt]
    obtain ⟨hx0, hx1⟩ := hb l[i] (List.getElem_mem hlt)
    rw [e0]
    obtain ⟨x, hx⟩ : ∃ x : Nat, l[i] = (x : Int) := ⟨l[i].toNat, by omega⟩
    rw [hx] at hx0 hx1 er ⊢
    have hx256 : x < 256 := by omega
    have hp : 0 < 128 ^ i := Nat.pow_pos (by decide)
    refine Ev.step (f := fun k => varint_Get.j1 k (v : Int) (i : Int) (x : Int) l (l.length : Int) (i : Int) (decide (i = 9 ∧ 1 < x))) (fun k => ?_) ?_
    · show varint_Get.l0 (k + 1) (v : Int) l (l.length : Int) (i : Int) = _
      simp only [varint_Get.l0]
      rw [if_pos (by omega), if_pos (by omega), if_pos (by omega), er]
      by_cases h9 : i = 9
      · have eb : decide ((x : Int) > 1) = decide (i = 9 ∧ 1 < x) := by
          by_cases hh : 1 < x
          · rw [decide_eq_true (show (x : Int) > 1 by omega), decide_eq_true ⟨h9, hh⟩]
          · rw [decide_eq_false (show ¬ (x : Int) > 1 by omega), decide_eq_false (fun h => hh h.2)]
        rw [if_pos (by omega), eb]
      · have eb : false = decide (i = 9 ∧ 1 < x) := (decide_eq_false (fun h => h9 h.1)).symm
        rw [if_neg (by omega), eb]
    unfold getL
    by_cases h9 : i = 9 ∧ 1 < x
    · rw [if_pos ⟨h9.1, by omega⟩]
      refine Ev.step (f := fun _ => some (0, 0, 5)) (fun k => ?_) (Ev.now _)
      simp only [varint_Get.j1]
      rw [if_pos (decide_eq_true h9)]
    rw [if_neg (fun hh => h9 ⟨hh.1, by omega⟩)]
    have hc : x % 128 * 128 ^ i < 18446744073709551616 := by
      by_cases e9 : i = 9
      · have : x ≤ 1 := by
          by_cases hh : 1 < x
          · exact absurd ⟨e9, hh⟩ h9
          · omega
        have e : (128 : Nat) ^ 9 = 9223372036854775808 := by decide
        rw [e9, e]
        have : x % 128 ≤ 1 := by omega
        omega
      · have h1 : 128 ^ i ≤ 128 ^ 8 := Nat.pow_le_pow_right (by decide) (by omega)
        have e : (128 : Nat) ^ 8 = 72057594037927936 := by decide
        have h2 : x % 128 * 128 ^ i ≤ 127 * 128 ^ 8 := Nat.mul_le_mul (by omega) h1
        omega
    have eo := orS v (x % 128) i hi hv hc
    rw [← and8 x hx256] at eo
    have EO := Aside0.mk eo
    clear eo
    by_cases h2 : 128 ≤ x
    · rw [if_pos (by omega)]
      have hi9 : i ≠ 9 := fun e => h9 ⟨e, by omega⟩
      have hxm : x % 128 = x - 128 := by omega
      have hv' : v + (x - 128) * 128 ^ i < 128 ^ (i + 1) := by
        rw [Nat.pow_succ]
        have : (x - 128) * 128 ^ i ≤ 127 * 128 ^ i := Nat.mul_le_mul_right _ (by omega)
        omega
      have := ih (i + 1) (v + (x - 128) * 128 ^ i) (by omega) (by omega) (by omega) hv'
      rw [Int.toNat_natCast]
      refine Ev.step (fun k => ?_) this
      simp only [varint_Get.j1]
      rw [if_neg (by rw [decide_eq_false h9]; decide), if_pos (pos7 i hi), if_pos (by omega), EO.out, succ1 i (by omega), hxm]
    · rw [if_neg (by omega)]
      have hxm : x % 128 = x := by omega
      by_cases h3 : x = 0 ∧ 0 < i
      · rw [if_pos ⟨by omega, h3.2⟩]
        refine Ev.step (f := fun _ => some (0, 0, 5)) (fun k => ?_) (Ev.now _)
        simp only [varint_Get.j1]
        rw [if_neg (by rw [decide_eq_false h9]; decide), if_pos (pos7 i hi), if_neg (by omega), if_pos (by omega), if_pos (by omega)]
      · rw [if_neg (fun hh => h3 ⟨by omega, hh.2⟩)]
        refine Ev.step (f := fun _ => some (fin (some (v + x * 128 ^ i, i + 1)))) (fun k => ?_) (by rw [Int.toNat_natCast]; exact Ev.now _)
        simp only [varint_Get.j1]
        rw [if_neg (by rw [decide_eq_false h9]; decide), if_pos (pos7 i hi), if_neg (by omega), EO.out, succ1 i (by omega), hxm]
        by_cases h4 : x = 0
        · rw [if_pos (by omega), if_neg (by omega)]
          rfl
        · rw [if_neg (by omega)]
          rfl
end Go.Proofs.Ytemnfnbjapobcaa.VS
end
section
namespace Go.Proofs.Ytemnfnbjapobcaa.VS
open Go.RowKit Go.Proofs.YtemnfnbjapobcaaW.PrintWords Go.Proofs.Ytemnfnbjapobcaa.Pk
set_option linter.unusedVariables false
theorem ofInt_nat (x : Nat) (h : x < 18446744073709551616) : (BitVec.ofInt 64 (x : Int)).toNat = x := by
  rw [BitVec.toNat_ofInt]
  omega
theorem xor_max (x : Nat) (h : x < 18446744073709551616) : Go.bits .xor .u64 (x : Int) 18446744073709551615 = ((18446744073709551615 - x : Nat) : Int) := by
  have e : BitVec.ofInt 64 18446744073709551615 = BitVec.allOnes 64 := by decide
  show IntKind.wrap .u64 ((BitVec.ofInt 64 (x : Int) ^^^ BitVec.ofInt 64 18446744073709551615).toNat : Int) = _
  rw [e, BitVec.xor_allOnes, BitVec.toNat_not, ofInt_nat x h]
  have e2 : 2 ^ 64 - 1 - x = 18446744073709551615 - x := rfl
  rw [e2, vwraps_u64 _ (by omega) (by omega)]
theorem xor_neg (x : Nat) (h : x < 9223372036854775808) : Go.bits .xor .i64 (x : Int) (-1) = -(x : Int) - 1 := by
  have e : BitVec.ofInt 64 (-1) = BitVec.allOnes 64 := by decide
  show IntKind.wrap .i64 ((BitVec.ofInt 64 (x : Int) ^^^ BitVec.ofInt 64 (-1)).toNat : Int) = _
  rw [e, BitVec.xor_allOnes, BitVec.toNat_not, ofInt_nat x (by omega)]
  have e2 : 2 ^ 64 - 1 - x = 18446744073709551615 - x := rfl
  rw [e2, IntKind.wrap_i64]
  omega
theorem xor_u0 (x : Nat) (h : x < 18446744073709551616) : Go.bits .xor .u64 (x : Int) 0 = (x : Int) := by
  have e : BitVec.ofInt 64 0 = 0#64 := by decide
  show IntKind.wrap .u64 ((BitVec.ofInt 64 (x : Int) ^^^ BitVec.ofInt 64 0).toNat : Int) = _
  rw [e, BitVec.xor_zero, ofInt_nat x h, vwraps_u64 _ (by omega) (by omega)]
theorem xor_i0 (x : Nat) (h : x < 9223372036854775808) : Go.bits .xor .i64 (x : Int) 0 = (x : Int) := by
  have e : BitVec.ofInt 64 0 = 0#64 := by decide
  show IntKind.wrap .i64 ((BitVec.ofInt 64 (x : Int) ^^^ BitVec.ofInt 64 0).toNat : Int) = _
  rw [e, BitVec.xor_zero, ofInt_nat x (by omega), IntKind.wrap_i64]
  omega
theorem zig_eq {x : Int} (h1 : -9223372036854775808 ≤ x) (h2 : x ≤ 9223372036854775807) : varint_Zig.f x = some (wrap64 (zigN x : Int)) := by
  unfold varint_Zig.f zigN
  by_cases h : x < 0
  · have e1 : x / 9223372036854775808 = -1 := by omega
    have e2 : IntKind.u64.wrap (-1) = 18446744073709551615 := by rw [vu64w]; decide
    have e3 : IntKind.u64.wrap (IntKind.u64.wrap x * 2) = ((18446744073709551616 + 2 * x).toNat : Int) := by rw [vu64w, vu64w]; omega
    rw [e1, e2, e3, xor_max _ (by omega), if_pos h]
    have e4 : ((18446744073709551615 - (18446744073709551616 + 2 * x).toNat : Nat) : Int) = ((-2 * x - 1).toNat : Int) := by omega
    rw [e4]
  · have e1 : x / 9223372036854775808 = 0 := by omega
    have e2 : IntKind.u64.wrap 0 = 0 := by rw [vu64w]; decide
    have e3 : IntKind.u64.wrap (IntKind.u64.wrap x * 2) = ((2 * x).toNat : Int) := by rw [vu64w, vu64w]; omega
    rw [e1, e2, e3, xor_u0 _ (by omega), if_neg h]
theorem unwrap (z : Nat) (h : z < 18446744073709551616) : IntKind.u64.wrap (wrap64 (z : Int)) = (z : Int) := by
  rw [vu64w]
  unfold wrap64
  omega
theorem signS_len {x : Int} (h1 : -9223372036854775808 ≤ x) (h2 : x ≤ 9223372036854775807) : (signS x).length ≤ 10 := putN_len 9 _ (Nat.lt_trans (zig_lt h1 h2) (by decide))
theorem signed_ev {x : Int} (h1 : -9223372036854775808 ≤ x) (h2 : x ≤ 9223372036854775807) : Ev (fun k => varint_Signed.f k x) (signS x) := by
  have hz := zig_lt h1 h2
  have hl := signS_len h1 h2
  have hp := put_ev (zigN x) [] hz (by show 0 + (signS x).length ≤ _; omega)
  have e : ∀ k, varint_Signed.f k x = varint_Put.l0 k [] (zigN x : Int) := by
    intro k
    unfold varint_Signed.f
    rw [zig_eq h1 h2, Option.bind_some]
    unfold varint_Put.f
    rw [unwrap _ hz]
    cases varint_Put.l0 k [] (zigN x : Int) <;> rfl
  exact Ev.congr e hp
theorem and_one64 (z : Nat) (h : z < 18446744073709551616) : Go.bits .and .i64 (wrap64 (z : Int)) 1 = ((z % 2 : Nat) : Int) := by
  show IntKind.wrap .i64 ((BitVec.ofInt 64 (wrap64 (z : Int)) &&& BitVec.ofInt 64 1).toNat : Int) = _
  have e : (BitVec.ofInt 64 (wrap64 (z : Int))).toNat = z := by
    rw [BitVec.toNat_ofInt]
    unfold wrap64
    omega
  have e1 : (BitVec.ofInt 64 1).toNat = 1 := by decide
  rw [BitVec.toNat_and, e, e1, Nat.and_one_is_mod, IntKind.wrap_i64]
  omega
theorem zag_eq (z : Nat) (h : z < 18446744073709551616) : varint_Zag.f (wrap64 (z : Int)) = some (zagN z) := by
  unfold varint_Zag.f zagN
  rw [unwrap z h, and_one64 z h]
  have e1 : wrap64 ((z : Int) / 2) = ((z / 2 : Nat) : Int) := by rw [vwrap64_id (by omega) (by omega)]; omega
  rw [e1]
  by_cases h2 : z % 2 = 0
  · have e2 : wrap64 (-((z % 2 : Nat) : Int)) = 0 := by rw [h2]; unfold wrap64; omega
    rw [e2, xor_i0 _ (by omega), if_pos h2]
  · have e2 : wrap64 (-((z % 2 : Nat) : Int)) = -1 := by rw [show z % 2 = 1 by omega]; unfold wrap64; omega
    rw [e2, xor_neg _ (by omega), if_neg h2]
theorem getSigned_ev (l : List Int) (hb : ∀ x ∈ l, 0 ≤ x ∧ x < 256) (hl : l.length ≤ 1000000) : Ev (fun k => varint_GetSigned.f k l) (getS l) := by
  obtain ⟨K, hK⟩ := get_ev l hb hl (l.length - 0) 0 0 rfl (by decide) (Nat.zero_le _) (by decide)
  refine ⟨K, fun k hk => ?_⟩
  have hg : varint_Get.f k l = some (fin (getL 0 0 l)) := hK k hk
  show varint_GetSigned.f k l = _
  unfold varint_GetSigned.f getS
  rw [hg, Option.bind_some]
  cases h : getL 0 0 l with
  | none => rfl
  | some r =>
    obtain ⟨n, c⟩ := r
    obtain ⟨u, e1, _, _, _, e5, _⟩ := put_get l 0 0 n c hb (by decide) h
    have e6 : n = u := by simpa using e1
    subst e6
    show (if (0 : Int) = 0 then ((varint_Zag.f (wrap64 (n : Int))).bind fun t => some (t, (c : Int), (0 : Int))) else _) = _
    rw [if_pos rfl, zag_eq n e5]
    rfl
end Go.Proofs.Ytemnfnbjapobcaa.VS
end
section
namespace Go.Proofs.Ytemnfnbjapobcaa.Pk
open Go.RowKit Go.Proofs.YtemnfnbjapobcaaW.PrintWords Go.Proofs.YtemnfnbjapobcaaW.PrintLast Go.Proofs.YtemnfnbjapobcaaW.PrintMore
attribute [local go_sem] max2_int min2_int max_two min_two max_three min_three max_four min_four   -- for this text's walks alone
set_option linter.unusedVariables false
set_option linter.unusedSimpArgs false
def lysimeterref4_Signed.f (k : Nat) (a0 : Int) : Option (List Int) := (lysimeterref4_Zig.f a0).bind fun t122 => ((lysimeterref4_Put.f k t122).bind fun t123 => (some t123))
set_option maxHeartbeats 8000000 in
set_option maxRecDepth 100000 in
theorem lysimeterref4_Signed.calls (k : Nat) (a0 : Int) (r : List Int) (w : World) (h : lysimeterref4_Signed.f k a0 = some r) :
    Calls Try.prog 100 #[.int .i64 a0] w fun e w' => ∃ v0_ : Value, e = .returned (v0_) ∧ Kd.R (Kd.int .u8) 5 w' w.heap.size (fun _ => True) v0_ r ∧ Below w.heap.size w w' := by
  have HB := Aside0.mk (Below.refl w.heap.size w)
  have H : ((lysimeterref4_Zig.f a0).bind fun t122 => ((lysimeterref4_Put.f k t122).bind fun t123 => (some t123))) = some r := h
  clear h
  replace H := Option.bind_eq_some_iff.mp H
  obtain ⟨t122, A20, H⟩ := H
  replace H : ((lysimeterref4_Put.f k t122).bind fun t123 => (some t123)) = some r := H
  have A2 := Aside0.mk A20
  clear A20
  replace H := Option.bind_eq_some_iff.mp H
  obtain ⟨t123, A30, H⟩ := H
  replace H : (some t123) = some r := H
  have A3 := Aside0.mk A30
  clear A30
  obtain rfl := Option.some.inj H
  go_enter Try.func100, Try.ntmps100
  go_wp2_with (first | ((with_reducible refine gate_callee (f := 133) rfl ?_); refine goesL_ (some 4) rfl rfl Try.func133 (by kernel_rfl) rfl #[.int .i64 a0] rfl (by (try simp only [List.map_toArray, List.map_cons, List.map_nil]); first | done | rfl | (simp only [List.length_drop, List.length_take]; rfl)) ?_; (with_reducible refine (lysimeterref4_Zig.calls a0 t122 _ A2.out).mono ?_); rintro e w' ⟨rfl, ⟨nd, rfl⟩⟩; refine ⟨_, rfl, ?_⟩) | ((with_reducible refine gate_callee (f := 132) rfl ?_); refine goesL_ (some 5) rfl rfl Try.func132 (by kernel_rfl) rfl #[.int .i64 t122] rfl (by (try simp only [List.map_toArray, List.map_cons, List.map_nil]); first | done | rfl | (simp only [List.length_drop, List.length_take]; rfl)) ?_; (with_reducible refine (lysimeterref4_Put.calls k t122 t123 _ A3.out).mono ?_); rintro e w4 ⟨v124, rfl, ho0, hb⟩; refine ⟨_, rfl, ?_⟩; have n0_ := Aside0.mk (Kd.R_lower ho0 (below_size (by repeat (first | (with_reducible first | exact HB.out | apply below_alloc | apply pw_below_drewN | apply below_drew1) | exact HB.out)))); have n1_ := Aside0.mk (below_step (by repeat (first | (with_reducible first | exact HB.out | apply below_alloc | apply pw_below_drewN | apply below_drew1) | exact HB.out)) hb); clear HB; have HO125 := n0_; have HB := n1_; clear n0_ n1_; (try clear hb); (try clear hb2); (try clear hk); (try clear hi); (try clear ho0)))
  go_ret
  exact ⟨_, by first | rfl | (simp [errW_none, errW_some] <;> rfl) | (simp [*, errW_none, errW_some] <;> rfl), by (with_reducible repeat (first | apply Kd.R_alloc | apply Kd.R_drewN | apply Kd.R_drew)); exact HO125.out, by repeat (first | (with_reducible first | exact HB.out | apply below_alloc | apply pw_below_drewN | apply below_drew1) | exact HB.out)⟩
mutual
def lysimeterref4_Get.l0 : Nat → List Int → Int → Int → Option (Int × Int × Int)
  | 0, _, _, _ => none
  | k + 1, x0, x5, x6 => if x6 < (x0.length : Int) then (lysimeterref4_Get.j1 k x0 x5 x6 (decide (x6 < 10))) else (lysimeterref4_Get.j1 k x0 x5 x6 false)
def lysimeterref4_Get.j1 : Nat → List Int → Int → Int → Bool → Option (Int × Int × Int)
  | 0, _, _, _, _ => none
  | k + 1, x0, x5, x6, x15 => if x15 = true then (if 0 ≤ x6 then (if x6 < (x0.length : Int) then (if x6 = 9 then (lysimeterref4_Get.j2 k x0 x5 x6 (IntKind.u64.wrap (Go.bits .and .u8 (rd x0 x6) 127)) (decide ((IntKind.u64.wrap (Go.bits .and .u8 (rd x0 x6) 127)) > 1))) else (lysimeterref4_Get.j2 k x0 x5 x6 (IntKind.u64.wrap (Go.bits .and .u8 (rd x0 x6) 127)) false)) else (none)) else (none)) else (some (0, 0, 5))
def lysimeterref4_Get.j2 : Nat → List Int → Int → Int → Int → Bool → Option (Int × Int × Int)
  | 0, _, _, _, _, _ => none
  | k + 1, x0, x5, x6, x7, x29 => if x29 = true then (some (0, 0, 5)) else (if 0 ≤ (IntKind.u64.wrap (wrap64 (7 * x6))) then (if 0 ≤ x6 then (if x6 < (x0.length : Int) then (if (rd x0 x6) < 128 then (if x7 = 0 then (if x6 > 0 then (some (0, 0, 5)) else (some (wrap64 (Go.bits .or .u64 x5 (shl .u64 x7 (IntKind.u64.wrap (wrap64 (7 * x6))))), wrap64 (x6 + 1), 0))) else (some (wrap64 (Go.bits .or .u64 x5 (shl .u64 x7 (IntKind.u64.wrap (wrap64 (7 * x6))))), wrap64 (x6 + 1), 0))) else (lysimeterref4_Get.l0 k x0 (Go.bits .or .u64 x5 (shl .u64 x7 (IntKind.u64.wrap (wrap64 (7 * x6))))) (wrap64 (x6 + 1)))) else (none)) else (none)) else (none))
end
def lysimeterref4_Get.f (k : Nat) (l0 : List Int) : Option (Int × Int × Int) := lysimeterref4_Get.l0 k l0 0 0
set_option maxHeartbeats 8000000 in
set_option maxRecDepth 100000 in
theorem lysimeterref4_Get.calls (k : Nat) (A0 : Option Addr) (c0 : Nat) (l0 : List Int) (r1 : Int) (r2 : Int) (r3 : Int) (w : World) (hr0 : Kd.C (Kd.int .u8) w A0 l0.length l0) (hc0 : l0.length ≤ c0) (h : lysimeterref4_Get.f k l0 = some (r1, r2, r3)) :
    Calls Try.prog 130 #[.slice A0 l0.length c0] w fun e w' => e = .returned (.tuple #[.int .i64 r1, .int .i64 r2, .int .i64 r3]) ∧ Drawn0 w w' := by
  have HR0 := Aside0.mk hr0
  have HC0 := Aside0.mk hc0
  clear hr0 hc0
  have H : (lysimeterref4_Get.l0 k l0 0 0) = some (r1, r2, r3) := h
  clear h
  have H' := Aside0.mk H
  clear H
  go_enter Try.func130, Try.ntmps130
  go_wp2
  go_loopg [5, 6] k (fun kq v5 v6 w' => ∃ (x5_1 : Int) (x6_1 : Int), v5 = .int .u64 x5_1 ∧ v6 = .int .i64 x6_1 ∧ Aside0 (lysimeterref4_Get.l0 kq l0 x5_1 x6_1 = some (r1, r2, r3)) ∧ Aside0 (kq ≤ k) ∧ Drawn0 w w')
  case atStart => exact ⟨(0), (0), (by first | rfl | (simp; done) | (simp [*]; done)), (by first | rfl | (simp; done) | (simp [*]; done)), H', ⟨Nat.le_refl _⟩, by repeat (first | exact Drawn0.refl _ | apply Drawn0.step)⟩
  case round =>
    clear H'
    try clear c1
    obtain ⟨x5_1, x6_1, rfl, rfl, HA, HK1, ⟨m1, rfl⟩⟩ := hrel
    cases gk with
    | zero => exact absurd HA.out (by simp [lysimeterref4_Get.l0])
    | succ k1 =>
      have H := HA.out
      clear HA
      simp only [lysimeterref4_Get.l0] at H
      have HC2 := Aside0.mk H
      clear H
      go_upto_region 3 with (fail)
      go_cut [15] (fun v15 wc => ∃ (kq : Nat) (x15_1 : Bool), v15 = .bool x15_1 ∧ Aside0 (lysimeterref4_Get.j1 kq l0 x5_1 x6_1 x15_1 = some (r1, r2, r3)) ∧ Aside0 (kq ≤ k1) ∧ Drawn0 w wc)
      case first =>
        have H := HC2.out
        clear HC2
        by_cases c3 : x6_1 < (l0.length : Int)
        · rw [if_pos c3] at H
          have c3b0 : decide (x6_1 < (l0.length : Int)) = true := decide_eq_true c3
          clear c3
          (first | rw [c3b0] | (simp only [i64_w, i32_w]; rw [c3b0]) | skip)
          have H' := Aside0.mk H
          clear H
          go_wp2
          go_meet
          case rel => exact ⟨_, (decide (x6_1 < 10)), (by first | rfl | (simp; done) | (simp [*]; done)), H', ⟨by have := HK1.out; first | omega | exact Nat.le_refl _⟩, by repeat (first | exact Drawn0.refl _ | apply Drawn0.step)⟩
        · rw [if_neg c3] at H
          have c3b0 : decide (x6_1 < (l0.length : Int)) = false := decide_eq_false c3
          clear c3
          (first | rw [c3b0] | (simp only [i64_w, i32_w]; rw [c3b0]) | skip)
          have H' := Aside0.mk H
          clear H
          go_wp2
          go_meet
          case rel => exact ⟨_, (false), (by first | rfl | (simp; done) | (simp [*]; done)), H', ⟨by have := HK1.out; first | omega | exact Nat.le_refl _⟩, by repeat (first | exact Drawn0.refl _ | apply Drawn0.step)⟩
      case rest =>
        clear HC2
        try clear c1
        try clear p2
        try clear c3
        try clear c3b0
        obtain ⟨kq, x15_1, rfl, HA, HJ1, ⟨mc1, rfl⟩⟩ := hcut
        cases kq with
        | zero => exact absurd HA.out (by simp [lysimeterref4_Get.j1])
        | succ kj1 =>
          have H := HA.out
          clear HA
          simp only [lysimeterref4_Get.j1] at H
          by_cases c4 : x15_1 = true
          · subst c4
            have H1 : (if 0 ≤ x6_1 then (if x6_1 < (l0.length : Int) then (if x6_1 = 9 then (lysimeterref4_Get.j2 kj1 l0 x5_1 x6_1 (IntKind.u64.wrap (Go.bits .and .u8 (rd l0 x6_1) 127)) (decide ((IntKind.u64.wrap (Go.bits .and .u8 (rd l0 x6_1) 127)) > 1))) else (lysimeterref4_Get.j2 kj1 l0 x5_1 x6_1 (IntKind.u64.wrap (Go.bits .and .u8 (rd l0 x6_1) 127)) false)) else (none)) else (none)) = some (r1, r2, r3) := by rw [if_pos rfl] at H; exact H
            clear H
            have H := H1
            clear H1
            by_cases c5 : 0 ≤ x6_1
            · rw [if_pos c5] at H
              have c5b0 : decide (0 ≤ x6_1) = true := decide_eq_true c5
              clear c5
              by_cases c6 : x6_1 < (l0.length : Int)
              · rw [if_pos c6] at H
                have c6b0 : decide (x6_1 < (l0.length : Int)) = true := decide_eq_true c6
                clear c6
                have HC7 := Aside0.mk H
                clear H
                have p126 : 0 ≤ (x6_1 : Int) := of_decide_eq_true (by first | (with_reducible assumption) | assumption)
                have q126 : x6_1 < (l0.length : Int) := of_decide_eq_true (by first | (with_reducible assumption) | assumption)
                obtain ⟨ad126, e126, hx126_0⟩ := Kd.at_int HR0.out x6_1 p126 q126
                cases e126
                replace p126 := eq_true p126
                replace q126 := eq_true q126
                go_upto_region 6 with (fail)
                go_cut [29] (fun v29 wc => ∃ (kq : Nat) (x29_6 : Bool), v29 = .bool x29_6 ∧ Aside0 (lysimeterref4_Get.j2 kq l0 x5_1 x6_1 (IntKind.u64.wrap (Go.bits .and .u8 (rd l0 x6_1) 127)) x29_6 = some (r1, r2, r3)) ∧ Aside0 (kq ≤ kj1) ∧ Drawn0 w wc)
                case first =>
                  have H := HC7.out
                  clear HC7
                  by_cases c8 : x6_1 = 9
                  · rw [if_pos c8] at H
                    have c8b0 : (x6_1 == 9) = true := beq_iff_eq.mpr c8
                    have c8b1 : (x6_1 != 9) = false := bne_eq_false_iff_eq.mpr c8
                    clear c8
                    (first | rw [c8b0] | (simp only [i64_w, i32_w]; rw [c8b0]) | skip)
                    have H' := Aside0.mk H
                    clear H
                    go_wp2
                    go_meet
                    case rel => exact ⟨_, (decide ((IntKind.u64.wrap (Go.bits .and .u8 (rd l0 x6_1) 127)) > 1)), (by first | rfl | (simp; done) | (simp [*]; done)), H', ⟨by have := HK1.out; have := HJ1.out; first | omega | exact Nat.le_refl _⟩, by repeat (first | exact Drawn0.refl _ | apply Drawn0.step)⟩
                  · rw [if_neg c8] at H
                    have c8b0 : (x6_1 == 9) = false := beq_eq_false_iff_ne.mpr c8
                    have c8b1 : (x6_1 != 9) = true := bne_iff_ne.mpr c8
                    (first | rw [c8b0] | (simp only [i64_w, i32_w]; rw [c8b0]) | skip)
                    have H' := Aside0.mk H
                    clear H
                    go_wp2
                    go_meet
                    case rel => exact ⟨_, (false), (by first | rfl | (simp; done) | (simp [*]; done)), H', ⟨by have := HK1.out; have := HJ1.out; first | omega | exact Nat.le_refl _⟩, by repeat (first | exact Drawn0.refl _ | apply Drawn0.step)⟩
                case rest =>
                  clear HC7
                  try clear c1
                  try clear p1
                  try clear q1
                  try clear hx1
                  try clear p2
                  try clear c3
                  try clear c3b0
                  try clear c4
                  try clear c5
                  try clear c5b0
                  try clear c6
                  try clear c6b0
                  try clear c8
                  try clear c8b0
                  try clear c8b1
                  try clear hx126_0
                  try clear p126
                  try clear p2
                  try clear q126
                  obtain ⟨kq, x29_6, rfl, HA, HJ6, ⟨mc6, rfl⟩⟩ := hcut
                  cases kq with
                  | zero => exact absurd HA.out (by simp [lysimeterref4_Get.j2])
                  | succ kj6 =>
                    have H := HA.out
                    clear HA
                    simp only [lysimeterref4_Get.j2] at H
                    by_cases c9 : x29_6 = true
                    · subst c9
                      have H1 : (some (0, 0, 5)) = some (r1, r2, r3) := by rw [if_pos rfl] at H; exact H
                      clear H
                      have H := H1
                      clear H1
                      simp only [Option.some.injEq, Prod.mk.injEq] at H
                      obtain ⟨rfl, rfl, rfl⟩ := H
                      go_wp2
                      go_ret3
                      exact ⟨by first | rfl | (simp; done) | (simp [*]; done), by repeat (first | exact Drawn0.refl _ | apply Drawn0.step)⟩
                    · replace c9 := Bool.eq_false_iff.mpr c9
                      subst c9
                      have H1 : (if 0 ≤ (IntKind.u64.wrap (wrap64 (7 * x6_1))) then (if 0 ≤ x6_1 then (if x6_1 < (l0.length : Int) then (if (rd l0 x6_1) < 128 then (if (IntKind.u64.wrap (Go.bits .and .u8 (rd l0 x6_1) 127)) = 0 then (if x6_1 > 0 then (some (0, 0, 5)) else (some (wrap64 (Go.bits .or .u64 x5_1 (shl .u64 (IntKind.u64.wrap (Go.bits .and .u8 (rd l0 x6_1) 127)) (IntKind.u64.wrap (wrap64 (7 * x6_1))))), wrap64 (x6_1 + 1), 0))) else (some (wrap64 (Go.bits .or .u64 x5_1 (shl .u64 (IntKind.u64.wrap (Go.bits .and .u8 (rd l0 x6_1) 127)) (IntKind.u64.wrap (wrap64 (7 * x6_1))))), wrap64 (x6_1 + 1), 0))) else (lysimeterref4_Get.l0 kj6 l0 (Go.bits .or .u64 x5_1 (shl .u64 (IntKind.u64.wrap (Go.bits .and .u8 (rd l0 x6_1) 127)) (IntKind.u64.wrap (wrap64 (7 * x6_1))))) (wrap64 (x6_1 + 1)))) else (none)) else (none)) else (none)) = some (r1, r2, r3) := by rw [if_neg (show ¬ (false = true) by decide)] at H; exact H
                      clear H
                      have H := H1
                      clear H1
                      obtain ⟨ji10, hji10⟩ : ∃ j_ : Int, (IntKind.u64.wrap (wrap64 (7 * x6_1))) = j_ := ⟨_, rfl⟩
                      replace H : (if 0 ≤ (ji10) then (if 0 ≤ x6_1 then (if x6_1 < (l0.length : Int) then (if (rd l0 x6_1) < 128 then (if (IntKind.u64.wrap (Go.bits .and .u8 (rd l0 x6_1) 127)) = 0 then (if x6_1 > 0 then (some (0, 0, 5)) else (some (wrap64 (Go.bits .or .u64 x5_1 (shl .u64 (IntKind.u64.wrap (Go.bits .and .u8 (rd l0 x6_1) 127)) (ji10))), wrap64 (x6_1 + 1), 0))) else (some (wrap64 (Go.bits .or .u64 x5_1 (shl .u64 (IntKind.u64.wrap (Go.bits .and .u8 (rd l0 x6_1) 127)) (ji10))), wrap64 (x6_1 + 1), 0))) else (lysimeterref4_Get.l0 kj6 l0 (Go.bits .or .u64 x5_1 (shl .u64 (IntKind.u64.wrap (Go.bits .and .u8 (rd l0 x6_1) 127)) (ji10))) (wrap64 (x6_1 + 1)))) else (none)) else (none)) else (none)) = some (r1, r2, r3) := by first | (rw [hji10] at H; exact H) | (simp only [hji10] at H ⊢; exact H)
                      by_cases c11 : 0 ≤ (ji10)
                      · rw [if_pos c11] at H
                        have c11b0 := eq_true c11
                        have c11b1 : decide (0 ≤ (ji10)) = true := decide_eq_true c11
                        clear c11
                        obtain ⟨ji12, hji12⟩ : ∃ j_ : Int, (shl .u64 (IntKind.u64.wrap (Go.bits .and .u8 (rd l0 x6_1) 127)) (ji10)) = j_ := ⟨_, rfl⟩
                        replace H : (if 0 ≤ x6_1 then (if x6_1 < (l0.length : Int) then (if (rd l0 x6_1) < 128 then (if (IntKind.u64.wrap (Go.bits .and .u8 (rd l0 x6_1) 127)) = 0 then (if x6_1 > 0 then (some (0, 0, 5)) else (some (wrap64 (Go.bits .or .u64 x5_1 (ji12)), wrap64 (x6_1 + 1), 0))) else (some (wrap64 (Go.bits .or .u64 x5_1 (ji12)), wrap64 (x6_1 + 1), 0))) else (lysimeterref4_Get.l0 kj6 l0 (Go.bits .or .u64 x5_1 (ji12)) (wrap64 (x6_1 + 1)))) else (none)) else (none)) = some (r1, r2, r3) := by first | (rw [hji12] at H; exact H) | (simp only [hji12] at H ⊢; exact H)
                        have hji12_ : (IntKind.u64.wrap ((IntKind.u64.wrap (Go.bits .and .u8 (rd l0 x6_1) 127)) * 2 ^ min (ji10).toNat 64)) = ji12 := hji12
                        have hji12z : (ji10) ≤ 64 → (IntKind.u64.wrap ((IntKind.u64.wrap (Go.bits .and .u8 (rd l0 x6_1) 127)) * 2 ^ (ji10).toNat)) = ji12 := shl_small hji12
                        by_cases c13 : 0 ≤ x6_1
                        · rw [if_pos c13] at H
                          have c13b0 : decide (0 ≤ x6_1) = true := decide_eq_true c13
                          clear c13
                          by_cases c14 : x6_1 < (l0.length : Int)
                          · rw [if_pos c14] at H
                            have c14b0 : decide (x6_1 < (l0.length : Int)) = true := decide_eq_true c14
                            clear c14
                            by_cases c15 : (rd l0 x6_1) < 128
                            · rw [if_pos c15] at H
                              have c15b0 : decide ((rd l0 x6_1) < 128) = true := decide_eq_true c15
                              clear c15
                              by_cases c16 : (IntKind.u64.wrap (Go.bits .and .u8 (rd l0 x6_1) 127)) = 0
                              · rw [if_pos c16] at H
                                have c16b0 : ((IntKind.u64.wrap (Go.bits .and .u8 (rd l0 x6_1) 127)) == 0) = true := beq_iff_eq.mpr c16
                                have c16b1 : ((IntKind.u64.wrap (Go.bits .and .u8 (rd l0 x6_1) 127)) != 0) = false := bne_eq_false_iff_eq.mpr c16
                                clear c16
                                by_cases c17 : x6_1 > 0
                                · rw [if_pos c17] at H
                                  have c17b0 : decide (0 < x6_1) = true := decide_eq_true c17
                                  clear c17
                                  simp only [Option.some.injEq, Prod.mk.injEq] at H
                                  obtain ⟨rfl, rfl, rfl⟩ := H
                                  have p127 : 0 ≤ (x6_1 : Int) := of_decide_eq_true (by first | (with_reducible assumption) | assumption)
                                  have q127 : x6_1 < (l0.length : Int) := of_decide_eq_true (by first | (with_reducible assumption) | assumption)
                                  obtain ⟨ad127, e127, hx127_0⟩ := Kd.at_int HR0.out x6_1 p127 q127
                                  obtain rfl : ad126 = ad127 := (by injection e127)
                                  replace p127 := eq_true p127
                                  replace q127 := eq_true q127
                                  go_wp2
                                  go_ret3
                                  exact ⟨by first | rfl | (simp; done) | (simp only [← hji10, ← hji12] <;> (first | rfl | simp)) | (simp [*]; done), by repeat (first | exact Drawn0.refl _ | apply Drawn0.step)⟩
                                · rw [if_neg c17] at H
                                  have c17b0 : decide (0 < x6_1) = false := decide_eq_false c17
                                  clear c17
                                  simp only [Option.some.injEq, Prod.mk.injEq] at H
                                  obtain ⟨rfl, rfl, rfl⟩ := H
                                  have p127 : 0 ≤ (x6_1 : Int) := of_decide_eq_true (by first | (with_reducible assumption) | assumption)
                                  have q127 : x6_1 < (l0.length : Int) := of_decide_eq_true (by first | (with_reducible assumption) | assumption)
                                  obtain ⟨ad127, e127, hx127_0⟩ := Kd.at_int HR0.out x6_1 p127 q127
                                  obtain rfl : ad126 = ad127 := (by injection e127)
                                  replace p127 := eq_true p127
                                  replace q127 := eq_true q127
                                  go_wp2
                                  go_ret3
                                  exact ⟨by first | rfl | (simp; done) | (simp only [← hji10, ← hji12] <;> (first | rfl | simp)) | (simp [*]; done), by repeat (first | exact Drawn0.refl _ | apply Drawn0.step)⟩
                              · rw [if_neg c16] at H
                                have c16b0 : ((IntKind.u64.wrap (Go.bits .and .u8 (rd l0 x6_1) 127)) == 0) = false := beq_eq_false_iff_ne.mpr c16
                                have c16b1 : ((IntKind.u64.wrap (Go.bits .and .u8 (rd l0 x6_1) 127)) != 0) = true := bne_iff_ne.mpr c16
                                simp only [Option.some.injEq, Prod.mk.injEq] at H
                                obtain ⟨rfl, rfl, rfl⟩ := H
                                have p127 : 0 ≤ (x6_1 : Int) := of_decide_eq_true (by first | (with_reducible assumption) | assumption)
                                have q127 : x6_1 < (l0.length : Int) := of_decide_eq_true (by first | (with_reducible assumption) | assumption)
                                obtain ⟨ad127, e127, hx127_0⟩ := Kd.at_int HR0.out x6_1 p127 q127
                                obtain rfl : ad126 = ad127 := (by injection e127)
                                replace p127 := eq_true p127
                                replace q127 := eq_true q127
                                go_wp2
                                go_ret3
                                exact ⟨by first | rfl | (simp; done) | (simp only [← hji10, ← hji12] <;> (first | rfl | simp)) | (simp [*]; done), by repeat (first | exact Drawn0.refl _ | apply Drawn0.step)⟩
                            · rw [if_neg c15] at H
                              have c15b0 : decide ((rd l0 x6_1) < 128) = false := decide_eq_false c15
                              clear c15
                              have H' := Aside0.mk H
                              clear H
                              have p127 : 0 ≤ (x6_1 : Int) := of_decide_eq_true (by first | (with_reducible assumption) | assumption)
                              have q127 : x6_1 < (l0.length : Int) := of_decide_eq_true (by first | (with_reducible assumption) | assumption)
                              obtain ⟨ad127, e127, hx127_0⟩ := Kd.at_int HR0.out x6_1 p127 q127
                              obtain rfl : ad126 = ad127 := (by injection e127)
                              replace p127 := eq_true p127
                              replace q127 := eq_true q127
                              go_wp2
                              go_roundg kj6
                              case measure => have := HK1.out; have := HJ1.out; have := HJ6.out; omega
                              case rel => exact ⟨(Go.bits .or .u64 x5_1 (ji12)), (wrap64 (x6_1 + 1)), (by first | rfl | (simp; done) | (simp only [← hji12] <;> (first | rfl | simp)) | (simp [*]; done)), (by first | rfl | (simp; done) | (simp [*]; done)), H', ⟨by have := HK1.out; have := HJ1.out; have := HJ6.out; omega⟩, by repeat (first | exact Drawn0.refl _ | apply Drawn0.step)⟩
                          · rw [if_neg c14] at H
                            exact absurd H (by simp)
                        · rw [if_neg c13] at H
                          exact absurd H (by simp)
                      · rw [if_neg c11] at H
                        exact absurd H (by simp)
              · rw [if_neg c6] at H
                exact absurd H (by simp)
            · rw [if_neg c5] at H
              exact absurd H (by simp)
          · replace c4 := Bool.eq_false_iff.mpr c4
            subst c4
            have H1 : (some (0, 0, 5)) = some (r1, r2, r3) := by rw [if_neg (show ¬ (false = true) by decide)] at H; exact H
            clear H
            have H := H1
            clear H1
            simp only [Option.some.injEq, Prod.mk.injEq] at H
            obtain ⟨rfl, rfl, rfl⟩ := H
            go_wp2
            go_ret3
            exact ⟨by first | rfl | (simp; done) | (simp [*]; done), by repeat (first | exact Drawn0.refl _ | apply Drawn0.step)⟩
def lysimeterref4_Zag.f (a0 : Int) : Option (Int) := if (Go.bits .and .u64 (IntKind.u64.wrap (a0)) 1) = 1 then (some (wrap64 (Go.bits .xor .u64 18446744073709551615 ((IntKind.u64.wrap (a0)) / 2)))) else (some (wrap64 ((IntKind.u64.wrap (a0)) / 2)))
set_option maxHeartbeats 8000000 in
set_option maxRecDepth 100000 in
theorem lysimeterref4_Zag.calls (a0 : Int) (r : Int) (w : World) (h : lysimeterref4_Zag.f a0 = some r) :
    Calls Try.prog 131 #[.int .i64 a0] w fun e w' => e = .returned (.int .i64 r) ∧ Drawn0 w w' := by
  have H : (if (Go.bits .and .u64 (IntKind.u64.wrap (a0)) 1) = 1 then (some (wrap64 (Go.bits .xor .u64 18446744073709551615 ((IntKind.u64.wrap (a0)) / 2)))) else (some (wrap64 ((IntKind.u64.wrap (a0)) / 2)))) = some r := h
  clear h
  by_cases c2 : (Go.bits .and .u64 (IntKind.u64.wrap (a0)) 1) = 1
  · rw [if_pos c2] at H
    have c2b0 : ((Go.bits .and .u64 (IntKind.u64.wrap (a0)) 1) == 1) = true := beq_iff_eq.mpr c2
    have c2b1 : ((Go.bits .and .u64 (IntKind.u64.wrap (a0)) 1) != 1) = false := bne_eq_false_iff_eq.mpr c2
    clear c2
    obtain rfl := Option.some.inj H
    go_enter Try.func131, Try.ntmps131
    go_wp2
    go_ret
    exact ⟨by first | rfl | (simp; done) | (simp [*]; done), by repeat (first | exact Drawn0.refl _ | apply Drawn0.step)⟩
  · rw [if_neg c2] at H
    have c2b0 : ((Go.bits .and .u64 (IntKind.u64.wrap (a0)) 1) == 1) = false := beq_eq_false_iff_ne.mpr c2
    have c2b1 : ((Go.bits .and .u64 (IntKind.u64.wrap (a0)) 1) != 1) = true := bne_iff_ne.mpr c2
    obtain rfl := Option.some.inj H
    go_enter Try.func131, Try.ntmps131
    go_wp2
    go_ret
    exact ⟨by first | rfl | (simp; done) | (simp [*]; done), by repeat (first | exact Drawn0.refl _ | apply Drawn0.step)⟩
def lysimeterref4_GetSigned.f (k : Nat) (l0 : List Int) : Option (Int × Int × Int) := (lysimeterref4_Get.f k l0).bind fun bt128 => (if bt128.2.2 = 0 then ((lysimeterref4_Zag.f bt128.1).bind fun t131 => (some (t131, bt128.2.1, 0))) else (some (0, 0, bt128.2.2)))
set_option maxHeartbeats 8000000 in
set_option maxRecDepth 100000 in
theorem lysimeterref4_GetSigned.calls (k : Nat) (A0 : Option Addr) (c0 : Nat) (l0 : List Int) (r1 : Int) (r2 : Int) (r3 : Int) (w : World) (hr0 : Kd.C (Kd.int .u8) w A0 l0.length l0) (hc0 : l0.length ≤ c0) (h : lysimeterref4_GetSigned.f k l0 = some (r1, r2, r3)) :
    Calls Try.prog 99 #[.slice A0 l0.length c0] w fun e w' => e = .returned (.tuple #[.int .i64 r1, .int .i64 r2, .int .i64 r3]) ∧ Drawn0 w w' := by
  have HR0 := Aside0.mk hr0
  have HC0 := Aside0.mk hc0
  clear hr0 hc0
  have H : ((lysimeterref4_Get.f k l0).bind fun bt128 => (if bt128.2.2 = 0 then ((lysimeterref4_Zag.f bt128.1).bind fun t131 => (some (t131, bt128.2.1, 0))) else (some (0, 0, bt128.2.2)))) = some (r1, r2, r3) := h
  clear h
  replace H := Option.bind_eq_some_iff.mp H
  obtain ⟨⟨t128, t129, t130⟩, A20, H⟩ := H
  replace H : (if t130 = 0 then ((lysimeterref4_Zag.f t128).bind fun t131 => (some (t131, t129, 0))) else (some (0, 0, t130))) = some (r1, r2, r3) := H
  have A2 := Aside0.mk A20
  clear A20
  by_cases c3 : t130 = 0
  · rw [if_pos c3] at H
    have c3b0 : (t130 == 0) = true := beq_iff_eq.mpr c3
    have c3b1 : (t130 != 0) = false := bne_eq_false_iff_eq.mpr c3
    clear c3
    replace H := Option.bind_eq_some_iff.mp H
    obtain ⟨t131, A40, H⟩ := H
    replace H : (some (t131, t129, 0)) = some (r1, r2, r3) := H
    have A4 := Aside0.mk A40
    clear A40
    simp only [Option.some.injEq, Prod.mk.injEq] at H
    obtain ⟨rfl, rfl, rfl⟩ := H
    go_enter Try.func99, Try.ntmps99
    go_wp2_with (first | ((with_reducible refine gate_callee (f := 130) rfl ?_); refine goesL_ (some 10) rfl rfl Try.func130 (by kernel_rfl) rfl #[.slice A0 l0.length c0] rfl (by (try simp only [List.map_toArray, List.map_cons, List.map_nil]); first | done | rfl | (simp only [List.length_drop, List.length_take]; rfl)) ?_; (with_reducible refine (lysimeterref4_Get.calls k _ _ l0 t128 t129 t130 _ ?side1 ?side2 A2.out).mono ?_); (case side1 => repeat (first | exact HR0.out | (with_reducible refine Kd.C_alloc ?_ _) | (with_reducible refine Kd.C_drewN ?_ _) | (with_reducible refine Kd.C_drew ?_))); (case side2 => exact HC0.out); rintro e w' ⟨rfl, ⟨nd, rfl⟩⟩; refine ⟨_, rfl, ?_⟩) | ((with_reducible refine gate_callee (f := 131) rfl ?_); refine goesL_ (some 18) rfl rfl Try.func131 (by kernel_rfl) rfl #[.int .i64 t128] rfl (by (try simp only [List.map_toArray, List.map_cons, List.map_nil]); first | done | rfl | (simp only [List.length_drop, List.length_take]; rfl)) ?_; (with_reducible refine (lysimeterref4_Zag.calls t128 t131 _ A4.out).mono ?_); rintro e w' ⟨rfl, ⟨nd, rfl⟩⟩; refine ⟨_, rfl, ?_⟩))
    go_ret3
    exact ⟨by first | rfl | (simp; done) | (simp [*]; done), by repeat (first | exact Drawn0.refl _ | apply Drawn0.step)⟩
  · rw [if_neg c3] at H
    have c3b0 : (t130 == 0) = false := beq_eq_false_iff_ne.mpr c3
    have c3b1 : (t130 != 0) = true := bne_iff_ne.mpr c3
    simp only [Option.some.injEq, Prod.mk.injEq] at H
    obtain ⟨rfl, rfl, rfl⟩ := H
    go_enter Try.func99, Try.ntmps99
    go_wp2_with (first | ((with_reducible refine gate_callee (f := 130) rfl ?_); refine goesL_ (some 10) rfl rfl Try.func130 (by kernel_rfl) rfl #[.slice A0 l0.length c0] rfl (by (try simp only [List.map_toArray, List.map_cons, List.map_nil]); first | done | rfl | (simp only [List.length_drop, List.length_take]; rfl)) ?_; (with_reducible refine (lysimeterref4_Get.calls k _ _ l0 t128 t129 t130 _ ?side1 ?side2 A2.out).mono ?_); (case side1 => repeat (first | exact HR0.out | (with_reducible refine Kd.C_alloc ?_ _) | (with_reducible refine Kd.C_drewN ?_ _) | (with_reducible refine Kd.C_drew ?_))); (case side2 => exact HC0.out); rintro e w' ⟨rfl, ⟨nd, rfl⟩⟩; refine ⟨_, rfl, ?_⟩))
    go_ret3
    exact ⟨by first | rfl | (simp; done) | (simp [*]; done), by repeat (first | exact Drawn0.refl _ | apply Drawn0.step)⟩
def lysimeterref21_PackPolicy.l0 : Nat → List Int → List Int → Int → Option (List Int)
  | 0, _, _, _ => none
  | k + 1, x3, x4, x5 => if x5 < 8 then (if 0 ≤ x5 then (if x5 < (x3.length : Int) then ((lysimeterref4_Signed.f k (rd x3 x5)).bind fun t137 => (if x4.length + t137.length < 140737488355328 then (lysimeterref21_PackPolicy.l0 k x3 (x4 ++ t137) (wrap64 (x5 + 1))) else (none))) else (none)) else (none)) else (some x4)
def lysimeterref21_PackPolicy.f (k : Nat) (a0_0 : Int) (a0_1 : Int) (a0_2 : Int) (a0_3 : Int) (a0_4 : Int) (a0_5 : Int) (a0_6 : Int) (a0_7 : Int) : Option (List Int) := lysimeterref21_PackPolicy.l0 k (([a0_0, a0_1, a0_2, a0_3, a0_4, a0_5, a0_6, a0_7] : List Int)) ([] : List Int) 0
set_option maxHeartbeats 8000000 in
set_option maxRecDepth 100000 in
theorem lysimeterref21_PackPolicy.calls (k : Nat) (a0_0 : Int) (a0_1 : Int) (a0_2 : Int) (a0_3 : Int) (a0_4 : Int) (a0_5 : Int) (a0_6 : Int) (a0_7 : Int) (r : List Int) (w : World) (h : lysimeterref21_PackPolicy.f k a0_0 a0_1 a0_2 a0_3 a0_4 a0_5 a0_6 a0_7 = some r) :
    Calls Try.prog 61 #[.agg #[.int .i64 a0_0, .int .i64 a0_1, .int .i64 a0_2, .int .i64 a0_3, .int .i64 a0_4, .int .i64 a0_5, .int .i64 a0_6, .int .i64 a0_7]] w fun e w' => ∃ v0_ : Value, e = .returned (v0_) ∧ Kd.R (Kd.int .u8) 5 w' w.heap.size (fun _ => True) v0_ r ∧ Below w.heap.size w w' := by
  have hu65 := Try.underlying65
  have HB := Aside0.mk (Below.refl w.heap.size w)
  have H : (lysimeterref21_PackPolicy.l0 k (([a0_0, a0_1, a0_2, a0_3, a0_4, a0_5, a0_6, a0_7] : List Int)) ([] : List Int) 0) = some r := h
  clear h
  obtain ⟨y133, hy133⟩ : ∃ y_ : List Int, y_ = (([a0_0, a0_1, a0_2, a0_3, a0_4, a0_5, a0_6, a0_7] : List Int)) := ⟨_, rfl⟩
  replace H : (lysimeterref21_PackPolicy.l0 k y133 ([] : List Int) 0) = some r := by first | (rw [hy133]; with_reducible exact H) | (have H2_ := (Option.bind_some _ _).symm.trans H; rw [hy133]; with_reducible exact H2_) | (have H2_ := (Option.bind_some _ _).symm.trans H; with_reducible exact H2_) | with_reducible exact H | (rw [hy133]; exact H) | exact H
  have Ny133 := Aside0.mk hy133
  clear hy133
  have H' := Aside0.mk H
  clear H
  go_enter Try.func61, Try.ntmps61
  go_wp2_with (first | ((with_reducible refine gate_dst (N := 1) rfl ?_); refine box_event ?hg (N := 1) ?hd (cs := #[.int .i64 a0_0, .int .i64 a0_1, .int .i64 a0_2, .int .i64 a0_3, .int .i64 a0_4, .int .i64 a0_5, .int .i64 a0_6, .int .i64 a0_7]) (t := 65) ?hr ?_; (case hd => rfl); (case hg => rfl); (case hr => first | (go_simp; done) | (go_simp; rfl)); intro gb132 hg w2 hbox hb; have n0_ := Aside0.mk (below_step (by repeat (first | (with_reducible first | exact HB.out | apply below_alloc | apply pw_below_drewN | apply below_drew1) | exact HB.out)) hb); have n1_ := Aside0.mk (hbox); have n2_ := Aside0.mk ((by rw [hg]; exact (below_size (by repeat (first | (with_reducible first | exact HB.out | apply below_alloc | apply pw_below_drewN | apply below_drew1) | exact HB.out))) : w.heap.size ≤ gb132)); have n3_ := Aside0.mk ((by rw [hg]; exact (below_size (by repeat (first | (with_reducible first | exact HB.out | apply below_alloc | apply pw_below_drewN | apply below_drew1) | exact HB.out))) : w.heap.size ≤ gb132)); clear HB; have HB := n0_; have BK132 := n1_; have GW132 := n2_; have GE132 := n3_; clear n0_ n1_ n2_ n3_; clear hb hbox hg; have hcz3_0 : w2.cell? ⟨gb132, 0, none⟩ = some (.int .i64 a0_0) := (blk_cell BK132.out 0).trans rfl; have hcz3_1 : w2.cell? ⟨gb132, 1, none⟩ = some (.int .i64 a0_1) := (blk_cell BK132.out 1).trans rfl; have hcz3_2 : w2.cell? ⟨gb132, 2, none⟩ = some (.int .i64 a0_2) := (blk_cell BK132.out 2).trans rfl; have hcz3_3 : w2.cell? ⟨gb132, 3, none⟩ = some (.int .i64 a0_3) := (blk_cell BK132.out 3).trans rfl; have hcz3_4 : w2.cell? ⟨gb132, 4, none⟩ = some (.int .i64 a0_4) := (blk_cell BK132.out 4).trans rfl; have hcz3_5 : w2.cell? ⟨gb132, 5, none⟩ = some (.int .i64 a0_5) := (blk_cell BK132.out 5).trans rfl; have hcz3_6 : w2.cell? ⟨gb132, 6, none⟩ = some (.int .i64 a0_6) := (blk_cell BK132.out 6).trans rfl; have hcz3_7 : w2.cell? ⟨gb132, 7, none⟩ = some (.int .i64 a0_7) := (blk_cell BK132.out 7).trans rfl; have hfz3_0 := blk_frozen BK132.out 0; have hfz3_1 := blk_frozen BK132.out 1; have hfz3_2 := blk_frozen BK132.out 2; have hfz3_3 := blk_frozen BK132.out 3; have hfz3_4 := blk_frozen BK132.out 4; have hfz3_5 := blk_frozen BK132.out 5; have hfz3_6 := blk_frozen BK132.out 6; have hfz3_7 := blk_frozen BK132.out 7) | ((with_reducible refine gate_dst (N := 22) rfl ?_); refine Kd.R_lit (Kd.int .i64) _ 3 ?hg (N := 22) ?hd (xs := ([a0_0, a0_1, a0_2, a0_3, a0_4, a0_5, a0_6, a0_7] : List Int)) (inner := [.int .i64 a0_0, .int .i64 a0_1, .int .i64 a0_2, .int .i64 a0_3, .int .i64 a0_4, .int .i64 a0_5, .int .i64 a0_6, .int .i64 a0_7]) (ok := fun _ => True) (okp := fun _ => True) ?hr ?hp (fun _ hk => hk) trivial (Below.refl _ _) (Nat.le_refl _) (by simp) ?_; (case hd => rfl); (case hg => rfl); (case hr => first | (go_simp; done) | (go_simp; rfl)); (case hp => exact (Reps.one (show Kd.M (Kd.int .i64) _ _ _ a0_0 [.int .i64 a0_0] from rfl) (Reps.one (show Kd.M (Kd.int .i64) _ _ _ a0_1 [.int .i64 a0_1] from rfl) (Reps.one (show Kd.M (Kd.int .i64) _ _ _ a0_2 [.int .i64 a0_2] from rfl) (Reps.one (show Kd.M (Kd.int .i64) _ _ _ a0_3 [.int .i64 a0_3] from rfl) (Reps.one (show Kd.M (Kd.int .i64) _ _ _ a0_4 [.int .i64 a0_4] from rfl) (Reps.one (show Kd.M (Kd.int .i64) _ _ _ a0_5 [.int .i64 a0_5] from rfl) (Reps.one (show Kd.M (Kd.int .i64) _ _ _ a0_6 [.int .i64 a0_6] from rfl) (Reps.one (show Kd.M (Kd.int .i64) _ _ _ a0_7 [.int .i64 a0_7] from rfl) (Reps.none _ _)))))))))); intro v134 w4 ho5 hb hg_ hnew_; clear hg_ hnew_; (first | rw [← Ny133.out] at ho5 | (simp only [Int.reduceToNat] at ho5; rw [← Ny133.out] at ho5)); have n0_ := Aside0.mk (Kd.R_lower ho5 (below_size (by repeat (first | (with_reducible first | exact HB.out | apply below_alloc | apply pw_below_drewN | apply below_drew1 | refine below_set ?_ GE132.out) | exact HB.out)))); have n1_ := Aside0.mk (blk_below (g := gb132) (o := .cells #[.int .i64 a0_0, .int .i64 a0_1, .int .i64 a0_2, .int .i64 a0_3, .int .i64 a0_4, .int .i64 a0_5, .int .i64 a0_6, .int .i64 a0_7] 65 (0, 0)) (by (with_reducible repeat (first | refine blk_drewN ?_ _ | refine blk_drew ?_ | refine blk_alloc ?_ _)); exact BK132.out) hb); have n2_ := Aside0.mk (below_step (by repeat (first | (with_reducible first | exact HB.out | apply below_alloc | apply pw_below_drewN | apply below_drew1 | refine below_set ?_ GE132.out) | exact HB.out)) hb); clear BK132; clear HB; have HO135 := n0_; have BK132 := n1_; have HB := n2_; clear n0_ n1_ n2_; clear hb ho5))
  go_loopg [4, 5] k (fun kq v4 v5 w' => ∃ (x4_1 : List Int) (x5_1 : Int), v5 = .int .i64 x5_1 ∧ Aside0 (lysimeterref21_PackPolicy.l0 kq y133 x4_1 x5_1 = some r) ∧ Aside0 (kq ≤ k) ∧ Aside0 (Kd.R (Kd.int .i64) 3 w' w.heap.size (fun _ => True) v134 y133) ∧ Aside0 (Kd.R (Kd.int .u8) 5 w' w.heap.size (fun _ => True) v4 x4_1) ∧ Aside0 (w'.heap[gb132]? = some (.cells #[.int .i64 a0_0, .int .i64 a0_1, .int .i64 a0_2, .int .i64 a0_3, .int .i64 a0_4, .int .i64 a0_5, .int .i64 a0_6, .int .i64 a0_7] 65 (0, 0))) ∧ Aside0 (Below w.heap.size w w'))
  case atStart => exact ⟨(([] : List Int)), (0), (by first | rfl | (simp; done) | (simp [*]; done)), H', ⟨Nat.le_refl _⟩, ⟨by (with_reducible repeat (first | apply Kd.R_alloc | apply Kd.R_drewN | apply Kd.R_drew)); exact HO135.out⟩, ⟨by first | exact Kd.R_nil _ _ _ _ _ | exact Kd.N_nil _ _ _ _ _ | exact Kd.V_nil _ _ _ _ _ | exact Kd.Q_nil _ _ _ _ _ | exact Kd.S_nil _ _ _ _ _⟩, ⟨by (with_reducible repeat (first | refine blk_drewN ?_ _ | refine blk_drew ?_ | refine blk_alloc ?_ _)); exact BK132.out⟩, ⟨by repeat (first | (with_reducible first | exact HB.out | apply below_alloc | apply pw_below_drewN | apply below_drew1 | refine below_set ?_ GE132.out) | exact HB.out)⟩⟩
  case round =>
    clear H'
    try clear p2
    try clear hcz3_0
    try clear hcz3_1
    try clear hcz3_2
    try clear hcz3_3
    try clear hcz3_4
    try clear hcz3_5
    try clear hcz3_6
    try clear hcz3_7
    try clear hfz3_0
    try clear hfz3_1
    try clear hfz3_2
    try clear hfz3_3
    try clear hfz3_4
    try clear hfz3_5
    try clear hfz3_6
    try clear hfz3_7
    obtain ⟨x4_1, x5_1, rfl, HA, HK1, HO_3, HO_4, BK132, HB⟩ := hrel
    cases gk with
    | zero => exact absurd HA.out (by simp [lysimeterref21_PackPolicy.l0])
    | succ k1 =>
      have H := HA.out
      clear HA
      simp only [lysimeterref21_PackPolicy.l0] at H
      by_cases c6 : x5_1 < 8
      · rw [if_pos c6] at H
        have c6b0 : decide (x5_1 < 8) = true := decide_eq_true c6
        clear c6
        by_cases c7 : 0 ≤ x5_1
        · rw [if_pos c7] at H
          have c7b0 : decide (0 ≤ x5_1) = true := decide_eq_true c7
          clear c7
          by_cases c8 : x5_1 < (y133.length : Int)
          · rw [if_pos c8] at H
            have c8b0 : decide (x5_1 < (y133.length : Int)) = true := decide_eq_true c8
            clear c8
            replace H := Option.bind_eq_some_iff.mp H
            obtain ⟨t137, A90, H⟩ := H
            replace H : (if x4_1.length + t137.length < 140737488355328 then (lysimeterref21_PackPolicy.l0 k1 y133 (x4_1 ++ t137) (wrap64 (x5_1 + 1))) else (none)) = some r := H
            have A9 := Aside0.mk A90
            clear A90
            by_cases c10 : x4_1.length + t137.length < 140737488355328
            · rw [if_pos c10] at H
              have LMc10 := Aside0.mk c10
              clear c10
              obtain ⟨y140, hy140⟩ : ∃ y_ : List Int, y_ = (x4_1 ++ t137) := ⟨_, rfl⟩
              replace H : (lysimeterref21_PackPolicy.l0 k1 y133 y140 (wrap64 (x5_1 + 1))) = some r := by first | (rw [hy140]; with_reducible exact H) | (have H2_ := (Option.bind_some _ _).symm.trans H; rw [hy140]; with_reducible exact H2_) | (have H2_ := (Option.bind_some _ _).symm.trans H; with_reducible exact H2_) | with_reducible exact H | (rw [hy140]; exact H) | exact H
              have Ny140 := Aside0.mk hy140
              clear hy140
              have H' := Aside0.mk H
              clear H
              obtain ⟨Ao11, co11, eo11⟩ := Kd.R_slice HO_3.out
              subst eo11
              have p136 : 0 ≤ (x5_1 : Int) := of_decide_eq_true (by first | (with_reducible assumption) | assumption)
              have q136 : x5_1 < (y133.length : Int) := of_decide_eq_true (by first | (with_reducible assumption) | assumption)
              obtain ⟨ad136, e136, hx136_0⟩ := Kd.at_int (Kd.R_reads' HO_3.out).2.2 x5_1 p136 q136
              cases e136
              replace p136 := eq_true p136
              replace q136 := eq_true q136
              go_wp2_with (first | ((with_reducible refine gate_callee (f := 100) rfl ?_); refine goesL_ (some 32) rfl rfl Try.func100 (by kernel_rfl) rfl #[.int .i64 (rd y133 x5_1)] rfl (by (try simp only [List.map_toArray, List.map_cons, List.map_nil]); first | done | rfl | (simp only [List.length_drop, List.length_take]; rfl)) ?_; (with_reducible refine (lysimeterref4_Signed.calls k1 (rd y133 x5_1) t137 _ A9.out).mono ?_); rintro e w12 ⟨v138, rfl, ho0, hb⟩; refine ⟨_, rfl, ?_⟩; have n0_ := Aside0.mk (Kd.R_below (by (with_reducible repeat (first | apply Kd.R_alloc | apply Kd.R_drewN | apply Kd.R_drew)); exact HO_3.out) hb); have n1_ := Aside0.mk (Kd.R_elder' (by (with_reducible repeat (first | apply Kd.R_alloc | apply Kd.R_drewN | apply Kd.R_drew)); exact HO_4.out) (Kd.R_base ho0) hb); have n2_ := Aside0.mk (Kd.R_lower (Kd.R_new' ho0 (Kd.R_lt (by (with_reducible repeat (first | apply Kd.R_alloc | apply Kd.R_drewN | apply Kd.R_drew)); exact HO_4.out))) (below_size (by repeat (first | (with_reducible first | exact HB.out | apply below_alloc | apply pw_below_drewN | apply below_drew1 | refine below_set ?_ GE132.out) | exact HB.out)))); have n3_ := Aside0.mk (blk_below (g := gb132) (o := .cells #[.int .i64 a0_0, .int .i64 a0_1, .int .i64 a0_2, .int .i64 a0_3, .int .i64 a0_4, .int .i64 a0_5, .int .i64 a0_6, .int .i64 a0_7] 65 (0, 0)) (by (with_reducible repeat (first | refine blk_drewN ?_ _ | refine blk_drew ?_ | refine blk_alloc ?_ _)); exact BK132.out) hb); have n4_ := Aside0.mk (below_step (by repeat (first | (with_reducible first | exact HB.out | apply below_alloc | apply pw_below_drewN | apply below_drew1 | refine below_set ?_ GE132.out) | exact HB.out)) hb); clear HO_3; clear HO_4; clear BK132; clear HB; have HO_3 := n0_; have HO_4 := n1_; have HO139 := n2_; have BK132 := n3_; have HB := n4_; clear n0_ n1_ n2_ n3_ n4_; (try clear hb); (try clear hb2); (try clear hk); (try clear hi); (try clear ho0); obtain ⟨Ao14, co14, eo14⟩ := Kd.R_slice HO139.out; subst eo14) | ((with_reducible refine gate_builtin (b := .append) (xs := #[.tmp 27, .tmp 32]) rfl ?_); at_builtin; refine Kd.R_append_rows (Kd.int .u8) (w0 := w) w.heap.size rfl (.tmp 27) (.tmp 32) 88 5 (.int .u8 0) 1 rfl Try.underlying88 info5 rfl (by decide) (by omega) u4 x4_1 t137 _ _ _ (fun k_ => some k_ ≠ (.slice Ao14 t137.length co14 : Value).ownBlock) (fun _ => False) rfl rfl ?aO ?aR (fun _ _ h => h) (fun _ h => h.elim) ?aF ?aB ?aS ?aL ?_; (case aR => repeat (first | exact (Kd.R_reads' HO139.out).2.2 | (with_reducible refine Kd.C_alloc ?_ _) | (with_reducible refine Kd.C_drewN ?_ _) | (with_reducible refine Kd.C_drew ?_))); (case aB => exact (by repeat (first | (with_reducible first | exact HB.out | apply below_alloc | apply pw_below_drewN | apply below_drew1 | refine below_set ?_ GE132.out) | exact HB.out))); (case aF => exact (fun k_ hk => Kd.fresh' (Kd.R_lt (by (with_reducible repeat (first | apply Kd.R_alloc | apply Kd.R_drewN | apply Kd.R_drew)); exact HO139.out)) k_ hk)); (case aO => exact (by (with_reducible repeat (first | apply Kd.R_alloc | apply Kd.R_drewN | apply Kd.R_drew)); exact Kd.R_mono HO_4.out (fun _ hk => hk.2))); (case aS => exact (below_size (by repeat (first | (with_reducible first | exact HB.out | apply below_alloc | apply pw_below_drewN | apply below_drew1 | refine below_set ?_ GE132.out) | exact HB.out)))); (case aL => have := LMc10.out; omega); intro v141 w13 ho hb hg hat; rw [← Ny140.out] at ho; have n0_ := Aside0.mk (Kd.R_over' (by (with_reducible repeat (first | apply Kd.R_alloc | apply Kd.R_drewN | apply Kd.R_drew)); exact HO_3.out) (Kd.R_typed (by (with_reducible repeat (first | apply Kd.R_alloc | apply Kd.R_drewN | apply Kd.R_drew)); exact HO_4.out)) (by decide) hg); have n1_ := Aside0.mk (blk_grown (g := gb132) (o := .cells #[.int .i64 a0_0, .int .i64 a0_1, .int .i64 a0_2, .int .i64 a0_3, .int .i64 a0_4, .int .i64 a0_5, .int .i64 a0_6, .int .i64 a0_7] 65 (0, 0)) (by (with_reducible repeat (first | refine blk_drewN ?_ _ | refine blk_drew ?_ | refine blk_alloc ?_ _)); exact BK132.out) hg (Kd.R_ne HO_4.out BK132.out (by decide))); have n2_ := Aside0.mk (Kd.R_after (ok := (fun _ => True)) (by (with_reducible repeat (first | apply Kd.R_alloc | apply Kd.R_drewN | apply Kd.R_drew)); exact HO139.out) hg hat); have n3_ := Aside0.mk (hb); have n4_ := Aside0.mk (ho); clear HO_3; clear BK132; clear HO139; clear HB; clear HO_4; have HO_3 := n0_; have BK132 := n1_; have HO139 := n2_; have HB := n3_; have HO142 := n4_; clear n0_ n1_ n2_ n3_ n4_; clear ho hb hg hat))
              go_roundg k1
              case measure => have := HK1.out; omega
              case rel => exact ⟨(y140), (wrap64 (x5_1 + 1)), (by first | rfl | (simp; done) | (simp [*]; done)), H', ⟨by have := HK1.out; omega⟩, ⟨by (with_reducible repeat (first | apply Kd.R_alloc | apply Kd.R_drewN | apply Kd.R_drew)); exact HO_3.out⟩, ⟨by (with_reducible repeat (first | apply Kd.R_alloc | apply Kd.R_drewN | apply Kd.R_drew)); exact Kd.R_mono HO142.out (fun _ hk => trivial)⟩, ⟨by (with_reducible repeat (first | refine blk_drewN ?_ _ | refine blk_drew ?_ | refine blk_alloc ?_ _)); exact BK132.out⟩, ⟨by repeat (first | (with_reducible first | exact HB.out | apply below_alloc | apply pw_below_drewN | apply below_drew1 | refine below_set ?_ GE132.out) | exact HB.out)⟩⟩
            · rw [if_neg c10] at H
              exact absurd H (by simp)
          · rw [if_neg c8] at H
            exact absurd H (by simp)
        · rw [if_neg c7] at H
          exact absurd H (by simp)
      · rw [if_neg c6] at H
        have c6b0 : decide (x5_1 < 8) = false := decide_eq_false c6
        clear c6
        obtain rfl := Option.some.inj H
        go_wp2
        go_ret
        exact ⟨_, by first | rfl | (simp [errW_none, errW_some] <;> rfl) | (simp [*, errW_none, errW_some] <;> rfl), by (with_reducible repeat (first | apply Kd.R_alloc | apply Kd.R_drewN | apply Kd.R_drew)); exact HO_4.out, by repeat (first | (with_reducible first | exact HB.out | apply below_alloc | apply pw_below_drewN | apply below_drew1 | refine below_set ?_ GE132.out) | exact HB.out)⟩
end Go.Proofs.Ytemnfnbjapobcaa.Pk
end
section
namespace Go.Proofs.Ytemnfnbjapobcaa.VS
open Go.RowKit Go.Proofs.YtemnfnbjapobcaaW.PrintWords Go.Proofs.Ytemnfnbjapobcaa.Pk
set_option linter.unusedVariables false
theorem and127 (x : Nat) (h : x < 18446744073709551616) : Go.bits .and .u64 (x : Int) 127 = ((x % 128 : Nat) : Int) := by
  rw [show (127 : Int) = 2 ^ 7 - 1 by decide, bits_mask .u64 64 (by decide) vwraps_u64 7 (by decide) (x : Int) (by omega) (by omega)]
  omega
theorem rput_ev : ∀ (u : Nat) (acc : List Int), u < 18446744073709551616 → acc.length + (putN u).length ≤ 1000000 → Ev (fun k => lysimeterref4_Put.l0 k (u : Int) acc) (acc ++ putN u) := by
  intro u
  induction u using Nat.strongRecOn with
  | _ u ih =>
    intro acc hu hl
    by_cases h : u < 128
    · rw [putN_eq, if_pos h] at hl ⊢
      refine Ev.step (f := fun _ => some (acc ++ [(u : Int)])) (fun k => ?_) (Ev.now _)
      show lysimeterref4_Put.l0 (k + 1) (u : Int) acc = _
      simp only [lysimeterref4_Put.l0]
      rw [if_neg (by omega), if_pos (by simp at hl; omega), show (u : Int) % 256 = (u : Int) by omega]
    · rw [putN_eq, if_neg h] at hl ⊢
      rw [List.length_cons] at hl
      have hi := ih (u / 128) (by omega) (acc ++ [((u % 128 + 128 : Nat) : Int)]) (by omega) (by rw [List.length_append, List.length_singleton]; omega)
      rw [List.append_assoc] at hi
      refine Ev.step (fun k => ?_) hi
      show lysimeterref4_Put.l0 (k + 1) (u : Int) acc = _
      simp only [lysimeterref4_Put.l0]
      have e1 : ((u % 128 : Nat) : Int) % 256 = ((u % 128 : Nat) : Int) := by omega
      have e2 : (u : Int) / 128 = ((u / 128 : Nat) : Int) := by omega
      rw [if_pos (by omega), if_pos (by omega), and127 u hu, e1, or8 _ (by omega), e2, show u % 128 % 128 = u % 128 by omega]
theorem xor_comm64 (x y : Int) : Go.bits .xor .u64 x y = Go.bits .xor .u64 y x := by
  simp only [bits, BitVec.xor_comm]
theorem rzig_eq {x : Int} (h1 : -9223372036854775808 ≤ x) (h2 : x ≤ 9223372036854775807) : lysimeterref4_Zig.f x = some (wrap64 (zigN x : Int)) := by
  unfold lysimeterref4_Zig.f zigN
  by_cases h : x < 0
  · have e3 : IntKind.u64.wrap (IntKind.u64.wrap x * 2) = ((18446744073709551616 + 2 * x).toNat : Int) := by rw [vu64w, vu64w]; omega
    rw [if_pos h, if_pos h, e3, xor_comm64, xor_max _ (by omega)]
    have e4 : ((18446744073709551615 - (18446744073709551616 + 2 * x).toNat : Nat) : Int) = ((-2 * x - 1).toNat : Int) := by omega
    rw [e4]
  · have e3 : IntKind.u64.wrap (IntKind.u64.wrap x * 2) = ((2 * x).toNat : Int) := by rw [vu64w, vu64w]; omega
    rw [if_neg h, if_neg h, e3]
theorem rsigned_ev {x : Int} (h1 : -9223372036854775808 ≤ x) (h2 : x ≤ 9223372036854775807) : Ev (fun k => lysimeterref4_Signed.f k x) (signS x) := by
  have hz := zig_lt h1 h2
  have hl := signS_len h1 h2
  have hp := rput_ev (zigN x) [] hz (by show 0 + (signS x).length ≤ _; omega)
  have e : ∀ k, lysimeterref4_Signed.f k x = lysimeterref4_Put.l0 k (zigN x : Int) [] := by
    intro k
    unfold lysimeterref4_Signed.f
    rw [rzig_eq h1 h2, Option.bind_some]
    unfold lysimeterref4_Put.f
    rw [unwrap _ hz]
    cases lysimeterref4_Put.l0 k (zigN x : Int) [] <;> rfl
  exact Ev.congr e hp
theorem rzag_eq (z : Nat) (h : z < 18446744073709551616) : lysimeterref4_Zag.f (wrap64 (z : Int)) = some (zagN z) := by
  unfold lysimeterref4_Zag.f zagN
  have e0 : Go.bits .and .u64 (z : Int) 1 = ((z % 2 : Nat) : Int) := by
    rw [show (1 : Int) = 2 ^ 1 - 1 by decide, bits_mask .u64 64 (by decide) vwraps_u64 1 (by decide) (z : Int) (by omega) (by omega)]
    omega
  have e1 : (z : Int) / 2 = ((z / 2 : Nat) : Int) := by omega
  rw [unwrap z h, e0, e1]
  by_cases h2 : z % 2 = 0
  · rw [if_neg (by omega), if_pos h2]
    congr 1
    unfold wrap64
    omega
  · rw [if_pos (by omega), if_neg h2, xor_comm64, xor_max _ (by omega)]
    congr 1
    unfold wrap64
    omega
theorem w7 (i : Nat) (h : i ≤ 9) : IntKind.u64.wrap (wrap64 (7 * (i : Int))) = wrap64 (7 * (i : Int)) := by
  rw [vwrap64_id (by omega) (by omega), vwraps_u64 _ (by omega) (by omega)]
theorem pos7' (i : Nat) (h : i ≤ 9) : 0 ≤ IntKind.u64.wrap (wrap64 (7 * (i : Int))) := by
  rw [w7 i h]
  exact pos7 i h
theorem ucast (c : Nat) (h : c < 18446744073709551616) : IntKind.u64.wrap (c : Int) = (c : Int) := vwraps_u64 _ (by omega) (by omega)
theorem rget_ten (l : List Int) (v : Int) (i : Nat) (hi : 10 ≤ i) : Ev (fun k => lysimeterref4_Get.l0 k l v (i : Int)) (0, 0, 5) := by
  refine Ev.step (f := fun k => lysimeterref4_Get.j1 k l v (i : Int) false) (fun k => ?_) (Ev.step (f := fun _ => some (0, 0, 5)) (fun k => ?_) (Ev.now _))
  · show lysimeterref4_Get.l0 (k + 1) l v (i : Int) = _
    simp only [lysimeterref4_Get.l0]
    rw [decide_eq_false (show ¬ (i : Int) < 10 by omega)]
    split <;> rfl
  · simp only [lysimeterref4_Get.j1]
    rw [if_neg (by decide)]
theorem rget_ev (l : List Int) (hb : ∀ x ∈ l, 0 ≤ x ∧ x < 256) (hl : l.length ≤ 1000000) : ∀ (d i v : Nat), l.length - i = d → i ≤ 9 → i ≤ l.length → v < 128 ^ i → Ev (fun k => lysimeterref4_Get.l0 k l (v : Int) (i : Int)) (fin (getL i v (l.drop i))) := by
  intro d
  induction d with
  | zero =>
    intro i v hd hi hil hv
    rw [List.drop_eq_nil_of_le (by omega)]
    have e : fin (getL i v []) = (0, 0, 5) := rfl
    rw [e]
    refine Ev.step (f := fun k => lysimeterref4_Get.j1 k l (v : Int) (i : Int) false) (fun k => ?_) (Ev.step (f := fun _ => some (0, 0, 5)) (fun k => ?_) (Ev.now _))
    · show lysimeterref4_Get.l0 (k + 1) l (v : Int) (i : Int) = _
      simp only [lysimeterref4_Get.l0]
      rw [if_neg (by omega)]
    · simp only [lysimeterref4_Get.j1]
      rw [if_neg (by decide)]
  | succ d ih =>
    intro i v hd hi hil hv
    have hlt : i < l.length := by omega
    have e0 : l.drop i = l[i] :: l.drop (i + 1) := by rw [List.drop_eq_getElem_cons hlt]
    have er : rd l (i : Int) = l[i] := by simp [rd, List.getD_eq_getElem?_getD, List.getElem?_eq_getElem hlt]
    obtain ⟨hx0, hx1⟩ := hb l[i] (List.getElem_mem hlt)
    rw [e0]
    obtain ⟨x, hx⟩ : ∃ x : Nat, l[i] = (x : Int) := ⟨l[i].toNat, by omega⟩
    rw [hx] at hx0 hx1 er ⊢
    have hx256 : x < 256 := by omega
    have hp : 0 < 128 ^ i := Nat.pow_pos (by decide)
    refine Ev.step (f := fun k => lysimeterref4_Get.j1 k l (v : Int) (i : Int) true) (fun k => ?_) ?_
    · show lysimeterref4_Get.l0 (k + 1) l (v : Int) (i : Int) = _
      simp only [lysimeterref4_Get.l0]
      rw [if_pos (by omega), decide_eq_true (show (i : Int) < 10 by omega)]
    refine Ev.step (f := fun k => lysimeterref4_Get.j2 k l (v : Int) (i : Int) ((x % 128 : Nat) : Int) (decide (i = 9 ∧ 1 < x % 128))) (fun k => ?_) ?_
    · show lysimeterref4_Get.j1 (k + 1) l (v : Int) (i : Int) true = _
      simp only [lysimeterref4_Get.j1]
      rw [if_pos trivial, if_pos (by omega), if_pos (by omega), er, and8 x hx256, ucast _ (by omega)]
      by_cases h9 : i = 9
      · have eb : decide (((x % 128 : Nat) : Int) > 1) = decide (i = 9 ∧ 1 < x % 128) := by
          by_cases hh : 1 < x % 128
          · rw [decide_eq_true (show ((x % 128 : Nat) : Int) > 1 by omega), decide_eq_true ⟨h9, hh⟩]
          · rw [decide_eq_false (show ¬ ((x % 128 : Nat) : Int) > 1 by omega), decide_eq_false (fun h => hh h.2)]
        rw [if_pos (by omega), eb]
      · have eb : false = decide (i = 9 ∧ 1 < x % 128) := (decide_eq_false (fun h => h9 h.1)).symm
        rw [if_neg (by omega), eb]
    unfold getL
    by_cases h9 : i = 9 ∧ 1 < x % 128
    · rw [if_pos ⟨h9.1, by omega⟩]
      refine Ev.step (f := fun _ => some (0, 0, 5)) (fun k => ?_) (Ev.now _)
      simp only [lysimeterref4_Get.j2]
      rw [if_pos (decide_eq_true h9)]
    have hc : x % 128 * 128 ^ i < 18446744073709551616 := by
      by_cases e9 : i = 9
      · have : x % 128 ≤ 1 := by
          by_cases hh : 1 < x % 128
          · exact absurd ⟨e9, hh⟩ h9
          · omega
        have e : (128 : Nat) ^ 9 = 9223372036854775808 := by decide
        rw [e9, e]
        omega
      · have h1 : 128 ^ i ≤ 128 ^ 8 := Nat.pow_le_pow_right (by decide) (by omega)
        have e : (128 : Nat) ^ 8 = 72057594037927936 := by decide
        have h2 : x % 128 * 128 ^ i ≤ 127 * 128 ^ 8 := Nat.mul_le_mul (by omega) h1
        omega
    have eo := orS v (x % 128) i hi hv hc
    rw [ucast _ (by omega), ← w7 i hi] at eo
    have EO := Aside0.mk eo
    clear eo
    have hb2 : ¬ decide (i = 9 ∧ 1 < x % 128) = true := by rw [decide_eq_false h9]; decide
    by_cases h2 : 128 ≤ x
    · by_cases hi9 : i = 9
      · rw [if_pos ⟨hi9, by omega⟩]
        refine Ev.step (fun k => ?_) (rget_ten l ((v + x % 128 * 128 ^ i : Nat) : Int) (i + 1) (by omega))
        simp only [lysimeterref4_Get.j2]
        rw [if_neg hb2, if_pos (pos7' i hi), if_pos (by omega), if_pos (by omega), er, if_neg (by omega), EO.out, succ1 i (by omega)]
      · rw [if_neg (fun hh => hi9 hh.1), if_pos (by omega)]
        have hxm : x % 128 = x - 128 := by omega
        have hv' : v + (x - 128) * 128 ^ i < 128 ^ (i + 1) := by
          rw [Nat.pow_succ]
          have : (x - 128) * 128 ^ i ≤ 127 * 128 ^ i := Nat.mul_le_mul_right _ (by omega)
          omega
        have := ih (i + 1) (v + (x - 128) * 128 ^ i) (by omega) (by omega) (by omega) hv'
        rw [Int.toNat_natCast]
        refine Ev.step (fun k => ?_) this
        simp only [lysimeterref4_Get.j2]
        rw [if_neg hb2, if_pos (pos7' i hi), if_pos (by omega), if_pos (by omega), er, if_neg (by omega), EO.out, succ1 i (by omega), hxm]
    · have hxm : x % 128 = x := by omega
      rw [if_neg (fun hh => h9 ⟨hh.1, by omega⟩), if_neg (by omega)]
      by_cases h3 : x = 0 ∧ 0 < i
      · rw [if_pos ⟨by omega, h3.2⟩]
        refine Ev.step (f := fun _ => some (0, 0, 5)) (fun k => ?_) (Ev.now _)
        simp only [lysimeterref4_Get.j2]
        rw [if_neg hb2, if_pos (pos7' i hi), if_pos (by omega), if_pos (by omega), er, if_pos (by omega), if_pos (by omega), if_pos (by omega)]
      · rw [if_neg (fun hh => h3 ⟨by omega, hh.2⟩)]
        refine Ev.step (f := fun _ => some (fin (some (v + x * 128 ^ i, i + 1)))) (fun k => ?_) (by rw [Int.toNat_natCast]; exact Ev.now _)
        simp only [lysimeterref4_Get.j2]
        rw [if_neg hb2, if_pos (pos7' i hi), if_pos (by omega), if_pos (by omega), er, if_pos (by omega), EO.out, succ1 i (by omega), hxm]
        by_cases h4 : x = 0
        · rw [if_pos (by omega), if_neg (by omega)]
          rfl
        · rw [if_neg (by omega)]
          rfl
theorem rgetSigned_ev (l : List Int) (hb : ∀ x ∈ l, 0 ≤ x ∧ x < 256) (hl : l.length ≤ 1000000) : Ev (fun k => lysimeterref4_GetSigned.f k l) (getS l) := by
  obtain ⟨K, hK⟩ := rget_ev l hb hl (l.length - 0) 0 0 rfl (by decide) (Nat.zero_le _) (by decide)
  refine ⟨K, fun k hk => ?_⟩
  have hg : lysimeterref4_Get.f k l = some (fin (getL 0 0 l)) := hK k hk
  show lysimeterref4_GetSigned.f k l = _
  unfold lysimeterref4_GetSigned.f getS
  rw [hg, Option.bind_some]
  cases h : getL 0 0 l with
  | none => rfl
  | some r =>
    obtain ⟨n, c⟩ := r
    obtain ⟨u, e1, _, _, _, e5, _⟩ := put_get l 0 0 n c hb (by decide) h
    have e6 : n = u := by simpa using e1
    subst e6
    show (if (0 : Int) = 0 then ((lysimeterref4_Zag.f (wrap64 (n : Int))).bind fun t => some (t, (c : Int), (0 : Int))) else _) = _
    rw [if_pos rfl, rzag_eq n e5]
    rfl
end Go.Proofs.Ytemnfnbjapobcaa.VS
end
section
namespace Go.Proofs.Ytemnfnbjapobcaa.Pk
open Go.RowKit Go.Proofs.YtemnfnbjapobcaaW.PrintWords Go.Proofs.YtemnfnbjapobcaaW.PrintLast Go.Proofs.YtemnfnbjapobcaaW.PrintMore
set_option linter.unusedVariables false
set_option linter.unusedSimpArgs false
theorem wrap64_id {n : Int} (h0 : -9223372036854775808 ≤ n) (h1 : n ≤ 9223372036854775807) : wrap64 n = n := by unfold wrap64; omega
theorem bound1 (k : Nat) (h : k ≤ 1000000) : (([] : List Int).length + k) * 1 ≤ 140737488355328 := by
  simp
  omega
theorem flat_le (xss : List (List Int)) (i : Nat) : (xss.take i).flatten.length ≤ xss.flatten.length := by
  have h : xss.flatten = (xss.take i).flatten ++ (xss.drop i).flatten := by rw [← List.flatten_append, List.take_append_drop]
  rw [h, List.length_append]
  exact Nat.le_add_right _ _
set_option maxRecDepth 100000 in
set_option maxHeartbeats 4000000 in
theorem grow_nil (n : Nat) (hn : n ≤ 1000000) (w : World) : Calls Try.prog 127 #[.slice none 0 0, .int .i64 (n : Int)] w fun e w' => ∃ (B : Option Addr) (c : Nat), e = .returned (.slice B 0 c) ∧ Kd.R (Kd.int .u8) 5 w' w.heap.size (fun _ => True) (.slice B 0 c) [] ∧ Below w.heap.size w w' := by
  have c0 : decide ((n : Int) < 0) = false := decide_eq_false (by omega)
  have HN := Aside0.mk hn
  clear hn
  go_enter Try.func127, Try.ntmps127
  have c1 : wrap64 (n : Int) = n := by have := HN.out; exact wrap64_id (by omega) (by omega)
  have hz0 : (Kd.int .u8).M w w.heap.size (fun _ => False) 0 (Value.int .u8 0).cells.toList := rfl
  go_upto_region 5 with (fail)
  · rw [c1]
    have H0 := Aside0.mk (show (0 : Int) ≤ (n : Int) by omega)
    have H1 := Aside0.mk (bound1 (n : Int).toNat (by have := HN.out; omega))
    clear c1
    go_wp2_with (at_builtin; refine Kd.R_append_zeros (Kd.int .u8) (w0 := w) w.heap.size rfl (.tmp 20) (.tmp 21) 88 3 5 (.int .u8 0) 1 rfl Try.underlying88 Try.underlying3 info5 rfl (by decide) (by decide) (.slice none 0 0) [] 0 (n : Int) (fun _ => True) rfl rfl hz0 (fun _ _ => trivial) (Kd.R_nil _ _ _ _ _) H0.out (Below.refl _ _) (Nat.le_refl _) H1.out ?_)
    intro v1 w1 ho hb _ _
    obtain ⟨B, c, hv, hc, hC⟩ := Kd.R_reads ho
    subst hv
    have ho2 := Kd.R_take (m := 0) ho (Nat.zero_le _)
    rw [List.take_zero] at ho2
    have HO := Aside0.mk ho2
    have HB := Aside0.mk hb
    clear ho ho2 hb hc hC
    go_wp2
    go_ret
    exact ⟨B, c, rfl, HO.out, HB.out⟩
  · clear c1
    go_wp2
    go_ret
    exact ⟨none, 0, rfl, Kd.R_nil _ _ _ _ _, Below.refl _ _⟩
end Go.Proofs.Ytemnfnbjapobcaa.Pk
end
section
namespace Go.Proofs.Ytemnfnbjapobcaa.Pk
open Go.RowKit Go.Proofs.YtemnfnbjapobcaaW.PrintWords Go.Proofs.YtemnfnbjapobcaaW.PrintLast Go.Proofs.YtemnfnbjapobcaaW.PrintMore
set_option linter.unusedVariables false
set_option linter.unusedSimpArgs false
theorem info88 : (Try.prog.info? 88).map (fun i => (i.zero, i.size, i.bytes)) = some (some (.slice none 0 0), 1, 24) := by kernel_rfl
abbrev kB : Kd (List Int) := Kd.slice 5 (Kd.int .u8)
theorem at_B {w : World} {A : Option Addr} {xss : List (List Int)} (h : kB.C w A xss.length xss) (i : Nat) (hi : i < xss.length) :
    ∃ (ad : Addr) (D : Option Addr) (d : Nat), A = some ad ∧ w.cell? (ad.add i) = some (.slice D (xss.getD i []).length d) ∧ (xss.getD i []).length ≤ d ∧ (Kd.int .u8).C w D (xss.getD i []).length (xss.getD i []) := by
  obtain ⟨ad, c, e, hl, ⟨D, d, e2, h1, h2⟩, hc⟩ := ReadsRow.get_ h [] (i : Int) (by omega) (by omega)
  rw [Int.toNat_natCast] at e2 h1 h2 hc
  subst e2
  refine ⟨ad, D, d, e, ?_, h1, h2⟩
  have := hc 0 _ rfl
  have e3 : i * kB.sz + 0 = i := Nat.mul_one i
  rwa [e3] at this
theorem sum_snoc (xss : List (List Int)) (i : Nat) (hi : i < xss.length) : (xss.take (i + 1)).flatten = (xss.take i).flatten ++ xss.getD i [] := by
  rw [List.take_succ_eq_append_getElem hi, List.flatten_append, List.getD_eq_getElem?_getD, List.getElem?_eq_getElem hi]
  simp
set_option maxRecDepth 100000 in
set_option maxHeartbeats 4000000 in
theorem concat_calls (A : Option Addr) (c : Nat) (xss : List (List Int)) (w : World) (hr : kB.C w A xss.length xss) (hc : xss.length ≤ c) (hn : xss.length ≤ 1000) (hs : xss.flatten.length ≤ 1000000) :
    Calls Try.prog 96 #[.slice A xss.length c] w fun e w' => ∃ (B : Option Addr) (cB : Nat), e = .returned (.slice B xss.flatten.length cB) ∧ Kd.R (Kd.int .u8) 5 w' w.heap.size (fun _ => True) (.slice B xss.flatten.length cB) xss.flatten ∧ Below w.heap.size w w' := by
  have HR := Aside0.mk hr
  have HS := Aside0.mk (show ∀ i, (xss.take i).flatten.length ≤ 1000000 from fun i => Nat.le_trans (flat_le xss i) hs)
  have HN := Aside0.mk hn
  clear hr hs hn hc
  go_enter Try.func96, Try.ntmps96
  go_wp2
  go_loopg [3, 11] (xss.length + 1) (fun kq v3 v11 W' => ∃ i : Nat, v11 = .int .i64 (i : Int) ∧ Aside0 (kq + i = xss.length + 1 ∧ i ≤ xss.length) ∧ v3 = .int .i64 ((xss.take i).flatten.length : Int) ∧ Aside0 (Below w.heap.size w W'))
  case atStart => exact ⟨0, rfl, ⟨rfl, Nat.zero_le _⟩, rfl, ⟨Below.refl _ _⟩⟩
  case round =>
    obtain ⟨i, rfl, HK, rfl, HB⟩ := hrel
    by_cases h : i < xss.length
    · have c3 : decide ((i : Int) < (xss.length : Int)) = true := decide_eq_true (by omega)
      obtain ⟨ad, D, d, e, r0, hd, hC⟩ := at_B (Kd.C_below HR.out HB.out) i h
      subst e
      have hsn := sum_snoc xss i h
      obtain ⟨y, hy⟩ : ∃ y, xss.getD i [] = y := ⟨_, rfl⟩
      rw [hy] at r0 hd hC hsn
      have e1 : ((xss.take i).flatten.length : Int) + (y.length : Int) = ((xss.take (i + 1)).flatten.length : Int) := by rw [hsn, List.length_append]; omega
      have hb := HS.out (i + 1)
      obtain ⟨s, hs⟩ : ∃ s, (xss.take i).flatten.length = s := ⟨_, rfl⟩
      obtain ⟨s', hs'⟩ : ∃ s', (xss.take (i + 1)).flatten.length = s' := ⟨_, rfl⟩
      rw [hs, hs'] at e1
      rw [hs'] at hb
      rw [hs]
      have HE := Aside0.mk (And.intro hs' e1)
      have c5 : wrap64 ((s : Int) + (y.length : Int)) = (s' : Int) := by rw [e1]; exact wrap64_id (by omega) (by omega)
      have c6 : decide ((s' : Int) < 0) = false := decide_eq_false (by omega)
      have c7 : wrap64 ((i : Int) + 1) = (i : Int) + 1 := by have := HN.out; exact wrap64_id (by omega) (by omega)
      clear hs hs' e1 hb hsn hy hd hC
      cases gk with
      | zero => exact absurd HK.out (by omega)
      | succ k1 =>
        go_wp2
        go_roundg k1
        case measure => omega
        case rel => exact ⟨i + 1, by rw [c7]; go_num, ⟨by have := HK.out; omega, by omega⟩, by rw [c5, HE.out.1], HB⟩
    · have c3 : decide ((i : Int) < (xss.length : Int)) = false := decide_eq_false (by omega)
      obtain rfl : i = xss.length := by have := HK.out; omega
      clear HK h
      have hlen := HS.out xss.length
      rw [List.take_length] at hlen
      obtain ⟨s, hs⟩ : ∃ s, (xss.take xss.length).flatten.length = s := ⟨_, rfl⟩
      rw [hs]
      have HL := Aside0.mk hs
      have hs2 : s ≤ 1000000 := by rw [← hs, List.take_length]; exact hlen
      have KG := Aside0.mk (fun W => grow_nil s hs2 W)
      clear hs hlen hs2
      go_wp2_with (go_at_call 127; (with_reducible refine (KG.out _).mono ?_); rintro e w2 ⟨B, d, rfl, hO, hb⟩; have HO := Aside0.mk hO; have HB2 := Aside0.mk (And.intro HB.out hb); clear hO hb)
      obtain ⟨V0, rfl⟩ : ∃ V0, V0 = wr := ⟨wr, rfl⟩
      go_loopg [6, 27] (xss.length + 1) (fun kq v6 v27 W' => ∃ i : Nat, v27 = .int .i64 (i : Int) ∧ Aside0 (kq + i = xss.length + 1 ∧ i ≤ xss.length) ∧ Aside0 (Kd.R (Kd.int .u8) 5 W' V0.heap.size (fun _ => True) v6 (xss.take i).flatten) ∧ Aside0 (Below V0.heap.size V0 W'))
      case atStart => exact ⟨0, rfl, ⟨rfl, Nat.zero_le _⟩, HO, ⟨HB2.out.2⟩⟩
      case round =>
        obtain ⟨i, rfl, HK, HO1, HB1⟩ := hrel
        clear HO
        by_cases h : i < xss.length
        · have c4 : decide ((i : Int) < (xss.length : Int)) = true := decide_eq_true (by omega)
          obtain ⟨ad, D, d2, e, r0, hd, hC⟩ := at_B (Kd.C_below HR.out (HB2.out.1.trans (HB1.out.mono HB2.out.1.size))) i h
          subst e
          have hsn := sum_snoc xss i h
          have hb := HS.out (i + 1)
          rw [hsn, List.length_append] at hb
          have c7 : wrap64 ((i : Int) + 1) = (i : Int) + 1 := by have := HN.out; exact wrap64_id (by omega) (by omega)
          have HE := Aside0.mk (And.intro hsn (And.intro hb hC))
          obtain ⟨y, hy⟩ : ∃ y, xss.getD i [] = y := ⟨_, rfl⟩
          rw [hy] at r0 HE
          obtain ⟨L, hL⟩ : ∃ L, (xss.take i).flatten = L := ⟨_, rfl⟩
          rw [hL] at HO1 HE
          clear hy hL hsn hb hd hC
          have hl : (L.length + y.length) * 1 ≤ 140737488355328 := by have := HE.out.2.1; omega
          cases gk with
          | zero => exact absurd HK.out (by omega)
          | succ k1 =>
            go_wp2_with (at_builtin; refine Kd.R_append_rows (Kd.int .u8) (Rr := (Kd.int .u8).K wr) (w0 := V0) V0.heap.size rfl (.tmp 31) (.tmp 32) 88 5 (.int .u8 0) 1 rfl Try.underlying88 info5 rfl (by decide) (by decide) u6 L y D y.length d2 (fun _ => True) (fun _ => False) rfl rfl HO1.out HE.out.2.2 (fun _ _ h => h) (fun _ h => h.elim) (fun _ _ => trivial) HB1.out HB1.out.size hl ?_)
            intro v1 w1 ho hb _ _
            have HO2 := Aside0.mk (HE.out.1 ▸ ho)
            have HB3 := Aside0.mk hb
            clear ho hb
            go_wp2
            go_roundg k1
            case measure => omega
            case rel => exact ⟨i + 1, by rw [c7]; go_num, ⟨by have := HK.out; omega, by omega⟩, HO2, HB3⟩
        · have c4 : decide ((i : Int) < (xss.length : Int)) = false := decide_eq_false (by omega)
          obtain rfl : i = xss.length := by have := HK.out; omega
          rw [List.take_length] at HO1
          obtain ⟨B2, cB, hv, hcB, hC⟩ := Kd.R_reads HO1.out
          subst hv
          clear HK h hC hcB
          go_wp2
          go_ret
          exact ⟨B2, cB, rfl, Kd.R_lower HO1.out HB2.out.1.size, HB2.out.1.trans (HB1.out.mono HB2.out.1.size)⟩
end Go.Proofs.Ytemnfnbjapobcaa.Pk
end
section
namespace Go.Proofs.Ytemnfnbjapobcaa.Pk
open Go.RowKit Go.Proofs.YtemnfnbjapobcaaW.PrintWords Go.Proofs.YtemnfnbjapobcaaW.PrintLast Go.Proofs.YtemnfnbjapobcaaW.PrintMore
set_option linter.unusedVariables false
set_option linter.unusedSimpArgs false
def ptr (s i : Nat) : Value := .pointer (some ⟨s, i, none⟩)
def ptrs (s : Nat) : Array Value := #[.pointer (some ⟨s, 0, none⟩), .pointer (some ⟨s, 1, none⟩), .pointer (some ⟨s, 2, none⟩), .pointer (some ⟨s, 3, none⟩), .pointer (some ⟨s, 4, none⟩), .pointer (some ⟨s, 5, none⟩), .pointer (some ⟨s, 6, none⟩), .pointer (some ⟨s, 7, none⟩)]
set_option maxRecDepth 100000 in
set_option maxHeartbeats 4000000 in
theorem fields_calls (s : Nat) (w : World) : Calls Try.prog 94 #[.pointer (some ⟨s, 0, none⟩)] w fun e w' => e = .returned (.agg (ptrs s)) ∧ Below w.heap.size w w' := by
  go_enter Try.func94, Try.ntmps94
  go_wp2
  refine wp_region_quiet_tail 25 (by kernel_rfl) (by kernel_rfl) (fun _ _ _ _ _ h => h) ?_
  simp only [List.take_succ_cons, List.take_zero, List.drop_succ_cons, List.drop_zero]
  repeat (go_big_quiet_step (fail))
  refine wpQuiet_nil ?_
  rintro W1 ⟨nq, hnq⟩
  have b0 : W1.heap[w.heap.size]? = some (.cells #[.pointer none, .pointer none, .pointer none, .pointer none, .pointer none, .pointer none, .pointer none, .pointer none] 124 (0, 0)) := hnq ▸ blk_drewN (blk_new w _) nq
  have hB : Below w.heap.size w W1 := hnq ▸ pw_below_drewN (below_alloc (Below.refl _ _) _) nq
  clear hnq nq
  have c0 := blk_cell b0 0
  have z0 := blk_frozen b0 0
  have c1 := blk_cell b0 1
  have z1 := blk_frozen b0 1
  have c2 := blk_cell b0 2
  have z2 := blk_frozen b0 2
  have c3 := blk_cell b0 3
  have z3 := blk_frozen b0 3
  have c4 := blk_cell b0 4
  have z4 := blk_frozen b0 4
  have c5 := blk_cell b0 5
  have z5 := blk_frozen b0 5
  have c6 := blk_cell b0 6
  have z6 := blk_frozen b0 6
  have c7 := blk_cell b0 7
  have z7 := blk_frozen b0 7
  simp only [List.getElem?_toArray, List.getElem?_cons_zero, List.getElem?_cons_succ] at c0 c1 c2 c3 c4 c5 c6 c7
  have hF : (((((((((W1).setCell ⟨w.heap.size, 0, none⟩ (.pointer (some ⟨s, 0, none⟩))).setCell ⟨w.heap.size, 1, none⟩ (.pointer (some ⟨s, 1, none⟩))).setCell ⟨w.heap.size, 2, none⟩ (.pointer (some ⟨s, 2, none⟩))).setCell ⟨w.heap.size, 3, none⟩ (.pointer (some ⟨s, 3, none⟩))).setCell ⟨w.heap.size, 4, none⟩ (.pointer (some ⟨s, 4, none⟩))).setCell ⟨w.heap.size, 5, none⟩ (.pointer (some ⟨s, 5, none⟩))).setCell ⟨w.heap.size, 6, none⟩ (.pointer (some ⟨s, 6, none⟩))).setCell ⟨w.heap.size, 7, none⟩ (.pointer (some ⟨s, 7, none⟩))).heap[w.heap.size]? = some (.cells #[.pointer (some ⟨s, 0, none⟩), .pointer (some ⟨s, 1, none⟩), .pointer (some ⟨s, 2, none⟩), .pointer (some ⟨s, 3, none⟩), .pointer (some ⟨s, 4, none⟩), .pointer (some ⟨s, 5, none⟩), .pointer (some ⟨s, 6, none⟩), .pointer (some ⟨s, 7, none⟩)] 124 (0, 0)) := blk_put (blk_put (blk_put (blk_put (blk_put (blk_put (blk_put (blk_put b0 0 (.pointer (some ⟨s, 0, none⟩)) rfl) 1 (.pointer (some ⟨s, 1, none⟩)) rfl) 2 (.pointer (some ⟨s, 2, none⟩)) rfl) 3 (.pointer (some ⟨s, 3, none⟩)) rfl) 4 (.pointer (some ⟨s, 4, none⟩)) rfl) 5 (.pointer (some ⟨s, 5, none⟩)) rfl) 6 (.pointer (some ⟨s, 6, none⟩)) rfl) 7 (.pointer (some ⟨s, 7, none⟩)) rfl
  have hBF : Below w.heap.size w (((((((((W1).setCell ⟨w.heap.size, 0, none⟩ (.pointer (some ⟨s, 0, none⟩))).setCell ⟨w.heap.size, 1, none⟩ (.pointer (some ⟨s, 1, none⟩))).setCell ⟨w.heap.size, 2, none⟩ (.pointer (some ⟨s, 2, none⟩))).setCell ⟨w.heap.size, 3, none⟩ (.pointer (some ⟨s, 3, none⟩))).setCell ⟨w.heap.size, 4, none⟩ (.pointer (some ⟨s, 4, none⟩))).setCell ⟨w.heap.size, 5, none⟩ (.pointer (some ⟨s, 5, none⟩))).setCell ⟨w.heap.size, 6, none⟩ (.pointer (some ⟨s, 6, none⟩))).setCell ⟨w.heap.size, 7, none⟩ (.pointer (some ⟨s, 7, none⟩))) := ((((((((hB).setCell (Nat.le_refl _) _).setCell (Nat.le_refl _) _).setCell (Nat.le_refl _) _).setCell (Nat.le_refl _) _).setCell (Nat.le_refl _) _).setCell (Nat.le_refl _) _).setCell (Nat.le_refl _) _).setCell (Nat.le_refl _) _
  have p0 := blk_cell hF 0
  have p1 := blk_cell hF 1
  have p2 := blk_cell hF 2
  have p3 := blk_cell hF 3
  have p4 := blk_cell hF 4
  have p5 := blk_cell hF 5
  have p6 := blk_cell hF 6
  have p7 := blk_cell hF 7
  simp only [List.getElem?_toArray, List.getElem?_cons_zero, List.getElem?_cons_succ] at p0 p1 p2 p3 p4 p5 p6 p7
  have HF := Aside0.mk hF
  have HBF := Aside0.mk hBF
  clear hF hBF b0 hB
  go_wp2
  refine bodyPost_ret (v := .agg (ptrs s)) (by simp [results, Try.results94, go_sem, ptrs, p0, p1, p2, p3, p4, p5, p6, p7]) rfl ?_
  exact ⟨rfl, HBF.out⟩
end Go.Proofs.Ytemnfnbjapobcaa.Pk
end
section
namespace Go.Proofs.Ytemnfnbjapobcaa.Pk
open Go.RowKit Go.Proofs.YtemnfnbjapobcaaW.PrintWords Go.Proofs.YtemnfnbjapobcaaW.PrintLast Go.Proofs.YtemnfnbjapobcaaW.PrintMore
set_option linter.unusedVariables false
set_option linter.unusedSimpArgs false
theorem index_0 (x0 x1 x2 x3 x4 x5 x6 x7 : Option Addr) (W : World) : (Instr.index 124 (.agg #[.pointer x0, .pointer x1, .pointer x2, .pointer x3, .pointer x4, .pointer x5, .pointer x6, .pointer x7]) (.int .i64 0)).run Try.prog W = .ok (.pointer x0) W := by
  simp [Instr.index, go_sem]
theorem index_1 (x0 x1 x2 x3 x4 x5 x6 x7 : Option Addr) (W : World) : (Instr.index 124 (.agg #[.pointer x0, .pointer x1, .pointer x2, .pointer x3, .pointer x4, .pointer x5, .pointer x6, .pointer x7]) (.int .i64 1)).run Try.prog W = .ok (.pointer x1) W := by
  simp [Instr.index, go_sem]
theorem index_2 (x0 x1 x2 x3 x4 x5 x6 x7 : Option Addr) (W : World) : (Instr.index 124 (.agg #[.pointer x0, .pointer x1, .pointer x2, .pointer x3, .pointer x4, .pointer x5, .pointer x6, .pointer x7]) (.int .i64 2)).run Try.prog W = .ok (.pointer x2) W := by
  simp [Instr.index, go_sem]
theorem index_3 (x0 x1 x2 x3 x4 x5 x6 x7 : Option Addr) (W : World) : (Instr.index 124 (.agg #[.pointer x0, .pointer x1, .pointer x2, .pointer x3, .pointer x4, .pointer x5, .pointer x6, .pointer x7]) (.int .i64 3)).run Try.prog W = .ok (.pointer x3) W := by
  simp [Instr.index, go_sem]
theorem index_4 (x0 x1 x2 x3 x4 x5 x6 x7 : Option Addr) (W : World) : (Instr.index 124 (.agg #[.pointer x0, .pointer x1, .pointer x2, .pointer x3, .pointer x4, .pointer x5, .pointer x6, .pointer x7]) (.int .i64 4)).run Try.prog W = .ok (.pointer x4) W := by
  simp [Instr.index, go_sem]
theorem index_5 (x0 x1 x2 x3 x4 x5 x6 x7 : Option Addr) (W : World) : (Instr.index 124 (.agg #[.pointer x0, .pointer x1, .pointer x2, .pointer x3, .pointer x4, .pointer x5, .pointer x6, .pointer x7]) (.int .i64 5)).run Try.prog W = .ok (.pointer x5) W := by
  simp [Instr.index, go_sem]
theorem index_6 (x0 x1 x2 x3 x4 x5 x6 x7 : Option Addr) (W : World) : (Instr.index 124 (.agg #[.pointer x0, .pointer x1, .pointer x2, .pointer x3, .pointer x4, .pointer x5, .pointer x6, .pointer x7]) (.int .i64 6)).run Try.prog W = .ok (.pointer x6) W := by
  simp [Instr.index, go_sem]
theorem index_7 (x0 x1 x2 x3 x4 x5 x6 x7 : Option Addr) (W : World) : (Instr.index 124 (.agg #[.pointer x0, .pointer x1, .pointer x2, .pointer x3, .pointer x4, .pointer x5, .pointer x6, .pointer x7]) (.int .i64 7)).run Try.prog W = .ok (.pointer x7) W := by
  simp [Instr.index, go_sem]
abbrev SignedTo (a : Int) (b : List Int) : Prop := ∀ W : World, Calls Try.prog 95 #[.int .i64 a] W fun e w' => ∃ v0_ : Value, e = .returned (v0_) ∧ Kd.R (Kd.int .u8) 5 w' W.heap.size (fun _ => True) v0_ b ∧ Below W.heap.size W w'
set_option maxRecDepth 100000 in
set_option maxHeartbeats 8000000 in
theorem pack_calls (a0 a1 a2 a3 a4 a5 a6 a7 : Int) (b0 b1 b2 b3 b4 b5 b6 b7 : List Int) (h0 : Aside0 (SignedTo a0 b0)) (h1 : Aside0 (SignedTo a1 b1)) (h2 : Aside0 (SignedTo a2 b2)) (h3 : Aside0 (SignedTo a3 b3)) (h4 : Aside0 (SignedTo a4 b4)) (h5 : Aside0 (SignedTo a5 b5)) (h6 : Aside0 (SignedTo a6 b6)) (h7 : Aside0 (SignedTo a7 b7)) (hlen : ([b0, b1, b2, b3, b4, b5, b6, b7] : List (List Int)).flatten.length ≤ 1000000) (w : World) :
    Calls Try.prog 58 #[.agg #[.int .i64 a0, .int .i64 a1, .int .i64 a2, .int .i64 a3, .int .i64 a4, .int .i64 a5, .int .i64 a6, .int .i64 a7]] w fun e w' => ∃ v : Value, e = .returned v ∧ Kd.R (Kd.int .u8) 5 w' w.heap.size (fun _ => True) v ([b0, b1, b2, b3, b4, b5, b6, b7] : List (List Int)).flatten ∧ Below w.heap.size w w' := by
  have HL := Aside0.mk hlen
  clear hlen
  have b0_ := Aside0.mk (blk_new w (.cells #[.int .i64 a0, .int .i64 a1, .int .i64 a2, .int .i64 a3, .int .i64 a4, .int .i64 a5, .int .i64 a6, .int .i64 a7] 65))
  have hB0 := Aside0.mk (below_alloc (Below.refl w.heap.size w) (.cells #[.int .i64 a0, .int .i64 a1, .int .i64 a2, .int .i64 a3, .int .i64 a4, .int .i64 a5, .int .i64 a6, .int .i64 a7] 65))
  go_enter Try.func58, Try.ntmps58
  go_wp2_with (go_at_call 94; (with_reducible refine (fields_calls _ _).mono ?_); rintro e w1 ⟨rfl, hb⟩; have HX := Aside0.mk (blk_below b0_.out hb); have HB := Aside0.mk (hB0.out.trans (hb.mono hB0.out.size)); clear hb)
  unfold ptrs
  go_loopg [3, 7] 9 (fun kq v3 v7 W' => ∃ i : Nat, v7 = .int .i64 (i : Int) ∧ Aside0 (kq + i = 9 ∧ i ≤ 8) ∧ Aside0 (Kd.R kB 88 W' w1.heap.size (fun _ => True) v3 (([b0, b1, b2, b3, b4, b5, b6, b7] : List (List Int)).take i)) ∧ Aside0 (Below w1.heap.size w1 W'))
  case atStart => exact ⟨0, rfl, ⟨rfl, Nat.zero_le _⟩, ⟨Kd.R_nil _ _ _ _ _⟩, ⟨Below.refl _ _⟩⟩
  case round =>
    obtain ⟨i, rfl, HK, HO, HQ⟩ := hrel
    by_cases h : i < 8
    · have hi : i = 0 ∨ i = 1 ∨ i = 2 ∨ i = 3 ∨ i = 4 ∨ i = 5 ∨ i = 6 ∨ i = 7 := by omega
      clear h
      cases gk with
      | zero => exact absurd HK.out (by rcases hi with rfl | rfl | rfl | rfl | rfl | rfl | rfl | rfl <;> omega)
      | succ k1 =>
        rcases hi with rfl | rfl | rfl | rfl | rfl | rfl | rfl | rfl
        · have r0 := blk_cell (blk_below HX.out HQ.out) 0
          simp only [List.getElem?_toArray, List.getElem?_cons_zero, List.getElem?_cons_succ] at r0
          rw [show ((0 : Nat) : Int) = 0 from rfl]
          have ix := fun W => index_0 (some ⟨w.heap.size, 0, none⟩) (some ⟨w.heap.size, 1, none⟩) (some ⟨w.heap.size, 2, none⟩) (some ⟨w.heap.size, 3, none⟩) (some ⟨w.heap.size, 4, none⟩) (some ⟨w.heap.size, 5, none⟩) (some ⟨w.heap.size, 6, none⟩) (some ⟨w.heap.size, 7, none⟩) W
          go_wp2_with (first | (go_at_call 95; (with_reducible refine (h0.out _).mono ?_); rintro e w2 ⟨v, rfl, hv, hb⟩; obtain ⟨D, d, hvv, hd, hC⟩ := Kd.R_reads hv; subst hvv; have HV := Aside0.mk (Kd.R_mono (Kd.R_lower (Kd.R_newR hv HO.out) HQ.out.size) (fun k hk => hk.2)); have HE := Aside0.mk (Kd.R_mono (Kd.R_elder HO.out hv hb) (fun _ _ => trivial)); have HB2 := Aside0.mk (HQ.out.trans (hb.mono HQ.out.size)); clear hv hb r0 hd hC) | (at_builtin; refine Kd.R_append kB (w0 := w1) w1.heap.size rfl (.tmp 10) (.tmp 15) 122 88 (.slice none 0 0) 24 rfl Try.underlying122 info88 rfl (by decide) (by decide) u3 (([b0, b1, b2, b3, b4, b5, b6, b7] : List (List Int)).take 0) b0 [.slice D b0.length d] (fun _ => True) (fun k => some k ≠ u3.ownBlock) rfl rfl ⟨_, rfl, HV.out⟩ (fun k hk => ⟨trivial, hk⟩) (fun _ _ => trivial) HE.out HB2.out HB2.out.size (by simp) ?_))
          intro v1 w3 ho hb _ _
          have HO2 : Aside0 (Kd.R kB 88 w3 w1.heap.size (fun _ => True) v1 (([b0, b1, b2, b3, b4, b5, b6, b7] : List (List Int)).take (0 + 1))) := ⟨ho⟩
          have HB3 := Aside0.mk hb
          clear ho hb HE HV HO HQ
          go_wp2
          go_roundg k1
          case measure => omega
          case rel => exact ⟨0 + 1, by rfl, ⟨by have := HK.out; omega, by omega⟩, HO2, HB3⟩
        · have r0 := blk_cell (blk_below HX.out HQ.out) 1
          simp only [List.getElem?_toArray, List.getElem?_cons_zero, List.getElem?_cons_succ] at r0
          rw [show ((1 : Nat) : Int) = 1 from rfl]
          have ix := fun W => index_1 (some ⟨w.heap.size, 0, none⟩) (some ⟨w.heap.size, 1, none⟩) (some ⟨w.heap.size, 2, none⟩) (some ⟨w.heap.size, 3, none⟩) (some ⟨w.heap.size, 4, none⟩) (some ⟨w.heap.size, 5, none⟩) (some ⟨w.heap.size, 6, none⟩) (some ⟨w.heap.size, 7, none⟩) W
          go_wp2_with (first | (go_at_call 95; (with_reducible refine (h1.out _).mono ?_); rintro e w2 ⟨v, rfl, hv, hb⟩; obtain ⟨D, d, hvv, hd, hC⟩ := Kd.R_reads hv; subst hvv; have HV := Aside0.mk (Kd.R_mono (Kd.R_lower (Kd.R_newR hv HO.out) HQ.out.size) (fun k hk => hk.2)); have HE := Aside0.mk (Kd.R_mono (Kd.R_elder HO.out hv hb) (fun _ _ => trivial)); have HB2 := Aside0.mk (HQ.out.trans (hb.mono HQ.out.size)); clear hv hb r0 hd hC) | (at_builtin; refine Kd.R_append kB (w0 := w1) w1.heap.size rfl (.tmp 10) (.tmp 15) 122 88 (.slice none 0 0) 24 rfl Try.underlying122 info88 rfl (by decide) (by decide) u3 (([b0, b1, b2, b3, b4, b5, b6, b7] : List (List Int)).take 1) b1 [.slice D b1.length d] (fun _ => True) (fun k => some k ≠ u3.ownBlock) rfl rfl ⟨_, rfl, HV.out⟩ (fun k hk => ⟨trivial, hk⟩) (fun _ _ => trivial) HE.out HB2.out HB2.out.size (by simp) ?_))
          intro v1 w3 ho hb _ _
          have HO2 : Aside0 (Kd.R kB 88 w3 w1.heap.size (fun _ => True) v1 (([b0, b1, b2, b3, b4, b5, b6, b7] : List (List Int)).take (1 + 1))) := ⟨ho⟩
          have HB3 := Aside0.mk hb
          clear ho hb HE HV HO HQ
          go_wp2
          go_roundg k1
          case measure => omega
          case rel => exact ⟨1 + 1, by rfl, ⟨by have := HK.out; omega, by omega⟩, HO2, HB3⟩
        · have r0 := blk_cell (blk_below HX.out HQ.out) 2
          simp only [List.getElem?_toArray, List.getElem?_cons_zero, List.getElem?_cons_succ] at r0
          rw [show ((2 : Nat) : Int) = 2 from rfl]
          have ix := fun W => index_2 (some ⟨w.heap.size, 0, none⟩) (some ⟨w.heap.size, 1, none⟩) (some ⟨w.heap.size, 2, none⟩) (some ⟨w.heap.size, 3, none⟩) (some ⟨w.heap.size, 4, none⟩) (some ⟨w.heap.size, 5, none⟩) (some ⟨w.heap.size, 6, none⟩) (some ⟨w.heap.size, 7, none⟩) W
          go_wp2_with (first | (go_at_call 95; (with_reducible refine (h2.out _).mono ?_); rintro e w2 ⟨v, rfl, hv, hb⟩; obtain ⟨D, d, hvv, hd, hC⟩ := Kd.R_reads hv; subst hvv; have HV := Aside0.mk (Kd.R_mono (Kd.R_lower (Kd.R_newR hv HO.out) HQ.out.size) (fun k hk => hk.2)); have HE := Aside0.mk (Kd.R_mono (Kd.R_elder HO.out hv hb) (fun _ _ => trivial)); have HB2 := Aside0.mk (HQ.out.trans (hb.mono HQ.out.size)); clear hv hb r0 hd hC) | (at_builtin; refine Kd.R_append kB (w0 := w1) w1.heap.size rfl (.tmp 10) (.tmp 15) 122 88 (.slice none 0 0) 24 rfl Try.underlying122 info88 rfl (by decide) (by decide) u3 (([b0, b1, b2, b3, b4, b5, b6, b7] : List (List Int)).take 2) b2 [.slice D b2.length d] (fun _ => True) (fun k => some k ≠ u3.ownBlock) rfl rfl ⟨_, rfl, HV.out⟩ (fun k hk => ⟨trivial, hk⟩) (fun _ _ => trivial) HE.out HB2.out HB2.out.size (by simp) ?_))
          intro v1 w3 ho hb _ _
          have HO2 : Aside0 (Kd.R kB 88 w3 w1.heap.size (fun _ => True) v1 (([b0, b1, b2, b3, b4, b5, b6, b7] : List (List Int)).take (2 + 1))) := ⟨ho⟩
          have HB3 := Aside0.mk hb
          clear ho hb HE HV HO HQ
          go_wp2
          go_roundg k1
          case measure => omega
          case rel => exact ⟨2 + 1, by rfl, ⟨by have := HK.out; omega, by omega⟩, HO2, HB3⟩
        · have r0 := blk_cell (blk_below HX.out HQ.out) 3
          simp only [List.getElem?_toArray, List.getElem?_cons_zero, List.getElem?_cons_succ] at r0
          rw [show ((3 : Nat) : Int) = 3 from rfl]
          have ix := fun W => index_3 (some ⟨w.heap.size, 0, none⟩) (some ⟨w.heap.size, 1, none⟩) (some ⟨w.heap.size, 2, none⟩) (some ⟨w.heap.size, 3, none⟩) (some ⟨w.heap.size, 4, none⟩) (some ⟨w.heap.size, 5, none⟩) (some ⟨w.heap.size, 6, none⟩) (some ⟨w.heap.size, 7, none⟩) W
          go_wp2_with (first | (go_at_call 95; (with_reducible refine (h3.out _).mono ?_); rintro e w2 ⟨v, rfl, hv, hb⟩; obtain ⟨D, d, hvv, hd, hC⟩ := Kd.R_reads hv; subst hvv; have HV := Aside0.mk (Kd.R_mono (Kd.R_lower (Kd.R_newR hv HO.out) HQ.out.size) (fun k hk => hk.2)); have HE := Aside0.mk (Kd.R_mono (Kd.R_elder HO.out hv hb) (fun _ _ => trivial)); have HB2 := Aside0.mk (HQ.out.trans (hb.mono HQ.out.size)); clear hv hb r0 hd hC) | (at_builtin; refine Kd.R_append kB (w0 := w1) w1.heap.size rfl (.tmp 10) (.tmp 15) 122 88 (.slice none 0 0) 24 rfl Try.underlying122 info88 rfl (by decide) (by decide) u3 (([b0, b1, b2, b3, b4, b5, b6, b7] : List (List Int)).take 3) b3 [.slice D b3.length d] (fun _ => True) (fun k => some k ≠ u3.ownBlock) rfl rfl ⟨_, rfl, HV.out⟩ (fun k hk => ⟨trivial, hk⟩) (fun _ _ => trivial) HE.out HB2.out HB2.out.size (by simp) ?_))
          intro v1 w3 ho hb _ _
          have HO2 : Aside0 (Kd.R kB 88 w3 w1.heap.size (fun _ => True) v1 (([b0, b1, b2, b3, b4, b5, b6, b7] : List (List Int)).take (3 + 1))) := ⟨ho⟩
          have HB3 := Aside0.mk hb
          clear ho hb HE HV HO HQ
          go_wp2
          go_roundg k1
          case measure => omega
          case rel => exact ⟨3 + 1, by rfl, ⟨by have := HK.out; omega, by omega⟩, HO2, HB3⟩
        · have r0 := blk_cell (blk_below HX.out HQ.out) 4
          simp only [List.getElem?_toArray, List.getElem?_cons_zero, List.getElem?_cons_succ] at r0
          rw [show ((4 : Nat) : Int) = 4 from rfl]
          have ix := fun W => index_4 (some ⟨w.heap.size, 0, none⟩) (some ⟨w.heap.size, 1, none⟩) (some ⟨w.heap.size, 2, none⟩) (some ⟨w.heap.size, 3, none⟩) (some ⟨w.heap.size, 4, none⟩) (some ⟨w.heap.size, 5, none⟩) (some ⟨w.heap.size, 6, none⟩) (some ⟨w.heap.size, 7, none⟩) W
          go_wp2_with (first | (go_at_call 95; (with_reducible refine (h4.out _).mono ?_); rintro e w2 ⟨v, rfl, hv, hb⟩; obtain ⟨D, d, hvv, hd, hC⟩ := Kd.R_reads hv; subst hvv; have HV := Aside0.mk (Kd.R_mono (Kd.R_lower (Kd.R_newR hv HO.out) HQ.out.size) (fun k hk => hk.2)); have HE := Aside0.mk (Kd.R_mono (Kd.R_elder HO.out hv hb) (fun _ _ => trivial)); have HB2 := Aside0.mk (HQ.out.trans (hb.mono HQ.out.size)); clear hv hb r0 hd hC) | (at_builtin; refine Kd.R_append kB (w0 := w1) w1.heap.size rfl (.tmp 10) (.tmp 15) 122 88 (.slice none 0 0) 24 rfl Try.underlying122 info88 rfl (by decide) (by decide) u3 (([b0, b1, b2, b3, b4, b5, b6, b7] : List (List Int)).take 4) b4 [.slice D b4.length d] (fun _ => True) (fun k => some k ≠ u3.ownBlock) rfl rfl ⟨_, rfl, HV.out⟩ (fun k hk => ⟨trivial, hk⟩) (fun _ _ => trivial) HE.out HB2.out HB2.out.size (by simp) ?_))
          intro v1 w3 ho hb _ _
          have HO2 : Aside0 (Kd.R kB 88 w3 w1.heap.size (fun _ => True) v1 (([b0, b1, b2, b3, b4, b5, b6, b7] : List (List Int)).take (4 + 1))) := ⟨ho⟩
          have HB3 := Aside0.mk hb
          clear ho hb HE HV HO HQ
          go_wp2
          go_roundg k1
          case measure => omega
          case rel => exact ⟨4 + 1, by rfl, ⟨by have := HK.out; omega, by omega⟩, HO2, HB3⟩
        · have r0 := blk_cell (blk_below HX.out HQ.out) 5
          simp only [List.getElem?_toArray, List.getElem?_cons_zero, List.getElem?_cons_succ] at r0
          rw [show ((5 : Nat) : Int) = 5 from rfl]
          have ix := fun W => index_5 (some ⟨w.heap.size, 0, none⟩) (some ⟨w.heap.size, 1, none⟩) (some ⟨w.heap.size, 2, none⟩) (some ⟨w.heap.size, 3, none⟩) (some ⟨w.heap.size, 4, none⟩) (some ⟨w.heap.size, 5, none⟩) (some ⟨w.heap.size, 6, none⟩) (some ⟨w.heap.size, 7, none⟩) W
          go_wp2_with (first | (go_at_call 95; (with_reducible refine (h5.out _).mono ?_); rintro e w2 ⟨v, rfl, hv, hb⟩; obtain ⟨D, d, hvv, hd, hC⟩ := Kd.R_reads hv; subst hvv; have HV := Aside0.mk (Kd.R_mono (Kd.R_lower (Kd.R_newR hv HO.out) HQ.out.size) (fun k hk => hk.2)); have HE := Aside0.mk (Kd.R_mono (Kd.R_elder HO.out hv hb) (fun _ _ => trivial)); have HB2 := Aside0.mk (HQ.out.trans (hb.mono HQ.out.size)); clear hv hb r0 hd hC) | (at_builtin; refine Kd.R_append kB (w0 := w1) w1.heap.size rfl (.tmp 10) (.tmp 15) 122 88 (.slice none 0 0) 24 rfl Try.underlying122 info88 rfl (by decide) (by decide) u3 (([b0, b1, b2, b3, b4, b5, b6, b7] : List (List Int)).take 5) b5 [.slice D b5.length d] (fun _ => True) (fun k => some k ≠ u3.ownBlock) rfl rfl ⟨_, rfl, HV.out⟩ (fun k hk => ⟨trivial, hk⟩) (fun _ _ => trivial) HE.out HB2.out HB2.out.size (by simp) ?_))
          intro v1 w3 ho hb _ _
          have HO2 : Aside0 (Kd.R kB 88 w3 w1.heap.size (fun _ => True) v1 (([b0, b1, b2, b3, b4, b5, b6, b7] : List (List Int)).take (5 + 1))) := ⟨ho⟩
          have HB3 := Aside0.mk hb
          clear ho hb HE HV HO HQ
          go_wp2
          go_roundg k1
          case measure => omega
          case rel => exact ⟨5 + 1, by rfl, ⟨by have := HK.out; omega, by omega⟩, HO2, HB3⟩
        · have r0 := blk_cell (blk_below HX.out HQ.out) 6
          simp only [List.getElem?_toArray, List.getElem?_cons_zero, List.getElem?_cons_succ] at r0
          rw [show ((6 : Nat) : Int) = 6 from rfl]
          have ix := fun W => index_6 (some ⟨w.heap.size, 0, none⟩) (some ⟨w.heap.size, 1, none⟩) (some ⟨w.heap.size, 2, none⟩) (some ⟨w.heap.size, 3, none⟩) (some ⟨w.heap.size, 4, none⟩) (some ⟨w.heap.size, 5, none⟩) (some ⟨w.heap.size, 6, none⟩) (some ⟨w.heap.size, 7, none⟩) W
          go_wp2_with (first | (go_at_call 95; (with_reducible refine (h6.out _).mono ?_); rintro e w2 ⟨v, rfl, hv, hb⟩; obtain ⟨D, d, hvv, hd, hC⟩ := Kd.R_reads hv; subst hvv; have HV := Aside0.mk (Kd.R_mono (Kd.R_lower (Kd.R_newR hv HO.out) HQ.out.size) (fun k hk => hk.2)); have HE := Aside0.mk (Kd.R_mono (Kd.R_elder HO.out hv hb) (fun _ _ => trivial)); have HB2 := Aside0.mk (HQ.out.trans (hb.mono HQ.out.size)); clear hv hb r0 hd hC) | (at_builtin; refine Kd.R_append kB (w0 := w1) w1.heap.size rfl (.tmp 10) (.tmp 15) 122 88 (.slice none 0 0) 24 rfl Try.underlying122 info88 rfl (by decide) (by decide) u3 (([b0, b1, b2, b3, b4, b5, b6, b7] : List (List Int)).take 6) b6 [.slice D b6.length d] (fun _ => True) (fun k => some k ≠ u3.ownBlock) rfl rfl ⟨_, rfl, HV.out⟩ (fun k hk => ⟨trivial, hk⟩) (fun _ _ => trivial) HE.out HB2.out HB2.out.size (by simp) ?_))
          intro v1 w3 ho hb _ _
          have HO2 : Aside0 (Kd.R kB 88 w3 w1.heap.size (fun _ => True) v1 (([b0, b1, b2, b3, b4, b5, b6, b7] : List (List Int)).take (6 + 1))) := ⟨ho⟩
          have HB3 := Aside0.mk hb
          clear ho hb HE HV HO HQ
          go_wp2
          go_roundg k1
          case measure => omega
          case rel => exact ⟨6 + 1, by rfl, ⟨by have := HK.out; omega, by omega⟩, HO2, HB3⟩
        · have r0 := blk_cell (blk_below HX.out HQ.out) 7
          simp only [List.getElem?_toArray, List.getElem?_cons_zero, List.getElem?_cons_succ] at r0
          rw [show ((7 : Nat) : Int) = 7 from rfl]
          have ix := fun W => index_7 (some ⟨w.heap.size, 0, none⟩) (some ⟨w.heap.size, 1, none⟩) (some ⟨w.heap.size, 2, none⟩) (some ⟨w.heap.size, 3, none⟩) (some ⟨w.heap.size, 4, none⟩) (some ⟨w.heap.size, 5, none⟩) (some ⟨w.heap.size, 6, none⟩) (some ⟨w.heap.size, 7, none⟩) W
          go_wp2_with (first | (go_at_call 95; (with_reducible refine (h7.out _).mono ?_); rintro e w2 ⟨v, rfl, hv, hb⟩; obtain ⟨D, d, hvv, hd, hC⟩ := Kd.R_reads hv; subst hvv; have HV := Aside0.mk (Kd.R_mono (Kd.R_lower (Kd.R_newR hv HO.out) HQ.out.size) (fun k hk => hk.2)); have HE := Aside0.mk (Kd.R_mono (Kd.R_elder HO.out hv hb) (fun _ _ => trivial)); have HB2 := Aside0.mk (HQ.out.trans (hb.mono HQ.out.size)); clear hv hb r0 hd hC) | (at_builtin; refine Kd.R_append kB (w0 := w1) w1.heap.size rfl (.tmp 10) (.tmp 15) 122 88 (.slice none 0 0) 24 rfl Try.underlying122 info88 rfl (by decide) (by decide) u3 (([b0, b1, b2, b3, b4, b5, b6, b7] : List (List Int)).take 7) b7 [.slice D b7.length d] (fun _ => True) (fun k => some k ≠ u3.ownBlock) rfl rfl ⟨_, rfl, HV.out⟩ (fun k hk => ⟨trivial, hk⟩) (fun _ _ => trivial) HE.out HB2.out HB2.out.size (by simp) ?_))
          intro v1 w3 ho hb _ _
          have HO2 : Aside0 (Kd.R kB 88 w3 w1.heap.size (fun _ => True) v1 (([b0, b1, b2, b3, b4, b5, b6, b7] : List (List Int)).take (7 + 1))) := ⟨ho⟩
          have HB3 := Aside0.mk hb
          clear ho hb HE HV HO HQ
          go_wp2
          go_roundg k1
          case measure => omega
          case rel => exact ⟨7 + 1, by rfl, ⟨by have := HK.out; omega, by omega⟩, HO2, HB3⟩
    · obtain rfl : i = 8 := by have := HK.out; omega
      rw [show ((8 : Nat) : Int) = 8 from rfl]
      obtain ⟨B, cB, hv, hcB, hC⟩ := Kd.R_reads HO.out
      have hv' : u3 = .slice B 8 cB := hv
      subst hv'
      have hC' : Kd.C kB wr B 8 ([b0, b1, b2, b3, b4, b5, b6, b7] : List (List Int)) := hC
      have HC := Aside0.mk hC'
      obtain ⟨FN, hFN⟩ : ∃ n, ([b0, b1, b2, b3, b4, b5, b6, b7] : List (List Int)).flatten.length = n := ⟨_, rfl⟩
      have KC : Aside0 (∀ W, Kd.C kB W B 8 ([b0, b1, b2, b3, b4, b5, b6, b7] : List (List Int)) → Calls Try.prog 96 #[.slice B 8 cB] W fun e w' => ∃ (B : Option Addr) (cB : Nat), e = .returned (.slice B FN cB) ∧ Kd.R (Kd.int .u8) 5 w' W.heap.size (fun _ => True) (.slice B FN cB) ([b0, b1, b2, b3, b4, b5, b6, b7] : List (List Int)).flatten ∧ Below W.heap.size W w') := ⟨fun W hW => by rw [← hFN]; exact concat_calls B cB [b0, b1, b2, b3, b4, b5, b6, b7] W hW hcB (by simp) HL.out⟩
      clear hv hC hC' hcB h HK hFN
      go_wp2_with (go_at_call 96; (with_reducible refine (KC.out _ HC.out).mono ?_); rintro e w4 ⟨B4, d4, rfl, hR, hb⟩; have HR4 := Aside0.mk hR; have HB4 := Aside0.mk hb; clear hR hb)
      go_ret
      exact ⟨_, rfl, Kd.R_lower HR4.out (HB.out.trans (HQ.out.mono HB.out.size)).size, (HB.out.trans (HQ.out.mono HB.out.size)).trans (HB4.out.mono (HB.out.trans (HQ.out.mono HB.out.size)).size)⟩
end Go.Proofs.Ytemnfnbjapobcaa.Pk
end
section
namespace Go.Proofs.Ytemnfnbjapobcaa.Pq
open Go.RowKit Go.Proofs.YtemnfnbjapobcaaW.PrintWords Go.Proofs.YtemnfnbjapobcaaW.PrintLast Go.Proofs.YtemnfnbjapobcaaW.PrintMore
attribute [local go_sem] max2_int min2_int max_two min_two max_three min_three max_four min_four   -- for this text's walks alone
set_option linter.unusedVariables false
set_option linter.unusedSimpArgs false
def errW : Option Int → Value
  | none => .nilIface
  | some c => .iface 0 (.int .i64 c)
theorem errW_none : errW none = .nilIface := rfl
theorem errW_some (c : Int) : errW (some c) = .iface 0 (.int .i64 c) := rfl
end Go.Proofs.Ytemnfnbjapobcaa.Pq
end
section
namespace Go.Proofs.Ytemnfnbjapobcaa.Pq
open Go.RowKit Go.Proofs.YtemnfnbjapobcaaW.PrintWords Go.Proofs.YtemnfnbjapobcaaW.PrintLast Go.Proofs.YtemnfnbjapobcaaW.PrintMore
attribute [local go_sem] max2_int min2_int max_two min_two max_three min_three max_four min_four   -- for this text's walks alone
set_option linter.unusedVariables false
set_option linter.unusedSimpArgs false
def bytes_Equal.f (l0 : List Int) (l1 : List Int) : Option (Bool) := some ((strOfNums l0).toList == (strOfNums l1).toList)
set_option maxHeartbeats 8000000 in
set_option maxRecDepth 100000 in
theorem bytes_Equal.calls (A0 : Option Addr) (c0 : Nat) (l0 : List Int) (A1 : Option Addr) (c1 : Nat) (l1 : List Int) (r : Bool) (w : World) (hr0 : Kd.C (Kd.int .u8) w A0 l0.length l0) (hc0 : l0.length ≤ c0) (hr1 : Kd.C (Kd.int .u8) w A1 l1.length l1) (hc1 : l1.length ≤ c1) (h : bytes_Equal.f l0 l1 = some r) :
    Calls Try.prog 98 #[.slice A0 l0.length c0, .slice A1 l1.length c1] w fun e w' => e = .returned (.bool r) ∧ Drawn0 w w' := by
  have HR0 := Aside0.mk hr0
  have HC0 := Aside0.mk hc0
  clear hr0 hc0
  have HR1 := Aside0.mk hr1
  have HC1 := Aside0.mk hc1
  clear hr1 hc1
  have H : (some ((strOfNums l0).toList == (strOfNums l1).toList)) = some r := h
  clear h
  obtain rfl := Option.some.inj H
  have hcv3 := Kd.C_string (P := Try.prog) (A := A0) (c := c0) Try.underlying88 Try.underlying5 Try.underlying9 HR0.out
  have hcv4 := Kd.C_string (P := Try.prog) (A := A1) (c := c1) Try.underlying88 Try.underlying5 Try.underlying9 HR1.out
  go_enter Try.func98, Try.ntmps98
  go_wp2
  go_ret
  exact ⟨by first | rfl | (simp; done) | (simp [*]; done), by repeat (first | exact Drawn0.refl _ | apply Drawn0.step)⟩
end Go.Proofs.Ytemnfnbjapobcaa.Pq
end
section
namespace Go.Proofs.Ytemnfnbjapobcaa.Pk
open Go.RowKit Go.Proofs.YtemnfnbjapobcaaW.PrintWords Go.Proofs.YtemnfnbjapobcaaW.PrintLast Go.Proofs.YtemnfnbjapobcaaW.PrintMore
set_option linter.unusedVariables false
set_option linter.unusedSimpArgs false
def unp (g : List Int → Option (Int × Int × Int)) : Nat → List Int → Option (Option (List Int × List Int))
  | 0, l => some (some ([], l))
  | m + 1, l => (g l).bind fun r => if r.2.2 = 0 then (if 0 ≤ r.2.1 ∧ r.2.1 ≤ (l.length : Int) then (unp g m (l.drop r.2.1.toNat)).bind fun t => some (t.map fun t => (r.1 :: t.1, t.2)) else none) else some none
theorem unp_succ {g : List Int → Option (Int × Int × Int)} {m : Nat} {l : List Int} {X : Option (List Int × List Int)} (h : unp g (m + 1) l = some X) :
    ∃ r, g l = some r ∧ ((r.2.2 ≠ 0 ∧ X = none) ∨ (r.2.2 = 0 ∧ ∃ (d : Nat) (Y : Option (List Int × List Int)), r.2.1 = (d : Int) ∧ d ≤ l.length ∧ unp g m (l.drop d) = some Y ∧ X = Y.map fun t => (r.1 :: t.1, t.2))) := by
  unfold unp at h
  obtain ⟨r, hr, h⟩ := Option.bind_eq_some_iff.mp h
  refine ⟨r, hr, ?_⟩
  by_cases h0 : r.2.2 = 0
  · rw [if_pos h0] at h
    by_cases h1 : 0 ≤ r.2.1 ∧ r.2.1 ≤ (l.length : Int)
    · rw [if_pos h1] at h
      obtain ⟨Y, hY, h⟩ := Option.bind_eq_some_iff.mp h
      exact .inr ⟨h0, r.2.1.toNat, Y, by omega, by omega, hY, (Option.some.inj h).symm⟩
    · rw [if_neg h1] at h
      cases h
  · rw [if_neg h0] at h
    exact .inl ⟨h0, (Option.some.inj h).symm⟩
def eqB (l m : List Int) : Bool := (strOfNums l).toList == (strOfNums m).toList
def unpR (S : Int → List Int) (b : List Int) (X : Option (List Int × List Int)) : List Int × Int := match X with
  | none => ([0, 0, 0, 0, 0, 0, 0, 0], 5)
  | some t => if eqB (t.1.map S).flatten b = true then (t.1, 0) else ([0, 0, 0, 0, 0, 0, 0, 0], 5)
def agg8 (l : List Int) : Value := .agg #[.int .i64 (l.getD 0 0), .int .i64 (l.getD 1 0), .int .i64 (l.getD 2 0), .int .i64 (l.getD 3 0), .int .i64 (l.getD 4 0), .int .i64 (l.getD 5 0), .int .i64 (l.getD 6 0), .int .i64 (l.getD 7 0)]
def cells8 (vs : List Int) : Array Value := ((vs ++ List.replicate (8 - vs.length) 0).map (Value.int .i64)).toArray
theorem cells8_set (vs : List Int) (n : Int) (h : vs.length < 8) : (cells8 vs).setIfInBounds vs.length (.int .i64 n) = cells8 (vs ++ [n]) := by
  unfold cells8
  have e : List.replicate (8 - vs.length) (0 : Int) = 0 :: List.replicate (8 - (vs ++ [n]).length) 0 := by
    rw [List.length_append, List.length_singleton, ← List.replicate_succ]
    congr 1
    omega
  rw [e]
  simp
theorem cells8_get (vs : List Int) (h : vs.length < 8) : (cells8 vs)[vs.length]? = some (.int .i64 0) := by
  unfold cells8
  have e : List.replicate (8 - vs.length) (0 : Int) = 0 :: List.replicate (7 - vs.length) 0 := by
    rw [← List.replicate_succ]
    congr 1
    omega
  rw [e]
  simp
theorem index_ptrs (s i : Nat) (hi : i < 8) (W : World) : (Instr.index 124 (.agg #[.pointer (some ⟨s, 0, none⟩), .pointer (some ⟨s, 1, none⟩), .pointer (some ⟨s, 2, none⟩), .pointer (some ⟨s, 3, none⟩), .pointer (some ⟨s, 4, none⟩), .pointer (some ⟨s, 5, none⟩), .pointer (some ⟨s, 6, none⟩), .pointer (some ⟨s, 7, none⟩)]) (.int .i64 (i : Int))).run Try.prog W = .ok (.pointer (some ⟨s, i, none⟩)) W := by
  have h : i = 0 ∨ i = 1 ∨ i = 2 ∨ i = 3 ∨ i = 4 ∨ i = 5 ∨ i = 6 ∨ i = 7 := by omega
  rcases h with rfl | rfl | rfl | rfl | rfl | rfl | rfl | rfl
  · exact index_0 _ _ _ _ _ _ _ _ W
  · exact index_1 _ _ _ _ _ _ _ _ W
  · exact index_2 _ _ _ _ _ _ _ _ W
  · exact index_3 _ _ _ _ _ _ _ _ W
  · exact index_4 _ _ _ _ _ _ _ _ W
  · exact index_5 _ _ _ _ _ _ _ _ W
  · exact index_6 _ _ _ _ _ _ _ _ W
  · exact index_7 _ _ _ _ _ _ _ _ W
theorem size_alloc_ (w : World) (o : Obj) : (w.alloc o).heap.size = w.heap.size + 1 := by simp
theorem list8 (l : List Int) (h : l.length = 8) : ∃ a0 a1 a2 a3 a4 a5 a6 a7, l = [a0, a1, a2, a3, a4, a5, a6, a7] := by
  match l, h with
  | [a0, a1, a2, a3, a4, a5, a6, a7], _ => exact ⟨a0, a1, a2, a3, a4, a5, a6, a7, rfl⟩
def EnvU (s : Nat) (vs : List Int) (W : World) : Prop := W.heap[s]? = some (.cells (cells8 []) 65 (0, 0)) ∧ W.heap[s + 1]? = some (.cells (cells8 vs) 65 (0, 0))
theorem EnvU.below {s : Nat} {vs : List Int} {W W' : World} (h : EnvU s vs W) (hb : Below W.heap.size W W') : EnvU s vs W' := ⟨blk_below h.1 hb, blk_below h.2 hb⟩
theorem EnvU.set {s : Nat} {vs : List Int} {W : World} (h : EnvU s vs W) (hv : vs.length < 8) (n : Int) : EnvU s (vs ++ [n]) (W.setCell ⟨s + 1, vs.length, none⟩ (.int .i64 n)) := ⟨blk_far h.1 (by show s ≠ s + 1; omega) _, blk_put h.2 _ _ (cells8_set vs n hv)⟩
abbrev I64 (x : Int) : Prop := -9223372036854775808 ≤ x ∧ x ≤ 9223372036854775807
set_option maxRecDepth 100000 in
set_option maxHeartbeats 8000000 in
theorem unpack_calls (k : Nat) (S : Int → List Int) (hS : ∀ x, I64 x → SignedTo x (S x)) (hS2 : ∀ x, (S x).length ≤ 100) (b : List Int) (A : Option Addr) (c : Nat) (w : World) (hr : Kd.C (Kd.int .u8) w A b.length b) (hc : b.length ≤ c) (X : Option (List Int × List Int)) (hX : unp (varint_GetSigned.f k) 8 b = some X) (hin : ∀ t, X = some t → ∀ x ∈ t.1, I64 x) :
    Calls Try.prog 59 #[.slice A b.length c] w fun e w' => e = .returned (.tuple #[agg8 (unpR S b X).1, .int .i64 (unpR S b X).2]) ∧ Below w.heap.size w w' := by
  have HR := Aside0.mk hr
  have HC := Aside0.mk hc
  have HX := Aside0.mk (And.intro hX (And.intro hS (And.intro hS2 hin)))
  clear hr hc hX hS hS2 hin
  have E0 : Aside0 (EnvU w.heap.size [] ((w.alloc (.cells #[.int .i64 0, .int .i64 0, .int .i64 0, .int .i64 0, .int .i64 0, .int .i64 0, .int .i64 0, .int .i64 0] 65)).alloc (.cells #[.int .i64 0, .int .i64 0, .int .i64 0, .int .i64 0, .int .i64 0, .int .i64 0, .int .i64 0, .int .i64 0] 65))) := ⟨blk_alloc (blk_new w _) _, by have := blk_new (w.alloc (.cells #[.int .i64 0, .int .i64 0, .int .i64 0, .int .i64 0, .int .i64 0, .int .i64 0, .int .i64 0, .int .i64 0] 65)) (.cells #[.int .i64 0, .int .i64 0, .int .i64 0, .int .i64 0, .int .i64 0, .int .i64 0, .int .i64 0, .int .i64 0] 65); rwa [size_alloc_] at this⟩
  have HB0 : Aside0 (Below w.heap.size w ((w.alloc (.cells #[.int .i64 0, .int .i64 0, .int .i64 0, .int .i64 0, .int .i64 0, .int .i64 0, .int .i64 0, .int .i64 0] 65)).alloc (.cells #[.int .i64 0, .int .i64 0, .int .i64 0, .int .i64 0, .int .i64 0, .int .i64 0, .int .i64 0, .int .i64 0] 65))) := ⟨below_alloc (below_alloc (Below.refl _ _) _) _⟩
  go_enter Try.func59, Try.ntmps59
  go_wp2_with (go_at_call 94; (with_reducible refine (fields_calls _ _).mono ?_); rintro e w1 ⟨rfl, hb⟩; have E1 := Aside0.mk (EnvU.below E0.out hb); have HB1 := Aside0.mk (HB0.out.trans (hb.mono HB0.out.size)); clear hb)
  unfold ptrs
  go_loopg [5, 13] 9 (fun kq v5 v13 W' => ∃ (i : Nat) (vs l : List Int) (A' : Option Addr) (c' : Nat) (Y : Option (List Int × List Int)), v13 = .int .i64 (i : Int) ∧ v5 = .slice A' l.length c' ∧ Aside0 (kq + i = 9 ∧ i ≤ 8 ∧ vs.length = i ∧ l.length ≤ c') ∧ Aside0 (unp (varint_GetSigned.f k) (8 - i) l = some Y ∧ X = Y.map (fun t => (vs ++ t.1, t.2))) ∧ Aside0 (Kd.C (Kd.int .u8) w A' l.length l) ∧ Aside0 (EnvU w.heap.size vs W' ∧ Below w.heap.size w W'))
  case atStart => exact ⟨0, [], b, A, c, X, rfl, rfl, ⟨rfl, Nat.zero_le _, rfl, HC.out⟩, ⟨HX.out.1, by cases X <;> rfl⟩, HR, ⟨E1.out, HB1.out⟩⟩
  case round =>
    obtain ⟨i, vs, l, A', c', Y, rfl, rfl, HK, HU, HL, HE⟩ := hrel
    by_cases h : i < 8
    · have c1 : decide ((i : Int) < 8) = true := decide_eq_true (by omega)
      have ix := fun W => index_ptrs (w.heap.size + 1) i h W
      obtain ⟨m, hm⟩ : ∃ m, 8 - i = m + 1 := ⟨7 - i, by omega⟩
      have hU := HU.out
      rw [hm] at hU
      obtain ⟨r, hg, hcase⟩ := unp_succ hU.1
      have KG := Aside0.mk (fun W (hW : Kd.C (Kd.int .u8) W A' l.length l) => varint_GetSigned.calls k A' c' l r.1 r.2.1 r.2.2 W hW HK.out.2.2.2 hg)
      have H8 := Aside0.mk (And.intro h hm)
      rcases hcase with ⟨h0, hY⟩ | ⟨h0, d, Y2, hd, hdl, hu, hY⟩
      · have HY := Aside0.mk (show X = none by rw [hU.2, hY]; rfl)
        obtain ⟨r1, r2, r3⟩ := r
        dsimp only at h0 KG
        have c2 : (r3 != 0) = true := by simp [h0]
        have c2' : (r3 = 0) = False := eq_false h0
        have e0 := blk_cell HE.out.1.1 0
        clear e0 h hU hg hm h0 hY
        go_wp2_with (go_at_call 97; (with_reducible refine (KG.out _ (Kd.C_below HL.out HE.out.2)).mono ?_); rintro e w3 ⟨rfl, hb⟩; have HE3 := Aside0.mk (And.intro (EnvU.below HE.out.1 hb.below) (HE.out.2.trans (hb.below.mono HE.out.2.size))); clear hb; have z0 := blk_cell HE3.out.1.1 0; have z1 := blk_cell HE3.out.1.1 1; have z2 := blk_cell HE3.out.1.1 2; have z3 := blk_cell HE3.out.1.1 3; have z4 := blk_cell HE3.out.1.1 4; have z5 := blk_cell HE3.out.1.1 5; have z6 := blk_cell HE3.out.1.1 6; have z7 := blk_cell HE3.out.1.1 7; have f0 := blk_frozen HE3.out.1.1 0; have f1 := blk_frozen HE3.out.1.1 1; have f2 := blk_frozen HE3.out.1.1 2; have f3 := blk_frozen HE3.out.1.1 3; have f4 := blk_frozen HE3.out.1.1 4; have f5 := blk_frozen HE3.out.1.1 5; have f6 := blk_frozen HE3.out.1.1 6; have f7 := blk_frozen HE3.out.1.1 7; simp only [cells8, List.nil_append, List.length_nil, Nat.sub_zero, List.replicate, List.map_cons, List.map_nil, List.getElem?_toArray, List.getElem?_cons_zero, List.getElem?_cons_succ] at z0 z1 z2 z3 z4 z5 z6 z7)
        refine bodyPost_ret (v := .tuple #[agg8 [0, 0, 0, 0, 0, 0, 0, 0], .int .i64 5]) (by simp [results, Try.results59, go_sem, agg8, z0, z1, z2, z3, z4, z5, z6, z7]) rfl ?_
        exact ⟨by rw [HY.out]; rfl, ((((((((HE3.out.2).setCell (Nat.le_refl _) _).setCell (Nat.le_refl _) _).setCell (Nat.le_refl _) _).setCell (Nat.le_refl _) _).setCell (Nat.le_refl _) _).setCell (Nat.le_refl _) _).setCell (Nat.le_refl _) _).setCell (Nat.le_refl _) _⟩
      · have HY := Aside0.mk (And.intro hu (show X = Y2.map (fun t => (vs ++ [r.1] ++ t.1, t.2)) by rw [hU.2, hY]; cases Y2 <;> simp))
        obtain ⟨r1, r2, r3⟩ := r
        dsimp only at h0 hd KG HY
        subst h0 hd
        have hvs := HK.out.2.2.1
        have c5 : wrap64 ((i : Int) + 1) = (i : Int) + 1 := wrap64_id (by omega) (by omega)
        have HD := Aside0.mk (And.intro hdl hvs)
        clear hU hg hm hu hY hdl hvs
        go_upto_region 9 with (go_at_call 97; (with_reducible refine (KG.out _ (Kd.C_below HL.out HE.out.2)).mono ?_); rintro e w3 ⟨rfl, hb⟩; have HE3 := Aside0.mk (And.intro (EnvU.below HE.out.1 hb.below) (HE.out.2.trans (hb.below.mono HE.out.2.size))); clear hb)
        refine start_ (n := 8) (S := fun _ => True) (ds := []) #[false, false, false, false, false, false, false, false] (by kernel_rfl) rfl rfl trivial (fun _ => ?_)
        refine pure_ (i := 0) (N := some 25) (v := ?_) (a' := ?_) #[true, false, false, false, false, false, false, false] rfl rfl (by kernel_rfl) (fun _ _ _ h => h) (Or.inl ⟨by rfl, ?_⟩) ?_ ?_
        rotate_left
        · intro w'
          go_simp
          with_reducible rfl
        rotate_left
        · simp only [Act.put, List.setIfInBounds_toArray, List.set_cons_zero, List.set_cons_succ, i64_w, i32_w]
          rfl
        refine pure_ (i := 1) (N := some 26) (v := ?_) (a' := ?_) #[true, true, false, false, false, false, false, false] rfl rfl (by kernel_rfl) (fun _ _ _ h => h) (Or.inl ⟨by rfl, ?_⟩) ?_ ?_
        rotate_left
        · intro w'
          go_simp
          with_reducible rfl
        rotate_left
        · simp only [Act.put, List.setIfInBounds_toArray, List.set_cons_zero, List.set_cons_succ, i64_w, i32_w]
          rfl
        refine pure_ (i := 2) (N := some 27) (v := ?_) (a' := ?_) #[true, true, true, false, false, false, false, false] rfl rfl (by kernel_rfl) (fun _ _ _ h => h) (Or.inl ⟨by rfl, ?_⟩) ?_ ?_
        rotate_left
        · intro w'
          go_simp
          with_reducible rfl
        rotate_left
        · simp only [Act.put, List.setIfInBounds_toArray, List.set_cons_zero, List.set_cons_succ, i64_w, i32_w]
          rfl
        refine pure_ (i := 3) (N := some 28) (v := ?_) (a' := ?_) #[true, true, true, true, false, false, false, false] rfl rfl (by kernel_rfl) (fun _ _ _ h => h) (Or.inl ⟨by rfl, ?_⟩) ?_ ?_
        rotate_left
        · intro w'
          go_simp
          with_reducible rfl
        rotate_left
        · simp only [Act.put, List.setIfInBounds_toArray, List.set_cons_zero, List.set_cons_succ, i64_w, i32_w]
          rfl
        refine pure_ (i := 4) (N := some 29) (v := ?_) (a' := ?_) #[true, true, true, true, true, false, false, false] rfl rfl (by kernel_rfl) (fun _ _ _ h => h) (Or.inl ⟨by rfl, ?_⟩) ?_ ?_
        rotate_left
        · intro w'
          go_simp
          rw [if_pos HD.out.1]
        rotate_left
        · simp only [Act.put, List.setIfInBounds_toArray, List.set_cons_zero, List.set_cons_succ, i64_w, i32_w]
          rfl
        refine pure_ (i := 5) (N := some 30) (v := ?_) (a' := ?_) #[true, true, true, true, true, true, false, false] rfl rfl (by kernel_rfl) (fun _ _ _ h => h) (Or.inl ⟨by rfl, ?_⟩) ?_ ?_
        rotate_left
        · intro w'
          go_simp
          with_reducible rfl
        rotate_left
        · simp only [Act.put, List.setIfInBounds_toArray, List.set_cons_zero, List.set_cons_succ, i64_w, i32_w]
          rfl
        have hE4 : EnvU w.heap.size vs w3.drew := EnvU.below HE3.out.1 (below_drew (Below.refl _ _))
        have hc := (blk_cell hE4.2 vs.length).trans (cells8_get vs (by rw [HD.out.2]; exact H8.out.1))
        have hf := blk_frozen hE4.2 vs.length
        rw [HD.out.2] at hc hf
        have HE4 := Aside0.mk hE4
        clear hE4
        refine one_ (i := 6) (N := none) #[true, true, true, true, true, true, true, false] rfl rfl (by kernel_rfl) (by decide) (fun K hK => ?_)
        refine skip_ (w1 := w3.drew.setCell ⟨w.heap.size + 1, i, none⟩ (.int .i64 r1)) (by rfl) rfl (by go_simp) ?_
        refine hK.out _ _ trivial (fun _ => ?_)
        clear hK K
        refine pure_ (i := 7) (N := some 5) (v := ?_) (a' := ?_) #[true, true, true, true, true, true, true, true] rfl rfl (by kernel_rfl) (fun _ _ _ h => h) (Or.inl ⟨by rfl, ?_⟩) ?_ ?_
        rotate_left
        · intro w'
          go_simp
          with_reducible rfl
        rotate_left
        · simp only [Act.put, List.setIfInBounds_toArray, List.set_cons_zero, List.set_cons_succ, i64_w, i32_w]
          rfl
        refine done_ (by kernel_rfl) ?_
        have HE5 : Aside0 (EnvU w.heap.size (vs ++ [r1]) (w3.drew.setCell ⟨w.heap.size + 1, i, none⟩ (.int .i64 r1)) ∧ Below w.heap.size w (w3.drew.setCell ⟨w.heap.size + 1, i, none⟩ (.int .i64 r1))) := ⟨by have := EnvU.set HE4.out (by rw [HD.out.2]; exact H8.out.1) r1; rw [HD.out.2] at this; exact this, (HE3.out.2.trans (below_drew (Below.refl _ _) |>.mono HE3.out.2.size)).setCell (Nat.le_succ _) _⟩
        have HL5 : Aside0 (Kd.C (Kd.int .u8) w (if c' = d then A' else A'.map (·.add d)) (l.drop d).length (l.drop d)) := ⟨by have := Kd.C_drop HL.out HD.out.1 HK.out.2.2.2; have e : d * (Kd.int .u8).sz = d := Nat.mul_one d; rw [e] at this; exact this⟩
        obtain ⟨W5, hW5⟩ : ∃ W5, w3.drew.setCell ⟨w.heap.size + 1, i, none⟩ (.int .i64 r1) = W5 := ⟨_, rfl⟩
        rw [hW5] at HE5 ⊢
        clear hW5 hc hf HE4 HE3 HE HL ix
        have hdl : (l.drop d).length = l.length - d := List.length_drop
        rw [← hdl]
        clear hdl
        obtain ⟨A5, hA5⟩ : ∃ A5, (if c' = d then A' else A'.map (·.add d)) = A5 := ⟨_, rfl⟩
        rw [hA5] at HL5 ⊢
        clear hA5
        have HU2 : Aside0 (unp (varint_GetSigned.f k) (8 - (i + 1)) (l.drop d) = some Y2) := ⟨by rw [show 8 - (i + 1) = m by have := H8.out; omega]; exact HY.out.1⟩
        go_wp2
        cases gk with
        | zero => exact absurd HK.out.1 (by have := H8.out.1; omega)
        | succ k1 =>
          go_roundg k1
          case measure => omega
          case rel => exact ⟨i + 1, vs ++ [r1], l.drop d, A5, c' - d, Y2, by first | rfl | go_num, rfl, ⟨by have := HK.out; omega, by have := H8.out.1; omega, by rw [List.length_append, HD.out.2]; rfl, by have := HK.out.2.2.2; rw [List.length_drop]; omega⟩, ⟨HU2.out, HY.out.2⟩, HL5, HE5⟩
    · obtain rfl : i = 8 := by have := HK.out; omega
      have hU := HU.out
      have hY : Y = some ([], l) := (Option.some.inj hU.1).symm
      have hX : X = some (vs, l) := by rw [hU.2, hY]; simp
      have hv8 := HK.out.2.2.1
      obtain ⟨a0, a1, a2, a3, a4, a5, a6, a7, rfl⟩ := list8 vs hv8
      have hi := HX.out.2.2.2 _ hX
      have KP0 := fun W => pack_calls a0 a1 a2 a3 a4 a5 a6 a7 (S a0) (S a1) (S a2) (S a3) (S a4) (S a5) (S a6) (S a7) ⟨HX.out.2.1 a0 (hi a0 (by simp))⟩ ⟨HX.out.2.1 a1 (hi a1 (by simp))⟩ ⟨HX.out.2.1 a2 (hi a2 (by simp))⟩ ⟨HX.out.2.1 a3 (hi a3 (by simp))⟩ ⟨HX.out.2.1 a4 (hi a4 (by simp))⟩ ⟨HX.out.2.1 a5 (hi a5 (by simp))⟩ ⟨HX.out.2.1 a6 (hi a6 (by simp))⟩ ⟨HX.out.2.1 a7 (hi a7 (by simp))⟩ (by have h2 := HX.out.2.2.1; have := h2 a0; have := h2 a1; have := h2 a2; have := h2 a3; have := h2 a4; have := h2 a5; have := h2 a6; have := h2 a7; simp; omega) W
      obtain ⟨F, hF⟩ : ∃ F, ([S a0, S a1, S a2, S a3, S a4, S a5, S a6, S a7] : List (List Int)).flatten = F := ⟨_, rfl⟩
      rw [hF] at KP0
      obtain ⟨q, hq⟩ : ∃ q, eqB F b = q := ⟨_, rfl⟩
      have hRR : unpR S b X = if q = true then ([a0, a1, a2, a3, a4, a5, a6, a7], 0) else ([0, 0, 0, 0, 0, 0, 0, 0], 5) := by rw [hX]; show (if eqB ([a0, a1, a2, a3, a4, a5, a6, a7].map S).flatten b = true then _ else _) = _; rw [← hq, ← hF]; rfl
      have KP := Aside0.mk KP0
      have KE := Aside0.mk (fun W (B : Option Addr) (cB : Nat) (h : Kd.C (Kd.int .u8) W B F.length F) (h2 : F.length ≤ cB) (h3 : Kd.C (Kd.int .u8) W A b.length b) => Pq.bytes_Equal.calls B cB F A c b q W h h2 h3 HC.out (by rw [← hq]; rfl))
      have HRR := Aside0.mk hRR
      rw [show ((8 : Nat) : Int) = 8 from rfl]
      clear hU hY hX hv8 hi KP0 hF hq hRR h HK HU HL
      have x0 := blk_cell HE.out.1.2 0
      have x1 := blk_cell HE.out.1.2 1
      have x2 := blk_cell HE.out.1.2 2
      have x3 := blk_cell HE.out.1.2 3
      have x4 := blk_cell HE.out.1.2 4
      have x5 := blk_cell HE.out.1.2 5
      have x6 := blk_cell HE.out.1.2 6
      have x7 := blk_cell HE.out.1.2 7
      simp only [cells8, List.cons_append, List.nil_append, List.length_cons, List.length_nil, Nat.sub_self, Nat.zero_add, Nat.reduceAdd, List.replicate, List.append_nil, List.map_cons, List.map_nil, List.getElem?_toArray, List.getElem?_cons_zero, List.getElem?_cons_succ] at x0 x1 x2 x3 x4 x5 x6 x7
      cases q
      · go_wp2_with (first | (go_at_call 58; (with_reducible refine (KP.out _).mono ?_); rintro e w4 ⟨v, rfl, hv, hb⟩; obtain ⟨D, dd, hvv, hd, hC⟩ := Kd.R_reads hv; subst hvv; have HD4 := Aside0.mk (And.intro hd hC); have HE4 := Aside0.mk (And.intro (EnvU.below HE.out.1 hb) (HE.out.2.trans (hb.mono HE.out.2.size))); clear hv hb hd hC) | (go_at_call 98; (with_reducible refine (KE.out _ _ _ HD4.out.2 HD4.out.1 (Kd.C_below HR.out HE4.out.2)).mono ?_); rintro e w5 ⟨rfl, hb⟩; have HE5 := Aside0.mk (And.intro (EnvU.below HE4.out.1 hb.below) (HE4.out.2.trans (hb.below.mono HE4.out.2.size))); clear hb x0 x1 x2 x3 x4 x5 x6 x7; have z0 := blk_cell HE5.out.1.1 0; have z1 := blk_cell HE5.out.1.1 1; have z2 := blk_cell HE5.out.1.1 2; have z3 := blk_cell HE5.out.1.1 3; have z4 := blk_cell HE5.out.1.1 4; have z5 := blk_cell HE5.out.1.1 5; have z6 := blk_cell HE5.out.1.1 6; have z7 := blk_cell HE5.out.1.1 7; simp only [cells8, List.nil_append, List.length_nil, Nat.sub_zero, List.replicate, List.map_cons, List.map_nil, List.getElem?_toArray, List.getElem?_cons_zero, List.getElem?_cons_succ] at z0 z1 z2 z3 z4 z5 z6 z7; have f0 := blk_frozen HE5.out.1.1 0; have f1 := blk_frozen HE5.out.1.1 1; have f2 := blk_frozen HE5.out.1.1 2; have f3 := blk_frozen HE5.out.1.1 3; have f4 := blk_frozen HE5.out.1.1 4; have f5 := blk_frozen HE5.out.1.1 5; have f6 := blk_frozen HE5.out.1.1 6; have f7 := blk_frozen HE5.out.1.1 7; have x0 := blk_cell HE5.out.1.2 0; have x1 := blk_cell HE5.out.1.2 1; have x2 := blk_cell HE5.out.1.2 2; have x3 := blk_cell HE5.out.1.2 3; have x4 := blk_cell HE5.out.1.2 4; have x5 := blk_cell HE5.out.1.2 5; have x6 := blk_cell HE5.out.1.2 6; have x7 := blk_cell HE5.out.1.2 7; simp only [cells8, List.cons_append, List.nil_append, List.length_cons, List.length_nil, Nat.sub_self, Nat.zero_add, Nat.reduceAdd, List.replicate, List.append_nil, List.map_cons, List.map_nil, List.getElem?_toArray, List.getElem?_cons_zero, List.getElem?_cons_succ] at x0 x1 x2 x3 x4 x5 x6 x7))
        refine bodyPost_ret (v := .tuple #[agg8 [0, 0, 0, 0, 0, 0, 0, 0], .int .i64 5]) (by simp [results, Try.results59, go_sem, agg8, z0, z1, z2, z3, z4, z5, z6, z7]) rfl ?_
        exact ⟨by rw [HRR.out]; rfl, ((((((((HE5.out.2).setCell (Nat.le_refl _) _).setCell (Nat.le_refl _) _).setCell (Nat.le_refl _) _).setCell (Nat.le_refl _) _).setCell (Nat.le_refl _) _).setCell (Nat.le_refl _) _).setCell (Nat.le_refl _) _).setCell (Nat.le_refl _) _⟩
      · go_wp2_with (first | (go_at_call 58; (with_reducible refine (KP.out _).mono ?_); rintro e w4 ⟨v, rfl, hv, hb⟩; obtain ⟨D, dd, hvv, hd, hC⟩ := Kd.R_reads hv; subst hvv; have HD4 := Aside0.mk (And.intro hd hC); have HE4 := Aside0.mk (And.intro (EnvU.below HE.out.1 hb) (HE.out.2.trans (hb.mono HE.out.2.size))); clear hv hb hd hC) | (go_at_call 98; (with_reducible refine (KE.out _ _ _ HD4.out.2 HD4.out.1 (Kd.C_below HR.out HE4.out.2)).mono ?_); rintro e w5 ⟨rfl, hb⟩; have HE5 := Aside0.mk (And.intro (EnvU.below HE4.out.1 hb.below) (HE4.out.2.trans (hb.below.mono HE4.out.2.size))); clear hb x0 x1 x2 x3 x4 x5 x6 x7; have z0 := blk_cell HE5.out.1.1 0; have z1 := blk_cell HE5.out.1.1 1; have z2 := blk_cell HE5.out.1.1 2; have z3 := blk_cell HE5.out.1.1 3; have z4 := blk_cell HE5.out.1.1 4; have z5 := blk_cell HE5.out.1.1 5; have z6 := blk_cell HE5.out.1.1 6; have z7 := blk_cell HE5.out.1.1 7; simp only [cells8, List.nil_append, List.length_nil, Nat.sub_zero, List.replicate, List.map_cons, List.map_nil, List.getElem?_toArray, List.getElem?_cons_zero, List.getElem?_cons_succ] at z0 z1 z2 z3 z4 z5 z6 z7; have f0 := blk_frozen HE5.out.1.1 0; have f1 := blk_frozen HE5.out.1.1 1; have f2 := blk_frozen HE5.out.1.1 2; have f3 := blk_frozen HE5.out.1.1 3; have f4 := blk_frozen HE5.out.1.1 4; have f5 := blk_frozen HE5.out.1.1 5; have f6 := blk_frozen HE5.out.1.1 6; have f7 := blk_frozen HE5.out.1.1 7; have x0 := blk_cell HE5.out.1.2 0; have x1 := blk_cell HE5.out.1.2 1; have x2 := blk_cell HE5.out.1.2 2; have x3 := blk_cell HE5.out.1.2 3; have x4 := blk_cell HE5.out.1.2 4; have x5 := blk_cell HE5.out.1.2 5; have x6 := blk_cell HE5.out.1.2 6; have x7 := blk_cell HE5.out.1.2 7; simp only [cells8, List.cons_append, List.nil_append, List.length_cons, List.length_nil, Nat.sub_self, Nat.zero_add, Nat.reduceAdd, List.replicate, List.append_nil, List.map_cons, List.map_nil, List.getElem?_toArray, List.getElem?_cons_zero, List.getElem?_cons_succ] at x0 x1 x2 x3 x4 x5 x6 x7))
        have b0 : w5.heap[w.heap.size]? = some (.cells #[.int .i64 0, .int .i64 0, .int .i64 0, .int .i64 0, .int .i64 0, .int .i64 0, .int .i64 0, .int .i64 0] 65 (0, 0)) := HE5.out.1.1
        have hF : (((((((((w5).setCell ⟨w.heap.size, 0, none⟩ (.int .i64 a0)).setCell ⟨w.heap.size, 1, none⟩ (.int .i64 a1)).setCell ⟨w.heap.size, 2, none⟩ (.int .i64 a2)).setCell ⟨w.heap.size, 3, none⟩ (.int .i64 a3)).setCell ⟨w.heap.size, 4, none⟩ (.int .i64 a4)).setCell ⟨w.heap.size, 5, none⟩ (.int .i64 a5)).setCell ⟨w.heap.size, 6, none⟩ (.int .i64 a6)).setCell ⟨w.heap.size, 7, none⟩ (.int .i64 a7)).heap[w.heap.size]? = some (.cells #[.int .i64 a0, .int .i64 a1, .int .i64 a2, .int .i64 a3, .int .i64 a4, .int .i64 a5, .int .i64 a6, .int .i64 a7] 65 (0, 0)) := blk_put (blk_put (blk_put (blk_put (blk_put (blk_put (blk_put (blk_put b0 0 (.int .i64 a0) rfl) 1 (.int .i64 a1) rfl) 2 (.int .i64 a2) rfl) 3 (.int .i64 a3) rfl) 4 (.int .i64 a4) rfl) 5 (.int .i64 a5) rfl) 6 (.int .i64 a6) rfl) 7 (.int .i64 a7) rfl
        have p0 := blk_cell hF 0
        have p1 := blk_cell hF 1
        have p2 := blk_cell hF 2
        have p3 := blk_cell hF 3
        have p4 := blk_cell hF 4
        have p5 := blk_cell hF 5
        have p6 := blk_cell hF 6
        have p7 := blk_cell hF 7
        simp only [List.getElem?_toArray, List.getElem?_cons_zero, List.getElem?_cons_succ] at p0 p1 p2 p3 p4 p5 p6 p7
        refine bodyPost_ret (v := .tuple #[agg8 [a0, a1, a2, a3, a4, a5, a6, a7], .int .i64 0]) (by simp [results, Try.results59, go_sem, agg8, p0, p1, p2, p3, p4, p5, p6, p7]) rfl ?_
        exact ⟨by rw [HRR.out]; rfl, ((((((((HE5.out.2).setCell (Nat.le_refl _) _).setCell (Nat.le_refl _) _).setCell (Nat.le_refl _) _).setCell (Nat.le_refl _) _).setCell (Nat.le_refl _) _).setCell (Nat.le_refl _) _).setCell (Nat.le_refl _) _).setCell (Nat.le_refl _) _⟩
end Go.Proofs.Ytemnfnbjapobcaa.Pk
end
section
namespace Go.Proofs.Ytemnfnbjapobcaa.VS
open Go.RowKit Go.Proofs.YtemnfnbjapobcaaW.PrintWords Go.Proofs.Ytemnfnbjapobcaa.Pk
set_option linter.unusedVariables false
theorem unp_ev : ∀ (m : Nat) (l : List Int), (∀ x ∈ l, 0 ≤ x ∧ x < 256) → l.length ≤ 1000000 → Ev (fun k => unp (varint_GetSigned.f k) m l) (unpT m l) := by
  intro m
  induction m with
  | zero => intro l _ _; exact ⟨0, fun k _ => rfl⟩
  | succ m ih =>
    intro l hb hl
    obtain ⟨K1, h1⟩ := getSigned_ev l hb hl
    by_cases h0 : (getS l).2.2 = 0
    · obtain ⟨g1, g2, _, _⟩ := getS_ok hb h0
      obtain ⟨K2, h2⟩ := ih (l.drop (getS l).2.1.toNat) (fun x hx => hb x (List.mem_of_mem_drop hx)) (by rw [List.length_drop]; omega)
      refine ⟨K1 + K2, fun k hk => ?_⟩
      have a1 : varint_GetSigned.f k l = some (getS l) := h1 k (by omega)
      have a2 : unp (varint_GetSigned.f k) m (l.drop (getS l).2.1.toNat) = some (unpT m (l.drop (getS l).2.1.toNat)) := h2 k (by omega)
      show unp (varint_GetSigned.f k) (m + 1) l = some (unpT (m + 1) l)
      unfold unp unpT
      rw [a1, Option.bind_some, if_pos h0, if_pos h0, if_pos ⟨g1, g2⟩, a2, Option.bind_some]
    · refine ⟨K1, fun k hk => ?_⟩
      have a1 : varint_GetSigned.f k l = some (getS l) := h1 k hk
      show unp (varint_GetSigned.f k) (m + 1) l = some (unpT (m + 1) l)
      unfold unp unpT
      rw [a1, Option.bind_some, if_neg h0, if_neg h0]
theorem signedTo {x : Int} (h : I64 x) : SignedTo x (signS x) := by
  intro W
  obtain ⟨k, hk⟩ := (signed_ev h.1 h.2).rounds
  exact varint_Signed.calls k x (signS x) W hk
def packS (l : List Int) : List Int := (l.map signS).flatten
def readS (b : List Int) : List Int × Int := match unpT 8 b with
  | some (vs, []) => (vs, 0)
  | _ => ([0, 0, 0, 0, 0, 0, 0, 0], 5)
theorem read_pack (l : List Int) (h8 : l.length = 8) (h : ∀ x ∈ l, I64 x) : readS (packS l) = (l, 0) := by
  have e := unpT_put l [] h
  rw [List.append_nil, h8] at e
  unfold readS packS
  rw [e]
theorem str_len (l : List Int) : (strOfNums l).toList.length = l.length := by
  simp [strOfNums, ByteArray.toList_eq]
theorem eqB_self (l : List Int) : eqB l l = true := by
  unfold eqB
  exact beq_self_eq_true _
theorem eqB_more (l rest : List Int) (h : rest ≠ []) : eqB l (l ++ rest) = false := by
  unfold eqB
  rw [beq_eq_false_iff_ne]
  intro e
  have h2 := congrArg List.length e
  rw [str_len, str_len, List.length_append] at h2
  have := List.length_pos_iff.mpr h
  omega
theorem unpR_eq (b : List Int) (hb : ∀ x ∈ b, 0 ≤ x ∧ x < 256) : unpR signS b (unpT 8 b) = readS b := by
  unfold readS unpR
  cases h : unpT 8 b with
  | none => rfl
  | some t =>
    obtain ⟨vs, rest⟩ := t
    have e := (unpT_ok 8 b vs rest hb h).1
    cases rest with
    | nil =>
      rw [List.append_nil] at e
      show (if eqB (vs.map signS).flatten b = true then (vs, (0 : Int)) else _) = _
      rw [← e, eqB_self, if_pos rfl]
    | cons x rest =>
      show (if eqB (vs.map signS).flatten b = true then (vs, (0 : Int)) else _) = _
      have e2 : eqB (vs.map signS).flatten b = false := by
        rw [e]
        exact eqB_more _ _ (by simp)
      rw [e2, if_neg (by decide)]
end Go.Proofs.Ytemnfnbjapobcaa.VS
end
section
namespace Go.Proofs.Ytemnfnbjapobcaa.VS
open Go.RowKit Go.Proofs.YtemnfnbjapobcaaW.PrintWords Go.Proofs.Ytemnfnbjapobcaa.Pk
set_option linter.unusedVariables false
theorem pack_snoc (f : List Int) (i : Nat) (h : i < f.length) : packS (f.take (i + 1)) = packS (f.take i) ++ signS (rd f (i : Int)) := by
  have e : rd f (i : Int) = f[i] := by simp [rd, List.getD_eq_getElem?_getD, List.getElem?_eq_getElem h]
  unfold packS
  rw [List.take_succ_eq_append_getElem h, List.map_append, List.flatten_append, e]
  simp
theorem pack_len (f : List Int) (h : ∀ x ∈ f, I64 x) : (packS f).length ≤ 10 * f.length := by
  induction f with
  | nil => exact Nat.le_refl _
  | cons x f ih =>
    have h1 := ih (fun y hy => h y (List.mem_cons_of_mem _ hy))
    have hx := h x (List.mem_cons_self ..)
    have h2 := signS_len hx.1 hx.2
    unfold packS at h1 ⊢
    rw [List.map_cons, List.flatten_cons, List.length_append, List.length_cons]
    omega
theorem rpack_ev (f : List Int) (h8 : f.length = 8) (h : ∀ x ∈ f, I64 x) : ∀ (d i : Nat), 8 - i = d → i ≤ 8 → Ev (fun k => lysimeterref21_PackPolicy.l0 k f (packS (f.take i)) (i : Int)) (packS f) := by
  intro d
  induction d with
  | zero =>
    intro i hd hi
    obtain rfl : i = 8 := by omega
    rw [List.take_of_length_le (by omega)]
    refine Ev.step (f := fun _ => some (packS f)) (fun k => ?_) (Ev.now _)
    simp only [lysimeterref21_PackPolicy.l0]
    rw [if_neg (by omega)]
  | succ d ih =>
    intro i hd hi
    have hi8 : i < f.length := by omega
    have hm : I64 (rd f (i : Int)) := by
      have e : rd f (i : Int) = f[i] := by simp [rd, List.getD_eq_getElem?_getD, List.getElem?_eq_getElem hi8]
      rw [e]
      exact h _ (List.getElem_mem hi8)
    have hl1 : (packS (f.take i)).length ≤ 80 := by
      have := pack_len (f.take i) (fun x hx => h x (List.mem_of_mem_take hx))
      rw [List.length_take] at this
      omega
    have hl2 := signS_len hm.1 hm.2
    have hn := ih (i + 1) (by omega) (by omega)
    rw [pack_snoc f i hi8] at hn
    refine Ev.step (f := fun k => (lysimeterref4_Signed.f k (rd f (i : Int))).bind fun t => if (packS (f.take i)).length + t.length < 140737488355328 then lysimeterref21_PackPolicy.l0 k f (packS (f.take i) ++ t) (((i + 1 : Nat) : Int)) else none) (fun k => ?_) (Ev.bind (rsigned_ev hm.1 hm.2) ?_)
    · simp only [lysimeterref21_PackPolicy.l0]
      rw [if_pos (by omega), if_pos (by omega), if_pos (by omega), succ1 i (by omega)]
    · obtain ⟨K, hK⟩ := hn
      refine ⟨K, fun k hk => ?_⟩
      show (if (packS (f.take i)).length + (signS (rd f (i : Int))).length < 140737488355328 then _ else none) = _
      rw [if_pos (by omega)]
      exact hK k hk
end Go.Proofs.Ytemnfnbjapobcaa.VS
end
section
namespace Go.Proofs.Ytemnfnbjapobcaa.VS
open Go.RowKit Go.Proofs.YtemnfnbjapobcaaW.PrintWords Go.Proofs.Ytemnfnbjapobcaa.Pk
set_option linter.unusedVariables false
def in64 (x : Int) : Bool := decide (-9223372036854775808 ≤ x) && decide (x ≤ 9223372036854775807)
theorem in64_all {l : List Int} (h : l.all in64 = true) : ∀ x ∈ l, I64 x := by
  intro x hx
  have := (List.all_eq_true.mp h) x hx
  unfold in64 at this
  simpa using this
def byteB (x : Int) : Bool := decide (0 ≤ x) && decide (x < 256)
theorem byteB_all {l : List Int} (h : l.all byteB = true) : ∀ x ∈ l, 0 ≤ x ∧ x < 256 := by
  intro x hx
  have := (List.all_eq_true.mp h) x hx
  unfold byteB at this
  simpa using this
theorem pack_all (a0_0 a0_1 a0_2 a0_3 a0_4 a0_5 a0_6 a0_7 : Int) (h : ∀ x ∈ [a0_0, a0_1, a0_2, a0_3, a0_4, a0_5, a0_6, a0_7], I64 x) (w : World) : Calls Try.prog 58 #[.agg #[.int .i64 a0_0, .int .i64 a0_1, .int .i64 a0_2, .int .i64 a0_3, .int .i64 a0_4, .int .i64 a0_5, .int .i64 a0_6, .int .i64 a0_7]] w fun e w' => ∃ v0_ : Value, e = .returned (v0_) ∧ Kd.R (Kd.int .u8) 5 w' w.heap.size (fun _ => True) v0_ (packS [a0_0, a0_1, a0_2, a0_3, a0_4, a0_5, a0_6, a0_7]) ∧ Below w.heap.size w w' := by
  have hl := pack_len [a0_0, a0_1, a0_2, a0_3, a0_4, a0_5, a0_6, a0_7] h
  exact pack_calls a0_0 a0_1 a0_2 a0_3 a0_4 a0_5 a0_6 a0_7 (signS a0_0) (signS a0_1) (signS a0_2) (signS a0_3) (signS a0_4) (signS a0_5) (signS a0_6) (signS a0_7) ⟨signedTo (h a0_0 (by simp))⟩ ⟨signedTo (h a0_1 (by simp))⟩ ⟨signedTo (h a0_2 (by simp))⟩ ⟨signedTo (h a0_3 (by simp))⟩ ⟨signedTo (h a0_4 (by simp))⟩ ⟨signedTo (h a0_5 (by simp))⟩ ⟨signedTo (h a0_6 (by simp))⟩ ⟨signedTo (h a0_7 (by simp))⟩ (by unfold packS at hl; simp only [List.map_cons, List.map_nil] at hl; exact Nat.le_trans hl (show 10 * 8 ≤ 1000000 by decide)) w
def signB (x : Int) : List Int := if in64 x = true then signS x else []
theorem in64_iff {x : Int} : in64 x = true ↔ I64 x := by
  unfold in64
  simp
theorem signB_eq {x : Int} (h : I64 x) : signB x = signS x := if_pos (in64_iff.mpr h)
theorem unpR_B (b : List Int) (hb : ∀ x ∈ b, 0 ≤ x ∧ x < 256) : unpR signB b (unpT 8 b) = unpR signS b (unpT 8 b) := by
  cases h : unpT 8 b with
  | none => rfl
  | some t =>
    obtain ⟨vs, rest⟩ := t
    have hi := (unpT_ok 8 b vs rest hb h).2.2
    have e : vs.map signB = vs.map signS := List.map_congr_left (fun x hx => signB_eq (hi x hx))
    unfold unpR
    dsimp only
    rw [e]
theorem unpack_all (b : List Int) (hb : ∀ x ∈ b, 0 ≤ x ∧ x < 256) (hl : b.length ≤ 1000000) (A : Option Addr) (c : Nat) (w : World) (hr : Kd.C (Kd.int .u8) w A b.length b) (hc : b.length ≤ c) :
    Calls Try.prog 59 #[.slice A b.length c] w fun e w' => e = .returned (.tuple #[agg8 (readS b).1, .int .i64 (readS b).2]) ∧ Below w.heap.size w w' := by
  obtain ⟨k, hk⟩ := (unp_ev 8 b hb hl).rounds
  rw [← unpR_eq b hb, ← unpR_B b hb]
  refine unpack_calls k signB (fun x hx => by rw [signB_eq hx]; exact signedTo hx) (fun x => ?_) b A c w hr hc (unpT 8 b) hk (fun t ht => ?_)
  · unfold signB
    split
    · rename_i hx
      have h2 := in64_iff.mp hx
      have := signS_len h2.1 h2.2
      omega
    · exact Nat.zero_le _
  · obtain ⟨vs, rest⟩ := t
    exact (unpT_ok 8 b vs rest hb ht).2.2
end Go.Proofs.Ytemnfnbjapobcaa.VS
end
