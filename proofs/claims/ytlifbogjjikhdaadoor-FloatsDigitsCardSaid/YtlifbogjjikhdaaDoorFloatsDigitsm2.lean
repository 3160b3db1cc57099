-- Laid together by wip/shake.py out of: Flx1 FlSpec FlDig FlNum FlOf Flx4 FlBits FlFrac FlPars FlShow FlRow
import Derived.Test.YtlifbogjjikhdaaDoorFloatsDigitsm1
import Ieee.Arith
import Derived.Laws.Bits64
import Derived.Laws.Bits64b
import Derived.Deep.QuietTactic
import Derived.BigQuiet
import Derived.Laws.Cover2
import Derived.Laws.FloatArith
import Derived.Laws.Externs
import Derived.ScopeJumps
import Derived.WalkMore
import Derived.WalkSmall
import Derived.Lib.SmallJoins
import Derived.Lib.BufferRead
import Derived.Lib.VarintMem
import Derived.OwnWalk
import Derived.Test.YtlifbogjjikhdaaDoorRows
import Derived.ProofKit
import Derived.LaidMore
import Derived.OpenShut
import Derived.ShutString
import Derived.Stop.Joined
import Derived.Stop.LaidErr
import Derived.Below
import Derived.SizedLaws
section
namespace Go.Proofs.YtlifbogjjikhdaaDoor.Fl
open Go.RowKit Go.Proofs.YtlifbogjjikhdaaDoorW.PrintWords Go.Proofs.YtlifbogjjikhdaaDoorW.PrintLast Go.Proofs.YtlifbogjjikhdaaDoorW.PrintMore
attribute [local go_sem] max2_int min2_int max_two min_two max_three min_three max_four min_four   -- for this text's walks alone
set_option linter.unusedVariables false
set_option linter.unusedSimpArgs false
def floats_cut.f (a0 : Int) (a1 : Bool) (a2 : Bool) : Option (Int) := if a2 = true then (if a0 ≥ 9223372036854775808 then (some (-9223372036854775808)) else (if a1 = true then (some (wrap64 (IntKind.u64.wrap (-(IntKind.u64.wrap (a0 + 1)))))) else (some (wrap64 (IntKind.u64.wrap (-a0)))))) else (if a0 ≥ 9223372036854775808 then (some 9223372036854775807) else (some (wrap64 (a0))))
set_option maxHeartbeats 8000000 in
set_option maxRecDepth 100000 in
theorem floats_cut.calls (a0 : Int) (a1 : Bool) (a2 : Bool) (r : Int) (w : World) (h : floats_cut.f a0 a1 a2 = some r) :
    Calls Tryd.prog 28 #[.int .u64 a0, .bool a1, .bool a2] w fun e w' => e = .returned (.int .i64 r) ∧ Drawn0 w w' := by
  have H : (if a2 = true then (if a0 ≥ 9223372036854775808 then (some (-9223372036854775808)) else (if a1 = true then (some (wrap64 (IntKind.u64.wrap (-(IntKind.u64.wrap (a0 + 1)))))) else (some (wrap64 (IntKind.u64.wrap (-a0)))))) else (if a0 ≥ 9223372036854775808 then (some 9223372036854775807) else (some (wrap64 (a0))))) = some r := h
  clear h
  by_cases c4 : a2 = true
  · subst c4
    have H1 : (if a0 ≥ 9223372036854775808 then (some (-9223372036854775808)) else (if a1 = true then (some (wrap64 (IntKind.u64.wrap (-(IntKind.u64.wrap (a0 + 1)))))) else (some (wrap64 (IntKind.u64.wrap (-a0)))))) = some r := by rw [if_pos rfl] at H; exact H
    clear H
    have H := H1
    clear H1
    by_cases c5 : a0 ≥ 9223372036854775808
    · rw [if_pos c5] at H
      have c5b0 : decide (9223372036854775808 ≤ a0) = true := decide_eq_true c5
      clear c5
      obtain rfl := Option.some.inj H
      go_enter Tryd.func28, Tryd.ntmps28
      go_wp2
      go_ret
      exact ⟨by first | rfl | (simp; done) | (simp [*]; done), by repeat (first | exact Drawn0.refl _ | apply Drawn0.step)⟩
    · rw [if_neg c5] at H
      have c5b0 : decide (9223372036854775808 ≤ a0) = false := decide_eq_false c5
      clear c5
      by_cases c6 : a1 = true
      · subst c6
        have H1 : (some (wrap64 (IntKind.u64.wrap (-(IntKind.u64.wrap (a0 + 1)))))) = some r := by rw [if_pos rfl] at H; exact H
        clear H
        have H := H1
        clear H1
        obtain rfl := Option.some.inj H
        go_enter Tryd.func28, Tryd.ntmps28
        go_wp2
        go_ret
        exact ⟨by first | rfl | (simp; done) | (simp [*]; done), by repeat (first | exact Drawn0.refl _ | apply Drawn0.step)⟩
      · replace c6 := Bool.eq_false_iff.mpr c6
        subst c6
        have H1 : (some (wrap64 (IntKind.u64.wrap (-a0)))) = some r := by rw [if_neg (show ¬ (false = true) by decide)] at H; exact H
        clear H
        have H := H1
        clear H1
        obtain rfl := Option.some.inj H
        go_enter Tryd.func28, Tryd.ntmps28
        go_wp2
        go_ret
        exact ⟨by first | rfl | (simp; done) | (simp [*]; done), by repeat (first | exact Drawn0.refl _ | apply Drawn0.step)⟩
  · replace c4 := Bool.eq_false_iff.mpr c4
    subst c4
    have H1 : (if a0 ≥ 9223372036854775808 then (some 9223372036854775807) else (some (wrap64 (a0)))) = some r := by rw [if_neg (show ¬ (false = true) by decide)] at H; exact H
    clear H
    have H := H1
    clear H1
    by_cases c7 : a0 ≥ 9223372036854775808
    · rw [if_pos c7] at H
      have c7b0 : decide (9223372036854775808 ≤ a0) = true := decide_eq_true c7
      clear c7
      obtain rfl := Option.some.inj H
      go_enter Tryd.func28, Tryd.ntmps28
      go_wp2
      go_ret
      exact ⟨by first | rfl | (simp; done) | (simp [*]; done), by repeat (first | exact Drawn0.refl _ | apply Drawn0.step)⟩
    · rw [if_neg c7] at H
      have c7b0 : decide (9223372036854775808 ≤ a0) = false := decide_eq_false c7
      clear c7
      obtain rfl := Option.some.inj H
      go_enter Tryd.func28, Tryd.ntmps28
      go_wp2
      go_ret
      exact ⟨by first | rfl | (simp; done) | (simp [*]; done), by repeat (first | exact Drawn0.refl _ | apply Drawn0.step)⟩
def floats_digits.l0 : Nat → ByteArray → Int → Option (ByteArray × ByteArray × Bool)
  | 0, _, _ => none
  | k + 1, x0, x5 => if x5 < (x0.size : Int) then (if 0 ≤ x5 then (if (bt x0 x5) ≥ 48 then (if (bt x0 x5) ≤ 57 then (floats_digits.l0 k x0 (wrap64 (x5 + 1))) else (if x5 ≤ (x0.size : Int) then (if x5 > 0 then (some (x0.extract 0 (x5 : Int).toNat, x0.extract (x5 : Int).toNat x0.size, decide (x5 ≤ 30))) else (some (x0.extract 0 (x5 : Int).toNat, x0.extract (x5 : Int).toNat x0.size, false))) else (none))) else (if x5 ≤ (x0.size : Int) then (if x5 > 0 then (some (x0.extract 0 (x5 : Int).toNat, x0.extract (x5 : Int).toNat x0.size, decide (x5 ≤ 30))) else (some (x0.extract 0 (x5 : Int).toNat, x0.extract (x5 : Int).toNat x0.size, false))) else (none))) else (none)) else (if 0 ≤ x5 then (if x5 ≤ (x0.size : Int) then (if x5 > 0 then (some (x0.extract 0 (x5 : Int).toNat, x0.extract (x5 : Int).toNat x0.size, decide (x5 ≤ 30))) else (some (x0.extract 0 (x5 : Int).toNat, x0.extract (x5 : Int).toNat x0.size, false))) else (none)) else (none))
def floats_digits.f (k : Nat) (a0 : ByteArray) : Option (ByteArray × ByteArray × Bool) := floats_digits.l0 k a0 0
set_option maxHeartbeats 8000000 in
set_option maxRecDepth 100000 in
theorem floats_digits.calls (k : Nat) (a0 : ByteArray) (r1 : ByteArray) (r2 : ByteArray) (r3 : Bool) (w : World) (h : floats_digits.f k a0 = some (r1, r2, r3)) :
    Calls Tryd.prog 34 #[.string a0] w fun e w' => e = .returned (.tuple #[.string r1, .string r2, .bool r3]) ∧ Drawn0 w w' := by
  have H : (floats_digits.l0 k a0 0) = some (r1, r2, r3) := h
  clear h
  have H' := Aside0.mk H
  clear H
  go_enter Tryd.func34, Tryd.ntmps34
  go_wp2
  repeat (go_quiet (fail); try go_wp2)
  go_loopg [5] k (fun kq v5 w' => ∃ (x5_1 : Int), v5 = .int .i64 x5_1 ∧ Aside0 (floats_digits.l0 kq a0 x5_1 = some (r1, r2, r3)) ∧ Aside0 (kq ≤ k) ∧ Drawn0 w w')
  case atStart => exact ⟨(0), (by first | rfl | (simp; done) | (simp [*]; done)), H', ⟨Nat.le_refl _⟩, by repeat (first | exact Drawn0.refl _ | apply Drawn0.step)⟩
  case round =>
    clear H'
    obtain ⟨x5_1, rfl, HA, HK1, ⟨m1, rfl⟩⟩ := hrel
    cases gk with
    | zero => exact absurd HA.out (by simp [floats_digits.l0])
    | succ k1 =>
      have H := HA.out
      clear HA
      simp only [floats_digits.l0] at H
      by_cases c2 : x5_1 < (a0.size : Int)
      · rw [if_pos c2] at H
        have c2b0 : decide (x5_1 < (a0.size : Int)) = true := decide_eq_true c2
        clear c2
        by_cases c3 : 0 ≤ x5_1
        · rw [if_pos c3] at H
          have c3b0 : decide (0 ≤ x5_1) = true := decide_eq_true c3
          clear c3
          by_cases c5 : (bt a0 x5_1) ≥ 48
          · rw [if_pos c5] at H
            have c5b0 : decide (48 ≤ (bt a0 x5_1)) = true := decide_eq_true c5
            clear c5
            by_cases c7 : (bt a0 x5_1) ≤ 57
            · rw [if_pos c7] at H
              have c7b0 : decide ((bt a0 x5_1) ≤ 57) = true := decide_eq_true c7
              clear c7
              have H' := Aside0.mk H
              clear H
              have p4 : 0 ≤ (x5_1 : Int) := of_decide_eq_true (by first | (with_reducible assumption) | assumption)
              have q4 : x5_1 < (a0.size : Int) := of_decide_eq_true (by first | (with_reducible assumption) | assumption)
              have hx4 := bt_at a0 x5_1
              replace p4 := eq_true p4
              replace q4 := eq_true q4
              have p6 : 0 ≤ (x5_1 : Int) := of_decide_eq_true (by first | (with_reducible assumption) | assumption)
              have q6 : x5_1 < (a0.size : Int) := of_decide_eq_true (by first | (with_reducible assumption) | assumption)
              have hx6 := bt_at a0 x5_1
              replace p6 := eq_true p6
              replace q6 := eq_true q6
              go_wp2
              repeat (go_quiet (fail); try go_wp2)
              go_roundg k1
              case measure => have := HK1.out; omega
              case rel => exact ⟨(wrap64 (x5_1 + 1)), (by first | rfl | (simp; done) | (simp [*]; done)), H', ⟨by have := HK1.out; omega⟩, by repeat (first | exact Drawn0.refl _ | apply Drawn0.step)⟩
            · rw [if_neg c7] at H
              have c7b0 : decide ((bt a0 x5_1) ≤ 57) = false := decide_eq_false c7
              clear c7
              have c8b0 := eq_true (of_decide_eq_true (by first | (with_reducible assumption) | assumption) : 0 ≤ x5_1)
              by_cases c9 : x5_1 ≤ (a0.size : Int)
              · rw [if_pos c9] at H
                have c9b0 := eq_true c9
                have c9b1 : decide (x5_1 ≤ (a0.size : Int)) = true := decide_eq_true c9
                clear c9
                have c10b0 := eq_true (of_decide_eq_true (by first | (with_reducible assumption) | assumption) : 0 ≤ x5_1)
                have c11b0 := eq_true (of_decide_eq_true (by first | (with_reducible assumption) | assumption) : x5_1 ≤ (a0.size : Int))
                by_cases c12 : x5_1 > 0
                · rw [if_pos c12] at H
                  have c12b0 : decide (0 < x5_1) = true := decide_eq_true c12
                  clear c12
                  simp only [Option.some.injEq, Prod.mk.injEq] at H
                  obtain ⟨rfl, rfl, rfl⟩ := H
                  have p4 : 0 ≤ (x5_1 : Int) := of_decide_eq_true (by first | (with_reducible assumption) | assumption)
                  have q4 : x5_1 < (a0.size : Int) := of_decide_eq_true (by first | (with_reducible assumption) | assumption)
                  have hx4 := bt_at a0 x5_1
                  replace p4 := eq_true p4
                  replace q4 := eq_true q4
                  have p6 : 0 ≤ (x5_1 : Int) := of_decide_eq_true (by first | (with_reducible assumption) | assumption)
                  have q6 : x5_1 < (a0.size : Int) := of_decide_eq_true (by first | (with_reducible assumption) | assumption)
                  have hx6 := bt_at a0 x5_1
                  replace p6 := eq_true p6
                  replace q6 := eq_true q6
                  go_wp2
                  repeat (go_quiet (fail); try go_wp2)
                  go_ret3
                  exact ⟨by first | rfl | (simp; done) | (simp [*]; done), by repeat (first | exact Drawn0.refl _ | apply Drawn0.step)⟩
                · rw [if_neg c12] at H
                  have c12b0 : decide (0 < x5_1) = false := decide_eq_false c12
                  clear c12
                  simp only [Option.some.injEq, Prod.mk.injEq] at H
                  obtain ⟨rfl, rfl, rfl⟩ := H
                  have p4 : 0 ≤ (x5_1 : Int) := of_decide_eq_true (by first | (with_reducible assumption) | assumption)
                  have q4 : x5_1 < (a0.size : Int) := of_decide_eq_true (by first | (with_reducible assumption) | assumption)
                  have hx4 := bt_at a0 x5_1
                  replace p4 := eq_true p4
                  replace q4 := eq_true q4
                  have p6 : 0 ≤ (x5_1 : Int) := of_decide_eq_true (by first | (with_reducible assumption) | assumption)
                  have q6 : x5_1 < (a0.size : Int) := of_decide_eq_true (by first | (with_reducible assumption) | assumption)
                  have hx6 := bt_at a0 x5_1
                  replace p6 := eq_true p6
                  replace q6 := eq_true q6
                  go_wp2
                  repeat (go_quiet (fail); try go_wp2)
                  go_ret3
                  exact ⟨by first | rfl | (simp; done) | (simp [*]; done), by repeat (first | exact Drawn0.refl _ | apply Drawn0.step)⟩
              · rw [if_neg c9] at H
                exact absurd H (by simp)
          · rw [if_neg c5] at H
            have c5b0 : decide (48 ≤ (bt a0 x5_1)) = false := decide_eq_false c5
            clear c5
            have c13b0 := eq_true (of_decide_eq_true (by first | (with_reducible assumption) | assumption) : 0 ≤ x5_1)
            by_cases c14 : x5_1 ≤ (a0.size : Int)
            · rw [if_pos c14] at H
              have c14b0 := eq_true c14
              have c14b1 : decide (x5_1 ≤ (a0.size : Int)) = true := decide_eq_true c14
              clear c14
              have c15b0 := eq_true (of_decide_eq_true (by first | (with_reducible assumption) | assumption) : 0 ≤ x5_1)
              have c16b0 := eq_true (of_decide_eq_true (by first | (with_reducible assumption) | assumption) : x5_1 ≤ (a0.size : Int))
              by_cases c17 : x5_1 > 0
              · rw [if_pos c17] at H
                have c17b0 : decide (0 < x5_1) = true := decide_eq_true c17
                clear c17
                simp only [Option.some.injEq, Prod.mk.injEq] at H
                obtain ⟨rfl, rfl, rfl⟩ := H
                have p4 : 0 ≤ (x5_1 : Int) := of_decide_eq_true (by first | (with_reducible assumption) | assumption)
                have q4 : x5_1 < (a0.size : Int) := of_decide_eq_true (by first | (with_reducible assumption) | assumption)
                have hx4 := bt_at a0 x5_1
                replace p4 := eq_true p4
                replace q4 := eq_true q4
                go_wp2
                repeat (go_quiet (fail); try go_wp2)
                go_ret3
                exact ⟨by first | rfl | (simp; done) | (simp [*]; done), by repeat (first | exact Drawn0.refl _ | apply Drawn0.step)⟩
              · rw [if_neg c17] at H
                have c17b0 : decide (0 < x5_1) = false := decide_eq_false c17
                clear c17
                simp only [Option.some.injEq, Prod.mk.injEq] at H
                obtain ⟨rfl, rfl, rfl⟩ := H
                have p4 : 0 ≤ (x5_1 : Int) := of_decide_eq_true (by first | (with_reducible assumption) | assumption)
                have q4 : x5_1 < (a0.size : Int) := of_decide_eq_true (by first | (with_reducible assumption) | assumption)
                have hx4 := bt_at a0 x5_1
                replace p4 := eq_true p4
                replace q4 := eq_true q4
                go_wp2
                repeat (go_quiet (fail); try go_wp2)
                go_ret3
                exact ⟨by first | rfl | (simp; done) | (simp [*]; done), by repeat (first | exact Drawn0.refl _ | apply Drawn0.step)⟩
            · rw [if_neg c14] at H
              exact absurd H (by simp)
        · rw [if_neg c3] at H
          exact absurd H (by simp)
      · rw [if_neg c2] at H
        have c2b0 : decide (x5_1 < (a0.size : Int)) = false := decide_eq_false c2
        clear c2
        by_cases c18 : 0 ≤ x5_1
        · rw [if_pos c18] at H
          have c18b0 := eq_true c18
          have c18b1 : decide (0 ≤ x5_1) = true := decide_eq_true c18
          clear c18
          by_cases c19 : x5_1 ≤ (a0.size : Int)
          · rw [if_pos c19] at H
            have c19b0 := eq_true c19
            have c19b1 : decide (x5_1 ≤ (a0.size : Int)) = true := decide_eq_true c19
            clear c19
            have c20b0 := eq_true (of_decide_eq_true (by first | (with_reducible assumption) | assumption) : 0 ≤ x5_1)
            have c21b0 := eq_true (of_decide_eq_true (by first | (with_reducible assumption) | assumption) : x5_1 ≤ (a0.size : Int))
            by_cases c22 : x5_1 > 0
            · rw [if_pos c22] at H
              have c22b0 : decide (0 < x5_1) = true := decide_eq_true c22
              clear c22
              simp only [Option.some.injEq, Prod.mk.injEq] at H
              obtain ⟨rfl, rfl, rfl⟩ := H
              go_wp2
              repeat (go_quiet (fail); try go_wp2)
              go_ret3
              exact ⟨by first | rfl | (simp; done) | (simp [*]; done), by repeat (first | exact Drawn0.refl _ | apply Drawn0.step)⟩
            · rw [if_neg c22] at H
              have c22b0 : decide (0 < x5_1) = false := decide_eq_false c22
              clear c22
              simp only [Option.some.injEq, Prod.mk.injEq] at H
              obtain ⟨rfl, rfl, rfl⟩ := H
              go_wp2
              repeat (go_quiet (fail); try go_wp2)
              go_ret3
              exact ⟨by first | rfl | (simp; done) | (simp [*]; done), by repeat (first | exact Drawn0.refl _ | apply Drawn0.step)⟩
          · rw [if_neg c19] at H
            exact absurd H (by simp)
        · rw [if_neg c18] at H
          exact absurd H (by simp)
def floats_whole.l0 : Nat → ByteArray → Int → Int → Int → Option (Int)
  | 0, _, _, _, _ => none
  | k + 1, x0, x3, x6, x7 => if x7 < x6 then (if 0 ≤ x7 then (if x7 < (x0.size : Int) then (floats_whole.l0 k x0 (mn (IntKind.u64.wrap ((IntKind.u64.wrap (10 * x3)) + (((bt x0 x7) - 48) % 256))) 4294967296) x6 (wrap64 (x7 + 1))) else (none)) else (none)) else (some x3)
def floats_whole.f (k : Nat) (a0 : ByteArray) : Option (Int) := floats_whole.l0 k a0 0 (a0.size : Int) 0
set_option maxHeartbeats 8000000 in
set_option maxRecDepth 100000 in
theorem floats_whole.calls (k : Nat) (a0 : ByteArray) (r : Int) (w : World) (h : floats_whole.f k a0 = some r) :
    Calls Tryd.prog 36 #[.string a0] w fun e w' => e = .returned (.int .u64 r) ∧ Drawn0 w w' := by
  have H : (floats_whole.l0 k a0 0 (a0.size : Int) 0) = some r := h
  clear h
  have H' := Aside0.mk H
  clear H
  go_enter Tryd.func36, Tryd.ntmps36
  go_wp2
  go_loopg [3, 7] k (fun kq v3 v7 w' => ∃ (x3_1 : Int) (x7_1 : Int), v3 = .int .u64 x3_1 ∧ v7 = .int .i64 x7_1 ∧ Aside0 (floats_whole.l0 kq a0 x3_1 (a0.size : Int) x7_1 = some r) ∧ Aside0 (kq ≤ k) ∧ Drawn0 w w')
  case atStart => exact ⟨(0), (0), (by first | rfl | (simp; done) | (simp [*]; done)), (by first | rfl | (simp; done) | (simp [*]; done)), H', ⟨Nat.le_refl _⟩, by repeat (first | exact Drawn0.refl _ | apply Drawn0.step)⟩
  case round =>
    clear H'
    obtain ⟨x3_1, x7_1, rfl, rfl, HA, HK1, ⟨m1, rfl⟩⟩ := hrel
    cases gk with
    | zero => exact absurd HA.out (by simp [floats_whole.l0])
    | succ k1 =>
      have H := HA.out
      clear HA
      simp only [floats_whole.l0] at H
      by_cases c2 : x7_1 < (a0.size : Int)
      · rw [if_pos c2] at H
        have c2b0 : decide (x7_1 < (a0.size : Int)) = true := decide_eq_true c2
        clear c2
        by_cases c3 : 0 ≤ x7_1
        · rw [if_pos c3] at H
          have c3b0 : decide (0 ≤ x7_1) = true := decide_eq_true c3
          clear c3
          by_cases c4 : x7_1 < (a0.size : Int)
          · rw [if_pos c4] at H
            have c4b0 : decide (x7_1 < (a0.size : Int)) = true := decide_eq_true c4
            clear c4
            obtain ⟨ji6, hji6⟩ : ∃ j_ : Int, (mn (IntKind.u64.wrap ((IntKind.u64.wrap (10 * x3_1)) + (((bt a0 x7_1) - 48) % 256))) 4294967296) = j_ := ⟨_, rfl⟩
            replace H : (floats_whole.l0 k1 a0 ji6 (a0.size : Int) (wrap64 (x7_1 + 1))) = some r := by first | (rw [hji6] at H; exact H) | (simp only [hji6] at H ⊢; exact H)
            have hji6_ : (if 4294967296 < (IntKind.u64.wrap ((IntKind.u64.wrap (10 * x3_1)) + (((bt a0 x7_1) - 48) % 256))) then 4294967296 else (IntKind.u64.wrap ((IntKind.u64.wrap (10 * x3_1)) + (((bt a0 x7_1) - 48) % 256)))) = ji6 := hji6
            have H' := Aside0.mk H
            clear H
            have p5 : 0 ≤ (x7_1 : Int) := of_decide_eq_true (by first | (with_reducible assumption) | assumption)
            have q5 : x7_1 < (a0.size : Int) := of_decide_eq_true (by first | (with_reducible assumption) | assumption)
            have hx5 := bt_at a0 x7_1
            replace p5 := eq_true p5
            replace q5 := eq_true q5
            go_wp2
            go_roundg k1
            case measure => have := HK1.out; omega
            case rel => exact ⟨(ji6), (wrap64 (x7_1 + 1)), (by first | rfl | (simp; done) | (simp only [← hji6] <;> (first | rfl | simp)) | (simp [*]; done)), (by first | rfl | (simp; done) | (simp [*]; done)), H', ⟨by have := HK1.out; omega⟩, by repeat (first | exact Drawn0.refl _ | apply Drawn0.step)⟩
          · rw [if_neg c4] at H
            exact absurd H (by simp)
        · rw [if_neg c3] at H
          exact absurd H (by simp)
      · rw [if_neg c2] at H
        have c2b0 : decide (x7_1 < (a0.size : Int)) = false := decide_eq_false c2
        clear c2
        obtain rfl := Option.some.inj H
        go_wp2
        go_ret
        exact ⟨by first | rfl | (simp; done) | (simp [*]; done), by repeat (first | exact Drawn0.refl _ | apply Drawn0.step)⟩
def stringslite_HasPrefix.f (a0 : ByteArray) (a1 : ByteArray) : Option (Bool) := if (a0.size : Int) ≥ (a1.size : Int) then (if 0 ≤ (a1.size : Int) then (if (a1.size : Int) ≤ (a0.size : Int) then (some ((a0.extract 0 ((a1.size : Int) : Int).toNat).toList == a1.toList)) else (none)) else (none)) else (some false)
set_option maxHeartbeats 8000000 in
set_option maxRecDepth 100000 in
theorem stringslite_HasPrefix.calls (a0 : ByteArray) (a1 : ByteArray) (r : Bool) (w : World) (h : stringslite_HasPrefix.f a0 a1 = some r) :
    Calls Tryd.prog 42 #[.string a0, .string a1] w fun e w' => e = .returned (.bool r) ∧ Drawn0 w w' := by
  have H : (if (a0.size : Int) ≥ (a1.size : Int) then (if 0 ≤ (a1.size : Int) then (if (a1.size : Int) ≤ (a0.size : Int) then (some ((a0.extract 0 ((a1.size : Int) : Int).toNat).toList == a1.toList)) else (none)) else (none)) else (some false)) = some r := h
  clear h
  by_cases c3 : (a0.size : Int) ≥ (a1.size : Int)
  · rw [if_pos c3] at H
    have c3b0 : decide ((a1.size : Int) ≤ (a0.size : Int)) = true := decide_eq_true c3
    have c3b1 : decide (a1.size ≤ a0.size) = true := decide_eq_true (Int.ofNat_le.mp c3)
    clear c3
    by_cases c4 : 0 ≤ (a1.size : Int)
    · rw [if_pos c4] at H
      have c4b0 := eq_true c4
      have c4b1 : decide (0 ≤ (a1.size : Int)) = true := decide_eq_true c4
      clear c4
      by_cases c5 : (a1.size : Int) ≤ (a0.size : Int)
      · rw [if_pos c5] at H
        have c5b0 := eq_true c5
        have c5b1 : decide ((a1.size : Int) ≤ (a0.size : Int)) = true := decide_eq_true c5
        clear c5
        obtain rfl := Option.some.inj H
        go_enter Tryd.func42, Tryd.ntmps42
        go_wp2
        go_ret
        exact ⟨by first | rfl | (simp; done) | (simp [*]; done), by repeat (first | exact Drawn0.refl _ | apply Drawn0.step)⟩
      · rw [if_neg c5] at H
        exact absurd H (by simp)
    · rw [if_neg c4] at H
      exact absurd H (by simp)
  · rw [if_neg c3] at H
    have c3b0 : decide ((a1.size : Int) ≤ (a0.size : Int)) = false := decide_eq_false c3
    have c3b1 : decide (a1.size ≤ a0.size) = false := decide_eq_false (fun h => c3 (Int.ofNat_le.mpr h))
    clear c3
    obtain rfl := Option.some.inj H
    go_enter Tryd.func42, Tryd.ntmps42
    go_wp2
    go_ret
    exact ⟨by first | rfl | (simp; done) | (simp [*]; done), by repeat (first | exact Drawn0.refl _ | apply Drawn0.step)⟩
def strings_HasPrefix.f (a0 : ByteArray) (a1 : ByteArray) : Option (Bool) := (stringslite_HasPrefix.f a0 a1).bind fun t101 => (some t101)
set_option maxHeartbeats 8000000 in
set_option maxRecDepth 100000 in
theorem strings_HasPrefix.calls (a0 : ByteArray) (a1 : ByteArray) (r : Bool) (w : World) (h : strings_HasPrefix.f a0 a1 = some r) :
    Calls Tryd.prog 33 #[.string a0, .string a1] w fun e w' => e = .returned (.bool r) ∧ Drawn0 w w' := by
  have H : ((stringslite_HasPrefix.f a0 a1).bind fun t101 => (some t101)) = some r := h
  clear h
  replace H := Option.bind_eq_some_iff.mp H
  obtain ⟨t101, A30, H⟩ := H
  replace H : (some t101) = some r := H
  have A3 := Aside0.mk A30
  clear A30
  obtain rfl := Option.some.inj H
  go_enter Tryd.func33, Tryd.ntmps33
  go_wp2_with (first | ((with_reducible refine gate_callee (f := 42) rfl ?_); refine goesL_ (some 7) rfl rfl Tryd.func42 (by kernel_rfl) rfl #[.string a0, .string a1] rfl (by (try simp only [List.map_toArray, List.map_cons, List.map_nil]); first | done | rfl | (simp only [List.length_drop, List.length_take]; rfl)) ?_; (with_reducible refine (stringslite_HasPrefix.calls a0 a1 t101 _ A3.out).mono ?_); rintro e w' ⟨rfl, ⟨nd, rfl⟩⟩; refine ⟨_, rfl, ?_⟩))
  go_ret
  exact ⟨by first | rfl | (simp; done) | (simp [*]; done), by repeat (first | exact Drawn0.refl _ | apply Drawn0.step)⟩
end Go.Proofs.YtlifbogjjikhdaaDoor.Fl
end
section
namespace Go.Proofs.YtlifbogjjikhdaaDoor.FL
open Ieee
set_option linter.unusedVariables false
def sg (s : Bool) (m : Nat) : Int := if s then -(m : Int) else (m : Int)
def clip (x : Int) : Int := if x < -9223372036854775808 then -9223372036854775808 else if 9223372036854775807 < x then 9223372036854775807 else x
def flr (X e : Int) : Int := if 0 ≤ e then X * 2 ^ e.toNat else X / 2 ^ (-e).toNat
def valD : Datum → Option Int
  | .nan _ _ => none
  | .infinity s => some (if s then -9223372036854775808 else 9223372036854775807)
  | .number s m i => some (clip (flr (sg s m) (i + 32)))
def valB (b : Nat) : Option Int := valD (double.read b)
theorem clip_mono {x y : Int} (h : x ≤ y) : clip x ≤ clip y := by
  unfold clip
  repeat' split
  all_goals omega
theorem order_none {d1 d2 : Datum} : d1.order d2 = none ↔ d1.isNaN = true ∨ d2.isNaN = true := by
  cases d1 <;> cases d2 <;> simp [Datum.order, Datum.isNaN]
theorem order_self {d : Datum} (h : d.isNaN = false) : d.order d = some .eq := by
  cases d with
  | nan => simp [Datum.isNaN] at h
  | infinity s => cases s <;> rfl
  | number s m i => simp [Datum.order]
theorem valD_none {d : Datum} : valD d = none ↔ d.isNaN = true := by
  cases d <;> simp [valD, Datum.isNaN]
theorem read_eq (b : Nat) (hb : b < 18446744073709551616) :
    double.read b = if b / 4503599627370496 % 2048 = 0 then .number (decide (9223372036854775808 ≤ b)) (b % 4503599627370496) (-1074)
      else if b / 4503599627370496 % 2048 = 2047 then (if b % 4503599627370496 = 0 then .infinity (decide (9223372036854775808 ≤ b)) else .nan (decide (9223372036854775808 ≤ b)) (b % 4503599627370496))
      else .number (decide (9223372036854775808 ≤ b)) (4503599627370496 + b % 4503599627370496) ((b / 4503599627370496 % 2048 : Nat) - 1075) := by
  have hs : double.signWeight = 9223372036854775808 := by decide
  have hbi : double.binade = 4503599627370496 := by decide
  have hi : double.infRung = 9218868437227405312 := by decide
  have hl : double.leastPlace = -1074 := by decide
  have hn : (b / 9223372036854775808 % 2 == 1) = decide (9223372036854775808 ≤ b) := by
    by_cases h : 9223372036854775808 ≤ b
    · rw [decide_eq_true h]; simp; omega
    · rw [decide_eq_false h]; simp; omega
  unfold Format.read
  simp only [hs, hbi, hi, hl, hn]
  by_cases h0 : b / 4503599627370496 % 2048 = 0
  · rw [if_pos h0, if_pos (by omega)]
    congr 1
    omega
  · rw [if_neg h0, if_neg (by omega)]
    by_cases h1 : b / 4503599627370496 % 2048 = 2047
    · rw [if_pos h1, if_neg (by omega)]
      by_cases h2 : b % 4503599627370496 = 0
      · rw [if_pos h2, if_pos (by omega)]
      · rw [if_neg h2, if_neg (by omega), show b % 9223372036854775808 - 9218868437227405312 = b % 4503599627370496 by omega]
    · rw [if_neg h1, if_pos (by omega)]
      congr 1
      · omega
      · omega
theorem val_parts (b : Nat) (hb : b < 18446744073709551616) :
    valB b = if b / 4503599627370496 % 2048 = 2047 ∧ b % 4503599627370496 ≠ 0 then none
      else if b / 4503599627370496 % 2048 = 2047 then some (if 9223372036854775808 ≤ b then -9223372036854775808 else 9223372036854775807)
      else some (clip (flr (sg (decide (9223372036854775808 ≤ b)) (if b / 4503599627370496 % 2048 = 0 then b % 4503599627370496 else 4503599627370496 + b % 4503599627370496)) ((if b / 4503599627370496 % 2048 = 0 then 1 else (b / 4503599627370496 % 2048 : Nat) : Int) - 1043))) := by
  unfold valB
  rw [read_eq b hb]
  by_cases h0 : b / 4503599627370496 % 2048 = 0
  · rw [if_pos h0, if_neg (by omega), if_neg (by omega), if_pos h0, if_pos h0]
    rfl
  · rw [if_neg h0]
    by_cases h1 : b / 4503599627370496 % 2048 = 2047
    · rw [if_pos h1]
      by_cases h2 : b % 4503599627370496 = 0
      · rw [if_pos h2, if_neg (fun h => h.2 h2), if_pos h1]
        by_cases h3 : 9223372036854775808 ≤ b
        · rw [decide_eq_true h3, if_pos h3]; rfl
        · rw [decide_eq_false h3, if_neg h3]; rfl
      · rw [if_neg h2, if_pos ⟨h1, h2⟩]; rfl
    · rw [if_neg h1, if_neg (fun h => h1 h.1), if_neg h1, if_neg h0, if_neg h0]
      show some (clip (flr _ (((b / 4503599627370496 % 2048 : Nat) : Int) - 1075 + 32))) = _
      congr 4
      omega
end Go.Proofs.YtlifbogjjikhdaaDoor.FL
end
section
namespace Go.Proofs.YtlifbogjjikhdaaDoor.FL
set_option linter.unusedVariables false
def vd : List Nat → Nat
  | [] => 0
  | x :: l => x * 10 ^ l.length + vd l
theorem vd_snoc (l : List Nat) (x : Nat) : vd (l ++ [x]) = 10 * vd l + x := by
  induction l with
  | nil => simp [vd]
  | cons y l ih =>
    show y * 10 ^ (l ++ [x]).length + vd (l ++ [x]) = 10 * (y * 10 ^ l.length + vd l) + x
    rw [ih, List.length_append, List.length_singleton, Nat.pow_succ, Nat.mul_add, ← Nat.mul_assoc, Nat.mul_comm _ 10, Nat.add_assoc]
def dgt (l : List Nat) : Prop := ∀ x ∈ l, x < 10
theorem vd_lt {l : List Nat} (h : dgt l) : vd l < 10 ^ l.length := by
  induction l with
  | nil => exact Nat.one_pos
  | cons x l ih =>
    have h1 := ih (fun y hy => h y (List.mem_cons_of_mem _ hy))
    have h2 := h x (List.mem_cons_self ..)
    show x * 10 ^ l.length + vd l < 10 ^ (l.length + 1)
    rw [Nat.pow_succ]
    have : x * 10 ^ l.length ≤ 9 * 10 ^ l.length := Nat.mul_le_mul_right _ (by omega)
    omega
theorem vd_zero {l : List Nat} : vd l = 0 ↔ ∀ x ∈ l, x = 0 := by
  induction l with
  | nil => simp [vd]
  | cons x l ih =>
    have hp : 0 < 10 ^ l.length := Nat.pow_pos (by decide)
    show x * 10 ^ l.length + vd l = 0 ↔ _
    rw [Nat.add_eq_zero_iff, Nat.mul_eq_zero, ih]
    simp
def dbl : List Nat → Nat × List Nat
  | [] => (0, [])
  | x :: l => ((2 * x + (dbl l).1) / 10, (2 * x + (dbl l).1) % 10 :: (dbl l).2)
theorem dbl_len (l : List Nat) : (dbl l).2.length = l.length := by
  induction l with
  | nil => rfl
  | cons x l ih => simp [dbl, ih]
theorem dbl_dgt (l : List Nat) : dgt (dbl l).2 := by
  induction l with
  | nil => intro x hx; cases hx
  | cons x l ih =>
    intro y hy
    rcases List.mem_cons.mp hy with rfl | hy
    · exact Nat.mod_lt _ (by decide)
    · exact ih y hy
theorem dbl_carry {l : List Nat} (h : dgt l) : (dbl l).1 ≤ 1 := by
  induction l with
  | nil => exact Nat.zero_le _
  | cons x l ih =>
    have h1 := ih (fun y hy => h y (List.mem_cons_of_mem _ hy))
    have h2 := h x (List.mem_cons_self ..)
    show (2 * x + (dbl l).1) / 10 ≤ 1
    omega
theorem dbl_val (l : List Nat) : (dbl l).1 * 10 ^ l.length + vd (dbl l).2 = 2 * vd l := by
  induction l with
  | nil => rfl
  | cons x l ih =>
    show (2 * x + (dbl l).1) / 10 * 10 ^ (l.length + 1) + ((2 * x + (dbl l).1) % 10 * 10 ^ (dbl l).2.length + vd (dbl l).2) = 2 * (x * 10 ^ l.length + vd l)
    rw [dbl_len, Nat.pow_succ]
    obtain ⟨c, hc⟩ : ∃ c, (dbl l).1 = c := ⟨_, rfl⟩
    rw [hc] at ih ⊢
    obtain ⟨q, hq⟩ : ∃ q, (2 * x + c) / 10 = q := ⟨_, rfl⟩
    obtain ⟨r, hr⟩ : ∃ r, (2 * x + c) % 10 = r := ⟨_, rfl⟩
    have h := Nat.div_add_mod (2 * x + c) 10
    rw [hq, hr] at h
    rw [hq, hr, Nat.mul_comm _ 10, ← Nat.mul_assoc, Nat.mul_comm q 10, ← Nat.add_assoc, ← Nat.add_mul, h, Nat.add_mul, Nat.add_assoc, ih, Nat.mul_add, Nat.mul_assoc]
def bitsOf : Nat → Nat × List Nat → Nat × List Nat
  | 0, s => s
  | k + 1, s => bitsOf k (2 * s.1 + (dbl s.2).1, (dbl s.2).2)
theorem bitsOf_val : ∀ (k n : Nat) (l : List Nat), dgt l → (bitsOf k (n, l)).1 * 10 ^ l.length + vd (bitsOf k (n, l)).2 = 2 ^ k * (n * 10 ^ l.length + vd l) ∧ dgt (bitsOf k (n, l)).2 ∧ (bitsOf k (n, l)).2.length = l.length := by
  intro k
  induction k with
  | zero => intro n l h; exact ⟨by simp [bitsOf], h, rfl⟩
  | succ k ih =>
    intro n l h
    obtain ⟨h1, h2, h3⟩ := ih (2 * n + (dbl l).1) (dbl l).2 (dbl_dgt l)
    rw [dbl_len] at h1 h3
    refine ⟨?_, h2, h3⟩
    show (bitsOf k (2 * n + (dbl l).1, (dbl l).2)).1 * 10 ^ l.length + vd (bitsOf k (2 * n + (dbl l).1, (dbl l).2)).2 = _
    rw [h1, Nat.add_mul, Nat.add_assoc, dbl_val, Nat.mul_assoc, ← Nat.mul_add, ← Nat.mul_assoc, ← Nat.pow_succ]
theorem frac_val {l : List Nat} (h : dgt l) (k : Nat) : (bitsOf k (0, l)).1 = 2 ^ k * vd l / 10 ^ l.length ∧ vd (bitsOf k (0, l)).2 = 2 ^ k * vd l % 10 ^ l.length ∧ (bitsOf k (0, l)).1 < 2 ^ k := by
  obtain ⟨h1, h2, h3⟩ := bitsOf_val k 0 l h
  have hp : 0 < 10 ^ l.length := Nat.pow_pos (by decide)
  rw [Nat.zero_mul, Nat.zero_add] at h1
  have h4 := vd_lt h2
  rw [h3] at h4
  have e : 2 ^ k * vd l / 10 ^ l.length = (bitsOf k (0, l)).1 ∧ 2 ^ k * vd l % 10 ^ l.length = vd (bitsOf k (0, l)).2 := by
    rw [← h1, Nat.add_comm, Nat.mul_comm]
    exact ⟨by rw [Nat.add_mul_div_left _ _ hp, Nat.div_eq_of_lt h4, Nat.zero_add], by rw [Nat.add_mul_mod_self_left, Nat.mod_eq_of_lt h4]⟩
  refine ⟨e.1.symm, e.2.symm, ?_⟩
  rw [← e.1]
  exact (Nat.div_lt_iff_lt_mul hp).mpr (Nat.mul_lt_mul_of_pos_left (vd_lt h) (Nat.two_pow_pos k))
def fd : Nat → Nat → List Nat
  | 0, _ => []
  | k + 1, f => if f = 0 then [] else 10 * f / 4294967296 :: fd k (10 * f % 4294967296)
theorem dvd_step {f k : Nat} (h : 4294967296 ∣ f * 10 ^ (k + 1)) : 4294967296 ∣ 10 * f % 4294967296 * 10 ^ k := by
  have h1 : f * 10 ^ (k + 1) = 10 * f * 10 ^ k := by rw [Nat.pow_succ, Nat.mul_comm (10 ^ k), ← Nat.mul_assoc, Nat.mul_comm f]
  have h2 := Nat.div_add_mod (10 * f) 4294967296
  rw [h1, ← h2, Nat.add_mul, Nat.mul_assoc] at h
  exact (Nat.dvd_add_right (Nat.dvd_mul_right _ _)).mp h
theorem fd_32 (f : Nat) : 4294967296 ∣ f * 10 ^ 32 := Nat.dvd_trans (by decide) (Nat.dvd_mul_left (10 ^ 32) f)
theorem fd_more : ∀ (k f d : Nat), f < 4294967296 → 4294967296 ∣ f * 10 ^ k → fd (k + d) f = fd k f := by
  intro k
  induction k with
  | zero =>
    intro f d hf h
    rw [Nat.pow_zero, Nat.mul_one] at h
    obtain rfl : f = 0 := Nat.eq_zero_of_dvd_of_lt h hf
    cases d with
    | zero => rfl
    | succ d => rw [Nat.zero_add]; unfold fd; rw [if_pos rfl]
  | succ k ih =>
    intro f d hf h
    rw [show k + 1 + d = (k + d) + 1 by omega]
    unfold fd
    by_cases h0 : f = 0
    · rw [if_pos h0, if_pos h0]
    · rw [if_neg h0, if_neg h0, ih _ d (Nat.mod_lt _ (by decide)) (dvd_step h)]
def dec (n : Nat) : List Nat := if n < 10 then [n] else dec (n / 10) ++ [n % 10]
theorem dec_eq (n : Nat) : dec n = if n < 10 then [n] else dec (n / 10) ++ [n % 10] := by rw [dec]
theorem dec_dgt (n : Nat) : dgt (dec n) := by
  induction n using Nat.strongRecOn with
  | _ n ih =>
    rw [dec_eq]
    split
    · intro x hx
      rw [List.mem_singleton] at hx
      omega
    · intro x hx
      rcases List.mem_append.mp hx with hx | hx
      · exact ih (n / 10) (by omega) x hx
      · rw [List.mem_singleton] at hx
        omega
theorem dec_val (n : Nat) : vd (dec n) = n := by
  induction n using Nat.strongRecOn with
  | _ n ih =>
    rw [dec_eq]
    split
    · simp [vd]
    · rw [vd_snoc, ih (n / 10) (by omega)]
      omega
theorem dec_pos (n : Nat) : 0 < (dec n).length := by
  rw [dec_eq]
  split
  · exact Nat.one_pos
  · rw [List.length_append]
    exact Nat.succ_pos _
theorem dec_len : ∀ (k n : Nat), n < 10 ^ (k + 1) → (dec n).length ≤ k + 1 := by
  intro k
  induction k with
  | zero =>
    intro n h
    rw [dec_eq, if_pos (by simpa using h)]
    exact Nat.le_refl _
  | succ k ih =>
    intro n h
    rw [dec_eq]
    split
    · exact Nat.succ_le_succ (Nat.zero_le _)
    · have : n / 10 < 10 ^ (k + 1) := by
        rw [Nat.div_lt_iff_lt_mul (by decide), ← Nat.pow_succ]
        exact h
      have := ih _ this
      rw [List.length_append, List.length_singleton]
      omega
end Go.Proofs.YtlifbogjjikhdaaDoor.FL
end
section
namespace Go.Proofs.YtlifbogjjikhdaaDoor.FL
set_option linter.unusedVariables false
def numS (neg : Bool) (r m : List Nat) : Int := clip (sg neg ((vd r * 10 ^ m.length + vd m) * 4294967296) / ((10 ^ m.length : Nat) : Int))
def cutS (n : Nat) (left neg : Bool) : Int := clip (if neg then -((n : Int) + (if left then 1 else 0)) else (n : Int))
def fracN (m : List Nat) : Nat := 4294967296 * vd m / 10 ^ m.length
def leftN (m : List Nat) : Bool := 4294967296 * vd m % 10 ^ m.length != 0
theorem frac_lt {m : List Nat} (h : dgt m) : fracN m < 4294967296 := by
  have hp : 0 < 10 ^ m.length := Nat.pow_pos (by decide)
  exact (Nat.div_lt_iff_lt_mul hp).mpr (Nat.mul_lt_mul_of_pos_left (vd_lt h) (by decide))
theorem sg_div (neg : Bool) (q s D : Nat) (hs : s < D) : sg neg (s + D * q) / (D : Int) = if neg then -((q : Int) + (if s != 0 then 1 else 0)) else (q : Int) := by
  have hDi : (0 : Int) < (D : Int) := by omega
  cases neg
  · rw [if_neg (by decide)]
    unfold sg
    rw [if_neg (by decide), Int.natCast_add, Int.natCast_mul, Int.add_mul_ediv_left _ _ (Int.ne_of_gt hDi), Int.ediv_eq_zero_of_lt (by omega) (by omega), Int.zero_add]
  · rw [if_pos rfl]
    unfold sg
    rw [if_pos rfl]
    by_cases c : s = 0
    · have e : (s != 0) = false := by simp [c]
      rw [e, if_neg (by decide), c, Nat.zero_add, Int.natCast_mul, ← Int.mul_neg, Int.mul_ediv_cancel_left _ (Int.ne_of_gt hDi), Int.add_zero]
    · have e : (s != 0) = true := by simp [c]
      rw [e, if_pos rfl]
      have e2 : -((s + D * q : Nat) : Int) = ((D : Int) - s) + (D : Int) * (-(q : Int) - 1) := by
        rw [Int.natCast_add, Int.natCast_mul, Int.mul_sub, Int.mul_neg, Int.mul_one]
        omega
      rw [e2, Int.add_mul_ediv_left _ _ (Int.ne_of_gt hDi), Int.ediv_eq_zero_of_lt (by omega) (by omega)]
      omega
theorem mul_parts (B V M D : Nat) : (V * D + M) * B = B * M % D + D * (V * B + B * M / D) := by
  have h0 := Nat.mod_add_div (B * M) D
  rw [Nat.add_mul, Nat.mul_comm M B, Nat.mul_add]
  have e : V * D * B = D * (V * B) := by rw [Nat.mul_comm V D, Nat.mul_assoc]
  rw [e, ← Nat.add_assoc, Nat.add_right_comm, h0, Nat.add_comm]
theorem numS_eq (neg : Bool) (r m : List Nat) : numS neg r m = cutS (vd r * 4294967296 + fracN m) (leftN m) neg := by
  unfold numS cutS fracN leftN
  have hp : 0 < 10 ^ m.length := Nat.pow_pos (by decide)
  rw [mul_parts 4294967296 (vd r) (vd m) (10 ^ m.length), sg_div neg _ _ _ (Nat.mod_lt _ hp)]
theorem cut_great (n : Nat) (left neg : Bool) (h : 9223372036854775808 ≤ n) : cutS n left neg = if neg then -9223372036854775808 else 9223372036854775807 := by
  unfold cutS clip
  cases neg <;> cases left <;> simp <;> omega
theorem cut_small (n : Nat) (left neg : Bool) (h : n < 9223372036854775808) : cutS n left neg = if neg then -((n : Int) + (if left then 1 else 0)) else (n : Int) := by
  unfold cutS clip
  cases neg <;> cases left <;> simp <;> omega
theorem num_mono {r m m' : List Nat} (hl : m.length = m'.length) (h : vd m ≤ vd m') : numS false r m ≤ numS false r m' := by
  unfold numS
  rw [hl]
  refine clip_mono (Int.ediv_le_ediv ?_ ?_)
  · have : 0 < 10 ^ m'.length := Nat.pow_pos (by decide)
    omega
  · show (((vd r * 10 ^ m'.length + vd m) * 4294967296 : Nat) : Int) ≤ (((vd r * 10 ^ m'.length + vd m') * 4294967296 : Nat) : Int)
    omega
theorem num_neg (r m : List Nat) (h : vd r ≤ 1000000) (hm : dgt m) : numS true r m = -numS false r m ∨ numS true r m = -numS false r m - 1 := by
  have hf := frac_lt hm
  rw [numS_eq, numS_eq, cut_small _ _ _ (by omega), cut_small _ _ _ (by omega)]
  cases leftN m <;> simp <;> omega
theorem num_low (r m : List Nat) (h : vd r ≤ 1000000) (hm : dgt m) : (vd r : Int) * 4294967296 ≤ numS false r m ∧ numS false r m < ((vd r : Int) + 1) * 4294967296 := by
  have hf := frac_lt hm
  rw [numS_eq, cut_small _ _ _ (by omega)]
  simp
  omega
end Go.Proofs.YtlifbogjjikhdaaDoor.FL
end
section
namespace Go.Proofs.YtlifbogjjikhdaaDoor.Fl
open Go.RowKit Go.Proofs.YtlifbogjjikhdaaDoorW.PrintWords Go.Proofs.YtlifbogjjikhdaaDoorW.PrintLast Go.Proofs.YtlifbogjjikhdaaDoorW.PrintMore
set_option linter.unusedVariables false
open Go.Proofs.YtlifbogjjikhdaaDoor.FL
open Ieee
theorem run26 (b : Nat) (w : World) : (callFunc 26 #[.float .f64 b]).run Tryd.prog w = .ok (.value (.int .u64 (b : Int))) w :=
  (run_callFunc_extern (e := Extern.MathFloatBits.float64bits) Tryd.func26 rfl rfl (by rfl) (by rfl) _ _).trans rfl
theorem run13 (n : Int) (w : World) : (callFunc 13 #[.int .u64 n]).run Tryd.prog w = .ok (.value (.float .f64 n.toNat)) w :=
  (run_callFunc_extern (e := Extern.MathFloatBits.float64frombits) Tryd.func13 rfl rfl (by rfl) (by rfl) _ _).trans rfl
attribute [local go_sem] run26 run13
set_option maxHeartbeats 4000000 in
set_option maxRecDepth 100000 in
theorem of_nan (b : Nat) (hb : b < 18446744073709551616) (w : World) (h : (FloatKind.f64.format.order b b != some .eq) = true) : Calls Tryd.prog 14 #[.float .f64 b] w fun e w' => e = .returned (.tuple #[.int .i64 0, .int .i64 3]) ∧ Drawn0 w w' := by
  go_enter Tryd.func14, Tryd.ntmps14
  go_wp2
  go_ret2
  exact ⟨rfl, Drawn0.refl _⟩
def cutZ (a : Int) (l s : Bool) : Int := cutS a.toNat l s
theorem cut_eq {a : Int} (h0 : 0 ≤ a) (h1 : a < 18446744073709551616) (l s : Bool) : floats_cut.f a l s = some (cutZ a l s) := by
  have hw : ∀ n : Int, IntKind.u64.wrap n = n % 18446744073709551616 := IntKind.wrap_u64
  unfold floats_cut.f cutZ cutS clip
  rw [hw, hw, hw]
  unfold wrap64
  cases s <;> cases l <;> simp only [if_true, Bool.false_eq_true, if_false] <;> repeat' split
  all_goals first | (congr 1; omega) | omega | (simp_all; done) | (simp_all; omega)
theorem cut_quiet (a : Int) (l s : Bool) (w : World) (h0 : 0 ≤ a) (h1 : a < 18446744073709551616) : Calls Tryd.prog 28 #[.int .u64 a, .bool l, .bool s] w fun e w' => e = .returned (.int .i64 (cutZ a l s)) ∧ ∃ m, w' = w.drewN m :=
  (floats_cut.calls a l s (cutZ a l s) w (cut_eq h0 h1 l s)).mono fun _ _ ⟨he, hw⟩ => ⟨he, hw.out⟩
def ofB (m e : Int) (s : Bool) : Int := if m = 0 then 0 else if 10 < e - 1043 then cutZ 18446744073709551614 false s else if 0 ≤ e - 1043 then cutZ (IntKind.u64.wrap (m * 2 ^ (e - 1043).toNat)) false s else if e - 1043 ≤ -64 then cutZ 0 true s else cutZ (m / 2 ^ (1043 - e).toNat) (IntKind.u64.wrap (m * 2 ^ (e - 979).toNat) != 0) s
theorem wrap_lt (n : Int) : 0 ≤ IntKind.u64.wrap n ∧ IntKind.u64.wrap n < 18446744073709551616 := by rw [IntKind.wrap_u64]; omega
theorem sh_lt {m : Int} (k : Nat) (h0 : 0 ≤ m) (h1 : m < 18446744073709551616) : 0 ≤ m / 2 ^ k ∧ m / 2 ^ k < 18446744073709551616 := by
  have hp : (0 : Int) < 2 ^ k := Int.pow_pos (by decide)
  refine ⟨Int.ediv_nonneg h0 (Int.le_of_lt hp), ?_⟩
  exact Int.lt_of_le_of_lt (Int.ediv_le_self _ h0) h1
set_option maxHeartbeats 4000000 in
set_option maxRecDepth 100000 in
theorem of_big (b : Nat) (w : World) (h : (FloatKind.f64.format.order b b != some .eq) = false) (E M m : Int) (S : Bool) (hE : wrap64 (bits .and .u64 ((b : Int) / 4503599627370496) 2047) = E) (hM : bits .and .u64 (b : Int) 4503599627370495 = M) (hm : bits .or .u64 M 4503599627370496 = m) (hS : ((b : Int) / 9223372036854775808 != 0) = S) (he0 : 0 < E) (he1 : E ≤ 2047) (hm0 : 0 ≤ m) (hm1 : m < 18446744073709551616) (r : Int) (hr : ofB m E S = r) :
    Calls Tryd.prog 14 #[.float .f64 b] w fun e w' => e = .returned (.tuple #[.int .i64 r, .int .i64 0]) ∧ Drawn0 w w' := by
  have c1 : decide (0 < E) = true := decide_eq_true he0
  have HM01 := Aside0.mk (And.intro hm0 hm1)
  have HR := Aside0.mk hr
  clear hr
  go_enter Tryd.func14, Tryd.ntmps14
  have HE := Aside0.mk hE
  have HM := Aside0.mk hM
  have Hm := Aside0.mk hm
  have HS := Aside0.mk hS
  clear hE hM hm hS hm0 hm1
  go_upto_region 5 with (fail)
  go_upto_region 6 with (fail)
  go_upto_region 7 with (fail)
  rw [HE.out, HM.out, HS.out]
  go_upto_region 10 with (fail)
  rw [Hm.out]
  by_cases c2 : m = 0
  · have c3 : (m == 0) = true := by simpa using c2
    have C2 := Aside0.mk c2
    clear c2
    go_wp2
    go_ret2
    exact ⟨by rw [← HR.out]; unfold ofB; rw [if_pos C2.out]; rfl, by repeat (first | exact Drawn0.refl _ | apply Drawn0.step)⟩
  · have c3 : (m == 0) = false := by simpa using c2
    have C2 := Aside0.mk c2
    clear c2
    by_cases c4 : 10 < E - 1043
    · have c5 : decide (10 < E - 1043) = true := decide_eq_true c4
      go_wp2_with (go_at_call 28; (with_reducible refine (cut_quiet _ _ _ _ (by decide) (by decide)).mono ?_); rintro e w' ⟨rfl, ⟨nd, rfl⟩⟩)
      go_ret2
      exact ⟨by rw [← HR.out]; unfold ofB; rw [if_neg C2.out, if_pos (by omega)]; rfl, by repeat (first | exact Drawn0.refl _ | apply Drawn0.step)⟩
    · by_cases c6 : 0 ≤ E - 1043
      · have HW := Aside0.mk (wrap_lt (m * 2 ^ (E - 1043).toNat))
        have e1 : E - 1023 - 52 + 32 = E - 1043 := by omega
        have E1 := Aside0.mk e1
        clear e1
        go_wp2_with (go_at_call 28; rw [E1.out]; (with_reducible refine (cut_quiet _ _ _ _ HW.out.1 HW.out.2).mono ?_); rintro e w' ⟨rfl, ⟨nd, rfl⟩⟩)
        go_ret2
        exact ⟨by rw [← HR.out]; unfold ofB; rw [if_neg C2.out, if_neg (by omega), if_pos (by omega)]; rfl, by repeat (first | exact Drawn0.refl _ | apply Drawn0.step)⟩
      · by_cases c7 : E - 1043 ≤ -64
        · go_wp2_with (go_at_call 28; (with_reducible refine (cut_quiet _ _ _ _ (by decide) (by decide)).mono ?_); rintro e w' ⟨rfl, ⟨nd, rfl⟩⟩)
          go_ret2
          exact ⟨by rw [← HR.out]; unfold ofB; rw [if_neg C2.out, if_neg (by omega), if_neg (by omega), if_pos (by omega)]; rfl, by repeat (first | exact Drawn0.refl _ | apply Drawn0.step)⟩
        · have HY1 : Aside0 (IntKind.i64.wrap (-(E - 1023 - 52 + 32)) = 1043 - E) := ⟨by rw [i64_w]; unfold wrap64; omega⟩
          have HY2 : Aside0 (IntKind.i64.wrap (64 + (E - 1023 - 52 + 32)) = E - 979) := ⟨by rw [i64_w]; unfold wrap64; omega⟩
          have HQ := Aside0.mk (sh_lt (1043 - E).toNat HM01.out.1 HM01.out.2)
          have HV : Aside0 (r = cutZ (m / 2 ^ (1043 - E).toNat) (IntKind.u64.wrap (m * 2 ^ (E - 979).toNat) != 0) S) := ⟨by rw [← HR.out]; unfold ofB; rw [if_neg C2.out, if_neg c4, if_neg c6, if_neg c7]⟩
          go_wp2_with (fail)
          have k1 := HY1.out
          have k2 := HY2.out
          have k3 : 0 ≤ 1043 - E := by omega
          have k4 : 0 ≤ E - 979 := by omega
          clear he0 he1 c1 c4 c6 c7
          go_quiet ((go_at_call 28; exact Calls.quiet_of (cut_quiet _ _ _ _ HQ.out.1 HQ.out.2)))
          go_wp2
          go_ret2
          exact ⟨by rw [HV.out]; rfl, ⟨_, rfl⟩⟩
set_option maxHeartbeats 4000000 in
set_option maxRecDepth 100000 in
theorem of_small (b : Nat) (w : World) (h : (FloatKind.f64.format.order b b != some .eq) = false) (M : Int) (S : Bool) (hE : wrap64 (bits .and .u64 ((b : Int) / 4503599627370496) 2047) = 0) (hM : bits .and .u64 (b : Int) 4503599627370495 = M) (hS : ((b : Int) / 9223372036854775808 != 0) = S) (hm0 : 0 ≤ M) (hm1 : M < 18446744073709551616) (r : Int) (hr : ofB M 1 S = r) :
    Calls Tryd.prog 14 #[.float .f64 b] w fun e w' => e = .returned (.tuple #[.int .i64 r, .int .i64 0]) ∧ Drawn0 w w' := by
  have HR := Aside0.mk hr
  clear hr
  go_enter Tryd.func14, Tryd.ntmps14
  have HE := Aside0.mk hE
  have HM := Aside0.mk hM
  have HS := Aside0.mk hS
  clear hE hM hS hm0 hm1
  go_upto_region 5 with (fail)
  go_upto_region 6 with (fail)
  go_upto_region 7 with (fail)
  rw [HE.out, HM.out, HS.out]
  go_upto_region 10 with (fail)
  by_cases c2 : M = 0
  · have c3 : (M == 0) = true := by simpa using c2
    have C2 := Aside0.mk c2
    clear c2
    go_wp2
    go_ret2
    exact ⟨by rw [← HR.out]; unfold ofB; rw [if_pos C2.out]; rfl, by repeat (first | exact Drawn0.refl _ | apply Drawn0.step)⟩
  · have c3 : (M == 0) = false := by simpa using c2
    have C2 := Aside0.mk c2
    clear c2
    go_wp2_with (go_at_call 28; (with_reducible refine (cut_quiet _ _ _ _ (by decide) (by decide)).mono ?_); rintro e w' ⟨rfl, ⟨nd, rfl⟩⟩)
    go_ret2
    exact ⟨by rw [← HR.out]; unfold ofB; rw [if_neg C2.out, if_neg (by decide), if_neg (by decide), if_pos (by decide)]; rfl, by repeat (first | exact Drawn0.refl _ | apply Drawn0.step)⟩
theorem two_52 (k : Nat) (h : 11 ≤ k) : 2048 ≤ 2 ^ k := by
  have := Nat.pow_le_pow_right (n := 2) (by decide) h
  exact this
theorem ofB_eq (m : Nat) (hm : m < 9007199254740992) (e : Nat) (he1 : 1 ≤ e) (he2 : e ≤ 2046) (hs : m < 4503599627370496 → e = 1) (s : Bool) : ofB (m : Int) (e : Int) s = clip (flr (sg s m) ((e : Int) - 1043)) := by
  unfold ofB
  by_cases c1 : (m : Int) = 0
  · rw [if_pos c1]
    obtain rfl : m = 0 := by omega
    have e0 : sg s 0 = 0 := by cases s <;> rfl
    rw [e0]
    unfold flr
    split
    · rw [Int.zero_mul]; rfl
    · rw [Int.zero_ediv]; rfl
  · rw [if_neg c1]
    by_cases c2 : 10 < (e : Int) - 1043
    · rw [if_pos c2]
      have hm52 : 4503599627370496 ≤ m := by
        by_cases h : m < 4503599627370496
        · have := hs h; omega
        · omega
      obtain ⟨k, hk⟩ : ∃ k, ((e : Int) - 1043).toNat = k := ⟨_, rfl⟩
      have hk11 := two_52 k (by omega)
      unfold flr
      rw [if_pos (by omega), hk]
      have hp : 9223372036854775808 ≤ m * 2 ^ k := Nat.le_trans (by decide) (Nat.mul_le_mul hm52 hk11)
      have hq : (sg s m) * (2 : Int) ^ k = if s then -((m * 2 ^ k : Nat) : Int) else ((m * 2 ^ k : Nat) : Int) := by
        unfold sg
        cases s <;> simp [Int.neg_mul]
      rw [hq]
      unfold cutZ
      rw [cut_great _ _ _ (by decide)]
      obtain ⟨y, hy⟩ : ∃ y, m * 2 ^ k = y := ⟨_, rfl⟩
      rw [hy] at hp ⊢
      unfold clip
      cases s <;> simp <;> omega
    · rw [if_neg c2]
      by_cases c3 : 0 ≤ (e : Int) - 1043
      · rw [if_pos c3]
        obtain ⟨k, hk⟩ : ∃ k, ((e : Int) - 1043).toNat = k := ⟨_, rfl⟩
        unfold flr
        rw [if_pos c3, hk]
        have hp : m * 2 ^ k ≤ 9007199254740991 * 2 ^ 10 := Nat.mul_le_mul (by omega) (Nat.pow_le_pow_right (by decide) (by omega))
        have hq : (sg s m) * (2 : Int) ^ k = if s then -((m * 2 ^ k : Nat) : Int) else ((m * 2 ^ k : Nat) : Int) := by
          unfold sg
          cases s <;> simp [Int.neg_mul]
        have hw : (m : Int) * 2 ^ k = ((m * 2 ^ k : Nat) : Int) := by simp
        rw [hq, hw]
        obtain ⟨y, hy⟩ : ∃ y, m * 2 ^ k = y := ⟨_, rfl⟩
        rw [hy] at hp ⊢
        rw [IntKind.wrap_u64, Int.emod_eq_of_lt (by omega) (by omega)]
        unfold cutZ cutS
        rw [Int.toNat_natCast]
        cases s <;> simp
      · rw [if_neg c3]
        obtain ⟨k, hk⟩ : ∃ k, (1043 - (e : Int)).toNat = k := ⟨_, rfl⟩
        have hkk : (-((e : Int) - 1043)).toNat = k := by rw [← hk]; congr 1; omega
        have hD : 0 < 2 ^ k := Nat.two_pow_pos k
        have hcast : ((2 : Int) ^ k) = ((2 ^ k : Nat) : Int) := by simp
        have hfl : flr (sg s m) ((e : Int) - 1043) = if s then -((m / 2 ^ k : Nat) + (if m % 2 ^ k != 0 then 1 else 0) : Int) else ((m / 2 ^ k : Nat) : Int) := by
          unfold flr
          rw [if_neg c3, hkk, hcast]
          have h1 : m = m % 2 ^ k + 2 ^ k * (m / 2 ^ k) := by have := Nat.mod_add_div m (2 ^ k); omega
          conv => lhs; rw [h1]
          exact sg_div s (m / 2 ^ k) (m % 2 ^ k) (2 ^ k) (Nat.mod_lt _ hD)
        rw [hfl]
        by_cases c4 : (e : Int) - 1043 ≤ -64
        · rw [if_pos c4]
          have hbig : m < 2 ^ k := by
            have : 2 ^ 64 ≤ 2 ^ k := Nat.pow_le_pow_right (by decide) (by omega)
            omega
          rw [Nat.div_eq_of_lt hbig, Nat.mod_eq_of_lt hbig]
          have hz : (m != 0) = true := by simp; omega
          rw [hz]
          cases s <;> rfl
        · rw [if_neg c4]
          have hk64 : k ≤ 63 := by omega
          have hj : ((e : Int) - 979).toNat = 64 - k := by omega
          rw [hk, hj]
          have hq1 : (m : Int) / 2 ^ k = ((m / 2 ^ k : Nat) : Int) := by rw [hcast]; exact (Int.natCast_ediv m (2 ^ k)).symm
          have hq2 : IntKind.u64.wrap ((m : Int) * 2 ^ (64 - k)) = ((2 ^ (64 - k) * (m % 2 ^ k) : Nat) : Int) := by
            rw [IntKind.wrap_u64]
            have h2 : (m : Int) * 2 ^ (64 - k) = ((2 ^ (64 - k) * m : Nat) : Int) := by simp [Int.mul_comm]
            have h3 : (18446744073709551616 : Int) = ((2 ^ (64 - k) * 2 ^ k : Nat) : Int) := by
              rw [← Nat.pow_add, show 64 - k + k = 64 by omega]
              rfl
            rw [h2, h3, ← Int.natCast_emod, Nat.mul_mod_mul_left]
          have hb : (IntKind.u64.wrap ((m : Int) * 2 ^ (64 - k)) != 0) = (m % 2 ^ k != 0) := by
            rw [hq2]
            have hp2 : 0 < 2 ^ (64 - k) := Nat.two_pow_pos _
            by_cases z : m % 2 ^ k = 0
            · rw [z]; simp
            · have : 2 ^ (64 - k) * (m % 2 ^ k) ≠ 0 := Nat.mul_ne_zero (by omega) z
              have a1 : (((2 ^ (64 - k) * (m % 2 ^ k) : Nat) : Int) != 0) = true := by
                simp only [bne_iff_ne, ne_eq]
                omega
              have a2 : (m % 2 ^ k != 0) = true := by simpa using z
              rw [a1, a2]
          rw [hb, hq1]
          unfold cutZ cutS
          rw [Int.toNat_natCast]
theorem ofB_inf (s : Bool) : ofB 4503599627370496 2047 s = if s then -9223372036854775808 else 9223372036854775807 := by
  cases s <;> decide +kernel
def ofS (b : Nat) : Int × Int := match valB b with | some x => (x, 0) | none => (0, 3)
theorem order_nan (b : Nat) : (FloatKind.f64.format.order b b != some .eq) = (valB b).isNone := by
  have e : FloatKind.f64.format.order b b = (double.read b).order (double.read b) := rfl
  rw [e]
  unfold valB
  by_cases h : (double.read b).isNaN = true
  · rw [order_none.2 (.inl h), valD_none.2 h]; rfl
  · rw [order_self (by simpa using h)]
    have : valD (double.read b) ≠ none := fun z => h (valD_none.1 z)
    cases hv : valD (double.read b) with
    | none => exact absurd hv this
    | some x => rfl
theorem parts_bits (b : Nat) (hb : b < 18446744073709551616) : wrap64 (bits .and .u64 ((b : Int) / 4503599627370496) 2047) = ((b / 4503599627370496 % 2048 : Nat) : Int) ∧ bits .and .u64 (b : Int) 4503599627370495 = ((b % 4503599627370496 : Nat) : Int) ∧ ((b : Int) / 9223372036854775808 != 0) = decide (9223372036854775808 ≤ b) := by
  refine ⟨?_, ?_, ?_⟩
  · have e : (b : Int) / 4503599627370496 = ((b / 4503599627370496 : Nat) : Int) := by omega
    rw [e, show (2047 : Int) = ((2047 : Nat) : Int) from rfl, bits_and_u64_nat _ _ (by omega) (by decide), show (2047 : Nat) = 2 ^ 11 - 1 from rfl, Nat.and_two_pow_sub_one_eq_mod, show (2 : Nat) ^ 11 = 2048 from rfl]
    unfold wrap64
    omega
  · rw [show (4503599627370495 : Int) = ((4503599627370495 : Nat) : Int) from rfl, bits_and_u64_nat _ _ hb (by decide), show (4503599627370495 : Nat) = 2 ^ 52 - 1 from rfl, Nat.and_two_pow_sub_one_eq_mod]
  · by_cases h : 9223372036854775808 ≤ b
    · rw [decide_eq_true h]
      have : (b : Int) / 9223372036854775808 = 1 := by omega
      rw [this]; rfl
    · rw [decide_eq_false h]
      have : (b : Int) / 9223372036854775808 = 0 := by omega
      rw [this]; rfl
theorem or_52 (M : Nat) (h : M < 4503599627370496) : bits .or .u64 (M : Int) 4503599627370496 = ((4503599627370496 + M : Nat) : Int) := by
  rw [show (4503599627370496 : Int) = ((4503599627370496 : Nat) : Int) from rfl, bits_or_u64_nat _ _ (by omega) (by decide), Nat.or_comm]
  have := Nat.two_pow_add_eq_or_of_lt (i := 52) (b := M) h 1
  rw [Nat.mul_one] at this
  exact congrArg Int.ofNat this.symm
theorem of_val (b : Nat) (hb : b < 18446744073709551616) (x : Int) (h : valB b = some x) :
    (b / 4503599627370496 % 2048 = 0 → ofB ((b % 4503599627370496 : Nat) : Int) 1 (decide (9223372036854775808 ≤ b)) = x) ∧ (b / 4503599627370496 % 2048 ≠ 0 → ofB ((4503599627370496 + b % 4503599627370496 : Nat) : Int) ((b / 4503599627370496 % 2048 : Nat) : Int) (decide (9223372036854775808 ≤ b)) = x) := by
  have hv := val_parts b hb
  rw [h] at hv
  have hM : b % 4503599627370496 < 4503599627370496 := Nat.mod_lt _ (by decide)
  obtain ⟨M, hMM⟩ : ∃ M, b % 4503599627370496 = M := ⟨_, rfl⟩
  obtain ⟨E, hEE⟩ : ∃ E, b / 4503599627370496 % 2048 = E := ⟨_, rfl⟩
  have hE : E < 2048 := by rw [← hEE]; exact Nat.mod_lt _ (by decide)
  obtain ⟨s, hs⟩ : ∃ s, decide (9223372036854775808 ≤ b) = s := ⟨_, rfl⟩
  have hs2 : ∀ (u v : Int), (if 9223372036854775808 ≤ b then u else v) = if s = true then u else v := by
    intro u v
    rw [← hs]
    by_cases z : 9223372036854775808 ≤ b <;> simp [z]
  rw [hMM, hEE, hs2, hs] at hv
  rw [hMM] at hM
  rw [hMM, hEE, hs]
  refine ⟨fun h0 => ?_, fun h0 => ?_⟩
  · rw [if_neg (by omega), if_neg (by omega), if_pos h0, if_pos h0] at hv
    have hv := Option.some.inj hv
    rw [hv]
    exact ofB_eq M (by omega) 1 (by decide) (by decide) (fun _ => rfl) s
  · by_cases h1 : E = 2047
    · by_cases h2 : M = 0
      · rw [if_neg (by omega), if_pos h1] at hv
        have hv := Option.some.inj hv
        rw [hv, h1, h2]
        exact ofB_inf s
      · rw [if_pos ⟨h1, h2⟩] at hv
        cases hv
    · rw [if_neg (by omega), if_neg h1, if_neg h0, if_neg h0] at hv
      have hv := Option.some.inj hv
      rw [hv]
      exact ofB_eq (4503599627370496 + M) (by omega) E (by omega) (by omega) (fun h => by omega) s
theorem of_calls (b : Nat) (hb : b < 18446744073709551616) (w : World) : Calls Tryd.prog 14 #[.float .f64 b] w fun e w' => e = .returned (.tuple #[.int .i64 (ofS b).1, .int .i64 (ofS b).2]) ∧ Drawn0 w w' := by
  have ho := order_nan b
  unfold ofS
  cases hv : valB b with
  | none =>
    rw [hv] at ho
    exact of_nan b hb w ho
  | some x =>
    rw [hv] at ho
    obtain ⟨p1, p2, p3⟩ := parts_bits b hb
    obtain ⟨v1, v2⟩ := of_val b hb x hv
    have hM : b % 4503599627370496 < 4503599627370496 := Nat.mod_lt _ (by decide)
    have hE : b / 4503599627370496 % 2048 < 2048 := Nat.mod_lt _ (by decide)
    by_cases h0 : b / 4503599627370496 % 2048 = 0
    · rw [h0] at p1
      exact of_small b w ho _ _ p1 p2 p3 (by omega) (by omega) x (v1 h0)
    · exact of_big b w ho _ _ _ _ p1 p2 (or_52 _ hM) p3 (by omega) (by omega) (by omega) (by omega) x (v2 h0)
end Go.Proofs.YtlifbogjjikhdaaDoor.Fl
end
section
namespace Go.Proofs.YtlifbogjjikhdaaDoor.Fl
open Go.RowKit Go.Proofs.YtlifbogjjikhdaaDoorW.PrintWords Go.Proofs.YtlifbogjjikhdaaDoorW.PrintLast Go.Proofs.YtlifbogjjikhdaaDoorW.PrintMore
attribute [local go_sem] max2_int min2_int max_two min_two max_three min_three max_four min_four   -- for this text's walks alone
set_option linter.unusedVariables false
set_option linter.unusedSimpArgs false
def lysimeterref1_size.f (a0 : Int) : Option (Int) := if a0 < 0 then (some (IntKind.u64.wrap ((IntKind.u64.wrap (wrap64 (-(wrap64 (a0 + 1))))) + 1))) else (some (IntKind.u64.wrap (a0)))
set_option maxHeartbeats 8000000 in
set_option maxRecDepth 100000 in
theorem lysimeterref1_size.calls (a0 : Int) (r : Int) (w : World) (h : lysimeterref1_size.f a0 = some r) :
    Calls Tryd.prog 39 #[.int .i64 a0] w fun e w' => e = .returned (.int .u64 r) ∧ Drawn0 w w' := by
  have H : (if a0 < 0 then (some (IntKind.u64.wrap ((IntKind.u64.wrap (wrap64 (-(wrap64 (a0 + 1))))) + 1))) else (some (IntKind.u64.wrap (a0)))) = some r := h
  clear h
  by_cases c2 : a0 < 0
  · rw [if_pos c2] at H
    have c2b0 : decide (a0 < 0) = true := decide_eq_true c2
    clear c2
    obtain rfl := Option.some.inj H
    go_enter Tryd.func39, Tryd.ntmps39
    go_wp2
    go_ret
    exact ⟨by first | rfl | (simp; done) | (simp [*]; done), by repeat (first | exact Drawn0.refl _ | apply Drawn0.step)⟩
  · rw [if_neg c2] at H
    have c2b0 : decide (a0 < 0) = false := decide_eq_false c2
    clear c2
    obtain rfl := Option.some.inj H
    go_enter Tryd.func39, Tryd.ntmps39
    go_wp2
    go_ret
    exact ⟨by first | rfl | (simp; done) | (simp [*]; done), by repeat (first | exact Drawn0.refl _ | apply Drawn0.step)⟩
def lysimeterref1_decimal.f : Nat → Int → Option (ByteArray)
  | 0, _ => none
  | k + 1, a0 => if 0 ≤ (Int.tmod a0 10) then (if (Int.tmod a0 10) ≤ (IntKind.u64.wrap ((Int.tmod a0 10) + 1)) then (if (IntKind.u64.wrap ((Int.tmod a0 10) + 1)) ≤ 10 then (if a0 > 9 then ((lysimeterref1_decimal.f k (IntKind.u64.wrap (Int.tdiv a0 10))).bind fun t120 => (if t120.size + ((⟨#[48, 49, 50, 51, 52, 53, 54, 55, 56, 57]⟩ : ByteArray).extract ((Int.tmod a0 10) : Int).toNat ((IntKind.u64.wrap ((Int.tmod a0 10) + 1)) : Int).toNat).size ≤ 9223372036854775807 then (some (t120 ++ ((⟨#[48, 49, 50, 51, 52, 53, 54, 55, 56, 57]⟩ : ByteArray).extract ((Int.tmod a0 10) : Int).toNat ((IntKind.u64.wrap ((Int.tmod a0 10) + 1)) : Int).toNat))) else (none))) else (some ((⟨#[48, 49, 50, 51, 52, 53, 54, 55, 56, 57]⟩ : ByteArray).extract ((Int.tmod a0 10) : Int).toNat ((IntKind.u64.wrap ((Int.tmod a0 10) + 1)) : Int).toNat))) else (none)) else (none)) else (none)
set_option maxHeartbeats 8000000 in
set_option maxRecDepth 100000 in
theorem lysimeterref1_decimal.calls (k : Nat) : ∀ (a0 : Int) (r : ByteArray) (w : World) (h : lysimeterref1_decimal.f k a0 = some r),
    Calls Tryd.prog 40 #[.int .u64 a0] w fun e w' => e = .returned (.string r) ∧ Drawn0 w w' := by
  induction k using Nat.strongRecOn with
  | _ k ih =>
  intro a0 r w h
  cases k with
  | zero => exact absurd h (by simp [lysimeterref1_decimal.f])
  | succ k =>
  simp only [lysimeterref1_decimal.f] at h
  have H : (if 0 ≤ (Int.tmod a0 10) then (if (Int.tmod a0 10) ≤ (IntKind.u64.wrap ((Int.tmod a0 10) + 1)) then (if (IntKind.u64.wrap ((Int.tmod a0 10) + 1)) ≤ 10 then (if a0 > 9 then ((lysimeterref1_decimal.f k (IntKind.u64.wrap (Int.tdiv a0 10))).bind fun t120 => (if t120.size + ((⟨#[48, 49, 50, 51, 52, 53, 54, 55, 56, 57]⟩ : ByteArray).extract ((Int.tmod a0 10) : Int).toNat ((IntKind.u64.wrap ((Int.tmod a0 10) + 1)) : Int).toNat).size ≤ 9223372036854775807 then (some (t120 ++ ((⟨#[48, 49, 50, 51, 52, 53, 54, 55, 56, 57]⟩ : ByteArray).extract ((Int.tmod a0 10) : Int).toNat ((IntKind.u64.wrap ((Int.tmod a0 10) + 1)) : Int).toNat))) else (none))) else (some ((⟨#[48, 49, 50, 51, 52, 53, 54, 55, 56, 57]⟩ : ByteArray).extract ((Int.tmod a0 10) : Int).toNat ((IntKind.u64.wrap ((Int.tmod a0 10) + 1)) : Int).toNat))) else (none)) else (none)) else (none)) = some r := h
  clear h
  obtain ⟨ji2, hji2⟩ : ∃ j_ : Int, (Int.tmod a0 10) = j_ := ⟨_, rfl⟩
  replace H : (if 0 ≤ (ji2) then (if (ji2) ≤ (IntKind.u64.wrap ((ji2) + 1)) then (if (IntKind.u64.wrap ((ji2) + 1)) ≤ 10 then (if a0 > 9 then ((lysimeterref1_decimal.f k (IntKind.u64.wrap (Int.tdiv a0 10))).bind fun t120 => (if t120.size + ((⟨#[48, 49, 50, 51, 52, 53, 54, 55, 56, 57]⟩ : ByteArray).extract ((ji2) : Int).toNat ((IntKind.u64.wrap ((ji2) + 1)) : Int).toNat).size ≤ 9223372036854775807 then (some (t120 ++ ((⟨#[48, 49, 50, 51, 52, 53, 54, 55, 56, 57]⟩ : ByteArray).extract ((ji2) : Int).toNat ((IntKind.u64.wrap ((ji2) + 1)) : Int).toNat))) else (none))) else (some ((⟨#[48, 49, 50, 51, 52, 53, 54, 55, 56, 57]⟩ : ByteArray).extract ((ji2) : Int).toNat ((IntKind.u64.wrap ((ji2) + 1)) : Int).toNat))) else (none)) else (none)) else (none)) = some r := by first | (rw [hji2] at H; exact H) | (simp only [hji2] at H ⊢; exact H)
  by_cases c3 : 0 ≤ (ji2)
  · rw [if_pos c3] at H
    have c3b0 := eq_true c3
    have c3b1 : decide (0 ≤ (ji2)) = true := decide_eq_true c3
    clear c3
    by_cases c4 : (ji2) ≤ (IntKind.u64.wrap ((ji2) + 1))
    · rw [if_pos c4] at H
      have c4b0 := eq_true c4
      have c4b1 : decide ((ji2) ≤ (IntKind.u64.wrap ((ji2) + 1))) = true := decide_eq_true c4
      by_cases c5 : (IntKind.u64.wrap ((ji2) + 1)) ≤ 10
      · rw [if_pos c5] at H
        have c5b0 := eq_true c5
        have c5b1 : decide ((IntKind.u64.wrap ((ji2) + 1)) ≤ 10) = true := decide_eq_true c5
        by_cases c6 : a0 > 9
        · rw [if_pos c6] at H
          have c6b0 : decide (9 < a0) = true := decide_eq_true c6
          clear c6
          replace H := Option.bind_eq_some_iff.mp H
          obtain ⟨t120, A70, H⟩ := H
          replace H : (if t120.size + ((⟨#[48, 49, 50, 51, 52, 53, 54, 55, 56, 57]⟩ : ByteArray).extract ((ji2) : Int).toNat ((IntKind.u64.wrap ((ji2) + 1)) : Int).toNat).size ≤ 9223372036854775807 then (some (t120 ++ ((⟨#[48, 49, 50, 51, 52, 53, 54, 55, 56, 57]⟩ : ByteArray).extract ((ji2) : Int).toNat ((IntKind.u64.wrap ((ji2) + 1)) : Int).toNat))) else (none)) = some r := H
          have A7 := Aside0.mk A70
          clear A70
          by_cases c8 : t120.size + ((⟨#[48, 49, 50, 51, 52, 53, 54, 55, 56, 57]⟩ : ByteArray).extract ((ji2) : Int).toNat ((IntKind.u64.wrap ((ji2) + 1)) : Int).toNat).size ≤ 9223372036854775807
          · rw [if_pos c8] at H
            have c8b0 := eq_true c8
            have c8b1 : decide (t120.size + ((⟨#[48, 49, 50, 51, 52, 53, 54, 55, 56, 57]⟩ : ByteArray).extract ((ji2) : Int).toNat ((IntKind.u64.wrap ((ji2) + 1)) : Int).toNat).size ≤ 9223372036854775807) = true := decide_eq_true c8
            try have c8b2 : (9223372036854775807 < t120.size + ((⟨#[48, 49, 50, 51, 52, 53, 54, 55, 56, 57]⟩ : ByteArray).extract ((ji2) : Int).toNat ((IntKind.u64.wrap ((ji2) + 1)) : Int).toNat).size) = False := eq_false (Nat.not_lt.2 c8)
            obtain rfl := Option.some.inj H
            go_enter Tryd.func40, Tryd.ntmps40
            go_wp2_with (first | ((with_reducible refine gate_callee (f := 40) rfl ?_); refine goesL_ (some 14) rfl rfl Tryd.func40 (by kernel_rfl) rfl #[.int .u64 (IntKind.u64.wrap (Int.tdiv a0 10))] rfl (by (try simp only [List.map_toArray, List.map_cons, List.map_nil]); first | done | rfl | (simp only [List.length_drop, List.length_take]; rfl)) ?_; (with_reducible refine (ih k (by omega) (IntKind.u64.wrap (Int.tdiv a0 10)) t120 _ A7.out).mono ?_); rintro e w' ⟨rfl, ⟨nd, rfl⟩⟩; refine ⟨_, rfl, ?_⟩))
            go_ret
            exact ⟨by first | rfl | (simp; done) | (simp only [← hji2] <;> (first | rfl | simp)) | (simp [*]; done), by repeat (first | exact Drawn0.refl _ | apply Drawn0.step)⟩
          · rw [if_neg c8] at H
            exact absurd H (by simp)
        · rw [if_neg c6] at H
          have c6b0 : decide (9 < a0) = false := decide_eq_false c6
          clear c6
          obtain rfl := Option.some.inj H
          go_enter Tryd.func40, Tryd.ntmps40
          go_wp2
          go_ret
          exact ⟨by first | rfl | (simp; done) | (simp only [← hji2] <;> (first | rfl | simp)) | (simp [*]; done), by repeat (first | exact Drawn0.refl _ | apply Drawn0.step)⟩
      · rw [if_neg c5] at H
        exact absurd H (by simp)
    · rw [if_neg c4] at H
      exact absurd H (by simp)
  · rw [if_neg c3] at H
    exact absurd H (by simp)
def lysimeterref1_Number.f (k : Nat) (a0 : Int) : Option (ByteArray) := if a0 < 0 then ((lysimeterref1_size.f a0).bind fun t124 => ((lysimeterref1_decimal.f k t124).bind fun t125 => (if 1 + t125.size ≤ 9223372036854775807 then (some ((⟨#[45]⟩ : ByteArray) ++ t125)) else (none)))) else ((lysimeterref1_decimal.f k (IntKind.u64.wrap (a0))).bind fun t126 => (some t126))
set_option maxHeartbeats 8000000 in
set_option maxRecDepth 100000 in
theorem lysimeterref1_Number.calls (k : Nat) (a0 : Int) (r : ByteArray) (w : World) (h : lysimeterref1_Number.f k a0 = some r) :
    Calls Tryd.prog 23 #[.int .i64 a0] w fun e w' => e = .returned (.string r) ∧ Drawn0 w w' := by
  have H : (if a0 < 0 then ((lysimeterref1_size.f a0).bind fun t124 => ((lysimeterref1_decimal.f k t124).bind fun t125 => (if 1 + t125.size ≤ 9223372036854775807 then (some ((⟨#[45]⟩ : ByteArray) ++ t125)) else (none)))) else ((lysimeterref1_decimal.f k (IntKind.u64.wrap (a0))).bind fun t126 => (some t126))) = some r := h
  clear h
  by_cases c2 : a0 < 0
  · rw [if_pos c2] at H
    have c2b0 : decide (a0 < 0) = true := decide_eq_true c2
    clear c2
    replace H := Option.bind_eq_some_iff.mp H
    obtain ⟨t124, A30, H⟩ := H
    replace H : ((lysimeterref1_decimal.f k t124).bind fun t125 => (if 1 + t125.size ≤ 9223372036854775807 then (some ((⟨#[45]⟩ : ByteArray) ++ t125)) else (none))) = some r := H
    have A3 := Aside0.mk A30
    clear A30
    replace H := Option.bind_eq_some_iff.mp H
    obtain ⟨t125, A40, H⟩ := H
    replace H : (if 1 + t125.size ≤ 9223372036854775807 then (some ((⟨#[45]⟩ : ByteArray) ++ t125)) else (none)) = some r := H
    have A4 := Aside0.mk A40
    clear A40
    by_cases c5 : 1 + t125.size ≤ 9223372036854775807
    · rw [if_pos c5] at H
      have c5b0 := eq_true c5
      have c5b1 : decide (1 + t125.size ≤ 9223372036854775807) = true := decide_eq_true c5
      try have c5b2 : (9223372036854775807 < 1 + t125.size) = False := eq_false (Nat.not_lt.2 c5)
      obtain rfl := Option.some.inj H
      go_enter Tryd.func23, Tryd.ntmps23
      go_wp2_with (first | ((with_reducible refine gate_callee (f := 39) rfl ?_); refine goesL_ (some 6) rfl rfl Tryd.func39 (by kernel_rfl) rfl #[.int .i64 a0] rfl (by (try simp only [List.map_toArray, List.map_cons, List.map_nil]); first | done | rfl | (simp only [List.length_drop, List.length_take]; rfl)) ?_; (with_reducible refine (lysimeterref1_size.calls a0 t124 _ A3.out).mono ?_); rintro e w' ⟨rfl, ⟨nd, rfl⟩⟩; refine ⟨_, rfl, ?_⟩) | ((with_reducible refine gate_callee (f := 40) rfl ?_); refine goesL_ (some 7) rfl rfl Tryd.func40 (by kernel_rfl) rfl #[.int .u64 t124] rfl (by (try simp only [List.map_toArray, List.map_cons, List.map_nil]); first | done | rfl | (simp only [List.length_drop, List.length_take]; rfl)) ?_; (with_reducible refine (lysimeterref1_decimal.calls k t124 t125 _ A4.out).mono ?_); rintro e w' ⟨rfl, ⟨nd, rfl⟩⟩; refine ⟨_, rfl, ?_⟩))
      go_ret
      exact ⟨by first | rfl | (simp; done) | (simp [*]; done), by repeat (first | exact Drawn0.refl _ | apply Drawn0.step)⟩
    · rw [if_neg c5] at H
      exact absurd H (by simp)
  · rw [if_neg c2] at H
    have c2b0 : decide (a0 < 0) = false := decide_eq_false c2
    clear c2
    replace H := Option.bind_eq_some_iff.mp H
    obtain ⟨t126, A60, H⟩ := H
    replace H : (some t126) = some r := H
    have A6 := Aside0.mk A60
    clear A60
    obtain rfl := Option.some.inj H
    go_enter Tryd.func23, Tryd.ntmps23
    go_wp2_with (first | ((with_reducible refine gate_callee (f := 40) rfl ?_); refine goesL_ (some 11) rfl rfl Tryd.func40 (by kernel_rfl) rfl #[.int .u64 (IntKind.u64.wrap (a0))] rfl (by (try simp only [List.map_toArray, List.map_cons, List.map_nil]); first | done | rfl | (simp only [List.length_drop, List.length_take]; rfl)) ?_; (with_reducible refine (lysimeterref1_decimal.calls k (IntKind.u64.wrap (a0)) t126 _ A6.out).mono ?_); rintro e w' ⟨rfl, ⟨nd, rfl⟩⟩; refine ⟨_, rfl, ?_⟩))
    go_ret
    exact ⟨by first | rfl | (simp; done) | (simp [*]; done), by repeat (first | exact Drawn0.refl _ | apply Drawn0.step)⟩
def lysimeterref1_Of.f (a0 : Int) : Option (Int) := if a0 > 2147483647 then (some 9223372036854775807) else (if a0 < (-2147483648) then (some (-9223372036854775808)) else (some (wrap64 (a0 * 4294967296))))
set_option maxHeartbeats 8000000 in
set_option maxRecDepth 100000 in
theorem lysimeterref1_Of.calls (a0 : Int) (r : Int) (w : World) (h : lysimeterref1_Of.f a0 = some r) :
    Calls Tryd.prog 24 #[.int .i64 a0] w fun e w' => e = .returned (.int .i64 r) ∧ Drawn0 w w' := by
  have H : (if a0 > 2147483647 then (some 9223372036854775807) else (if a0 < (-2147483648) then (some (-9223372036854775808)) else (some (wrap64 (a0 * 4294967296))))) = some r := h
  clear h
  by_cases c2 : a0 > 2147483647
  · rw [if_pos c2] at H
    have c2b0 : decide (2147483647 < a0) = true := decide_eq_true c2
    clear c2
    obtain rfl := Option.some.inj H
    go_enter Tryd.func24, Tryd.ntmps24
    go_wp2
    go_ret
    exact ⟨by first | rfl | (simp; done) | (simp [*]; done), by repeat (first | exact Drawn0.refl _ | apply Drawn0.step)⟩
  · rw [if_neg c2] at H
    have c2b0 : decide (2147483647 < a0) = false := decide_eq_false c2
    clear c2
    by_cases c3 : a0 < (-2147483648)
    · rw [if_pos c3] at H
      have c3b0 : decide (a0 < (-2147483648)) = true := decide_eq_true c3
      clear c3
      obtain rfl := Option.some.inj H
      go_enter Tryd.func24, Tryd.ntmps24
      go_wp2
      go_ret
      exact ⟨by first | rfl | (simp; done) | (simp [*]; done), by repeat (first | exact Drawn0.refl _ | apply Drawn0.step)⟩
    · rw [if_neg c3] at H
      have c3b0 : decide (a0 < (-2147483648)) = false := decide_eq_false c3
      clear c3
      obtain rfl := Option.some.inj H
      go_enter Tryd.func24, Tryd.ntmps24
      go_wp2
      go_ret
      exact ⟨by first | rfl | (simp; done) | (simp [*]; done), by repeat (first | exact Drawn0.refl _ | apply Drawn0.step)⟩
end Go.Proofs.YtlifbogjjikhdaaDoor.Fl
end
section
namespace Go.Proofs.YtlifbogjjikhdaaDoor.Fl
open Go.RowKit Go.Proofs.YtlifbogjjikhdaaDoorW.PrintWords Go.Proofs.YtlifbogjjikhdaaDoorW.PrintLast Go.Proofs.YtlifbogjjikhdaaDoorW.PrintMore
set_option linter.unusedVariables false
open Go.Proofs.YtlifbogjjikhdaaDoor.FL
attribute [local go_sem] run26 run13
def hexZ (c : Int) : Int := if 48 ≤ c ∧ c ≤ 57 then c - 48 else if 97 ≤ c ∧ c ≤ 102 then c - 87 else -1
def hexes : List UInt8 := [48, 49, 50, 51, 52, 53, 54, 55, 56, 57, 97, 98, 99, 100, 101, 102]
theorem index_hex : ∀ n : Nat, n < 256 → Lib.indexByte hexes (UInt8.ofNat n) = hexZ (n : Int) := by decide +kernel
theorem hexZ_lt (c : Int) : -1 ≤ hexZ c ∧ hexZ c ≤ 15 := by
  unfold hexZ
  repeat' split
  all_goals omega
set_option maxHeartbeats 4000000 in
theorem digit_calls (c : Int) (h0 : 0 ≤ c) (h1 : c < 256) (w : World) : Calls Tryd.prog 31 #[.int .u8 c] w fun e w' => e = .returned (.int .i64 (hexZ c)) ∧ w' = w := by
  obtain ⟨n, rfl⟩ : ∃ n : Nat, c = n := ⟨c.toNat, by omega⟩
  have HI := Aside0.mk (index_hex n (by omega))
  clear h0 h1
  go_enter Tryd.func31, Tryd.ntmps31
  go_wp2_with (go_at_call 41; refine (Tryd.strings_IndexByte _ _ _).mono ?_; rintro e w' ⟨rfl, rfl⟩)
  go_ret
  exact ⟨by rw [← HI.out]; rfl, rfl⟩
def hexA : List UInt8 → Int → Option Int
  | [], a => some a
  | c :: l, a => if hexZ (c.toNat : Int) < 0 then none else hexA l (a * 16 + hexZ (c.toNat : Int))
def bitsS (l : List UInt8) : Int × Int := if l.length = 16 then (match hexA l 0 with | some a => ofS a.toNat | none => (0, 4)) else (0, 4)
theorem or_16 (a d : Int) (a0 : 0 ≤ a) (a1 : a < 1152921504606846976) (d0 : 0 ≤ d) (d1 : d ≤ 15) : bits .or .u64 (IntKind.u64.wrap (a * 16)) d = a * 16 + d := by
  obtain ⟨x, rfl⟩ : ∃ x : Nat, a = x := ⟨a.toNat, by omega⟩
  obtain ⟨y, rfl⟩ : ∃ y : Nat, d = y := ⟨d.toNat, by omega⟩
  rw [IntKind.wrap_u64, Int.emod_eq_of_lt (by omega) (by omega), show ((x : Int) * 16) = ((2 ^ 4 * x : Nat) : Int) by omega, bits_or_u64_nat _ _ (by omega) (by omega), ← Nat.two_pow_add_eq_or_of_lt (i := 4) (by omega)]
  rfl
theorem bytes_get (s : ByteArray) (k : Nat) (h : k < s.size) : s.data.toList.drop k = s[k] :: s.data.toList.drop (k + 1) := by
  rw [List.drop_eq_getElem_cons (by simpa using h)]
  rfl
set_option maxHeartbeats 4000000 in
set_option maxRecDepth 100000 in
theorem bits_calls (s : ByteArray) (w : World) (hs : s.size ≤ 140737488351232) : Calls Tryd.prog 17 #[.string s] w fun e w' => e = .returned (.tuple #[.int .i64 (bitsS s.data.toList).1, .int .i64 (bitsS s.data.toList).2]) ∧ Drawn0 w w' := by
  have hl : s.data.toList.length = s.size := by simp
  obtain ⟨r, hr⟩ : ∃ r, bitsS s.data.toList = r := ⟨_, rfl⟩
  rw [hr]
  have HR := Aside0.mk hr
  have HL := Aside0.mk hl
  clear hr hl
  go_enter Tryd.func17, Tryd.ntmps17
  refine wp_seq ?_
  go_wp2
  refine wp_scope_jumps 0 (fun a' w' => r = ((0 : Int), (4 : Int)) ∧ Drawn0 w w' ∧ ∃ (u0 u1 u2 u3 u4 u5 u6 u7 u8 u9 u10 u11 u12 u13 u14 u15 u16 u17 u18 u19 u20 u21 u22 u23 u24 u25 u26 u27 u28 u29 u30 u31 : Value), a' = { tmps := #[u0, u1, u2, u3, u4, u5, u6, u7, u8, u9, u10, u11, u12, u13, u14, u15, u16, u17, u18, u19, u20, u21, u22, u23, u24, u25, u26, u27, u28, u29, u30, u31], defers := [] }) (fun _ _ => 0) rfl ?_ ?_
  · by_cases c : s.size = 16
    · have c1 : ((s.size : Int) == 16) = true := by simp; omega
      have c2 : ((s.size : Int) != 16) = false := by simp; omega
      go_wp2
      go_loop [4, 12] (fun v4 v12 => ∃ (k : Nat) (acc : Int), k ≤ 16 ∧ v12 = .int .i64 (k : Int) ∧ v4 = .int .u64 acc ∧ Aside0 (hexA (s.data.toList.drop k) acc = hexA s.data.toList 0 ∧ 0 ≤ acc ∧ acc < 16 ^ k)) (fun _ v12 => 16 - (intOf v12).toNat)
      case atStart => exact ⟨0, 0, by omega, rfl, rfl, ⟨rfl, by decide, by decide⟩⟩
      case round =>
        obtain ⟨k, acc, hk, rfl, rfl, HA⟩ := hrel
        by_cases hlt : k < 16
        · have d1 : decide ((k : Int) < (s.size : Int)) = true := decide_eq_true (by omega)
          have hks : k < s.size := by omega
          have HG := Aside0.mk (bytes_get s k hks)
          obtain ⟨d, hd⟩ : ∃ d, hexZ (s[k].toNat : Int) = d := ⟨_, rfl⟩
          have hd0 : -1 ≤ d := by rw [← hd]; exact (hexZ_lt _).1
          have hd1 : d ≤ 15 := by rw [← hd]; exact (hexZ_lt _).2
          have HD := Aside0.mk hd
          have hb : ((s[k].toNat : Int)) < 256 := by have := s[k].toNat_lt; omega
          have HBB := Aside0.mk hb
          clear hd hb
          by_cases hn : d < 0
          · go_wp2_with (go_at_call 31; (with_reducible refine (digit_calls _ (by omega) HBB.out _).mono ?_); rw [HD.out]; rintro e w' ⟨rfl, rfl⟩)
            go_step3
            refine ⟨rfl, ?_, Drawn0.refl _, _, _, _, _, _, _, _, _, _, _, _, _, _, _, _, _, _, _, _, _, _, _, _, _, _, _, _, _, _, _, _, _, rfl⟩
            have h0 : hexA s.data.toList 0 = none := by
              rw [← HA.out.1, HG.out]
              unfold hexA
              rw [HD.out, if_pos hn]
            rw [← HR.out]
            unfold bitsS
            rw [if_pos (by rw [HL.out]; exact c), h0]
          · go_wp2_with (go_at_call 31; (with_reducible refine (digit_calls _ (by omega) HBB.out _).mono ?_); rw [HD.out]; rintro e w' ⟨rfl, rfl⟩)
            have ha2 := HA.out.2
            have hp : (16 : Int) ^ k ≤ 1152921504606846976 := by
              have h1 := Nat.pow_le_pow_right (n := 16) (by decide) (show k ≤ 15 by omega)
              have h2 : (16 : Int) ^ k = ((16 ^ k : Nat) : Int) := by simp
              rw [h2]
              exact Int.ofNat_le.2 h1
            have hor := or_16 acc d ha2.1 (by omega) (by omega) hd1
            refine ⟨⟨k + 1, acc * 16 + d, by omega, by go_num, by rw [hor], ⟨?_, by omega, ?_⟩⟩, by simp [intOf]; omega⟩
            · rw [← HA.out.1, HG.out]
              conv => rhs; unfold hexA
              rw [HD.out, if_neg (by omega)]
            · rw [Int.pow_succ]
              omega
        · have d1 : decide ((k : Int) < (s.size : Int)) = false := decide_eq_false (by omega)
          have d2 : decide ((k : Int) < 16) = false := decide_eq_false (by omega)
          have hk16 : k = 16 := by omega
          have h1 : hexA s.data.toList 0 = some acc := by
            rw [← HA.out.1, hk16, List.drop_of_length_le (by rw [HL.out]; omega)]
            rfl
          have ha2 := HA.out.2
          have hlt2 : acc < 18446744073709551616 := by rw [hk16] at ha2; exact ha2.2
          have hr2 : r = ofS acc.toNat := by
            rw [← HR.out]
            unfold bitsS
            rw [if_pos (by rw [HL.out]; exact c), h1]
          have HN : Aside0 (acc.toNat < 18446744073709551616) := ⟨by omega⟩
          subst hr2
          clear h1 ha2 hlt2 hk16 hlt hk HA
          go_wp2_with (go_at_call 14; (with_reducible refine (of_calls _ HN.out _).mono ?_); rintro e w' ⟨rfl, hD⟩)
          simp only [Exit.jump]
          go_ret2
          exact ⟨rfl, hD⟩
    · have c1 : ((s.size : Int) == 16) = false := by simp; omega
      have c2 : ((s.size : Int) != 16) = true := by simp; omega
      go_wp2
      go_step3
      refine ⟨rfl, ?_, Drawn0.refl _, _, _, _, _, _, _, _, _, _, _, _, _, _, _, _, _, _, _, _, _, _, _, _, _, _, _, _, _, _, _, _, _, rfl⟩
      rw [← HR.out]
      unfold bitsS
      rw [if_neg (by rw [HL.out]; exact c)]
  · rintro a' w' ⟨hr, hd, u0, u1, u2, u3, u4, u5, u6, u7, u8, u9, u10, u11, u12, u13, u14, u15, u16, u17, u18, u19, u20, u21, u22, u23, u24, u25, u26, u27, u28, u29, u30, u31, rfl⟩
    subst hr
    go_wp2
    try simp only [Exit.jump]
    go_ret2
    exact ⟨rfl, hd⟩
end Go.Proofs.YtlifbogjjikhdaaDoor.Fl
end
section
namespace Go.Proofs.YtlifbogjjikhdaaDoor.Fl
open Go.RowKit Go.Proofs.YtlifbogjjikhdaaDoorW.PrintWords Go.Proofs.YtlifbogjjikhdaaDoorW.PrintLast Go.Proofs.YtlifbogjjikhdaaDoorW.PrintMore
set_option linter.unusedVariables false
open Go.Proofs.YtlifbogjjikhdaaDoor.FL
def bv (x : Nat) : Value := .int .u8 (x : Int)
def RowAt (w : World) (g : Nat) (l : List Nat) (pad : List Value) (z : Nat) : Prop := l.length ≤ z ∧ w.heap[g]? = some (.cells ((l.map bv) ++ pad).toArray 5 (z, z + 1))
theorem RowAt.cell {w : World} {g : Nat} {l : List Nat} {pad : List Value} {z : Nat} (h : RowAt w g l pad z) (i : Nat) (hi : i < l.length) : w.cell? ⟨g, i, none⟩ = some (.int .u8 ((l.getD i 0 : Nat) : Int)) ∧ w.frozen? ⟨g, i, none⟩ = false := by
  obtain ⟨h1, h2⟩ := h
  refine ⟨?_, ?_⟩
  · simp only [World.cell?, h2]
    rw [List.getElem?_toArray, List.getElem?_append_left (by rw [List.length_map]; exact hi), List.getElem?_map, List.getElem?_eq_getElem hi, List.getD_eq_getElem?_getD, List.getElem?_eq_getElem hi]
    rfl
  · simp [World.frozen?, h2]
    omega
theorem RowAt.set {w : World} {g : Nat} {l : List Nat} {pad : List Value} {z : Nat} (h : RowAt w g l pad z) (i : Nat) (hi : i < l.length) (v : Nat) : RowAt (w.setCell ⟨g, i, none⟩ (.int .u8 (v : Int))) g (l.set i v) pad z := by
  obtain ⟨h1, h2⟩ := h
  refine ⟨by rw [List.length_set]; exact h1, ?_⟩
  have e : ((l.set i v).map bv ++ pad) = ((l.map bv) ++ pad).set i (bv v) := by
    rw [List.map_set, List.set_append_left _ _ (by rw [List.length_map]; exact hi)]
  rw [e]
  simp [World.setCell, Array.getElem?_modify, h2, bv]
theorem bytes_row (w : World) (s : ByteArray) : ∃ pad z, RowAt (Lib.bytesWorld w 5 s) w.heap.size (s.data.toList.map fun c => c.toNat) pad z ∧ Below w.heap.size w (Lib.bytesWorld w 5 s) := by
  refine ⟨List.replicate (grownCap w s.size 0 5 - s.size) (.int .u8 0), (Lib.bytesCells w 5 s).size, ⟨?_, ?_⟩, ?_⟩
  · simp [Lib.bytesCells]
  · rw [Lib.bytesWorld_at_new]
    congr 2
    unfold Lib.bytesCells bv
    apply Array.ext'
    simp
  · refine ⟨rfl, rfl, rfl, by rw [Lib.bytesWorld_size]; omega, fun k hk => Lib.bytesWorld_at_old w 5 s k hk⟩
theorem or_2 (a : Nat) (d : Nat) (a1 : a < 4294967296) (d1 : d ≤ 1) : bits .or .u64 (IntKind.u64.wrap ((a : Int) * 2)) (d : Int) = ((2 * a + d : Nat) : Int) := by
  rw [IntKind.wrap_u64, Int.emod_eq_of_lt (by omega) (by omega), show ((a : Int) * 2) = ((2 ^ 1 * a : Nat) : Int) by omega, bits_or_u64_nat _ _ (by omega) (by omega), ← Nat.two_pow_add_eq_or_of_lt (i := 1) (by omega)]
theorem take_drop_set (m : List Nat) (k : Nat) (hk : k < m.length) : (m.take k ++ (m.drop k).map (· + 48)).set k (m.getD k 0) = m.take (k + 1) ++ (m.drop (k + 1)).map (· + 48) := by
  rw [List.drop_eq_getElem_cons hk, List.map_cons, List.set_append_right _ _ (by rw [List.length_take]; omega), List.length_take, Nat.min_eq_left (by omega), Nat.sub_self, List.set_cons_zero, List.take_succ_eq_append_getElem hk, List.append_assoc, List.getD_eq_getElem?_getD, List.getElem?_eq_getElem hk]
  rfl
theorem take_drop_get (m : List Nat) (k : Nat) (hk : k < m.length) : (m.take k ++ (m.drop k).map (· + 48)).getD k 0 = m.getD k 0 + 48 := by
  rw [List.getD_eq_getElem?_getD, List.getElem?_append_right (by rw [List.length_take]; omega), List.length_take, Nat.min_eq_left (by omega), Nat.sub_self, List.drop_eq_getElem_cons hk, List.map_cons, List.getD_eq_getElem?_getD, List.getElem?_eq_getElem hk]
  rfl
theorem dbl_step (l : List Nat) (q : Nat) (hq : q < l.length) : dbl (l.drop q) = ((2 * l.getD q 0 + (dbl (l.drop (q + 1))).1) / 10, (2 * l.getD q 0 + (dbl (l.drop (q + 1))).1) % 10 :: (dbl (l.drop (q + 1))).2) := by
  rw [List.drop_eq_getElem_cons hq, List.getD_eq_getElem?_getD, List.getElem?_eq_getElem hq]
  rfl
theorem dbl_set (l : List Nat) (q : Nat) (hq : q < l.length) : (l.take (q + 1) ++ (dbl (l.drop (q + 1))).2).set q ((2 * l.getD q 0 + (dbl (l.drop (q + 1))).1) % 10) = l.take q ++ (dbl (l.drop q)).2 := by
  rw [dbl_step l q hq, List.take_succ_eq_append_getElem hq, List.append_assoc, List.set_append_right _ _ (by rw [List.length_take]; omega), List.length_take, Nat.min_eq_left (by omega), Nat.sub_self]
  rfl
theorem dbl_get (l : List Nat) (q : Nat) (hq : q < l.length) : (l.take (q + 1) ++ (dbl (l.drop (q + 1))).2).getD q 0 = l.getD q 0 := by
  rw [List.getD_eq_getElem?_getD, List.getElem?_append_left (by rw [List.length_take]; omega), List.getElem?_take_of_lt (by omega), List.getD_eq_getElem?_getD]
set_option maxHeartbeats 8000000 in
set_option maxRecDepth 100000 in
theorem frac_calls (s : ByteArray) (w : World) (hs : s.size ≤ 1000) (m : List Nat) (hm : (s.data.toList.map fun c => c.toNat) = m.map (· + 48)) (hd : dgt m) : Calls Tryd.prog 35 #[.string s] w fun e w' => e = .returned (.tuple #[.int .u64 ((fracN m : Nat) : Int), .bool (leftN m)]) ∧ Below w.heap.size w w' := by
  have hlen : m.length = s.size := by
    have := congrArg List.length hm
    simp at this
    omega
  obtain ⟨pad, z, hrow, hB0⟩ := bytes_row w s
  rw [hm] at hrow
  obtain ⟨fv1, fv2, fv3⟩ := frac_val hd 32
  obtain ⟨cap, hcap⟩ : ∃ cap, grownCap w s.size 0 5 = cap := ⟨_, rfl⟩
  obtain ⟨W1, hW1⟩ : ∃ W1, Lib.bytesWorld w 5 s = W1 := ⟨_, rfl⟩
  have hconv : (convert 9 59 (.string s)).run Tryd.prog w = .ok (.slice (some ⟨w.heap.size, 0, none⟩) s.size cap) W1 := by
    rw [← hcap, ← hW1]
    exact Lib.run_convert_string_bytes w 9 59 5 s Tryd.underlying9 Tryd.underlying59 Tryd.underlying5
  rw [hW1] at hrow hB0
  have HROW := Aside0.mk hrow
  have HB0 := Aside0.mk hB0
  have HLEN := Aside0.mk hlen
  have HF := Aside0.mk (And.intro fv1 (And.intro fv2 fv3))
  have HDG := Aside0.mk hd
  clear hrow hB0 hm hcap hW1 fv1 fv2 fv3 hd hlen
  go_enter Tryd.func35, Tryd.ntmps35
  go_wp2
  clear hconv
  go_loopw [17] (fun v17 wr => ∃ k : Nat, v17 = .int .i64 (k : Int) ∧ k ≤ s.size ∧ Aside0 (Below w.heap.size w wr) ∧ Aside0 (RowAt wr w.heap.size (m.take k ++ (m.drop k).map (· + 48)) pad z)) (fun v17 _ => s.size - (intOf v17).toNat)
  case atStart => exact ⟨0, rfl, Nat.zero_le _, HB0, HROW⟩
  case round =>
    clear HB0 HROW
    obtain ⟨k, rfl, hk, HB, HR⟩ := hrel
    by_cases c : k < s.size
    · have c1 : decide ((k : Int) < (s.size : Int)) = true := decide_eq_true (by omega)
      have hkm : k < m.length := by have := HLEN.out; omega
      obtain ⟨r0, r1⟩ := HR.out.cell k (by rw [List.length_append, List.length_take, List.length_map, List.length_drop]; omega)
      rw [take_drop_get m k hkm] at r0
      have HST := Aside0.mk (HR.out.set k (by rw [List.length_append, List.length_take, List.length_map, List.length_drop]; omega) (m.getD k 0))
      rw [take_drop_set m k hkm] at HST
      have hy : m.getD k 0 < 10 := by
        rw [List.getD_eq_getElem?_getD, List.getElem?_eq_getElem hkm]
        exact HDG.out _ (List.getElem_mem hkm)
      obtain ⟨y, hyy⟩ : ∃ y, m.getD k 0 = y := ⟨_, rfl⟩
      rw [hyy] at r0 HST hy
      have e1 : ((y + 48 : Nat) : Int) = (y : Int) + 48 := by omega
      have e2 : ((y : Int) + 48 - 48) % 256 = (y : Int) := by omega
      rw [e1] at r0
      have hsz := HB.out.size
      have hs1 : k < 1001 := by omega
      clear hyy e1
      go_wp2
      exact ⟨⟨k + 1, by go_num, by omega, ⟨HB.out.setCell (p := ⟨w.heap.size, k, none⟩) (Nat.le_refl _) _⟩, HST⟩, by simp [intOf]; omega⟩
    · have c1 : decide ((k : Int) < (s.size : Int)) = false := decide_eq_false (by omega)
      have hk2 : k = m.length := by have := HLEN.out; omega
      subst hk2
      rw [List.take_length, List.drop_length, List.map_nil, List.append_nil] at HR
      go_wp2
      clear hk c c1
      go_loopw [6, 27] (fun v6 v27 wr => ∃ (j n : Nat) (l : List Nat), v27 = .int .i64 (j : Int) ∧ v6 = .int .u64 (n : Int) ∧ j ≤ 32 ∧ Aside0 (Below w.heap.size w wr) ∧ Aside0 (RowAt wr w.heap.size l pad z) ∧ Aside0 (bitsOf (32 - j) (n, l) = bitsOf 32 (0, m) ∧ dgt l ∧ l.length = m.length ∧ n < 2 ^ j)) (fun _ v27 _ => 32 - (intOf v27).toNat)
      case atStart => exact ⟨0, 0, m, rfl, rfl, by omega, HB, HR, ⟨⟨rfl, HDG.out, rfl, by decide⟩⟩⟩
      case round =>
        clear HB HR
        obtain ⟨j, n, l, rfl, rfl, hj, HB, HR, HS⟩ := hrel
        by_cases cj : j < 32
        · have c1 : decide ((j : Int) < 32) = true := decide_eq_true (by omega)
          have hll : l.length = s.size := HS.out.2.2.1.trans HLEN.out
          have HLL := Aside0.mk hll
          clear hll
          go_wp2
          go_loopw [7, 8] (fun v7 v8 wr => ∃ (q : Nat) (i : Int), i = (q : Int) - 1 ∧ v8 = .int .i64 i ∧ q ≤ s.size ∧ v7 = .int .u8 (((dbl (l.drop q)).1 : Nat) : Int) ∧ Aside0 (Below w.heap.size w wr) ∧ Aside0 (RowAt wr w.heap.size (l.take q ++ (dbl (l.drop q)).2) pad z)) (fun _ v8 _ => (intOf v8 + 1).toNat)
          case atStart =>
            refine ⟨s.size, _, rfl, rfl, Nat.le_refl _, ?_, HB, ?_⟩
            · rw [List.drop_of_length_le (by rw [HLL.out]; exact Nat.le_refl _)]; rfl
            · rw [List.drop_of_length_le (by rw [HLL.out]; exact Nat.le_refl _), List.take_of_length_le (by rw [HLL.out]; exact Nat.le_refl _)]
              show Aside0 (RowAt wr w.heap.size (l ++ []) pad z)
              rw [List.append_nil]; exact HR
          case round =>
            clear HB HR
            obtain ⟨q, i, hi, rfl, hq, rfl, HB, HR⟩ := hrel
            by_cases cq : 0 < q
            · obtain ⟨p, rfl⟩ : ∃ p, q = p + 1 := ⟨q - 1, by omega⟩
              obtain rfl : i = (p : Int) := by omega
              have hpl : p < l.length := by rw [HLL.out]; omega
              obtain ⟨r0, r1⟩ := HR.out.cell p (by rw [List.length_append, List.length_take, dbl_len, List.length_drop]; omega)
              rw [dbl_get l p hpl] at r0
              have HST := Aside0.mk (HR.out.set p (by rw [List.length_append, List.length_take, dbl_len, List.length_drop]; omega) ((2 * l.getD p 0 + (dbl (l.drop (p + 1))).1) % 10))
              rw [dbl_set l p hpl] at HST
              have HDS := Aside0.mk (congrArg Prod.fst (dbl_step l p hpl))
              have hx : l.getD p 0 < 10 := by
                rw [List.getD_eq_getElem?_getD, List.getElem?_eq_getElem hpl]
                exact HS.out.2.1 _ (List.getElem_mem hpl)
              have hc : (dbl (l.drop (p + 1))).1 ≤ 1 := dbl_carry (fun x hx => HS.out.2.1 x (List.mem_of_mem_drop hx))
              obtain ⟨x, hxx⟩ : ∃ x, l.getD p 0 = x := ⟨_, rfl⟩
              obtain ⟨y, hyy⟩ : ∃ y, (dbl (l.drop (p + 1))).1 = y := ⟨_, rfl⟩
              rw [hxx] at r0 HST HDS hx
              have HDS2 : Aside0 ((dbl (l.drop p)).1 = (2 * x + y) / 10) := ⟨by rw [HDS.out, ← hyy]⟩
              rw [hyy] at HST hc ⊢
              have hsz := HB.out.size
              have hs1 : p < 1001 := by omega
              clear hi hxx hyy
              go_wp2
              refine ⟨⟨p, _, rfl, rfl, by omega, ?_, ⟨HB.out.setCell (p := ⟨w.heap.size, p, none⟩) (Nat.le_refl _) _⟩, HST⟩, by simp [intOf] <;> omega⟩
              rw [HDS2.out]
              congr 1
            · obtain rfl : q = 0 := by omega
              have c5 : decide (0 ≤ i) = false := decide_eq_false (by omega)
              have hc : (dbl l).1 ≤ 1 := dbl_carry HS.out.2.1
              rw [List.drop_zero, List.take_zero, List.nil_append] at HR
              rw [List.drop_zero]
              have HO := Aside0.mk (or_2 n (dbl l).1 (Nat.lt_of_lt_of_le HS.out.2.2.2 (Nat.le_trans (Nat.pow_le_pow_right (by decide) (show j ≤ 32 by omega)) (by decide))) hc)
              have HBO : Aside0 (bitsOf (32 - (j + 1)) (2 * n + (dbl l).1, (dbl l).2) = bitsOf 32 (0, m)) := ⟨by
                rw [← HS.out.1, show 32 - j = (32 - (j + 1)) + 1 by omega]
                rfl⟩
              have hn2 : 2 * n + (dbl l).1 < 2 ^ (j + 1) := by
                have := HS.out.2.2.2
                rw [Nat.pow_succ]
                omega
              have HN2 := Aside0.mk hn2
              clear hi hn2
              obtain ⟨y, hy⟩ : ∃ y, (dbl l).1 = y := ⟨_, rfl⟩
              rw [hy] at hc HO HBO HN2 ⊢
              clear hy
              go_wp2
              exact ⟨⟨j + 1, 2 * n + y, (dbl l).2, by go_num, by rw [HO.out], by omega, HB, HR, ⟨⟨HBO.out, dbl_dgt l, by rw [dbl_len]; exact HS.out.2.2.1, HN2.out⟩⟩⟩, by simp [intOf]; omega⟩
        · have c1 : decide ((j : Int) < 32) = false := decide_eq_false (by omega)
          have hj32 : j = 32 := by omega
          subst hj32
          have hll : l.length = s.size := HS.out.2.2.1.trans HLEN.out
          have HLL := Aside0.mk hll
          have hb : (n, l) = bitsOf 32 (0, m) := by have := HS.out.1; exact this
          have hn : n = fracN m := by
            have := congrArg Prod.fst hb
            rw [HF.out.1] at this
            exact this
          have hv : vd l = 2 ^ 32 * vd m % 10 ^ m.length := by
            have := congrArg (fun x => vd x.2) hb
            exact this.trans HF.out.2.1
          have HLF : Aside0 (l.any (· != 0) = leftN m) := ⟨by
            unfold leftN
            rw [show (4294967296 : Nat) = 2 ^ 32 from rfl, ← hv, Bool.eq_iff_iff, List.any_eq_true]
            simp only [bne_iff_ne, ne_eq]
            rw [vd_zero]
            simp⟩
          subst hn
          clear hll hb hv hj
          go_wp2
          go_loopw [10, 58] (fun v10 v58 wr' => ∃ k : Nat, v58 = .int .i64 (k : Int) ∧ k ≤ s.size ∧ v10 = .bool ((l.take k).any (· != 0)) ∧ wr' = wr) (fun _ v58 _ => s.size - (intOf v58).toNat)
          case atStart => exact ⟨0, rfl, Nat.zero_le _, rfl, rfl⟩
          case round =>
            obtain ⟨k, rfl, hk, rfl, rfl⟩ := hrel
            by_cases ck : k < s.size
            · have c1 : decide ((k : Int) < (s.size : Int)) = true := decide_eq_true (by omega)
              have hkl : k < l.length := by rw [HLL.out]; exact ck
              obtain ⟨r0, r1⟩ := HR.out.cell k hkl
              have hta : (l.take (k + 1)).any (· != 0) = ((l.take k).any (· != 0) || (l.getD k 0 != 0)) := by
                rw [List.take_succ_eq_append_getElem hkl, List.any_append, List.getD_eq_getElem?_getD, List.getElem?_eq_getElem hkl]
                simp
              have HTA := Aside0.mk hta
              clear hta
              obtain ⟨x, hx⟩ : ∃ x, l.getD k 0 = x := ⟨_, rfl⟩
              rw [hx] at r0 HTA
              obtain ⟨b, hb⟩ : ∃ b, (l.take k).any (· != 0) = b := ⟨_, rfl⟩
              rw [hb] at HTA ⊢
              clear hx hb
              have hs1 : k < 1001 := by omega
              cases b
              · go_wp2
                refine ⟨⟨k + 1, by go_num, by omega, ?_, trivial⟩, by simp [intOf]; omega⟩
                rw [HTA.out, Bool.false_or]
                congr 1
                rw [Bool.eq_iff_iff]
                simp only [bne_iff_ne, ne_eq]
                omega
              · go_wp2
                refine ⟨⟨k + 1, by go_num, by omega, ?_, trivial⟩, by simp [intOf]; omega⟩
                rw [HTA.out, Bool.true_or]
            · have c1 : decide ((k : Int) < (s.size : Int)) = false := decide_eq_false (by omega)
              have hk2 : k = l.length := by rw [HLL.out]; omega
              rw [hk2, List.take_length, HLF.out]
              go_wp2
              go_ret2
              exact ⟨rfl, HB.out⟩
end Go.Proofs.YtlifbogjjikhdaaDoor.Fl
end
section
namespace Go.Proofs.YtlifbogjjikhdaaDoor.Fl
open Go.RowKit Go.Proofs.YtlifbogjjikhdaaDoorW.PrintWords Go.Proofs.YtlifbogjjikhdaaDoorW.PrintLast Go.Proofs.YtlifbogjjikhdaaDoorW.PrintMore
set_option linter.unusedVariables false
open Go.Proofs.YtlifbogjjikhdaaDoor.FL
theorem wrap64_id {n : Int} (h0 : -9223372036854775808 ≤ n) (h1 : n ≤ 9223372036854775807) : wrap64 n = n := by unfold wrap64; omega
abbrev By (s : ByteArray) : List UInt8 := s.data.toList
def isD (c : UInt8) : Bool := decide (48 ≤ (c.toNat : Int)) && decide ((c.toNat : Int) ≤ 57)
def dlen (l : List UInt8) : Nat := (l.takeWhile isD).length
theorem dlen_le (l : List UInt8) : dlen l ≤ l.length := (List.takeWhile_sublist _).length_le
theorem dlen_nil : dlen [] = 0 := rfl
theorem dlen_pos {c : UInt8} {l : List UInt8} (h : isD c = true) : dlen (c :: l) = dlen l + 1 := by
  unfold dlen
  rw [List.takeWhile_cons_of_pos h, List.length_cons]
theorem dlen_neg {c : UInt8} {l : List UInt8} (h : ¬ isD c = true) : dlen (c :: l) = 0 := by
  unfold dlen
  rw [List.takeWhile_cons_of_neg h]
  rfl
theorem dlen_take (l : List UInt8) : l.take (dlen l) = l.takeWhile isD := by
  exact (List.prefix_iff_eq_take.mp (List.takeWhile_prefix isD)).symm
theorem mem_while (l : List UInt8) : ∀ c ∈ l.takeWhile isD, isD c = true := by
  induction l with
  | nil => intro c hc; cases hc
  | cons x l ih =>
    intro c hc
    by_cases h : isD x = true
    · rw [List.takeWhile_cons_of_pos h] at hc
      rcases List.mem_cons.mp hc with rfl | hc
      · exact h
      · exact ih c hc
    · rw [List.takeWhile_cons_of_neg h] at hc
      cases hc
def vals (l : List UInt8) : List Nat := l.map fun c => c.toNat - 48
theorem vals_dgt {l : List UInt8} (h : ∀ c ∈ l, isD c = true) : dgt (vals l) := by
  intro x hx
  obtain ⟨c, hc, rfl⟩ := List.mem_map.mp hx
  have := h c hc
  unfold isD at this
  rw [Bool.and_eq_true, decide_eq_true_eq, decide_eq_true_eq] at this
  omega
theorem vals_back {l : List UInt8} (h : ∀ c ∈ l, isD c = true) : (l.map fun c => c.toNat) = (vals l).map (· + 48) := by
  unfold vals
  rw [List.map_map]
  refine List.map_congr_left (fun c hc => ?_)
  have := h c hc
  unfold isD at this
  rw [Bool.and_eq_true, decide_eq_true_eq, decide_eq_true_eq] at this
  show c.toNat = c.toNat - 48 + 48
  omega
theorem take_dig (l : List UInt8) : ∀ c ∈ l.take (dlen l), isD c = true := by
  rw [dlen_take]
  intro c hc
  exact mem_while l c hc
theorem size_by (s : ByteArray) : (By s).length = s.size := by simp
theorem bt_get (s : ByteArray) (i : Nat) (h : i < s.size) : bt s (i : Int) = (s[i].toNat : Int) := by
  unfold bt
  rw [dif_pos (by simpa using h)]
  rfl
theorem digits_l0 (s : ByteArray) (hs : s.size ≤ 140737488351232) : ∀ d i : Nat, i + d = s.size → Ev (fun k => floats_digits.l0 k s (i : Int)) (s.extract 0 (i + dlen ((By s).drop i)), s.extract (i + dlen ((By s).drop i)) s.size, decide (0 < i + dlen ((By s).drop i)) && decide (i + dlen ((By s).drop i) ≤ 30)) := by
  have fin : ∀ i : Nat, i ≤ s.size → (if (i : Int) ≤ (s.size : Int) then (if (i : Int) > 0 then (some (s.extract 0 ((i : Int)).toNat, s.extract ((i : Int)).toNat s.size, decide ((i : Int) ≤ 30))) else (some (s.extract 0 ((i : Int)).toNat, s.extract ((i : Int)).toNat s.size, false))) else none) = some (s.extract 0 i, s.extract i s.size, decide (0 < i) && decide (i ≤ 30)) := by
    intro i hi
    rw [if_pos (by omega), Int.toNat_natCast]
    by_cases z : 0 < i
    · rw [if_pos (by omega), decide_eq_true z, Bool.true_and]
      have e : decide ((i : Int) ≤ 30) = decide (i ≤ 30) := by
        rw [Bool.eq_iff_iff, decide_eq_true_eq, decide_eq_true_eq]
        omega
      rw [e]
    · rw [if_neg (by omega), decide_eq_false z, Bool.false_and]
  intro d
  induction d with
  | zero =>
    intro i hi
    rw [List.drop_of_length_le (by rw [size_by]; omega), dlen_nil, Nat.add_zero]
    refine Ev.step (f := fun _ => some (s.extract 0 i, s.extract i s.size, decide (0 < i) && decide (i ≤ 30))) (fun k => ?_) (Ev.now _)
    simp only [floats_digits.l0]
    rw [if_neg (by omega), if_pos (by omega)]
    exact fin i (by omega)
  | succ d ih =>
    intro i hi
    have hlt : i < s.size := by omega
    have hg := bytes_get s i hlt
    by_cases c : isD s[i] = true
    · have ih := ih (i + 1) (by omega)
      rw [hg, dlen_pos c]
      rw [show i + (dlen ((By s).drop (i + 1)) + 1) = i + 1 + dlen ((By s).drop (i + 1)) by omega]
      refine Ev.step (fun k => ?_) ih
      unfold isD at c
      rw [Bool.and_eq_true, decide_eq_true_eq, decide_eq_true_eq] at c
      simp only [floats_digits.l0]
      rw [if_pos (by omega), if_pos (by omega), bt_get s i hlt, if_pos (by omega), if_pos (by omega), wrap64_id (by omega) (by omega)]
      rfl
    · rw [hg, dlen_neg c, Nat.add_zero]
      refine Ev.step (f := fun _ => some (s.extract 0 i, s.extract i s.size, decide (0 < i) && decide (i ≤ 30))) (fun k => ?_) (Ev.now _)
      unfold isD at c
      rw [Bool.and_eq_true, decide_eq_true_eq, decide_eq_true_eq] at c
      simp only [floats_digits.l0]
      rw [if_pos (by omega), if_pos (by omega), bt_get s i hlt]
      by_cases z : (s[i].toNat : Int) ≥ 48
      · rw [if_pos z, if_neg (by omega)]
        exact fin i (by omega)
      · rw [if_neg z]
        exact fin i (by omega)
theorem digits_calls (s : ByteArray) (hs : s.size ≤ 140737488351232) (w : World) : Calls Tryd.prog 34 #[.string s] w fun e w' => e = .returned (.tuple #[.string (s.extract 0 (dlen (By s))), .string (s.extract (dlen (By s)) s.size), .bool (decide (0 < dlen (By s)) && decide (dlen (By s) ≤ 30))]) ∧ Drawn0 w w' := by
  obtain ⟨K, hK⟩ := digits_l0 s hs s.size 0 (by omega)
  have := hK K (Nat.le_refl _)
  rw [List.drop_zero, Nat.zero_add] at this
  exact floats_digits.calls K s _ _ _ w this
def wholeN (l : List UInt8) : Nat := min (vd (vals l)) 4294967296
theorem whole_l0 (s : ByteArray) (hs : s.size ≤ 140737488351232) (hd : ∀ c ∈ By s, isD c = true) : ∀ d i : Nat, i + d = s.size → Ev (fun k => floats_whole.l0 k s ((wholeN ((By s).take i) : Nat) : Int) (s.size : Int) (i : Int)) ((wholeN (By s) : Nat) : Int) := by
  intro d
  induction d with
  | zero =>
    intro i hi
    rw [List.take_of_length_le (by rw [size_by]; omega)]
    refine Ev.step (f := fun _ => some ((wholeN (By s) : Nat) : Int)) (fun k => ?_) (Ev.now _)
    simp only [floats_whole.l0]
    rw [if_neg (by omega)]
  | succ d ih =>
    intro i hi
    have hlt : i < s.size := by omega
    have hlt2 : i < (By s).length := by rw [size_by]; exact hlt
    refine Ev.step (fun k => ?_) (ih (i + 1) (by omega))
    have c := hd _ (List.getElem_mem hlt2)
    have e0 : (By s)[i] = s[i] := rfl
    rw [e0] at c
    unfold isD at c
    rw [Bool.and_eq_true, decide_eq_true_eq, decide_eq_true_eq] at c
    have ew : wholeN ((By s).take (i + 1)) = min (10 * wholeN ((By s).take i) + (s[i].toNat - 48)) 4294967296 := by
      unfold wholeN vals
      rw [List.take_succ_eq_append_getElem hlt2, List.map_append, List.map_singleton, vd_snoc, e0]
      omega
    have hw : wholeN ((By s).take i) ≤ 4294967296 := Nat.min_le_right _ _
    simp only [floats_whole.l0]
    rw [if_pos (by omega), if_pos (by omega), if_pos (by omega), bt_get s i hlt, wrap64_id (n := (i : Int) + 1) (by omega) (by omega), ew]
    obtain ⟨n, hn⟩ : ∃ n, wholeN ((By s).take i) = n := ⟨_, rfl⟩
    rw [hn] at hw ⊢
    have em : mn (IntKind.u64.wrap (IntKind.u64.wrap (10 * (n : Int)) + ((s[i].toNat : Int) - 48) % 256)) 4294967296 = ((min (10 * n + (s[i].toNat - 48)) 4294967296 : Nat) : Int) := by
      rw [IntKind.wrap_u64, IntKind.wrap_u64]
      unfold mn
      omega
    rw [em]
    rfl
theorem whole_calls (s : ByteArray) (hs : s.size ≤ 140737488351232) (hd : ∀ c ∈ By s, isD c = true) (w : World) : Calls Tryd.prog 36 #[.string s] w fun e w' => e = .returned (.int .u64 ((wholeN (By s) : Nat) : Int)) ∧ Drawn0 w w' := by
  obtain ⟨K, hK⟩ := whole_l0 s hs hd s.size 0 (by omega)
  exact floats_whole.calls K s _ w (hK K (Nat.le_refl _))
def parseT (neg : Bool) (l : List UInt8) : Int × Int :=
  if l = [105, 110, 102] then (if neg then -9223372036854775808 else 9223372036854775807, 0)
  else if dlen l = 0 ∨ 30 < dlen l then (0, 4)
  else match l.drop (dlen l) with
    | [] => (numS neg (vals (l.take (dlen l))) [], 0)
    | c :: m => if c = 46 then (if dlen m = 0 ∨ 30 < dlen m ∨ m.length ≠ dlen m then (0, 4) else (numS neg (vals (l.take (dlen l))) (vals m), 0)) else (0, 4)
def parseS (l : List UInt8) : Int × Int := if l = [110, 97, 110] then (0, 3) else match l with
  | 45 :: t => parseT true t
  | 43 :: t => parseT false t
  | l => parseT false l
end Go.Proofs.YtlifbogjjikhdaaDoor.Fl
end
section
namespace Go.Proofs.YtlifbogjjikhdaaDoor.Fl
open Go.RowKit Go.Proofs.YtlifbogjjikhdaaDoorW.PrintWords Go.Proofs.YtlifbogjjikhdaaDoorW.PrintLast Go.Proofs.YtlifbogjjikhdaaDoorW.PrintMore
set_option linter.unusedVariables false
open Go.Proofs.YtlifbogjjikhdaaDoor.FL
abbrev Tab (w : World) : Prop := Lib.TabIs Tryd.prog w "internal/strconv.uint64pow10" .u64 Lib.pow10Tab
theorem glob_some : (Tryd.prog.globalNamed "internal/strconv.uint64pow10").isSome = true := by kernel_rfl
theorem glob_pow : ∃ g, Tryd.prog.globalNamed "internal/strconv.uint64pow10" = some g := Option.isSome_iff_exists.mp glob_some
theorem Tab.below {w w' : World} (h : Tab w) (hb : Below w.heap.size w w') : Tab w' := by
  obtain ⟨g, hg⟩ := glob_pow
  exact Joins.var_stays hg h hb (Nat.le_refl _)
theorem info5 : (Tryd.prog.info? 5).map (fun i => (i.zero, i.size, i.bytes)) = some (some (.int .u8 0), 1, 1) := by kernel_rfl
theorem app43 (u : Nat) (hu : u < 18446744073709551616) (B n : Nat) (sv : Value) (xs : List Value) (w : World) (hown : w.ownsRow B 5 1 sv n xs) (hBw : B ≤ w.heap.size) (hlim : n + 20 ≤ 140737488355328) (htab : Tab w) :
    Calls Tryd.prog 43 #[sv, .int .u64 u, .int .i64 10] w fun e w' => ∃ v', e = .returned v' ∧ w'.ownsRow B 5 1 v' (n + (Lib.decDigits u).length) (xs ++ Lib.byteCells (Lib.decDigits u)) ∧ Below B w w' := by
  by_cases c : u < 100
  · exact (Tryd.internal_strconv_AppendUint_10_small B n u c sv xs w hown hBw hlim).mono fun e w' ⟨v', a, b, c, _⟩ => ⟨v', a, b, c⟩
  · exact (Tryd.internal_strconv_AppendUint_10_big B n u (by omega) hu sv xs w hown hBw hlim htab).mono fun e w' ⟨v', a, b, c, _⟩ => ⟨v', a, b, c⟩
set_option maxRecDepth 100000 in
theorem app_calls (u : Nat) (hu : u < 18446744073709551616) (B n : Nat) (sv : Value) (xs : List Value) (w : World) (hown : w.ownsRow B 5 1 sv n xs) (hBw : B ≤ w.heap.size) (hlim : n + 20 ≤ 140737488355328) (htab : Tab w) :
    Calls Tryd.prog 38 #[sv, .int .u64 u, .int .i64 10] w fun e w' => ∃ v', e = .returned v' ∧ w'.ownsRow B 5 1 v' (n + (Lib.decDigits u).length) (xs ++ Lib.byteCells (Lib.decDigits u)) ∧ Below B w w' := by
  have H := Aside0.mk (app43 u hu B n sv xs w hown hBw hlim htab)
  clear hu hown hBw hlim htab
  go_enter Tryd.func38, Tryd.ntmps38
  go_wp2_with (go_at_call 43; refine H.out.mono ?_; rintro e w' ⟨v', rfl, ho, hb⟩)
  go_ret
  exact ⟨v', rfl, ho, hb⟩
def asc (l : List Nat) : List UInt8 := l.map fun d => (48 + d).toUInt8
def showF (k f : Nat) : List UInt8 := if f = 0 then [] else 46 :: asc (fd k f)
def showM (m : Nat) : List UInt8 := Lib.decDigits (m / 4294967296) ++ showF 32 (m % 4294967296)
theorem and_low (x : Nat) (h : x < 18446744073709551616) : bits .and .u64 (x : Int) 4294967295 = ((x % 4294967296 : Nat) : Int) := by
  have := u64_and_nat x 4294967295 h (by decide)
  rw [show ((4294967295 : Nat) : Int) = 4294967295 from rfl] at this
  rw [this]
  have e : x &&& 4294967295 = x % 4294967296 := Nat.and_two_pow_sub_one_eq_mod x 32
  rw [e]
theorem row_bytes {w : World} {B n : Nat} {v : Value} {l : List UInt8} (h : w.ownsRow B 5 1 v n (Lib.byteCells l)) : (convert 59 9 v).run Tryd.prog w = .ok (.string ⟨l.toArray⟩) w := by
  have hl : l.length = n := by have := h.1; rw [Lib.byteCells_length] at this; omega
  rcases h.2 with ⟨rfl, rfl⟩ | ⟨g, cap, cur, rfl, _, hg, _, _, _, htk⟩
  · obtain rfl : l = [] := List.eq_nil_of_length_eq_zero hl
    exact Lib.run_convert_nil_bytes w 59 9 5 0 Tryd.underlying59 Tryd.underlying5 Tryd.underlying9
  · subst hl
    exact run_convert_bytes_back (P := Tryd.prog) w 59 9 5 ⟨g, 0, none⟩ cap l Tryd.underlying59 Tryd.underlying5 Tryd.underlying9 (Lib.bytes_of_row hg (by simpa using htk))
theorem decD_eq (u : Nat) : Lib.decDigits u = asc (dec u) := by
  induction u using Nat.strongRecOn with
  | _ u ih =>
    rw [Lib.decDigits, dec_eq]
    by_cases h : u < 10
    · rw [dif_pos h, if_pos h]; rfl
    · rw [dif_neg h, if_neg h, ih (u / 10) (by omega)]
      unfold asc
      rw [List.map_append]
      rfl
theorem dec_len20 {u : Nat} (h : u < 4294967296) : (Lib.decDigits u).length ≤ 10 := by
  rw [decD_eq]
  unfold asc
  rw [List.length_map]
  exact dec_len 9 u (Nat.lt_of_lt_of_le h (by decide))
theorem neg_mag (x : Int) (h0 : -9223372036854775808 ≤ x) (c : x < 0) : IntKind.u64.wrap (-IntKind.u64.wrap x) = ((x.natAbs : Nat) : Int) := by
  rw [IntKind.wrap_u64, IntKind.wrap_u64]
  omega
def showZ (b : Bool) (m : Nat) : List UInt8 := (if b then [45] else []) ++ showM m
set_option maxHeartbeats 8000000 in
set_option maxRecDepth 100000 in
theorem show_neg (x : Int) (h0 : -9223372036854775808 ≤ x) (h1 : x ≤ 9223372036854775807) (c : x < 0) (w : World) (ht : Tab w) (m : Nat) (hm : x.natAbs = m) : Calls Tryd.prog 21 #[.int .i64 x] w fun e w' => e = .returned (.string ⟨(showZ true m).toArray⟩) ∧ Below w.heap.size w w' := by
  obtain ⟨i0, hi, hz0, hz1, hz2⟩ := info_parts info5
  have HT := Aside0.mk ht
  clear ht
  have c1 : decide (x < 0) = true := decide_eq_true c
  have HM : Aside0 (IntKind.u64.wrap (-IntKind.u64.wrap x) = ((m : Nat) : Int)) := ⟨by rw [← hm]; exact neg_mag x h0 c⟩
  go_enter Tryd.func21, Tryd.ntmps21
  go_upto_region 6 with (at_builtin; refine wpList_append_own _ rfl _ _ 59 rfl w.heap.size 5 i0 (.int .u8 0) 1 1 Tryd.underlying59 hi hz0 hz1 hz2 rfl (by decide) _ 0 [] rfl (World.ownsRow_nil _ _ _ _) ⟨w.heap.size, 0, none⟩ 1 1 [Value.int .u8 45] rfl rfl ?c1 ?c2 ?c3 ?c4 ?c5 ?_)
  case c1 =>
    intro j u hj
    match j, hj with
    | 0, hj => simp at hj; subst hj; simp [Addr.add]
  case c2 => intro u hu; simp at hu; subst hu; rfl
  case c3 => decide
  case c4 => decide
  case c5 => simp
  intro v1 W1 hown0 hgrow _
  have hB0 : Below w.heap.size w W1 := ((Below.refl _ _).alloc (Nat.le_refl _) _).grown hgrow (by simp) (fun k hk => by cases hk)
  clear hgrow
  go_upto_region 6 with (fail)
  rw [HM.out]
  have hm1 : m ≤ 9223372036854775808 := by omega
  clear hm c c1

  have hq : m / 4294967296 < 4294967296 := by omega
  have HC := Aside0.mk (app_calls (m / 4294967296) (by omega) w.heap.size _ _ _ _ hown0 hB0.size (by decide) (HT.out.below hB0))
  clear hown0
  go_upto_region 7 with (go_at_call 38; refine HC.out.mono ?_; rintro e W2 ⟨v2, rfl, ho2, hb2⟩)
  have hB2 : Below w.heap.size w W2 := hB0.trans hb2
  have hdl := dec_len20 hq
  obtain ⟨pre1, hpre1⟩ : ∃ p, [45] ++ Lib.decDigits (m / 4294967296) = p := ⟨_, rfl⟩
  have hown2 : W2.ownsRow w.heap.size 5 1 v2 pre1.length (Lib.byteCells pre1) := by
    rw [← hpre1, Lib.byteCells_append, List.length_append]
    exact ho2
  have hp1 : pre1.length ≤ 11 := by rw [← hpre1, List.length_append]; simp; omega
  have HP1 := Aside0.mk hpre1
  clear ho2 hpre1 hb2 hdl hq
  go_upto_region 8 with (fail)
  have HF := Aside0.mk (and_low m (by omega))
  rw [HF.out]
  have hfl : m % 4294967296 < 4294967296 := Nat.mod_lt _ (by decide)
  obtain ⟨f, hfm⟩ : ∃ f, m % 4294967296 = f := ⟨_, rfl⟩
  rw [hfm] at hfl ⊢
  have HFM := Aside0.mk hfm
  clear hfm
  by_cases c2 : f = 0
  · have c3 : ((f : Int) != 0) = false := by simpa using c2
    obtain ⟨L, hLs⟩ : ∃ L, pre1 = L := ⟨_, rfl⟩
    have HLS : Aside0 (L = showZ true m) := ⟨by
      rw [← hLs, ← HP1.out]
      unfold showZ showM showF
      rw [HFM.out, if_pos c2, List.append_nil]
      rfl⟩
    have HLL : Aside0 (L = pre1 ++ asc (fd 32 f)) := ⟨by rw [← hLs, c2]; simp [asc, fd]⟩
    have C2 := Aside0.mk c2
    clear hLs c2
    go_upto_region 10 with (fail)
    go_loopw [4, 5] (fun vb vf wr => ∃ (k f' : Nat) (pre : List UInt8), vf = .int .u64 (f' : Int) ∧ f' < 4294967296 ∧ k ≤ 32 ∧ 4294967296 ∣ f' * 10 ^ k ∧ pre.length + k ≤ 60 ∧ L = pre ++ asc (fd k f') ∧ wr.ownsRow w.heap.size 5 1 vb pre.length (Lib.byteCells pre) ∧ Below w.heap.size w wr)
      (fun _ vf _ => (fd 32 (intOf vf).toNat).length)
    case atStart => exact ⟨32, f, pre1, rfl, hfl, Nat.le_refl _, fd_32 f, by omega, HLL.out, hown2, hB2⟩
    case round =>
      obtain ⟨k, f', pre, rfl, hf', hk, hdv, hpl, hL, hown3, hB3⟩ := hrel
      have HL := Aside0.mk hL
      have HDV := Aside0.mk hdv
      clear hL hdv
      by_cases c4 : f' = 0
      · subst c4
        have hcv := row_bytes hown3
        go_wp2
        go_ret
        refine ⟨?_, hB3⟩
        have e1 := HL.out
        rw [show fd k 0 = [] by cases k <;> rfl] at e1
        rw [show asc [] = [] from rfl, List.append_nil] at e1
        rw [← e1, HLS.out]
        rfl
      · obtain ⟨k, rfl⟩ : ∃ k', k = k' + 1 := by
          rcases k with _ | k
          · have e := HDV.out
            rw [Nat.pow_zero, Nat.mul_one] at e
            exact absurd (Nat.eq_zero_of_dvd_of_lt e hf') c4
          · exact ⟨k, rfl⟩
        have c5 : ((f' : Int) != 0) = true := by simpa using c4
        have efd : fd (k + 1) f' = 10 * f' / 4294967296 :: fd k (10 * f' % 4294967296) := by
          show (if f' = 0 then [] else _) = _
          rw [if_neg c4]
        have HE := Aside0.mk efd
        clear efd
        have b1 : (f' : Int) < 4294967296 := by omega
        have c4' := Aside0.mk c4
        clear c4
        go_upto_region 12 with (fail)
        obtain ⟨g, hg⟩ : ∃ g, 10 * f' = g := ⟨_, rfl⟩
        have eg : (f' : Int) * 10 = (g : Int) := by omega
        rw [eg]
        have hgl : g < 42949672960 := by omega
        have b2 : (g : Int) / 4294967296 < 10 := by omega
        have b3 : 0 ≤ (g : Int) / 4294967296 := by omega
        go_upto_region 13 with (at_builtin; refine wpList_append_own _ rfl _ _ 59 rfl w.heap.size 5 i0 (.int .u8 0) 1 1 Tryd.underlying59 hi hz0 hz1 hz2 rfl (by decide) _ _ _ rfl (hown3.alloc _) ⟨wr.heap.size, 0, none⟩ 1 1 [Value.int .u8 (48 + (g : Int) / 4294967296)] rfl rfl ?c1 ?c2 ?c3 ?c4 ?c5 ?_)
        case c1 =>
          intro j u hj
          match j, hj with
          | 0, hj => simp at hj; subst hj; simp [Addr.add]
        case c2 => intro u hu; simp at hu; subst hu; rfl
        case c3 => unfold maxLen; omega
        case c4 => omega
        case c5 => have := hB3.size; simp; omega
        intro v4 W4 hown' hgrow _
        have hB4 : Below w.heap.size w W4 := (hB3.alloc (by have := hB3.size; omega) _).grown hgrow (by have := hB3.size; simp; omega) (fun k hk => (hown3.lt k hk).1)
        have hown4 : W4.ownsRow w.heap.size 5 1 v4 (pre ++ [(48 + g / 4294967296).toUInt8]).length (Lib.byteCells (pre ++ [(48 + g / 4294967296).toUInt8])) := by
          rw [Lib.byteCells_snoc pre (by omega), List.length_append]
          have ec : ((48 + g / 4294967296 : Nat) : Int) = 48 + (g : Int) / 4294967296 := by omega
          rw [ec]
          exact hown'
        clear hown' hgrow hown3 hB3
        go_upto_region 14 with (fail)
        have HG := Aside0.mk (and_low g (by omega))
        try rw [HG.out]
        go_wp2
        go_roundw
        case rel =>
          refine ⟨k, g % 4294967296, _, ?_, Nat.mod_lt _ (by decide), by omega, ?_, ?_, ?_, hown4, hB4⟩
          · first | rw [HG.out] | rfl
          · rw [← hg]; exact dvd_step HDV.out
          · rw [List.length_append]; simp; omega
          · rw [HL.out, HE.out, hg]
            simp [asc]
        case measure =>
          have e32 : fd 32 f' = fd (k + 1) f' := by
            have e := fd_more (k + 1) f' (31 - k) hf' HDV.out
            rwa [show k + 1 + (31 - k) = 32 by omega] at e
          have e32' : fd 32 (g % 4294967296) = fd k (g % 4294967296) := by
            have e := fd_more k (g % 4294967296) (32 - k) (Nat.mod_lt _ (by decide)) (by rw [← hg]; exact dvd_step HDV.out)
            rwa [show k + (32 - k) = 32 by omega] at e
          show (fd 32 (g % 4294967296)).length < (fd 32 f').length
          rw [e32, e32', HE.out, hg]
          simp

  · have c3 : ((f : Int) != 0) = true := by simpa using c2
    go_upto_region 10 with (at_builtin; refine wpList_append_own _ rfl _ _ 59 rfl w.heap.size 5 i0 (.int .u8 0) 1 1 Tryd.underlying59 hi hz0 hz1 hz2 rfl (by decide) _ _ _ rfl (hown2.alloc _) ⟨W2.heap.size, 0, none⟩ 1 1 [Value.int .u8 46] rfl rfl ?c1 ?c2 ?c3 ?c4 ?c5 ?_)
    case c1 =>
      intro j u hj
      match j, hj with
      | 0, hj => simp at hj; subst hj; simp [Addr.add]
    case c2 => intro u hu; simp at hu; subst hu; rfl
    case c3 => unfold maxLen; omega
    case c4 => omega
    case c5 => have := hB2.size; simp; omega
    intro v3 W3 hown' hgrow _
    have hB3 : Below w.heap.size w W3 := (hB2.alloc (by have := hB2.size; omega) _).grown hgrow (by have := hB2.size; simp; omega) (fun k hk => (hown2.lt k hk).1)
    obtain ⟨pre2, hpre2⟩ : ∃ p, pre1 ++ [46] = p := ⟨_, rfl⟩
    have hownP : W3.ownsRow w.heap.size 5 1 v3 pre2.length (Lib.byteCells pre2) := by
      rw [← hpre2, Lib.byteCells_append, List.length_append]
      exact hown'
    have hp2 : pre2.length ≤ 12 := by rw [← hpre2, List.length_append]; simp; omega
    obtain ⟨L, hLs⟩ : ∃ L, pre2 ++ asc (fd 32 f) = L := ⟨_, rfl⟩
    have HLS : Aside0 (L = showZ true m) := ⟨by
      rw [← hLs, ← hpre2, ← HP1.out]
      unfold showZ showM showF
      rw [HFM.out, if_neg c2]
      simp⟩
    have HLL : Aside0 (L = pre2 ++ asc (fd 32 f)) := ⟨hLs.symm⟩
    clear hLs hpre2 hown' hgrow
    clear hown2 hB2 hp1
    go_upto_region 10 with (fail)
    go_loopw [4, 5] (fun vb vf wr => ∃ (k f' : Nat) (pre : List UInt8), vf = .int .u64 (f' : Int) ∧ f' < 4294967296 ∧ k ≤ 32 ∧ 4294967296 ∣ f' * 10 ^ k ∧ pre.length + k ≤ 60 ∧ L = pre ++ asc (fd k f') ∧ wr.ownsRow w.heap.size 5 1 vb pre.length (Lib.byteCells pre) ∧ Below w.heap.size w wr)
      (fun _ vf _ => (fd 32 (intOf vf).toNat).length)
    case atStart => exact ⟨32, f, pre2, rfl, hfl, Nat.le_refl _, fd_32 f, by omega, HLL.out, hownP, hB3⟩
    case round =>
      obtain ⟨k, f', pre, rfl, hf', hk, hdv, hpl, hL, hown3, hB3⟩ := hrel
      have HL := Aside0.mk hL
      have HDV := Aside0.mk hdv
      clear hL hdv
      by_cases c4 : f' = 0
      · subst c4
        have hcv := row_bytes hown3
        go_wp2
        go_ret
        refine ⟨?_, hB3⟩
        have e1 := HL.out
        rw [show fd k 0 = [] by cases k <;> rfl] at e1
        rw [show asc [] = [] from rfl, List.append_nil] at e1
        rw [← e1, HLS.out]
        rfl
      · obtain ⟨k, rfl⟩ : ∃ k', k = k' + 1 := by
          rcases k with _ | k
          · have e := HDV.out
            rw [Nat.pow_zero, Nat.mul_one] at e
            exact absurd (Nat.eq_zero_of_dvd_of_lt e hf') c4
          · exact ⟨k, rfl⟩
        have c5 : ((f' : Int) != 0) = true := by simpa using c4
        have efd : fd (k + 1) f' = 10 * f' / 4294967296 :: fd k (10 * f' % 4294967296) := by
          show (if f' = 0 then [] else _) = _
          rw [if_neg c4]
        have HE := Aside0.mk efd
        clear efd
        have b1 : (f' : Int) < 4294967296 := by omega
        have c4' := Aside0.mk c4
        clear c4
        go_upto_region 12 with (fail)
        obtain ⟨g, hg⟩ : ∃ g, 10 * f' = g := ⟨_, rfl⟩
        have eg : (f' : Int) * 10 = (g : Int) := by omega
        rw [eg]
        have hgl : g < 42949672960 := by omega
        have b2 : (g : Int) / 4294967296 < 10 := by omega
        have b3 : 0 ≤ (g : Int) / 4294967296 := by omega
        go_upto_region 13 with (at_builtin; refine wpList_append_own _ rfl _ _ 59 rfl w.heap.size 5 i0 (.int .u8 0) 1 1 Tryd.underlying59 hi hz0 hz1 hz2 rfl (by decide) _ _ _ rfl (hown3.alloc _) ⟨wr.heap.size, 0, none⟩ 1 1 [Value.int .u8 (48 + (g : Int) / 4294967296)] rfl rfl ?c1 ?c2 ?c3 ?c4 ?c5 ?_)
        case c1 =>
          intro j u hj
          match j, hj with
          | 0, hj => simp at hj; subst hj; simp [Addr.add]
        case c2 => intro u hu; simp at hu; subst hu; rfl
        case c3 => unfold maxLen; omega
        case c4 => omega
        case c5 => have := hB3.size; simp; omega
        intro v4 W4 hown' hgrow _
        have hB4 : Below w.heap.size w W4 := (hB3.alloc (by have := hB3.size; omega) _).grown hgrow (by have := hB3.size; simp; omega) (fun k hk => (hown3.lt k hk).1)
        have hown4 : W4.ownsRow w.heap.size 5 1 v4 (pre ++ [(48 + g / 4294967296).toUInt8]).length (Lib.byteCells (pre ++ [(48 + g / 4294967296).toUInt8])) := by
          rw [Lib.byteCells_snoc pre (by omega), List.length_append]
          have ec : ((48 + g / 4294967296 : Nat) : Int) = 48 + (g : Int) / 4294967296 := by omega
          rw [ec]
          exact hown'
        clear hown' hgrow hown3 hB3
        go_upto_region 14 with (fail)
        have HG := Aside0.mk (and_low g (by omega))
        try rw [HG.out]
        go_wp2
        go_roundw
        case rel =>
          refine ⟨k, g % 4294967296, _, ?_, Nat.mod_lt _ (by decide), by omega, ?_, ?_, ?_, hown4, hB4⟩
          · first | rw [HG.out] | rfl
          · rw [← hg]; exact dvd_step HDV.out
          · rw [List.length_append]; simp; omega
          · rw [HL.out, HE.out, hg]
            simp [asc]
        case measure =>
          have e32 : fd 32 f' = fd (k + 1) f' := by
            have e := fd_more (k + 1) f' (31 - k) hf' HDV.out
            rwa [show k + 1 + (31 - k) = 32 by omega] at e
          have e32' : fd 32 (g % 4294967296) = fd k (g % 4294967296) := by
            have e := fd_more k (g % 4294967296) (32 - k) (Nat.mod_lt _ (by decide)) (by rw [← hg]; exact dvd_step HDV.out)
            rwa [show k + (32 - k) = 32 by omega] at e
          show (fd 32 (g % 4294967296)).length < (fd 32 f').length
          rw [e32, e32', HE.out, hg]
          simp
set_option maxHeartbeats 8000000 in
set_option maxRecDepth 100000 in
theorem show_pos (x : Int) (h0 : -9223372036854775808 ≤ x) (h1 : x ≤ 9223372036854775807) (c : 0 ≤ x) (w : World) (ht : Tab w) (m : Nat) (hm : x.natAbs = m) : Calls Tryd.prog 21 #[.int .i64 x] w fun e w' => e = .returned (.string ⟨(showZ false m).toArray⟩) ∧ Below w.heap.size w w' := by
  obtain ⟨i0, hi, hz0, hz1, hz2⟩ := info_parts info5
  have HT := Aside0.mk ht
  clear ht
  have c1 : decide (x < 0) = false := decide_eq_false (by omega)
  obtain rfl : x = (m : Int) := by omega
  go_enter Tryd.func21, Tryd.ntmps21
  go_upto_region 6 with (fail)
  have hm1 : m ≤ 9223372036854775808 := by omega
  have hB0 : Below w.heap.size w w := Below.refl _ _
  have hown0 := World.ownsRow_nil w w.heap.size 5 1
  clear hm c c1

  have hq : m / 4294967296 < 4294967296 := by omega
  have HC := Aside0.mk (app_calls (m / 4294967296) (by omega) w.heap.size _ _ _ _ hown0 hB0.size (by decide) (HT.out.below hB0))
  clear hown0
  go_upto_region 7 with (go_at_call 38; refine HC.out.mono ?_; rintro e W2 ⟨v2, rfl, ho2, hb2⟩)
  have hB2 : Below w.heap.size w W2 := hB0.trans hb2
  have hdl := dec_len20 hq
  obtain ⟨pre1, hpre1⟩ : ∃ p, ([] : List UInt8) ++ Lib.decDigits (m / 4294967296) = p := ⟨_, rfl⟩
  have hown2 : W2.ownsRow w.heap.size 5 1 v2 pre1.length (Lib.byteCells pre1) := by
    rw [← hpre1, Lib.byteCells_append, List.length_append]
    exact ho2
  have hp1 : pre1.length ≤ 11 := by rw [← hpre1, List.length_append]; simp; omega
  have HP1 := Aside0.mk hpre1
  clear ho2 hpre1 hb2 hdl hq
  go_upto_region 8 with (fail)
  have HF := Aside0.mk (and_low m (by omega))
  rw [HF.out]
  have hfl : m % 4294967296 < 4294967296 := Nat.mod_lt _ (by decide)
  obtain ⟨f, hfm⟩ : ∃ f, m % 4294967296 = f := ⟨_, rfl⟩
  rw [hfm] at hfl ⊢
  have HFM := Aside0.mk hfm
  clear hfm
  by_cases c2 : f = 0
  · have c3 : ((f : Int) != 0) = false := by simpa using c2
    obtain ⟨L, hLs⟩ : ∃ L, pre1 = L := ⟨_, rfl⟩
    have HLS : Aside0 (L = showZ false m) := ⟨by
      rw [← hLs, ← HP1.out]
      unfold showZ showM showF
      rw [HFM.out, if_pos c2, List.append_nil]
      rfl⟩
    have HLL : Aside0 (L = pre1 ++ asc (fd 32 f)) := ⟨by rw [← hLs, c2]; simp [asc, fd]⟩
    have C2 := Aside0.mk c2
    clear hLs c2
    go_upto_region 10 with (fail)
    go_loopw [4, 5] (fun vb vf wr => ∃ (k f' : Nat) (pre : List UInt8), vf = .int .u64 (f' : Int) ∧ f' < 4294967296 ∧ k ≤ 32 ∧ 4294967296 ∣ f' * 10 ^ k ∧ pre.length + k ≤ 60 ∧ L = pre ++ asc (fd k f') ∧ wr.ownsRow w.heap.size 5 1 vb pre.length (Lib.byteCells pre) ∧ Below w.heap.size w wr)
      (fun _ vf _ => (fd 32 (intOf vf).toNat).length)
    case atStart => exact ⟨32, f, pre1, rfl, hfl, Nat.le_refl _, fd_32 f, by omega, HLL.out, hown2, hB2⟩
    case round =>
      obtain ⟨k, f', pre, rfl, hf', hk, hdv, hpl, hL, hown3, hB3⟩ := hrel
      have HL := Aside0.mk hL
      have HDV := Aside0.mk hdv
      clear hL hdv
      by_cases c4 : f' = 0
      · subst c4
        have hcv := row_bytes hown3
        go_wp2
        go_ret
        refine ⟨?_, hB3⟩
        have e1 := HL.out
        rw [show fd k 0 = [] by cases k <;> rfl] at e1
        rw [show asc [] = [] from rfl, List.append_nil] at e1
        rw [← e1, HLS.out]
        rfl
      · obtain ⟨k, rfl⟩ : ∃ k', k = k' + 1 := by
          rcases k with _ | k
          · have e := HDV.out
            rw [Nat.pow_zero, Nat.mul_one] at e
            exact absurd (Nat.eq_zero_of_dvd_of_lt e hf') c4
          · exact ⟨k, rfl⟩
        have c5 : ((f' : Int) != 0) = true := by simpa using c4
        have efd : fd (k + 1) f' = 10 * f' / 4294967296 :: fd k (10 * f' % 4294967296) := by
          show (if f' = 0 then [] else _) = _
          rw [if_neg c4]
        have HE := Aside0.mk efd
        clear efd
        have b1 : (f' : Int) < 4294967296 := by omega
        have c4' := Aside0.mk c4
        clear c4
        go_upto_region 12 with (fail)
        obtain ⟨g, hg⟩ : ∃ g, 10 * f' = g := ⟨_, rfl⟩
        have eg : (f' : Int) * 10 = (g : Int) := by omega
        rw [eg]
        have hgl : g < 42949672960 := by omega
        have b2 : (g : Int) / 4294967296 < 10 := by omega
        have b3 : 0 ≤ (g : Int) / 4294967296 := by omega
        go_upto_region 13 with (at_builtin; refine wpList_append_own _ rfl _ _ 59 rfl w.heap.size 5 i0 (.int .u8 0) 1 1 Tryd.underlying59 hi hz0 hz1 hz2 rfl (by decide) _ _ _ rfl (hown3.alloc _) ⟨wr.heap.size, 0, none⟩ 1 1 [Value.int .u8 (48 + (g : Int) / 4294967296)] rfl rfl ?c1 ?c2 ?c3 ?c4 ?c5 ?_)
        case c1 =>
          intro j u hj
          match j, hj with
          | 0, hj => simp at hj; subst hj; simp [Addr.add]
        case c2 => intro u hu; simp at hu; subst hu; rfl
        case c3 => unfold maxLen; omega
        case c4 => omega
        case c5 => have := hB3.size; simp; omega
        intro v4 W4 hown' hgrow _
        have hB4 : Below w.heap.size w W4 := (hB3.alloc (by have := hB3.size; omega) _).grown hgrow (by have := hB3.size; simp; omega) (fun k hk => (hown3.lt k hk).1)
        have hown4 : W4.ownsRow w.heap.size 5 1 v4 (pre ++ [(48 + g / 4294967296).toUInt8]).length (Lib.byteCells (pre ++ [(48 + g / 4294967296).toUInt8])) := by
          rw [Lib.byteCells_snoc pre (by omega), List.length_append]
          have ec : ((48 + g / 4294967296 : Nat) : Int) = 48 + (g : Int) / 4294967296 := by omega
          rw [ec]
          exact hown'
        clear hown' hgrow hown3 hB3
        go_upto_region 14 with (fail)
        have HG := Aside0.mk (and_low g (by omega))
        try rw [HG.out]
        go_wp2
        go_roundw
        case rel =>
          refine ⟨k, g % 4294967296, _, ?_, Nat.mod_lt _ (by decide), by omega, ?_, ?_, ?_, hown4, hB4⟩
          · first | rw [HG.out] | rfl
          · rw [← hg]; exact dvd_step HDV.out
          · rw [List.length_append]; simp; omega
          · rw [HL.out, HE.out, hg]
            simp [asc]
        case measure =>
          have e32 : fd 32 f' = fd (k + 1) f' := by
            have e := fd_more (k + 1) f' (31 - k) hf' HDV.out
            rwa [show k + 1 + (31 - k) = 32 by omega] at e
          have e32' : fd 32 (g % 4294967296) = fd k (g % 4294967296) := by
            have e := fd_more k (g % 4294967296) (32 - k) (Nat.mod_lt _ (by decide)) (by rw [← hg]; exact dvd_step HDV.out)
            rwa [show k + (32 - k) = 32 by omega] at e
          show (fd 32 (g % 4294967296)).length < (fd 32 f').length
          rw [e32, e32', HE.out, hg]
          simp

  · have c3 : ((f : Int) != 0) = true := by simpa using c2
    go_upto_region 10 with (at_builtin; refine wpList_append_own _ rfl _ _ 59 rfl w.heap.size 5 i0 (.int .u8 0) 1 1 Tryd.underlying59 hi hz0 hz1 hz2 rfl (by decide) _ _ _ rfl (hown2.alloc _) ⟨W2.heap.size, 0, none⟩ 1 1 [Value.int .u8 46] rfl rfl ?c1 ?c2 ?c3 ?c4 ?c5 ?_)
    case c1 =>
      intro j u hj
      match j, hj with
      | 0, hj => simp at hj; subst hj; simp [Addr.add]
    case c2 => intro u hu; simp at hu; subst hu; rfl
    case c3 => unfold maxLen; omega
    case c4 => omega
    case c5 => have := hB2.size; simp; omega
    intro v3 W3 hown' hgrow _
    have hB3 : Below w.heap.size w W3 := (hB2.alloc (by have := hB2.size; omega) _).grown hgrow (by have := hB2.size; simp; omega) (fun k hk => (hown2.lt k hk).1)
    obtain ⟨pre2, hpre2⟩ : ∃ p, pre1 ++ [46] = p := ⟨_, rfl⟩
    have hownP : W3.ownsRow w.heap.size 5 1 v3 pre2.length (Lib.byteCells pre2) := by
      rw [← hpre2, Lib.byteCells_append, List.length_append]
      exact hown'
    have hp2 : pre2.length ≤ 12 := by rw [← hpre2, List.length_append]; simp; omega
    obtain ⟨L, hLs⟩ : ∃ L, pre2 ++ asc (fd 32 f) = L := ⟨_, rfl⟩
    have HLS : Aside0 (L = showZ false m) := ⟨by
      rw [← hLs, ← hpre2, ← HP1.out]
      unfold showZ showM showF
      rw [HFM.out, if_neg c2]
      simp⟩
    have HLL : Aside0 (L = pre2 ++ asc (fd 32 f)) := ⟨hLs.symm⟩
    clear hLs hpre2 hown' hgrow
    clear hown2 hB2 hp1
    go_upto_region 10 with (fail)
    go_loopw [4, 5] (fun vb vf wr => ∃ (k f' : Nat) (pre : List UInt8), vf = .int .u64 (f' : Int) ∧ f' < 4294967296 ∧ k ≤ 32 ∧ 4294967296 ∣ f' * 10 ^ k ∧ pre.length + k ≤ 60 ∧ L = pre ++ asc (fd k f') ∧ wr.ownsRow w.heap.size 5 1 vb pre.length (Lib.byteCells pre) ∧ Below w.heap.size w wr)
      (fun _ vf _ => (fd 32 (intOf vf).toNat).length)
    case atStart => exact ⟨32, f, pre2, rfl, hfl, Nat.le_refl _, fd_32 f, by omega, HLL.out, hownP, hB3⟩
    case round =>
      obtain ⟨k, f', pre, rfl, hf', hk, hdv, hpl, hL, hown3, hB3⟩ := hrel
      have HL := Aside0.mk hL
      have HDV := Aside0.mk hdv
      clear hL hdv
      by_cases c4 : f' = 0
      · subst c4
        have hcv := row_bytes hown3
        go_wp2
        go_ret
        refine ⟨?_, hB3⟩
        have e1 := HL.out
        rw [show fd k 0 = [] by cases k <;> rfl] at e1
        rw [show asc [] = [] from rfl, List.append_nil] at e1
        rw [← e1, HLS.out]
        rfl
      · obtain ⟨k, rfl⟩ : ∃ k', k = k' + 1 := by
          rcases k with _ | k
          · have e := HDV.out
            rw [Nat.pow_zero, Nat.mul_one] at e
            exact absurd (Nat.eq_zero_of_dvd_of_lt e hf') c4
          · exact ⟨k, rfl⟩
        have c5 : ((f' : Int) != 0) = true := by simpa using c4
        have efd : fd (k + 1) f' = 10 * f' / 4294967296 :: fd k (10 * f' % 4294967296) := by
          show (if f' = 0 then [] else _) = _
          rw [if_neg c4]
        have HE := Aside0.mk efd
        clear efd
        have b1 : (f' : Int) < 4294967296 := by omega
        have c4' := Aside0.mk c4
        clear c4
        go_upto_region 12 with (fail)
        obtain ⟨g, hg⟩ : ∃ g, 10 * f' = g := ⟨_, rfl⟩
        have eg : (f' : Int) * 10 = (g : Int) := by omega
        rw [eg]
        have hgl : g < 42949672960 := by omega
        have b2 : (g : Int) / 4294967296 < 10 := by omega
        have b3 : 0 ≤ (g : Int) / 4294967296 := by omega
        go_upto_region 13 with (at_builtin; refine wpList_append_own _ rfl _ _ 59 rfl w.heap.size 5 i0 (.int .u8 0) 1 1 Tryd.underlying59 hi hz0 hz1 hz2 rfl (by decide) _ _ _ rfl (hown3.alloc _) ⟨wr.heap.size, 0, none⟩ 1 1 [Value.int .u8 (48 + (g : Int) / 4294967296)] rfl rfl ?c1 ?c2 ?c3 ?c4 ?c5 ?_)
        case c1 =>
          intro j u hj
          match j, hj with
          | 0, hj => simp at hj; subst hj; simp [Addr.add]
        case c2 => intro u hu; simp at hu; subst hu; rfl
        case c3 => unfold maxLen; omega
        case c4 => omega
        case c5 => have := hB3.size; simp; omega
        intro v4 W4 hown' hgrow _
        have hB4 : Below w.heap.size w W4 := (hB3.alloc (by have := hB3.size; omega) _).grown hgrow (by have := hB3.size; simp; omega) (fun k hk => (hown3.lt k hk).1)
        have hown4 : W4.ownsRow w.heap.size 5 1 v4 (pre ++ [(48 + g / 4294967296).toUInt8]).length (Lib.byteCells (pre ++ [(48 + g / 4294967296).toUInt8])) := by
          rw [Lib.byteCells_snoc pre (by omega), List.length_append]
          have ec : ((48 + g / 4294967296 : Nat) : Int) = 48 + (g : Int) / 4294967296 := by omega
          rw [ec]
          exact hown'
        clear hown' hgrow hown3 hB3
        go_upto_region 14 with (fail)
        have HG := Aside0.mk (and_low g (by omega))
        try rw [HG.out]
        go_wp2
        go_roundw
        case rel =>
          refine ⟨k, g % 4294967296, _, ?_, Nat.mod_lt _ (by decide), by omega, ?_, ?_, ?_, hown4, hB4⟩
          · first | rw [HG.out] | rfl
          · rw [← hg]; exact dvd_step HDV.out
          · rw [List.length_append]; simp; omega
          · rw [HL.out, HE.out, hg]
            simp [asc]
        case measure =>
          have e32 : fd 32 f' = fd (k + 1) f' := by
            have e := fd_more (k + 1) f' (31 - k) hf' HDV.out
            rwa [show k + 1 + (31 - k) = 32 by omega] at e
          have e32' : fd 32 (g % 4294967296) = fd k (g % 4294967296) := by
            have e := fd_more k (g % 4294967296) (32 - k) (Nat.mod_lt _ (by decide)) (by rw [← hg]; exact dvd_step HDV.out)
            rwa [show k + (32 - k) = 32 by omega] at e
          show (fd 32 (g % 4294967296)).length < (fd 32 f').length
          rw [e32, e32', HE.out, hg]
          simp
def showT (x : Int) : ByteArray := ⟨(showZ (decide (x < 0)) x.natAbs).toArray⟩
theorem show_calls (x : Int) (h0 : -9223372036854775808 ≤ x) (h1 : x ≤ 9223372036854775807) (w : World) (ht : Tab w) : Calls Tryd.prog 21 #[.int .i64 x] w fun e w' => e = .returned (.string (showT x)) ∧ Below w.heap.size w w' := by
  by_cases c : x < 0
  · have := show_neg x h0 h1 c w ht _ rfl
    unfold showT
    rw [decide_eq_true c]
    exact this
  · have := show_pos x h0 h1 (by omega) w ht _ rfl
    unfold showT
    rw [decide_eq_false c]
    exact this
end Go.Proofs.YtlifbogjjikhdaaDoor.Fl
end
section
namespace Go.Proofs.YtlifbogjjikhdaaDoor.Fl
open Go.ChangeShapes Go.WideShapes Go.ChangeAt Go.RowKit
theorem own : ownKnob Tryd.prog.godebug = none := by kernel_rfl
abbrev laidL : List (String × DataW Unit) := [("math/bits.deBruijn32tab", Rows.laid_math_bits_deBruijn32tab), ("math/bits.deBruijn64tab", Rows.laid_math_bits_deBruijn64tab), ("internal/strconv.uint64pow10", Rows.laid_internal_strconv_uint64pow10)]
theorem door_met (os : Os) (args : Array Value) : laidMetH Tryd.prog laidL ((World.doorLaid Tryd.prog 24 os).forCall (fun _ _ => 0) ⟨#[], args, []⟩).memory :=
  laidMetH_of_parts3 (fuel := 8) (laidMet_of_run' 8 (by kernel_rfl) (by kernel_rfl)) (by kernel_rfl) (by kernel_rfl)
theorem gPow : Tryd.prog.globalNamed "internal/strconv.uint64pow10" = some 1 := by kernel_rfl
theorem gPowT : (Tryd.prog.globals[1]?).map (·.type) = some 70 := by kernel_rfl
theorem cells25 : Tryd.prog.cellsOf 25 = 1 := by kernel_rfl
theorem cells70 : Tryd.prog.cellsOf 70 = 20 := by kernel_rfl
theorem pow_data : Rows.laid_internal_strconv_uint64pow10 (H := Unit) = Lib.tabData .u64 Lib.pow10Tab := by kernel_rfl
theorem int_in {a : Int} (h : (Lit.int .i64 a).wf = true) : -9223372036854775808 ≤ a ∧ a ≤ 9223372036854775807 := by
  simp only [Lit.wf, Bool.and_eq_true, decide_eq_true_eq] at h
  exact h
theorem tab_of {W : World} (h : laidMetH Tryd.prog laidL W) : Tab W := by
  rw [MakeChecks.laidMetH_plain _ _ _ (by kernel_rfl)] at h
  have h2 := laidMet.tail (laidMet.tail h)
  rw [pow_data] at h2
  exact Lib.tabIs_of_head gPow gPowT Tryd.underlying70 Tryd.underlying25 cells25 cells70 h2
end Go.Proofs.YtlifbogjjikhdaaDoor.Fl
end
