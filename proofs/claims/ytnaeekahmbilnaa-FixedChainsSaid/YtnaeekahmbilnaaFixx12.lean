-- Out of the kit's printer, driven by this repo's wip/gp.py with hand-written contracts beside it. Lean checks it.
import Derived.Test.YtnaeekahmbilnaaFixx0
import Derived.Test.YtnaeekahmbilnaaFixx1
import Derived.Test.YtnaeekahmbilnaaFixx3
import Derived.Test.YtnaeekahmbilnaaFixx8
import Derived.Test.YtnaeekahmbilnaaFixx11
namespace Go.Proofs.Ytnaeekahmbilnaa.Fix
open Go.RowKit Go.Proofs.YtnaeekahmbilnaaW.PrintWords Go.Proofs.YtnaeekahmbilnaaW.PrintLast Go.Proofs.YtnaeekahmbilnaaW.PrintMore
attribute [local go_sem] max2_int min2_int max_two min_two max_three min_three max_four min_four   -- for this text's walks alone
set_option linter.unusedVariables false
set_option linter.unusedSimpArgs false

/-! ### lysimeterlaw1_FixedOrder: function 13 -/
mutual
def lysimeterlaw1_FixedOrder.j0 : Nat → Int → Int → Int → Bool → Option (Bool)
  | 0, _, _, _, _ => none
  | k + 1, x0, x1, x2, x7 => if x2 < 0 then ((fixed_Neg.f k x2).bind fun t401 => (lysimeterlaw1_FixedOrder.j1 k x0 x1 x2 x7 t401)) else (lysimeterlaw1_FixedOrder.j1 k x0 x1 x2 x7 x2)
def lysimeterlaw1_FixedOrder.j1 : Nat → Int → Int → Int → Bool → Int → Option (Bool)
  | 0, _, _, _, _, _ => none
  | k + 1, x0, x1, x2, x7, x8 => if x7 = true then ((fixed_Add.f k x0 x2).bind fun t402 => ((fixed_Add.f k x1 x2).bind fun t403 => (if t402 ≤ t403 then ((fixed_Sub.f k x2 x0).bind fun t404 => ((fixed_Sub.f k x2 x1).bind fun t405 => (if t404 ≥ t405 then ((fixed_Mul.f k x0 x8).bind fun t406 => ((fixed_Mul.f k x1 x8).bind fun t407 => (if t406 ≤ t407 then (if x8 = 0 then ((fixed_Floor.f x0).bind fun t408 => ((fixed_Floor.f x1).bind fun t409 => (some (decide (t408 ≤ t409))))) else ((fixed_Div.f k x0 x8).bind fun t410 => ((fixed_Div.f k x1 x8).bind fun t411 => (if t410 ≤ t411 then ((fixed_Floor.f x0).bind fun t412 => ((fixed_Floor.f x1).bind fun t413 => (some (decide (t412 ≤ t413))))) else (some false))))) else (some false)))) else (some false)))) else (some false)))) else (some false)
end
def lysimeterlaw1_FixedOrder.f (k : Nat) (a0 : Int) (a1 : Int) (a2 : Int) : Option (Bool) := (lysimeterlaw1_alive.f k).bind fun t400 => (if a0 > a1 then (lysimeterlaw1_FixedOrder.j0 k a1 a0 a2 t400) else (lysimeterlaw1_FixedOrder.j0 k a0 a1 a2 t400))
theorem lysimeterlaw1_FixedOrder.mono_l : ∀ k, (∀ y0 y1 y2 y3, LeO (lysimeterlaw1_FixedOrder.j0 k y0 y1 y2 y3) (lysimeterlaw1_FixedOrder.j0 (k + 1) y0 y1 y2 y3)) ∧ (∀ y0 y1 y2 y3 y4, LeO (lysimeterlaw1_FixedOrder.j1 k y0 y1 y2 y3 y4) (lysimeterlaw1_FixedOrder.j1 (k + 1) y0 y1 y2 y3 y4))
  | 0 => ⟨fun _ _ _ _ r h => by simp [lysimeterlaw1_FixedOrder.j0] at h, fun _ _ _ _ _ r h => by simp [lysimeterlaw1_FixedOrder.j1] at h⟩
  | k + 1 => by
    obtain ⟨ih0, ih1⟩ := lysimeterlaw1_FixedOrder.mono_l k
    refine ⟨?_, ?_⟩
    · intro y0 y1 y2 y3
      unfold lysimeterlaw1_FixedOrder.j0
      repeat' first
      | (with_reducible exact ih0 _ _ _ _)
      | (with_reducible exact ih1 _ _ _ _ _)
      | (with_reducible exact fixed_Add.mono _ _ _)
      | (with_reducible exact fixed_Div.mono _ _ _)
      | (with_reducible exact fixed_Mul.mono _ _ _)
      | (with_reducible exact fixed_Neg.mono _ _)
      | (with_reducible exact fixed_Sub.mono _ _ _)
      | (with_reducible exact lysimeterlaw1_alive.mono _)
      | (with_reducible exact LeO.refl _)
      | (with_reducible exact LeO.none _)
      | (with_reducible refine LeO.ite ?_ ?_)
      | (with_reducible refine LeO.bind ?_ (fun _ => ?_))
      | exact ih0 _ _ _ _
      | exact ih1 _ _ _ _ _
      | exact fixed_Add.mono _ _ _
      | exact fixed_Div.mono _ _ _
      | exact fixed_Mul.mono _ _ _
      | exact fixed_Neg.mono _ _
      | exact fixed_Sub.mono _ _ _
      | exact lysimeterlaw1_alive.mono _
      | exact LeO.none _
      | refine LeO.ite ?_ ?_
      | refine LeO.bind ?_ (fun _ => ?_)
    · intro y0 y1 y2 y3 y4
      unfold lysimeterlaw1_FixedOrder.j1
      repeat' first
      | (with_reducible exact ih0 _ _ _ _)
      | (with_reducible exact ih1 _ _ _ _ _)
      | (with_reducible exact fixed_Add.mono _ _ _)
      | (with_reducible exact fixed_Div.mono _ _ _)
      | (with_reducible exact fixed_Mul.mono _ _ _)
      | (with_reducible exact fixed_Neg.mono _ _)
      | (with_reducible exact fixed_Sub.mono _ _ _)
      | (with_reducible exact lysimeterlaw1_alive.mono _)
      | (with_reducible exact LeO.refl _)
      | (with_reducible exact LeO.none _)
      | (with_reducible refine LeO.ite ?_ ?_)
      | (with_reducible refine LeO.bind ?_ (fun _ => ?_))
      | exact ih0 _ _ _ _
      | exact ih1 _ _ _ _ _
      | exact fixed_Add.mono _ _ _
      | exact fixed_Div.mono _ _ _
      | exact fixed_Mul.mono _ _ _
      | exact fixed_Neg.mono _ _
      | exact fixed_Sub.mono _ _ _
      | exact lysimeterlaw1_alive.mono _
      | exact LeO.none _
      | refine LeO.ite ?_ ?_
      | refine LeO.bind ?_ (fun _ => ?_)
theorem lysimeterlaw1_FixedOrder.mono : ∀ a0 a1 a2 k, LeO (lysimeterlaw1_FixedOrder.f k a0 a1 a2) (lysimeterlaw1_FixedOrder.f (k + 1) a0 a1 a2) := by
  intro a0 a1 a2 k
  obtain ⟨ih0, ih1⟩ := lysimeterlaw1_FixedOrder.mono_l k
  unfold lysimeterlaw1_FixedOrder.f
  repeat' first
      | (with_reducible exact ih0 _ _ _ _)
      | (with_reducible exact ih1 _ _ _ _ _)
      | (with_reducible exact fixed_Add.mono _ _ _)
      | (with_reducible exact fixed_Div.mono _ _ _)
      | (with_reducible exact fixed_Mul.mono _ _ _)
      | (with_reducible exact fixed_Neg.mono _ _)
      | (with_reducible exact fixed_Sub.mono _ _ _)
      | (with_reducible exact lysimeterlaw1_alive.mono _)
      | (with_reducible exact LeO.refl _)
      | (with_reducible exact LeO.none _)
      | (with_reducible refine LeO.ite ?_ ?_)
      | (with_reducible refine LeO.bind ?_ (fun _ => ?_))
      | exact ih0 _ _ _ _
      | exact ih1 _ _ _ _ _
      | exact fixed_Add.mono _ _ _
      | exact fixed_Div.mono _ _ _
      | exact fixed_Mul.mono _ _ _
      | exact fixed_Neg.mono _ _
      | exact fixed_Sub.mono _ _ _
      | exact lysimeterlaw1_alive.mono _
      | exact LeO.none _
      | refine LeO.ite ?_ ?_
      | refine LeO.bind ?_ (fun _ => ?_)
set_option maxHeartbeats 8000000 in
set_option maxRecDepth 100000 in
theorem lysimeterlaw1_FixedOrder.calls (k : Nat) (a0 : Int) (a1 : Int) (a2 : Int) (r : Bool) (w : World) (h : lysimeterlaw1_FixedOrder.f k a0 a1 a2 = some r) :
    Calls Try.prog 13 #[.int .i64 a0, .int .i64 a1, .int .i64 a2] w fun e w' => e = .returned (.bool r) ∧ Drawn0 w w' := by
  have H : ((lysimeterlaw1_alive.f k).bind fun t400 => (if a0 > a1 then (lysimeterlaw1_FixedOrder.j0 k a1 a0 a2 t400) else (lysimeterlaw1_FixedOrder.j0 k a0 a1 a2 t400))) = some r := h
  clear h
  replace H := Option.bind_eq_some_iff.mp H
  obtain ⟨t400, A40, H⟩ := H
  replace H : (if a0 > a1 then (lysimeterlaw1_FixedOrder.j0 k a1 a0 a2 t400) else (lysimeterlaw1_FixedOrder.j0 k a0 a1 a2 t400)) = some r := H
  have A4 := Aside0.mk A40
  clear A40
  have HC5 := Aside0.mk H
  clear H
  go_enter Try.func13, Try.ntmps13
  go_upto_if 12 with (first | ((with_reducible refine gate_callee (f := 14) rfl ?_); refine goesL_ (some 9) rfl rfl Try.func14 (by kernel_rfl) rfl #[] rfl (by (try simp only [List.map_toArray, List.map_cons, List.map_nil]); first | done | rfl | (simp only [List.length_drop, List.length_take]; rfl)) ?_; (with_reducible refine (lysimeterlaw1_alive.calls k  t400 _ A4.out).mono ?_); rintro e w' ⟨rfl, ⟨nd, rfl⟩⟩; refine ⟨_, rfl, ?_⟩))
  (try simp only [Act.put, List.setIfInBounds_toArray, List.set_cons_zero, List.set_cons_succ])
  go_cut [0, 1] (fun v0 v1 wc => ∃ (kq : Nat) (x0_4 : Int) (x1_4 : Int), v0 = .int .i64 x0_4 ∧ v1 = .int .i64 x1_4 ∧ Aside0 (lysimeterlaw1_FixedOrder.j0 kq x0_4 x1_4 a2 t400 = some r) ∧ Aside0 (kq ≤ k) ∧ Drawn0 w wc)
  case first =>
    have H := HC5.out
    clear HC5
    by_cases c6 : a0 > a1
    · rw [if_pos c6] at H
      have c6b0 : decide (a1 < a0) = true := decide_eq_true c6
      clear c6
      (first | rw [c6b0] | (simp only [i64_w, i32_w]; rw [c6b0]) | skip)
      have H' := Aside0.mk H
      clear H
      go_wp2
      go_meet
      case rel => exact ⟨_, (a1), (a0), (by first | rfl | (simp; done) | (simp [*]; done)), (by first | rfl | (simp; done) | (simp [*]; done)), H', ⟨by first | omega | exact Nat.le_refl _⟩, by repeat (first | exact Drawn0.refl _ | apply Drawn0.step)⟩
    · rw [if_neg c6] at H
      have c6b0 : decide (a1 < a0) = false := decide_eq_false c6
      clear c6
      (first | rw [c6b0] | (simp only [i64_w, i32_w]; rw [c6b0]) | skip)
      have H' := Aside0.mk H
      clear H
      go_wp2
      go_meet
      case rel => exact ⟨_, (a0), (a1), (by first | rfl | (simp; done) | (simp [*]; done)), (by first | rfl | (simp; done) | (simp [*]; done)), H', ⟨by first | omega | exact Nat.le_refl _⟩, by repeat (first | exact Drawn0.refl _ | apply Drawn0.step)⟩
  case rest =>
    clear HC5
    try clear c1
    try clear p2
    try clear c6
    try clear c6b0
    obtain ⟨kq, x0_4, x1_4, rfl, rfl, HA, HJ4, ⟨mc4, rfl⟩⟩ := hcut
    cases kq with
    | zero => exact absurd HA.out (by simp [lysimeterlaw1_FixedOrder.j0])
    | succ kj4 =>
      have H := HA.out
      clear HA
      simp only [lysimeterlaw1_FixedOrder.j0] at H
      have HC7 := Aside0.mk H
      clear H
      go_upto_if 17 with (fail)
      go_cut [8] (fun v8 wc => ∃ (kq : Nat) (x8_6 : Int), v8 = .int .i64 x8_6 ∧ Aside0 (lysimeterlaw1_FixedOrder.j1 kq x0_4 x1_4 a2 t400 x8_6 = some r) ∧ Aside0 (kq ≤ kj4) ∧ Drawn0 w wc)
      case first =>
        have H := HC7.out
        clear HC7
        by_cases c8 : a2 < 0
        · rw [if_pos c8] at H
          have c8b0 : decide (a2 < 0) = true := decide_eq_true c8
          clear c8
          (first | rw [c8b0] | (simp only [i64_w, i32_w]; rw [c8b0]) | skip)
          replace H := Option.bind_eq_some_iff.mp H
          obtain ⟨t401, A90, H⟩ := H
          replace H : (lysimeterlaw1_FixedOrder.j1 kj4 x0_4 x1_4 a2 t400 t401) = some r := H
          have A9 := Aside0.mk A90
          clear A90
          have H' := Aside0.mk H
          clear H
          go_wp2_with (first | ((with_reducible refine gate_callee (f := 35) rfl ?_); refine goesL_ (some 19) rfl rfl Try.func35 (by kernel_rfl) rfl #[.int .i64 a2] rfl (by (try simp only [List.map_toArray, List.map_cons, List.map_nil]); first | done | rfl | (simp only [List.length_drop, List.length_take]; rfl)) ?_; (with_reducible refine (fixed_Neg.calls kj4 a2 t401 _ A9.out).mono ?_); rintro e w' ⟨rfl, ⟨nd, rfl⟩⟩; refine ⟨_, rfl, ?_⟩))
          go_meet
          case rel => exact ⟨_, (t401), (by first | rfl | (simp; done) | (simp [*]; done)), H', ⟨by have := HJ4.out; first | omega | exact Nat.le_refl _⟩, by repeat (first | exact Drawn0.refl _ | apply Drawn0.step)⟩
        · rw [if_neg c8] at H
          have c8b0 : decide (a2 < 0) = false := decide_eq_false c8
          clear c8
          (first | rw [c8b0] | (simp only [i64_w, i32_w]; rw [c8b0]) | skip)
          have H' := Aside0.mk H
          clear H
          go_wp2
          go_meet
          case rel => exact ⟨_, (a2), (by first | rfl | (simp; done) | (simp [*]; done)), H', ⟨by have := HJ4.out; first | omega | exact Nat.le_refl _⟩, by repeat (first | exact Drawn0.refl _ | apply Drawn0.step)⟩
      case rest =>
        clear HC7
        try clear c1
        try clear p2
        try clear c3
        try clear c4
        try clear c6
        try clear c6b0
        try clear c8
        try clear c8b0
        try clear p2
        obtain ⟨kq, x8_6, rfl, HA, HJ6, ⟨mc6, rfl⟩⟩ := hcut
        cases kq with
        | zero => exact absurd HA.out (by simp [lysimeterlaw1_FixedOrder.j1])
        | succ kj6 =>
          have H := HA.out
          clear HA
          simp only [lysimeterlaw1_FixedOrder.j1] at H
          by_cases c10 : t400 = true
          · subst c10
            have H1 : ((fixed_Add.f kj6 x0_4 a2).bind fun t402 => ((fixed_Add.f kj6 x1_4 a2).bind fun t403 => (if t402 ≤ t403 then ((fixed_Sub.f kj6 a2 x0_4).bind fun t404 => ((fixed_Sub.f kj6 a2 x1_4).bind fun t405 => (if t404 ≥ t405 then ((fixed_Mul.f kj6 x0_4 x8_6).bind fun t406 => ((fixed_Mul.f kj6 x1_4 x8_6).bind fun t407 => (if t406 ≤ t407 then (if x8_6 = 0 then ((fixed_Floor.f x0_4).bind fun t408 => ((fixed_Floor.f x1_4).bind fun t409 => (some (decide (t408 ≤ t409))))) else ((fixed_Div.f kj6 x0_4 x8_6).bind fun t410 => ((fixed_Div.f kj6 x1_4 x8_6).bind fun t411 => (if t410 ≤ t411 then ((fixed_Floor.f x0_4).bind fun t412 => ((fixed_Floor.f x1_4).bind fun t413 => (some (decide (t412 ≤ t413))))) else (some false))))) else (some false)))) else (some false)))) else (some false)))) = some r := by rw [if_pos rfl] at H; exact H
            clear H
            have H := H1
            clear H1
            replace H := Option.bind_eq_some_iff.mp H
            obtain ⟨t402, A110, H⟩ := H
            replace H : ((fixed_Add.f kj6 x1_4 a2).bind fun t403 => (if t402 ≤ t403 then ((fixed_Sub.f kj6 a2 x0_4).bind fun t404 => ((fixed_Sub.f kj6 a2 x1_4).bind fun t405 => (if t404 ≥ t405 then ((fixed_Mul.f kj6 x0_4 x8_6).bind fun t406 => ((fixed_Mul.f kj6 x1_4 x8_6).bind fun t407 => (if t406 ≤ t407 then (if x8_6 = 0 then ((fixed_Floor.f x0_4).bind fun t408 => ((fixed_Floor.f x1_4).bind fun t409 => (some (decide (t408 ≤ t409))))) else ((fixed_Div.f kj6 x0_4 x8_6).bind fun t410 => ((fixed_Div.f kj6 x1_4 x8_6).bind fun t411 => (if t410 ≤ t411 then ((fixed_Floor.f x0_4).bind fun t412 => ((fixed_Floor.f x1_4).bind fun t413 => (some (decide (t412 ≤ t413))))) else (some false))))) else (some false)))) else (some false)))) else (some false))) = some r := H
            have A11 := Aside0.mk A110
            clear A110
            replace H := Option.bind_eq_some_iff.mp H
            obtain ⟨t403, A120, H⟩ := H
            replace H : (if t402 ≤ t403 then ((fixed_Sub.f kj6 a2 x0_4).bind fun t404 => ((fixed_Sub.f kj6 a2 x1_4).bind fun t405 => (if t404 ≥ t405 then ((fixed_Mul.f kj6 x0_4 x8_6).bind fun t406 => ((fixed_Mul.f kj6 x1_4 x8_6).bind fun t407 => (if t406 ≤ t407 then (if x8_6 = 0 then ((fixed_Floor.f x0_4).bind fun t408 => ((fixed_Floor.f x1_4).bind fun t409 => (some (decide (t408 ≤ t409))))) else ((fixed_Div.f kj6 x0_4 x8_6).bind fun t410 => ((fixed_Div.f kj6 x1_4 x8_6).bind fun t411 => (if t410 ≤ t411 then ((fixed_Floor.f x0_4).bind fun t412 => ((fixed_Floor.f x1_4).bind fun t413 => (some (decide (t412 ≤ t413))))) else (some false))))) else (some false)))) else (some false)))) else (some false)) = some r := H
            have A12 := Aside0.mk A120
            clear A120
            by_cases c13 : t402 ≤ t403
            · rw [if_pos c13] at H
              have c13b0 : decide (t402 ≤ t403) = true := decide_eq_true c13
              clear c13
              replace H := Option.bind_eq_some_iff.mp H
              obtain ⟨t404, A140, H⟩ := H
              replace H : ((fixed_Sub.f kj6 a2 x1_4).bind fun t405 => (if t404 ≥ t405 then ((fixed_Mul.f kj6 x0_4 x8_6).bind fun t406 => ((fixed_Mul.f kj6 x1_4 x8_6).bind fun t407 => (if t406 ≤ t407 then (if x8_6 = 0 then ((fixed_Floor.f x0_4).bind fun t408 => ((fixed_Floor.f x1_4).bind fun t409 => (some (decide (t408 ≤ t409))))) else ((fixed_Div.f kj6 x0_4 x8_6).bind fun t410 => ((fixed_Div.f kj6 x1_4 x8_6).bind fun t411 => (if t410 ≤ t411 then ((fixed_Floor.f x0_4).bind fun t412 => ((fixed_Floor.f x1_4).bind fun t413 => (some (decide (t412 ≤ t413))))) else (some false))))) else (some false)))) else (some false))) = some r := H
              have A14 := Aside0.mk A140
              clear A140
              replace H := Option.bind_eq_some_iff.mp H
              obtain ⟨t405, A150, H⟩ := H
              replace H : (if t404 ≥ t405 then ((fixed_Mul.f kj6 x0_4 x8_6).bind fun t406 => ((fixed_Mul.f kj6 x1_4 x8_6).bind fun t407 => (if t406 ≤ t407 then (if x8_6 = 0 then ((fixed_Floor.f x0_4).bind fun t408 => ((fixed_Floor.f x1_4).bind fun t409 => (some (decide (t408 ≤ t409))))) else ((fixed_Div.f kj6 x0_4 x8_6).bind fun t410 => ((fixed_Div.f kj6 x1_4 x8_6).bind fun t411 => (if t410 ≤ t411 then ((fixed_Floor.f x0_4).bind fun t412 => ((fixed_Floor.f x1_4).bind fun t413 => (some (decide (t412 ≤ t413))))) else (some false))))) else (some false)))) else (some false)) = some r := H
              have A15 := Aside0.mk A150
              clear A150
              by_cases c16 : t404 ≥ t405
              · rw [if_pos c16] at H
                have c16b0 : decide (t405 ≤ t404) = true := decide_eq_true c16
                clear c16
                replace H := Option.bind_eq_some_iff.mp H
                obtain ⟨t406, A170, H⟩ := H
                replace H : ((fixed_Mul.f kj6 x1_4 x8_6).bind fun t407 => (if t406 ≤ t407 then (if x8_6 = 0 then ((fixed_Floor.f x0_4).bind fun t408 => ((fixed_Floor.f x1_4).bind fun t409 => (some (decide (t408 ≤ t409))))) else ((fixed_Div.f kj6 x0_4 x8_6).bind fun t410 => ((fixed_Div.f kj6 x1_4 x8_6).bind fun t411 => (if t410 ≤ t411 then ((fixed_Floor.f x0_4).bind fun t412 => ((fixed_Floor.f x1_4).bind fun t413 => (some (decide (t412 ≤ t413))))) else (some false))))) else (some false))) = some r := H
                have A17 := Aside0.mk A170
                clear A170
                replace H := Option.bind_eq_some_iff.mp H
                obtain ⟨t407, A180, H⟩ := H
                replace H : (if t406 ≤ t407 then (if x8_6 = 0 then ((fixed_Floor.f x0_4).bind fun t408 => ((fixed_Floor.f x1_4).bind fun t409 => (some (decide (t408 ≤ t409))))) else ((fixed_Div.f kj6 x0_4 x8_6).bind fun t410 => ((fixed_Div.f kj6 x1_4 x8_6).bind fun t411 => (if t410 ≤ t411 then ((fixed_Floor.f x0_4).bind fun t412 => ((fixed_Floor.f x1_4).bind fun t413 => (some (decide (t412 ≤ t413))))) else (some false))))) else (some false)) = some r := H
                have A18 := Aside0.mk A180
                clear A180
                by_cases c19 : t406 ≤ t407
                · rw [if_pos c19] at H
                  have c19b0 : decide (t406 ≤ t407) = true := decide_eq_true c19
                  clear c19
                  by_cases c20 : x8_6 = 0
                  · rw [if_pos c20] at H
                    have c20b0 : (x8_6 == 0) = true := beq_iff_eq.mpr c20
                    have c20b1 : (x8_6 != 0) = false := bne_eq_false_iff_eq.mpr c20
                    clear c20
                    replace H := Option.bind_eq_some_iff.mp H
                    obtain ⟨t408, A210, H⟩ := H
                    replace H : ((fixed_Floor.f x1_4).bind fun t409 => (some (decide (t408 ≤ t409)))) = some r := H
                    have A21 := Aside0.mk A210
                    clear A210
                    replace H := Option.bind_eq_some_iff.mp H
                    obtain ⟨t409, A220, H⟩ := H
                    replace H : (some (decide (t408 ≤ t409))) = some r := H
                    have A22 := Aside0.mk A220
                    clear A220
                    obtain rfl := Option.some.inj H
                    go_wp2_with (first | (go_at_call 31; (with_reducible refine (fixed_Add.calls kj6 x0_4 a2 t402 _ A11.out).mono ?_); rintro e w' ⟨rfl, ⟨nd, rfl⟩⟩) | (go_at_call 31; (with_reducible refine (fixed_Add.calls kj6 x1_4 a2 t403 _ A12.out).mono ?_); rintro e w' ⟨rfl, ⟨nd, rfl⟩⟩) | (go_at_call 33; (with_reducible refine (fixed_Sub.calls kj6 a2 x0_4 t404 _ A14.out).mono ?_); rintro e w' ⟨rfl, ⟨nd, rfl⟩⟩) | (go_at_call 33; (with_reducible refine (fixed_Sub.calls kj6 a2 x1_4 t405 _ A15.out).mono ?_); rintro e w' ⟨rfl, ⟨nd, rfl⟩⟩) | (go_at_call 15; (with_reducible refine (fixed_Mul.calls kj6 x0_4 x8_6 t406 _ A17.out).mono ?_); rintro e w' ⟨rfl, ⟨nd, rfl⟩⟩) | (go_at_call 15; (with_reducible refine (fixed_Mul.calls kj6 x1_4 x8_6 t407 _ A18.out).mono ?_); rintro e w' ⟨rfl, ⟨nd, rfl⟩⟩) | (go_at_call 19; (with_reducible refine (fixed_Floor.calls x0_4 t408 _ A21.out).mono ?_); rintro e w' ⟨rfl, ⟨nd, rfl⟩⟩) | (go_at_call 19; (with_reducible refine (fixed_Floor.calls x1_4 t409 _ A22.out).mono ?_); rintro e w' ⟨rfl, ⟨nd, rfl⟩⟩))
                    go_ret
                    exact ⟨by first | rfl | (simp; done) | (simp [*]; done), by repeat (first | exact Drawn0.refl _ | apply Drawn0.step)⟩
                  · rw [if_neg c20] at H
                    have c20b0 : (x8_6 == 0) = false := beq_eq_false_iff_ne.mpr c20
                    have c20b1 : (x8_6 != 0) = true := bne_iff_ne.mpr c20
                    replace H := Option.bind_eq_some_iff.mp H
                    obtain ⟨t410, A230, H⟩ := H
                    replace H : ((fixed_Div.f kj6 x1_4 x8_6).bind fun t411 => (if t410 ≤ t411 then ((fixed_Floor.f x0_4).bind fun t412 => ((fixed_Floor.f x1_4).bind fun t413 => (some (decide (t412 ≤ t413))))) else (some false))) = some r := H
                    have A23 := Aside0.mk A230
                    clear A230
                    replace H := Option.bind_eq_some_iff.mp H
                    obtain ⟨t411, A240, H⟩ := H
                    replace H : (if t410 ≤ t411 then ((fixed_Floor.f x0_4).bind fun t412 => ((fixed_Floor.f x1_4).bind fun t413 => (some (decide (t412 ≤ t413))))) else (some false)) = some r := H
                    have A24 := Aside0.mk A240
                    clear A240
                    by_cases c25 : t410 ≤ t411
                    · rw [if_pos c25] at H
                      have c25b0 : decide (t410 ≤ t411) = true := decide_eq_true c25
                      clear c25
                      replace H := Option.bind_eq_some_iff.mp H
                      obtain ⟨t412, A260, H⟩ := H
                      replace H : ((fixed_Floor.f x1_4).bind fun t413 => (some (decide (t412 ≤ t413)))) = some r := H
                      have A26 := Aside0.mk A260
                      clear A260
                      replace H := Option.bind_eq_some_iff.mp H
                      obtain ⟨t413, A270, H⟩ := H
                      replace H : (some (decide (t412 ≤ t413))) = some r := H
                      have A27 := Aside0.mk A270
                      clear A270
                      obtain rfl := Option.some.inj H
                      go_wp2_with (first | (go_at_call 31; (with_reducible refine (fixed_Add.calls kj6 x0_4 a2 t402 _ A11.out).mono ?_); rintro e w' ⟨rfl, ⟨nd, rfl⟩⟩) | (go_at_call 31; (with_reducible refine (fixed_Add.calls kj6 x1_4 a2 t403 _ A12.out).mono ?_); rintro e w' ⟨rfl, ⟨nd, rfl⟩⟩) | (go_at_call 33; (with_reducible refine (fixed_Sub.calls kj6 a2 x0_4 t404 _ A14.out).mono ?_); rintro e w' ⟨rfl, ⟨nd, rfl⟩⟩) | (go_at_call 33; (with_reducible refine (fixed_Sub.calls kj6 a2 x1_4 t405 _ A15.out).mono ?_); rintro e w' ⟨rfl, ⟨nd, rfl⟩⟩) | (go_at_call 15; (with_reducible refine (fixed_Mul.calls kj6 x0_4 x8_6 t406 _ A17.out).mono ?_); rintro e w' ⟨rfl, ⟨nd, rfl⟩⟩) | (go_at_call 15; (with_reducible refine (fixed_Mul.calls kj6 x1_4 x8_6 t407 _ A18.out).mono ?_); rintro e w' ⟨rfl, ⟨nd, rfl⟩⟩) | (go_at_call 25; (with_reducible refine (fixed_Div.calls kj6 x0_4 x8_6 t410 _ A23.out).mono ?_); rintro e w' ⟨rfl, ⟨nd, rfl⟩⟩) | (go_at_call 25; (with_reducible refine (fixed_Div.calls kj6 x1_4 x8_6 t411 _ A24.out).mono ?_); rintro e w' ⟨rfl, ⟨nd, rfl⟩⟩) | (go_at_call 19; (with_reducible refine (fixed_Floor.calls x0_4 t412 _ A26.out).mono ?_); rintro e w' ⟨rfl, ⟨nd, rfl⟩⟩) | (go_at_call 19; (with_reducible refine (fixed_Floor.calls x1_4 t413 _ A27.out).mono ?_); rintro e w' ⟨rfl, ⟨nd, rfl⟩⟩))
                      go_ret
                      exact ⟨by first | rfl | (simp; done) | (simp [*]; done), by repeat (first | exact Drawn0.refl _ | apply Drawn0.step)⟩
                    · rw [if_neg c25] at H
                      have c25b0 : decide (t410 ≤ t411) = false := decide_eq_false c25
                      clear c25
                      obtain rfl := Option.some.inj H
                      go_wp2_with (first | (go_at_call 31; (with_reducible refine (fixed_Add.calls kj6 x0_4 a2 t402 _ A11.out).mono ?_); rintro e w' ⟨rfl, ⟨nd, rfl⟩⟩) | (go_at_call 31; (with_reducible refine (fixed_Add.calls kj6 x1_4 a2 t403 _ A12.out).mono ?_); rintro e w' ⟨rfl, ⟨nd, rfl⟩⟩) | (go_at_call 33; (with_reducible refine (fixed_Sub.calls kj6 a2 x0_4 t404 _ A14.out).mono ?_); rintro e w' ⟨rfl, ⟨nd, rfl⟩⟩) | (go_at_call 33; (with_reducible refine (fixed_Sub.calls kj6 a2 x1_4 t405 _ A15.out).mono ?_); rintro e w' ⟨rfl, ⟨nd, rfl⟩⟩) | (go_at_call 15; (with_reducible refine (fixed_Mul.calls kj6 x0_4 x8_6 t406 _ A17.out).mono ?_); rintro e w' ⟨rfl, ⟨nd, rfl⟩⟩) | (go_at_call 15; (with_reducible refine (fixed_Mul.calls kj6 x1_4 x8_6 t407 _ A18.out).mono ?_); rintro e w' ⟨rfl, ⟨nd, rfl⟩⟩) | (go_at_call 25; (with_reducible refine (fixed_Div.calls kj6 x0_4 x8_6 t410 _ A23.out).mono ?_); rintro e w' ⟨rfl, ⟨nd, rfl⟩⟩) | (go_at_call 25; (with_reducible refine (fixed_Div.calls kj6 x1_4 x8_6 t411 _ A24.out).mono ?_); rintro e w' ⟨rfl, ⟨nd, rfl⟩⟩))
                      go_ret
                      exact ⟨by first | rfl | (simp; done) | (simp [*]; done), by repeat (first | exact Drawn0.refl _ | apply Drawn0.step)⟩
                · rw [if_neg c19] at H
                  have c19b0 : decide (t406 ≤ t407) = false := decide_eq_false c19
                  clear c19
                  obtain rfl := Option.some.inj H
                  go_wp2_with (first | (go_at_call 31; (with_reducible refine (fixed_Add.calls kj6 x0_4 a2 t402 _ A11.out).mono ?_); rintro e w' ⟨rfl, ⟨nd, rfl⟩⟩) | (go_at_call 31; (with_reducible refine (fixed_Add.calls kj6 x1_4 a2 t403 _ A12.out).mono ?_); rintro e w' ⟨rfl, ⟨nd, rfl⟩⟩) | (go_at_call 33; (with_reducible refine (fixed_Sub.calls kj6 a2 x0_4 t404 _ A14.out).mono ?_); rintro e w' ⟨rfl, ⟨nd, rfl⟩⟩) | (go_at_call 33; (with_reducible refine (fixed_Sub.calls kj6 a2 x1_4 t405 _ A15.out).mono ?_); rintro e w' ⟨rfl, ⟨nd, rfl⟩⟩) | (go_at_call 15; (with_reducible refine (fixed_Mul.calls kj6 x0_4 x8_6 t406 _ A17.out).mono ?_); rintro e w' ⟨rfl, ⟨nd, rfl⟩⟩) | (go_at_call 15; (with_reducible refine (fixed_Mul.calls kj6 x1_4 x8_6 t407 _ A18.out).mono ?_); rintro e w' ⟨rfl, ⟨nd, rfl⟩⟩))
                  go_ret
                  exact ⟨by first | rfl | (simp; done) | (simp [*]; done), by repeat (first | exact Drawn0.refl _ | apply Drawn0.step)⟩
              · rw [if_neg c16] at H
                have c16b0 : decide (t405 ≤ t404) = false := decide_eq_false c16
                clear c16
                obtain rfl := Option.some.inj H
                go_wp2_with (first | (go_at_call 31; (with_reducible refine (fixed_Add.calls kj6 x0_4 a2 t402 _ A11.out).mono ?_); rintro e w' ⟨rfl, ⟨nd, rfl⟩⟩) | (go_at_call 31; (with_reducible refine (fixed_Add.calls kj6 x1_4 a2 t403 _ A12.out).mono ?_); rintro e w' ⟨rfl, ⟨nd, rfl⟩⟩) | (go_at_call 33; (with_reducible refine (fixed_Sub.calls kj6 a2 x0_4 t404 _ A14.out).mono ?_); rintro e w' ⟨rfl, ⟨nd, rfl⟩⟩) | (go_at_call 33; (with_reducible refine (fixed_Sub.calls kj6 a2 x1_4 t405 _ A15.out).mono ?_); rintro e w' ⟨rfl, ⟨nd, rfl⟩⟩))
                go_ret
                exact ⟨by first | rfl | (simp; done) | (simp [*]; done), by repeat (first | exact Drawn0.refl _ | apply Drawn0.step)⟩
            · rw [if_neg c13] at H
              have c13b0 : decide (t402 ≤ t403) = false := decide_eq_false c13
              clear c13
              obtain rfl := Option.some.inj H
              go_wp2_with (first | (go_at_call 31; (with_reducible refine (fixed_Add.calls kj6 x0_4 a2 t402 _ A11.out).mono ?_); rintro e w' ⟨rfl, ⟨nd, rfl⟩⟩) | (go_at_call 31; (with_reducible refine (fixed_Add.calls kj6 x1_4 a2 t403 _ A12.out).mono ?_); rintro e w' ⟨rfl, ⟨nd, rfl⟩⟩))
              go_ret
              exact ⟨by first | rfl | (simp; done) | (simp [*]; done), by repeat (first | exact Drawn0.refl _ | apply Drawn0.step)⟩
          · replace c10 := Bool.eq_false_iff.mpr c10
            subst c10
            have H1 : (some false) = some r := by rw [if_neg (show ¬ (false = true) by decide)] at H; exact H
            clear H
            have H := H1
            clear H1
            obtain rfl := Option.some.inj H
            go_wp2
            go_ret
            exact ⟨by first | rfl | (simp; done) | (simp [*]; done), by repeat (first | exact Drawn0.refl _ | apply Drawn0.step)⟩

/-- THE ONE PURE STATEMENT of lysimeterlaw1_FixedOrder: yours. -/
def lysimeterlaw1_FixedOrder.Pure : Prop := ∀ (a0 : Int) (a1 : Int) (a2 : Int), (Lit.int .i64 a0).wf = true → (Lit.int .i64 a1).wf = true → (Lit.int .i64 a2).wf = true → ∃ k, lysimeterlaw1_FixedOrder.f k a0 a1 a2 = some true
theorem lysimeterlaw1_FixedOrder.walk (P : lysimeterlaw1_FixedOrder.Pure) (a0 : Int) (a1 : Int) (a2 : Int) (w : World) (w0 : (Lit.int .i64 a0).wf = true) (w1 : (Lit.int .i64 a1).wf = true) (w2 : (Lit.int .i64 a2).wf = true) :
    Calls Try.prog 13 #[.int .i64 a0, .int .i64 a1, .int .i64 a2] w fun e w' => e = .returned (.bool true) ∧ Below w.heap.size w w' := by
  obtain ⟨k, h⟩ := P a0 a1 a2 w0 w1 w2
  refine (lysimeterlaw1_FixedOrder.calls k a0 a1 a2 true w h).mono ?_
  rintro e w' ⟨rfl, hd⟩
  exact ⟨rfl, hd.below⟩

end Go.Proofs.Ytnaeekahmbilnaa.Fix
