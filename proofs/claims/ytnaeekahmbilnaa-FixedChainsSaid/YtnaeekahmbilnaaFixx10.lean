-- Out of the kit's printer, driven by this repo's wip/gp.py with hand-written contracts beside it. Lean checks it.
import Derived.Test.YtnaeekahmbilnaaFixx0
import Derived.Test.YtnaeekahmbilnaaFixx1
import Derived.Test.YtnaeekahmbilnaaFixx3
import Derived.Test.YtnaeekahmbilnaaFixx4
import Derived.Test.YtnaeekahmbilnaaFixx7
import Derived.Test.YtnaeekahmbilnaaFixx8
namespace Go.Proofs.Ytnaeekahmbilnaa.Fix
open Go.RowKit Go.Proofs.YtnaeekahmbilnaaW.PrintWords Go.Proofs.YtnaeekahmbilnaaW.PrintLast Go.Proofs.YtnaeekahmbilnaaW.PrintMore
attribute [local go_sem] max2_int min2_int max_two min_two max_three min_three max_four min_four   -- for this text's walks alone
set_option linter.unusedVariables false
set_option linter.unusedSimpArgs false

/-! ### lysimeterlaw1_FixedTurns: function 10 -/
mutual
def lysimeterlaw1_FixedTurns.j0 : Nat → Int → Int → Bool → Option (Bool)
  | 0, _, _, _ => none
  | k + 1, x0, x1, x45 => if x45 = true then (some false) else (if x1 < 1048576 then (lysimeterlaw1_FixedTurns.j1 k x0 x1 true) else (if x1 > 1099511627776 then (lysimeterlaw1_FixedTurns.j1 k x0 x1 true) else (if x0 > 1125899906842624 then (lysimeterlaw1_FixedTurns.j1 k x0 x1 true) else (lysimeterlaw1_FixedTurns.j1 k x0 x1 (decide (x0 < (-1125899906842624)))))))
def lysimeterlaw1_FixedTurns.j1 : Nat → Int → Int → Bool → Option (Bool)
  | 0, _, _, _ => none
  | k + 1, x0, x1, x59 => if x59 = true then (some true) else ((fixed_Div.f k x0 x1).bind fun t380 => ((fixed_CeilDiv.f k x0 x1).bind fun t381 => ((fixed_Mul.f k t380 x1).bind fun t382 => (if t382 ≤ x0 then (if t381 ≥ t380 then (if t381 ≤ (wrap64 (t380 + 1)) then ((fixed_Mul.f k t381 x1).bind fun t383 => (some (decide (t383 ≥ (wrap64 (x0 - 1)))))) else (some false)) else (some false)) else (some false)))))
end
def lysimeterlaw1_FixedTurns.f (k : Nat) (a0 : Int) (a1 : Int) : Option (Bool) := (lysimeterlaw1_alive.f k).bind fun t372 => (if t372 = true then ((fixed_Add.f k a0 a1).bind fun t373 => ((fixed_Add.f k a1 a0).bind fun t374 => (if t373 = t374 then ((fixed_Mul.f k a0 a1).bind fun t375 => ((fixed_Mul.f k a1 a0).bind fun t376 => (if t375 = t376 then ((fixed_Mul.f k a0 4294967296).bind fun t377 => (if t377 = a0 then ((fixed_Div.f k a0 4294967296).bind fun t378 => (if t378 = a0 then ((fixed_Mul.f k a0 0).bind fun t379 => (lysimeterlaw1_FixedTurns.j0 k a0 a1 (t379 != 0))) else (lysimeterlaw1_FixedTurns.j0 k a0 a1 true))) else (lysimeterlaw1_FixedTurns.j0 k a0 a1 true))) else (lysimeterlaw1_FixedTurns.j0 k a0 a1 true)))) else (lysimeterlaw1_FixedTurns.j0 k a0 a1 true)))) else (lysimeterlaw1_FixedTurns.j0 k a0 a1 true))
theorem lysimeterlaw1_FixedTurns.mono_l : ∀ k, (∀ y0 y1 y2, LeO (lysimeterlaw1_FixedTurns.j0 k y0 y1 y2) (lysimeterlaw1_FixedTurns.j0 (k + 1) y0 y1 y2)) ∧ (∀ y0 y1 y2, LeO (lysimeterlaw1_FixedTurns.j1 k y0 y1 y2) (lysimeterlaw1_FixedTurns.j1 (k + 1) y0 y1 y2))
  | 0 => ⟨fun _ _ _ r h => by simp [lysimeterlaw1_FixedTurns.j0] at h, fun _ _ _ r h => by simp [lysimeterlaw1_FixedTurns.j1] at h⟩
  | k + 1 => by
    obtain ⟨ih0, ih1⟩ := lysimeterlaw1_FixedTurns.mono_l k
    refine ⟨?_, ?_⟩
    · intro y0 y1 y2
      unfold lysimeterlaw1_FixedTurns.j0
      repeat' first
      | (with_reducible exact ih0 _ _ _)
      | (with_reducible exact ih1 _ _ _)
      | (with_reducible exact fixed_Add.mono _ _ _)
      | (with_reducible exact fixed_CeilDiv.mono _ _ _)
      | (with_reducible exact fixed_Div.mono _ _ _)
      | (with_reducible exact fixed_Mul.mono _ _ _)
      | (with_reducible exact lysimeterlaw1_alive.mono _)
      | (with_reducible exact LeO.refl _)
      | (with_reducible exact LeO.none _)
      | (with_reducible refine LeO.ite ?_ ?_)
      | (with_reducible refine LeO.bind ?_ (fun _ => ?_))
      | exact ih0 _ _ _
      | exact ih1 _ _ _
      | exact fixed_Add.mono _ _ _
      | exact fixed_CeilDiv.mono _ _ _
      | exact fixed_Div.mono _ _ _
      | exact fixed_Mul.mono _ _ _
      | exact lysimeterlaw1_alive.mono _
      | exact LeO.none _
      | refine LeO.ite ?_ ?_
      | refine LeO.bind ?_ (fun _ => ?_)
    · intro y0 y1 y2
      unfold lysimeterlaw1_FixedTurns.j1
      repeat' first
      | (with_reducible exact ih0 _ _ _)
      | (with_reducible exact ih1 _ _ _)
      | (with_reducible exact fixed_Add.mono _ _ _)
      | (with_reducible exact fixed_CeilDiv.mono _ _ _)
      | (with_reducible exact fixed_Div.mono _ _ _)
      | (with_reducible exact fixed_Mul.mono _ _ _)
      | (with_reducible exact lysimeterlaw1_alive.mono _)
      | (with_reducible exact LeO.refl _)
      | (with_reducible exact LeO.none _)
      | (with_reducible refine LeO.ite ?_ ?_)
      | (with_reducible refine LeO.bind ?_ (fun _ => ?_))
      | exact ih0 _ _ _
      | exact ih1 _ _ _
      | exact fixed_Add.mono _ _ _
      | exact fixed_CeilDiv.mono _ _ _
      | exact fixed_Div.mono _ _ _
      | exact fixed_Mul.mono _ _ _
      | exact lysimeterlaw1_alive.mono _
      | exact LeO.none _
      | refine LeO.ite ?_ ?_
      | refine LeO.bind ?_ (fun _ => ?_)
theorem lysimeterlaw1_FixedTurns.mono : ∀ a0 a1 k, LeO (lysimeterlaw1_FixedTurns.f k a0 a1) (lysimeterlaw1_FixedTurns.f (k + 1) a0 a1) := by
  intro a0 a1 k
  obtain ⟨ih0, ih1⟩ := lysimeterlaw1_FixedTurns.mono_l k
  unfold lysimeterlaw1_FixedTurns.f
  repeat' first
      | (with_reducible exact ih0 _ _ _)
      | (with_reducible exact ih1 _ _ _)
      | (with_reducible exact fixed_Add.mono _ _ _)
      | (with_reducible exact fixed_CeilDiv.mono _ _ _)
      | (with_reducible exact fixed_Div.mono _ _ _)
      | (with_reducible exact fixed_Mul.mono _ _ _)
      | (with_reducible exact lysimeterlaw1_alive.mono _)
      | (with_reducible exact LeO.refl _)
      | (with_reducible exact LeO.none _)
      | (with_reducible refine LeO.ite ?_ ?_)
      | (with_reducible refine LeO.bind ?_ (fun _ => ?_))
      | exact ih0 _ _ _
      | exact ih1 _ _ _
      | exact fixed_Add.mono _ _ _
      | exact fixed_CeilDiv.mono _ _ _
      | exact fixed_Div.mono _ _ _
      | exact fixed_Mul.mono _ _ _
      | exact lysimeterlaw1_alive.mono _
      | exact LeO.none _
      | refine LeO.ite ?_ ?_
      | refine LeO.bind ?_ (fun _ => ?_)
set_option maxHeartbeats 8000000 in
set_option maxRecDepth 100000 in
theorem lysimeterlaw1_FixedTurns.calls (k : Nat) (a0 : Int) (a1 : Int) (r : Bool) (w : World) (h : lysimeterlaw1_FixedTurns.f k a0 a1 = some r) :
    Calls Try.prog 10 #[.int .i64 a0, .int .i64 a1] w fun e w' => e = .returned (.bool r) ∧ Drawn0 w w' := by
  have H : ((lysimeterlaw1_alive.f k).bind fun t372 => (if t372 = true then ((fixed_Add.f k a0 a1).bind fun t373 => ((fixed_Add.f k a1 a0).bind fun t374 => (if t373 = t374 then ((fixed_Mul.f k a0 a1).bind fun t375 => ((fixed_Mul.f k a1 a0).bind fun t376 => (if t375 = t376 then ((fixed_Mul.f k a0 4294967296).bind fun t377 => (if t377 = a0 then ((fixed_Div.f k a0 4294967296).bind fun t378 => (if t378 = a0 then ((fixed_Mul.f k a0 0).bind fun t379 => (lysimeterlaw1_FixedTurns.j0 k a0 a1 (t379 != 0))) else (lysimeterlaw1_FixedTurns.j0 k a0 a1 true))) else (lysimeterlaw1_FixedTurns.j0 k a0 a1 true))) else (lysimeterlaw1_FixedTurns.j0 k a0 a1 true)))) else (lysimeterlaw1_FixedTurns.j0 k a0 a1 true)))) else (lysimeterlaw1_FixedTurns.j0 k a0 a1 true))) = some r := h
  clear h
  replace H := Option.bind_eq_some_iff.mp H
  obtain ⟨t372, A30, H⟩ := H
  replace H : (if t372 = true then ((fixed_Add.f k a0 a1).bind fun t373 => ((fixed_Add.f k a1 a0).bind fun t374 => (if t373 = t374 then ((fixed_Mul.f k a0 a1).bind fun t375 => ((fixed_Mul.f k a1 a0).bind fun t376 => (if t375 = t376 then ((fixed_Mul.f k a0 4294967296).bind fun t377 => (if t377 = a0 then ((fixed_Div.f k a0 4294967296).bind fun t378 => (if t378 = a0 then ((fixed_Mul.f k a0 0).bind fun t379 => (lysimeterlaw1_FixedTurns.j0 k a0 a1 (t379 != 0))) else (lysimeterlaw1_FixedTurns.j0 k a0 a1 true))) else (lysimeterlaw1_FixedTurns.j0 k a0 a1 true))) else (lysimeterlaw1_FixedTurns.j0 k a0 a1 true)))) else (lysimeterlaw1_FixedTurns.j0 k a0 a1 true)))) else (lysimeterlaw1_FixedTurns.j0 k a0 a1 true)) = some r := H
  have A3 := Aside0.mk A30
  clear A30
  have HC4 := Aside0.mk H
  clear H
  go_enter Try.func10, Try.ntmps10
  go_upto_region 2 with (first | ((with_reducible refine gate_callee (f := 14) rfl ?_); refine goesL_ (some 8) rfl rfl Try.func14 (by kernel_rfl) rfl #[] rfl (by (try simp only [List.map_toArray, List.map_cons, List.map_nil]); first | done | rfl | (simp only [List.length_drop, List.length_take]; rfl)) ?_; (with_reducible refine (lysimeterlaw1_alive.calls k  t372 _ A3.out).mono ?_); rintro e w' ⟨rfl, ⟨nd, rfl⟩⟩; refine ⟨_, rfl, ?_⟩))
  (try simp only [Act.put, List.setIfInBounds_toArray, List.set_cons_zero, List.set_cons_succ])
  go_cut [45] (fun v45 wc => ∃ (kq : Nat) (x45_3 : Bool), v45 = .bool x45_3 ∧ Aside0 (lysimeterlaw1_FixedTurns.j0 kq a0 a1 x45_3 = some r) ∧ Aside0 (kq ≤ k) ∧ Drawn0 w wc)
  case first =>
    have H := HC4.out
    clear HC4
    by_cases c5 : t372 = true
    · subst c5
      have H1 : ((fixed_Add.f k a0 a1).bind fun t373 => ((fixed_Add.f k a1 a0).bind fun t374 => (if t373 = t374 then ((fixed_Mul.f k a0 a1).bind fun t375 => ((fixed_Mul.f k a1 a0).bind fun t376 => (if t375 = t376 then ((fixed_Mul.f k a0 4294967296).bind fun t377 => (if t377 = a0 then ((fixed_Div.f k a0 4294967296).bind fun t378 => (if t378 = a0 then ((fixed_Mul.f k a0 0).bind fun t379 => (lysimeterlaw1_FixedTurns.j0 k a0 a1 (t379 != 0))) else (lysimeterlaw1_FixedTurns.j0 k a0 a1 true))) else (lysimeterlaw1_FixedTurns.j0 k a0 a1 true))) else (lysimeterlaw1_FixedTurns.j0 k a0 a1 true)))) else (lysimeterlaw1_FixedTurns.j0 k a0 a1 true)))) = some r := by rw [if_pos rfl] at H; exact H
      clear H
      have H := H1
      clear H1
      replace H := Option.bind_eq_some_iff.mp H
      obtain ⟨t373, A60, H⟩ := H
      replace H : ((fixed_Add.f k a1 a0).bind fun t374 => (if t373 = t374 then ((fixed_Mul.f k a0 a1).bind fun t375 => ((fixed_Mul.f k a1 a0).bind fun t376 => (if t375 = t376 then ((fixed_Mul.f k a0 4294967296).bind fun t377 => (if t377 = a0 then ((fixed_Div.f k a0 4294967296).bind fun t378 => (if t378 = a0 then ((fixed_Mul.f k a0 0).bind fun t379 => (lysimeterlaw1_FixedTurns.j0 k a0 a1 (t379 != 0))) else (lysimeterlaw1_FixedTurns.j0 k a0 a1 true))) else (lysimeterlaw1_FixedTurns.j0 k a0 a1 true))) else (lysimeterlaw1_FixedTurns.j0 k a0 a1 true)))) else (lysimeterlaw1_FixedTurns.j0 k a0 a1 true))) = some r := H
      have A6 := Aside0.mk A60
      clear A60
      replace H := Option.bind_eq_some_iff.mp H
      obtain ⟨t374, A70, H⟩ := H
      replace H : (if t373 = t374 then ((fixed_Mul.f k a0 a1).bind fun t375 => ((fixed_Mul.f k a1 a0).bind fun t376 => (if t375 = t376 then ((fixed_Mul.f k a0 4294967296).bind fun t377 => (if t377 = a0 then ((fixed_Div.f k a0 4294967296).bind fun t378 => (if t378 = a0 then ((fixed_Mul.f k a0 0).bind fun t379 => (lysimeterlaw1_FixedTurns.j0 k a0 a1 (t379 != 0))) else (lysimeterlaw1_FixedTurns.j0 k a0 a1 true))) else (lysimeterlaw1_FixedTurns.j0 k a0 a1 true))) else (lysimeterlaw1_FixedTurns.j0 k a0 a1 true)))) else (lysimeterlaw1_FixedTurns.j0 k a0 a1 true)) = some r := H
      have A7 := Aside0.mk A70
      clear A70
      by_cases c8 : t373 = t374
      · rw [if_pos c8] at H
        have c8b0 : (t373 == t374) = true := beq_iff_eq.mpr c8
        have c8b1 : (t373 != t374) = false := bne_eq_false_iff_eq.mpr c8
        clear c8
        (first | rw [c8b0] | (simp only [i64_w, i32_w]; rw [c8b0]) | skip)
        replace H := Option.bind_eq_some_iff.mp H
        obtain ⟨t375, A90, H⟩ := H
        replace H : ((fixed_Mul.f k a1 a0).bind fun t376 => (if t375 = t376 then ((fixed_Mul.f k a0 4294967296).bind fun t377 => (if t377 = a0 then ((fixed_Div.f k a0 4294967296).bind fun t378 => (if t378 = a0 then ((fixed_Mul.f k a0 0).bind fun t379 => (lysimeterlaw1_FixedTurns.j0 k a0 a1 (t379 != 0))) else (lysimeterlaw1_FixedTurns.j0 k a0 a1 true))) else (lysimeterlaw1_FixedTurns.j0 k a0 a1 true))) else (lysimeterlaw1_FixedTurns.j0 k a0 a1 true))) = some r := H
        have A9 := Aside0.mk A90
        clear A90
        replace H := Option.bind_eq_some_iff.mp H
        obtain ⟨t376, A100, H⟩ := H
        replace H : (if t375 = t376 then ((fixed_Mul.f k a0 4294967296).bind fun t377 => (if t377 = a0 then ((fixed_Div.f k a0 4294967296).bind fun t378 => (if t378 = a0 then ((fixed_Mul.f k a0 0).bind fun t379 => (lysimeterlaw1_FixedTurns.j0 k a0 a1 (t379 != 0))) else (lysimeterlaw1_FixedTurns.j0 k a0 a1 true))) else (lysimeterlaw1_FixedTurns.j0 k a0 a1 true))) else (lysimeterlaw1_FixedTurns.j0 k a0 a1 true)) = some r := H
        have A10 := Aside0.mk A100
        clear A100
        by_cases c11 : t375 = t376
        · rw [if_pos c11] at H
          have c11b0 : (t375 == t376) = true := beq_iff_eq.mpr c11
          have c11b1 : (t375 != t376) = false := bne_eq_false_iff_eq.mpr c11
          clear c11
          replace H := Option.bind_eq_some_iff.mp H
          obtain ⟨t377, A120, H⟩ := H
          replace H : (if t377 = a0 then ((fixed_Div.f k a0 4294967296).bind fun t378 => (if t378 = a0 then ((fixed_Mul.f k a0 0).bind fun t379 => (lysimeterlaw1_FixedTurns.j0 k a0 a1 (t379 != 0))) else (lysimeterlaw1_FixedTurns.j0 k a0 a1 true))) else (lysimeterlaw1_FixedTurns.j0 k a0 a1 true)) = some r := H
          have A12 := Aside0.mk A120
          clear A120
          by_cases c13 : t377 = a0
          · rw [if_pos c13] at H
            have c13b0 : (t377 == a0) = true := beq_iff_eq.mpr c13
            have c13b1 : (t377 != a0) = false := bne_eq_false_iff_eq.mpr c13
            clear c13
            replace H := Option.bind_eq_some_iff.mp H
            obtain ⟨t378, A140, H⟩ := H
            replace H : (if t378 = a0 then ((fixed_Mul.f k a0 0).bind fun t379 => (lysimeterlaw1_FixedTurns.j0 k a0 a1 (t379 != 0))) else (lysimeterlaw1_FixedTurns.j0 k a0 a1 true)) = some r := H
            have A14 := Aside0.mk A140
            clear A140
            by_cases c15 : t378 = a0
            · rw [if_pos c15] at H
              have c15b0 : (t378 == a0) = true := beq_iff_eq.mpr c15
              have c15b1 : (t378 != a0) = false := bne_eq_false_iff_eq.mpr c15
              clear c15
              replace H := Option.bind_eq_some_iff.mp H
              obtain ⟨t379, A160, H⟩ := H
              replace H : (lysimeterlaw1_FixedTurns.j0 k a0 a1 (t379 != 0)) = some r := H
              have A16 := Aside0.mk A160
              clear A160
              have H' := Aside0.mk H
              clear H
              go_wp2_with (first | (go_at_call 31; (with_reducible refine (fixed_Add.calls k a0 a1 t373 _ A6.out).mono ?_); rintro e w' ⟨rfl, ⟨nd, rfl⟩⟩) | (go_at_call 31; (with_reducible refine (fixed_Add.calls k a1 a0 t374 _ A7.out).mono ?_); rintro e w' ⟨rfl, ⟨nd, rfl⟩⟩) | (go_at_call 15; (with_reducible refine (fixed_Mul.calls k a0 a1 t375 _ A9.out).mono ?_); rintro e w' ⟨rfl, ⟨nd, rfl⟩⟩) | (go_at_call 15; (with_reducible refine (fixed_Mul.calls k a1 a0 t376 _ A10.out).mono ?_); rintro e w' ⟨rfl, ⟨nd, rfl⟩⟩) | (go_at_call 15; (with_reducible refine (fixed_Mul.calls k a0 4294967296 t377 _ A12.out).mono ?_); rintro e w' ⟨rfl, ⟨nd, rfl⟩⟩) | (go_at_call 25; (with_reducible refine (fixed_Div.calls k a0 4294967296 t378 _ A14.out).mono ?_); rintro e w' ⟨rfl, ⟨nd, rfl⟩⟩) | (go_at_call 15; (with_reducible refine (fixed_Mul.calls k a0 0 t379 _ A16.out).mono ?_); rintro e w' ⟨rfl, ⟨nd, rfl⟩⟩))
              go_meet
              case rel => exact ⟨_, ((t379 != 0)), (by first | rfl | (simp; done) | (simp [*]; done)), H', ⟨by first | omega | exact Nat.le_refl _⟩, by repeat (first | exact Drawn0.refl _ | apply Drawn0.step)⟩
            · rw [if_neg c15] at H
              have c15b0 : (t378 == a0) = false := beq_eq_false_iff_ne.mpr c15
              have c15b1 : (t378 != a0) = true := bne_iff_ne.mpr c15
              have H' := Aside0.mk H
              clear H
              go_wp2_with (first | (go_at_call 31; (with_reducible refine (fixed_Add.calls k a0 a1 t373 _ A6.out).mono ?_); rintro e w' ⟨rfl, ⟨nd, rfl⟩⟩) | (go_at_call 31; (with_reducible refine (fixed_Add.calls k a1 a0 t374 _ A7.out).mono ?_); rintro e w' ⟨rfl, ⟨nd, rfl⟩⟩) | (go_at_call 15; (with_reducible refine (fixed_Mul.calls k a0 a1 t375 _ A9.out).mono ?_); rintro e w' ⟨rfl, ⟨nd, rfl⟩⟩) | (go_at_call 15; (with_reducible refine (fixed_Mul.calls k a1 a0 t376 _ A10.out).mono ?_); rintro e w' ⟨rfl, ⟨nd, rfl⟩⟩) | (go_at_call 15; (with_reducible refine (fixed_Mul.calls k a0 4294967296 t377 _ A12.out).mono ?_); rintro e w' ⟨rfl, ⟨nd, rfl⟩⟩) | (go_at_call 25; (with_reducible refine (fixed_Div.calls k a0 4294967296 t378 _ A14.out).mono ?_); rintro e w' ⟨rfl, ⟨nd, rfl⟩⟩))
              go_meet
              case rel => exact ⟨_, (true), (by first | rfl | (simp; done) | (simp [*]; done)), H', ⟨by first | omega | exact Nat.le_refl _⟩, by repeat (first | exact Drawn0.refl _ | apply Drawn0.step)⟩
          · rw [if_neg c13] at H
            have c13b0 : (t377 == a0) = false := beq_eq_false_iff_ne.mpr c13
            have c13b1 : (t377 != a0) = true := bne_iff_ne.mpr c13
            have H' := Aside0.mk H
            clear H
            go_wp2_with (first | (go_at_call 31; (with_reducible refine (fixed_Add.calls k a0 a1 t373 _ A6.out).mono ?_); rintro e w' ⟨rfl, ⟨nd, rfl⟩⟩) | (go_at_call 31; (with_reducible refine (fixed_Add.calls k a1 a0 t374 _ A7.out).mono ?_); rintro e w' ⟨rfl, ⟨nd, rfl⟩⟩) | (go_at_call 15; (with_reducible refine (fixed_Mul.calls k a0 a1 t375 _ A9.out).mono ?_); rintro e w' ⟨rfl, ⟨nd, rfl⟩⟩) | (go_at_call 15; (with_reducible refine (fixed_Mul.calls k a1 a0 t376 _ A10.out).mono ?_); rintro e w' ⟨rfl, ⟨nd, rfl⟩⟩) | (go_at_call 15; (with_reducible refine (fixed_Mul.calls k a0 4294967296 t377 _ A12.out).mono ?_); rintro e w' ⟨rfl, ⟨nd, rfl⟩⟩))
            go_meet
            case rel => exact ⟨_, (true), (by first | rfl | (simp; done) | (simp [*]; done)), H', ⟨by first | omega | exact Nat.le_refl _⟩, by repeat (first | exact Drawn0.refl _ | apply Drawn0.step)⟩
        · rw [if_neg c11] at H
          have c11b0 : (t375 == t376) = false := beq_eq_false_iff_ne.mpr c11
          have c11b1 : (t375 != t376) = true := bne_iff_ne.mpr c11
          have H' := Aside0.mk H
          clear H
          go_wp2_with (first | (go_at_call 31; (with_reducible refine (fixed_Add.calls k a0 a1 t373 _ A6.out).mono ?_); rintro e w' ⟨rfl, ⟨nd, rfl⟩⟩) | (go_at_call 31; (with_reducible refine (fixed_Add.calls k a1 a0 t374 _ A7.out).mono ?_); rintro e w' ⟨rfl, ⟨nd, rfl⟩⟩) | (go_at_call 15; (with_reducible refine (fixed_Mul.calls k a0 a1 t375 _ A9.out).mono ?_); rintro e w' ⟨rfl, ⟨nd, rfl⟩⟩) | (go_at_call 15; (with_reducible refine (fixed_Mul.calls k a1 a0 t376 _ A10.out).mono ?_); rintro e w' ⟨rfl, ⟨nd, rfl⟩⟩))
          go_meet
          case rel => exact ⟨_, (true), (by first | rfl | (simp; done) | (simp [*]; done)), H', ⟨by first | omega | exact Nat.le_refl _⟩, by repeat (first | exact Drawn0.refl _ | apply Drawn0.step)⟩
      · rw [if_neg c8] at H
        have c8b0 : (t373 == t374) = false := beq_eq_false_iff_ne.mpr c8
        have c8b1 : (t373 != t374) = true := bne_iff_ne.mpr c8
        (first | rw [c8b0] | (simp only [i64_w, i32_w]; rw [c8b0]) | skip)
        have H' := Aside0.mk H
        clear H
        go_wp2_with (first | (go_at_call 31; (with_reducible refine (fixed_Add.calls k a0 a1 t373 _ A6.out).mono ?_); rintro e w' ⟨rfl, ⟨nd, rfl⟩⟩) | (go_at_call 31; (with_reducible refine (fixed_Add.calls k a1 a0 t374 _ A7.out).mono ?_); rintro e w' ⟨rfl, ⟨nd, rfl⟩⟩))
        go_meet
        case rel => exact ⟨_, (true), (by first | rfl | (simp; done) | (simp [*]; done)), H', ⟨by first | omega | exact Nat.le_refl _⟩, by repeat (first | exact Drawn0.refl _ | apply Drawn0.step)⟩
    · replace c5 := Bool.eq_false_iff.mpr c5
      subst c5
      have H1 : (lysimeterlaw1_FixedTurns.j0 k a0 a1 true) = some r := by rw [if_neg (show ¬ (false = true) by decide)] at H; exact H
      clear H
      have H := H1
      clear H1
      have H' := Aside0.mk H
      clear H
      go_wp2
      go_meet
      case rel => exact ⟨_, (true), (by first | rfl | (simp; done) | (simp [*]; done)), H', ⟨by first | omega | exact Nat.le_refl _⟩, by repeat (first | exact Drawn0.refl _ | apply Drawn0.step)⟩
  case rest =>
    clear HC4
    try clear c1
    try clear p2
    try clear c5
    try clear c8
    try clear c8b0
    try clear c8b1
    try clear c10
    try clear c11
    try clear c11b0
    try clear c11b1
    try clear c13
    try clear c13b0
    try clear c13b1
    try clear c14
    try clear c15
    try clear c15b0
    try clear c15b1
    obtain ⟨kq, x45_3, rfl, HA, HJ3, ⟨mc3, rfl⟩⟩ := hcut
    cases kq with
    | zero => exact absurd HA.out (by simp [lysimeterlaw1_FixedTurns.j0])
    | succ kj3 =>
      have H := HA.out
      clear HA
      simp only [lysimeterlaw1_FixedTurns.j0] at H
      by_cases c17 : x45_3 = true
      · subst c17
        have H1 : (some false) = some r := by rw [if_pos rfl] at H; exact H
        clear H
        have H := H1
        clear H1
        obtain rfl := Option.some.inj H
        go_wp2
        go_ret
        exact ⟨by first | rfl | (simp; done) | (simp [*]; done), by repeat (first | exact Drawn0.refl _ | apply Drawn0.step)⟩
      · replace c17 := Bool.eq_false_iff.mpr c17
        subst c17
        have H1 : (if a1 < 1048576 then (lysimeterlaw1_FixedTurns.j1 kj3 a0 a1 true) else (if a1 > 1099511627776 then (lysimeterlaw1_FixedTurns.j1 kj3 a0 a1 true) else (if a0 > 1125899906842624 then (lysimeterlaw1_FixedTurns.j1 kj3 a0 a1 true) else (lysimeterlaw1_FixedTurns.j1 kj3 a0 a1 (decide (a0 < (-1125899906842624))))))) = some r := by rw [if_neg (show ¬ (false = true) by decide)] at H; exact H
        clear H
        have H := H1
        clear H1
        have HC18 := Aside0.mk H
        clear H
        go_upto_region 4 with (fail)
        go_cut [59] (fun v59 wc => ∃ (kq : Nat) (x59_17 : Bool), v59 = .bool x59_17 ∧ Aside0 (lysimeterlaw1_FixedTurns.j1 kq a0 a1 x59_17 = some r) ∧ Aside0 (kq ≤ kj3) ∧ Drawn0 w wc)
        case first =>
          have H := HC18.out
          clear HC18
          by_cases c19 : a1 < 1048576
          · rw [if_pos c19] at H
            have c19b0 : decide (a1 < 1048576) = true := decide_eq_true c19
            clear c19
            (first | rw [c19b0] | (simp only [i64_w, i32_w]; rw [c19b0]) | skip)
            have H' := Aside0.mk H
            clear H
            go_wp2
            go_meet
            case rel => exact ⟨_, (true), (by first | rfl | (simp; done) | (simp [*]; done)), H', ⟨by have := HJ3.out; first | omega | exact Nat.le_refl _⟩, by repeat (first | exact Drawn0.refl _ | apply Drawn0.step)⟩
          · rw [if_neg c19] at H
            have c19b0 : decide (a1 < 1048576) = false := decide_eq_false c19
            clear c19
            (first | rw [c19b0] | (simp only [i64_w, i32_w]; rw [c19b0]) | skip)
            by_cases c20 : a1 > 1099511627776
            · rw [if_pos c20] at H
              have c20b0 : decide (1099511627776 < a1) = true := decide_eq_true c20
              clear c20
              have H' := Aside0.mk H
              clear H
              go_wp2
              go_meet
              case rel => exact ⟨_, (true), (by first | rfl | (simp; done) | (simp [*]; done)), H', ⟨by have := HJ3.out; first | omega | exact Nat.le_refl _⟩, by repeat (first | exact Drawn0.refl _ | apply Drawn0.step)⟩
            · rw [if_neg c20] at H
              have c20b0 : decide (1099511627776 < a1) = false := decide_eq_false c20
              clear c20
              by_cases c21 : a0 > 1125899906842624
              · rw [if_pos c21] at H
                have c21b0 : decide (1125899906842624 < a0) = true := decide_eq_true c21
                clear c21
                have H' := Aside0.mk H
                clear H
                go_wp2
                go_meet
                case rel => exact ⟨_, (true), (by first | rfl | (simp; done) | (simp [*]; done)), H', ⟨by have := HJ3.out; first | omega | exact Nat.le_refl _⟩, by repeat (first | exact Drawn0.refl _ | apply Drawn0.step)⟩
              · rw [if_neg c21] at H
                have c21b0 : decide (1125899906842624 < a0) = false := decide_eq_false c21
                clear c21
                have H' := Aside0.mk H
                clear H
                go_wp2
                go_meet
                case rel => exact ⟨_, (decide (a0 < (-1125899906842624))), (by first | rfl | (simp; done) | (simp [*]; done)), H', ⟨by have := HJ3.out; first | omega | exact Nat.le_refl _⟩, by repeat (first | exact Drawn0.refl _ | apply Drawn0.step)⟩
        case rest =>
          clear HC18
          try clear c1
          try clear c2
          try clear p2
          try clear c3
          try clear c5
          try clear c8
          try clear c8b0
          try clear c8b1
          try clear c10
          try clear c11
          try clear c11b0
          try clear c11b1
          try clear c13
          try clear c13b0
          try clear c13b1
          try clear c14
          try clear c15
          try clear c15b0
          try clear c15b1
          try clear c17
          try clear c19
          try clear c19b0
          try clear c20
          try clear c20b0
          try clear c21
          try clear c21b0
          try clear p2
          obtain ⟨kq, x59_17, rfl, HA, HJ17, ⟨mc17, rfl⟩⟩ := hcut
          cases kq with
          | zero => exact absurd HA.out (by simp [lysimeterlaw1_FixedTurns.j1])
          | succ kj17 =>
            have H := HA.out
            clear HA
            simp only [lysimeterlaw1_FixedTurns.j1] at H
            by_cases c22 : x59_17 = true
            · subst c22
              have H1 : (some true) = some r := by rw [if_pos rfl] at H; exact H
              clear H
              have H := H1
              clear H1
              obtain rfl := Option.some.inj H
              go_wp2
              go_ret
              exact ⟨by first | rfl | (simp; done) | (simp [*]; done), by repeat (first | exact Drawn0.refl _ | apply Drawn0.step)⟩
            · replace c22 := Bool.eq_false_iff.mpr c22
              subst c22
              have H1 : ((fixed_Div.f kj17 a0 a1).bind fun t380 => ((fixed_CeilDiv.f kj17 a0 a1).bind fun t381 => ((fixed_Mul.f kj17 t380 a1).bind fun t382 => (if t382 ≤ a0 then (if t381 ≥ t380 then (if t381 ≤ (wrap64 (t380 + 1)) then ((fixed_Mul.f kj17 t381 a1).bind fun t383 => (some (decide (t383 ≥ (wrap64 (a0 - 1)))))) else (some false)) else (some false)) else (some false))))) = some r := by rw [if_neg (show ¬ (false = true) by decide)] at H; exact H
              clear H
              have H := H1
              clear H1
              replace H := Option.bind_eq_some_iff.mp H
              obtain ⟨t380, A230, H⟩ := H
              replace H : ((fixed_CeilDiv.f kj17 a0 a1).bind fun t381 => ((fixed_Mul.f kj17 t380 a1).bind fun t382 => (if t382 ≤ a0 then (if t381 ≥ t380 then (if t381 ≤ (wrap64 (t380 + 1)) then ((fixed_Mul.f kj17 t381 a1).bind fun t383 => (some (decide (t383 ≥ (wrap64 (a0 - 1)))))) else (some false)) else (some false)) else (some false)))) = some r := H
              have A23 := Aside0.mk A230
              clear A230
              replace H := Option.bind_eq_some_iff.mp H
              obtain ⟨t381, A240, H⟩ := H
              replace H : ((fixed_Mul.f kj17 t380 a1).bind fun t382 => (if t382 ≤ a0 then (if t381 ≥ t380 then (if t381 ≤ (wrap64 (t380 + 1)) then ((fixed_Mul.f kj17 t381 a1).bind fun t383 => (some (decide (t383 ≥ (wrap64 (a0 - 1)))))) else (some false)) else (some false)) else (some false))) = some r := H
              have A24 := Aside0.mk A240
              clear A240
              replace H := Option.bind_eq_some_iff.mp H
              obtain ⟨t382, A250, H⟩ := H
              replace H : (if t382 ≤ a0 then (if t381 ≥ t380 then (if t381 ≤ (wrap64 (t380 + 1)) then ((fixed_Mul.f kj17 t381 a1).bind fun t383 => (some (decide (t383 ≥ (wrap64 (a0 - 1)))))) else (some false)) else (some false)) else (some false)) = some r := H
              have A25 := Aside0.mk A250
              clear A250
              by_cases c26 : t382 ≤ a0
              · rw [if_pos c26] at H
                have c26b0 : decide (t382 ≤ a0) = true := decide_eq_true c26
                clear c26
                by_cases c27 : t381 ≥ t380
                · rw [if_pos c27] at H
                  have c27b0 : decide (t380 ≤ t381) = true := decide_eq_true c27
                  clear c27
                  by_cases c28 : t381 ≤ (wrap64 (t380 + 1))
                  · rw [if_pos c28] at H
                    have c28b0 : decide (t381 ≤ (wrap64 (t380 + 1))) = true := decide_eq_true c28
                    clear c28
                    replace H := Option.bind_eq_some_iff.mp H
                    obtain ⟨t383, A290, H⟩ := H
                    replace H : (some (decide (t383 ≥ (wrap64 (a0 - 1))))) = some r := H
                    have A29 := Aside0.mk A290
                    clear A290
                    obtain rfl := Option.some.inj H
                    go_wp2_with (first | ((with_reducible refine gate_callee (f := 25) rfl ?_); refine goesL_ (some 62) rfl rfl Try.func25 (by kernel_rfl) rfl #[.int .i64 a0, .int .i64 a1] rfl (by (try simp only [List.map_toArray, List.map_cons, List.map_nil]); first | done | rfl | (simp only [List.length_drop, List.length_take]; rfl)) ?_; (with_reducible refine (fixed_Div.calls kj17 a0 a1 t380 _ A23.out).mono ?_); rintro e w' ⟨rfl, ⟨nd, rfl⟩⟩; refine ⟨_, rfl, ?_⟩) | ((with_reducible refine gate_callee (f := 27) rfl ?_); refine goesL_ (some 65) rfl rfl Try.func27 (by kernel_rfl) rfl #[.int .i64 a0, .int .i64 a1] rfl (by (try simp only [List.map_toArray, List.map_cons, List.map_nil]); first | done | rfl | (simp only [List.length_drop, List.length_take]; rfl)) ?_; (with_reducible refine (fixed_CeilDiv.calls kj17 a0 a1 t381 _ A24.out).mono ?_); rintro e w' ⟨rfl, ⟨nd, rfl⟩⟩; refine ⟨_, rfl, ?_⟩) | ((with_reducible refine gate_callee (f := 15) rfl ?_); refine goesL_ (some 68) rfl rfl Try.func15 (by kernel_rfl) rfl #[.int .i64 t380, .int .i64 a1] rfl (by (try simp only [List.map_toArray, List.map_cons, List.map_nil]); first | done | rfl | (simp only [List.length_drop, List.length_take]; rfl)) ?_; (with_reducible refine (fixed_Mul.calls kj17 t380 a1 t382 _ A25.out).mono ?_); rintro e w' ⟨rfl, ⟨nd, rfl⟩⟩; refine ⟨_, rfl, ?_⟩) | (go_at_call 15; (with_reducible refine (fixed_Mul.calls kj17 t381 a1 t383 _ A29.out).mono ?_); rintro e w' ⟨rfl, ⟨nd, rfl⟩⟩))
                    go_ret
                    exact ⟨by first | rfl | (simp; done) | (simp [*]; done), by repeat (first | exact Drawn0.refl _ | apply Drawn0.step)⟩
                  · rw [if_neg c28] at H
                    have c28b0 : decide (t381 ≤ (wrap64 (t380 + 1))) = false := decide_eq_false c28
                    clear c28
                    obtain rfl := Option.some.inj H
                    go_wp2_with (first | ((with_reducible refine gate_callee (f := 25) rfl ?_); refine goesL_ (some 62) rfl rfl Try.func25 (by kernel_rfl) rfl #[.int .i64 a0, .int .i64 a1] rfl (by (try simp only [List.map_toArray, List.map_cons, List.map_nil]); first | done | rfl | (simp only [List.length_drop, List.length_take]; rfl)) ?_; (with_reducible refine (fixed_Div.calls kj17 a0 a1 t380 _ A23.out).mono ?_); rintro e w' ⟨rfl, ⟨nd, rfl⟩⟩; refine ⟨_, rfl, ?_⟩) | ((with_reducible refine gate_callee (f := 27) rfl ?_); refine goesL_ (some 65) rfl rfl Try.func27 (by kernel_rfl) rfl #[.int .i64 a0, .int .i64 a1] rfl (by (try simp only [List.map_toArray, List.map_cons, List.map_nil]); first | done | rfl | (simp only [List.length_drop, List.length_take]; rfl)) ?_; (with_reducible refine (fixed_CeilDiv.calls kj17 a0 a1 t381 _ A24.out).mono ?_); rintro e w' ⟨rfl, ⟨nd, rfl⟩⟩; refine ⟨_, rfl, ?_⟩) | ((with_reducible refine gate_callee (f := 15) rfl ?_); refine goesL_ (some 68) rfl rfl Try.func15 (by kernel_rfl) rfl #[.int .i64 t380, .int .i64 a1] rfl (by (try simp only [List.map_toArray, List.map_cons, List.map_nil]); first | done | rfl | (simp only [List.length_drop, List.length_take]; rfl)) ?_; (with_reducible refine (fixed_Mul.calls kj17 t380 a1 t382 _ A25.out).mono ?_); rintro e w' ⟨rfl, ⟨nd, rfl⟩⟩; refine ⟨_, rfl, ?_⟩))
                    go_ret
                    exact ⟨by first | rfl | (simp; done) | (simp [*]; done), by repeat (first | exact Drawn0.refl _ | apply Drawn0.step)⟩
                · rw [if_neg c27] at H
                  have c27b0 : decide (t380 ≤ t381) = false := decide_eq_false c27
                  clear c27
                  obtain rfl := Option.some.inj H
                  go_wp2_with (first | ((with_reducible refine gate_callee (f := 25) rfl ?_); refine goesL_ (some 62) rfl rfl Try.func25 (by kernel_rfl) rfl #[.int .i64 a0, .int .i64 a1] rfl (by (try simp only [List.map_toArray, List.map_cons, List.map_nil]); first | done | rfl | (simp only [List.length_drop, List.length_take]; rfl)) ?_; (with_reducible refine (fixed_Div.calls kj17 a0 a1 t380 _ A23.out).mono ?_); rintro e w' ⟨rfl, ⟨nd, rfl⟩⟩; refine ⟨_, rfl, ?_⟩) | ((with_reducible refine gate_callee (f := 27) rfl ?_); refine goesL_ (some 65) rfl rfl Try.func27 (by kernel_rfl) rfl #[.int .i64 a0, .int .i64 a1] rfl (by (try simp only [List.map_toArray, List.map_cons, List.map_nil]); first | done | rfl | (simp only [List.length_drop, List.length_take]; rfl)) ?_; (with_reducible refine (fixed_CeilDiv.calls kj17 a0 a1 t381 _ A24.out).mono ?_); rintro e w' ⟨rfl, ⟨nd, rfl⟩⟩; refine ⟨_, rfl, ?_⟩) | ((with_reducible refine gate_callee (f := 15) rfl ?_); refine goesL_ (some 68) rfl rfl Try.func15 (by kernel_rfl) rfl #[.int .i64 t380, .int .i64 a1] rfl (by (try simp only [List.map_toArray, List.map_cons, List.map_nil]); first | done | rfl | (simp only [List.length_drop, List.length_take]; rfl)) ?_; (with_reducible refine (fixed_Mul.calls kj17 t380 a1 t382 _ A25.out).mono ?_); rintro e w' ⟨rfl, ⟨nd, rfl⟩⟩; refine ⟨_, rfl, ?_⟩))
                  go_ret
                  exact ⟨by first | rfl | (simp; done) | (simp [*]; done), by repeat (first | exact Drawn0.refl _ | apply Drawn0.step)⟩
              · rw [if_neg c26] at H
                have c26b0 : decide (t382 ≤ a0) = false := decide_eq_false c26
                clear c26
                obtain rfl := Option.some.inj H
                go_wp2_with (first | ((with_reducible refine gate_callee (f := 25) rfl ?_); refine goesL_ (some 62) rfl rfl Try.func25 (by kernel_rfl) rfl #[.int .i64 a0, .int .i64 a1] rfl (by (try simp only [List.map_toArray, List.map_cons, List.map_nil]); first | done | rfl | (simp only [List.length_drop, List.length_take]; rfl)) ?_; (with_reducible refine (fixed_Div.calls kj17 a0 a1 t380 _ A23.out).mono ?_); rintro e w' ⟨rfl, ⟨nd, rfl⟩⟩; refine ⟨_, rfl, ?_⟩) | ((with_reducible refine gate_callee (f := 27) rfl ?_); refine goesL_ (some 65) rfl rfl Try.func27 (by kernel_rfl) rfl #[.int .i64 a0, .int .i64 a1] rfl (by (try simp only [List.map_toArray, List.map_cons, List.map_nil]); first | done | rfl | (simp only [List.length_drop, List.length_take]; rfl)) ?_; (with_reducible refine (fixed_CeilDiv.calls kj17 a0 a1 t381 _ A24.out).mono ?_); rintro e w' ⟨rfl, ⟨nd, rfl⟩⟩; refine ⟨_, rfl, ?_⟩) | ((with_reducible refine gate_callee (f := 15) rfl ?_); refine goesL_ (some 68) rfl rfl Try.func15 (by kernel_rfl) rfl #[.int .i64 t380, .int .i64 a1] rfl (by (try simp only [List.map_toArray, List.map_cons, List.map_nil]); first | done | rfl | (simp only [List.length_drop, List.length_take]; rfl)) ?_; (with_reducible refine (fixed_Mul.calls kj17 t380 a1 t382 _ A25.out).mono ?_); rintro e w' ⟨rfl, ⟨nd, rfl⟩⟩; refine ⟨_, rfl, ?_⟩))
                go_ret
                exact ⟨by first | rfl | (simp; done) | (simp [*]; done), by repeat (first | exact Drawn0.refl _ | apply Drawn0.step)⟩

/-- THE ONE PURE STATEMENT of lysimeterlaw1_FixedTurns: yours. -/
def lysimeterlaw1_FixedTurns.Pure : Prop := ∀ (a0 : Int) (a1 : Int), (Lit.int .i64 a0).wf = true → (Lit.int .i64 a1).wf = true → ∃ k, lysimeterlaw1_FixedTurns.f k a0 a1 = some true
theorem lysimeterlaw1_FixedTurns.walk (P : lysimeterlaw1_FixedTurns.Pure) (a0 : Int) (a1 : Int) (w : World) (w0 : (Lit.int .i64 a0).wf = true) (w1 : (Lit.int .i64 a1).wf = true) :
    Calls Try.prog 10 #[.int .i64 a0, .int .i64 a1] w fun e w' => e = .returned (.bool true) ∧ Below w.heap.size w w' := by
  obtain ⟨k, h⟩ := P a0 a1 w0 w1
  refine (lysimeterlaw1_FixedTurns.calls k a0 a1 true w h).mono ?_
  rintro e w' ⟨rfl, hd⟩
  exact ⟨rfl, hd.below⟩

/-! ### lysimeterlaw1_FixedHalves: function 11 -/
def lysimeterlaw1_FixedHalves.f (k : Nat) (a0 : Int) : Option (Bool) := (lysimeterlaw1_alive.f k).bind fun t384 => ((fixed_Mul.f k a0 2147483648).bind fun t385 => ((lysimeterref1_Of.f 2).bind fun t386 => ((fixed_Div.f k a0 t386).bind fun t387 => ((lysimeterref1_Of.f 2).bind fun t388 => ((fixed_CeilDiv.f k a0 t388).bind fun t389 => (if t384 = true then (if t385 = t387 then (if t385 = (a0 / 2) then (if (wrap64 (t389 - t385)) = (Go.bits .and .i64 a0 1) then ((fixed_Add.f k t385 t389).bind fun t390 => (some (t390 == a0))) else (some false)) else (some false)) else (some false)) else (some false)))))))
theorem lysimeterlaw1_FixedHalves.mono : ∀ a0 k, LeO (lysimeterlaw1_FixedHalves.f k a0) (lysimeterlaw1_FixedHalves.f (k + 1) a0) := by
  intro a0 k
  unfold lysimeterlaw1_FixedHalves.f
  repeat' first
      | (with_reducible exact fixed_Add.mono _ _ _)
      | (with_reducible exact fixed_CeilDiv.mono _ _ _)
      | (with_reducible exact fixed_Div.mono _ _ _)
      | (with_reducible exact fixed_Mul.mono _ _ _)
      | (with_reducible exact lysimeterlaw1_alive.mono _)
      | (with_reducible exact LeO.refl _)
      | (with_reducible exact LeO.none _)
      | (with_reducible refine LeO.ite ?_ ?_)
      | (with_reducible refine LeO.bind ?_ (fun _ => ?_))
      | exact fixed_Add.mono _ _ _
      | exact fixed_CeilDiv.mono _ _ _
      | exact fixed_Div.mono _ _ _
      | exact fixed_Mul.mono _ _ _
      | exact lysimeterlaw1_alive.mono _
      | exact LeO.none _
      | refine LeO.ite ?_ ?_
      | refine LeO.bind ?_ (fun _ => ?_)
set_option maxHeartbeats 8000000 in
set_option maxRecDepth 100000 in
theorem lysimeterlaw1_FixedHalves.calls (k : Nat) (a0 : Int) (r : Bool) (w : World) (h : lysimeterlaw1_FixedHalves.f k a0 = some r) :
    Calls Try.prog 11 #[.int .i64 a0] w fun e w' => e = .returned (.bool r) ∧ Drawn0 w w' := by
  have H : ((lysimeterlaw1_alive.f k).bind fun t384 => ((fixed_Mul.f k a0 2147483648).bind fun t385 => ((lysimeterref1_Of.f 2).bind fun t386 => ((fixed_Div.f k a0 t386).bind fun t387 => ((lysimeterref1_Of.f 2).bind fun t388 => ((fixed_CeilDiv.f k a0 t388).bind fun t389 => (if t384 = true then (if t385 = t387 then (if t385 = (a0 / 2) then (if (wrap64 (t389 - t385)) = (Go.bits .and .i64 a0 1) then ((fixed_Add.f k t385 t389).bind fun t390 => (some (t390 == a0))) else (some false)) else (some false)) else (some false)) else (some false)))))))) = some r := h
  clear h
  replace H := Option.bind_eq_some_iff.mp H
  obtain ⟨t384, A20, H⟩ := H
  replace H : ((fixed_Mul.f k a0 2147483648).bind fun t385 => ((lysimeterref1_Of.f 2).bind fun t386 => ((fixed_Div.f k a0 t386).bind fun t387 => ((lysimeterref1_Of.f 2).bind fun t388 => ((fixed_CeilDiv.f k a0 t388).bind fun t389 => (if t384 = true then (if t385 = t387 then (if t385 = (a0 / 2) then (if (wrap64 (t389 - t385)) = (Go.bits .and .i64 a0 1) then ((fixed_Add.f k t385 t389).bind fun t390 => (some (t390 == a0))) else (some false)) else (some false)) else (some false)) else (some false))))))) = some r := H
  have A2 := Aside0.mk A20
  clear A20
  replace H := Option.bind_eq_some_iff.mp H
  obtain ⟨t385, A30, H⟩ := H
  replace H : ((lysimeterref1_Of.f 2).bind fun t386 => ((fixed_Div.f k a0 t386).bind fun t387 => ((lysimeterref1_Of.f 2).bind fun t388 => ((fixed_CeilDiv.f k a0 t388).bind fun t389 => (if t384 = true then (if t385 = t387 then (if t385 = (a0 / 2) then (if (wrap64 (t389 - t385)) = (Go.bits .and .i64 a0 1) then ((fixed_Add.f k t385 t389).bind fun t390 => (some (t390 == a0))) else (some false)) else (some false)) else (some false)) else (some false)))))) = some r := H
  have A3 := Aside0.mk A30
  clear A30
  replace H := Option.bind_eq_some_iff.mp H
  obtain ⟨t386, A40, H⟩ := H
  replace H : ((fixed_Div.f k a0 t386).bind fun t387 => ((lysimeterref1_Of.f 2).bind fun t388 => ((fixed_CeilDiv.f k a0 t388).bind fun t389 => (if t384 = true then (if t385 = t387 then (if t385 = (a0 / 2) then (if (wrap64 (t389 - t385)) = (Go.bits .and .i64 a0 1) then ((fixed_Add.f k t385 t389).bind fun t390 => (some (t390 == a0))) else (some false)) else (some false)) else (some false)) else (some false))))) = some r := H
  have A4 := Aside0.mk A40
  clear A40
  replace H := Option.bind_eq_some_iff.mp H
  obtain ⟨t387, A50, H⟩ := H
  replace H : ((lysimeterref1_Of.f 2).bind fun t388 => ((fixed_CeilDiv.f k a0 t388).bind fun t389 => (if t384 = true then (if t385 = t387 then (if t385 = (a0 / 2) then (if (wrap64 (t389 - t385)) = (Go.bits .and .i64 a0 1) then ((fixed_Add.f k t385 t389).bind fun t390 => (some (t390 == a0))) else (some false)) else (some false)) else (some false)) else (some false)))) = some r := H
  have A5 := Aside0.mk A50
  clear A50
  replace H := Option.bind_eq_some_iff.mp H
  obtain ⟨t388, A60, H⟩ := H
  replace H : ((fixed_CeilDiv.f k a0 t388).bind fun t389 => (if t384 = true then (if t385 = t387 then (if t385 = (a0 / 2) then (if (wrap64 (t389 - t385)) = (Go.bits .and .i64 a0 1) then ((fixed_Add.f k t385 t389).bind fun t390 => (some (t390 == a0))) else (some false)) else (some false)) else (some false)) else (some false))) = some r := H
  have A6 := Aside0.mk A60
  clear A60
  replace H := Option.bind_eq_some_iff.mp H
  obtain ⟨t389, A70, H⟩ := H
  replace H : (if t384 = true then (if t385 = t387 then (if t385 = (a0 / 2) then (if (wrap64 (t389 - t385)) = (Go.bits .and .i64 a0 1) then ((fixed_Add.f k t385 t389).bind fun t390 => (some (t390 == a0))) else (some false)) else (some false)) else (some false)) else (some false)) = some r := H
  have A7 := Aside0.mk A70
  clear A70
  by_cases c8 : t384 = true
  · subst c8
    have H1 : (if t385 = t387 then (if t385 = (a0 / 2) then (if (wrap64 (t389 - t385)) = (Go.bits .and .i64 a0 1) then ((fixed_Add.f k t385 t389).bind fun t390 => (some (t390 == a0))) else (some false)) else (some false)) else (some false)) = some r := by rw [if_pos rfl] at H; exact H
    clear H
    have H := H1
    clear H1
    by_cases c9 : t385 = t387
    · rw [if_pos c9] at H
      have c9b0 : (t385 == t387) = true := beq_iff_eq.mpr c9
      have c9b1 : (t385 != t387) = false := bne_eq_false_iff_eq.mpr c9
      clear c9
      by_cases c10 : t385 = (a0 / 2)
      · rw [if_pos c10] at H
        have c10b0 : (t385 == (a0 / 2)) = true := beq_iff_eq.mpr c10
        have c10b1 : (t385 != (a0 / 2)) = false := bne_eq_false_iff_eq.mpr c10
        clear c10
        by_cases c11 : (wrap64 (t389 - t385)) = (Go.bits .and .i64 a0 1)
        · rw [if_pos c11] at H
          have c11b0 : ((wrap64 (t389 - t385)) == (Go.bits .and .i64 a0 1)) = true := beq_iff_eq.mpr c11
          have c11b1 : ((wrap64 (t389 - t385)) != (Go.bits .and .i64 a0 1)) = false := bne_eq_false_iff_eq.mpr c11
          clear c11
          replace H := Option.bind_eq_some_iff.mp H
          obtain ⟨t390, A120, H⟩ := H
          replace H : (some (t390 == a0)) = some r := H
          have A12 := Aside0.mk A120
          clear A120
          obtain rfl := Option.some.inj H
          go_enter Try.func11, Try.ntmps11
          go_wp2_with (first | ((with_reducible refine gate_callee (f := 14) rfl ?_); refine goesL_ (some 7) rfl rfl Try.func14 (by kernel_rfl) rfl #[] rfl (by (try simp only [List.map_toArray, List.map_cons, List.map_nil]); first | done | rfl | (simp only [List.length_drop, List.length_take]; rfl)) ?_; (with_reducible refine (lysimeterlaw1_alive.calls k  true _ A2.out).mono ?_); rintro e w' ⟨rfl, ⟨nd, rfl⟩⟩; refine ⟨_, rfl, ?_⟩) | ((with_reducible refine gate_callee (f := 15) rfl ?_); refine goesL_ (some 9) rfl rfl Try.func15 (by kernel_rfl) rfl #[.int .i64 a0, .int .i64 2147483648] rfl (by (try simp only [List.map_toArray, List.map_cons, List.map_nil]); first | done | rfl | (simp only [List.length_drop, List.length_take]; rfl)) ?_; (with_reducible refine (fixed_Mul.calls k a0 2147483648 t385 _ A3.out).mono ?_); rintro e w' ⟨rfl, ⟨nd, rfl⟩⟩; refine ⟨_, rfl, ?_⟩) | ((with_reducible refine gate_callee (f := 18) rfl ?_); refine goesL_ (some 11) rfl rfl Try.func18 (by kernel_rfl) rfl #[.int .i64 2] rfl (by (try simp only [List.map_toArray, List.map_cons, List.map_nil]); first | done | rfl | (simp only [List.length_drop, List.length_take]; rfl)) ?_; (with_reducible refine (lysimeterref1_Of.calls 2 t386 _ A4.out).mono ?_); rintro e w' ⟨rfl, ⟨nd, rfl⟩⟩; refine ⟨_, rfl, ?_⟩) | ((with_reducible refine gate_callee (f := 25) rfl ?_); refine goesL_ (some 12) rfl rfl Try.func25 (by kernel_rfl) rfl #[.int .i64 a0, .int .i64 t386] rfl (by (try simp only [List.map_toArray, List.map_cons, List.map_nil]); first | done | rfl | (simp only [List.length_drop, List.length_take]; rfl)) ?_; (with_reducible refine (fixed_Div.calls k a0 t386 t387 _ A5.out).mono ?_); rintro e w' ⟨rfl, ⟨nd, rfl⟩⟩; refine ⟨_, rfl, ?_⟩) | ((with_reducible refine gate_callee (f := 18) rfl ?_); refine goesL_ (some 14) rfl rfl Try.func18 (by kernel_rfl) rfl #[.int .i64 2] rfl (by (try simp only [List.map_toArray, List.map_cons, List.map_nil]); first | done | rfl | (simp only [List.length_drop, List.length_take]; rfl)) ?_; (with_reducible refine (lysimeterref1_Of.calls 2 t388 _ A6.out).mono ?_); rintro e w' ⟨rfl, ⟨nd, rfl⟩⟩; refine ⟨_, rfl, ?_⟩) | ((with_reducible refine gate_callee (f := 27) rfl ?_); refine goesL_ (some 15) rfl rfl Try.func27 (by kernel_rfl) rfl #[.int .i64 a0, .int .i64 t388] rfl (by (try simp only [List.map_toArray, List.map_cons, List.map_nil]); first | done | rfl | (simp only [List.length_drop, List.length_take]; rfl)) ?_; (with_reducible refine (fixed_CeilDiv.calls k a0 t388 t389 _ A7.out).mono ?_); rintro e w' ⟨rfl, ⟨nd, rfl⟩⟩; refine ⟨_, rfl, ?_⟩) | (go_at_call 31; (with_reducible refine (fixed_Add.calls k t385 t389 t390 _ A12.out).mono ?_); rintro e w' ⟨rfl, ⟨nd, rfl⟩⟩))
          go_ret
          exact ⟨by first | rfl | (simp; done) | (simp [*]; done), by repeat (first | exact Drawn0.refl _ | apply Drawn0.step)⟩
        · rw [if_neg c11] at H
          have c11b0 : ((wrap64 (t389 - t385)) == (Go.bits .and .i64 a0 1)) = false := beq_eq_false_iff_ne.mpr c11
          have c11b1 : ((wrap64 (t389 - t385)) != (Go.bits .and .i64 a0 1)) = true := bne_iff_ne.mpr c11
          obtain rfl := Option.some.inj H
          go_enter Try.func11, Try.ntmps11
          go_wp2_with (first | ((with_reducible refine gate_callee (f := 14) rfl ?_); refine goesL_ (some 7) rfl rfl Try.func14 (by kernel_rfl) rfl #[] rfl (by (try simp only [List.map_toArray, List.map_cons, List.map_nil]); first | done | rfl | (simp only [List.length_drop, List.length_take]; rfl)) ?_; (with_reducible refine (lysimeterlaw1_alive.calls k  true _ A2.out).mono ?_); rintro e w' ⟨rfl, ⟨nd, rfl⟩⟩; refine ⟨_, rfl, ?_⟩) | ((with_reducible refine gate_callee (f := 15) rfl ?_); refine goesL_ (some 9) rfl rfl Try.func15 (by kernel_rfl) rfl #[.int .i64 a0, .int .i64 2147483648] rfl (by (try simp only [List.map_toArray, List.map_cons, List.map_nil]); first | done | rfl | (simp only [List.length_drop, List.length_take]; rfl)) ?_; (with_reducible refine (fixed_Mul.calls k a0 2147483648 t385 _ A3.out).mono ?_); rintro e w' ⟨rfl, ⟨nd, rfl⟩⟩; refine ⟨_, rfl, ?_⟩) | ((with_reducible refine gate_callee (f := 18) rfl ?_); refine goesL_ (some 11) rfl rfl Try.func18 (by kernel_rfl) rfl #[.int .i64 2] rfl (by (try simp only [List.map_toArray, List.map_cons, List.map_nil]); first | done | rfl | (simp only [List.length_drop, List.length_take]; rfl)) ?_; (with_reducible refine (lysimeterref1_Of.calls 2 t386 _ A4.out).mono ?_); rintro e w' ⟨rfl, ⟨nd, rfl⟩⟩; refine ⟨_, rfl, ?_⟩) | ((with_reducible refine gate_callee (f := 25) rfl ?_); refine goesL_ (some 12) rfl rfl Try.func25 (by kernel_rfl) rfl #[.int .i64 a0, .int .i64 t386] rfl (by (try simp only [List.map_toArray, List.map_cons, List.map_nil]); first | done | rfl | (simp only [List.length_drop, List.length_take]; rfl)) ?_; (with_reducible refine (fixed_Div.calls k a0 t386 t387 _ A5.out).mono ?_); rintro e w' ⟨rfl, ⟨nd, rfl⟩⟩; refine ⟨_, rfl, ?_⟩) | ((with_reducible refine gate_callee (f := 18) rfl ?_); refine goesL_ (some 14) rfl rfl Try.func18 (by kernel_rfl) rfl #[.int .i64 2] rfl (by (try simp only [List.map_toArray, List.map_cons, List.map_nil]); first | done | rfl | (simp only [List.length_drop, List.length_take]; rfl)) ?_; (with_reducible refine (lysimeterref1_Of.calls 2 t388 _ A6.out).mono ?_); rintro e w' ⟨rfl, ⟨nd, rfl⟩⟩; refine ⟨_, rfl, ?_⟩) | ((with_reducible refine gate_callee (f := 27) rfl ?_); refine goesL_ (some 15) rfl rfl Try.func27 (by kernel_rfl) rfl #[.int .i64 a0, .int .i64 t388] rfl (by (try simp only [List.map_toArray, List.map_cons, List.map_nil]); first | done | rfl | (simp only [List.length_drop, List.length_take]; rfl)) ?_; (with_reducible refine (fixed_CeilDiv.calls k a0 t388 t389 _ A7.out).mono ?_); rintro e w' ⟨rfl, ⟨nd, rfl⟩⟩; refine ⟨_, rfl, ?_⟩))
          go_ret
          exact ⟨by first | rfl | (simp; done) | (simp [*]; done), by repeat (first | exact Drawn0.refl _ | apply Drawn0.step)⟩
      · rw [if_neg c10] at H
        have c10b0 : (t385 == (a0 / 2)) = false := beq_eq_false_iff_ne.mpr c10
        have c10b1 : (t385 != (a0 / 2)) = true := bne_iff_ne.mpr c10
        obtain rfl := Option.some.inj H
        go_enter Try.func11, Try.ntmps11
        go_wp2_with (first | ((with_reducible refine gate_callee (f := 14) rfl ?_); refine goesL_ (some 7) rfl rfl Try.func14 (by kernel_rfl) rfl #[] rfl (by (try simp only [List.map_toArray, List.map_cons, List.map_nil]); first | done | rfl | (simp only [List.length_drop, List.length_take]; rfl)) ?_; (with_reducible refine (lysimeterlaw1_alive.calls k  true _ A2.out).mono ?_); rintro e w' ⟨rfl, ⟨nd, rfl⟩⟩; refine ⟨_, rfl, ?_⟩) | ((with_reducible refine gate_callee (f := 15) rfl ?_); refine goesL_ (some 9) rfl rfl Try.func15 (by kernel_rfl) rfl #[.int .i64 a0, .int .i64 2147483648] rfl (by (try simp only [List.map_toArray, List.map_cons, List.map_nil]); first | done | rfl | (simp only [List.length_drop, List.length_take]; rfl)) ?_; (with_reducible refine (fixed_Mul.calls k a0 2147483648 t385 _ A3.out).mono ?_); rintro e w' ⟨rfl, ⟨nd, rfl⟩⟩; refine ⟨_, rfl, ?_⟩) | ((with_reducible refine gate_callee (f := 18) rfl ?_); refine goesL_ (some 11) rfl rfl Try.func18 (by kernel_rfl) rfl #[.int .i64 2] rfl (by (try simp only [List.map_toArray, List.map_cons, List.map_nil]); first | done | rfl | (simp only [List.length_drop, List.length_take]; rfl)) ?_; (with_reducible refine (lysimeterref1_Of.calls 2 t386 _ A4.out).mono ?_); rintro e w' ⟨rfl, ⟨nd, rfl⟩⟩; refine ⟨_, rfl, ?_⟩) | ((with_reducible refine gate_callee (f := 25) rfl ?_); refine goesL_ (some 12) rfl rfl Try.func25 (by kernel_rfl) rfl #[.int .i64 a0, .int .i64 t386] rfl (by (try simp only [List.map_toArray, List.map_cons, List.map_nil]); first | done | rfl | (simp only [List.length_drop, List.length_take]; rfl)) ?_; (with_reducible refine (fixed_Div.calls k a0 t386 t387 _ A5.out).mono ?_); rintro e w' ⟨rfl, ⟨nd, rfl⟩⟩; refine ⟨_, rfl, ?_⟩) | ((with_reducible refine gate_callee (f := 18) rfl ?_); refine goesL_ (some 14) rfl rfl Try.func18 (by kernel_rfl) rfl #[.int .i64 2] rfl (by (try simp only [List.map_toArray, List.map_cons, List.map_nil]); first | done | rfl | (simp only [List.length_drop, List.length_take]; rfl)) ?_; (with_reducible refine (lysimeterref1_Of.calls 2 t388 _ A6.out).mono ?_); rintro e w' ⟨rfl, ⟨nd, rfl⟩⟩; refine ⟨_, rfl, ?_⟩) | ((with_reducible refine gate_callee (f := 27) rfl ?_); refine goesL_ (some 15) rfl rfl Try.func27 (by kernel_rfl) rfl #[.int .i64 a0, .int .i64 t388] rfl (by (try simp only [List.map_toArray, List.map_cons, List.map_nil]); first | done | rfl | (simp only [List.length_drop, List.length_take]; rfl)) ?_; (with_reducible refine (fixed_CeilDiv.calls k a0 t388 t389 _ A7.out).mono ?_); rintro e w' ⟨rfl, ⟨nd, rfl⟩⟩; refine ⟨_, rfl, ?_⟩))
        go_ret
        exact ⟨by first | rfl | (simp; done) | (simp [*]; done), by repeat (first | exact Drawn0.refl _ | apply Drawn0.step)⟩
    · rw [if_neg c9] at H
      have c9b0 : (t385 == t387) = false := beq_eq_false_iff_ne.mpr c9
      have c9b1 : (t385 != t387) = true := bne_iff_ne.mpr c9
      obtain rfl := Option.some.inj H
      go_enter Try.func11, Try.ntmps11
      go_wp2_with (first | ((with_reducible refine gate_callee (f := 14) rfl ?_); refine goesL_ (some 7) rfl rfl Try.func14 (by kernel_rfl) rfl #[] rfl (by (try simp only [List.map_toArray, List.map_cons, List.map_nil]); first | done | rfl | (simp only [List.length_drop, List.length_take]; rfl)) ?_; (with_reducible refine (lysimeterlaw1_alive.calls k  true _ A2.out).mono ?_); rintro e w' ⟨rfl, ⟨nd, rfl⟩⟩; refine ⟨_, rfl, ?_⟩) | ((with_reducible refine gate_callee (f := 15) rfl ?_); refine goesL_ (some 9) rfl rfl Try.func15 (by kernel_rfl) rfl #[.int .i64 a0, .int .i64 2147483648] rfl (by (try simp only [List.map_toArray, List.map_cons, List.map_nil]); first | done | rfl | (simp only [List.length_drop, List.length_take]; rfl)) ?_; (with_reducible refine (fixed_Mul.calls k a0 2147483648 t385 _ A3.out).mono ?_); rintro e w' ⟨rfl, ⟨nd, rfl⟩⟩; refine ⟨_, rfl, ?_⟩) | ((with_reducible refine gate_callee (f := 18) rfl ?_); refine goesL_ (some 11) rfl rfl Try.func18 (by kernel_rfl) rfl #[.int .i64 2] rfl (by (try simp only [List.map_toArray, List.map_cons, List.map_nil]); first | done | rfl | (simp only [List.length_drop, List.length_take]; rfl)) ?_; (with_reducible refine (lysimeterref1_Of.calls 2 t386 _ A4.out).mono ?_); rintro e w' ⟨rfl, ⟨nd, rfl⟩⟩; refine ⟨_, rfl, ?_⟩) | ((with_reducible refine gate_callee (f := 25) rfl ?_); refine goesL_ (some 12) rfl rfl Try.func25 (by kernel_rfl) rfl #[.int .i64 a0, .int .i64 t386] rfl (by (try simp only [List.map_toArray, List.map_cons, List.map_nil]); first | done | rfl | (simp only [List.length_drop, List.length_take]; rfl)) ?_; (with_reducible refine (fixed_Div.calls k a0 t386 t387 _ A5.out).mono ?_); rintro e w' ⟨rfl, ⟨nd, rfl⟩⟩; refine ⟨_, rfl, ?_⟩) | ((with_reducible refine gate_callee (f := 18) rfl ?_); refine goesL_ (some 14) rfl rfl Try.func18 (by kernel_rfl) rfl #[.int .i64 2] rfl (by (try simp only [List.map_toArray, List.map_cons, List.map_nil]); first | done | rfl | (simp only [List.length_drop, List.length_take]; rfl)) ?_; (with_reducible refine (lysimeterref1_Of.calls 2 t388 _ A6.out).mono ?_); rintro e w' ⟨rfl, ⟨nd, rfl⟩⟩; refine ⟨_, rfl, ?_⟩) | ((with_reducible refine gate_callee (f := 27) rfl ?_); refine goesL_ (some 15) rfl rfl Try.func27 (by kernel_rfl) rfl #[.int .i64 a0, .int .i64 t388] rfl (by (try simp only [List.map_toArray, List.map_cons, List.map_nil]); first | done | rfl | (simp only [List.length_drop, List.length_take]; rfl)) ?_; (with_reducible refine (fixed_CeilDiv.calls k a0 t388 t389 _ A7.out).mono ?_); rintro e w' ⟨rfl, ⟨nd, rfl⟩⟩; refine ⟨_, rfl, ?_⟩))
      go_ret
      exact ⟨by first | rfl | (simp; done) | (simp [*]; done), by repeat (first | exact Drawn0.refl _ | apply Drawn0.step)⟩
  · replace c8 := Bool.eq_false_iff.mpr c8
    subst c8
    have H1 : (some false) = some r := by rw [if_neg (show ¬ (false = true) by decide)] at H; exact H
    clear H
    have H := H1
    clear H1
    obtain rfl := Option.some.inj H
    go_enter Try.func11, Try.ntmps11
    go_wp2_with (first | ((with_reducible refine gate_callee (f := 14) rfl ?_); refine goesL_ (some 7) rfl rfl Try.func14 (by kernel_rfl) rfl #[] rfl (by (try simp only [List.map_toArray, List.map_cons, List.map_nil]); first | done | rfl | (simp only [List.length_drop, List.length_take]; rfl)) ?_; (with_reducible refine (lysimeterlaw1_alive.calls k  false _ A2.out).mono ?_); rintro e w' ⟨rfl, ⟨nd, rfl⟩⟩; refine ⟨_, rfl, ?_⟩) | ((with_reducible refine gate_callee (f := 15) rfl ?_); refine goesL_ (some 9) rfl rfl Try.func15 (by kernel_rfl) rfl #[.int .i64 a0, .int .i64 2147483648] rfl (by (try simp only [List.map_toArray, List.map_cons, List.map_nil]); first | done | rfl | (simp only [List.length_drop, List.length_take]; rfl)) ?_; (with_reducible refine (fixed_Mul.calls k a0 2147483648 t385 _ A3.out).mono ?_); rintro e w' ⟨rfl, ⟨nd, rfl⟩⟩; refine ⟨_, rfl, ?_⟩) | ((with_reducible refine gate_callee (f := 18) rfl ?_); refine goesL_ (some 11) rfl rfl Try.func18 (by kernel_rfl) rfl #[.int .i64 2] rfl (by (try simp only [List.map_toArray, List.map_cons, List.map_nil]); first | done | rfl | (simp only [List.length_drop, List.length_take]; rfl)) ?_; (with_reducible refine (lysimeterref1_Of.calls 2 t386 _ A4.out).mono ?_); rintro e w' ⟨rfl, ⟨nd, rfl⟩⟩; refine ⟨_, rfl, ?_⟩) | ((with_reducible refine gate_callee (f := 25) rfl ?_); refine goesL_ (some 12) rfl rfl Try.func25 (by kernel_rfl) rfl #[.int .i64 a0, .int .i64 t386] rfl (by (try simp only [List.map_toArray, List.map_cons, List.map_nil]); first | done | rfl | (simp only [List.length_drop, List.length_take]; rfl)) ?_; (with_reducible refine (fixed_Div.calls k a0 t386 t387 _ A5.out).mono ?_); rintro e w' ⟨rfl, ⟨nd, rfl⟩⟩; refine ⟨_, rfl, ?_⟩) | ((with_reducible refine gate_callee (f := 18) rfl ?_); refine goesL_ (some 14) rfl rfl Try.func18 (by kernel_rfl) rfl #[.int .i64 2] rfl (by (try simp only [List.map_toArray, List.map_cons, List.map_nil]); first | done | rfl | (simp only [List.length_drop, List.length_take]; rfl)) ?_; (with_reducible refine (lysimeterref1_Of.calls 2 t388 _ A6.out).mono ?_); rintro e w' ⟨rfl, ⟨nd, rfl⟩⟩; refine ⟨_, rfl, ?_⟩) | ((with_reducible refine gate_callee (f := 27) rfl ?_); refine goesL_ (some 15) rfl rfl Try.func27 (by kernel_rfl) rfl #[.int .i64 a0, .int .i64 t388] rfl (by (try simp only [List.map_toArray, List.map_cons, List.map_nil]); first | done | rfl | (simp only [List.length_drop, List.length_take]; rfl)) ?_; (with_reducible refine (fixed_CeilDiv.calls k a0 t388 t389 _ A7.out).mono ?_); rintro e w' ⟨rfl, ⟨nd, rfl⟩⟩; refine ⟨_, rfl, ?_⟩))
    go_ret
    exact ⟨by first | rfl | (simp; done) | (simp [*]; done), by repeat (first | exact Drawn0.refl _ | apply Drawn0.step)⟩

/-- THE ONE PURE STATEMENT of lysimeterlaw1_FixedHalves: yours. -/
def lysimeterlaw1_FixedHalves.Pure : Prop := ∀ (a0 : Int), (Lit.int .i64 a0).wf = true → ∃ k, lysimeterlaw1_FixedHalves.f k a0 = some true
theorem lysimeterlaw1_FixedHalves.walk (P : lysimeterlaw1_FixedHalves.Pure) (a0 : Int) (w : World) (w0 : (Lit.int .i64 a0).wf = true) :
    Calls Try.prog 11 #[.int .i64 a0] w fun e w' => e = .returned (.bool true) ∧ Below w.heap.size w w' := by
  obtain ⟨k, h⟩ := P a0 w0
  refine (lysimeterlaw1_FixedHalves.calls k a0 true w h).mono ?_
  rintro e w' ⟨rfl, hd⟩
  exact ⟨rfl, hd.below⟩

end Go.Proofs.Ytnaeekahmbilnaa.Fix
