-- Out of the kit's printer, driven by this repo's wip/gp.py with hand-written contracts beside it. Lean checks it.
import Derived.Test.YtnaeekahmbilnaaFixx0
import Derived.Test.YtnaeekahmbilnaaFixx1
import Derived.Test.YtnaeekahmbilnaaFixx3
import Derived.Test.YtnaeekahmbilnaaFixx4
namespace Go.Proofs.Ytnaeekahmbilnaa.Fix
open Go.RowKit Go.Proofs.YtnaeekahmbilnaaW.PrintWords Go.Proofs.YtnaeekahmbilnaaW.PrintLast Go.Proofs.YtnaeekahmbilnaaW.PrintMore
attribute [local go_sem] max2_int min2_int max_two min_two max_three min_three max_four min_four   -- for this text's walks alone
set_option linter.unusedVariables false
set_option linter.unusedSimpArgs false

/-! ### lysimeterlaw1_FixedWholes: function 4 -/
def lysimeterlaw1_FixedWholes.f (k : Nat) (a0 : Int) : Option (Bool) := (lysimeterlaw1_alive.f k).bind fun t226 => (if t226 = true then ((fixed_Of.f a0).bind fun t227 => ((lysimeterref1_Of.f a0).bind fun t228 => (if t227 = t228 then ((fixed_Floor.f a0).bind fun t229 => ((lysimeterref1_Floor.f a0).bind fun t230 => (if t229 = t230 then ((fixed_Ceil.f a0).bind fun t231 => ((lysimeterref1_Ceil.f a0).bind fun t232 => (some (t231 == t232)))) else (some false)))) else (some false)))) else (some false))
theorem lysimeterlaw1_FixedWholes.mono : ∀ a0 k, LeO (lysimeterlaw1_FixedWholes.f k a0) (lysimeterlaw1_FixedWholes.f (k + 1) a0) := by
  intro a0 k
  unfold lysimeterlaw1_FixedWholes.f
  repeat' first
      | (with_reducible exact lysimeterlaw1_alive.mono _)
      | (with_reducible exact LeO.refl _)
      | (with_reducible exact LeO.none _)
      | (with_reducible refine LeO.ite ?_ ?_)
      | (with_reducible refine LeO.bind ?_ (fun _ => ?_))
      | exact lysimeterlaw1_alive.mono _
      | exact LeO.none _
      | refine LeO.ite ?_ ?_
      | refine LeO.bind ?_ (fun _ => ?_)
set_option maxHeartbeats 8000000 in
set_option maxRecDepth 100000 in
theorem lysimeterlaw1_FixedWholes.calls (k : Nat) (a0 : Int) (r : Bool) (w : World) (h : lysimeterlaw1_FixedWholes.f k a0 = some r) :
    Calls Try.prog 4 #[.int .i64 a0] w fun e w' => e = .returned (.bool r) ∧ Drawn0 w w' := by
  have H : ((lysimeterlaw1_alive.f k).bind fun t226 => (if t226 = true then ((fixed_Of.f a0).bind fun t227 => ((lysimeterref1_Of.f a0).bind fun t228 => (if t227 = t228 then ((fixed_Floor.f a0).bind fun t229 => ((lysimeterref1_Floor.f a0).bind fun t230 => (if t229 = t230 then ((fixed_Ceil.f a0).bind fun t231 => ((lysimeterref1_Ceil.f a0).bind fun t232 => (some (t231 == t232)))) else (some false)))) else (some false)))) else (some false))) = some r := h
  clear h
  replace H := Option.bind_eq_some_iff.mp H
  obtain ⟨t226, A20, H⟩ := H
  replace H : (if t226 = true then ((fixed_Of.f a0).bind fun t227 => ((lysimeterref1_Of.f a0).bind fun t228 => (if t227 = t228 then ((fixed_Floor.f a0).bind fun t229 => ((lysimeterref1_Floor.f a0).bind fun t230 => (if t229 = t230 then ((fixed_Ceil.f a0).bind fun t231 => ((lysimeterref1_Ceil.f a0).bind fun t232 => (some (t231 == t232)))) else (some false)))) else (some false)))) else (some false)) = some r := H
  have A2 := Aside0.mk A20
  clear A20
  by_cases c3 : t226 = true
  · subst c3
    have H1 : ((fixed_Of.f a0).bind fun t227 => ((lysimeterref1_Of.f a0).bind fun t228 => (if t227 = t228 then ((fixed_Floor.f a0).bind fun t229 => ((lysimeterref1_Floor.f a0).bind fun t230 => (if t229 = t230 then ((fixed_Ceil.f a0).bind fun t231 => ((lysimeterref1_Ceil.f a0).bind fun t232 => (some (t231 == t232)))) else (some false)))) else (some false)))) = some r := by rw [if_pos rfl] at H; exact H
    clear H
    have H := H1
    clear H1
    replace H := Option.bind_eq_some_iff.mp H
    obtain ⟨t227, A40, H⟩ := H
    replace H : ((lysimeterref1_Of.f a0).bind fun t228 => (if t227 = t228 then ((fixed_Floor.f a0).bind fun t229 => ((lysimeterref1_Floor.f a0).bind fun t230 => (if t229 = t230 then ((fixed_Ceil.f a0).bind fun t231 => ((lysimeterref1_Ceil.f a0).bind fun t232 => (some (t231 == t232)))) else (some false)))) else (some false))) = some r := H
    have A4 := Aside0.mk A40
    clear A40
    replace H := Option.bind_eq_some_iff.mp H
    obtain ⟨t228, A50, H⟩ := H
    replace H : (if t227 = t228 then ((fixed_Floor.f a0).bind fun t229 => ((lysimeterref1_Floor.f a0).bind fun t230 => (if t229 = t230 then ((fixed_Ceil.f a0).bind fun t231 => ((lysimeterref1_Ceil.f a0).bind fun t232 => (some (t231 == t232)))) else (some false)))) else (some false)) = some r := H
    have A5 := Aside0.mk A50
    clear A50
    by_cases c6 : t227 = t228
    · rw [if_pos c6] at H
      have c6b0 : (t227 == t228) = true := beq_iff_eq.mpr c6
      have c6b1 : (t227 != t228) = false := bne_eq_false_iff_eq.mpr c6
      clear c6
      replace H := Option.bind_eq_some_iff.mp H
      obtain ⟨t229, A70, H⟩ := H
      replace H : ((lysimeterref1_Floor.f a0).bind fun t230 => (if t229 = t230 then ((fixed_Ceil.f a0).bind fun t231 => ((lysimeterref1_Ceil.f a0).bind fun t232 => (some (t231 == t232)))) else (some false))) = some r := H
      have A7 := Aside0.mk A70
      clear A70
      replace H := Option.bind_eq_some_iff.mp H
      obtain ⟨t230, A80, H⟩ := H
      replace H : (if t229 = t230 then ((fixed_Ceil.f a0).bind fun t231 => ((lysimeterref1_Ceil.f a0).bind fun t232 => (some (t231 == t232)))) else (some false)) = some r := H
      have A8 := Aside0.mk A80
      clear A80
      by_cases c9 : t229 = t230
      · rw [if_pos c9] at H
        have c9b0 : (t229 == t230) = true := beq_iff_eq.mpr c9
        have c9b1 : (t229 != t230) = false := bne_eq_false_iff_eq.mpr c9
        clear c9
        replace H := Option.bind_eq_some_iff.mp H
        obtain ⟨t231, A100, H⟩ := H
        replace H : ((lysimeterref1_Ceil.f a0).bind fun t232 => (some (t231 == t232))) = some r := H
        have A10 := Aside0.mk A100
        clear A100
        replace H := Option.bind_eq_some_iff.mp H
        obtain ⟨t232, A110, H⟩ := H
        replace H : (some (t231 == t232)) = some r := H
        have A11 := Aside0.mk A110
        clear A110
        obtain rfl := Option.some.inj H
        go_enter Try.func4, Try.ntmps4
        go_wp2_with (first | ((with_reducible refine gate_callee (f := 14) rfl ?_); refine goesL_ (some 4) rfl rfl Try.func14 (by kernel_rfl) rfl #[] rfl (by (try simp only [List.map_toArray, List.map_cons, List.map_nil]); first | done | rfl | (simp only [List.length_drop, List.length_take]; rfl)) ?_; (with_reducible refine (lysimeterlaw1_alive.calls k  true _ A2.out).mono ?_); rintro e w' ⟨rfl, ⟨nd, rfl⟩⟩; refine ⟨_, rfl, ?_⟩) | (go_at_call 17; (with_reducible refine (fixed_Of.calls a0 t227 _ A4.out).mono ?_); rintro e w' ⟨rfl, ⟨nd, rfl⟩⟩) | (go_at_call 18; (with_reducible refine (lysimeterref1_Of.calls a0 t228 _ A5.out).mono ?_); rintro e w' ⟨rfl, ⟨nd, rfl⟩⟩) | (go_at_call 19; (with_reducible refine (fixed_Floor.calls a0 t229 _ A7.out).mono ?_); rintro e w' ⟨rfl, ⟨nd, rfl⟩⟩) | (go_at_call 20; (with_reducible refine (lysimeterref1_Floor.calls a0 t230 _ A8.out).mono ?_); rintro e w' ⟨rfl, ⟨nd, rfl⟩⟩) | (go_at_call 21; (with_reducible refine (fixed_Ceil.calls a0 t231 _ A10.out).mono ?_); rintro e w' ⟨rfl, ⟨nd, rfl⟩⟩) | (go_at_call 22; (with_reducible refine (lysimeterref1_Ceil.calls a0 t232 _ A11.out).mono ?_); rintro e w' ⟨rfl, ⟨nd, rfl⟩⟩))
        go_ret
        exact ⟨by first | rfl | (simp; done) | (simp [*]; done), by repeat (first | exact Drawn0.refl _ | apply Drawn0.step)⟩
      · rw [if_neg c9] at H
        have c9b0 : (t229 == t230) = false := beq_eq_false_iff_ne.mpr c9
        have c9b1 : (t229 != t230) = true := bne_iff_ne.mpr c9
        obtain rfl := Option.some.inj H
        go_enter Try.func4, Try.ntmps4
        go_wp2_with (first | ((with_reducible refine gate_callee (f := 14) rfl ?_); refine goesL_ (some 4) rfl rfl Try.func14 (by kernel_rfl) rfl #[] rfl (by (try simp only [List.map_toArray, List.map_cons, List.map_nil]); first | done | rfl | (simp only [List.length_drop, List.length_take]; rfl)) ?_; (with_reducible refine (lysimeterlaw1_alive.calls k  true _ A2.out).mono ?_); rintro e w' ⟨rfl, ⟨nd, rfl⟩⟩; refine ⟨_, rfl, ?_⟩) | (go_at_call 17; (with_reducible refine (fixed_Of.calls a0 t227 _ A4.out).mono ?_); rintro e w' ⟨rfl, ⟨nd, rfl⟩⟩) | (go_at_call 18; (with_reducible refine (lysimeterref1_Of.calls a0 t228 _ A5.out).mono ?_); rintro e w' ⟨rfl, ⟨nd, rfl⟩⟩) | (go_at_call 19; (with_reducible refine (fixed_Floor.calls a0 t229 _ A7.out).mono ?_); rintro e w' ⟨rfl, ⟨nd, rfl⟩⟩) | (go_at_call 20; (with_reducible refine (lysimeterref1_Floor.calls a0 t230 _ A8.out).mono ?_); rintro e w' ⟨rfl, ⟨nd, rfl⟩⟩))
        go_ret
        exact ⟨by first | rfl | (simp; done) | (simp [*]; done), by repeat (first | exact Drawn0.refl _ | apply Drawn0.step)⟩
    · rw [if_neg c6] at H
      have c6b0 : (t227 == t228) = false := beq_eq_false_iff_ne.mpr c6
      have c6b1 : (t227 != t228) = true := bne_iff_ne.mpr c6
      obtain rfl := Option.some.inj H
      go_enter Try.func4, Try.ntmps4
      go_wp2_with (first | ((with_reducible refine gate_callee (f := 14) rfl ?_); refine goesL_ (some 4) rfl rfl Try.func14 (by kernel_rfl) rfl #[] rfl (by (try simp only [List.map_toArray, List.map_cons, List.map_nil]); first | done | rfl | (simp only [List.length_drop, List.length_take]; rfl)) ?_; (with_reducible refine (lysimeterlaw1_alive.calls k  true _ A2.out).mono ?_); rintro e w' ⟨rfl, ⟨nd, rfl⟩⟩; refine ⟨_, rfl, ?_⟩) | (go_at_call 17; (with_reducible refine (fixed_Of.calls a0 t227 _ A4.out).mono ?_); rintro e w' ⟨rfl, ⟨nd, rfl⟩⟩) | (go_at_call 18; (with_reducible refine (lysimeterref1_Of.calls a0 t228 _ A5.out).mono ?_); rintro e w' ⟨rfl, ⟨nd, rfl⟩⟩))
      go_ret
      exact ⟨by first | rfl | (simp; done) | (simp [*]; done), by repeat (first | exact Drawn0.refl _ | apply Drawn0.step)⟩
  · replace c3 := Bool.eq_false_iff.mpr c3
    subst c3
    have H1 : (some false) = some r := by rw [if_neg (show ¬ (false = true) by decide)] at H; exact H
    clear H
    have H := H1
    clear H1
    obtain rfl := Option.some.inj H
    go_enter Try.func4, Try.ntmps4
    go_wp2_with (first | ((with_reducible refine gate_callee (f := 14) rfl ?_); refine goesL_ (some 4) rfl rfl Try.func14 (by kernel_rfl) rfl #[] rfl (by (try simp only [List.map_toArray, List.map_cons, List.map_nil]); first | done | rfl | (simp only [List.length_drop, List.length_take]; rfl)) ?_; (with_reducible refine (lysimeterlaw1_alive.calls k  false _ A2.out).mono ?_); rintro e w' ⟨rfl, ⟨nd, rfl⟩⟩; refine ⟨_, rfl, ?_⟩))
    go_ret
    exact ⟨by first | rfl | (simp; done) | (simp [*]; done), by repeat (first | exact Drawn0.refl _ | apply Drawn0.step)⟩

/-- THE ONE PURE STATEMENT of lysimeterlaw1_FixedWholes: yours. -/
def lysimeterlaw1_FixedWholes.Pure : Prop := ∀ (a0 : Int), (Lit.int .i64 a0).wf = true → ∃ k, lysimeterlaw1_FixedWholes.f k a0 = some true
theorem lysimeterlaw1_FixedWholes.walk (P : lysimeterlaw1_FixedWholes.Pure) (a0 : Int) (w : World) (w0 : (Lit.int .i64 a0).wf = true) :
    Calls Try.prog 4 #[.int .i64 a0] w fun e w' => e = .returned (.bool true) ∧ Below w.heap.size w w' := by
  obtain ⟨k, h⟩ := P a0 w0
  refine (lysimeterlaw1_FixedWholes.calls k a0 true w h).mono ?_
  rintro e w' ⟨rfl, hd⟩
  exact ⟨rfl, hd.below⟩

/-! ### lysimeterref1_none: function 48 -/
def lysimeterref1_none.f (a0 : Int) : Option (Int) := if a0 > 0 then (some 9223372036854775807) else (if a0 < 0 then (some (-9223372036854775808)) else (some 0))
set_option maxHeartbeats 8000000 in
set_option maxRecDepth 100000 in
theorem lysimeterref1_none.calls (a0 : Int) (r : Int) (w : World) (h : lysimeterref1_none.f a0 = some r) :
    Calls Try.prog 48 #[.int .i64 a0] w fun e w' => e = .returned (.int .i64 r) ∧ Drawn0 w w' := by
  have H : (if a0 > 0 then (some 9223372036854775807) else (if a0 < 0 then (some (-9223372036854775808)) else (some 0))) = some r := h
  clear h
  by_cases c2 : a0 > 0
  · rw [if_pos c2] at H
    have c2b0 : decide (0 < a0) = true := decide_eq_true c2
    clear c2
    obtain rfl := Option.some.inj H
    go_enter Try.func48, Try.ntmps48
    go_wp2
    go_ret
    exact ⟨by first | rfl | (simp; done) | (simp [*]; done), by repeat (first | exact Drawn0.refl _ | apply Drawn0.step)⟩
  · rw [if_neg c2] at H
    have c2b0 : decide (0 < a0) = false := decide_eq_false c2
    clear c2
    by_cases c3 : a0 < 0
    · rw [if_pos c3] at H
      have c3b0 : decide (a0 < 0) = true := decide_eq_true c3
      clear c3
      obtain rfl := Option.some.inj H
      go_enter Try.func48, Try.ntmps48
      go_wp2
      go_ret
      exact ⟨by first | rfl | (simp; done) | (simp [*]; done), by repeat (first | exact Drawn0.refl _ | apply Drawn0.step)⟩
    · rw [if_neg c3] at H
      have c3b0 : decide (a0 < 0) = false := decide_eq_false c3
      clear c3
      obtain rfl := Option.some.inj H
      go_enter Try.func48, Try.ntmps48
      go_wp2
      go_ret
      exact ⟨by first | rfl | (simp; done) | (simp [*]; done), by repeat (first | exact Drawn0.refl _ | apply Drawn0.step)⟩

/-! ### lysimeterref1_over: function 49 -/
mutual
def lysimeterref1_over.l0 : Nat → Int → Int → Int → Int → Int → Int → Int → Int → Option (Int × Int × Bool)
  | 0, _, _, _, _, _, _, _, _ => none
  | k + 1, x1, x9, x235000, x235001, x236000, x236001, x237000, x237001 => if x9 ≥ 0 then (if 0 ≤ (IntKind.u64.wrap (Go.bits .and .i64 x9 63)) then (if x9 > 63 then (if 0 ≤ (IntKind.u64.wrap (wrap64 (x9 - 64))) then (lysimeterref1_over.j1 k x1 x9 (Go.bits .and .u64 (shr .u64 x235000 (IntKind.u64.wrap (wrap64 (x9 - 64)))) 1) x235000 x235001 x236000 x236001 (Go.bits .or .u64 (IntKind.u64.wrap (x237000 * 2)) (x237001 / 9223372036854775808)) (IntKind.u64.wrap (x237001 * 2))) else (none)) else (lysimeterref1_over.j1 k x1 x9 (Go.bits .and .u64 (shr .u64 x235001 (IntKind.u64.wrap (Go.bits .and .i64 x9 63))) 1) x235000 x235001 x236000 x236001 (Go.bits .or .u64 (IntKind.u64.wrap (x237000 * 2)) (x237001 / 9223372036854775808)) (IntKind.u64.wrap (x237001 * 2)))) else (none)) else (some (x236000, x236001, (x237001 != 0)))
def lysimeterref1_over.j1 : Nat → Int → Int → Int → Int → Int → Int → Int → Int → Int → Option (Int × Int × Bool)
  | 0, _, _, _, _, _, _, _, _, _ => none
  | k + 1, x1, x9, x10, x235000, x235001, x236000, x236001, x237000, x237001 => if x237000 > 0 then (lysimeterref1_over.l0 k x1 (wrap64 (x9 - 1)) x235000 x235001 (Go.bits .or .u64 (IntKind.u64.wrap (x236000 * 2)) (x236001 / 9223372036854775808)) (Go.bits .or .u64 (IntKind.u64.wrap (x236001 * 2)) 1) 0 (IntKind.u64.wrap ((Go.bits .or .u64 x237001 x10) - x1))) else (if (Go.bits .or .u64 x237001 x10) ≥ x1 then (lysimeterref1_over.l0 k x1 (wrap64 (x9 - 1)) x235000 x235001 (Go.bits .or .u64 (IntKind.u64.wrap (x236000 * 2)) (x236001 / 9223372036854775808)) (Go.bits .or .u64 (IntKind.u64.wrap (x236001 * 2)) 1) 0 (IntKind.u64.wrap ((Go.bits .or .u64 x237001 x10) - x1))) else (lysimeterref1_over.l0 k x1 (wrap64 (x9 - 1)) x235000 x235001 (Go.bits .or .u64 (IntKind.u64.wrap (x236000 * 2)) (x236001 / 9223372036854775808)) (IntKind.u64.wrap (x236001 * 2)) x237000 (Go.bits .or .u64 x237001 x10)))
end
def lysimeterref1_over.f (k : Nat) (a0 : Int) (a1 : Int) : Option (Int × Int × Bool) := lysimeterref1_over.l0 k a1 127 (a0 / 4294967296) (IntKind.u64.wrap (a0 * 4294967296)) 0 0 0 0
theorem lysimeterref1_over.mono_l : ∀ k, (∀ y0 y1 y2 y3 y4 y5 y6 y7, LeO (lysimeterref1_over.l0 k y0 y1 y2 y3 y4 y5 y6 y7) (lysimeterref1_over.l0 (k + 1) y0 y1 y2 y3 y4 y5 y6 y7)) ∧ (∀ y0 y1 y2 y3 y4 y5 y6 y7 y8, LeO (lysimeterref1_over.j1 k y0 y1 y2 y3 y4 y5 y6 y7 y8) (lysimeterref1_over.j1 (k + 1) y0 y1 y2 y3 y4 y5 y6 y7 y8))
  | 0 => ⟨fun _ _ _ _ _ _ _ _ r h => by simp [lysimeterref1_over.l0] at h, fun _ _ _ _ _ _ _ _ _ r h => by simp [lysimeterref1_over.j1] at h⟩
  | k + 1 => by
    obtain ⟨ih0, ih1⟩ := lysimeterref1_over.mono_l k
    refine ⟨?_, ?_⟩
    · intro y0 y1 y2 y3 y4 y5 y6 y7
      unfold lysimeterref1_over.l0
      repeat' first
      | (with_reducible exact ih0 _ _ _ _ _ _ _ _)
      | (with_reducible exact ih1 _ _ _ _ _ _ _ _ _)
      | (with_reducible exact LeO.refl _)
      | (with_reducible exact LeO.none _)
      | (with_reducible refine LeO.ite ?_ ?_)
      | (with_reducible refine LeO.bind ?_ (fun _ => ?_))
      | exact ih0 _ _ _ _ _ _ _ _
      | exact ih1 _ _ _ _ _ _ _ _ _
      | exact LeO.none _
      | refine LeO.ite ?_ ?_
      | refine LeO.bind ?_ (fun _ => ?_)
    · intro y0 y1 y2 y3 y4 y5 y6 y7 y8
      unfold lysimeterref1_over.j1
      repeat' first
      | (with_reducible exact ih0 _ _ _ _ _ _ _ _)
      | (with_reducible exact ih1 _ _ _ _ _ _ _ _ _)
      | (with_reducible exact LeO.refl _)
      | (with_reducible exact LeO.none _)
      | (with_reducible refine LeO.ite ?_ ?_)
      | (with_reducible refine LeO.bind ?_ (fun _ => ?_))
      | exact ih0 _ _ _ _ _ _ _ _
      | exact ih1 _ _ _ _ _ _ _ _ _
      | exact LeO.none _
      | refine LeO.ite ?_ ?_
      | refine LeO.bind ?_ (fun _ => ?_)
theorem lysimeterref1_over.mono : ∀ a0 a1 k, LeO (lysimeterref1_over.f k a0 a1) (lysimeterref1_over.f (k + 1) a0 a1) := by
  intro a0 a1 k
  obtain ⟨ih0, ih1⟩ := lysimeterref1_over.mono_l k
  unfold lysimeterref1_over.f
  repeat' first
      | (with_reducible exact ih0 _ _ _ _ _ _ _ _)
      | (with_reducible exact ih1 _ _ _ _ _ _ _ _ _)
      | (with_reducible exact LeO.refl _)
      | (with_reducible exact LeO.none _)
      | (with_reducible refine LeO.ite ?_ ?_)
      | (with_reducible refine LeO.bind ?_ (fun _ => ?_))
      | exact ih0 _ _ _ _ _ _ _ _
      | exact ih1 _ _ _ _ _ _ _ _ _
      | exact LeO.none _
      | refine LeO.ite ?_ ?_
      | refine LeO.bind ?_ (fun _ => ?_)
set_option maxHeartbeats 8000000 in
set_option maxRecDepth 100000 in
theorem lysimeterref1_over.calls (k : Nat) (a0 : Int) (a1 : Int) (r1 : Int) (r2 : Int) (r3 : Bool) (w : World) (h : lysimeterref1_over.f k a0 a1 = some (r1, r2, r3)) :
    Calls Try.prog 49 #[.int .u64 a0, .int .u64 a1] w fun e w' => e = .returned (.tuple #[.agg #[.int .u64 r1, .int .u64 r2], .bool r3]) ∧ Below w.heap.size w w' := by
  have hu38 := Try.underlying38
  have HB := Aside0.mk (Below.refl w.heap.size w)
  have H : (lysimeterref1_over.l0 k a1 127 (a0 / 4294967296) (IntKind.u64.wrap (a0 * 4294967296)) 0 0 0 0) = some (r1, r2, r3) := h
  clear h
  have H' := Aside0.mk H
  clear H
  go_enter Try.func49, Try.ntmps49
  go_wp2_with (first | ((with_reducible refine gate_dst (N := 4) rfl ?_); refine box_event ?hg (N := 4) ?hd (cs := #[.int .u64 0, .int .u64 0]) (t := 38) ?hr ?_; (case hd => rfl); (case hg => rfl); (case hr => first | (go_simp; done) | (go_simp; rfl)); intro gb233 hg w3 hbox hb; have n0_ := Aside0.mk (below_step (by repeat (first | (with_reducible first | exact HB.out | apply below_alloc | apply pw_below_drewN | apply below_drew1) | exact HB.out)) hb); have n1_ := Aside0.mk (hbox); have n2_ := Aside0.mk ((by rw [hg]; exact (below_size (by repeat (first | (with_reducible first | exact HB.out | apply below_alloc | apply pw_below_drewN | apply below_drew1) | exact HB.out))) : w.heap.size ≤ gb233)); have n3_ := Aside0.mk ((by rw [hg]; exact (below_size (by repeat (first | (with_reducible first | exact HB.out | apply below_alloc | apply pw_below_drewN | apply below_drew1) | exact HB.out))) : w.heap.size ≤ gb233)); clear HB; have HB := n0_; have BK233 := n1_; have GW233 := n2_; have GE233 := n3_; clear n0_ n1_ n2_ n3_; clear hb hbox hg) | ((with_reducible refine gate_dst (N := 6) rfl ?_); refine box_event ?hg (N := 6) ?hd (cs := #[.int .u64 0, .int .u64 0]) (t := 38) ?hr ?_; (case hd => rfl); (case hg => rfl); (case hr => first | (go_simp; done) | (go_simp; rfl)); intro gb234 hg w4 hbox hb; have n0_ := Aside0.mk (blk_below (g := gb233) (o := .cells #[.int .u64 0, .int .u64 0] 38 (0, 0)) (by (with_reducible repeat (first | refine blk_drewN ?_ _ | refine blk_drew ?_ | refine blk_alloc ?_ _)); exact BK233.out) hb); have n1_ := Aside0.mk (below_step (by repeat (first | (with_reducible first | exact HB.out | apply below_alloc | apply pw_below_drewN | apply below_drew1 | refine below_set ?_ GE233.out) | exact HB.out)) hb); have n2_ := Aside0.mk (hbox); have n3_ := Aside0.mk ((by rw [hg]; exact (below_size (by repeat (first | (with_reducible first | exact HB.out | apply below_alloc | apply pw_below_drewN | apply below_drew1 | refine below_set ?_ GE233.out) | exact HB.out))) : w.heap.size ≤ gb234)); have n4_ := Aside0.mk ((by rw [hg]; exact (below_size (by repeat (first | (with_reducible first | exact HB.out | apply below_alloc | apply pw_below_drewN | apply below_drew1 | refine below_set ?_ GE233.out) | exact HB.out))) : w.heap.size ≤ gb234)); have n5_ := Aside0.mk ((by rw [hg]; exact Nat.ne_of_lt (blk_lt (g := gb233) (o := .cells #[.int .u64 0, .int .u64 0] 38 (0, 0)) (by (with_reducible repeat (first | refine blk_drewN ?_ _ | refine blk_drew ?_ | refine blk_alloc ?_ _)); exact BK233.out)) : gb233 ≠ gb234)); have n6_ := Aside0.mk ((by rw [hg]; exact Nat.ne_of_gt (blk_lt (g := gb233) (o := .cells #[.int .u64 0, .int .u64 0] 38 (0, 0)) (by (with_reducible repeat (first | refine blk_drewN ?_ _ | refine blk_drew ?_ | refine blk_alloc ?_ _)); exact BK233.out)) : gb234 ≠ gb233)); clear BK233; clear HB; have BK233 := n0_; have HB := n1_; have BK234 := n2_; have GW234 := n3_; have GE234 := n4_; have NB233_234 := n5_; have NB234_233 := n6_; clear n0_ n1_ n2_ n3_ n4_ n5_ n6_; clear hb hbox hg; have hnb5 := NB234_233.out; have hnc5 := NB233_234.out; have hcz6_0 : w4.cell? ⟨gb234, 0, none⟩ = some (.int .u64 0) := (blk_cell BK234.out 0).trans rfl; have hcz6_1 : w4.cell? ⟨gb234, 1, none⟩ = some (.int .u64 0) := (blk_cell BK234.out 1).trans rfl; have hfz6_0 := blk_frozen BK234.out 0; have hfz6_1 := blk_frozen BK234.out 1) | ((with_reducible refine gate_dst (N := 7) rfl ?_); refine box_event ?hg (N := 7) ?hd (cs := #[.int .u64 0, .int .u64 0]) (t := 38) ?hr ?_; (case hd => rfl); (case hg => rfl); (case hr => first | (go_simp; done) | (go_simp; rfl)); intro gb235 hg w7 hbox hb; have n0_ := Aside0.mk (blk_below (g := gb233) (o := .cells #[.int .u64 0, .int .u64 0] 38 (0, 0)) (by (with_reducible repeat (first | refine blk_drewN ?_ _ | refine blk_drew ?_ | refine blk_alloc ?_ _)); refine blk_far ?_ NB233_234.out _; (with_reducible repeat (first | refine blk_drewN ?_ _ | refine blk_drew ?_ | refine blk_alloc ?_ _)); refine blk_far ?_ NB233_234.out _; (with_reducible repeat (first | refine blk_drewN ?_ _ | refine blk_drew ?_ | refine blk_alloc ?_ _)); exact BK233.out) hb); have n1_ := Aside0.mk (blk_below (g := gb234) (o := .cells #[.int .u64 (a0 / 4294967296), .int .u64 (IntKind.u64.wrap (a0 * 4294967296))] 38 (0, 0)) (by (with_reducible repeat (first | refine blk_drewN ?_ _ | refine blk_drew ?_ | refine blk_alloc ?_ _)); refine blk_put (cs := #[.int .u64 (a0 / 4294967296), .int .u64 0]) ?_ 1 _ rfl; (with_reducible repeat (first | refine blk_drewN ?_ _ | refine blk_drew ?_ | refine blk_alloc ?_ _)); refine blk_put (cs := #[.int .u64 0, .int .u64 0]) ?_ 0 _ rfl; (with_reducible repeat (first | refine blk_drewN ?_ _ | refine blk_drew ?_ | refine blk_alloc ?_ _)); exact BK234.out) hb); have n2_ := Aside0.mk (below_step (by repeat (first | (with_reducible first | exact HB.out | apply below_alloc | apply pw_below_drewN | apply below_drew1 | refine below_set ?_ GE233.out | refine below_set ?_ GE234.out) | exact HB.out)) hb); have n3_ := Aside0.mk (hbox); have n4_ := Aside0.mk ((by rw [hg]; exact (below_size (by repeat (first | (with_reducible first | exact HB.out | apply below_alloc | apply pw_below_drewN | apply below_drew1 | refine below_set ?_ GE233.out | refine below_set ?_ GE234.out) | exact HB.out))) : w.heap.size ≤ gb235)); have n5_ := Aside0.mk ((by rw [hg]; exact (below_size (by repeat (first | (with_reducible first | exact HB.out | apply below_alloc | apply pw_below_drewN | apply below_drew1 | refine below_set ?_ GE233.out | refine below_set ?_ GE234.out) | exact HB.out))) : w.heap.size ≤ gb235)); have n6_ := Aside0.mk ((by rw [hg]; exact Nat.ne_of_lt (blk_lt (g := gb233) (o := .cells #[.int .u64 0, .int .u64 0] 38 (0, 0)) (by (with_reducible repeat (first | refine blk_drewN ?_ _ | refine blk_drew ?_ | refine blk_alloc ?_ _)); refine blk_far ?_ NB233_234.out _; (with_reducible repeat (first | refine blk_drewN ?_ _ | refine blk_drew ?_ | refine blk_alloc ?_ _)); refine blk_far ?_ NB233_234.out _; (with_reducible repeat (first | refine blk_drewN ?_ _ | refine blk_drew ?_ | refine blk_alloc ?_ _)); exact BK233.out)) : gb233 ≠ gb235)); have n7_ := Aside0.mk ((by rw [hg]; exact Nat.ne_of_gt (blk_lt (g := gb233) (o := .cells #[.int .u64 0, .int .u64 0] 38 (0, 0)) (by (with_reducible repeat (first | refine blk_drewN ?_ _ | refine blk_drew ?_ | refine blk_alloc ?_ _)); refine blk_far ?_ NB233_234.out _; (with_reducible repeat (first | refine blk_drewN ?_ _ | refine blk_drew ?_ | refine blk_alloc ?_ _)); refine blk_far ?_ NB233_234.out _; (with_reducible repeat (first | refine blk_drewN ?_ _ | refine blk_drew ?_ | refine blk_alloc ?_ _)); exact BK233.out)) : gb235 ≠ gb233)); have n8_ := Aside0.mk ((by rw [hg]; exact Nat.ne_of_lt (blk_lt (g := gb234) (o := .cells #[.int .u64 (a0 / 4294967296), .int .u64 (IntKind.u64.wrap (a0 * 4294967296))] 38 (0, 0)) (by (with_reducible repeat (first | refine blk_drewN ?_ _ | refine blk_drew ?_ | refine blk_alloc ?_ _)); refine blk_put (cs := #[.int .u64 (a0 / 4294967296), .int .u64 0]) ?_ 1 _ rfl; (with_reducible repeat (first | refine blk_drewN ?_ _ | refine blk_drew ?_ | refine blk_alloc ?_ _)); refine blk_put (cs := #[.int .u64 0, .int .u64 0]) ?_ 0 _ rfl; (with_reducible repeat (first | refine blk_drewN ?_ _ | refine blk_drew ?_ | refine blk_alloc ?_ _)); exact BK234.out)) : gb234 ≠ gb235)); have n9_ := Aside0.mk ((by rw [hg]; exact Nat.ne_of_gt (blk_lt (g := gb234) (o := .cells #[.int .u64 (a0 / 4294967296), .int .u64 (IntKind.u64.wrap (a0 * 4294967296))] 38 (0, 0)) (by (with_reducible repeat (first | refine blk_drewN ?_ _ | refine blk_drew ?_ | refine blk_alloc ?_ _)); refine blk_put (cs := #[.int .u64 (a0 / 4294967296), .int .u64 0]) ?_ 1 _ rfl; (with_reducible repeat (first | refine blk_drewN ?_ _ | refine blk_drew ?_ | refine blk_alloc ?_ _)); refine blk_put (cs := #[.int .u64 0, .int .u64 0]) ?_ 0 _ rfl; (with_reducible repeat (first | refine blk_drewN ?_ _ | refine blk_drew ?_ | refine blk_alloc ?_ _)); exact BK234.out)) : gb235 ≠ gb234)); clear BK233; clear BK234; clear HB; have BK233 := n0_; have BK234 := n1_; have HB := n2_; have BK235 := n3_; have GW235 := n4_; have GE235 := n5_; have NB233_235 := n6_; have NB235_233 := n7_; have NB234_235 := n8_; have NB235_234 := n9_; clear n0_ n1_ n2_ n3_ n4_ n5_ n6_ n7_ n8_ n9_; clear hb hbox hg) | ((with_reducible refine gate_dst (N := 8) rfl ?_); refine box_event ?hg (N := 8) ?hd (cs := #[.int .u64 0, .int .u64 0]) (t := 38) ?hr ?_; (case hd => rfl); (case hg => rfl); (case hr => first | (go_simp; done) | (go_simp; rfl)); intro gb236 hg w8 hbox hb; have n0_ := Aside0.mk (blk_below (g := gb233) (o := .cells #[.int .u64 0, .int .u64 0] 38 (0, 0)) (by (with_reducible repeat (first | refine blk_drewN ?_ _ | refine blk_drew ?_ | refine blk_alloc ?_ _)); exact BK233.out) hb); have n1_ := Aside0.mk (blk_below (g := gb234) (o := .cells #[.int .u64 (a0 / 4294967296), .int .u64 (IntKind.u64.wrap (a0 * 4294967296))] 38 (0, 0)) (by (with_reducible repeat (first | refine blk_drewN ?_ _ | refine blk_drew ?_ | refine blk_alloc ?_ _)); exact BK234.out) hb); have n2_ := Aside0.mk (blk_below (g := gb235) (o := .cells #[.int .u64 0, .int .u64 0] 38 (0, 0)) (by (with_reducible repeat (first | refine blk_drewN ?_ _ | refine blk_drew ?_ | refine blk_alloc ?_ _)); exact BK235.out) hb); have n3_ := Aside0.mk (below_step (by repeat (first | (with_reducible first | exact HB.out | apply below_alloc | apply pw_below_drewN | apply below_drew1 | refine below_set ?_ GE233.out | refine below_set ?_ GE234.out | refine below_set ?_ GE235.out) | exact HB.out)) hb); have n4_ := Aside0.mk (hbox); have n5_ := Aside0.mk ((by rw [hg]; exact (below_size (by repeat (first | (with_reducible first | exact HB.out | apply below_alloc | apply pw_below_drewN | apply below_drew1 | refine below_set ?_ GE233.out | refine below_set ?_ GE234.out | refine below_set ?_ GE235.out) | exact HB.out))) : w.heap.size ≤ gb236)); have n6_ := Aside0.mk ((by rw [hg]; exact (below_size (by repeat (first | (with_reducible first | exact HB.out | apply below_alloc | apply pw_below_drewN | apply below_drew1 | refine below_set ?_ GE233.out | refine below_set ?_ GE234.out | refine below_set ?_ GE235.out) | exact HB.out))) : w.heap.size ≤ gb236)); have n7_ := Aside0.mk ((by rw [hg]; exact Nat.ne_of_lt (blk_lt (g := gb233) (o := .cells #[.int .u64 0, .int .u64 0] 38 (0, 0)) (by (with_reducible repeat (first | refine blk_drewN ?_ _ | refine blk_drew ?_ | refine blk_alloc ?_ _)); exact BK233.out)) : gb233 ≠ gb236)); have n8_ := Aside0.mk ((by rw [hg]; exact Nat.ne_of_gt (blk_lt (g := gb233) (o := .cells #[.int .u64 0, .int .u64 0] 38 (0, 0)) (by (with_reducible repeat (first | refine blk_drewN ?_ _ | refine blk_drew ?_ | refine blk_alloc ?_ _)); exact BK233.out)) : gb236 ≠ gb233)); have n9_ := Aside0.mk ((by rw [hg]; exact Nat.ne_of_lt (blk_lt (g := gb234) (o := .cells #[.int .u64 (a0 / 4294967296), .int .u64 (IntKind.u64.wrap (a0 * 4294967296))] 38 (0, 0)) (by (with_reducible repeat (first | refine blk_drewN ?_ _ | refine blk_drew ?_ | refine blk_alloc ?_ _)); exact BK234.out)) : gb234 ≠ gb236)); have n10_ := Aside0.mk ((by rw [hg]; exact Nat.ne_of_gt (blk_lt (g := gb234) (o := .cells #[.int .u64 (a0 / 4294967296), .int .u64 (IntKind.u64.wrap (a0 * 4294967296))] 38 (0, 0)) (by (with_reducible repeat (first | refine blk_drewN ?_ _ | refine blk_drew ?_ | refine blk_alloc ?_ _)); exact BK234.out)) : gb236 ≠ gb234)); have n11_ := Aside0.mk ((by rw [hg]; exact Nat.ne_of_lt (blk_lt (g := gb235) (o := .cells #[.int .u64 0, .int .u64 0] 38 (0, 0)) (by (with_reducible repeat (first | refine blk_drewN ?_ _ | refine blk_drew ?_ | refine blk_alloc ?_ _)); exact BK235.out)) : gb235 ≠ gb236)); have n12_ := Aside0.mk ((by rw [hg]; exact Nat.ne_of_gt (blk_lt (g := gb235) (o := .cells #[.int .u64 0, .int .u64 0] 38 (0, 0)) (by (with_reducible repeat (first | refine blk_drewN ?_ _ | refine blk_drew ?_ | refine blk_alloc ?_ _)); exact BK235.out)) : gb236 ≠ gb235)); clear BK233; clear BK234; clear BK235; clear HB; have BK233 := n0_; have BK234 := n1_; have BK235 := n2_; have HB := n3_; have BK236 := n4_; have GW236 := n5_; have GE236 := n6_; have NB233_236 := n7_; have NB236_233 := n8_; have NB234_236 := n9_; have NB236_234 := n10_; have NB235_236 := n11_; have NB236_235 := n12_; clear n0_ n1_ n2_ n3_ n4_ n5_ n6_ n7_ n8_ n9_ n10_ n11_ n12_; clear hb hbox hg))
  go_loopg [9] k (fun kq v9 w' => ∃ (x9_1 : Int) (x236000_1 : Int) (x236001_1 : Int) (x237000_1 : Int) (x237001_1 : Int), v9 = .int .i64 x9_1 ∧ Aside0 (lysimeterref1_over.l0 kq a1 x9_1 (a0 / 4294967296) (IntKind.u64.wrap (a0 * 4294967296)) x236000_1 x236001_1 x237000_1 x237001_1 = some (r1, r2, r3)) ∧ Aside0 (kq ≤ k) ∧ Aside0 (w'.heap[gb233]? = some (.cells #[.int .u64 0, .int .u64 0] 38 (0, 0))) ∧ Aside0 (w'.heap[gb234]? = some (.cells #[.int .u64 (a0 / 4294967296), .int .u64 (IntKind.u64.wrap (a0 * 4294967296))] 38 (0, 0))) ∧ Aside0 (w'.heap[gb235]? = some (.cells #[.int .u64 x236000_1, .int .u64 x236001_1] 38 (0, 0))) ∧ Aside0 (w'.heap[gb236]? = some (.cells #[.int .u64 x237000_1, .int .u64 x237001_1] 38 (0, 0))) ∧ Aside0 (Below w.heap.size w w'))
  case atStart => exact ⟨(127), (0), (0), (0), (0), (by first | rfl | (simp; done) | (simp [*]; done)), H', ⟨Nat.le_refl _⟩, ⟨by (with_reducible repeat (first | refine blk_drewN ?_ _ | refine blk_drew ?_ | refine blk_alloc ?_ _)); exact BK233.out⟩, ⟨by (with_reducible repeat (first | refine blk_drewN ?_ _ | refine blk_drew ?_ | refine blk_alloc ?_ _)); exact BK234.out⟩, ⟨by (with_reducible repeat (first | refine blk_drewN ?_ _ | refine blk_drew ?_ | refine blk_alloc ?_ _)); exact BK235.out⟩, ⟨by (with_reducible repeat (first | refine blk_drewN ?_ _ | refine blk_drew ?_ | refine blk_alloc ?_ _)); exact BK236.out⟩, ⟨by repeat (first | (with_reducible first | exact HB.out | apply below_alloc | apply pw_below_drewN | apply below_drew1 | refine below_set ?_ GE233.out | refine below_set ?_ GE234.out | refine below_set ?_ GE235.out | refine below_set ?_ GE236.out) | exact HB.out)⟩⟩
  case round =>
    clear H'
    try clear p2
    try clear c4
    try clear c5
    try clear hcz6_0
    try clear hcz6_1
    try clear hfz6_0
    try clear hfz6_1
    obtain ⟨x9_1, x236000_1, x236001_1, x237000_1, x237001_1, rfl, HA, HK1, BK233, BK234, BK235, BK236, HB⟩ := hrel
    cases gk with
    | zero => exact absurd HA.out (by simp [lysimeterref1_over.l0])
    | succ k1 =>
      have H := HA.out
      clear HA
      simp only [lysimeterref1_over.l0] at H
      by_cases c9 : x9_1 ≥ 0
      · rw [if_pos c9] at H
        have c9b0 : decide (0 ≤ x9_1) = true := decide_eq_true c9
        clear c9
        obtain ⟨ji10, hji10⟩ : ∃ j_ : Int, (IntKind.u64.wrap (Go.bits .and .i64 x9_1 63)) = j_ := ⟨_, rfl⟩
        replace H : (if 0 ≤ (ji10) then (if x9_1 > 63 then (if 0 ≤ (IntKind.u64.wrap (wrap64 (x9_1 - 64))) then (lysimeterref1_over.j1 k1 a1 x9_1 (Go.bits .and .u64 (shr .u64 (a0 / 4294967296) (IntKind.u64.wrap (wrap64 (x9_1 - 64)))) 1) (a0 / 4294967296) (IntKind.u64.wrap (a0 * 4294967296)) x236000_1 x236001_1 (Go.bits .or .u64 (IntKind.u64.wrap (x237000_1 * 2)) (x237001_1 / 9223372036854775808)) (IntKind.u64.wrap (x237001_1 * 2))) else (none)) else (lysimeterref1_over.j1 k1 a1 x9_1 (Go.bits .and .u64 (shr .u64 (IntKind.u64.wrap (a0 * 4294967296)) (ji10)) 1) (a0 / 4294967296) (IntKind.u64.wrap (a0 * 4294967296)) x236000_1 x236001_1 (Go.bits .or .u64 (IntKind.u64.wrap (x237000_1 * 2)) (x237001_1 / 9223372036854775808)) (IntKind.u64.wrap (x237001_1 * 2)))) else (none)) = some (r1, r2, r3) := by first | (rw [hji10] at H; exact H) | (simp only [hji10] at H ⊢; exact H)
        by_cases c11 : 0 ≤ (ji10)
        · rw [if_pos c11] at H
          have c11b0 := eq_true c11
          have c11b1 : decide (0 ≤ (ji10)) = true := decide_eq_true c11
          clear c11
          obtain ⟨ji12, hji12⟩ : ∃ j_ : Int, (shr .u64 (IntKind.u64.wrap (a0 * 4294967296)) (ji10)) = j_ := ⟨_, rfl⟩
          replace H : (if x9_1 > 63 then (if 0 ≤ (IntKind.u64.wrap (wrap64 (x9_1 - 64))) then (lysimeterref1_over.j1 k1 a1 x9_1 (Go.bits .and .u64 (shr .u64 (a0 / 4294967296) (IntKind.u64.wrap (wrap64 (x9_1 - 64)))) 1) (a0 / 4294967296) (IntKind.u64.wrap (a0 * 4294967296)) x236000_1 x236001_1 (Go.bits .or .u64 (IntKind.u64.wrap (x237000_1 * 2)) (x237001_1 / 9223372036854775808)) (IntKind.u64.wrap (x237001_1 * 2))) else (none)) else (lysimeterref1_over.j1 k1 a1 x9_1 (Go.bits .and .u64 (ji12) 1) (a0 / 4294967296) (IntKind.u64.wrap (a0 * 4294967296)) x236000_1 x236001_1 (Go.bits .or .u64 (IntKind.u64.wrap (x237000_1 * 2)) (x237001_1 / 9223372036854775808)) (IntKind.u64.wrap (x237001_1 * 2)))) = some (r1, r2, r3) := by first | (rw [hji12] at H; exact H) | (simp only [hji12] at H ⊢; exact H)
          have hji12_ : ((IntKind.u64.wrap (a0 * 4294967296)) / 2 ^ min (ji10).toNat 64) = ji12 := hji12
          have hji12z : (ji10) ≤ 64 → ((IntKind.u64.wrap (a0 * 4294967296)) / 2 ^ (ji10).toNat) = ji12 := shr_small hji12
          have HC13 := Aside0.mk H
          clear H
          have hnb14 := NB236_233.out
          have hnc14 := NB233_236.out
          have hnb15 := NB236_234.out
          have hnc15 := NB234_236.out
          have hnb16 := NB236_235.out
          have hnc16 := NB235_236.out
          have hcz17_0 : wr.cell? ⟨gb236, 0, none⟩ = some (.int .u64 x237000_1) := (blk_cell BK236.out 0).trans rfl
          have hcz17_1 : wr.cell? ⟨gb236, 1, none⟩ = some (.int .u64 x237001_1) := (blk_cell BK236.out 1).trans rfl
          have hfz17_0 := blk_frozen BK236.out 0
          have hfz17_1 := blk_frozen BK236.out 1
          have hnb18 := NB234_233.out
          have hnc18 := NB233_234.out
          have hnb19 := NB234_235.out
          have hnc19 := NB235_234.out
          have hcz20_0 : wr.cell? ⟨gb234, 0, none⟩ = some (.int .u64 (a0 / 4294967296)) := (blk_cell BK234.out 0).trans rfl
          have hcz20_1 : wr.cell? ⟨gb234, 1, none⟩ = some (.int .u64 (IntKind.u64.wrap (a0 * 4294967296))) := (blk_cell BK234.out 1).trans rfl
          have hfz20_0 := blk_frozen BK234.out 0
          have hfz20_1 := blk_frozen BK234.out 1
          go_upto_if 39 with (fail)
          go_cut [10] (fun v10 wc => ∃ (kq : Nat) (x10_12 : Int), v10 = .int .u64 x10_12 ∧ Aside0 (lysimeterref1_over.j1 kq a1 x9_1 x10_12 (a0 / 4294967296) (IntKind.u64.wrap (a0 * 4294967296)) x236000_1 x236001_1 (Go.bits .or .u64 (IntKind.u64.wrap (x237000_1 * 2)) (x237001_1 / 9223372036854775808)) (IntKind.u64.wrap (x237001_1 * 2)) = some (r1, r2, r3)) ∧ Aside0 (kq ≤ k1) ∧ Aside0 (wc.heap[gb233]? = some (.cells #[.int .u64 0, .int .u64 0] 38 (0, 0))) ∧ Aside0 (wc.heap[gb234]? = some (.cells #[.int .u64 (a0 / 4294967296), .int .u64 (IntKind.u64.wrap (a0 * 4294967296))] 38 (0, 0))) ∧ Aside0 (wc.heap[gb235]? = some (.cells #[.int .u64 x236000_1, .int .u64 x236001_1] 38 (0, 0))) ∧ Aside0 (wc.heap[gb236]? = some (.cells #[.int .u64 (Go.bits .or .u64 (IntKind.u64.wrap (x237000_1 * 2)) (x237001_1 / 9223372036854775808)), .int .u64 (IntKind.u64.wrap (x237001_1 * 2))] 38 (0, 0))) ∧ Aside0 (Below w.heap.size w wc))
          case first =>
            have H := HC13.out
            clear HC13
            by_cases c21 : x9_1 > 63
            · rw [if_pos c21] at H
              have c21b0 : decide (63 < x9_1) = true := decide_eq_true c21
              clear c21
              (first | rw [c21b0] | (simp only [i64_w, i32_w]; rw [c21b0]) | skip)
              obtain ⟨ji22, hji22⟩ : ∃ j_ : Int, (IntKind.u64.wrap (wrap64 (x9_1 - 64))) = j_ := ⟨_, rfl⟩
              replace H : (if 0 ≤ (ji22) then (lysimeterref1_over.j1 k1 a1 x9_1 (Go.bits .and .u64 (shr .u64 (a0 / 4294967296) (ji22)) 1) (a0 / 4294967296) (IntKind.u64.wrap (a0 * 4294967296)) x236000_1 x236001_1 (Go.bits .or .u64 (IntKind.u64.wrap (x237000_1 * 2)) (x237001_1 / 9223372036854775808)) (IntKind.u64.wrap (x237001_1 * 2))) else (none)) = some (r1, r2, r3) := by first | (rw [hji22] at H; exact H) | (simp only [hji22] at H ⊢; exact H)
              by_cases c23 : 0 ≤ (ji22)
              · rw [if_pos c23] at H
                have c23b0 := eq_true c23
                have c23b1 : decide (0 ≤ (ji22)) = true := decide_eq_true c23
                clear c23
                obtain ⟨ji24, hji24⟩ : ∃ j_ : Int, (shr .u64 (a0 / 4294967296) (ji22)) = j_ := ⟨_, rfl⟩
                replace H : (lysimeterref1_over.j1 k1 a1 x9_1 (Go.bits .and .u64 (ji24) 1) (a0 / 4294967296) (IntKind.u64.wrap (a0 * 4294967296)) x236000_1 x236001_1 (Go.bits .or .u64 (IntKind.u64.wrap (x237000_1 * 2)) (x237001_1 / 9223372036854775808)) (IntKind.u64.wrap (x237001_1 * 2))) = some (r1, r2, r3) := by first | (rw [hji24] at H; exact H) | (simp only [hji24] at H ⊢; exact H)
                have hji24_ : ((a0 / 4294967296) / 2 ^ min (ji22).toNat 64) = ji24 := hji24
                have hji24z : (ji22) ≤ 64 → ((a0 / 4294967296) / 2 ^ (ji22).toNat) = ji24 := shr_small hji24
                have H' := Aside0.mk H
                clear H
                have hnb25 := NB234_233.out
                have hnc25 := NB233_234.out
                have hnb26 := NB234_235.out
                have hnc26 := NB235_234.out
                have hnb27 := NB234_236.out
                have hnc27 := NB236_234.out
                have hcz28_0 : wr.cell? ⟨gb234, 0, none⟩ = some (.int .u64 (a0 / 4294967296)) := (blk_cell BK234.out 0).trans rfl
                have hcz28_1 : wr.cell? ⟨gb234, 1, none⟩ = some (.int .u64 (IntKind.u64.wrap (a0 * 4294967296))) := (blk_cell BK234.out 1).trans rfl
                have hfz28_0 := blk_frozen BK234.out 0
                have hfz28_1 := blk_frozen BK234.out 1
                go_wp2
                go_meet
                case rel => exact ⟨_, (Go.bits .and .u64 (ji24) 1), (by first | rfl | (simp; done) | (simp only [← hji24] <;> (first | rfl | simp)) | (simp [*]; done)), H', ⟨by have := HK1.out; first | omega | exact Nat.le_refl _⟩, ⟨by (with_reducible repeat (first | refine blk_drewN ?_ _ | refine blk_drew ?_ | refine blk_alloc ?_ _)); refine blk_far ?_ NB233_236.out _; (with_reducible repeat (first | refine blk_drewN ?_ _ | refine blk_drew ?_ | refine blk_alloc ?_ _)); refine blk_far ?_ NB233_236.out _; (with_reducible repeat (first | refine blk_drewN ?_ _ | refine blk_drew ?_ | refine blk_alloc ?_ _)); exact BK233.out⟩, ⟨by (with_reducible repeat (first | refine blk_drewN ?_ _ | refine blk_drew ?_ | refine blk_alloc ?_ _)); refine blk_far ?_ NB234_236.out _; (with_reducible repeat (first | refine blk_drewN ?_ _ | refine blk_drew ?_ | refine blk_alloc ?_ _)); refine blk_far ?_ NB234_236.out _; (with_reducible repeat (first | refine blk_drewN ?_ _ | refine blk_drew ?_ | refine blk_alloc ?_ _)); exact BK234.out⟩, ⟨by (with_reducible repeat (first | refine blk_drewN ?_ _ | refine blk_drew ?_ | refine blk_alloc ?_ _)); refine blk_far ?_ NB235_236.out _; (with_reducible repeat (first | refine blk_drewN ?_ _ | refine blk_drew ?_ | refine blk_alloc ?_ _)); refine blk_far ?_ NB235_236.out _; (with_reducible repeat (first | refine blk_drewN ?_ _ | refine blk_drew ?_ | refine blk_alloc ?_ _)); exact BK235.out⟩, ⟨by (with_reducible repeat (first | refine blk_drewN ?_ _ | refine blk_drew ?_ | refine blk_alloc ?_ _)); refine blk_put (cs := #[.int .u64 (Go.bits .or .u64 (IntKind.u64.wrap (x237000_1 * 2)) (x237001_1 / 9223372036854775808)), .int .u64 x237001_1]) ?_ 1 _ rfl; (with_reducible repeat (first | refine blk_drewN ?_ _ | refine blk_drew ?_ | refine blk_alloc ?_ _)); refine blk_put (cs := #[.int .u64 x237000_1, .int .u64 x237001_1]) ?_ 0 _ rfl; (with_reducible repeat (first | refine blk_drewN ?_ _ | refine blk_drew ?_ | refine blk_alloc ?_ _)); exact BK236.out⟩, ⟨by repeat (first | (with_reducible first | exact HB.out | apply below_alloc | apply pw_below_drewN | apply below_drew1 | refine below_set ?_ GE233.out | refine below_set ?_ GE234.out | refine below_set ?_ GE235.out | refine below_set ?_ GE236.out) | exact HB.out)⟩⟩
              · rw [if_neg c23] at H
                exact absurd H (by simp)
            · rw [if_neg c21] at H
              have c21b0 : decide (63 < x9_1) = false := decide_eq_false c21
              clear c21
              (first | rw [c21b0] | (simp only [i64_w, i32_w]; rw [c21b0]) | skip)
              have H' := Aside0.mk H
              clear H
              go_wp2
              go_meet
              case rel => exact ⟨_, (Go.bits .and .u64 (ji12) 1), (by first | rfl | (simp; done) | (simp only [← hji12] <;> (first | rfl | simp)) | (simp [*]; done)), H', ⟨by have := HK1.out; first | omega | exact Nat.le_refl _⟩, ⟨by (with_reducible repeat (first | refine blk_drewN ?_ _ | refine blk_drew ?_ | refine blk_alloc ?_ _)); refine blk_far ?_ NB233_236.out _; (with_reducible repeat (first | refine blk_drewN ?_ _ | refine blk_drew ?_ | refine blk_alloc ?_ _)); refine blk_far ?_ NB233_236.out _; (with_reducible repeat (first | refine blk_drewN ?_ _ | refine blk_drew ?_ | refine blk_alloc ?_ _)); exact BK233.out⟩, ⟨by (with_reducible repeat (first | refine blk_drewN ?_ _ | refine blk_drew ?_ | refine blk_alloc ?_ _)); refine blk_far ?_ NB234_236.out _; (with_reducible repeat (first | refine blk_drewN ?_ _ | refine blk_drew ?_ | refine blk_alloc ?_ _)); refine blk_far ?_ NB234_236.out _; (with_reducible repeat (first | refine blk_drewN ?_ _ | refine blk_drew ?_ | refine blk_alloc ?_ _)); exact BK234.out⟩, ⟨by (with_reducible repeat (first | refine blk_drewN ?_ _ | refine blk_drew ?_ | refine blk_alloc ?_ _)); refine blk_far ?_ NB235_236.out _; (with_reducible repeat (first | refine blk_drewN ?_ _ | refine blk_drew ?_ | refine blk_alloc ?_ _)); refine blk_far ?_ NB235_236.out _; (with_reducible repeat (first | refine blk_drewN ?_ _ | refine blk_drew ?_ | refine blk_alloc ?_ _)); exact BK235.out⟩, ⟨by (with_reducible repeat (first | refine blk_drewN ?_ _ | refine blk_drew ?_ | refine blk_alloc ?_ _)); refine blk_put (cs := #[.int .u64 (Go.bits .or .u64 (IntKind.u64.wrap (x237000_1 * 2)) (x237001_1 / 9223372036854775808)), .int .u64 x237001_1]) ?_ 1 _ rfl; (with_reducible repeat (first | refine blk_drewN ?_ _ | refine blk_drew ?_ | refine blk_alloc ?_ _)); refine blk_put (cs := #[.int .u64 x237000_1, .int .u64 x237001_1]) ?_ 0 _ rfl; (with_reducible repeat (first | refine blk_drewN ?_ _ | refine blk_drew ?_ | refine blk_alloc ?_ _)); exact BK236.out⟩, ⟨by repeat (first | (with_reducible first | exact HB.out | apply below_alloc | apply pw_below_drewN | apply below_drew1 | refine below_set ?_ GE233.out | refine below_set ?_ GE234.out | refine below_set ?_ GE235.out | refine below_set ?_ GE236.out) | exact HB.out)⟩⟩
          case rest =>
            clear HC13
            try clear c1
            try clear c2
            try clear p2
            try clear c4
            try clear c5
            try clear p6
            try clear c9
            try clear c9b0
            try clear c11
            try clear c11b0
            try clear c11b1
            try clear c14
            try clear c15
            try clear c16
            try clear c18
            try clear c19
            try clear c21
            try clear c21b0
            try clear c23
            try clear c23b0
            try clear c23b1
            try clear c25
            try clear c26
            try clear c27
            try clear hcz17_0
            try clear hcz17_1
            try clear hcz20_0
            try clear hcz20_1
            try clear hcz28_0
            try clear hcz28_1
            try clear hcz6_0
            try clear hcz6_1
            try clear hfz17_0
            try clear hfz17_1
            try clear hfz20_0
            try clear hfz20_1
            try clear hfz28_0
            try clear hfz28_1
            try clear hfz6_0
            try clear hfz6_1
            try clear p2
            obtain ⟨kq, x10_12, rfl, HA, HJ12, BK233, BK234, BK235, BK236, HB⟩ := hcut
            cases kq with
            | zero => exact absurd HA.out (by simp [lysimeterref1_over.j1])
            | succ kj12 =>
              have H := HA.out
              clear HA
              simp only [lysimeterref1_over.j1] at H
              by_cases c29 : (Go.bits .or .u64 (IntKind.u64.wrap (x237000_1 * 2)) (x237001_1 / 9223372036854775808)) > 0
              · rw [if_pos c29] at H
                have c29b0 : decide (0 < (Go.bits .or .u64 (IntKind.u64.wrap (x237000_1 * 2)) (x237001_1 / 9223372036854775808))) = true := decide_eq_true c29
                clear c29
                have H' := Aside0.mk H
                clear H
                have hnb30 := NB236_233.out
                have hnc30 := NB233_236.out
                have hnb31 := NB236_234.out
                have hnc31 := NB234_236.out
                have hnb32 := NB236_235.out
                have hnc32 := NB235_236.out
                have hcz33_0 : wc.cell? ⟨gb236, 0, none⟩ = some (.int .u64 (Go.bits .or .u64 (IntKind.u64.wrap (x237000_1 * 2)) (x237001_1 / 9223372036854775808))) := (blk_cell BK236.out 0).trans rfl
                have hcz33_1 : wc.cell? ⟨gb236, 1, none⟩ = some (.int .u64 (IntKind.u64.wrap (x237001_1 * 2))) := (blk_cell BK236.out 1).trans rfl
                have hfz33_0 := blk_frozen BK236.out 0
                have hfz33_1 := blk_frozen BK236.out 1
                have hnb34 := NB235_233.out
                have hnc34 := NB233_235.out
                have hnb35 := NB235_234.out
                have hnc35 := NB234_235.out
                have hcz36_0 : wc.cell? ⟨gb235, 0, none⟩ = some (.int .u64 x236000_1) := (blk_cell BK235.out 0).trans rfl
                have hcz36_1 : wc.cell? ⟨gb235, 1, none⟩ = some (.int .u64 x236001_1) := (blk_cell BK235.out 1).trans rfl
                have hfz36_0 := blk_frozen BK235.out 0
                have hfz36_1 := blk_frozen BK235.out 1
                go_wp2
                go_roundg kj12
                case measure => have := HK1.out; have := HJ12.out; omega
                case rel => exact ⟨(wrap64 (x9_1 - 1)), (Go.bits .or .u64 (IntKind.u64.wrap (x236000_1 * 2)) (x236001_1 / 9223372036854775808)), (Go.bits .or .u64 (IntKind.u64.wrap (x236001_1 * 2)) 1), (0), (IntKind.u64.wrap ((Go.bits .or .u64 (IntKind.u64.wrap (x237001_1 * 2)) x10_12) - a1)), (by first | rfl | (simp; done) | (simp [*]; done)), H', ⟨by have := HK1.out; have := HJ12.out; omega⟩, ⟨by (with_reducible repeat (first | refine blk_drewN ?_ _ | refine blk_drew ?_ | refine blk_alloc ?_ _)); refine blk_far ?_ NB233_235.out _; (with_reducible repeat (first | refine blk_drewN ?_ _ | refine blk_drew ?_ | refine blk_alloc ?_ _)); refine blk_far ?_ NB233_236.out _; (with_reducible repeat (first | refine blk_drewN ?_ _ | refine blk_drew ?_ | refine blk_alloc ?_ _)); refine blk_far ?_ NB233_236.out _; (with_reducible repeat (first | refine blk_drewN ?_ _ | refine blk_drew ?_ | refine blk_alloc ?_ _)); refine blk_far ?_ NB233_235.out _; (with_reducible repeat (first | refine blk_drewN ?_ _ | refine blk_drew ?_ | refine blk_alloc ?_ _)); refine blk_far ?_ NB233_235.out _; (with_reducible repeat (first | refine blk_drewN ?_ _ | refine blk_drew ?_ | refine blk_alloc ?_ _)); refine blk_far ?_ NB233_236.out _; (with_reducible repeat (first | refine blk_drewN ?_ _ | refine blk_drew ?_ | refine blk_alloc ?_ _)); exact BK233.out⟩, ⟨by (with_reducible repeat (first | refine blk_drewN ?_ _ | refine blk_drew ?_ | refine blk_alloc ?_ _)); refine blk_far ?_ NB234_235.out _; (with_reducible repeat (first | refine blk_drewN ?_ _ | refine blk_drew ?_ | refine blk_alloc ?_ _)); refine blk_far ?_ NB234_236.out _; (with_reducible repeat (first | refine blk_drewN ?_ _ | refine blk_drew ?_ | refine blk_alloc ?_ _)); refine blk_far ?_ NB234_236.out _; (with_reducible repeat (first | refine blk_drewN ?_ _ | refine blk_drew ?_ | refine blk_alloc ?_ _)); refine blk_far ?_ NB234_235.out _; (with_reducible repeat (first | refine blk_drewN ?_ _ | refine blk_drew ?_ | refine blk_alloc ?_ _)); refine blk_far ?_ NB234_235.out _; (with_reducible repeat (first | refine blk_drewN ?_ _ | refine blk_drew ?_ | refine blk_alloc ?_ _)); refine blk_far ?_ NB234_236.out _; (with_reducible repeat (first | refine blk_drewN ?_ _ | refine blk_drew ?_ | refine blk_alloc ?_ _)); exact BK234.out⟩, ⟨by (with_reducible repeat (first | refine blk_drewN ?_ _ | refine blk_drew ?_ | refine blk_alloc ?_ _)); refine blk_put (cs := #[.int .u64 (Go.bits .or .u64 (IntKind.u64.wrap (x236000_1 * 2)) (x236001_1 / 9223372036854775808)), .int .u64 (IntKind.u64.wrap (x236001_1 * 2))]) ?_ 1 _ rfl; (with_reducible repeat (first | refine blk_drewN ?_ _ | refine blk_drew ?_ | refine blk_alloc ?_ _)); refine blk_far ?_ NB235_236.out _; (with_reducible repeat (first | refine blk_drewN ?_ _ | refine blk_drew ?_ | refine blk_alloc ?_ _)); refine blk_far ?_ NB235_236.out _; (with_reducible repeat (first | refine blk_drewN ?_ _ | refine blk_drew ?_ | refine blk_alloc ?_ _)); refine blk_put (cs := #[.int .u64 (Go.bits .or .u64 (IntKind.u64.wrap (x236000_1 * 2)) (x236001_1 / 9223372036854775808)), .int .u64 x236001_1]) ?_ 1 _ rfl; (with_reducible repeat (first | refine blk_drewN ?_ _ | refine blk_drew ?_ | refine blk_alloc ?_ _)); refine blk_put (cs := #[.int .u64 x236000_1, .int .u64 x236001_1]) ?_ 0 _ rfl; (with_reducible repeat (first | refine blk_drewN ?_ _ | refine blk_drew ?_ | refine blk_alloc ?_ _)); refine blk_far ?_ NB235_236.out _; (with_reducible repeat (first | refine blk_drewN ?_ _ | refine blk_drew ?_ | refine blk_alloc ?_ _)); exact BK235.out⟩, ⟨by (with_reducible repeat (first | refine blk_drewN ?_ _ | refine blk_drew ?_ | refine blk_alloc ?_ _)); refine blk_far ?_ NB236_235.out _; (with_reducible repeat (first | refine blk_drewN ?_ _ | refine blk_drew ?_ | refine blk_alloc ?_ _)); refine blk_put (cs := #[.int .u64 0, .int .u64 (Go.bits .or .u64 (IntKind.u64.wrap (x237001_1 * 2)) x10_12)]) ?_ 1 _ rfl; (with_reducible repeat (first | refine blk_drewN ?_ _ | refine blk_drew ?_ | refine blk_alloc ?_ _)); refine blk_put (cs := #[.int .u64 (Go.bits .or .u64 (IntKind.u64.wrap (x237000_1 * 2)) (x237001_1 / 9223372036854775808)), .int .u64 (Go.bits .or .u64 (IntKind.u64.wrap (x237001_1 * 2)) x10_12)]) ?_ 0 _ rfl; (with_reducible repeat (first | refine blk_drewN ?_ _ | refine blk_drew ?_ | refine blk_alloc ?_ _)); refine blk_far ?_ NB236_235.out _; (with_reducible repeat (first | refine blk_drewN ?_ _ | refine blk_drew ?_ | refine blk_alloc ?_ _)); refine blk_far ?_ NB236_235.out _; (with_reducible repeat (first | refine blk_drewN ?_ _ | refine blk_drew ?_ | refine blk_alloc ?_ _)); refine blk_put (cs := #[.int .u64 (Go.bits .or .u64 (IntKind.u64.wrap (x237000_1 * 2)) (x237001_1 / 9223372036854775808)), .int .u64 (IntKind.u64.wrap (x237001_1 * 2))]) ?_ 1 _ rfl; (with_reducible repeat (first | refine blk_drewN ?_ _ | refine blk_drew ?_ | refine blk_alloc ?_ _)); exact BK236.out⟩, ⟨by repeat (first | (with_reducible first | exact HB.out | apply below_alloc | apply pw_below_drewN | apply below_drew1 | refine below_set ?_ GE233.out | refine below_set ?_ GE234.out | refine below_set ?_ GE235.out | refine below_set ?_ GE236.out) | exact HB.out)⟩⟩
              · rw [if_neg c29] at H
                have c29b0 : decide (0 < (Go.bits .or .u64 (IntKind.u64.wrap (x237000_1 * 2)) (x237001_1 / 9223372036854775808))) = false := decide_eq_false c29
                clear c29
                by_cases c37 : (Go.bits .or .u64 (IntKind.u64.wrap (x237001_1 * 2)) x10_12) ≥ a1
                · rw [if_pos c37] at H
                  have c37b0 : decide (a1 ≤ (Go.bits .or .u64 (IntKind.u64.wrap (x237001_1 * 2)) x10_12)) = true := decide_eq_true c37
                  clear c37
                  have H' := Aside0.mk H
                  clear H
                  have hnb38 := NB236_233.out
                  have hnc38 := NB233_236.out
                  have hnb39 := NB236_234.out
                  have hnc39 := NB234_236.out
                  have hnb40 := NB236_235.out
                  have hnc40 := NB235_236.out
                  have hcz41_0 : wc.cell? ⟨gb236, 0, none⟩ = some (.int .u64 (Go.bits .or .u64 (IntKind.u64.wrap (x237000_1 * 2)) (x237001_1 / 9223372036854775808))) := (blk_cell BK236.out 0).trans rfl
                  have hcz41_1 : wc.cell? ⟨gb236, 1, none⟩ = some (.int .u64 (IntKind.u64.wrap (x237001_1 * 2))) := (blk_cell BK236.out 1).trans rfl
                  have hfz41_0 := blk_frozen BK236.out 0
                  have hfz41_1 := blk_frozen BK236.out 1
                  have hnb42 := NB235_233.out
                  have hnc42 := NB233_235.out
                  have hnb43 := NB235_234.out
                  have hnc43 := NB234_235.out
                  have hcz44_0 : wc.cell? ⟨gb235, 0, none⟩ = some (.int .u64 x236000_1) := (blk_cell BK235.out 0).trans rfl
                  have hcz44_1 : wc.cell? ⟨gb235, 1, none⟩ = some (.int .u64 x236001_1) := (blk_cell BK235.out 1).trans rfl
                  have hfz44_0 := blk_frozen BK235.out 0
                  have hfz44_1 := blk_frozen BK235.out 1
                  go_wp2
                  go_roundg kj12
                  case measure => have := HK1.out; have := HJ12.out; omega
                  case rel => exact ⟨(wrap64 (x9_1 - 1)), (Go.bits .or .u64 (IntKind.u64.wrap (x236000_1 * 2)) (x236001_1 / 9223372036854775808)), (Go.bits .or .u64 (IntKind.u64.wrap (x236001_1 * 2)) 1), (0), (IntKind.u64.wrap ((Go.bits .or .u64 (IntKind.u64.wrap (x237001_1 * 2)) x10_12) - a1)), (by first | rfl | (simp; done) | (simp [*]; done)), H', ⟨by have := HK1.out; have := HJ12.out; omega⟩, ⟨by (with_reducible repeat (first | refine blk_drewN ?_ _ | refine blk_drew ?_ | refine blk_alloc ?_ _)); refine blk_far ?_ NB233_235.out _; (with_reducible repeat (first | refine blk_drewN ?_ _ | refine blk_drew ?_ | refine blk_alloc ?_ _)); refine blk_far ?_ NB233_236.out _; (with_reducible repeat (first | refine blk_drewN ?_ _ | refine blk_drew ?_ | refine blk_alloc ?_ _)); refine blk_far ?_ NB233_236.out _; (with_reducible repeat (first | refine blk_drewN ?_ _ | refine blk_drew ?_ | refine blk_alloc ?_ _)); refine blk_far ?_ NB233_235.out _; (with_reducible repeat (first | refine blk_drewN ?_ _ | refine blk_drew ?_ | refine blk_alloc ?_ _)); refine blk_far ?_ NB233_235.out _; (with_reducible repeat (first | refine blk_drewN ?_ _ | refine blk_drew ?_ | refine blk_alloc ?_ _)); refine blk_far ?_ NB233_236.out _; (with_reducible repeat (first | refine blk_drewN ?_ _ | refine blk_drew ?_ | refine blk_alloc ?_ _)); exact BK233.out⟩, ⟨by (with_reducible repeat (first | refine blk_drewN ?_ _ | refine blk_drew ?_ | refine blk_alloc ?_ _)); refine blk_far ?_ NB234_235.out _; (with_reducible repeat (first | refine blk_drewN ?_ _ | refine blk_drew ?_ | refine blk_alloc ?_ _)); refine blk_far ?_ NB234_236.out _; (with_reducible repeat (first | refine blk_drewN ?_ _ | refine blk_drew ?_ | refine blk_alloc ?_ _)); refine blk_far ?_ NB234_236.out _; (with_reducible repeat (first | refine blk_drewN ?_ _ | refine blk_drew ?_ | refine blk_alloc ?_ _)); refine blk_far ?_ NB234_235.out _; (with_reducible repeat (first | refine blk_drewN ?_ _ | refine blk_drew ?_ | refine blk_alloc ?_ _)); refine blk_far ?_ NB234_235.out _; (with_reducible repeat (first | refine blk_drewN ?_ _ | refine blk_drew ?_ | refine blk_alloc ?_ _)); refine blk_far ?_ NB234_236.out _; (with_reducible repeat (first | refine blk_drewN ?_ _ | refine blk_drew ?_ | refine blk_alloc ?_ _)); exact BK234.out⟩, ⟨by (with_reducible repeat (first | refine blk_drewN ?_ _ | refine blk_drew ?_ | refine blk_alloc ?_ _)); refine blk_put (cs := #[.int .u64 (Go.bits .or .u64 (IntKind.u64.wrap (x236000_1 * 2)) (x236001_1 / 9223372036854775808)), .int .u64 (IntKind.u64.wrap (x236001_1 * 2))]) ?_ 1 _ rfl; (with_reducible repeat (first | refine blk_drewN ?_ _ | refine blk_drew ?_ | refine blk_alloc ?_ _)); refine blk_far ?_ NB235_236.out _; (with_reducible repeat (first | refine blk_drewN ?_ _ | refine blk_drew ?_ | refine blk_alloc ?_ _)); refine blk_far ?_ NB235_236.out _; (with_reducible repeat (first | refine blk_drewN ?_ _ | refine blk_drew ?_ | refine blk_alloc ?_ _)); refine blk_put (cs := #[.int .u64 (Go.bits .or .u64 (IntKind.u64.wrap (x236000_1 * 2)) (x236001_1 / 9223372036854775808)), .int .u64 x236001_1]) ?_ 1 _ rfl; (with_reducible repeat (first | refine blk_drewN ?_ _ | refine blk_drew ?_ | refine blk_alloc ?_ _)); refine blk_put (cs := #[.int .u64 x236000_1, .int .u64 x236001_1]) ?_ 0 _ rfl; (with_reducible repeat (first | refine blk_drewN ?_ _ | refine blk_drew ?_ | refine blk_alloc ?_ _)); refine blk_far ?_ NB235_236.out _; (with_reducible repeat (first | refine blk_drewN ?_ _ | refine blk_drew ?_ | refine blk_alloc ?_ _)); exact BK235.out⟩, ⟨by (with_reducible repeat (first | refine blk_drewN ?_ _ | refine blk_drew ?_ | refine blk_alloc ?_ _)); refine blk_far ?_ NB236_235.out _; (with_reducible repeat (first | refine blk_drewN ?_ _ | refine blk_drew ?_ | refine blk_alloc ?_ _)); refine blk_put (cs := #[.int .u64 0, .int .u64 (Go.bits .or .u64 (IntKind.u64.wrap (x237001_1 * 2)) x10_12)]) ?_ 1 _ rfl; (with_reducible repeat (first | refine blk_drewN ?_ _ | refine blk_drew ?_ | refine blk_alloc ?_ _)); refine blk_put (cs := #[.int .u64 (Go.bits .or .u64 (IntKind.u64.wrap (x237000_1 * 2)) (x237001_1 / 9223372036854775808)), .int .u64 (Go.bits .or .u64 (IntKind.u64.wrap (x237001_1 * 2)) x10_12)]) ?_ 0 _ rfl; (with_reducible repeat (first | refine blk_drewN ?_ _ | refine blk_drew ?_ | refine blk_alloc ?_ _)); refine blk_far ?_ NB236_235.out _; (with_reducible repeat (first | refine blk_drewN ?_ _ | refine blk_drew ?_ | refine blk_alloc ?_ _)); refine blk_far ?_ NB236_235.out _; (with_reducible repeat (first | refine blk_drewN ?_ _ | refine blk_drew ?_ | refine blk_alloc ?_ _)); refine blk_put (cs := #[.int .u64 (Go.bits .or .u64 (IntKind.u64.wrap (x237000_1 * 2)) (x237001_1 / 9223372036854775808)), .int .u64 (IntKind.u64.wrap (x237001_1 * 2))]) ?_ 1 _ rfl; (with_reducible repeat (first | refine blk_drewN ?_ _ | refine blk_drew ?_ | refine blk_alloc ?_ _)); exact BK236.out⟩, ⟨by repeat (first | (with_reducible first | exact HB.out | apply below_alloc | apply pw_below_drewN | apply below_drew1 | refine below_set ?_ GE233.out | refine below_set ?_ GE234.out | refine below_set ?_ GE235.out | refine below_set ?_ GE236.out) | exact HB.out)⟩⟩
                · rw [if_neg c37] at H
                  have c37b0 : decide (a1 ≤ (Go.bits .or .u64 (IntKind.u64.wrap (x237001_1 * 2)) x10_12)) = false := decide_eq_false c37
                  clear c37
                  have H' := Aside0.mk H
                  clear H
                  have hnb45 := NB236_233.out
                  have hnc45 := NB233_236.out
                  have hnb46 := NB236_234.out
                  have hnc46 := NB234_236.out
                  have hnb47 := NB236_235.out
                  have hnc47 := NB235_236.out
                  have hcz48_0 : wc.cell? ⟨gb236, 0, none⟩ = some (.int .u64 (Go.bits .or .u64 (IntKind.u64.wrap (x237000_1 * 2)) (x237001_1 / 9223372036854775808))) := (blk_cell BK236.out 0).trans rfl
                  have hcz48_1 : wc.cell? ⟨gb236, 1, none⟩ = some (.int .u64 (IntKind.u64.wrap (x237001_1 * 2))) := (blk_cell BK236.out 1).trans rfl
                  have hfz48_0 := blk_frozen BK236.out 0
                  have hfz48_1 := blk_frozen BK236.out 1
                  have hnb49 := NB235_233.out
                  have hnc49 := NB233_235.out
                  have hnb50 := NB235_234.out
                  have hnc50 := NB234_235.out
                  have hcz51_0 : wc.cell? ⟨gb235, 0, none⟩ = some (.int .u64 x236000_1) := (blk_cell BK235.out 0).trans rfl
                  have hcz51_1 : wc.cell? ⟨gb235, 1, none⟩ = some (.int .u64 x236001_1) := (blk_cell BK235.out 1).trans rfl
                  have hfz51_0 := blk_frozen BK235.out 0
                  have hfz51_1 := blk_frozen BK235.out 1
                  go_wp2
                  go_roundg kj12
                  case measure => have := HK1.out; have := HJ12.out; omega
                  case rel => exact ⟨(wrap64 (x9_1 - 1)), (Go.bits .or .u64 (IntKind.u64.wrap (x236000_1 * 2)) (x236001_1 / 9223372036854775808)), (IntKind.u64.wrap (x236001_1 * 2)), ((Go.bits .or .u64 (IntKind.u64.wrap (x237000_1 * 2)) (x237001_1 / 9223372036854775808))), (Go.bits .or .u64 (IntKind.u64.wrap (x237001_1 * 2)) x10_12), (by first | rfl | (simp; done) | (simp [*]; done)), H', ⟨by have := HK1.out; have := HJ12.out; omega⟩, ⟨by (with_reducible repeat (first | refine blk_drewN ?_ _ | refine blk_drew ?_ | refine blk_alloc ?_ _)); refine blk_far ?_ NB233_235.out _; (with_reducible repeat (first | refine blk_drewN ?_ _ | refine blk_drew ?_ | refine blk_alloc ?_ _)); refine blk_far ?_ NB233_235.out _; (with_reducible repeat (first | refine blk_drewN ?_ _ | refine blk_drew ?_ | refine blk_alloc ?_ _)); refine blk_far ?_ NB233_236.out _; (with_reducible repeat (first | refine blk_drewN ?_ _ | refine blk_drew ?_ | refine blk_alloc ?_ _)); exact BK233.out⟩, ⟨by (with_reducible repeat (first | refine blk_drewN ?_ _ | refine blk_drew ?_ | refine blk_alloc ?_ _)); refine blk_far ?_ NB234_235.out _; (with_reducible repeat (first | refine blk_drewN ?_ _ | refine blk_drew ?_ | refine blk_alloc ?_ _)); refine blk_far ?_ NB234_235.out _; (with_reducible repeat (first | refine blk_drewN ?_ _ | refine blk_drew ?_ | refine blk_alloc ?_ _)); refine blk_far ?_ NB234_236.out _; (with_reducible repeat (first | refine blk_drewN ?_ _ | refine blk_drew ?_ | refine blk_alloc ?_ _)); exact BK234.out⟩, ⟨by (with_reducible repeat (first | refine blk_drewN ?_ _ | refine blk_drew ?_ | refine blk_alloc ?_ _)); refine blk_put (cs := #[.int .u64 (Go.bits .or .u64 (IntKind.u64.wrap (x236000_1 * 2)) (x236001_1 / 9223372036854775808)), .int .u64 x236001_1]) ?_ 1 _ rfl; (with_reducible repeat (first | refine blk_drewN ?_ _ | refine blk_drew ?_ | refine blk_alloc ?_ _)); refine blk_put (cs := #[.int .u64 x236000_1, .int .u64 x236001_1]) ?_ 0 _ rfl; (with_reducible repeat (first | refine blk_drewN ?_ _ | refine blk_drew ?_ | refine blk_alloc ?_ _)); refine blk_far ?_ NB235_236.out _; (with_reducible repeat (first | refine blk_drewN ?_ _ | refine blk_drew ?_ | refine blk_alloc ?_ _)); exact BK235.out⟩, ⟨by (with_reducible repeat (first | refine blk_drewN ?_ _ | refine blk_drew ?_ | refine blk_alloc ?_ _)); refine blk_far ?_ NB236_235.out _; (with_reducible repeat (first | refine blk_drewN ?_ _ | refine blk_drew ?_ | refine blk_alloc ?_ _)); refine blk_far ?_ NB236_235.out _; (with_reducible repeat (first | refine blk_drewN ?_ _ | refine blk_drew ?_ | refine blk_alloc ?_ _)); refine blk_put (cs := #[.int .u64 (Go.bits .or .u64 (IntKind.u64.wrap (x237000_1 * 2)) (x237001_1 / 9223372036854775808)), .int .u64 (IntKind.u64.wrap (x237001_1 * 2))]) ?_ 1 _ rfl; (with_reducible repeat (first | refine blk_drewN ?_ _ | refine blk_drew ?_ | refine blk_alloc ?_ _)); exact BK236.out⟩, ⟨by repeat (first | (with_reducible first | exact HB.out | apply below_alloc | apply pw_below_drewN | apply below_drew1 | refine below_set ?_ GE233.out | refine below_set ?_ GE234.out | refine below_set ?_ GE235.out | refine below_set ?_ GE236.out) | exact HB.out)⟩⟩
        · rw [if_neg c11] at H
          exact absurd H (by simp)
      · rw [if_neg c9] at H
        have c9b0 : decide (0 ≤ x9_1) = false := decide_eq_false c9
        clear c9
        simp only [Option.some.injEq, Prod.mk.injEq] at H
        obtain ⟨rfl, rfl, rfl⟩ := H
        try go_wp2
        have n0_ := Aside0.mk (blk_drew BK233.out)
        have n1_ := Aside0.mk (blk_drew BK234.out)
        have n2_ := Aside0.mk (blk_drew BK235.out)
        have n3_ := Aside0.mk (blk_drew BK236.out)
        have n4_ := Aside0.mk (below_drew1 HB.out)
        clear BK233
        clear BK234
        clear BK235
        clear BK236
        clear HB
        have BK233 := n0_
        have BK234 := n1_
        have BK235 := n2_
        have BK236 := n3_
        have HB := n4_
        clear n0_ n1_ n2_ n3_ n4_
        refine start_ (n := 6) (S := fun w' => w'.cell? ⟨gb235, 0, none⟩ = some (.int .u64 x236000_1) ∧ w'.cell? ⟨gb235, 1, none⟩ = some (.int .u64 x236001_1) ∧ w'.cell? ⟨gb236, 0, none⟩ = some (.int .u64 x237000_1) ∧ w'.cell? ⟨gb236, 1, none⟩ = some (.int .u64 x237001_1)) (ds := []) #[false, false, false, false, false, false] (by kernel_rfl) rfl rfl ⟨(blk_cell BK235.out 0).trans rfl, (blk_cell BK235.out 1).trans rfl, (blk_cell BK236.out 0).trans rfl, (blk_cell BK236.out 1).trans rfl⟩ (fun hHeld => ?_)
        generalize wr.drew = w52 at BK233 BK234 BK235 BK236 HB hHeld ⊢
        refine pure_ (i := 1) (N := some 82) (v := ?_) (a' := ?_) #[false, true, false, false, false, false] rfl rfl (by kernel_rfl) (fun _ _ _ h => h) (Or.inl ⟨by rfl, ?_⟩) ?_ ?_
        rotate_left
        · intro w'
          go_simp
          with_reducible rfl
        rotate_left
        · simp only [Act.put, List.setIfInBounds_toArray, List.set_cons_zero, List.set_cons_succ, i64_w, i32_w]
          rfl
        refine take_ (i := 0) (N := some 81) (v := ?_) (a' := ?_) #[true, true, false, false, false, false] rfl rfl (by kernel_rfl) (fun _ _ _ h => h) (Or.inl ⟨by rfl, ?_⟩) hHeld ?_ ?_
        rotate_left
        · rintro w' ⟨s0, s1, s2, s3⟩
          go_simp
          with_reducible rfl
        rotate_left
        · simp only [Act.put, List.setIfInBounds_toArray, List.set_cons_zero, List.set_cons_succ, i64_w, i32_w]
          rfl
        refine take_ (i := 2) (N := some 83) (v := ?_) (a' := ?_) #[true, true, true, false, false, false] rfl rfl (by kernel_rfl) (fun _ _ _ h => h) (Or.inl ⟨by rfl, ?_⟩) hHeld ?_ ?_
        rotate_left
        · rintro w' ⟨s0, s1, s2, s3⟩
          go_simp
          with_reducible rfl
        rotate_left
        · simp only [Act.put, List.setIfInBounds_toArray, List.set_cons_zero, List.set_cons_succ, i64_w, i32_w]
          rfl
        refine pure_ (i := 3) (N := some 84) (v := ?_) (a' := ?_) #[true, true, true, true, false, false] rfl rfl (by kernel_rfl) (fun _ _ _ h => h) (Or.inl ⟨by rfl, ?_⟩) ?_ ?_
        rotate_left
        · intro w'
          go_simp
          with_reducible rfl
        rotate_left
        · simp only [Act.put, List.setIfInBounds_toArray, List.set_cons_zero, List.set_cons_succ, i64_w, i32_w]
          rfl
        refine one_ (i := 4) (N := none) #[true, true, true, true, true, false] rfl rfl (by kernel_rfl) (by decide) (fun K hK => ?_)
        have hs53 : w52.cell? ⟨gb233, 0, none⟩ = some (.int .u64 0) := (blk_cell BK233.out 0).trans rfl
        have hfs53 := blk_frozen BK233.out 0
        have hns53_1 := NB234_233.out
        have hns53_2 := NB235_233.out
        have hns53_3 := NB236_233.out
        have hms53_1 := NB233_234.out
        have hms53_2 := NB233_235.out
        have hms53_3 := NB233_236.out
        have hs54 : w52.cell? ⟨gb233, 1, none⟩ = some (.int .u64 0) := (blk_cell BK233.out 1).trans rfl
        have hfs54 := blk_frozen BK233.out 1
        have hns54_1 := NB234_233.out
        have hns54_2 := NB235_233.out
        have hns54_3 := NB236_233.out
        have hms54_1 := NB233_234.out
        have hms54_2 := NB233_235.out
        have hms54_3 := NB233_236.out
        refine skip_ (w1 := ?_) (by rfl) rfl ?_ ?_
        rotate_left
        · go_simp
          rfl
        refine hK.out _ _ ⟨((cell_far (p := ⟨gb233, _, none⟩) NB235_233.out _).trans (((cell_far (p := ⟨gb233, _, none⟩) NB235_233.out _).trans (hHeld.1)))), ((cell_far (p := ⟨gb233, _, none⟩) NB235_233.out _).trans (((cell_far (p := ⟨gb233, _, none⟩) NB235_233.out _).trans (hHeld.2.1)))), ((cell_far (p := ⟨gb233, _, none⟩) NB236_233.out _).trans (((cell_far (p := ⟨gb233, _, none⟩) NB236_233.out _).trans (hHeld.2.2.1)))), ((cell_far (p := ⟨gb233, _, none⟩) NB236_233.out _).trans (((cell_far (p := ⟨gb233, _, none⟩) NB236_233.out _).trans (hHeld.2.2.2))))⟩ (fun hHeld => ?_)
        clear hK K
        refine pure_ (i := 5) (N := some 5) (v := ?_) (a' := ?_) #[true, true, true, true, true, true] rfl rfl (by kernel_rfl) (fun _ _ _ h => h) (Or.inl ⟨by rfl, ?_⟩) ?_ ?_
        rotate_left
        · intro w'
          go_simp
          with_reducible rfl
        rotate_left
        · simp only [Act.put, List.setIfInBounds_toArray, List.set_cons_zero, List.set_cons_succ, i64_w, i32_w]
          rfl
        refine done_ (by kernel_rfl) ?_
        try go_wp2
        refine bodyPost_ret (results_ct rfl _ _ gb233 38 #[.int .u64 x236000_1, .int .u64 x236001_1] (0, 0) _ rfl (by (with_reducible repeat (first | refine blk_drewN ?_ _ | refine blk_drew ?_ | refine blk_alloc ?_ _)); refine blk_put (cs := #[.int .u64 x236000_1, .int .u64 0]) ?_ 1 _ rfl; (with_reducible repeat (first | refine blk_drewN ?_ _ | refine blk_drew ?_ | refine blk_alloc ?_ _)); refine blk_put (cs := #[.int .u64 0, .int .u64 0]) ?_ 0 _ rfl; (with_reducible repeat (first | refine blk_drewN ?_ _ | refine blk_drew ?_ | refine blk_alloc ?_ _)); exact BK233.out) Try.underlying38 rfl (by kernel_rfl)) rfl ?_
        exact ⟨by first | rfl | (simp [errW_none, errW_some] <;> rfl) | (simp [*, errW_none, errW_some] <;> rfl), by repeat (first | (with_reducible first | exact HB.out | apply below_alloc | apply pw_below_drewN | apply below_drew1 | refine below_set ?_ GE233.out | refine below_set ?_ GE234.out | refine below_set ?_ GE235.out | refine below_set ?_ GE236.out) | exact HB.out)⟩

end Go.Proofs.Ytnaeekahmbilnaa.Fix
