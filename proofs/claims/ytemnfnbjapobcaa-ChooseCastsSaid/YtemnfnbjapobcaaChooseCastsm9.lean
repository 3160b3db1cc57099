-- Laid together by wip/shake.py out of: Cmx2 CmSpec Ch8 Ch9 Extra2 Chx0
import Derived.Test.YtemnfnbjapobcaaChooseCastsm8
import Derived.Test.YtemnfnbjapobcaaProg
import Derived.Below
import Derived.Deep.Draws
import Derived.Deep.AppendLies
import Derived.Maps.AppendAt
import Derived.OwnWalk
import Derived.Laws.BytesArg
import Derived.Laws.MakeOwn
import Derived.Laws.OwnMore
import Derived.Deep.OwnRows
import Derived.Tactics
import Derived.Lib.ConvBytes
import Derived.Laws.Slices
import Derived.WalkKit
import Derived.KernelRfl
import Derived.RowKit3
import Derived.Deep.LoopGhost
import Derived.Deep.QuietTactic
import Derived.BigQuiet
import Derived.WideLaws
import Derived.Deep.DeepCutAuto
import Derived.Deep.CutBlock
import Derived.Deep.RegionHeld3
import Derived.Laws.Rows
import Derived.Lib.AppendStr
import Derived.ArgAppend
import Derived.Laws.IdiomCopy
import Derived.OrdersHeld
import Derived.Laws.BitsLemmas
import Derived.RowKit
section
namespace Go.Proofs.Ytemnfnbjapobcaa.Cm
open Go.RowKit Go.Proofs.YtemnfnbjapobcaaW.PrintWords Go.Proofs.YtemnfnbjapobcaaW.PrintLast Go.Proofs.YtemnfnbjapobcaaW.PrintMore
attribute [local go_sem] max2_int min2_int max_two min_two max_three min_three max_four min_four   -- for this text's walks alone
set_option linter.unusedVariables false
set_option linter.unusedSimpArgs false
def season_Miss_1.f (k : Nat) (l : List Int) (s : Int) (i : Int) : Option Int := if 0 ≤ i then (if i < (l.length : Int) then (if 0 ≤ (wrap64 (i - s)) then (if (wrap64 (i - s)) < (l.length : Int) then (season_Distance.f (rd l i) (rd l (wrap64 (i - s)))) else none) else none) else none) else none
def season_Miss.l0 : Nat → List Int → Int → Int → Int → Option (Int × Int)
  | 0, _, _, _, _ => none
  | k + 1, l, s, sum, i => if i < (l.length : Int) then ((season_Miss_1.f k l s i).bind fun d => ((fixed_Add.f sum d).bind fun t => (season_Miss.l0 k l s t (wrap64 (i + 1))))) else (some (sum, 0))
def season_Miss.f (k : Nat) (l0 : List Int) (a1 : Int) (a2 : Int) : Option (Int × Int) := (season_counted.f a1).bind fun c => (if c = true then (if (l0.length : Int) < a1 then (some (0, 1)) else (if a2 < 1 then (some (0, 1)) else (if a1 > (wrap64 ((l0.length : Int) - a2)) then (some (0, 1)) else (season_Miss.l0 k l0 a1 0 (wrap64 ((l0.length : Int) - a2)))))) else (some (0, 1)))
theorem season_Distance.quiet (a0 a1 r : Int) (w : World) (h : season_Distance.f a0 a1 = some r) :
    Calls Try.prog 73 #[.int .i64 a0, .int .i64 a1] w fun e w' => e = .returned (.int .i64 r) ∧ ∃ m, w' = w.drewN m :=
  (season_Distance.calls a0 a1 r w h).mono fun _ _ ⟨he, hw⟩ => ⟨he, hw.out⟩
set_option maxHeartbeats 4000000 in
set_option maxRecDepth 100000 in
theorem season_Miss_1.calls (k : Nat) (A : Option Addr) (c : Nat) (l : List Int) (s i r : Int) (bl bs : Nat) (w : World) (hl : w.cell? ⟨bl, 0, none⟩ = some (.slice A l.length c)) (hs : w.cell? ⟨bs, 0, none⟩ = some (.int .i64 s)) (hr : Kd.C (Kd.int .i64) w A l.length l) (h : season_Miss_1.f k l s i = some r) :
    Calls Try.prog 144 #[.int .i64 i, .pointer (some ⟨bl, 0, none⟩), .pointer (some ⟨bs, 0, none⟩)] w fun e w' => e = .returned (.int .i64 r) ∧ Drawn0 w w' := by
  unfold season_Miss_1.f at h
  by_cases h0 : 0 ≤ i
  · by_cases h1 : i < (l.length : Int)
    · obtain ⟨j, hj⟩ : ∃ j, wrap64 (i - s) = j := ⟨_, rfl⟩
      by_cases h2 : 0 ≤ j
      · by_cases h3 : j < (l.length : Int)
        · rw [if_pos h0, if_pos h1, hj, if_pos h2, if_pos h3] at h
          obtain ⟨ad, rfl, c1⟩ := Kd.at_int hr i h0 h1
          obtain ⟨ad', e2, c2⟩ := Kd.at_int hr j h2 h3
          cases e2
          have D := Aside0.mk h
          clear h
          have hjw : IntKind.i64.wrap (i - s) = j := (i64_w _).trans hj
          have g0 := eq_true h0
          have g1 := eq_true h1
          have g2 := eq_true h2
          have g3 := eq_true h3
          clear h0 h1 h2 h3
          go_enter Try.func144, Try.ntmps144
          go_wp2
          go_quiet ((go_at_call 73; exact Calls.quiet_of (season_Distance.quiet _ _ r _ D.out)))
          go_wp2
          go_ret
          exact ⟨rfl, by repeat (first | exact Drawn0.refl _ | apply Drawn0.step)⟩
        · rw [if_pos h0, if_pos h1, hj, if_pos h2, if_neg h3] at h; cases h
      · rw [if_pos h0, if_pos h1, hj, if_neg h2] at h; cases h
    · rw [if_pos h0, if_neg h1] at h; cases h
  · rw [if_neg h0] at h; cases h
set_option maxHeartbeats 4000000 in
set_option maxRecDepth 100000 in
theorem season_Miss.calls (k : Nat) (A0 : Option Addr) (c0 : Nat) (l0 : List Int) (a1 : Int) (a2 : Int) (r1 : Int) (r2 : Int) (w : World) (hr0 : Kd.C (Kd.int .i64) w A0 l0.length l0) (hc0 : l0.length ≤ c0) (h : season_Miss.f k l0 a1 a2 = some (r1, r2)) :
    Calls Try.prog 136 #[.slice A0 l0.length c0, .int .i64 a1, .int .i64 a2] w fun e w' => e = .returned (.tuple #[.int .i64 r1, .int .i64 r2]) ∧ Below w.heap.size w w' := by
  unfold season_Miss.f at h
  obtain ⟨c, A1, H⟩ := Option.bind_eq_some_iff.mp h
  have AC := Aside0.mk A1
  clear A1 h
  have bad : ∀ (e : Ending) (w' : World), e = .returned (.tuple #[.int .i64 0, .int .i64 1]) ∧ Below w.heap.size w w' → (some ((0 : Int), (1 : Int)) = some (r1, r2)) → e = .returned (.tuple #[.int .i64 r1, .int .i64 r2]) ∧ Below w.heap.size w w' := by
    intro e w' h1 h2
    obtain ⟨rfl, rfl⟩ := Prod.mk.inj (Option.some.inj h2)
    exact h1
  have fin : ∀ n : Nat, Below w.heap.size w (((w.alloc (.cells #[.slice A0 l0.length c0] 23)).alloc (.cells #[.int .i64 a1] 3)).drewN n) := fun n =>
    pw_below_drewN (below_alloc (below_alloc (Below.refl _ _) _) _) n
  cases c
  · rw [if_neg (by decide)] at H
    refine Calls.mono ?_ (fun e w' h1 => bad e w' h1 H)
    clear H bad
    have FIN := Aside0.mk fin
    clear fin
    go_enter Try.func136, Try.ntmps136
    go_wp2_with (go_at_call 143; (with_reducible refine (season_counted.calls a1 false _ AC.out).mono ?_); rintro e w' ⟨rfl, ⟨nd, rfl⟩⟩)
    go_ret2
    exact ⟨rfl, FIN.out _⟩
  · rw [if_pos rfl] at H
    by_cases h1 : (l0.length : Int) < a1
    · rw [if_pos h1] at H
      refine Calls.mono ?_ (fun e w' h1 => bad e w' h1 H)
      clear H bad
      have FIN := Aside0.mk fin
      clear fin
      have g1 : decide ((l0.length : Int) < a1) = true := decide_eq_true h1
      clear h1
      go_enter Try.func136, Try.ntmps136
      go_wp2_with (go_at_call 143; (with_reducible refine (season_counted.calls a1 true _ AC.out).mono ?_); rintro e w' ⟨rfl, ⟨nd, rfl⟩⟩)
      go_ret2
      exact ⟨rfl, FIN.out _⟩
    · rw [if_neg h1] at H
      have g1 : decide ((l0.length : Int) < a1) = false := decide_eq_false h1
      clear h1
      by_cases h2 : a2 < 1
      · rw [if_pos h2] at H
        refine Calls.mono ?_ (fun e w' h1 => bad e w' h1 H)
        clear H bad
        have FIN := Aside0.mk fin
        clear fin
        have g2 : decide (a2 < 1) = true := decide_eq_true h2
        clear h2
        go_enter Try.func136, Try.ntmps136
        go_wp2_with (go_at_call 143; (with_reducible refine (season_counted.calls a1 true _ AC.out).mono ?_); rintro e w' ⟨rfl, ⟨nd, rfl⟩⟩)
        go_ret2
        exact ⟨rfl, FIN.out _⟩
      · rw [if_neg h2] at H
        have g2 : decide (a2 < 1) = false := decide_eq_false h2
        clear h2
        obtain ⟨j, hj⟩ : ∃ j, wrap64 ((l0.length : Int) - a2) = j := ⟨_, rfl⟩
        rw [hj] at H
        have hjw : IntKind.i64.wrap ((l0.length : Int) - a2) = j := (i64_w _).trans hj
        by_cases h3 : a1 > j
        · rw [if_pos h3] at H
          refine Calls.mono ?_ (fun e w' h1 => bad e w' h1 H)
          clear H bad
          have FIN := Aside0.mk fin
          clear fin
          have g3 : decide (j < a1) = true := decide_eq_true h3
          clear h3
          go_enter Try.func136, Try.ntmps136
          go_wp2_with (go_at_call 143; (with_reducible refine (season_counted.calls a1 true _ AC.out).mono ?_); rintro e w' ⟨rfl, ⟨nd, rfl⟩⟩)
          go_ret2
          exact ⟨rfl, FIN.out _⟩
        · rw [if_neg h3] at H
          have g3 : decide (j < a1) = false := decide_eq_false h3
          clear h3 bad
          have FIN := Aside0.mk fin
          have H' := Aside0.mk H
          have HB1 : Aside0 (∀ n : Nat, (((w.alloc (.cells #[.slice A0 l0.length c0] 23)).alloc (.cells #[.int .i64 a1] 3)).drewN n).cell? ⟨w.heap.size, 0, none⟩ = some (.slice A0 l0.length c0)) := ⟨fun n => by go_simp⟩
          have HB2 : Aside0 (∀ n : Nat, (((w.alloc (.cells #[.slice A0 l0.length c0] 23)).alloc (.cells #[.int .i64 a1] 3)).drewN n).cell? ⟨w.heap.size + 1, 0, none⟩ = some (.int .i64 a1)) := ⟨fun n => by go_simp⟩
          have HB3 : Aside0 (∀ n : Nat, Kd.C (Kd.int .i64) (((w.alloc (.cells #[.slice A0 l0.length c0] 23)).alloc (.cells #[.int .i64 a1] 3)).drewN n) A0 l0.length l0) := ⟨fun n => Kd.C_below hr0 (fin n)⟩
          clear fin H hr0
          go_enter Try.func136, Try.ntmps136
          go_wp2_with (go_at_call 143; (with_reducible refine (season_counted.calls a1 true _ AC.out).mono ?_); rintro e w' ⟨rfl, ⟨nd, rfl⟩⟩)
          go_loopg [9, 10] k (fun kq v9 v10 w' => ∃ (sum i : Int) (m : Nat), v9 = .int .i64 sum ∧ v10 = .int .i64 i ∧ Aside0 (season_Miss.l0 kq l0 a1 sum i = some (r1, r2)) ∧ Aside0 (kq ≤ k) ∧ w' = ((w.alloc (.cells #[.slice A0 l0.length c0] 23)).alloc (.cells #[.int .i64 a1] 3)).drewN m)
          case atStart => exact ⟨0, j, _, rfl, rfl, H', ⟨Nat.le_refl _⟩, rfl⟩
          case round =>
            clear H'
            obtain ⟨sum, i, m, rfl, rfl, HA, HK1, rfl⟩ := hrel
            cases gk with
            | zero => exact absurd HA.out (by simp [season_Miss.l0])
            | succ k1 =>
              have H := HA.out
              clear HA
              simp only [season_Miss.l0] at H
              by_cases c9 : i < (l0.length : Int)
              · rw [if_pos c9] at H
                have c9b : decide (i < (l0.length : Int)) = true := decide_eq_true c9
                clear c9
                obtain ⟨d, A2, H⟩ := Option.bind_eq_some_iff.mp H
                have A2 := Aside0.mk A2
                obtain ⟨t, A3, H⟩ := Option.bind_eq_some_iff.mp H
                have A3 := Aside0.mk A3
                have H' := Aside0.mk H
                clear H
                go_wp2_with (first | (go_at_call 144; (with_reducible refine (season_Miss_1.calls k1 A0 c0 l0 a1 i d w.heap.size (w.heap.size + 1) _ (HB1.out _) (HB2.out _) (HB3.out _) A2.out).mono ?_); rintro e w' ⟨rfl, ⟨nd, rfl⟩⟩) | (go_at_call 67; (with_reducible refine (fixed_Add.calls sum d t _ A3.out).mono ?_); rintro e w' ⟨rfl, ⟨nd, rfl⟩⟩))
                go_roundg k1
                case measure => have := HK1.out; omega
                case rel => exact ⟨t, wrap64 (i + 1), _, rfl, rfl, H', ⟨by have := HK1.out; omega⟩, rfl⟩
              · rw [if_neg c9] at H
                have c9b : decide (i < (l0.length : Int)) = false := decide_eq_false c9
                clear c9
                obtain ⟨rfl, rfl⟩ := Prod.mk.inj (Option.some.inj H)
                go_wp2
                go_ret2
                exact ⟨rfl, FIN.out _⟩
def season_Cast.f (l0 : List Int) (a1 : Int) (a2 : Int) : Option (Int × Int) := (season_counted.f a1).bind fun t106 => (if t106 = true then ((season_counted.f a2).bind fun t107 => (if t107 = true then (if (l0.length : Int) < a1 then (some (0, 1)) else (if a1 = 0 then (none) else (if 0 ≤ (wrap64 ((wrap64 ((l0.length : Int) - a1)) + (Int.tmod (wrap64 (a2 - 1)) a1))) then (if (wrap64 ((wrap64 ((l0.length : Int) - a1)) + (Int.tmod (wrap64 (a2 - 1)) a1))) < (l0.length : Int) then (some (rd l0 (wrap64 ((wrap64 ((l0.length : Int) - a1)) + (Int.tmod (wrap64 (a2 - 1)) a1))), 0)) else (none)) else (none)))) else (some (0, 1)))) else (some (0, 1)))
set_option maxHeartbeats 8000000 in
set_option maxRecDepth 100000 in
theorem season_Cast.calls (A0 : Option Addr) (c0 : Nat) (l0 : List Int) (a1 : Int) (a2 : Int) (r1 : Int) (r2 : Int) (w : World) (hr0 : Kd.C (Kd.int .i64) w A0 l0.length l0) (hc0 : l0.length ≤ c0) (h : season_Cast.f l0 a1 a2 = some (r1, r2)) :
    Calls Try.prog 138 #[.slice A0 l0.length c0, .int .i64 a1, .int .i64 a2] w fun e w' => e = .returned (.tuple #[.int .i64 r1, .int .i64 r2]) ∧ Drawn0 w w' := by
  have HR0 := Aside0.mk hr0
  have HC0 := Aside0.mk hc0
  clear hr0 hc0
  have H : ((season_counted.f a1).bind fun t106 => (if t106 = true then ((season_counted.f a2).bind fun t107 => (if t107 = true then (if (l0.length : Int) < a1 then (some (0, 1)) else (if a1 = 0 then (none) else (if 0 ≤ (wrap64 ((wrap64 ((l0.length : Int) - a1)) + (Int.tmod (wrap64 (a2 - 1)) a1))) then (if (wrap64 ((wrap64 ((l0.length : Int) - a1)) + (Int.tmod (wrap64 (a2 - 1)) a1))) < (l0.length : Int) then (some (rd l0 (wrap64 ((wrap64 ((l0.length : Int) - a1)) + (Int.tmod (wrap64 (a2 - 1)) a1))), 0)) else (none)) else (none)))) else (some (0, 1)))) else (some (0, 1)))) = some (r1, r2) := h
  clear h
  replace H := Option.bind_eq_some_iff.mp H
  obtain ⟨t106, A40, H⟩ := H
  replace H : (if t106 = true then ((season_counted.f a2).bind fun t107 => (if t107 = true then (if (l0.length : Int) < a1 then (some (0, 1)) else (if a1 = 0 then (none) else (if 0 ≤ (wrap64 ((wrap64 ((l0.length : Int) - a1)) + (Int.tmod (wrap64 (a2 - 1)) a1))) then (if (wrap64 ((wrap64 ((l0.length : Int) - a1)) + (Int.tmod (wrap64 (a2 - 1)) a1))) < (l0.length : Int) then (some (rd l0 (wrap64 ((wrap64 ((l0.length : Int) - a1)) + (Int.tmod (wrap64 (a2 - 1)) a1))), 0)) else (none)) else (none)))) else (some (0, 1)))) else (some (0, 1))) = some (r1, r2) := H
  have A4 := Aside0.mk A40
  clear A40
  by_cases c5 : t106 = true
  · subst c5
    have H1 : ((season_counted.f a2).bind fun t107 => (if t107 = true then (if (l0.length : Int) < a1 then (some (0, 1)) else (if a1 = 0 then (none) else (if 0 ≤ (wrap64 ((wrap64 ((l0.length : Int) - a1)) + (Int.tmod (wrap64 (a2 - 1)) a1))) then (if (wrap64 ((wrap64 ((l0.length : Int) - a1)) + (Int.tmod (wrap64 (a2 - 1)) a1))) < (l0.length : Int) then (some (rd l0 (wrap64 ((wrap64 ((l0.length : Int) - a1)) + (Int.tmod (wrap64 (a2 - 1)) a1))), 0)) else (none)) else (none)))) else (some (0, 1)))) = some (r1, r2) := by rw [if_pos rfl] at H; exact H
    clear H
    have H := H1
    clear H1
    replace H := Option.bind_eq_some_iff.mp H
    obtain ⟨t107, A60, H⟩ := H
    replace H : (if t107 = true then (if (l0.length : Int) < a1 then (some (0, 1)) else (if a1 = 0 then (none) else (if 0 ≤ (wrap64 ((wrap64 ((l0.length : Int) - a1)) + (Int.tmod (wrap64 (a2 - 1)) a1))) then (if (wrap64 ((wrap64 ((l0.length : Int) - a1)) + (Int.tmod (wrap64 (a2 - 1)) a1))) < (l0.length : Int) then (some (rd l0 (wrap64 ((wrap64 ((l0.length : Int) - a1)) + (Int.tmod (wrap64 (a2 - 1)) a1))), 0)) else (none)) else (none)))) else (some (0, 1))) = some (r1, r2) := H
    have A6 := Aside0.mk A60
    clear A60
    by_cases c7 : t107 = true
    · subst c7
      have H1 : (if (l0.length : Int) < a1 then (some (0, 1)) else (if a1 = 0 then (none) else (if 0 ≤ (wrap64 ((wrap64 ((l0.length : Int) - a1)) + (Int.tmod (wrap64 (a2 - 1)) a1))) then (if (wrap64 ((wrap64 ((l0.length : Int) - a1)) + (Int.tmod (wrap64 (a2 - 1)) a1))) < (l0.length : Int) then (some (rd l0 (wrap64 ((wrap64 ((l0.length : Int) - a1)) + (Int.tmod (wrap64 (a2 - 1)) a1))), 0)) else (none)) else (none)))) = some (r1, r2) := by rw [if_pos rfl] at H; exact H
      clear H
      have H := H1
      clear H1
      by_cases c8 : (l0.length : Int) < a1
      · rw [if_pos c8] at H
        have c8b0 : decide ((l0.length : Int) < a1) = true := decide_eq_true c8
        clear c8
        simp only [Option.some.injEq, Prod.mk.injEq] at H
        obtain ⟨rfl, rfl⟩ := H
        go_enter Try.func138, Try.ntmps138
        go_wp2_with (first | ((with_reducible refine gate_callee (f := 143) rfl ?_); refine goesL_ (some 9) rfl rfl Try.func143 (by kernel_rfl) rfl #[.int .i64 a1] rfl (by (try simp only [List.map_toArray, List.map_cons, List.map_nil]); first | done | rfl | (simp only [List.length_drop, List.length_take]; rfl)) ?_; (with_reducible refine (season_counted.calls a1 true _ A4.out).mono ?_); rintro e w' ⟨rfl, ⟨nd, rfl⟩⟩; refine ⟨_, rfl, ?_⟩) | (go_at_call 143; (with_reducible refine (season_counted.calls a2 true _ A6.out).mono ?_); rintro e w' ⟨rfl, ⟨nd, rfl⟩⟩))
        go_ret2
        exact ⟨by first | rfl | (simp; done) | (simp [*]; done), by repeat (first | exact Drawn0.refl _ | apply Drawn0.step)⟩
      · rw [if_neg c8] at H
        have c8b0 : decide ((l0.length : Int) < a1) = false := decide_eq_false c8
        clear c8
        by_cases c9 : a1 = 0
        · rw [if_pos c9] at H
          exact absurd H (by simp)
        · rw [if_neg c9] at H
          have c9b0 : (a1 == 0) = false := beq_eq_false_iff_ne.mpr c9
          have c9b1 : (a1 != 0) = true := bne_iff_ne.mpr c9
          obtain ⟨ji10, hji10⟩ : ∃ j_ : Int, (wrap64 ((wrap64 ((l0.length : Int) - a1)) + (Int.tmod (wrap64 (a2 - 1)) a1))) = j_ := ⟨_, rfl⟩
          replace H : (if 0 ≤ (ji10) then (if (ji10) < (l0.length : Int) then (some (rd l0 (ji10), 0)) else (none)) else (none)) = some (r1, r2) := by first | (rw [hji10] at H; exact H) | (simp only [hji10] at H ⊢; exact H)
          (try rw [hji10] at A4)
          (try rw [hji10] at A6)
          have hji10w : (IntKind.i64.wrap ((wrap64 ((l0.length : Int) - a1)) + (Int.tmod (wrap64 (a2 - 1)) a1))) = ji10 := (i64_w _).trans hji10
          by_cases c11 : 0 ≤ (ji10)
          · rw [if_pos c11] at H
            have c11b0 : decide (0 ≤ (ji10)) = true := decide_eq_true c11
            clear c11
            by_cases c12 : (ji10) < (l0.length : Int)
            · rw [if_pos c12] at H
              have c12b0 : decide ((ji10) < (l0.length : Int)) = true := decide_eq_true c12
              clear c12
              simp only [Option.some.injEq, Prod.mk.injEq] at H
              obtain ⟨rfl, rfl⟩ := H
              go_enter Try.func138, Try.ntmps138
              go_wp2_with (first | ((with_reducible refine gate_callee (f := 143) rfl ?_); refine goesL_ (some 9) rfl rfl Try.func143 (by kernel_rfl) rfl #[.int .i64 a1] rfl (by (try simp only [List.map_toArray, List.map_cons, List.map_nil]); first | done | rfl | (simp only [List.length_drop, List.length_take]; rfl)) ?_; (with_reducible refine (season_counted.calls a1 true _ A4.out).mono ?_); rintro e w' ⟨rfl, ⟨nd, rfl⟩⟩; refine ⟨_, rfl, ?_⟩) | (go_at_call 143; (with_reducible refine (season_counted.calls a2 true _ A6.out).mono ?_); rintro e w' ⟨rfl, ⟨nd, rfl⟩⟩; have p108 : 0 ≤ ((ji10) : Int) := of_decide_eq_true (by first | (with_reducible assumption) | assumption); have q108 : (ji10) < (l0.length : Int) := of_decide_eq_true (by first | (with_reducible assumption) | assumption); obtain ⟨ad108, e108, hx108_0⟩ := Kd.at_int HR0.out (ji10) p108 q108; cases e108; replace p108 := eq_true p108; replace q108 := eq_true q108))
              go_ret2
              exact ⟨by first | rfl | (simp; done) | (simp only [← hji10] <;> (first | rfl | simp)) | (simp [*]; done), by repeat (first | exact Drawn0.refl _ | apply Drawn0.step)⟩
            · rw [if_neg c12] at H
              exact absurd H (by simp)
          · rw [if_neg c11] at H
            exact absurd H (by simp)
    · replace c7 := Bool.eq_false_iff.mpr c7
      subst c7
      have H1 : (some (0, 1)) = some (r1, r2) := by rw [if_neg (show ¬ (false = true) by decide)] at H; exact H
      clear H
      have H := H1
      clear H1
      simp only [Option.some.injEq, Prod.mk.injEq] at H
      obtain ⟨rfl, rfl⟩ := H
      go_enter Try.func138, Try.ntmps138
      go_wp2_with (first | ((with_reducible refine gate_callee (f := 143) rfl ?_); refine goesL_ (some 9) rfl rfl Try.func143 (by kernel_rfl) rfl #[.int .i64 a1] rfl (by (try simp only [List.map_toArray, List.map_cons, List.map_nil]); first | done | rfl | (simp only [List.length_drop, List.length_take]; rfl)) ?_; (with_reducible refine (season_counted.calls a1 true _ A4.out).mono ?_); rintro e w' ⟨rfl, ⟨nd, rfl⟩⟩; refine ⟨_, rfl, ?_⟩) | (go_at_call 143; (with_reducible refine (season_counted.calls a2 false _ A6.out).mono ?_); rintro e w' ⟨rfl, ⟨nd, rfl⟩⟩))
      go_ret2
      exact ⟨by first | rfl | (simp; done) | (simp [*]; done), by repeat (first | exact Drawn0.refl _ | apply Drawn0.step)⟩
  · replace c5 := Bool.eq_false_iff.mpr c5
    subst c5
    have H1 : (some (0, 1)) = some (r1, r2) := by rw [if_neg (show ¬ (false = true) by decide)] at H; exact H
    clear H
    have H := H1
    clear H1
    simp only [Option.some.injEq, Prod.mk.injEq] at H
    obtain ⟨rfl, rfl⟩ := H
    go_enter Try.func138, Try.ntmps138
    go_wp2_with (first | ((with_reducible refine gate_callee (f := 143) rfl ?_); refine goesL_ (some 9) rfl rfl Try.func143 (by kernel_rfl) rfl #[.int .i64 a1] rfl (by (try simp only [List.map_toArray, List.map_cons, List.map_nil]); first | done | rfl | (simp only [List.length_drop, List.length_take]; rfl)) ?_; (with_reducible refine (season_counted.calls a1 false _ A4.out).mono ?_); rintro e w' ⟨rfl, ⟨nd, rfl⟩⟩; refine ⟨_, rfl, ?_⟩))
    go_ret2
    exact ⟨by first | rfl | (simp; done) | (simp [*]; done), by repeat (first | exact Drawn0.refl _ | apply Drawn0.step)⟩
end Go.Proofs.Ytemnfnbjapobcaa.Cm
end
section
namespace Go.Proofs.Ytemnfnbjapobcaa.Cm
open Go.RowKit Go.Proofs.YtemnfnbjapobcaaW.PrintWords Go.Proofs.YtemnfnbjapobcaaW.PrintLast Go.Proofs.YtemnfnbjapobcaaW.PrintMore
open Go.Proofs.Ytemnfnbjapobcaa.FS Go.Proofs.Ytemnfnbjapobcaa.HS Go.Proofs.Ytemnfnbjapobcaa.FM
set_option linter.unusedVariables false
set_option linter.unusedSimpArgs false
theorem add_in {a b : Int} (ha : FS.In a) (hb : FS.In b) : fixed_Add.f a b = some (addS a b) := by
  unfold fixed_Add.f; rw [if_pos (by simp [inB_iff.mpr ha, inB_iff.mpr hb])]
theorem radd_in {a b : Int} (ha : FS.In a) (hb : FS.In b) : lysimeterref1_Add.f a b = some (addS a b) := by
  unfold lysimeterref1_Add.f; rw [if_pos (by simp [inB_iff.mpr ha, inB_iff.mpr hb])]
theorem dist_in {a b : Int} (ha : FS.In a) (hb : FS.In b) : season_Distance.f a b = some (distS a b) := by
  unfold season_Distance.f; rw [if_pos (by simp [inB_iff.mpr ha, inB_iff.mpr hb])]
theorem rdist_in {a b : Int} (ha : FS.In a) (hb : FS.In b) : lysimeterref21_dist.f a b = some (distS a b) := by
  unfold lysimeterref21_dist.f; rw [if_pos (by simp [inB_iff.mpr ha, inB_iff.mpr hb])]
def mis (l : List Int) (s : Nat) (m : Int) (i d : Nat) : Int := (List.range' i d).foldl (fun q j => addS q (distS (l.getD j 0) (l.getD (j - s) 0))) m
theorem mis_zero (l : List Int) (s : Nat) (m : Int) (i : Nat) : mis l s m i 0 = m := rfl
theorem mis_succ (l : List Int) (s : Nat) (m : Int) (i d : Nat) : mis l s m i (d + 1) = mis l s (addS m (distS (l.getD i 0) (l.getD (i - s) 0))) (i + 1) d := by
  unfold mis; rw [List.range'_succ, List.foldl_cons]
theorem rd_nat (xs : List Int) (i : Nat) : rd xs (i : Int) = xs.getD i 0 := rfl
theorem dist_ok (a b : Int) : FS.In (distS a b) := by unfold distS; split <;> exact in_sat _
theorem miss_l0 (l : List Int) (hl : l.length ≤ 1000000000) (hin : AllIn l) (s d : Nat) : ∀ (i : Nat) (m : Int), i + d = l.length → s ≤ i → FS.In m → season_Miss.l0 (d + 1) l (s : Int) m (i : Int) = some (mis l s m i d, 0) := by
  induction d with
  | zero =>
    intro i m hi hs hm
    simp only [season_Miss.l0]
    rw [if_neg (by omega), mis_zero]
  | succ d ih =>
    intro i m hi hs hm
    have e : wrap64 ((i : Int) + 1) = ((i + 1 : Nat) : Int) := by rw [wrap64_id (by omega) (by omega)]; omega
    have e1 : wrap64 ((i : Int) - s) = ((i - s : Nat) : Int) := by rw [wrap64_id (by omega) (by omega)]; omega
    have a1 := allIn_getD hin i
    have a2 := allIn_getD hin (i - s)
    rw [season_Miss.l0, if_pos (by omega)]
    simp only [season_Miss_1.f]
    rw [if_pos (by omega), if_pos (by omega), e1, if_pos (by omega), if_pos (by omega), rd_nat, rd_nat, dist_in a1 a2, Option.bind_some, add_in hm (dist_ok _ _), Option.bind_some, e, mis_succ]
    exact ih (i + 1) _ (by omega) (by omega) (in_addS _ _)
theorem rmiss_l0 (l : List Int) (hl : l.length ≤ 1000000000) (hin : AllIn l) (s d : Nat) : ∀ (i : Nat) (m : Int), i + d = l.length → s ≤ i → FS.In m → lysimeterref21_NaiveMiss.l0 (d + 1) l (s : Int) m (i : Int) = some (mis l s m i d, 0) := by
  induction d with
  | zero =>
    intro i m hi hs hm
    simp only [lysimeterref21_NaiveMiss.l0]
    rw [if_neg (by omega), mis_zero]
  | succ d ih =>
    intro i m hi hs hm
    have e : wrap64 ((i : Int) + 1) = ((i + 1 : Nat) : Int) := by rw [wrap64_id (by omega) (by omega)]; omega
    have e1 : wrap64 ((i : Int) - s) = ((i - s : Nat) : Int) := by rw [wrap64_id (by omega) (by omega)]; omega
    have a1 := allIn_getD hin i
    have a2 := allIn_getD hin (i - s)
    rw [lysimeterref21_NaiveMiss.l0, if_pos (by omega), if_pos (by omega), e1, if_pos (by omega), if_pos (by omega), rd_nat, rd_nat, rdist_in a1 a2, Option.bind_some, radd_in hm (dist_ok _ _), Option.bind_some, e, mis_succ]
    exact ih (i + 1) _ (by omega) (by omega) (in_addS _ _)
theorem counted_eq (n : Int) : season_counted.f n = some (decide (1 ≤ n) && decide (n ≤ 10000)) := by
  unfold season_counted.f
  by_cases h : n ≥ 1
  · rw [if_pos h, decide_eq_true h]; rfl
  · rw [if_neg h, decide_eq_false h]; rfl
theorem miss_eq (l : List Int) (hl : l.length ≤ 1000000000) (hin : AllIn l) (s last : Int) (hs : FS.In s) (hla : FS.In last) : ∃ k, season_Miss.f k l s last = some (nmissS l s last) := by
  obtain ⟨b0, b1⟩ := hla
  by_cases c : s < 1 ∨ s > 10000 ∨ (l.length : Int) < s ∨ last < 1 ∨ s > (l.length : Int) - last
  · refine ⟨1, ?_⟩
    unfold nmissS
    rw [if_pos c]
    unfold season_Miss.f
    rw [counted_eq]
    simp only [Option.bind_some]
    by_cases h1 : 1 ≤ s ∧ s ≤ 10000
    · rw [if_pos (by simp [h1])]
      by_cases h3 : (l.length : Int) < s
      · rw [if_pos h3]
      · rw [if_neg h3]
        by_cases h4 : last < 1
        · rw [if_pos h4]
        · rw [if_neg h4, if_pos (by rw [wrap64_id (by omega) (by omega)]; omega)]
    · rw [if_neg (by simp; omega)]
  · obtain ⟨S, rfl⟩ := Int.eq_ofNat_of_zero_le (show 0 ≤ s by omega)
    obtain ⟨L, rfl⟩ := Int.eq_ofNat_of_zero_le (show 0 ≤ last by omega)
    refine ⟨L + 1, ?_⟩
    have e : wrap64 ((l.length : Int) - (L : Int)) = ((l.length - L : Nat) : Int) := by rw [wrap64_id (by omega) (by omega)]; omega
    unfold nmissS
    rw [if_neg c]
    unfold season_Miss.f
    rw [counted_eq]
    simp only [Option.bind_some]
    rw [if_pos (by simp; omega), if_neg (by omega), if_neg (by omega), e, if_neg (by omega), miss_l0 l hl hin S L (l.length - L) 0 (by omega) (by omega) ⟨by decide, by decide⟩]
    rfl
theorem rmiss_eq (l : List Int) (hl : l.length ≤ 1000000000) (hin : AllIn l) (s last : Int) (hs : FS.In s) (hla : FS.In last) : ∃ k, lysimeterref21_NaiveMiss.f k l s last = some (nmissS l s last) := by
  obtain ⟨b0, b1⟩ := hla
  by_cases c : s < 1 ∨ s > 10000 ∨ (l.length : Int) < s ∨ last < 1 ∨ s > (l.length : Int) - last
  · refine ⟨1, ?_⟩
    unfold nmissS
    rw [if_pos c]
    have j1 : ∀ b, b = true → lysimeterref21_NaiveMiss.j0 1 l s last b = some (0, 1) := fun b hb => by
      rw [lysimeterref21_NaiveMiss.j0, if_pos hb]
    unfold lysimeterref21_NaiveMiss.f
    by_cases h1 : s < 1
    · rw [if_pos h1]; exact j1 _ rfl
    rw [if_neg h1]
    by_cases h2 : s > 10000
    · rw [if_pos h2]; exact j1 _ rfl
    rw [if_neg h2]
    by_cases h3 : last < 1
    · rw [if_pos h3]; exact j1 _ rfl
    rw [if_neg h3]
    by_cases h4 : (l.length : Int) < s
    · rw [if_pos h4]; exact j1 _ rfl
    rw [if_neg h4]
    exact j1 _ (decide_eq_true (by rw [wrap64_id (by omega) (by omega)]; omega))
  · obtain ⟨S, rfl⟩ := Int.eq_ofNat_of_zero_le (show 0 ≤ s by omega)
    obtain ⟨L, rfl⟩ := Int.eq_ofNat_of_zero_le (show 0 ≤ last by omega)
    refine ⟨L + 1 + 1, ?_⟩
    have e : wrap64 ((l.length : Int) - (L : Int)) = ((l.length - L : Nat) : Int) := by rw [wrap64_id (by omega) (by omega)]; omega
    have e2 : wrap64 ((l.length : Int) - (S : Int)) = ((l.length : Int) - (S : Int)) := wrap64_id (by omega) (by omega)
    unfold nmissS
    rw [if_neg c]
    unfold lysimeterref21_NaiveMiss.f
    rw [if_neg (by omega), if_neg (by omega), if_neg (by omega), if_neg (by omega), e2, decide_eq_false (by omega), lysimeterref21_NaiveMiss.j0, if_neg (by decide), e, rmiss_l0 l hl hin S L (l.length - L) 0 (by omega) (by omega) ⟨by decide, by decide⟩]
    rfl
theorem place {n s a : Nat} (h1 : 1 ≤ s) (h2 : s ≤ n) (h3 : 1 ≤ a) (hn : n ≤ 1000000000) (ha : a ≤ 10000) : wrap64 (wrap64 ((n : Int) - (s : Int)) + Int.tmod (wrap64 ((a : Int) - 1)) (s : Int)) = ((n - s + (a - 1) % s : Nat) : Int) ∧ n - s + (a - 1) % s < n := by
  have hm : (a - 1) % s < s := Nat.mod_lt _ (by omega)
  have e1 : wrap64 ((a : Int) - 1) = ((a - 1 : Nat) : Int) := by rw [wrap64_id (by omega) (by omega)]; omega
  have e2 : Int.tmod ((a - 1 : Nat) : Int) (s : Int) = (((a - 1) % s : Nat) : Int) := rfl
  have e3 : wrap64 ((n : Int) - (s : Int)) = ((n - s : Nat) : Int) := by rw [wrap64_id (by omega) (by omega)]; omega
  refine ⟨?_, by omega⟩
  rw [e1, e2, e3, wrap64_id (by omega) (by omega)]
  omega
theorem cast_eq (l : List Int) (hl : l.length ≤ 1000000000) (s ahead : Int) (hs : FS.In s) (ha : FS.In ahead) : season_Cast.f l s ahead = some (naiveS l s ahead) := by
  unfold season_Cast.f naiveS
  rw [counted_eq, counted_eq]
  simp only [Option.bind_some]
  by_cases h1 : 1 ≤ s ∧ s ≤ 10000
  · rw [if_pos (by simp [h1])]
    by_cases h2 : 1 ≤ ahead ∧ ahead ≤ 10000
    · rw [if_pos (by simp [h2])]
      by_cases h3 : (l.length : Int) < s
      · rw [if_pos h3, if_pos (by omega)]
      · obtain ⟨S, rfl⟩ := Int.eq_ofNat_of_zero_le (show 0 ≤ s by omega)
        obtain ⟨L, rfl⟩ := Int.eq_ofNat_of_zero_le (show 0 ≤ ahead by omega)
        obtain ⟨p1, p2⟩ := place (n := l.length) (s := S) (a := L) (by omega) (by omega) (by omega) hl (by omega)
        rw [if_neg h3, if_neg (by omega), p1, if_pos (by omega), if_pos (by omega), if_neg (by omega)]
        rfl
    · rw [if_neg (by simp; omega), if_pos (by omega)]
  · rw [if_neg (by simp; omega), if_pos (by omega)]
theorem naive_eq (l : List Int) (hl : l.length ≤ 1000000000) (s ahead : Int) (hs : FS.In s) (ha : FS.In ahead) : lysimeterref21_Naive.f l s ahead = some (naiveS l s ahead) := by
  unfold lysimeterref21_Naive.f naiveS
  by_cases c : s < 1 ∨ s > 10000 ∨ ahead < 1 ∨ ahead > 10000 ∨ (l.length : Int) < s
  · rw [if_pos c]
    by_cases h1 : s < 1
    · rw [if_pos h1]
    rw [if_neg h1]
    by_cases h2 : s > 10000
    · rw [if_pos h2]
    rw [if_neg h2]
    by_cases h3 : ahead < 1
    · rw [if_pos h3]
    rw [if_neg h3]
    by_cases h4 : ahead > 10000
    · rw [if_pos h4]
    rw [if_neg h4, if_pos (by omega)]
  · obtain ⟨S, rfl⟩ := Int.eq_ofNat_of_zero_le (show 0 ≤ s by omega)
    obtain ⟨L, rfl⟩ := Int.eq_ofNat_of_zero_le (show 0 ≤ ahead by omega)
    obtain ⟨p1, p2⟩ := place (n := l.length) (s := S) (a := L) (by omega) (by omega) (by omega) hl (by omega)
    rw [if_neg c, if_neg (by omega), if_neg (by omega), if_neg (by omega), if_neg (by omega), if_neg (by omega), if_neg (by omega), p1, if_pos (by omega), if_pos (by omega)]
    rfl
theorem seasonMiss : Ho.SeasonMiss := fun W A c l s last h hc hin hs hla hll => by
  obtain ⟨k, e⟩ := miss_eq l hll hin s last hs hla
  exact season_Miss.calls k A c l s last _ _ W h hc e
theorem seasonCast : Ho.SeasonCast := fun W A c l s ahead h hc hin hs ha hll => by
  refine (season_Cast.calls A c l s ahead _ _ W h hc (cast_eq l hll s ahead hs ha)).mono ?_
  rintro e w' ⟨rfl, hd⟩
  obtain ⟨m, rfl⟩ := hd.out
  exact ⟨rfl, pw_below_drewN (Below.refl _ _) _⟩
theorem rnmiss_calls (A : Option Addr) (c : Nat) (l : List Int) (s last : Int) (W : World) (h : Kd.C (Kd.int .i64) W A l.length l) (hc : l.length ≤ c) (hin : AllIn l) (hs : FS.In s) (hla : FS.In last) (hll : l.length ≤ 1000000000) :
    Calls Try.prog 76 #[.slice A l.length c, .int .i64 s, .int .i64 last] W fun e w' => e = .returned (.tuple #[.int .i64 (nmissS l s last).1, .int .i64 (nmissS l s last).2]) ∧ Below W.heap.size W w' := by
  obtain ⟨k, e⟩ := rmiss_eq l hll hin s last hs hla
  refine (lysimeterref21_NaiveMiss.calls k A c l s last _ _ W h hc e).mono ?_
  rintro e w' ⟨rfl, hd⟩
  obtain ⟨m, rfl⟩ := hd.out
  exact ⟨rfl, pw_below_drewN (Below.refl _ _) _⟩
theorem naive_calls (A : Option Addr) (c : Nat) (l : List Int) (s ahead : Int) (W : World) (h : Kd.C (Kd.int .i64) W A l.length l) (hc : l.length ≤ c) (hs : FS.In s) (ha : FS.In ahead) (hll : l.length ≤ 1000000000) :
    Calls Try.prog 79 #[.slice A l.length c, .int .i64 s, .int .i64 ahead] W fun e w' => e = .returned (.tuple #[.int .i64 (naiveS l s ahead).1, .int .i64 (naiveS l s ahead).2]) ∧ Below W.heap.size W w' := by
  refine (lysimeterref21_Naive.calls A c l s ahead _ _ W h hc (naive_eq l hll s ahead hs ha)).mono ?_
  rintro e w' ⟨rfl, hd⟩
  obtain ⟨m, rfl⟩ := hd.out
  exact ⟨rfl, pw_below_drewN (Below.refl _ _) _⟩
end Go.Proofs.Ytemnfnbjapobcaa.Cm
end
section
namespace Go.Proofs.Ytemnfnbjapobcaa.Ho
open Go.RowKit Go.Proofs.YtemnfnbjapobcaaW.PrintWords Go.Proofs.YtemnfnbjapobcaaW.PrintLast Go.Proofs.YtemnfnbjapobcaaW.PrintMore
open Go.Proofs.Ytemnfnbjapobcaa.FS Go.Proofs.Ytemnfnbjapobcaa.HS Go.Proofs.Ytemnfnbjapobcaa.FM
set_option linter.unusedVariables false
set_option linter.unusedSimpArgs false
theorem castBy_in {l : List Int} (hin : AllIn l) (s : Int) (o : Option Mo) (ahead : Int) : FS.In (castBy l s o ahead).1 := by
  have z : FS.In 0 := ⟨by decide, by decide⟩
  cases o with
  | none =>
    show FS.In (naiveS l s ahead).1
    unfold naiveS
    split
    · exact z
    · exact allIn_getD hin _
  | some m =>
    show FS.In (castOf (startS l m) ahead).1
    unfold castOf
    split
    · exact z
    · exact in_addS _ _
theorem bestE_bad {l : List Int} {s : Int} (h : s < 1 ∨ s > 10000 ∨ (l.length : Int) / 3 < s) : bestE l s = (0, 0, 1) := by unfold bestE; rw [if_pos h]
theorem rd_mods {s : Int} {j : Nat} {m : Mo} (h : (mods s)[j]? = some m) : rdMo (mods s) (j : Int) = m := by
  unfold rdMo
  rw [Int.toNat_natCast, List.getD_eq_getElem?_getD, h]; rfl
theorem rmods_calls {s : Int} (h1 : 1 ≤ s) (h2 : s ≤ 10000) (W : World) : Calls Try.prog 42 #[.int .i64 s] W fun e w' => ∃ (B : Option Addr) (d : Nat), e = .returned (.slice B 8 d) ∧ 8 ≤ d ∧ Kd.C kMo w' B 8 (mods s) ∧ Below W.heap.size W w' := by
  refine (rmodels_calls s W).mono ?_
  rintro e w' ⟨v, rfl, hr, hb⟩
  have hms : modelsS s = mods s := if_neg (by omega)
  rw [hms] at hr
  obtain ⟨B, d, rfl, hd, hC⟩ := Kd.R_reads hr
  exact ⟨B, d, rfl, hd, hC, hb⟩
set_option maxRecDepth 100000 in
set_option maxHeartbeats 8000000 in
theorem rbest_calls (A : Option Addr) (c : Nat) (l : List Int) (s : Int) (w : World) (hr : Kd.C (Kd.int .i64) w A l.length l) (hc : l.length ≤ c) (hin : AllIn l) (hs : FS.In s) (hll : l.length ≤ 1000000000) :
    Calls Try.prog 39 #[.slice A l.length c, .int .i64 s] w fun e w' => e = .returned (.tuple #[.int .i64 (bestE l s).1, .int .i64 (bestE l s).2.1, .int .i64 (bestE l s).2.2]) ∧ Below w.heap.size w w' := by
  obtain ⟨D, hD⟩ : ∃ D, l.length / 3 = D := ⟨_, rfl⟩
  have hD3 : (l.length : Int) / 3 = (D : Int) := by omega
  have t3 : Int.tdiv (l.length : Int) 3 = (D : Int) := by rw [Int.tdiv_eq_ediv_of_nonneg (by omega)]; exact hD3
  have t4 : wrap64 (D : Int) = (D : Int) := wrap64_id (by omega) (by omega)
  have HR := Aside0.mk hr
  clear hr
  by_cases h1 : s < 1
  · have c1 : decide (s < 1) = true := decide_eq_true h1
    have e0 : bestE l s = (0, 0, 1) := by exact bestE_bad (by omega)
    rw [e0]
    clear e0 h1
    go_enter Try.func39, Try.ntmps39
    go_wp2
    refine bodyPost_ret (v := .tuple #[.int .i64 0, .int .i64 0, .int .i64 1]) (by simp [results, Try.results39, go_sem]) rfl ?_
    exact ⟨rfl, Below.refl _ _⟩
  have c1 : decide (s < 1) = false := decide_eq_false h1
  by_cases h2 : s > 10000
  · have c2 : decide (s > 10000) = true := decide_eq_true h2
    have e0 : bestE l s = (0, 0, 1) := by exact bestE_bad (by omega)
    rw [e0]
    clear e0 h1 h2
    go_enter Try.func39, Try.ntmps39
    go_wp2
    refine bodyPost_ret (v := .tuple #[.int .i64 0, .int .i64 0, .int .i64 1]) (by simp [results, Try.results39, go_sem]) rfl ?_
    exact ⟨rfl, Below.refl _ _⟩
  have c2 : decide (s > 10000) = false := decide_eq_false h2
  by_cases h3 : (D : Int) < s
  · have c3 : decide ((D : Int) < s) = true := decide_eq_true h3
    have e0 : bestE l s = (0, 0, 1) := by exact bestE_bad (by omega)
    rw [e0]
    clear e0 h1 h2 h3
    go_enter Try.func39, Try.ntmps39
    go_wp2
    refine bodyPost_ret (v := .tuple #[.int .i64 0, .int .i64 0, .int .i64 1]) (by simp [results, Try.results39, go_sem]) rfl ?_
    exact ⟨rfl, Below.refl _ _⟩
  have c3 : decide ((D : Int) < s) = false := decide_eq_false h3
  obtain ⟨N, rfl⟩ := Int.eq_ofNat_of_zero_le (show 0 ≤ s by omega)
  have g3 : ¬ D < N := by omega
  have hn : ¬ noBest l (N : Int) := by unfold noBest; omega
  have e0 : bestE l (N : Int) = ((bestAt l N 9).1, (bestAt l N 9).2, 0) := by unfold bestE; rw [if_neg (by omega)]; rfl
  rw [e0]
  have KN : Aside0 (∀ W, Kd.C (Kd.int .i64) W A l.length l → Calls Try.prog 76 #[.slice A l.length c, .int .i64 (N : Int), .int .i64 (N : Int)] W fun e w' => e = .returned (.tuple #[.int .i64 (nmissS l N N).1, .int .i64 0]) ∧ Below W.heap.size W w') := ⟨fun W h => by
    have := Cm.rnmiss_calls A c l (N : Int) (N : Int) W h hc hin hs hs hll
    rwa [nmiss_ok hn] at this⟩
  have KM := Aside0.mk (fun W => rmods_calls (s := (N : Int)) (by omega) (by omega) W)
  have KS : Aside0 (∀ W m, m ∈ mods (N : Int) → Kd.C (Kd.int .i64) W A l.length l → Calls Try.prog 36 #[.slice A l.length c, moV m, .int .i64 (N : Int)] W fun e w' => e = .returned (.tuple #[.int .i64 (missS l m N).1, .int .i64 0]) ∧ Below W.heap.size W w') := ⟨fun W m hm h => by
    have := rmiss_calls A c l m (N : Int) W h hc hin (by rw [(mods_ok (s := (N : Int)) (by omega) (by omega) hm).1]; exact hs) hs hll
    rwa [(miss_ok hn hm).1] at this⟩
  clear e0 h1 h2 h3 hn hD hD3
  go_enter Try.func39, Try.ntmps39
  go_wp2_with (first | (go_at_call 76; (with_reducible refine (KN.out _ HR.out).mono ?_); rintro e w1 ⟨rfl, hb⟩; have HB1 := Aside0.mk hb; clear hb) | (go_at_call 42; (with_reducible refine (KM.out _).mono ?_); rintro e w2 ⟨B, d, rfl, hd, hC, hb⟩; have HW := Aside0.mk (And.intro hC (HB1.out.trans (hb.mono HB1.out.size))); clear hC hb))
  go_loopg [7, 8, 11] 8 (fun kq v7 v8 v11 W' => ∃ (i : Nat) (q1 q2 : Int), v7 = .int .i64 q1 ∧ v8 = .int .i64 q2 ∧ v11 = .int .i64 (i : Int) ∧ Aside0 (bestAt l (N : Int) (i + 1) = (q1, q2)) ∧ Aside0 (kq + i = 8) ∧ Aside0 (Below w2.heap.size w2 W'))
  case atStart => exact ⟨0, 0, _, rfl, rfl, rfl, ⟨rfl⟩, ⟨rfl⟩, ⟨Below.refl _ _⟩⟩
  case round =>
    obtain ⟨i, q1, q2, rfl, rfl, rfl, HQ, HK, HB⟩ := hrel
    obtain ⟨U, rfl⟩ : ∃ U : World, U = wr := ⟨_, rfl⟩
    have HBW := Aside0.mk (HW.out.2.trans (HB.out.mono HW.out.2.size))
    by_cases ci : i < 8
    · have c9 : decide ((i : Int) < 8) = true := decide_eq_true (by omega)
      obtain ⟨m, hmj⟩ : ∃ m, (mods (N : Int))[i]? = some m := ⟨_, List.getElem?_eq_getElem (show i < (mods (N : Int)).length by simp [mods]; omega)⟩
      obtain ⟨ad, e, r0, r1, r2, r3⟩ := at_Mo (Kd.C_below HW.out.1 HB.out) (i : Int) (by omega) (by omega)
      cases e
      rw [rd_mods hmj, Int.toNat_natCast] at r0 r1 r2 r3
      have hnx := best_next (l := l) hmj
      rw [show bestAt l (N : Int) (i + 1) = (q1, q2) from HQ.out] at hnx
      unfold bestF at hnx
      have KS1 := Aside0.mk (fun W => KS.out W m (List.mem_of_getElem? hmj))
      obtain ⟨x, hx⟩ : ∃ x, (missS l m N).1 = x := ⟨_, rfl⟩
      dsimp only at hnx
      rw [hx] at KS1 hnx
      have HV := Aside0.mk hnx
      have c8 : wrap64 ((i : Int) + 1) = (i : Int) + 1 := wrap64_id (by omega) (by omega)
      obtain ⟨n, ma, mb, mc⟩ := m
      dsimp only [moV] at *
      clear hmj hnx hx
      cases gk with
      | zero => exact absurd HK.out (by omega)
      | succ k1 =>
        by_cases cx : x < q2
        · have c5 : decide (x < q2) = true := decide_eq_true cx
          go_wp2_with (go_at_call 36; (with_reducible refine (KS1.out _ (Kd.C_below HR.out HBW.out)).mono ?_); rintro e w3 ⟨rfl, hb⟩; have HB3 := Aside0.mk hb; clear hb)
          go_roundg k1
          case measure => omega
          case rel =>
            refine ⟨i + 1, (i : Int) + 1, x, by go_num, rfl, by go_num, ⟨?_⟩, ⟨by have := HK.out; omega⟩, ⟨HB.out.trans (HB3.out.mono HB.out.size)⟩⟩
            rw [HV.out, if_pos cx]
        · have c5 : decide (x < q2) = false := decide_eq_false cx
          go_wp2_with (go_at_call 36; (with_reducible refine (KS1.out _ (Kd.C_below HR.out HBW.out)).mono ?_); rintro e w3 ⟨rfl, hb⟩; have HB3 := Aside0.mk hb; clear hb)
          go_roundg k1
          case measure => omega
          case rel =>
            refine ⟨i + 1, q1, q2, rfl, rfl, by go_num, ⟨?_⟩, ⟨by have := HK.out; omega⟩, ⟨HB.out.trans (HB3.out.mono HB.out.size)⟩⟩
            rw [HV.out, if_neg (Int.not_lt.mpr cx)]
    · have c9 : decide ((i : Int) < 8) = false := decide_eq_false (by omega)
      obtain rfl : i = 8 := by have := HK.out; omega
      go_wp2
      refine bodyPost_ret (v := .tuple #[.int .i64 q1, .int .i64 q2, .int .i64 0]) (by simp [results, Try.results39, go_sem]) rfl ?_
      rw [show bestAt l (N : Int) 9 = (q1, q2) from HQ.out]
      exact ⟨rfl, HBW.out⟩
theorem castS_ok {l : List Int} {m : Mo} (h : startE l m = 0) (a : Int) : castS l m a = castOf (startS l m) a := by unfold castS; rw [if_neg (by rw [h]; decide)]
theorem wrapj {j : Nat} (hj : j < 8) : wrap64 ((j : Int) + 1) = (j : Int) + 1 ∧ wrap64 ((j : Int) + 1 - 1) = (j : Int) ∧ (((j : Int) + 1 = 0) = False) ∧ (j : Int) + 1 - 1 = (j : Int) := by
  refine ⟨wrap64_id (by omega) (by omega), ?_, eq_false (by omega), by omega⟩
  rw [wrap64_id (by omega) (by omega)]
  omega
theorem wayAt_cases (l : List Int) (s : Int) : ((bestAt l s 9).1 = 0 ∧ wayAt s (bestAt l s 9).1 = none) ∨ ∃ (j : Nat) (m : Mo), (bestAt l s 9).1 = (j : Int) + 1 ∧ (mods s)[j]? = some m ∧ wayAt s (bestAt l s 9).1 = some m := by
  rcases best_way l s 9 (Nat.le_refl _) with e | ⟨j, m, e, hm⟩
  · exact .inl ⟨e, by rw [e]; rfl⟩
  · refine .inr ⟨j, m, e, hm, ?_⟩
    rw [e]
    unfold wayAt
    rw [if_neg (by omega), show ((j : Int) + 1 - 1).toNat = j by omega]
    exact hm
theorem bestE_ok {l : List Int} {s : Int} (h : ¬ noBest l s) : bestE l s = ((bestAt l s 9).1, (bestAt l s 9).2, 0) := by
  unfold noBest at h
  unfold bestE
  rw [if_neg h]
  rfl
theorem wayOf_ok {l : List Int} {s : Int} (h : ¬ (l.length : Int) / 3 < s) : wayOf l s = wayAt s (bestAt l s 9).1 := by
  unfold wayOf
  rw [if_neg h]
  rfl
set_option maxRecDepth 100000 in
set_option maxHeartbeats 8000000 in
theorem rchosen_calls (A : Option Addr) (c : Nat) (l : List Int) (s ahead : Int) (w : World) (hr : Kd.C (Kd.int .i64) w A l.length l) (hc : l.length ≤ c) (hin : AllIn l) (hs : FS.In s) (ha : FS.In ahead) (hll : l.length ≤ 1000000000) :
    Calls Try.prog 44 #[.slice A l.length c, .int .i64 s, .int .i64 ahead] w fun e w' => e = .returned (.tuple #[.int .i64 (chosenS l s ahead).1, .int .i64 (chosenS l s ahead).2]) ∧ Below w.heap.size w w' := by
  obtain ⟨D, hD⟩ : ∃ D, l.length / 3 = D := ⟨_, rfl⟩
  have hD3 : (l.length : Int) / 3 = (D : Int) := by omega
  have t3 : Int.tdiv (l.length : Int) 3 = (D : Int) := by rw [Int.tdiv_eq_ediv_of_nonneg (by omega)]; exact hD3
  have t4 : wrap64 (D : Int) = (D : Int) := wrap64_id (by omega) (by omega)
  have HR := Aside0.mk hr
  clear hr
  by_cases h1 : s < 1
  · have c1 : decide (s < 1) = true := decide_eq_true h1
    have e0 : chosenS l s ahead = (0, 1) := by unfold chosenS; rw [if_pos (by unfold noCast; omega)]
    rw [e0]
    clear e0 h1
    go_enter Try.func44, Try.ntmps44
    go_wp2
    go_ret2
    exact ⟨rfl, Below.refl _ _⟩
  have c1 : decide (s < 1) = false := decide_eq_false h1
  by_cases h2 : s > 10000
  · have c2 : decide (s > 10000) = true := decide_eq_true h2
    have e0 : chosenS l s ahead = (0, 1) := by unfold chosenS; rw [if_pos (by unfold noCast; omega)]
    rw [e0]
    clear e0 h1 h2
    go_enter Try.func44, Try.ntmps44
    go_wp2
    go_ret2
    exact ⟨rfl, Below.refl _ _⟩
  have c2 : decide (s > 10000) = false := decide_eq_false h2
  by_cases h3 : ahead < 1
  · have c3 : decide (ahead < 1) = true := decide_eq_true h3
    have e0 : chosenS l s ahead = (0, 1) := by unfold chosenS; rw [if_pos (by unfold noCast; omega)]
    rw [e0]
    clear e0 h1 h2 h3
    go_enter Try.func44, Try.ntmps44
    go_wp2
    go_ret2
    exact ⟨rfl, Below.refl _ _⟩
  have c3 : decide (ahead < 1) = false := decide_eq_false h3
  by_cases h4 : ahead > 10000
  · have c4 : decide (ahead > 10000) = true := decide_eq_true h4
    have e0 : chosenS l s ahead = (0, 1) := by unfold chosenS; rw [if_pos (by unfold noCast; omega)]
    rw [e0]
    clear e0 h1 h2 h3 h4
    go_enter Try.func44, Try.ntmps44
    go_wp2
    go_ret2
    exact ⟨rfl, Below.refl _ _⟩
  have c4 : decide (ahead > 10000) = false := decide_eq_false h4
  by_cases h5 : (l.length : Int) < s
  · have c5 : decide ((l.length : Int) < s) = true := decide_eq_true h5
    have e0 : chosenS l s ahead = (0, 1) := by unfold chosenS; rw [if_pos (by unfold noCast; omega)]
    rw [e0]
    clear e0 h1 h2 h3 h4 h5
    go_enter Try.func44, Try.ntmps44
    go_wp2
    go_ret2
    exact ⟨rfl, Below.refl _ _⟩
  have c5 : decide ((l.length : Int) < s) = false := decide_eq_false h5
  have hno : ¬ noCast l s ahead := by unfold noCast; omega
  have e0 : chosenS l s ahead = ((castBy l s (wayOf l s) ahead).1, 0) := by unfold chosenS; rw [if_neg hno]
  have e2 := castBy_ok hno
  rw [e0]
  clear e0
  have KF : Aside0 (∀ W, (castBy l s none ahead).2 = 0 → Kd.C (Kd.int .i64) W A l.length l → Calls Try.prog 79 #[.slice A l.length c, .int .i64 s, .int .i64 ahead] W fun e w' => e = .returned (.tuple #[.int .i64 (castBy l s none ahead).1, .int .i64 0]) ∧ Below W.heap.size W w') := ⟨fun W e h => by
    have := Cm.naive_calls A c l s ahead W h hc hs ha hll
    rwa [show (naiveS l s ahead).2 = 0 from e] at this⟩
  by_cases h6 : (D : Int) < s
  · have c6 : decide ((D : Int) < s) = true := decide_eq_true h6
    have ew : wayOf l s = none := by unfold wayOf; rw [if_pos (by omega)]
    rw [ew] at e2 ⊢
    have E2 := Aside0.mk e2
    clear h1 h2 h3 h4 h5 h6 hno ew e2 hD hD3
    go_enter Try.func44, Try.ntmps44
    go_wp2_with (go_at_call 79; (with_reducible refine (KF.out _ E2.out HR.out).mono ?_); rintro e w1 ⟨rfl, hb⟩; have HB1 := Aside0.mk hb; clear hb)
    go_ret2
    exact ⟨rfl, HB1.out⟩
  have c6 : decide ((D : Int) < s) = false := decide_eq_false h6
  have hn : ¬ noBest l s := by unfold noBest; omega
  have KB : Aside0 (∀ W, Kd.C (Kd.int .i64) W A l.length l → Calls Try.prog 39 #[.slice A l.length c, .int .i64 s] W fun e w' => e = .returned (.tuple #[.int .i64 (bestAt l s 9).1, .int .i64 (bestAt l s 9).2, .int .i64 0]) ∧ Below W.heap.size W w') := ⟨fun W h => by
    have := rbest_calls A c l s W h hc hin hs hll
    rwa [bestE_ok hn] at this⟩
  rw [wayOf_ok (by omega)] at e2 ⊢
  obtain ⟨q, hq⟩ : ∃ q, (bestAt l s 9).1 = q := ⟨_, rfl⟩
  obtain ⟨q2, hq2⟩ : ∃ q2, (bestAt l s 9).2 = q2 := ⟨_, rfl⟩
  have hcs := wayAt_cases l s
  rw [hq] at e2 KB hcs ⊢
  rw [hq2] at KB
  rcases hcs with ⟨rfl, e3⟩ | ⟨j, m, rfl, hm, e3⟩
  · rw [e3] at e2 ⊢
    have E2 := Aside0.mk e2
    clear h1 h2 h3 h4 h5 h6 hno e2 hq hq2 hn e3 hD hD3
    go_enter Try.func44, Try.ntmps44
    go_wp2_with (first | (go_at_call 39; (with_reducible refine (KB.out _ HR.out).mono ?_); rintro e w1 ⟨rfl, hb⟩; have HB1 := Aside0.mk hb; clear hb) | (go_at_call 79; (with_reducible refine (KF.out _ E2.out (Kd.C_below HR.out HB1.out)).mono ?_); rintro e w2 ⟨rfl, hb⟩; have HB2 := Aside0.mk (HB1.out.trans (hb.mono HB1.out.size)); clear hb))
    go_ret2
    exact ⟨rfl, HB2.out⟩
  · have hj : j < 8 := by have := (List.getElem?_eq_some_iff.mp hm).1; simpa [mods] using this
    have hst : startE l m = 0 := start_ok hn (List.mem_of_getElem? hm)
    rw [e3] at e2 ⊢
    have KM := Aside0.mk (fun W => rmods_calls (s := s) (by omega) (by omega) W)
    have KH : Aside0 (∀ W, Kd.C (Kd.int .i64) W A l.length l → Calls Try.prog 34 #[.slice A l.length c, moV m, .int .i64 ahead] W fun e w' => e = .returned (.tuple #[.int .i64 (castBy l s (some m) ahead).1, .int .i64 0]) ∧ Below W.heap.size W w') := ⟨fun W h => by
      have := rholt_calls A c l m ahead W h hc hin (by rw [(mods_ok (s := s) (by omega) (by omega) (List.mem_of_getElem? hm)).1]; exact hs) ha hll
      rw [castS_ok hst] at this
      rwa [show (castOf (startS l m) ahead).2 = 0 from e2] at this⟩
    obtain ⟨w1, w2, w3, w4⟩ := wrapj hj
    have RD := Aside0.mk (rd_mods hm)
    obtain ⟨r, hr⟩ : ∃ r, (castBy l s (some m) ahead).1 = r := ⟨_, rfl⟩
    rw [hr] at KH ⊢
    obtain ⟨n, ma, mb, mc⟩ := m
    dsimp only [moV] at *
    clear h1 h2 h3 h4 h5 h6 hno e2 hq hq2 hn e3 hD hD3 hm hst hr
    go_enter Try.func44, Try.ntmps44
    go_wp2_with (first | (go_at_call 39; (with_reducible refine (KB.out _ HR.out).mono ?_); rintro e w1 ⟨rfl, hb⟩; have HB1 := Aside0.mk hb; clear hb) | (go_at_call 42; (with_reducible refine (KM.out _).mono ?_); rintro e w2 ⟨B, d, rfl, hd, hC, hb⟩; obtain ⟨ad, ee, r0, r1, r2, r3⟩ := at_Mo hC (j : Int) (by omega) (by omega); cases ee; rw [RD.out, Int.toNat_natCast] at r0 r1 r2 r3; have HB2 := Aside0.mk (HB1.out.trans (hb.mono HB1.out.size)); clear hb hC) | (go_at_call 34; (with_reducible refine (KH.out _ (Kd.C_below HR.out HB2.out)).mono ?_); rintro e w3 ⟨rfl, hb⟩; have HB3 := Aside0.mk (HB2.out.trans (hb.mono HB2.out.size)); clear hb))
    go_ret2
    exact ⟨rfl, HB3.out⟩
end Go.Proofs.Ytemnfnbjapobcaa.Ho
end
section
namespace Go.Proofs.Ytemnfnbjapobcaa.Ho
open Go.RowKit Go.Proofs.YtemnfnbjapobcaaW.PrintWords Go.Proofs.YtemnfnbjapobcaaW.PrintLast Go.Proofs.YtemnfnbjapobcaaW.PrintMore
open Go.Proofs.Ytemnfnbjapobcaa.FS Go.Proofs.Ytemnfnbjapobcaa.HS Go.Proofs.Ytemnfnbjapobcaa.FM
set_option linter.unusedVariables false
set_option linter.unusedSimpArgs false
theorem peak_step {T P x p : Int} (h : max T P = p) : (p < x → x = max T (max P x)) ∧ (¬ p < x → p = max T (max P x)) := by omega
theorem peak_from {T : Int} (h : FS.In T) : max T (-9223372036854775808) = T := by have := h.1; omega
theorem peakS_ok {l : List Int} {s : Int} {k : Nat} (h : ¬ noCast l s ((k : Int) + 1)) : peakS l s ((k : Int) + 1) = (max (castBy l s (wayOf l s) ((k : Int) + 1)).1 (peakAt l s (wayOf l s) k), 0) := by
  unfold peakS
  rw [if_neg h, show ((k : Int) + 1).toNat = k + 1 by omega]
  show (max (peakAt l s (wayOf l s) k) (castBy l s (wayOf l s) ((k : Int) + 1)).1, (0 : Int)) = _
  rw [show ∀ a b : Int, max a b = max b a by intro a b; omega]
theorem chosen_ok {l : List Int} {s a : Int} (h : ¬ noCast l s a) : chosenS l s a = ((castBy l s (wayOf l s) a).1, 0) := by unfold chosenS; rw [if_neg h]
theorem chosen_bad {l : List Int} {s a : Int} (h : noCast l s a) : chosenS l s a = (0, 1) ∧ peakS l s a = (0, 1) := by
  unfold chosenS peakS
  exact ⟨if_pos h, if_pos h⟩
theorem wrapj5 (j : Nat) : decide ((j : Int) + 1 > 0) = true := decide_eq_true (by omega)
theorem wrapk {k N : Nat} (h : k < N) (hN : N ≤ 10000) : wrap64 ((k : Int) + 1 + 1) = (k : Int) + 1 + 1 := wrap64_id (by omega) (by omega)
set_option maxRecDepth 100000 in
set_option maxHeartbeats 8000000 in
theorem rpeak_calls (A : Option Addr) (c : Nat) (l : List Int) (s ahead : Int) (w : World) (hr : Kd.C (Kd.int .i64) w A l.length l) (hc : l.length ≤ c) (hin : AllIn l) (hs : FS.In s) (ha : FS.In ahead) (hll : l.length ≤ 1000000000) :
    Calls Try.prog 46 #[.slice A l.length c, .int .i64 s, .int .i64 ahead] w fun e w' => e = .returned (.tuple #[.int .i64 (peakS l s ahead).1, .int .i64 (peakS l s ahead).2]) ∧ Below w.heap.size w w' := by
  obtain ⟨D, hD⟩ : ∃ D, l.length / 3 = D := ⟨_, rfl⟩
  have hD3 : (l.length : Int) / 3 = (D : Int) := by omega
  have t3 : Int.tdiv (l.length : Int) 3 = (D : Int) := by rw [Int.tdiv_eq_ediv_of_nonneg (by omega)]; exact hD3
  have t4 : wrap64 (D : Int) = (D : Int) := wrap64_id (by omega) (by omega)
  have HR := Aside0.mk hr
  clear hr
  have kc : ∀ W, Kd.C (Kd.int .i64) W A l.length l → Calls Try.prog 44 #[.slice A l.length c, .int .i64 s, .int .i64 ahead] W fun e w' => e = .returned (.tuple #[.int .i64 (chosenS l s ahead).1, .int .i64 (chosenS l s ahead).2]) ∧ Below W.heap.size W w' := fun W h => rchosen_calls A c l s ahead W h hc hin hs ha hll
  by_cases hno : noCast l s ahead
  · obtain ⟨e1, e2⟩ := chosen_bad hno
    rw [e1] at kc
    rw [e2]
    have KC := Aside0.mk kc
    clear kc e1 e2 hno hD hD3
    go_enter Try.func46, Try.ntmps46
    go_wp2_with (go_at_call 44; (with_reducible refine (KC.out _ HR.out).mono ?_); rintro e w1 ⟨rfl, hb⟩; have HB1 := Aside0.mk hb; clear hb)
    go_ret2
    exact ⟨rfl, HB1.out⟩
  obtain ⟨K, rfl⟩ : ∃ K : Nat, ahead = (K : Int) + 1 := by
    unfold noCast at hno
    exact ⟨(ahead - 1).toNat, by omega⟩
  rw [chosen_ok hno] at kc
  rw [peakS_ok hno]
  have hno' := hno
  unfold noCast at hno'
  have HN : Aside0 (K ≤ 10000) := ⟨by omega⟩
  have kf : ∀ k : Nat, k < K → ∀ W, Kd.C (Kd.int .i64) W A l.length l → Calls Try.prog 79 #[.slice A l.length c, .int .i64 s, .int .i64 ((k : Int) + 1)] W fun e w' => e = .returned (.tuple #[.int .i64 (castBy l s none ((k : Int) + 1)).1, .int .i64 (castBy l s none ((k : Int) + 1)).2]) ∧ Below W.heap.size W w' := fun k hk W h => Cm.naive_calls A c l s ((k : Int) + 1) W h hc hs ⟨by omega, by omega⟩ hll
  have HT0 := castBy_in hin s (wayOf l s) ((K : Int) + 1)
  by_cases h6 : (D : Int) < s
  · have c6 : decide ((D : Int) ≥ s) = false := decide_eq_false (by omega)
    have c7 : decide (s ≤ (D : Int)) = false := c6
    have ew : wayOf l s = none := by unfold wayOf; rw [if_pos (by omega)]
    rw [ew] at kc HT0 ⊢
    obtain ⟨T, hT⟩ : ∃ T, (castBy l s none ((K : Int) + 1)).1 = T := ⟨_, rfl⟩
    rw [hT] at kc HT0 ⊢
    have KC := Aside0.mk kc
    have HT := Aside0.mk HT0
    have KF := Aside0.mk kf
    clear kc HT0 kf hno' hno ew hT hD hD3 h6
    go_enter Try.func46, Try.ntmps46
    go_wp2_with (go_at_call 44; (with_reducible refine (KC.out _ HR.out).mono ?_); rintro e w1 ⟨rfl, hb⟩; have HB0 := Aside0.mk hb; clear hb)
    rw [t4]
    go_loopg [8, 12] K (fun kq v8 v12 W' => ∃ (k : Nat) (p : Int), v8 = .int .i64 p ∧ v12 = .int .i64 ((k : Int) + 1) ∧ Aside0 (max T (peakAt l s none k) = p) ∧ Aside0 (kq + k = K) ∧ Aside0 (Below w1.heap.size w1 W'))
    case atStart => exact ⟨0, T, rfl, rfl, ⟨peak_from HT.out⟩, ⟨rfl⟩, ⟨Below.refl _ _⟩⟩
    case round =>
      obtain ⟨k, p, rfl, rfl, HP, HK, HQ⟩ := hrel
      obtain ⟨U, rfl⟩ : ∃ U : World, U = wr := ⟨_, rfl⟩
      by_cases ck : k < K
      · have c1 : decide ((k : Int) + 1 < (K : Int) + 1) = true := decide_eq_true (by omega)
        have c1' : decide ((k : Int) < (K : Int)) = true := decide_eq_true (by omega)
        have c2 := wrapk ck HN.out
        have KFi := Aside0.mk (KF.out k ck)
        obtain ⟨x, hx⟩ : ∃ x, (castBy l s none ((k : Int) + 1)).1 = x := ⟨_, rfl⟩
        obtain ⟨x2, hx2⟩ : ∃ x, (castBy l s none ((k : Int) + 1)).2 = x := ⟨_, rfl⟩
        rw [hx, hx2] at KFi
        have HX : Aside0 (peakAt l s none (k + 1) = max (peakAt l s none k) x) := ⟨by rw [← hx]; rfl⟩
        clear hx hx2
        cases gk with
        | zero => exact absurd HK.out (by omega)
        | succ k1 =>
          by_cases cx : p < x
          · have c5 : decide (x > p) = true := decide_eq_true cx
            go_wp2_with (go_at_call 79; (with_reducible refine (KFi.out _ (Kd.C_below HR.out (HB0.out.trans (HQ.out.mono HB0.out.size)))).mono ?_); rintro e w9 ⟨rfl, hb⟩; have HB9 := Aside0.mk hb; clear hb)
            go_roundg k1
            case measure => omega
            case rel =>
              refine ⟨k + 1, x, rfl, by go_num, ⟨?_⟩, ⟨by have := HK.out; omega⟩, ⟨HQ.out.trans (HB9.out.mono HQ.out.size)⟩⟩
              rw [HX.out]
              exact ((peak_step HP.out).1 cx).symm
          · have c5 : decide (x > p) = false := decide_eq_false cx
            go_wp2_with (go_at_call 79; (with_reducible refine (KFi.out _ (Kd.C_below HR.out (HB0.out.trans (HQ.out.mono HB0.out.size)))).mono ?_); rintro e w9 ⟨rfl, hb⟩; have HB9 := Aside0.mk hb; clear hb)
            go_roundg k1
            case measure => omega
            case rel =>
              refine ⟨k + 1, p, rfl, by go_num, ⟨?_⟩, ⟨by have := HK.out; omega⟩, ⟨HQ.out.trans (HB9.out.mono HQ.out.size)⟩⟩
              rw [HX.out]
              exact ((peak_step HP.out).2 (Int.not_lt.mpr cx)).symm
      · have c1 : decide ((k : Int) + 1 < (K : Int) + 1) = false := decide_eq_false (by omega)
        have c1' : decide ((k : Int) < (K : Int)) = false := decide_eq_false (by omega)
        obtain rfl : k = K := by have := HK.out; omega
        go_wp2
        go_ret2
        rw [HP.out]
        exact ⟨rfl, HB0.out.trans (HQ.out.mono HB0.out.size)⟩
  have c6 : decide ((D : Int) ≥ s) = true := decide_eq_true (by omega)
  have c7 : decide (s ≤ (D : Int)) = true := c6
  have hn : ¬ noBest l s := by unfold noBest; omega
  have KB : Aside0 (∀ W, Kd.C (Kd.int .i64) W A l.length l → Calls Try.prog 39 #[.slice A l.length c, .int .i64 s] W fun e w' => e = .returned (.tuple #[.int .i64 (bestAt l s 9).1, .int .i64 (bestAt l s 9).2, .int .i64 0]) ∧ Below W.heap.size W w') := ⟨fun W h => by
    have := rbest_calls A c l s W h hc hin hs hll
    rwa [bestE_ok hn] at this⟩
  rw [wayOf_ok (by omega)] at kc HT0 ⊢
  have km := fun W => rmods_calls (s := s) (by omega) (by omega) W
  have hmo : ∀ m, m ∈ mods s → m.n = s := fun m hm => (mods_ok (s := s) (by omega) (by omega) hm).1
  obtain ⟨q, hq⟩ : ∃ q, (bestAt l s 9).1 = q := ⟨_, rfl⟩
  obtain ⟨q2, hq2⟩ : ∃ q2, (bestAt l s 9).2 = q2 := ⟨_, rfl⟩
  have hcs := wayAt_cases l s
  rw [hq] at kc HT0 KB hcs ⊢
  rw [hq2] at KB
  clear hq hq2
  rcases hcs with ⟨rfl, e3⟩ | ⟨j, m, rfl, hm, e3⟩
  · rw [e3] at kc HT0 ⊢
    obtain ⟨T, hT⟩ : ∃ T, (castBy l s none ((K : Int) + 1)).1 = T := ⟨_, rfl⟩
    rw [hT] at kc HT0 ⊢
    have KC := Aside0.mk kc
    have HT := Aside0.mk HT0
    have KF := Aside0.mk kf
    clear kc HT0 kf hno' hno e3 hT hD hD3 h6 km hmo hn
    go_enter Try.func46, Try.ntmps46
    go_wp2_with (first | (go_at_call 44; (with_reducible refine (KC.out _ HR.out).mono ?_); rintro e w0 ⟨rfl, hb⟩; have HBa := Aside0.mk hb; clear hb) | (go_at_call 39; (with_reducible refine (KB.out _ (Kd.C_below HR.out HBa.out)).mono ?_); rintro e w1 ⟨rfl, hb⟩; have HB0 := Aside0.mk (HBa.out.trans (hb.mono HBa.out.size)); clear hb))
    go_loopg [8, 12] K (fun kq v8 v12 W' => ∃ (k : Nat) (p : Int), v8 = .int .i64 p ∧ v12 = .int .i64 ((k : Int) + 1) ∧ Aside0 (max T (peakAt l s none k) = p) ∧ Aside0 (kq + k = K) ∧ Aside0 (Below w1.heap.size w1 W'))
    case atStart => exact ⟨0, T, rfl, rfl, ⟨peak_from HT.out⟩, ⟨rfl⟩, ⟨Below.refl _ _⟩⟩
    case round =>
      obtain ⟨k, p, rfl, rfl, HP, HK, HQ⟩ := hrel
      obtain ⟨U, rfl⟩ : ∃ U : World, U = wr := ⟨_, rfl⟩
      by_cases ck : k < K
      · have c1 : decide ((k : Int) + 1 < (K : Int) + 1) = true := decide_eq_true (by omega)
        have c1' : decide ((k : Int) < (K : Int)) = true := decide_eq_true (by omega)
        have c2 := wrapk ck HN.out
        have KFi := Aside0.mk (KF.out k ck)
        obtain ⟨x, hx⟩ : ∃ x, (castBy l s none ((k : Int) + 1)).1 = x := ⟨_, rfl⟩
        obtain ⟨x2, hx2⟩ : ∃ x, (castBy l s none ((k : Int) + 1)).2 = x := ⟨_, rfl⟩
        rw [hx, hx2] at KFi
        have HX : Aside0 (peakAt l s none (k + 1) = max (peakAt l s none k) x) := ⟨by rw [← hx]; rfl⟩
        clear hx hx2
        cases gk with
        | zero => exact absurd HK.out (by omega)
        | succ k1 =>
          by_cases cx : p < x
          · have c5 : decide (x > p) = true := decide_eq_true cx
            go_wp2_with (go_at_call 79; (with_reducible refine (KFi.out _ (Kd.C_below HR.out (HB0.out.trans (HQ.out.mono HB0.out.size)))).mono ?_); rintro e w9 ⟨rfl, hb⟩; have HB9 := Aside0.mk hb; clear hb)
            go_roundg k1
            case measure => omega
            case rel =>
              refine ⟨k + 1, x, rfl, by go_num, ⟨?_⟩, ⟨by have := HK.out; omega⟩, ⟨HQ.out.trans (HB9.out.mono HQ.out.size)⟩⟩
              rw [HX.out]
              exact ((peak_step HP.out).1 cx).symm
          · have c5 : decide (x > p) = false := decide_eq_false cx
            go_wp2_with (go_at_call 79; (with_reducible refine (KFi.out _ (Kd.C_below HR.out (HB0.out.trans (HQ.out.mono HB0.out.size)))).mono ?_); rintro e w9 ⟨rfl, hb⟩; have HB9 := Aside0.mk hb; clear hb)
            go_roundg k1
            case measure => omega
            case rel =>
              refine ⟨k + 1, p, rfl, by go_num, ⟨?_⟩, ⟨by have := HK.out; omega⟩, ⟨HQ.out.trans (HB9.out.mono HQ.out.size)⟩⟩
              rw [HX.out]
              exact ((peak_step HP.out).2 (Int.not_lt.mpr cx)).symm
      · have c1 : decide ((k : Int) + 1 < (K : Int) + 1) = false := decide_eq_false (by omega)
        have c1' : decide ((k : Int) < (K : Int)) = false := decide_eq_false (by omega)
        obtain rfl : k = K := by have := HK.out; omega
        go_wp2
        go_ret2
        rw [HP.out]
        exact ⟨rfl, HB0.out.trans (HQ.out.mono HB0.out.size)⟩
  · have hj : j < 8 := by have := (List.getElem?_eq_some_iff.mp hm).1; simpa [mods] using this
    have hst : startE l m = 0 := start_ok hn (List.mem_of_getElem? hm)
    rw [e3] at kc HT0 ⊢
    have KM := Aside0.mk km
    obtain ⟨n1, n2, n3, n4, s5, s6⟩ := start_len hst
    have hmn := hmo m (List.mem_of_getElem? hm)
    have KS : Aside0 (∀ W, Kd.C (Kd.int .i64) W A l.length l → Calls Try.prog 25 #[.slice A l.length c, moV m] W fun e w' => ∃ b, e = .returned (.tuple #[.pointer (some ⟨b, 0, none⟩), .int .i64 0]) ∧ RStAt w' W.heap.size w'.heap.size b m (startS l m) ∧ Below W.heap.size W w') := ⟨fun W h => by
      refine (rstart_calls A c l m W h hc hin (by rw [hmn]; exact hs) hll).mono (fun e w' h => ?_)
      unfold RStartPost at h
      rwa [if_neg (by rw [hst]; decide)] at h⟩
    have KF : Aside0 (∀ k : Nat, k < K → ∀ b lo hi W, RStAt W lo hi b m (startS l m) → Calls Try.prog 29 #[.pointer (some ⟨b, 0, none⟩), .int .i64 ((k : Int) + 1)] W fun e w' => e = .returned (.tuple #[.int .i64 (castBy l s (some m) ((k : Int) + 1)).1, .int .i64 (castBy l s (some m) ((k : Int) + 1)).2]) ∧ Below W.heap.size W w') := ⟨fun k hk b lo hi W h => by
      exact rcastOf_calls lo hi b m (startS l m) ((k : Int) + 1) W h (begin_start_in l m) ⟨by omega, by omega⟩ (by omega) (by omega) (by omega) (by omega)⟩
    obtain ⟨w1', w2', w3', w4'⟩ := wrapj hj
    have w5' := wrapj5 j
    have RD := Aside0.mk (rd_mods hm)
    obtain ⟨T, hT⟩ : ∃ T, (castBy l s (some m) ((K : Int) + 1)).1 = T := ⟨_, rfl⟩
    rw [hT] at kc HT0 ⊢
    have KC := Aside0.mk kc
    have HT := Aside0.mk HT0
    obtain ⟨st, hst'⟩ : ∃ st, startS l m = st := ⟨_, rfl⟩
    rw [hst'] at KS KF
    have hK0 : ∃ o, o = some m := ⟨_, rfl⟩
    obtain ⟨o, ho⟩ := hK0
    rw [← ho] at KF ⊢
    clear ho hst' kc HT0 kf hno' hno e3 hT hD hD3 h6 km hmo hn hm hst n1 n2 n3 n4 s5 s6 hmn
    obtain ⟨n, ma, mb, mc⟩ := m
    dsimp only [moV] at *
    go_enter Try.func46, Try.ntmps46
    go_wp2_with (first | (go_at_call 44; (with_reducible refine (KC.out _ HR.out).mono ?_); rintro e w0 ⟨rfl, hb⟩; have HBa := Aside0.mk hb; clear hb) | (go_at_call 39; (with_reducible refine (KB.out _ (Kd.C_below HR.out HBa.out)).mono ?_); rintro e w1 ⟨rfl, hb⟩; have HBb := Aside0.mk (HBa.out.trans (hb.mono HBa.out.size)); clear hb) | (go_at_call 42; (with_reducible refine (KM.out _).mono ?_); rintro e w2 ⟨B, d, rfl, hd, hC, hb⟩; obtain ⟨ad, ee, r0, r1, r2, r3⟩ := at_Mo hC (j : Int) (by omega) (by omega); cases ee; rw [RD.out, Int.toNat_natCast] at r0 r1 r2 r3; have HBc := Aside0.mk (HBb.out.trans (hb.mono HBb.out.size)); clear hb hC) | (go_at_call 25; (with_reducible refine (KS.out _ (Kd.C_below HR.out HBc.out)).mono ?_); rintro e w3 ⟨b, rfl, hst, hb⟩; have HB0 := Aside0.mk (HBc.out.trans (hb.mono HBc.out.size)); have HST := Aside0.mk hst; clear hb hst))
    clear t3 t4 c6 c7 w1' w2'
    go_loopg [8, 12] K (fun kq v8 v12 W' => ∃ (k : Nat) (p : Int), v8 = .int .i64 p ∧ v12 = .int .i64 ((k : Int) + 1) ∧ Aside0 (max T (peakAt l s o k) = p) ∧ Aside0 (kq + k = K) ∧ Aside0 (Below w3.heap.size w3 W'))
    case atStart => exact ⟨0, T, rfl, rfl, ⟨peak_from HT.out⟩, ⟨rfl⟩, ⟨Below.refl _ _⟩⟩
    case round =>
      obtain ⟨k, p, rfl, rfl, HP, HK, HQ⟩ := hrel
      obtain ⟨U, rfl⟩ : ∃ U : World, U = wr := ⟨_, rfl⟩
      by_cases ck : k < K
      · have c1 : decide ((k : Int) + 1 < (K : Int) + 1) = true := decide_eq_true (by omega)
        have c1' : decide ((k : Int) < (K : Int)) = true := decide_eq_true (by omega)
        have c2 := wrapk ck HN.out
        have KFi := Aside0.mk (KF.out k ck)
        obtain ⟨x, hx⟩ : ∃ x, (castBy l s o ((k : Int) + 1)).1 = x := ⟨_, rfl⟩
        obtain ⟨x2, hx2⟩ : ∃ x, (castBy l s o ((k : Int) + 1)).2 = x := ⟨_, rfl⟩
        rw [hx, hx2] at KFi
        have HX : Aside0 (peakAt l s o (k + 1) = max (peakAt l s o k) x) := ⟨by rw [← hx]; rfl⟩
        clear hx hx2
        cases gk with
        | zero => exact absurd HK.out (by omega)
        | succ k1 =>
          by_cases cx : p < x
          · have c5 : decide (x > p) = true := decide_eq_true cx
            go_wp2_with (go_at_call 29; (with_reducible refine (KFi.out b w2.heap.size w3.heap.size _ (HST.out.kept (S := fun _ => False) (Kept.of_below HQ.out _) (fun _ _ _ h => h))).mono ?_); rintro e w9 ⟨rfl, hb⟩; have HB9 := Aside0.mk hb; clear hb)
            go_roundg k1
            case measure => omega
            case rel =>
              refine ⟨k + 1, x, rfl, by go_num, ⟨?_⟩, ⟨by have := HK.out; omega⟩, ⟨HQ.out.trans (HB9.out.mono HQ.out.size)⟩⟩
              rw [HX.out]
              exact ((peak_step HP.out).1 cx).symm
          · have c5 : decide (x > p) = false := decide_eq_false cx
            go_wp2_with (go_at_call 29; (with_reducible refine (KFi.out b w2.heap.size w3.heap.size _ (HST.out.kept (S := fun _ => False) (Kept.of_below HQ.out _) (fun _ _ _ h => h))).mono ?_); rintro e w9 ⟨rfl, hb⟩; have HB9 := Aside0.mk hb; clear hb)
            go_roundg k1
            case measure => omega
            case rel =>
              refine ⟨k + 1, p, rfl, by go_num, ⟨?_⟩, ⟨by have := HK.out; omega⟩, ⟨HQ.out.trans (HB9.out.mono HQ.out.size)⟩⟩
              rw [HX.out]
              exact ((peak_step HP.out).2 (Int.not_lt.mpr cx)).symm
      · have c1 : decide ((k : Int) + 1 < (K : Int) + 1) = false := decide_eq_false (by omega)
        have c1' : decide ((k : Int) < (K : Int)) = false := decide_eq_false (by omega)
        obtain rfl : k = K := by have := HK.out; omega
        go_wp2
        go_ret2
        rw [HP.out]
        exact ⟨rfl, HB0.out.trans (HQ.out.mono HB0.out.size)⟩
end Go.Proofs.Ytemnfnbjapobcaa.Ho
end
section
namespace Go.Proofs.Ytemnfnbjapobcaa
open Go.RowKit Go.Proofs.YtemnfnbjapobcaaW.PrintWords
theorem R_iso {α β : Type} {d : Kd α} {f : β → α} {g : α → β} (hfg : ∀ x, f (g x) = x) {e : Nat} {w : World} {base : Nat} {ok : Nat → Prop} {v : Value} {xs : List α} (h : d.R e w base ok v xs) : (Kd.iso d f).R e w base ok v (xs.map g) := by
  obtain ⟨h1, inner, ho, hr⟩ := h
  refine ⟨h1, inner, by rw [List.length_map]; exact ho, by rw [List.length_map]; exact hr.1, fun j p hj => ?_⟩
  rw [List.getElem?_map] at hj
  obtain ⟨y, hy, rfl⟩ := Option.map_eq_some_iff.mp hj
  show d.M w base _ (f (g y)) _
  rw [hfg]
  exact hr.2 j y hy
theorem sMiss : Aside0 Ho.SeasonMiss := ⟨Cm.seasonMiss⟩
theorem sCast : Aside0 Ho.SeasonCast := ⟨Cm.seasonCast⟩
end Go.Proofs.Ytemnfnbjapobcaa
end
section
namespace Go.Proofs.Ytemnfnbjapobcaa.Ch
open Go.RowKit Go.Proofs.YtemnfnbjapobcaaW.PrintWords Go.Proofs.YtemnfnbjapobcaaW.PrintLast Go.Proofs.YtemnfnbjapobcaaW.PrintMore
attribute [local go_sem] max2_int min2_int max_two min_two max_three min_three max_four min_four   -- for this text's walks alone
set_option linter.unusedVariables false
set_option linter.unusedSimpArgs false
def errW : Option Int → Value
  | none => .nilIface
  | some c => .iface 0 (.int .i64 c)
theorem errW_none : errW none = .nilIface := rfl
theorem errW_some (c : Int) : errW (some c) = .iface 0 (.int .i64 c) := rfl
theorem info3 : (Try.prog.info? 3).map (fun i => (i.zero, i.size, i.bytes)) = some (some (.int .i64 0), 1, 8) := by kernel_rfl
theorem info29 : (Try.prog.info? 29).map (fun i => (i.zero, i.size, i.bytes)) = some (some (.agg #[(.int .i64 0), (.int .i64 0), (.int .i64 0), (.int .i64 0)]), 4, 32) := by kernel_rfl
structure S29 where
  f0 : Int
  f1 : Int
  f2 : Int
  f3 : Int
def k29 : Kd S29 := Kd.iso (Kd.pair (Kd.int .i64) (Kd.pair (Kd.int .i64) (Kd.pair (Kd.int .i64) (Kd.int .i64)))) (fun x : S29 => (x.f0, x.f1, x.f2, x.f3))
end Go.Proofs.Ytemnfnbjapobcaa.Ch
end
