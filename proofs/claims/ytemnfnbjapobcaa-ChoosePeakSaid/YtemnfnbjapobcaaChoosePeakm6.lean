-- Laid together by wip/shake.py out of: Cmx2 CmSpec Ch8 Extra2 Chx0 Chx2 Chx4 Chx1 PureChooseBest PureChooseCasts PureChoosePeak
import Derived.Test.YtemnfnbjapobcaaChoosePeakm5
import Derived.Test.YtemnfnbjapobcaaProg
import Derived.Below
import Derived.Deep.Draws
import Derived.Deep.AppendLies
import Derived.Maps.AppendAt
import Derived.OwnWalk
import Derived.Laws.BytesArg
import Derived.Laws.MakeOwn
import Derived.Laws.OwnMore
import Derived.Deep.OwnRows
import Derived.Tactics
import Derived.Lib.ConvBytes
import Derived.Laws.Slices
import Derived.WalkKit
import Derived.KernelRfl
import Derived.RowKit3
import Derived.Deep.LoopGhost
import Derived.Deep.QuietTactic
import Derived.BigQuiet
import Derived.WideLaws
import Derived.Deep.DeepCutAuto
import Derived.Deep.CutBlock
import Derived.Deep.RegionHeld3
import Derived.Laws.Rows
import Derived.Lib.AppendStr
import Derived.ArgAppend
import Derived.Laws.IdiomCopy
import Derived.OrdersHeld
import Derived.Laws.BitsLemmas
import Derived.RowKit
section
namespace Go.Proofs.Ytemnfnbjapobcaa.Cm
open Go.RowKit Go.Proofs.YtemnfnbjapobcaaW.PrintWords Go.Proofs.YtemnfnbjapobcaaW.PrintLast Go.Proofs.YtemnfnbjapobcaaW.PrintMore
attribute [local go_sem] max2_int min2_int max_two min_two max_three min_three max_four min_four   -- for this text's walks alone
set_option linter.unusedVariables false
set_option linter.unusedSimpArgs false
def season_Miss_1.f (k : Nat) (l : List Int) (s : Int) (i : Int) : Option Int := if 0 ≤ i then (if i < (l.length : Int) then (if 0 ≤ (wrap64 (i - s)) then (if (wrap64 (i - s)) < (l.length : Int) then (season_Distance.f (rd l i) (rd l (wrap64 (i - s)))) else none) else none) else none) else none
def season_Miss.l0 : Nat → List Int → Int → Int → Int → Option (Int × Int)
  | 0, _, _, _, _ => none
  | k + 1, l, s, sum, i => if i < (l.length : Int) then ((season_Miss_1.f k l s i).bind fun d => ((fixed_Add.f sum d).bind fun t => (season_Miss.l0 k l s t (wrap64 (i + 1))))) else (some (sum, 0))
def season_Miss.f (k : Nat) (l0 : List Int) (a1 : Int) (a2 : Int) : Option (Int × Int) := (season_counted.f a1).bind fun c => (if c = true then (if (l0.length : Int) < a1 then (some (0, 1)) else (if a2 < 1 then (some (0, 1)) else (if a1 > (wrap64 ((l0.length : Int) - a2)) then (some (0, 1)) else (season_Miss.l0 k l0 a1 0 (wrap64 ((l0.length : Int) - a2)))))) else (some (0, 1)))
theorem season_Distance.quiet (a0 a1 r : Int) (w : World) (h : season_Distance.f a0 a1 = some r) :
    Calls Try.prog 73 #[.int .i64 a0, .int .i64 a1] w fun e w' => e = .returned (.int .i64 r) ∧ ∃ m, w' = w.drewN m :=
  (season_Distance.calls a0 a1 r w h).mono fun _ _ ⟨he, hw⟩ => ⟨he, hw.out⟩
set_option maxHeartbeats 4000000 in
set_option maxRecDepth 100000 in
theorem season_Miss_1.calls (k : Nat) (A : Option Addr) (c : Nat) (l : List Int) (s i r : Int) (bl bs : Nat) (w : World) (hl : w.cell? ⟨bl, 0, none⟩ = some (.slice A l.length c)) (hs : w.cell? ⟨bs, 0, none⟩ = some (.int .i64 s)) (hr : Kd.C (Kd.int .i64) w A l.length l) (h : season_Miss_1.f k l s i = some r) :
    Calls Try.prog 144 #[.int .i64 i, .pointer (some ⟨bl, 0, none⟩), .pointer (some ⟨bs, 0, none⟩)] w fun e w' => e = .returned (.int .i64 r) ∧ Drawn0 w w' := by
  unfold season_Miss_1.f at h
  by_cases h0 : 0 ≤ i
  · by_cases h1 : i < (l.length : Int)
    · obtain ⟨j, hj⟩ : ∃ j, wrap64 (i - s) = j := ⟨_, rfl⟩
      by_cases h2 : 0 ≤ j
      · by_cases h3 : j < (l.length : Int)
        · rw [if_pos h0, if_pos h1, hj, if_pos h2, if_pos h3] at h
          obtain ⟨ad, rfl, c1⟩ := Kd.at_int hr i h0 h1
          obtain ⟨ad', e2, c2⟩ := Kd.at_int hr j h2 h3
          cases e2
          have D := Aside0.mk h
          clear h
          have hjw : IntKind.i64.wrap (i - s) = j := (i64_w _).trans hj
          have g0 := eq_true h0
          have g1 := eq_true h1
          have g2 := eq_true h2
          have g3 := eq_true h3
          clear h0 h1 h2 h3
          go_enter Try.func144, Try.ntmps144
          go_wp2
          go_quiet ((go_at_call 73; exact Calls.quiet_of (season_Distance.quiet _ _ r _ D.out)))
          go_wp2
          go_ret
          exact ⟨rfl, by repeat (first | exact Drawn0.refl _ | apply Drawn0.step)⟩
        · rw [if_pos h0, if_pos h1, hj, if_pos h2, if_neg h3] at h; cases h
      · rw [if_pos h0, if_pos h1, hj, if_neg h2] at h; cases h
    · rw [if_pos h0, if_neg h1] at h; cases h
  · rw [if_neg h0] at h; cases h
set_option maxHeartbeats 4000000 in
set_option maxRecDepth 100000 in
theorem season_Miss.calls (k : Nat) (A0 : Option Addr) (c0 : Nat) (l0 : List Int) (a1 : Int) (a2 : Int) (r1 : Int) (r2 : Int) (w : World) (hr0 : Kd.C (Kd.int .i64) w A0 l0.length l0) (hc0 : l0.length ≤ c0) (h : season_Miss.f k l0 a1 a2 = some (r1, r2)) :
    Calls Try.prog 136 #[.slice A0 l0.length c0, .int .i64 a1, .int .i64 a2] w fun e w' => e = .returned (.tuple #[.int .i64 r1, .int .i64 r2]) ∧ Below w.heap.size w w' := by
  unfold season_Miss.f at h
  obtain ⟨c, A1, H⟩ := Option.bind_eq_some_iff.mp h
  have AC := Aside0.mk A1
  clear A1 h
  have bad : ∀ (e : Ending) (w' : World), e = .returned (.tuple #[.int .i64 0, .int .i64 1]) ∧ Below w.heap.size w w' → (some ((0 : Int), (1 : Int)) = some (r1, r2)) → e = .returned (.tuple #[.int .i64 r1, .int .i64 r2]) ∧ Below w.heap.size w w' := by
    intro e w' h1 h2
    obtain ⟨rfl, rfl⟩ := Prod.mk.inj (Option.some.inj h2)
    exact h1
  have fin : ∀ n : Nat, Below w.heap.size w (((w.alloc (.cells #[.slice A0 l0.length c0] 23)).alloc (.cells #[.int .i64 a1] 3)).drewN n) := fun n =>
    pw_below_drewN (below_alloc (below_alloc (Below.refl _ _) _) _) n
  cases c
  · rw [if_neg (by decide)] at H
    refine Calls.mono ?_ (fun e w' h1 => bad e w' h1 H)
    clear H bad
    have FIN := Aside0.mk fin
    clear fin
    go_enter Try.func136, Try.ntmps136
    go_wp2_with (go_at_call 143; (with_reducible refine (season_counted.calls a1 false _ AC.out).mono ?_); rintro e w' ⟨rfl, ⟨nd, rfl⟩⟩)
    go_ret2
    exact ⟨rfl, FIN.out _⟩
  · rw [if_pos rfl] at H
    by_cases h1 : (l0.length : Int) < a1
    · rw [if_pos h1] at H
      refine Calls.mono ?_ (fun e w' h1 => bad e w' h1 H)
      clear H bad
      have FIN := Aside0.mk fin
      clear fin
      have g1 : decide ((l0.length : Int) < a1) = true := decide_eq_true h1
      clear h1
      go_enter Try.func136, Try.ntmps136
      go_wp2_with (go_at_call 143; (with_reducible refine (season_counted.calls a1 true _ AC.out).mono ?_); rintro e w' ⟨rfl, ⟨nd, rfl⟩⟩)
      go_ret2
      exact ⟨rfl, FIN.out _⟩
    · rw [if_neg h1] at H
      have g1 : decide ((l0.length : Int) < a1) = false := decide_eq_false h1
      clear h1
      by_cases h2 : a2 < 1
      · rw [if_pos h2] at H
        refine Calls.mono ?_ (fun e w' h1 => bad e w' h1 H)
        clear H bad
        have FIN := Aside0.mk fin
        clear fin
        have g2 : decide (a2 < 1) = true := decide_eq_true h2
        clear h2
        go_enter Try.func136, Try.ntmps136
        go_wp2_with (go_at_call 143; (with_reducible refine (season_counted.calls a1 true _ AC.out).mono ?_); rintro e w' ⟨rfl, ⟨nd, rfl⟩⟩)
        go_ret2
        exact ⟨rfl, FIN.out _⟩
      · rw [if_neg h2] at H
        have g2 : decide (a2 < 1) = false := decide_eq_false h2
        clear h2
        obtain ⟨j, hj⟩ : ∃ j, wrap64 ((l0.length : Int) - a2) = j := ⟨_, rfl⟩
        rw [hj] at H
        have hjw : IntKind.i64.wrap ((l0.length : Int) - a2) = j := (i64_w _).trans hj
        by_cases h3 : a1 > j
        · rw [if_pos h3] at H
          refine Calls.mono ?_ (fun e w' h1 => bad e w' h1 H)
          clear H bad
          have FIN := Aside0.mk fin
          clear fin
          have g3 : decide (j < a1) = true := decide_eq_true h3
          clear h3
          go_enter Try.func136, Try.ntmps136
          go_wp2_with (go_at_call 143; (with_reducible refine (season_counted.calls a1 true _ AC.out).mono ?_); rintro e w' ⟨rfl, ⟨nd, rfl⟩⟩)
          go_ret2
          exact ⟨rfl, FIN.out _⟩
        · rw [if_neg h3] at H
          have g3 : decide (j < a1) = false := decide_eq_false h3
          clear h3 bad
          have FIN := Aside0.mk fin
          have H' := Aside0.mk H
          have HB1 : Aside0 (∀ n : Nat, (((w.alloc (.cells #[.slice A0 l0.length c0] 23)).alloc (.cells #[.int .i64 a1] 3)).drewN n).cell? ⟨w.heap.size, 0, none⟩ = some (.slice A0 l0.length c0)) := ⟨fun n => by go_simp⟩
          have HB2 : Aside0 (∀ n : Nat, (((w.alloc (.cells #[.slice A0 l0.length c0] 23)).alloc (.cells #[.int .i64 a1] 3)).drewN n).cell? ⟨w.heap.size + 1, 0, none⟩ = some (.int .i64 a1)) := ⟨fun n => by go_simp⟩
          have HB3 : Aside0 (∀ n : Nat, Kd.C (Kd.int .i64) (((w.alloc (.cells #[.slice A0 l0.length c0] 23)).alloc (.cells #[.int .i64 a1] 3)).drewN n) A0 l0.length l0) := ⟨fun n => Kd.C_below hr0 (fin n)⟩
          clear fin H hr0
          go_enter Try.func136, Try.ntmps136
          go_wp2_with (go_at_call 143; (with_reducible refine (season_counted.calls a1 true _ AC.out).mono ?_); rintro e w' ⟨rfl, ⟨nd, rfl⟩⟩)
          go_loopg [9, 10] k (fun kq v9 v10 w' => ∃ (sum i : Int) (m : Nat), v9 = .int .i64 sum ∧ v10 = .int .i64 i ∧ Aside0 (season_Miss.l0 kq l0 a1 sum i = some (r1, r2)) ∧ Aside0 (kq ≤ k) ∧ w' = ((w.alloc (.cells #[.slice A0 l0.length c0] 23)).alloc (.cells #[.int .i64 a1] 3)).drewN m)
          case atStart => exact ⟨0, j, _, rfl, rfl, H', ⟨Nat.le_refl _⟩, rfl⟩
          case round =>
            clear H'
            obtain ⟨sum, i, m, rfl, rfl, HA, HK1, rfl⟩ := hrel
            cases gk with
            | zero => exact absurd HA.out (by simp [season_Miss.l0])
            | succ k1 =>
              have H := HA.out
              clear HA
              simp only [season_Miss.l0] at H
              by_cases c9 : i < (l0.length : Int)
              · rw [if_pos c9] at H
                have c9b : decide (i < (l0.length : Int)) = true := decide_eq_true c9
                clear c9
                obtain ⟨d, A2, H⟩ := Option.bind_eq_some_iff.mp H
                have A2 := Aside0.mk A2
                obtain ⟨t, A3, H⟩ := Option.bind_eq_some_iff.mp H
                have A3 := Aside0.mk A3
                have H' := Aside0.mk H
                clear H
                go_wp2_with (first | (go_at_call 144; (with_reducible refine (season_Miss_1.calls k1 A0 c0 l0 a1 i d w.heap.size (w.heap.size + 1) _ (HB1.out _) (HB2.out _) (HB3.out _) A2.out).mono ?_); rintro e w' ⟨rfl, ⟨nd, rfl⟩⟩) | (go_at_call 67; (with_reducible refine (fixed_Add.calls sum d t _ A3.out).mono ?_); rintro e w' ⟨rfl, ⟨nd, rfl⟩⟩))
                go_roundg k1
                case measure => have := HK1.out; omega
                case rel => exact ⟨t, wrap64 (i + 1), _, rfl, rfl, H', ⟨by have := HK1.out; omega⟩, rfl⟩
              · rw [if_neg c9] at H
                have c9b : decide (i < (l0.length : Int)) = false := decide_eq_false c9
                clear c9
                obtain ⟨rfl, rfl⟩ := Prod.mk.inj (Option.some.inj H)
                go_wp2
                go_ret2
                exact ⟨rfl, FIN.out _⟩
def season_Cast.f (l0 : List Int) (a1 : Int) (a2 : Int) : Option (Int × Int) := (season_counted.f a1).bind fun t106 => (if t106 = true then ((season_counted.f a2).bind fun t107 => (if t107 = true then (if (l0.length : Int) < a1 then (some (0, 1)) else (if a1 = 0 then (none) else (if 0 ≤ (wrap64 ((wrap64 ((l0.length : Int) - a1)) + (Int.tmod (wrap64 (a2 - 1)) a1))) then (if (wrap64 ((wrap64 ((l0.length : Int) - a1)) + (Int.tmod (wrap64 (a2 - 1)) a1))) < (l0.length : Int) then (some (rd l0 (wrap64 ((wrap64 ((l0.length : Int) - a1)) + (Int.tmod (wrap64 (a2 - 1)) a1))), 0)) else (none)) else (none)))) else (some (0, 1)))) else (some (0, 1)))
set_option maxHeartbeats 8000000 in
set_option maxRecDepth 100000 in
theorem season_Cast.calls (A0 : Option Addr) (c0 : Nat) (l0 : List Int) (a1 : Int) (a2 : Int) (r1 : Int) (r2 : Int) (w : World) (hr0 : Kd.C (Kd.int .i64) w A0 l0.length l0) (hc0 : l0.length ≤ c0) (h : season_Cast.f l0 a1 a2 = some (r1, r2)) :
    Calls Try.prog 138 #[.slice A0 l0.length c0, .int .i64 a1, .int .i64 a2] w fun e w' => e = .returned (.tuple #[.int .i64 r1, .int .i64 r2]) ∧ Drawn0 w w' := by
  have HR0 := Aside0.mk hr0
  have HC0 := Aside0.mk hc0
  clear hr0 hc0
  have H : ((season_counted.f a1).bind fun t106 => (if t106 = true then ((season_counted.f a2).bind fun t107 => (if t107 = true then (if (l0.length : Int) < a1 then (some (0, 1)) else (if a1 = 0 then (none) else (if 0 ≤ (wrap64 ((wrap64 ((l0.length : Int) - a1)) + (Int.tmod (wrap64 (a2 - 1)) a1))) then (if (wrap64 ((wrap64 ((l0.length : Int) - a1)) + (Int.tmod (wrap64 (a2 - 1)) a1))) < (l0.length : Int) then (some (rd l0 (wrap64 ((wrap64 ((l0.length : Int) - a1)) + (Int.tmod (wrap64 (a2 - 1)) a1))), 0)) else (none)) else (none)))) else (some (0, 1)))) else (some (0, 1)))) = some (r1, r2) := h
  clear h
  replace H := Option.bind_eq_some_iff.mp H
  obtain ⟨t106, A40, H⟩ := H
  replace H : (if t106 = true then ((season_counted.f a2).bind fun t107 => (if t107 = true then (if (l0.length : Int) < a1 then (some (0, 1)) else (if a1 = 0 then (none) else (if 0 ≤ (wrap64 ((wrap64 ((l0.length : Int) - a1)) + (Int.tmod (wrap64 (a2 - 1)) a1))) then (if (wrap64 ((wrap64 ((l0.length : Int) - a1)) + (Int.tmod (wrap64 (a2 - 1)) a1))) < (l0.length : Int) then (some (rd l0 (wrap64 ((wrap64 ((l0.length : Int) - a1)) + (Int.tmod (wrap64 (a2 - 1)) a1))), 0)) else (none)) else (none)))) else (some (0, 1)))) else (some (0, 1))) = some (r1, r2) := H
  have A4 := Aside0.mk A40
  clear A40
  by_cases c5 : t106 = true
  · subst c5
    have H1 : ((season_counted.f a2).bind fun t107 => (if t107 = true then (if (l0.length : Int) < a1 then (some (0, 1)) else (if a1 = 0 then (none) else (if 0 ≤ (wrap64 ((wrap64 ((l0.length : Int) - a1)) + (Int.tmod (wrap64 (a2 - 1)) a1))) then (if (wrap64 ((wrap64 ((l0.length : Int) - a1)) + (Int.tmod (wrap64 (a2 - 1)) a1))) < (l0.length : Int) then (some (rd l0 (wrap64 ((wrap64 ((l0.length : Int) - a1)) + (Int.tmod (wrap64 (a2 - 1)) a1))), 0)) else (none)) else (none)))) else (some (0, 1)))) = some (r1, r2) := by rw [if_pos rfl] at H; exact H
    clear H
    have H := H1
    clear H1
    replace H := Option.bind_eq_some_iff.mp H
    obtain ⟨t107, A60, H⟩ := H
    replace H : (if t107 = true then (if (l0.length : Int) < a1 then (some (0, 1)) else (if a1 = 0 then (none) else (if 0 ≤ (wrap64 ((wrap64 ((l0.length : Int) - a1)) + (Int.tmod (wrap64 (a2 - 1)) a1))) then (if (wrap64 ((wrap64 ((l0.length : Int) - a1)) + (Int.tmod (wrap64 (a2 - 1)) a1))) < (l0.length : Int) then (some (rd l0 (wrap64 ((wrap64 ((l0.length : Int) - a1)) + (Int.tmod (wrap64 (a2 - 1)) a1))), 0)) else (none)) else (none)))) else (some (0, 1))) = some (r1, r2) := H
    have A6 := Aside0.mk A60
    clear A60
    by_cases c7 : t107 = true
    · subst c7
      have H1 : (if (l0.length : Int) < a1 then (some (0, 1)) else (if a1 = 0 then (none) else (if 0 ≤ (wrap64 ((wrap64 ((l0.length : Int) - a1)) + (Int.tmod (wrap64 (a2 - 1)) a1))) then (if (wrap64 ((wrap64 ((l0.length : Int) - a1)) + (Int.tmod (wrap64 (a2 - 1)) a1))) < (l0.length : Int) then (some (rd l0 (wrap64 ((wrap64 ((l0.length : Int) - a1)) + (Int.tmod (wrap64 (a2 - 1)) a1))), 0)) else (none)) else (none)))) = some (r1, r2) := by rw [if_pos rfl] at H; exact H
      clear H
      have H := H1
      clear H1
      by_cases c8 : (l0.length : Int) < a1
      · rw [if_pos c8] at H
        have c8b0 : decide ((l0.length : Int) < a1) = true := decide_eq_true c8
        clear c8
        simp only [Option.some.injEq, Prod.mk.injEq] at H
        obtain ⟨rfl, rfl⟩ := H
        go_enter Try.func138, Try.ntmps138
        go_wp2_with (first | ((with_reducible refine gate_callee (f := 143) rfl ?_); refine goesL_ (some 9) rfl rfl Try.func143 (by kernel_rfl) rfl #[.int .i64 a1] rfl (by (try simp only [List.map_toArray, List.map_cons, List.map_nil]); first | done | rfl | (simp only [List.length_drop, List.length_take]; rfl)) ?_; (with_reducible refine (season_counted.calls a1 true _ A4.out).mono ?_); rintro e w' ⟨rfl, ⟨nd, rfl⟩⟩; refine ⟨_, rfl, ?_⟩) | (go_at_call 143; (with_reducible refine (season_counted.calls a2 true _ A6.out).mono ?_); rintro e w' ⟨rfl, ⟨nd, rfl⟩⟩))
        go_ret2
        exact ⟨by first | rfl | (simp; done) | (simp [*]; done), by repeat (first | exact Drawn0.refl _ | apply Drawn0.step)⟩
      · rw [if_neg c8] at H
        have c8b0 : decide ((l0.length : Int) < a1) = false := decide_eq_false c8
        clear c8
        by_cases c9 : a1 = 0
        · rw [if_pos c9] at H
          exact absurd H (by simp)
        · rw [if_neg c9] at H
          have c9b0 : (a1 == 0) = false := beq_eq_false_iff_ne.mpr c9
          have c9b1 : (a1 != 0) = true := bne_iff_ne.mpr c9
          obtain ⟨ji10, hji10⟩ : ∃ j_ : Int, (wrap64 ((wrap64 ((l0.length : Int) - a1)) + (Int.tmod (wrap64 (a2 - 1)) a1))) = j_ := ⟨_, rfl⟩
          replace H : (if 0 ≤ (ji10) then (if (ji10) < (l0.length : Int) then (some (rd l0 (ji10), 0)) else (none)) else (none)) = some (r1, r2) := by first | (rw [hji10] at H; exact H) | (simp only [hji10] at H ⊢; exact H)
          (try rw [hji10] at A4)
          (try rw [hji10] at A6)
          have hji10w : (IntKind.i64.wrap ((wrap64 ((l0.length : Int) - a1)) + (Int.tmod (wrap64 (a2 - 1)) a1))) = ji10 := (i64_w _).trans hji10
          by_cases c11 : 0 ≤ (ji10)
          · rw [if_pos c11] at H
            have c11b0 : decide (0 ≤ (ji10)) = true := decide_eq_true c11
            clear c11
            by_cases c12 : (ji10) < (l0.length : Int)
            · rw [if_pos c12] at H
              have c12b0 : decide ((ji10) < (l0.length : Int)) = true := decide_eq_true c12
              clear c12
              simp only [Option.some.injEq, Prod.mk.injEq] at H
              obtain ⟨rfl, rfl⟩ := H
              go_enter Try.func138, Try.ntmps138
              go_wp2_with (first | ((with_reducible refine gate_callee (f := 143) rfl ?_); refine goesL_ (some 9) rfl rfl Try.func143 (by kernel_rfl) rfl #[.int .i64 a1] rfl (by (try simp only [List.map_toArray, List.map_cons, List.map_nil]); first | done | rfl | (simp only [List.length_drop, List.length_take]; rfl)) ?_; (with_reducible refine (season_counted.calls a1 true _ A4.out).mono ?_); rintro e w' ⟨rfl, ⟨nd, rfl⟩⟩; refine ⟨_, rfl, ?_⟩) | (go_at_call 143; (with_reducible refine (season_counted.calls a2 true _ A6.out).mono ?_); rintro e w' ⟨rfl, ⟨nd, rfl⟩⟩; have p108 : 0 ≤ ((ji10) : Int) := of_decide_eq_true (by first | (with_reducible assumption) | assumption); have q108 : (ji10) < (l0.length : Int) := of_decide_eq_true (by first | (with_reducible assumption) | assumption); obtain ⟨ad108, e108, hx108_0⟩ := Kd.at_int HR0.out (ji10) p108 q108; cases e108; replace p108 := eq_true p108; replace q108 := eq_true q108))
              go_ret2
              exact ⟨by first | rfl | (simp; done) | (simp only [← hji10] <;> (first | rfl | simp)) | (simp [*]; done), by repeat (first | exact Drawn0.refl _ | apply Drawn0.step)⟩
            · rw [if_neg c12] at H
              exact absurd H (by simp)
          · rw [if_neg c11] at H
            exact absurd H (by simp)
    · replace c7 := Bool.eq_false_iff.mpr c7
      subst c7
      have H1 : (some (0, 1)) = some (r1, r2) := by rw [if_neg (show ¬ (false = true) by decide)] at H; exact H
      clear H
      have H := H1
      clear H1
      simp only [Option.some.injEq, Prod.mk.injEq] at H
      obtain ⟨rfl, rfl⟩ := H
      go_enter Try.func138, Try.ntmps138
      go_wp2_with (first | ((with_reducible refine gate_callee (f := 143) rfl ?_); refine goesL_ (some 9) rfl rfl Try.func143 (by kernel_rfl) rfl #[.int .i64 a1] rfl (by (try simp only [List.map_toArray, List.map_cons, List.map_nil]); first | done | rfl | (simp only [List.length_drop, List.length_take]; rfl)) ?_; (with_reducible refine (season_counted.calls a1 true _ A4.out).mono ?_); rintro e w' ⟨rfl, ⟨nd, rfl⟩⟩; refine ⟨_, rfl, ?_⟩) | (go_at_call 143; (with_reducible refine (season_counted.calls a2 false _ A6.out).mono ?_); rintro e w' ⟨rfl, ⟨nd, rfl⟩⟩))
      go_ret2
      exact ⟨by first | rfl | (simp; done) | (simp [*]; done), by repeat (first | exact Drawn0.refl _ | apply Drawn0.step)⟩
  · replace c5 := Bool.eq_false_iff.mpr c5
    subst c5
    have H1 : (some (0, 1)) = some (r1, r2) := by rw [if_neg (show ¬ (false = true) by decide)] at H; exact H
    clear H
    have H := H1
    clear H1
    simp only [Option.some.injEq, Prod.mk.injEq] at H
    obtain ⟨rfl, rfl⟩ := H
    go_enter Try.func138, Try.ntmps138
    go_wp2_with (first | ((with_reducible refine gate_callee (f := 143) rfl ?_); refine goesL_ (some 9) rfl rfl Try.func143 (by kernel_rfl) rfl #[.int .i64 a1] rfl (by (try simp only [List.map_toArray, List.map_cons, List.map_nil]); first | done | rfl | (simp only [List.length_drop, List.length_take]; rfl)) ?_; (with_reducible refine (season_counted.calls a1 false _ A4.out).mono ?_); rintro e w' ⟨rfl, ⟨nd, rfl⟩⟩; refine ⟨_, rfl, ?_⟩))
    go_ret2
    exact ⟨by first | rfl | (simp; done) | (simp [*]; done), by repeat (first | exact Drawn0.refl _ | apply Drawn0.step)⟩
end Go.Proofs.Ytemnfnbjapobcaa.Cm
end
section
namespace Go.Proofs.Ytemnfnbjapobcaa.Cm
open Go.RowKit Go.Proofs.YtemnfnbjapobcaaW.PrintWords Go.Proofs.YtemnfnbjapobcaaW.PrintLast Go.Proofs.YtemnfnbjapobcaaW.PrintMore
open Go.Proofs.Ytemnfnbjapobcaa.FS Go.Proofs.Ytemnfnbjapobcaa.HS Go.Proofs.Ytemnfnbjapobcaa.FM
set_option linter.unusedVariables false
set_option linter.unusedSimpArgs false
theorem add_in {a b : Int} (ha : FS.In a) (hb : FS.In b) : fixed_Add.f a b = some (addS a b) := by
  unfold fixed_Add.f; rw [if_pos (by simp [inB_iff.mpr ha, inB_iff.mpr hb])]
theorem dist_in {a b : Int} (ha : FS.In a) (hb : FS.In b) : season_Distance.f a b = some (distS a b) := by
  unfold season_Distance.f; rw [if_pos (by simp [inB_iff.mpr ha, inB_iff.mpr hb])]
def mis (l : List Int) (s : Nat) (m : Int) (i d : Nat) : Int := (List.range' i d).foldl (fun q j => addS q (distS (l.getD j 0) (l.getD (j - s) 0))) m
theorem mis_zero (l : List Int) (s : Nat) (m : Int) (i : Nat) : mis l s m i 0 = m := rfl
theorem mis_succ (l : List Int) (s : Nat) (m : Int) (i d : Nat) : mis l s m i (d + 1) = mis l s (addS m (distS (l.getD i 0) (l.getD (i - s) 0))) (i + 1) d := by
  unfold mis; rw [List.range'_succ, List.foldl_cons]
theorem rd_nat (xs : List Int) (i : Nat) : rd xs (i : Int) = xs.getD i 0 := rfl
theorem dist_ok (a b : Int) : FS.In (distS a b) := by unfold distS; split <;> exact in_sat _
theorem miss_l0 (l : List Int) (hl : l.length ≤ 1000000000) (hin : AllIn l) (s d : Nat) : ∀ (i : Nat) (m : Int), i + d = l.length → s ≤ i → FS.In m → season_Miss.l0 (d + 1) l (s : Int) m (i : Int) = some (mis l s m i d, 0) := by
  induction d with
  | zero =>
    intro i m hi hs hm
    simp only [season_Miss.l0]
    rw [if_neg (by omega), mis_zero]
  | succ d ih =>
    intro i m hi hs hm
    have e : wrap64 ((i : Int) + 1) = ((i + 1 : Nat) : Int) := by rw [wrap64_id (by omega) (by omega)]; omega
    have e1 : wrap64 ((i : Int) - s) = ((i - s : Nat) : Int) := by rw [wrap64_id (by omega) (by omega)]; omega
    have a1 := allIn_getD hin i
    have a2 := allIn_getD hin (i - s)
    rw [season_Miss.l0, if_pos (by omega)]
    simp only [season_Miss_1.f]
    rw [if_pos (by omega), if_pos (by omega), e1, if_pos (by omega), if_pos (by omega), rd_nat, rd_nat, dist_in a1 a2, Option.bind_some, add_in hm (dist_ok _ _), Option.bind_some, e, mis_succ]
    exact ih (i + 1) _ (by omega) (by omega) (in_addS _ _)
theorem counted_eq (n : Int) : season_counted.f n = some (decide (1 ≤ n) && decide (n ≤ 10000)) := by
  unfold season_counted.f
  by_cases h : n ≥ 1
  · rw [if_pos h, decide_eq_true h]; rfl
  · rw [if_neg h, decide_eq_false h]; rfl
theorem miss_eq (l : List Int) (hl : l.length ≤ 1000000000) (hin : AllIn l) (s last : Int) (hs : FS.In s) (hla : FS.In last) : ∃ k, season_Miss.f k l s last = some (nmissS l s last) := by
  obtain ⟨b0, b1⟩ := hla
  by_cases c : s < 1 ∨ s > 10000 ∨ (l.length : Int) < s ∨ last < 1 ∨ s > (l.length : Int) - last
  · refine ⟨1, ?_⟩
    unfold nmissS
    rw [if_pos c]
    unfold season_Miss.f
    rw [counted_eq]
    simp only [Option.bind_some]
    by_cases h1 : 1 ≤ s ∧ s ≤ 10000
    · rw [if_pos (by simp [h1])]
      by_cases h3 : (l.length : Int) < s
      · rw [if_pos h3]
      · rw [if_neg h3]
        by_cases h4 : last < 1
        · rw [if_pos h4]
        · rw [if_neg h4, if_pos (by rw [wrap64_id (by omega) (by omega)]; omega)]
    · rw [if_neg (by simp; omega)]
  · obtain ⟨S, rfl⟩ := Int.eq_ofNat_of_zero_le (show 0 ≤ s by omega)
    obtain ⟨L, rfl⟩ := Int.eq_ofNat_of_zero_le (show 0 ≤ last by omega)
    refine ⟨L + 1, ?_⟩
    have e : wrap64 ((l.length : Int) - (L : Int)) = ((l.length - L : Nat) : Int) := by rw [wrap64_id (by omega) (by omega)]; omega
    unfold nmissS
    rw [if_neg c]
    unfold season_Miss.f
    rw [counted_eq]
    simp only [Option.bind_some]
    rw [if_pos (by simp; omega), if_neg (by omega), if_neg (by omega), e, if_neg (by omega), miss_l0 l hl hin S L (l.length - L) 0 (by omega) (by omega) ⟨by decide, by decide⟩]
    rfl
theorem place {n s a : Nat} (h1 : 1 ≤ s) (h2 : s ≤ n) (h3 : 1 ≤ a) (hn : n ≤ 1000000000) (ha : a ≤ 10000) : wrap64 (wrap64 ((n : Int) - (s : Int)) + Int.tmod (wrap64 ((a : Int) - 1)) (s : Int)) = ((n - s + (a - 1) % s : Nat) : Int) ∧ n - s + (a - 1) % s < n := by
  have hm : (a - 1) % s < s := Nat.mod_lt _ (by omega)
  have e1 : wrap64 ((a : Int) - 1) = ((a - 1 : Nat) : Int) := by rw [wrap64_id (by omega) (by omega)]; omega
  have e2 : Int.tmod ((a - 1 : Nat) : Int) (s : Int) = (((a - 1) % s : Nat) : Int) := rfl
  have e3 : wrap64 ((n : Int) - (s : Int)) = ((n - s : Nat) : Int) := by rw [wrap64_id (by omega) (by omega)]; omega
  refine ⟨?_, by omega⟩
  rw [e1, e2, e3, wrap64_id (by omega) (by omega)]
  omega
theorem cast_eq (l : List Int) (hl : l.length ≤ 1000000000) (s ahead : Int) (hs : FS.In s) (ha : FS.In ahead) : season_Cast.f l s ahead = some (naiveS l s ahead) := by
  unfold season_Cast.f naiveS
  rw [counted_eq, counted_eq]
  simp only [Option.bind_some]
  by_cases h1 : 1 ≤ s ∧ s ≤ 10000
  · rw [if_pos (by simp [h1])]
    by_cases h2 : 1 ≤ ahead ∧ ahead ≤ 10000
    · rw [if_pos (by simp [h2])]
      by_cases h3 : (l.length : Int) < s
      · rw [if_pos h3, if_pos (by omega)]
      · obtain ⟨S, rfl⟩ := Int.eq_ofNat_of_zero_le (show 0 ≤ s by omega)
        obtain ⟨L, rfl⟩ := Int.eq_ofNat_of_zero_le (show 0 ≤ ahead by omega)
        obtain ⟨p1, p2⟩ := place (n := l.length) (s := S) (a := L) (by omega) (by omega) (by omega) hl (by omega)
        rw [if_neg h3, if_neg (by omega), p1, if_pos (by omega), if_pos (by omega), if_neg (by omega)]
        rfl
    · rw [if_neg (by simp; omega), if_pos (by omega)]
  · rw [if_neg (by simp; omega), if_pos (by omega)]
theorem seasonMiss : Ho.SeasonMiss := fun W A c l s last h hc hin hs hla hll => by
  obtain ⟨k, e⟩ := miss_eq l hll hin s last hs hla
  exact season_Miss.calls k A c l s last _ _ W h hc e
theorem seasonCast : Ho.SeasonCast := fun W A c l s ahead h hc hin hs ha hll => by
  refine (season_Cast.calls A c l s ahead _ _ W h hc (cast_eq l hll s ahead hs ha)).mono ?_
  rintro e w' ⟨rfl, hd⟩
  obtain ⟨m, rfl⟩ := hd.out
  exact ⟨rfl, pw_below_drewN (Below.refl _ _) _⟩
end Go.Proofs.Ytemnfnbjapobcaa.Cm
end
section
namespace Go.Proofs.Ytemnfnbjapobcaa.Ho
open Go.RowKit Go.Proofs.YtemnfnbjapobcaaW.PrintWords Go.Proofs.YtemnfnbjapobcaaW.PrintLast Go.Proofs.YtemnfnbjapobcaaW.PrintMore
open Go.Proofs.Ytemnfnbjapobcaa.FS Go.Proofs.Ytemnfnbjapobcaa.HS Go.Proofs.Ytemnfnbjapobcaa.FM
set_option linter.unusedVariables false
set_option linter.unusedSimpArgs false
theorem castBy_in {l : List Int} (hin : AllIn l) (s : Int) (o : Option Mo) (ahead : Int) : FS.In (castBy l s o ahead).1 := by
  have z : FS.In 0 := ⟨by decide, by decide⟩
  cases o with
  | none =>
    show FS.In (naiveS l s ahead).1
    unfold naiveS
    split
    · exact z
    · exact allIn_getD hin _
  | some m =>
    show FS.In (castOf (startS l m) ahead).1
    unfold castOf
    split
    · exact z
    · exact in_addS _ _
end Go.Proofs.Ytemnfnbjapobcaa.Ho
end
section
namespace Go.Proofs.Ytemnfnbjapobcaa
open Go.RowKit Go.Proofs.YtemnfnbjapobcaaW.PrintWords
theorem R_iso {α β : Type} {d : Kd α} {f : β → α} {g : α → β} (hfg : ∀ x, f (g x) = x) {e : Nat} {w : World} {base : Nat} {ok : Nat → Prop} {v : Value} {xs : List α} (h : d.R e w base ok v xs) : (Kd.iso d f).R e w base ok v (xs.map g) := by
  obtain ⟨h1, inner, ho, hr⟩ := h
  refine ⟨h1, inner, by rw [List.length_map]; exact ho, by rw [List.length_map]; exact hr.1, fun j p hj => ?_⟩
  rw [List.getElem?_map] at hj
  obtain ⟨y, hy, rfl⟩ := Option.map_eq_some_iff.mp hj
  show d.M w base _ (f (g y)) _
  rw [hfg]
  exact hr.2 j y hy
theorem sMiss : Aside0 Ho.SeasonMiss := ⟨Cm.seasonMiss⟩
theorem sCast : Aside0 Ho.SeasonCast := ⟨Cm.seasonCast⟩
end Go.Proofs.Ytemnfnbjapobcaa
end
section
namespace Go.Proofs.Ytemnfnbjapobcaa.Ch
open Go.RowKit Go.Proofs.YtemnfnbjapobcaaW.PrintWords Go.Proofs.YtemnfnbjapobcaaW.PrintLast Go.Proofs.YtemnfnbjapobcaaW.PrintMore
attribute [local go_sem] max2_int min2_int max_two min_two max_three min_three max_four min_four   -- for this text's walks alone
set_option linter.unusedVariables false
set_option linter.unusedSimpArgs false
def errW : Option Int → Value
  | none => .nilIface
  | some c => .iface 0 (.int .i64 c)
theorem errW_none : errW none = .nilIface := rfl
theorem errW_some (c : Int) : errW (some c) = .iface 0 (.int .i64 c) := rfl
theorem info3 : (Try.prog.info? 3).map (fun i => (i.zero, i.size, i.bytes)) = some (some (.int .i64 0), 1, 8) := by kernel_rfl
theorem info29 : (Try.prog.info? 29).map (fun i => (i.zero, i.size, i.bytes)) = some (some (.agg #[(.int .i64 0), (.int .i64 0), (.int .i64 0), (.int .i64 0)]), 4, 32) := by kernel_rfl
structure S29 where
  f0 : Int
  f1 : Int
  f2 : Int
  f3 : Int
def k29 : Kd S29 := Kd.iso (Kd.pair (Kd.int .i64) (Kd.pair (Kd.int .i64) (Kd.pair (Kd.int .i64) (Kd.int .i64)))) (fun x : S29 => (x.f0, x.f1, x.f2, x.f3))
end Go.Proofs.Ytemnfnbjapobcaa.Ch
end
section
namespace Go.Proofs.Ytemnfnbjapobcaa.Ch
open Go.RowKit Go.Proofs.YtemnfnbjapobcaaW.PrintWords Go.Proofs.YtemnfnbjapobcaaW.PrintLast Go.Proofs.YtemnfnbjapobcaaW.PrintMore
attribute [local go_sem] max2_int min2_int max_two min_two max_three min_three max_four min_four   -- for this text's walks alone
set_option linter.unusedVariables false
set_option linter.unusedSimpArgs false
def choose_Best.f (l0 : List Int) (a1 : Int) : Option (Int × Int × Int) := if okL l0 && HS.InB a1 then some (HS.bestE l0 a1) else none
theorem choose_Best.calls (A0 : Option Addr) (c0 : Nat) (l0 : List Int) (a1 : Int) (r1 : Int) (r2 : Int) (r3 : Int) (w : World) (hr0 : Kd.C (Kd.int .i64) w A0 l0.length l0) (hc0 : l0.length ≤ c0) (h : choose_Best.f l0 a1 = some (r1, r2, r3)) :
    Calls Try.prog 38 #[.slice A0 l0.length c0, .int .i64 a1] w fun e w' => e = .returned (.tuple #[.int .i64 r1, .int .i64 r2, .int .i64 r3]) ∧ Below w.heap.size w w' := by
  unfold choose_Best.f at h
  by_cases c : (okL l0 && HS.InB a1) = true
  · rw [if_pos c] at h
    have e := Option.some.inj h
    obtain ⟨rfl, rfl, rfl⟩ : (HS.bestE l0 a1).1 = r1 ∧ (HS.bestE l0 a1).2.1 = r2 ∧ (HS.bestE l0 a1).2.2 = r3 := by rw [e]; exact ⟨rfl, rfl, rfl⟩
    simp only [Bool.and_eq_true, okL_iff, HS.inB_iff] at c
    exact Ho.choBest_calls sMiss A0 c0 l0 a1 w hr0 hc0 c.1.1 c.2 c.1.2
  · rw [if_neg c] at h; cases h
def lysimeterlaw24_num.f (a0 : Int) : Option (Int) := some a0
set_option maxHeartbeats 8000000 in
set_option maxRecDepth 100000 in
theorem lysimeterlaw24_num.calls (a0 : Int) (r : Int) (w : World) (h : lysimeterlaw24_num.f a0 = some r) :
    Calls Try.prog 40 #[.int .i64 a0] w fun e w' => e = .returned (.int .i64 r) ∧ Drawn0 w w' := by
  have H : (some a0) = some r := h
  clear h
  obtain rfl := Option.some.inj H
  go_enter Try.func40, Try.ntmps40
  go_wp2
  go_ret
  exact ⟨by first | rfl | (simp; done) | (simp [*]; done), by repeat (first | exact Drawn0.refl _ | apply Drawn0.step)⟩
def choose_Models.to (x : HS.Mo) : S29 := ⟨x.n, x.a, x.b, x.c⟩
def choose_Models.f (a0 : Int) : Option (List (S29)) := some ((Ho.modelsS a0).map choose_Models.to)
theorem choose_Models.calls (a0 : Int) (r : List (S29)) (w : World) (h : choose_Models.f a0 = some r) :
    Calls Try.prog 41 #[.int .i64 a0] w fun e w' => ∃ v0_ : Value, e = .returned (v0_) ∧ Kd.R k29 29 w' w.heap.size (fun _ => True) v0_ r ∧ Below w.heap.size w w' := by
  obtain rfl := Option.some.inj h
  refine (Ho.models_calls a0 w).mono ?_
  rintro e w' ⟨v, rfl, hr, hb⟩
  have ek : k29 = Kd.iso Ho.kMo (fun x : S29 => (⟨x.f0, x.f1, x.f2, x.f3⟩ : HS.Mo)) := rfl
  refine ⟨v, rfl, ?_, hb⟩
  rw [ek]
  exact R_iso (fun x => rfl) hr
def choose_Cast.f (l0 : List Int) (a1 : Int) (a2 : Int) : Option (Int × Int) := if okL l0 && HS.InB a1 && HS.InB a2 then some (HS.chosenS l0 a1 a2) else none
theorem choose_Cast.calls (A0 : Option Addr) (c0 : Nat) (l0 : List Int) (a1 : Int) (a2 : Int) (r1 : Int) (r2 : Int) (w : World) (hr0 : Kd.C (Kd.int .i64) w A0 l0.length l0) (hc0 : l0.length ≤ c0) (h : choose_Cast.f l0 a1 a2 = some (r1, r2)) :
    Calls Try.prog 43 #[.slice A0 l0.length c0, .int .i64 a1, .int .i64 a2] w fun e w' => e = .returned (.tuple #[.int .i64 r1, .int .i64 r2]) ∧ Below w.heap.size w w' := by
  unfold choose_Cast.f at h
  by_cases c : (okL l0 && HS.InB a1 && HS.InB a2) = true
  · rw [if_pos c] at h
    have e := Option.some.inj h
    obtain ⟨rfl, rfl⟩ : (HS.chosenS l0 a1 a2).1 = r1 ∧ (HS.chosenS l0 a1 a2).2 = r2 := by rw [e]; exact ⟨rfl, rfl⟩
    simp only [Bool.and_eq_true, okL_iff, HS.inB_iff] at c
    exact Ho.choCast_calls sMiss sCast A0 c0 l0 a1 a2 w hr0 hc0 c.1.1.1 c.1.2 c.2 c.1.1.2
  · rw [if_neg c] at h; cases h
def lysimeterlaw24_alive.f  : Option (Bool) := (choose_Best.f (([1, 2, 1, 2, 1, 2] : List Int)) 2).bind fun bt104 => ((choose_Cast.f (([1, 2, 1, 2, 1, 2] : List Int)) 2 1).bind fun bt110 => ((lysimeterlaw24_num.f bt104.2.2).bind fun t112 => ((lysimeterlaw24_num.f bt110.2).bind fun t113 => (if (wrap64 (t112 + t113)) = 0 then (if bt104.1 = 0 then (if bt104.2.1 = 0 then (if bt110.1 = 1 then ((choose_Models.f 2).bind fun t114 => (some ((t114.length : Int) == 8))) else (some false)) else (some false)) else (some false)) else (some false)))))
set_option maxHeartbeats 8000000 in
set_option maxRecDepth 100000 in
theorem lysimeterlaw24_alive.calls  (r : Bool) (w : World) (h : lysimeterlaw24_alive.f  = some r) :
    Calls Try.prog 37 #[] w fun e w' => e = .returned (.bool r) ∧ Below w.heap.size w w' := by
  have HB := Aside0.mk (Below.refl w.heap.size w)
  have H : ((choose_Best.f (([1, 2, 1, 2, 1, 2] : List Int)) 2).bind fun bt104 => ((choose_Cast.f (([1, 2, 1, 2, 1, 2] : List Int)) 2 1).bind fun bt110 => ((lysimeterlaw24_num.f bt104.2.2).bind fun t112 => ((lysimeterlaw24_num.f bt110.2).bind fun t113 => (if (wrap64 (t112 + t113)) = 0 then (if bt104.1 = 0 then (if bt104.2.1 = 0 then (if bt110.1 = 1 then ((choose_Models.f 2).bind fun t114 => (some ((t114.length : Int) == 8))) else (some false)) else (some false)) else (some false)) else (some false)))))) = some r := h
  clear h
  obtain ⟨y101, hy101⟩ : ∃ y_ : List Int, y_ = (([1, 2, 1, 2, 1, 2] : List Int)) := ⟨_, rfl⟩
  replace H : ((choose_Best.f y101 2).bind fun bt104 => ((choose_Cast.f (([1, 2, 1, 2, 1, 2] : List Int)) 2 1).bind fun bt110 => ((lysimeterlaw24_num.f bt104.2.2).bind fun t112 => ((lysimeterlaw24_num.f bt110.2).bind fun t113 => (if (wrap64 (t112 + t113)) = 0 then (if bt104.1 = 0 then (if bt104.2.1 = 0 then (if bt110.1 = 1 then ((choose_Models.f 2).bind fun t114 => (some ((t114.length : Int) == 8))) else (some false)) else (some false)) else (some false)) else (some false)))))) = some r := by first | (rw [hy101]; with_reducible exact H) | (have H2_ := (Option.bind_some _ _).symm.trans H; rw [hy101]; with_reducible exact H2_) | (have H2_ := (Option.bind_some _ _).symm.trans H; with_reducible exact H2_) | with_reducible exact H | (rw [hy101]; exact H) | exact H
  have Ny101 := Aside0.mk hy101
  clear hy101
  replace H := Option.bind_eq_some_iff.mp H
  obtain ⟨⟨t104, t105, t106⟩, A10, H⟩ := H
  replace H : ((choose_Cast.f (([1, 2, 1, 2, 1, 2] : List Int)) 2 1).bind fun bt110 => ((lysimeterlaw24_num.f t106).bind fun t112 => ((lysimeterlaw24_num.f bt110.2).bind fun t113 => (if (wrap64 (t112 + t113)) = 0 then (if t104 = 0 then (if t105 = 0 then (if bt110.1 = 1 then ((choose_Models.f 2).bind fun t114 => (some ((t114.length : Int) == 8))) else (some false)) else (some false)) else (some false)) else (some false))))) = some r := H
  have A1 := Aside0.mk A10
  clear A10
  obtain ⟨y107, hy107⟩ : ∃ y_ : List Int, y_ = (([1, 2, 1, 2, 1, 2] : List Int)) := ⟨_, rfl⟩
  replace H : ((choose_Cast.f y107 2 1).bind fun bt110 => ((lysimeterlaw24_num.f t106).bind fun t112 => ((lysimeterlaw24_num.f bt110.2).bind fun t113 => (if (wrap64 (t112 + t113)) = 0 then (if t104 = 0 then (if t105 = 0 then (if bt110.1 = 1 then ((choose_Models.f 2).bind fun t114 => (some ((t114.length : Int) == 8))) else (some false)) else (some false)) else (some false)) else (some false))))) = some r := by first | (rw [hy107]; with_reducible exact H) | (have H2_ := (Option.bind_some _ _).symm.trans H; rw [hy107]; with_reducible exact H2_) | (have H2_ := (Option.bind_some _ _).symm.trans H; with_reducible exact H2_) | with_reducible exact H | (rw [hy107]; exact H) | exact H
  have Ny107 := Aside0.mk hy107
  clear hy107
  replace H := Option.bind_eq_some_iff.mp H
  obtain ⟨⟨t110, t111⟩, A20, H⟩ := H
  replace H : ((lysimeterlaw24_num.f t106).bind fun t112 => ((lysimeterlaw24_num.f t111).bind fun t113 => (if (wrap64 (t112 + t113)) = 0 then (if t104 = 0 then (if t105 = 0 then (if t110 = 1 then ((choose_Models.f 2).bind fun t114 => (some ((t114.length : Int) == 8))) else (some false)) else (some false)) else (some false)) else (some false)))) = some r := H
  have A2 := Aside0.mk A20
  clear A20
  replace H := Option.bind_eq_some_iff.mp H
  obtain ⟨t112, A30, H⟩ := H
  replace H : ((lysimeterlaw24_num.f t111).bind fun t113 => (if (wrap64 (t112 + t113)) = 0 then (if t104 = 0 then (if t105 = 0 then (if t110 = 1 then ((choose_Models.f 2).bind fun t114 => (some ((t114.length : Int) == 8))) else (some false)) else (some false)) else (some false)) else (some false))) = some r := H
  have A3 := Aside0.mk A30
  clear A30
  replace H := Option.bind_eq_some_iff.mp H
  obtain ⟨t113, A40, H⟩ := H
  replace H : (if (wrap64 (t112 + t113)) = 0 then (if t104 = 0 then (if t105 = 0 then (if t110 = 1 then ((choose_Models.f 2).bind fun t114 => (some ((t114.length : Int) == 8))) else (some false)) else (some false)) else (some false)) else (some false)) = some r := H
  have A4 := Aside0.mk A40
  clear A40
  by_cases c5 : (wrap64 (t112 + t113)) = 0
  · rw [if_pos c5] at H
    have c5b0 : ((wrap64 (t112 + t113)) == 0) = true := beq_iff_eq.mpr c5
    have c5b1 : ((wrap64 (t112 + t113)) != 0) = false := bne_eq_false_iff_eq.mpr c5
    clear c5
    by_cases c6 : t104 = 0
    · rw [if_pos c6] at H
      have c6b0 : (t104 == 0) = true := beq_iff_eq.mpr c6
      have c6b1 : (t104 != 0) = false := bne_eq_false_iff_eq.mpr c6
      clear c6
      by_cases c7 : t105 = 0
      · rw [if_pos c7] at H
        have c7b0 : (t105 == 0) = true := beq_iff_eq.mpr c7
        have c7b1 : (t105 != 0) = false := bne_eq_false_iff_eq.mpr c7
        clear c7
        by_cases c8 : t110 = 1
        · rw [if_pos c8] at H
          have c8b0 : (t110 == 1) = true := beq_iff_eq.mpr c8
          have c8b1 : (t110 != 1) = false := bne_eq_false_iff_eq.mpr c8
          clear c8
          replace H := Option.bind_eq_some_iff.mp H
          obtain ⟨t114, A90, H⟩ := H
          replace H : (some ((t114.length : Int) == 8)) = some r := H
          have A9 := Aside0.mk A90
          clear A90
          obtain rfl := Option.some.inj H
          go_enter Try.func37, Try.ntmps37
          go_wp2_with (first | ((with_reducible refine gate_dst (N := 7) rfl ?_); (try (refine gate_guard (by rfl) ?_; dsimp only)); refine Kd.R_lit (Kd.int .i64) _ 3 ?hg (N := 7) ?hd (xs := ([1, 2, 1, 2, 1, 2] : List Int)) (inner := [.int .i64 1, .int .i64 2, .int .i64 1, .int .i64 2, .int .i64 1, .int .i64 2]) (ok := fun _ => True) (okp := fun _ => True) ?hr ?hp (fun _ hk => hk) trivial (Below.refl _ _) (Nat.le_refl _) (by simp) ?_; (case hd => rfl); (case hg => rfl); (case hr => first | (go_simp; done) | (go_simp; rfl)); (case hp => exact (Reps.one (show Kd.M (Kd.int .i64) _ _ _ 1 [.int .i64 1] from rfl) (Reps.one (show Kd.M (Kd.int .i64) _ _ _ 2 [.int .i64 2] from rfl) (Reps.one (show Kd.M (Kd.int .i64) _ _ _ 1 [.int .i64 1] from rfl) (Reps.one (show Kd.M (Kd.int .i64) _ _ _ 2 [.int .i64 2] from rfl) (Reps.one (show Kd.M (Kd.int .i64) _ _ _ 1 [.int .i64 1] from rfl) (Reps.one (show Kd.M (Kd.int .i64) _ _ _ 2 [.int .i64 2] from rfl) (Reps.none _ _)))))))); intro v102 w10 ho11 hb hg_ hnew_; clear hg_ hnew_; (first | rw [← Ny101.out] at ho11 | (simp only [Int.reduceToNat] at ho11; rw [← Ny101.out] at ho11)); have n0_ := Aside0.mk (Kd.R_lower ho11 (below_size (by repeat (first | (with_reducible first | exact HB.out | apply below_alloc | apply pw_below_drewN | apply below_drew1) | exact HB.out)))); have n1_ := Aside0.mk (below_step (by repeat (first | (with_reducible first | exact HB.out | apply below_alloc | apply pw_below_drewN | apply below_drew1) | exact HB.out)) hb); clear HB; have HO103 := n0_; have HB := n1_; clear n0_ n1_; clear hb ho11; obtain ⟨Ao12, co12, eo12⟩ := Kd.R_slice HO103.out; subst eo12) | ((with_reducible refine gate_callee (f := 38) rfl ?_); refine goesL_ (some 8) rfl rfl Try.func38 (by kernel_rfl) rfl #[.slice Ao12 y101.length co12, .int .i64 2] rfl (by (try simp only [List.map_toArray, List.map_cons, List.map_nil]); first | done | rfl | (simp only [List.length_drop, List.length_take]; rfl)) ?_; (with_reducible refine (choose_Best.calls _ _ y101 2 t104 t105 t106 _ ?side1 ?side2 A1.out).mono ?_); (case side1 => repeat (first | exact (Kd.R_reads' HO103.out).2.2 | (with_reducible refine Kd.C_alloc ?_ _) | (with_reducible refine Kd.C_drewN ?_ _) | (with_reducible refine Kd.C_drew ?_))); (case side2 => exact (Kd.R_reads' HO103.out).2.1); rintro e w13 ⟨rfl, hb⟩; refine ⟨_, rfl, ?_⟩; have n0_ := Aside0.mk (Kd.R_below (by (with_reducible repeat (first | apply Kd.R_alloc | apply Kd.R_drewN | apply Kd.R_drew)); exact HO103.out) hb); have n1_ := Aside0.mk (below_step (by repeat (first | (with_reducible first | exact HB.out | apply below_alloc | apply pw_below_drewN | apply below_drew1) | exact HB.out)) hb); clear HO103; clear HB; have HO103 := n0_; have HB := n1_; clear n0_ n1_; (try clear hb); (try clear hb2); (try clear hk); (try clear hi)) | ((with_reducible refine gate_dst (N := 13) rfl ?_); (try (refine gate_guard (by rfl) ?_; dsimp only)); refine Kd.R_lit (Kd.int .i64) _ 3 ?hg (N := 13) ?hd (xs := ([1, 2, 1, 2, 1, 2] : List Int)) (inner := [.int .i64 1, .int .i64 2, .int .i64 1, .int .i64 2, .int .i64 1, .int .i64 2]) (ok := fun _ => True) (okp := fun _ => True) ?hr ?hp (fun _ hk => hk) trivial (Below.refl _ _) (Nat.le_refl _) (by simp) ?_; (case hd => rfl); (case hg => rfl); (case hr => first | (go_simp; done) | (go_simp; rfl)); (case hp => exact (Reps.one (show Kd.M (Kd.int .i64) _ _ _ 1 [.int .i64 1] from rfl) (Reps.one (show Kd.M (Kd.int .i64) _ _ _ 2 [.int .i64 2] from rfl) (Reps.one (show Kd.M (Kd.int .i64) _ _ _ 1 [.int .i64 1] from rfl) (Reps.one (show Kd.M (Kd.int .i64) _ _ _ 2 [.int .i64 2] from rfl) (Reps.one (show Kd.M (Kd.int .i64) _ _ _ 1 [.int .i64 1] from rfl) (Reps.one (show Kd.M (Kd.int .i64) _ _ _ 2 [.int .i64 2] from rfl) (Reps.none _ _)))))))); intro v108 w14 ho15 hb hg_ hnew_; clear hg_ hnew_; (first | rw [← Ny107.out] at ho15 | (simp only [Int.reduceToNat] at ho15; rw [← Ny107.out] at ho15)); have n0_ := Aside0.mk (Kd.R_elder' (by (with_reducible repeat (first | apply Kd.R_alloc | apply Kd.R_drewN | apply Kd.R_drew)); exact HO103.out) (Kd.R_base ho15) hb); have n1_ := Aside0.mk (Kd.R_lower (Kd.R_new' ho15 (Kd.R_lt (by (with_reducible repeat (first | apply Kd.R_alloc | apply Kd.R_drewN | apply Kd.R_drew)); exact HO103.out))) (below_size (by repeat (first | (with_reducible first | exact HB.out | apply below_alloc | apply pw_below_drewN | apply below_drew1) | exact HB.out)))); have n2_ := Aside0.mk (below_step (by repeat (first | (with_reducible first | exact HB.out | apply below_alloc | apply pw_below_drewN | apply below_drew1) | exact HB.out)) hb); clear HO103; clear HB; have HO103 := n0_; have HO109 := n1_; have HB := n2_; clear n0_ n1_ n2_; clear hb ho15; obtain ⟨Ao16, co16, eo16⟩ := Kd.R_slice HO109.out; subst eo16) | ((with_reducible refine gate_callee (f := 43) rfl ?_); refine goesL_ (some 14) rfl rfl Try.func43 (by kernel_rfl) rfl #[.slice Ao16 y107.length co16, .int .i64 2, .int .i64 1] rfl (by (try simp only [List.map_toArray, List.map_cons, List.map_nil]); first | done | rfl | (simp only [List.length_drop, List.length_take]; rfl)) ?_; (with_reducible refine (choose_Cast.calls _ _ y107 2 1 t110 t111 _ ?side1 ?side2 A2.out).mono ?_); (case side1 => repeat (first | exact (Kd.R_reads' HO109.out).2.2 | (with_reducible refine Kd.C_alloc ?_ _) | (with_reducible refine Kd.C_drewN ?_ _) | (with_reducible refine Kd.C_drew ?_))); (case side2 => exact (Kd.R_reads' HO109.out).2.1); rintro e w17 ⟨rfl, hb⟩; refine ⟨_, rfl, ?_⟩; have n0_ := Aside0.mk (Kd.R_below (by (with_reducible repeat (first | apply Kd.R_alloc | apply Kd.R_drewN | apply Kd.R_drew)); exact HO103.out) hb); have n1_ := Aside0.mk (Kd.R_below (by (with_reducible repeat (first | apply Kd.R_alloc | apply Kd.R_drewN | apply Kd.R_drew)); exact HO109.out) hb); have n2_ := Aside0.mk (below_step (by repeat (first | (with_reducible first | exact HB.out | apply below_alloc | apply pw_below_drewN | apply below_drew1) | exact HB.out)) hb); clear HO103; clear HO109; clear HB; have HO103 := n0_; have HO109 := n1_; have HB := n2_; clear n0_ n1_ n2_; (try clear hb); (try clear hb2); (try clear hk); (try clear hi)) | ((with_reducible refine gate_callee (f := 40) rfl ?_); refine goesL_ (some 18) rfl rfl Try.func40 (by kernel_rfl) rfl #[.int .i64 t106] rfl (by (try simp only [List.map_toArray, List.map_cons, List.map_nil]); first | done | rfl | (simp only [List.length_drop, List.length_take]; rfl)) ?_; (with_reducible refine (lysimeterlaw24_num.calls t106 t112 _ A3.out).mono ?_); rintro e w' ⟨rfl, ⟨nd, rfl⟩⟩; refine ⟨_, rfl, ?_⟩) | ((with_reducible refine gate_callee (f := 40) rfl ?_); refine goesL_ (some 20) rfl rfl Try.func40 (by kernel_rfl) rfl #[.int .i64 t111] rfl (by (try simp only [List.map_toArray, List.map_cons, List.map_nil]); first | done | rfl | (simp only [List.length_drop, List.length_take]; rfl)) ?_; (with_reducible refine (lysimeterlaw24_num.calls t111 t113 _ A4.out).mono ?_); rintro e w' ⟨rfl, ⟨nd, rfl⟩⟩; refine ⟨_, rfl, ?_⟩) | (go_at_call 41; (with_reducible refine (choose_Models.calls 2 t114 _ A9.out).mono ?_); rintro e w18 ⟨v115, rfl, ho0, hb⟩; have n0_ := Aside0.mk (Kd.R_below (by (with_reducible repeat (first | apply Kd.R_alloc | apply Kd.R_drewN | apply Kd.R_drew)); exact HO103.out) hb); have n1_ := Aside0.mk (Kd.R_below (by (with_reducible repeat (first | apply Kd.R_alloc | apply Kd.R_drewN | apply Kd.R_drew)); exact HO109.out) hb); have n2_ := Aside0.mk (Kd.R_lower ho0 (below_size (by repeat (first | (with_reducible first | exact HB.out | apply below_alloc | apply pw_below_drewN | apply below_drew1) | exact HB.out)))); have n3_ := Aside0.mk (below_step (by repeat (first | (with_reducible first | exact HB.out | apply below_alloc | apply pw_below_drewN | apply below_drew1) | exact HB.out)) hb); clear HO103; clear HO109; clear HB; have HO103 := n0_; have HO109 := n1_; have HO116 := n2_; have HB := n3_; clear n0_ n1_ n2_ n3_; (try clear hb); (try clear hb2); (try clear hk); (try clear hi); (try clear ho0); obtain ⟨Ao19, co19, eo19⟩ := Kd.R_slice HO116.out; subst eo19))
          go_ret
          exact ⟨by first | rfl | (simp [errW_none, errW_some] <;> rfl) | (simp [*, errW_none, errW_some] <;> rfl), by repeat (first | (with_reducible first | exact HB.out | apply below_alloc | apply pw_below_drewN | apply below_drew1) | exact HB.out)⟩
        · rw [if_neg c8] at H
          have c8b0 : (t110 == 1) = false := beq_eq_false_iff_ne.mpr c8
          have c8b1 : (t110 != 1) = true := bne_iff_ne.mpr c8
          obtain rfl := Option.some.inj H
          go_enter Try.func37, Try.ntmps37
          go_wp2_with (first | ((with_reducible refine gate_dst (N := 7) rfl ?_); (try (refine gate_guard (by rfl) ?_; dsimp only)); refine Kd.R_lit (Kd.int .i64) _ 3 ?hg (N := 7) ?hd (xs := ([1, 2, 1, 2, 1, 2] : List Int)) (inner := [.int .i64 1, .int .i64 2, .int .i64 1, .int .i64 2, .int .i64 1, .int .i64 2]) (ok := fun _ => True) (okp := fun _ => True) ?hr ?hp (fun _ hk => hk) trivial (Below.refl _ _) (Nat.le_refl _) (by simp) ?_; (case hd => rfl); (case hg => rfl); (case hr => first | (go_simp; done) | (go_simp; rfl)); (case hp => exact (Reps.one (show Kd.M (Kd.int .i64) _ _ _ 1 [.int .i64 1] from rfl) (Reps.one (show Kd.M (Kd.int .i64) _ _ _ 2 [.int .i64 2] from rfl) (Reps.one (show Kd.M (Kd.int .i64) _ _ _ 1 [.int .i64 1] from rfl) (Reps.one (show Kd.M (Kd.int .i64) _ _ _ 2 [.int .i64 2] from rfl) (Reps.one (show Kd.M (Kd.int .i64) _ _ _ 1 [.int .i64 1] from rfl) (Reps.one (show Kd.M (Kd.int .i64) _ _ _ 2 [.int .i64 2] from rfl) (Reps.none _ _)))))))); intro v102 w20 ho21 hb hg_ hnew_; clear hg_ hnew_; (first | rw [← Ny101.out] at ho21 | (simp only [Int.reduceToNat] at ho21; rw [← Ny101.out] at ho21)); have n0_ := Aside0.mk (Kd.R_lower ho21 (below_size (by repeat (first | (with_reducible first | exact HB.out | apply below_alloc | apply pw_below_drewN | apply below_drew1) | exact HB.out)))); have n1_ := Aside0.mk (below_step (by repeat (first | (with_reducible first | exact HB.out | apply below_alloc | apply pw_below_drewN | apply below_drew1) | exact HB.out)) hb); clear HB; have HO103 := n0_; have HB := n1_; clear n0_ n1_; clear hb ho21; obtain ⟨Ao22, co22, eo22⟩ := Kd.R_slice HO103.out; subst eo22) | ((with_reducible refine gate_callee (f := 38) rfl ?_); refine goesL_ (some 8) rfl rfl Try.func38 (by kernel_rfl) rfl #[.slice Ao22 y101.length co22, .int .i64 2] rfl (by (try simp only [List.map_toArray, List.map_cons, List.map_nil]); first | done | rfl | (simp only [List.length_drop, List.length_take]; rfl)) ?_; (with_reducible refine (choose_Best.calls _ _ y101 2 t104 t105 t106 _ ?side1 ?side2 A1.out).mono ?_); (case side1 => repeat (first | exact (Kd.R_reads' HO103.out).2.2 | (with_reducible refine Kd.C_alloc ?_ _) | (with_reducible refine Kd.C_drewN ?_ _) | (with_reducible refine Kd.C_drew ?_))); (case side2 => exact (Kd.R_reads' HO103.out).2.1); rintro e w23 ⟨rfl, hb⟩; refine ⟨_, rfl, ?_⟩; have n0_ := Aside0.mk (Kd.R_below (by (with_reducible repeat (first | apply Kd.R_alloc | apply Kd.R_drewN | apply Kd.R_drew)); exact HO103.out) hb); have n1_ := Aside0.mk (below_step (by repeat (first | (with_reducible first | exact HB.out | apply below_alloc | apply pw_below_drewN | apply below_drew1) | exact HB.out)) hb); clear HO103; clear HB; have HO103 := n0_; have HB := n1_; clear n0_ n1_; (try clear hb); (try clear hb2); (try clear hk); (try clear hi)) | ((with_reducible refine gate_dst (N := 13) rfl ?_); (try (refine gate_guard (by rfl) ?_; dsimp only)); refine Kd.R_lit (Kd.int .i64) _ 3 ?hg (N := 13) ?hd (xs := ([1, 2, 1, 2, 1, 2] : List Int)) (inner := [.int .i64 1, .int .i64 2, .int .i64 1, .int .i64 2, .int .i64 1, .int .i64 2]) (ok := fun _ => True) (okp := fun _ => True) ?hr ?hp (fun _ hk => hk) trivial (Below.refl _ _) (Nat.le_refl _) (by simp) ?_; (case hd => rfl); (case hg => rfl); (case hr => first | (go_simp; done) | (go_simp; rfl)); (case hp => exact (Reps.one (show Kd.M (Kd.int .i64) _ _ _ 1 [.int .i64 1] from rfl) (Reps.one (show Kd.M (Kd.int .i64) _ _ _ 2 [.int .i64 2] from rfl) (Reps.one (show Kd.M (Kd.int .i64) _ _ _ 1 [.int .i64 1] from rfl) (Reps.one (show Kd.M (Kd.int .i64) _ _ _ 2 [.int .i64 2] from rfl) (Reps.one (show Kd.M (Kd.int .i64) _ _ _ 1 [.int .i64 1] from rfl) (Reps.one (show Kd.M (Kd.int .i64) _ _ _ 2 [.int .i64 2] from rfl) (Reps.none _ _)))))))); intro v108 w24 ho25 hb hg_ hnew_; clear hg_ hnew_; (first | rw [← Ny107.out] at ho25 | (simp only [Int.reduceToNat] at ho25; rw [← Ny107.out] at ho25)); have n0_ := Aside0.mk (Kd.R_elder' (by (with_reducible repeat (first | apply Kd.R_alloc | apply Kd.R_drewN | apply Kd.R_drew)); exact HO103.out) (Kd.R_base ho25) hb); have n1_ := Aside0.mk (Kd.R_lower (Kd.R_new' ho25 (Kd.R_lt (by (with_reducible repeat (first | apply Kd.R_alloc | apply Kd.R_drewN | apply Kd.R_drew)); exact HO103.out))) (below_size (by repeat (first | (with_reducible first | exact HB.out | apply below_alloc | apply pw_below_drewN | apply below_drew1) | exact HB.out)))); have n2_ := Aside0.mk (below_step (by repeat (first | (with_reducible first | exact HB.out | apply below_alloc | apply pw_below_drewN | apply below_drew1) | exact HB.out)) hb); clear HO103; clear HB; have HO103 := n0_; have HO109 := n1_; have HB := n2_; clear n0_ n1_ n2_; clear hb ho25; obtain ⟨Ao26, co26, eo26⟩ := Kd.R_slice HO109.out; subst eo26) | ((with_reducible refine gate_callee (f := 43) rfl ?_); refine goesL_ (some 14) rfl rfl Try.func43 (by kernel_rfl) rfl #[.slice Ao26 y107.length co26, .int .i64 2, .int .i64 1] rfl (by (try simp only [List.map_toArray, List.map_cons, List.map_nil]); first | done | rfl | (simp only [List.length_drop, List.length_take]; rfl)) ?_; (with_reducible refine (choose_Cast.calls _ _ y107 2 1 t110 t111 _ ?side1 ?side2 A2.out).mono ?_); (case side1 => repeat (first | exact (Kd.R_reads' HO109.out).2.2 | (with_reducible refine Kd.C_alloc ?_ _) | (with_reducible refine Kd.C_drewN ?_ _) | (with_reducible refine Kd.C_drew ?_))); (case side2 => exact (Kd.R_reads' HO109.out).2.1); rintro e w27 ⟨rfl, hb⟩; refine ⟨_, rfl, ?_⟩; have n0_ := Aside0.mk (Kd.R_below (by (with_reducible repeat (first | apply Kd.R_alloc | apply Kd.R_drewN | apply Kd.R_drew)); exact HO103.out) hb); have n1_ := Aside0.mk (Kd.R_below (by (with_reducible repeat (first | apply Kd.R_alloc | apply Kd.R_drewN | apply Kd.R_drew)); exact HO109.out) hb); have n2_ := Aside0.mk (below_step (by repeat (first | (with_reducible first | exact HB.out | apply below_alloc | apply pw_below_drewN | apply below_drew1) | exact HB.out)) hb); clear HO103; clear HO109; clear HB; have HO103 := n0_; have HO109 := n1_; have HB := n2_; clear n0_ n1_ n2_; (try clear hb); (try clear hb2); (try clear hk); (try clear hi)) | ((with_reducible refine gate_callee (f := 40) rfl ?_); refine goesL_ (some 18) rfl rfl Try.func40 (by kernel_rfl) rfl #[.int .i64 t106] rfl (by (try simp only [List.map_toArray, List.map_cons, List.map_nil]); first | done | rfl | (simp only [List.length_drop, List.length_take]; rfl)) ?_; (with_reducible refine (lysimeterlaw24_num.calls t106 t112 _ A3.out).mono ?_); rintro e w' ⟨rfl, ⟨nd, rfl⟩⟩; refine ⟨_, rfl, ?_⟩) | ((with_reducible refine gate_callee (f := 40) rfl ?_); refine goesL_ (some 20) rfl rfl Try.func40 (by kernel_rfl) rfl #[.int .i64 t111] rfl (by (try simp only [List.map_toArray, List.map_cons, List.map_nil]); first | done | rfl | (simp only [List.length_drop, List.length_take]; rfl)) ?_; (with_reducible refine (lysimeterlaw24_num.calls t111 t113 _ A4.out).mono ?_); rintro e w' ⟨rfl, ⟨nd, rfl⟩⟩; refine ⟨_, rfl, ?_⟩))
          go_ret
          exact ⟨by first | rfl | (simp [errW_none, errW_some] <;> rfl) | (simp [*, errW_none, errW_some] <;> rfl), by repeat (first | (with_reducible first | exact HB.out | apply below_alloc | apply pw_below_drewN | apply below_drew1) | exact HB.out)⟩
      · rw [if_neg c7] at H
        have c7b0 : (t105 == 0) = false := beq_eq_false_iff_ne.mpr c7
        have c7b1 : (t105 != 0) = true := bne_iff_ne.mpr c7
        obtain rfl := Option.some.inj H
        go_enter Try.func37, Try.ntmps37
        go_wp2_with (first | ((with_reducible refine gate_dst (N := 7) rfl ?_); (try (refine gate_guard (by rfl) ?_; dsimp only)); refine Kd.R_lit (Kd.int .i64) _ 3 ?hg (N := 7) ?hd (xs := ([1, 2, 1, 2, 1, 2] : List Int)) (inner := [.int .i64 1, .int .i64 2, .int .i64 1, .int .i64 2, .int .i64 1, .int .i64 2]) (ok := fun _ => True) (okp := fun _ => True) ?hr ?hp (fun _ hk => hk) trivial (Below.refl _ _) (Nat.le_refl _) (by simp) ?_; (case hd => rfl); (case hg => rfl); (case hr => first | (go_simp; done) | (go_simp; rfl)); (case hp => exact (Reps.one (show Kd.M (Kd.int .i64) _ _ _ 1 [.int .i64 1] from rfl) (Reps.one (show Kd.M (Kd.int .i64) _ _ _ 2 [.int .i64 2] from rfl) (Reps.one (show Kd.M (Kd.int .i64) _ _ _ 1 [.int .i64 1] from rfl) (Reps.one (show Kd.M (Kd.int .i64) _ _ _ 2 [.int .i64 2] from rfl) (Reps.one (show Kd.M (Kd.int .i64) _ _ _ 1 [.int .i64 1] from rfl) (Reps.one (show Kd.M (Kd.int .i64) _ _ _ 2 [.int .i64 2] from rfl) (Reps.none _ _)))))))); intro v102 w28 ho29 hb hg_ hnew_; clear hg_ hnew_; (first | rw [← Ny101.out] at ho29 | (simp only [Int.reduceToNat] at ho29; rw [← Ny101.out] at ho29)); have n0_ := Aside0.mk (Kd.R_lower ho29 (below_size (by repeat (first | (with_reducible first | exact HB.out | apply below_alloc | apply pw_below_drewN | apply below_drew1) | exact HB.out)))); have n1_ := Aside0.mk (below_step (by repeat (first | (with_reducible first | exact HB.out | apply below_alloc | apply pw_below_drewN | apply below_drew1) | exact HB.out)) hb); clear HB; have HO103 := n0_; have HB := n1_; clear n0_ n1_; clear hb ho29; obtain ⟨Ao30, co30, eo30⟩ := Kd.R_slice HO103.out; subst eo30) | ((with_reducible refine gate_callee (f := 38) rfl ?_); refine goesL_ (some 8) rfl rfl Try.func38 (by kernel_rfl) rfl #[.slice Ao30 y101.length co30, .int .i64 2] rfl (by (try simp only [List.map_toArray, List.map_cons, List.map_nil]); first | done | rfl | (simp only [List.length_drop, List.length_take]; rfl)) ?_; (with_reducible refine (choose_Best.calls _ _ y101 2 t104 t105 t106 _ ?side1 ?side2 A1.out).mono ?_); (case side1 => repeat (first | exact (Kd.R_reads' HO103.out).2.2 | (with_reducible refine Kd.C_alloc ?_ _) | (with_reducible refine Kd.C_drewN ?_ _) | (with_reducible refine Kd.C_drew ?_))); (case side2 => exact (Kd.R_reads' HO103.out).2.1); rintro e w31 ⟨rfl, hb⟩; refine ⟨_, rfl, ?_⟩; have n0_ := Aside0.mk (Kd.R_below (by (with_reducible repeat (first | apply Kd.R_alloc | apply Kd.R_drewN | apply Kd.R_drew)); exact HO103.out) hb); have n1_ := Aside0.mk (below_step (by repeat (first | (with_reducible first | exact HB.out | apply below_alloc | apply pw_below_drewN | apply below_drew1) | exact HB.out)) hb); clear HO103; clear HB; have HO103 := n0_; have HB := n1_; clear n0_ n1_; (try clear hb); (try clear hb2); (try clear hk); (try clear hi)) | ((with_reducible refine gate_dst (N := 13) rfl ?_); (try (refine gate_guard (by rfl) ?_; dsimp only)); refine Kd.R_lit (Kd.int .i64) _ 3 ?hg (N := 13) ?hd (xs := ([1, 2, 1, 2, 1, 2] : List Int)) (inner := [.int .i64 1, .int .i64 2, .int .i64 1, .int .i64 2, .int .i64 1, .int .i64 2]) (ok := fun _ => True) (okp := fun _ => True) ?hr ?hp (fun _ hk => hk) trivial (Below.refl _ _) (Nat.le_refl _) (by simp) ?_; (case hd => rfl); (case hg => rfl); (case hr => first | (go_simp; done) | (go_simp; rfl)); (case hp => exact (Reps.one (show Kd.M (Kd.int .i64) _ _ _ 1 [.int .i64 1] from rfl) (Reps.one (show Kd.M (Kd.int .i64) _ _ _ 2 [.int .i64 2] from rfl) (Reps.one (show Kd.M (Kd.int .i64) _ _ _ 1 [.int .i64 1] from rfl) (Reps.one (show Kd.M (Kd.int .i64) _ _ _ 2 [.int .i64 2] from rfl) (Reps.one (show Kd.M (Kd.int .i64) _ _ _ 1 [.int .i64 1] from rfl) (Reps.one (show Kd.M (Kd.int .i64) _ _ _ 2 [.int .i64 2] from rfl) (Reps.none _ _)))))))); intro v108 w32 ho33 hb hg_ hnew_; clear hg_ hnew_; (first | rw [← Ny107.out] at ho33 | (simp only [Int.reduceToNat] at ho33; rw [← Ny107.out] at ho33)); have n0_ := Aside0.mk (Kd.R_elder' (by (with_reducible repeat (first | apply Kd.R_alloc | apply Kd.R_drewN | apply Kd.R_drew)); exact HO103.out) (Kd.R_base ho33) hb); have n1_ := Aside0.mk (Kd.R_lower (Kd.R_new' ho33 (Kd.R_lt (by (with_reducible repeat (first | apply Kd.R_alloc | apply Kd.R_drewN | apply Kd.R_drew)); exact HO103.out))) (below_size (by repeat (first | (with_reducible first | exact HB.out | apply below_alloc | apply pw_below_drewN | apply below_drew1) | exact HB.out)))); have n2_ := Aside0.mk (below_step (by repeat (first | (with_reducible first | exact HB.out | apply below_alloc | apply pw_below_drewN | apply below_drew1) | exact HB.out)) hb); clear HO103; clear HB; have HO103 := n0_; have HO109 := n1_; have HB := n2_; clear n0_ n1_ n2_; clear hb ho33; obtain ⟨Ao34, co34, eo34⟩ := Kd.R_slice HO109.out; subst eo34) | ((with_reducible refine gate_callee (f := 43) rfl ?_); refine goesL_ (some 14) rfl rfl Try.func43 (by kernel_rfl) rfl #[.slice Ao34 y107.length co34, .int .i64 2, .int .i64 1] rfl (by (try simp only [List.map_toArray, List.map_cons, List.map_nil]); first | done | rfl | (simp only [List.length_drop, List.length_take]; rfl)) ?_; (with_reducible refine (choose_Cast.calls _ _ y107 2 1 t110 t111 _ ?side1 ?side2 A2.out).mono ?_); (case side1 => repeat (first | exact (Kd.R_reads' HO109.out).2.2 | (with_reducible refine Kd.C_alloc ?_ _) | (with_reducible refine Kd.C_drewN ?_ _) | (with_reducible refine Kd.C_drew ?_))); (case side2 => exact (Kd.R_reads' HO109.out).2.1); rintro e w35 ⟨rfl, hb⟩; refine ⟨_, rfl, ?_⟩; have n0_ := Aside0.mk (Kd.R_below (by (with_reducible repeat (first | apply Kd.R_alloc | apply Kd.R_drewN | apply Kd.R_drew)); exact HO103.out) hb); have n1_ := Aside0.mk (Kd.R_below (by (with_reducible repeat (first | apply Kd.R_alloc | apply Kd.R_drewN | apply Kd.R_drew)); exact HO109.out) hb); have n2_ := Aside0.mk (below_step (by repeat (first | (with_reducible first | exact HB.out | apply below_alloc | apply pw_below_drewN | apply below_drew1) | exact HB.out)) hb); clear HO103; clear HO109; clear HB; have HO103 := n0_; have HO109 := n1_; have HB := n2_; clear n0_ n1_ n2_; (try clear hb); (try clear hb2); (try clear hk); (try clear hi)) | ((with_reducible refine gate_callee (f := 40) rfl ?_); refine goesL_ (some 18) rfl rfl Try.func40 (by kernel_rfl) rfl #[.int .i64 t106] rfl (by (try simp only [List.map_toArray, List.map_cons, List.map_nil]); first | done | rfl | (simp only [List.length_drop, List.length_take]; rfl)) ?_; (with_reducible refine (lysimeterlaw24_num.calls t106 t112 _ A3.out).mono ?_); rintro e w' ⟨rfl, ⟨nd, rfl⟩⟩; refine ⟨_, rfl, ?_⟩) | ((with_reducible refine gate_callee (f := 40) rfl ?_); refine goesL_ (some 20) rfl rfl Try.func40 (by kernel_rfl) rfl #[.int .i64 t111] rfl (by (try simp only [List.map_toArray, List.map_cons, List.map_nil]); first | done | rfl | (simp only [List.length_drop, List.length_take]; rfl)) ?_; (with_reducible refine (lysimeterlaw24_num.calls t111 t113 _ A4.out).mono ?_); rintro e w' ⟨rfl, ⟨nd, rfl⟩⟩; refine ⟨_, rfl, ?_⟩))
        go_ret
        exact ⟨by first | rfl | (simp [errW_none, errW_some] <;> rfl) | (simp [*, errW_none, errW_some] <;> rfl), by repeat (first | (with_reducible first | exact HB.out | apply below_alloc | apply pw_below_drewN | apply below_drew1) | exact HB.out)⟩
    · rw [if_neg c6] at H
      have c6b0 : (t104 == 0) = false := beq_eq_false_iff_ne.mpr c6
      have c6b1 : (t104 != 0) = true := bne_iff_ne.mpr c6
      obtain rfl := Option.some.inj H
      go_enter Try.func37, Try.ntmps37
      go_wp2_with (first | ((with_reducible refine gate_dst (N := 7) rfl ?_); (try (refine gate_guard (by rfl) ?_; dsimp only)); refine Kd.R_lit (Kd.int .i64) _ 3 ?hg (N := 7) ?hd (xs := ([1, 2, 1, 2, 1, 2] : List Int)) (inner := [.int .i64 1, .int .i64 2, .int .i64 1, .int .i64 2, .int .i64 1, .int .i64 2]) (ok := fun _ => True) (okp := fun _ => True) ?hr ?hp (fun _ hk => hk) trivial (Below.refl _ _) (Nat.le_refl _) (by simp) ?_; (case hd => rfl); (case hg => rfl); (case hr => first | (go_simp; done) | (go_simp; rfl)); (case hp => exact (Reps.one (show Kd.M (Kd.int .i64) _ _ _ 1 [.int .i64 1] from rfl) (Reps.one (show Kd.M (Kd.int .i64) _ _ _ 2 [.int .i64 2] from rfl) (Reps.one (show Kd.M (Kd.int .i64) _ _ _ 1 [.int .i64 1] from rfl) (Reps.one (show Kd.M (Kd.int .i64) _ _ _ 2 [.int .i64 2] from rfl) (Reps.one (show Kd.M (Kd.int .i64) _ _ _ 1 [.int .i64 1] from rfl) (Reps.one (show Kd.M (Kd.int .i64) _ _ _ 2 [.int .i64 2] from rfl) (Reps.none _ _)))))))); intro v102 w36 ho37 hb hg_ hnew_; clear hg_ hnew_; (first | rw [← Ny101.out] at ho37 | (simp only [Int.reduceToNat] at ho37; rw [← Ny101.out] at ho37)); have n0_ := Aside0.mk (Kd.R_lower ho37 (below_size (by repeat (first | (with_reducible first | exact HB.out | apply below_alloc | apply pw_below_drewN | apply below_drew1) | exact HB.out)))); have n1_ := Aside0.mk (below_step (by repeat (first | (with_reducible first | exact HB.out | apply below_alloc | apply pw_below_drewN | apply below_drew1) | exact HB.out)) hb); clear HB; have HO103 := n0_; have HB := n1_; clear n0_ n1_; clear hb ho37; obtain ⟨Ao38, co38, eo38⟩ := Kd.R_slice HO103.out; subst eo38) | ((with_reducible refine gate_callee (f := 38) rfl ?_); refine goesL_ (some 8) rfl rfl Try.func38 (by kernel_rfl) rfl #[.slice Ao38 y101.length co38, .int .i64 2] rfl (by (try simp only [List.map_toArray, List.map_cons, List.map_nil]); first | done | rfl | (simp only [List.length_drop, List.length_take]; rfl)) ?_; (with_reducible refine (choose_Best.calls _ _ y101 2 t104 t105 t106 _ ?side1 ?side2 A1.out).mono ?_); (case side1 => repeat (first | exact (Kd.R_reads' HO103.out).2.2 | (with_reducible refine Kd.C_alloc ?_ _) | (with_reducible refine Kd.C_drewN ?_ _) | (with_reducible refine Kd.C_drew ?_))); (case side2 => exact (Kd.R_reads' HO103.out).2.1); rintro e w39 ⟨rfl, hb⟩; refine ⟨_, rfl, ?_⟩; have n0_ := Aside0.mk (Kd.R_below (by (with_reducible repeat (first | apply Kd.R_alloc | apply Kd.R_drewN | apply Kd.R_drew)); exact HO103.out) hb); have n1_ := Aside0.mk (below_step (by repeat (first | (with_reducible first | exact HB.out | apply below_alloc | apply pw_below_drewN | apply below_drew1) | exact HB.out)) hb); clear HO103; clear HB; have HO103 := n0_; have HB := n1_; clear n0_ n1_; (try clear hb); (try clear hb2); (try clear hk); (try clear hi)) | ((with_reducible refine gate_dst (N := 13) rfl ?_); (try (refine gate_guard (by rfl) ?_; dsimp only)); refine Kd.R_lit (Kd.int .i64) _ 3 ?hg (N := 13) ?hd (xs := ([1, 2, 1, 2, 1, 2] : List Int)) (inner := [.int .i64 1, .int .i64 2, .int .i64 1, .int .i64 2, .int .i64 1, .int .i64 2]) (ok := fun _ => True) (okp := fun _ => True) ?hr ?hp (fun _ hk => hk) trivial (Below.refl _ _) (Nat.le_refl _) (by simp) ?_; (case hd => rfl); (case hg => rfl); (case hr => first | (go_simp; done) | (go_simp; rfl)); (case hp => exact (Reps.one (show Kd.M (Kd.int .i64) _ _ _ 1 [.int .i64 1] from rfl) (Reps.one (show Kd.M (Kd.int .i64) _ _ _ 2 [.int .i64 2] from rfl) (Reps.one (show Kd.M (Kd.int .i64) _ _ _ 1 [.int .i64 1] from rfl) (Reps.one (show Kd.M (Kd.int .i64) _ _ _ 2 [.int .i64 2] from rfl) (Reps.one (show Kd.M (Kd.int .i64) _ _ _ 1 [.int .i64 1] from rfl) (Reps.one (show Kd.M (Kd.int .i64) _ _ _ 2 [.int .i64 2] from rfl) (Reps.none _ _)))))))); intro v108 w40 ho41 hb hg_ hnew_; clear hg_ hnew_; (first | rw [← Ny107.out] at ho41 | (simp only [Int.reduceToNat] at ho41; rw [← Ny107.out] at ho41)); have n0_ := Aside0.mk (Kd.R_elder' (by (with_reducible repeat (first | apply Kd.R_alloc | apply Kd.R_drewN | apply Kd.R_drew)); exact HO103.out) (Kd.R_base ho41) hb); have n1_ := Aside0.mk (Kd.R_lower (Kd.R_new' ho41 (Kd.R_lt (by (with_reducible repeat (first | apply Kd.R_alloc | apply Kd.R_drewN | apply Kd.R_drew)); exact HO103.out))) (below_size (by repeat (first | (with_reducible first | exact HB.out | apply below_alloc | apply pw_below_drewN | apply below_drew1) | exact HB.out)))); have n2_ := Aside0.mk (below_step (by repeat (first | (with_reducible first | exact HB.out | apply below_alloc | apply pw_below_drewN | apply below_drew1) | exact HB.out)) hb); clear HO103; clear HB; have HO103 := n0_; have HO109 := n1_; have HB := n2_; clear n0_ n1_ n2_; clear hb ho41; obtain ⟨Ao42, co42, eo42⟩ := Kd.R_slice HO109.out; subst eo42) | ((with_reducible refine gate_callee (f := 43) rfl ?_); refine goesL_ (some 14) rfl rfl Try.func43 (by kernel_rfl) rfl #[.slice Ao42 y107.length co42, .int .i64 2, .int .i64 1] rfl (by (try simp only [List.map_toArray, List.map_cons, List.map_nil]); first | done | rfl | (simp only [List.length_drop, List.length_take]; rfl)) ?_; (with_reducible refine (choose_Cast.calls _ _ y107 2 1 t110 t111 _ ?side1 ?side2 A2.out).mono ?_); (case side1 => repeat (first | exact (Kd.R_reads' HO109.out).2.2 | (with_reducible refine Kd.C_alloc ?_ _) | (with_reducible refine Kd.C_drewN ?_ _) | (with_reducible refine Kd.C_drew ?_))); (case side2 => exact (Kd.R_reads' HO109.out).2.1); rintro e w43 ⟨rfl, hb⟩; refine ⟨_, rfl, ?_⟩; have n0_ := Aside0.mk (Kd.R_below (by (with_reducible repeat (first | apply Kd.R_alloc | apply Kd.R_drewN | apply Kd.R_drew)); exact HO103.out) hb); have n1_ := Aside0.mk (Kd.R_below (by (with_reducible repeat (first | apply Kd.R_alloc | apply Kd.R_drewN | apply Kd.R_drew)); exact HO109.out) hb); have n2_ := Aside0.mk (below_step (by repeat (first | (with_reducible first | exact HB.out | apply below_alloc | apply pw_below_drewN | apply below_drew1) | exact HB.out)) hb); clear HO103; clear HO109; clear HB; have HO103 := n0_; have HO109 := n1_; have HB := n2_; clear n0_ n1_ n2_; (try clear hb); (try clear hb2); (try clear hk); (try clear hi)) | ((with_reducible refine gate_callee (f := 40) rfl ?_); refine goesL_ (some 18) rfl rfl Try.func40 (by kernel_rfl) rfl #[.int .i64 t106] rfl (by (try simp only [List.map_toArray, List.map_cons, List.map_nil]); first | done | rfl | (simp only [List.length_drop, List.length_take]; rfl)) ?_; (with_reducible refine (lysimeterlaw24_num.calls t106 t112 _ A3.out).mono ?_); rintro e w' ⟨rfl, ⟨nd, rfl⟩⟩; refine ⟨_, rfl, ?_⟩) | ((with_reducible refine gate_callee (f := 40) rfl ?_); refine goesL_ (some 20) rfl rfl Try.func40 (by kernel_rfl) rfl #[.int .i64 t111] rfl (by (try simp only [List.map_toArray, List.map_cons, List.map_nil]); first | done | rfl | (simp only [List.length_drop, List.length_take]; rfl)) ?_; (with_reducible refine (lysimeterlaw24_num.calls t111 t113 _ A4.out).mono ?_); rintro e w' ⟨rfl, ⟨nd, rfl⟩⟩; refine ⟨_, rfl, ?_⟩))
      go_ret
      exact ⟨by first | rfl | (simp [errW_none, errW_some] <;> rfl) | (simp [*, errW_none, errW_some] <;> rfl), by repeat (first | (with_reducible first | exact HB.out | apply below_alloc | apply pw_below_drewN | apply below_drew1) | exact HB.out)⟩
  · rw [if_neg c5] at H
    have c5b0 : ((wrap64 (t112 + t113)) == 0) = false := beq_eq_false_iff_ne.mpr c5
    have c5b1 : ((wrap64 (t112 + t113)) != 0) = true := bne_iff_ne.mpr c5
    obtain rfl := Option.some.inj H
    go_enter Try.func37, Try.ntmps37
    go_wp2_with (first | ((with_reducible refine gate_dst (N := 7) rfl ?_); (try (refine gate_guard (by rfl) ?_; dsimp only)); refine Kd.R_lit (Kd.int .i64) _ 3 ?hg (N := 7) ?hd (xs := ([1, 2, 1, 2, 1, 2] : List Int)) (inner := [.int .i64 1, .int .i64 2, .int .i64 1, .int .i64 2, .int .i64 1, .int .i64 2]) (ok := fun _ => True) (okp := fun _ => True) ?hr ?hp (fun _ hk => hk) trivial (Below.refl _ _) (Nat.le_refl _) (by simp) ?_; (case hd => rfl); (case hg => rfl); (case hr => first | (go_simp; done) | (go_simp; rfl)); (case hp => exact (Reps.one (show Kd.M (Kd.int .i64) _ _ _ 1 [.int .i64 1] from rfl) (Reps.one (show Kd.M (Kd.int .i64) _ _ _ 2 [.int .i64 2] from rfl) (Reps.one (show Kd.M (Kd.int .i64) _ _ _ 1 [.int .i64 1] from rfl) (Reps.one (show Kd.M (Kd.int .i64) _ _ _ 2 [.int .i64 2] from rfl) (Reps.one (show Kd.M (Kd.int .i64) _ _ _ 1 [.int .i64 1] from rfl) (Reps.one (show Kd.M (Kd.int .i64) _ _ _ 2 [.int .i64 2] from rfl) (Reps.none _ _)))))))); intro v102 w44 ho45 hb hg_ hnew_; clear hg_ hnew_; (first | rw [← Ny101.out] at ho45 | (simp only [Int.reduceToNat] at ho45; rw [← Ny101.out] at ho45)); have n0_ := Aside0.mk (Kd.R_lower ho45 (below_size (by repeat (first | (with_reducible first | exact HB.out | apply below_alloc | apply pw_below_drewN | apply below_drew1) | exact HB.out)))); have n1_ := Aside0.mk (below_step (by repeat (first | (with_reducible first | exact HB.out | apply below_alloc | apply pw_below_drewN | apply below_drew1) | exact HB.out)) hb); clear HB; have HO103 := n0_; have HB := n1_; clear n0_ n1_; clear hb ho45; obtain ⟨Ao46, co46, eo46⟩ := Kd.R_slice HO103.out; subst eo46) | ((with_reducible refine gate_callee (f := 38) rfl ?_); refine goesL_ (some 8) rfl rfl Try.func38 (by kernel_rfl) rfl #[.slice Ao46 y101.length co46, .int .i64 2] rfl (by (try simp only [List.map_toArray, List.map_cons, List.map_nil]); first | done | rfl | (simp only [List.length_drop, List.length_take]; rfl)) ?_; (with_reducible refine (choose_Best.calls _ _ y101 2 t104 t105 t106 _ ?side1 ?side2 A1.out).mono ?_); (case side1 => repeat (first | exact (Kd.R_reads' HO103.out).2.2 | (with_reducible refine Kd.C_alloc ?_ _) | (with_reducible refine Kd.C_drewN ?_ _) | (with_reducible refine Kd.C_drew ?_))); (case side2 => exact (Kd.R_reads' HO103.out).2.1); rintro e w47 ⟨rfl, hb⟩; refine ⟨_, rfl, ?_⟩; have n0_ := Aside0.mk (Kd.R_below (by (with_reducible repeat (first | apply Kd.R_alloc | apply Kd.R_drewN | apply Kd.R_drew)); exact HO103.out) hb); have n1_ := Aside0.mk (below_step (by repeat (first | (with_reducible first | exact HB.out | apply below_alloc | apply pw_below_drewN | apply below_drew1) | exact HB.out)) hb); clear HO103; clear HB; have HO103 := n0_; have HB := n1_; clear n0_ n1_; (try clear hb); (try clear hb2); (try clear hk); (try clear hi)) | ((with_reducible refine gate_dst (N := 13) rfl ?_); (try (refine gate_guard (by rfl) ?_; dsimp only)); refine Kd.R_lit (Kd.int .i64) _ 3 ?hg (N := 13) ?hd (xs := ([1, 2, 1, 2, 1, 2] : List Int)) (inner := [.int .i64 1, .int .i64 2, .int .i64 1, .int .i64 2, .int .i64 1, .int .i64 2]) (ok := fun _ => True) (okp := fun _ => True) ?hr ?hp (fun _ hk => hk) trivial (Below.refl _ _) (Nat.le_refl _) (by simp) ?_; (case hd => rfl); (case hg => rfl); (case hr => first | (go_simp; done) | (go_simp; rfl)); (case hp => exact (Reps.one (show Kd.M (Kd.int .i64) _ _ _ 1 [.int .i64 1] from rfl) (Reps.one (show Kd.M (Kd.int .i64) _ _ _ 2 [.int .i64 2] from rfl) (Reps.one (show Kd.M (Kd.int .i64) _ _ _ 1 [.int .i64 1] from rfl) (Reps.one (show Kd.M (Kd.int .i64) _ _ _ 2 [.int .i64 2] from rfl) (Reps.one (show Kd.M (Kd.int .i64) _ _ _ 1 [.int .i64 1] from rfl) (Reps.one (show Kd.M (Kd.int .i64) _ _ _ 2 [.int .i64 2] from rfl) (Reps.none _ _)))))))); intro v108 w48 ho49 hb hg_ hnew_; clear hg_ hnew_; (first | rw [← Ny107.out] at ho49 | (simp only [Int.reduceToNat] at ho49; rw [← Ny107.out] at ho49)); have n0_ := Aside0.mk (Kd.R_elder' (by (with_reducible repeat (first | apply Kd.R_alloc | apply Kd.R_drewN | apply Kd.R_drew)); exact HO103.out) (Kd.R_base ho49) hb); have n1_ := Aside0.mk (Kd.R_lower (Kd.R_new' ho49 (Kd.R_lt (by (with_reducible repeat (first | apply Kd.R_alloc | apply Kd.R_drewN | apply Kd.R_drew)); exact HO103.out))) (below_size (by repeat (first | (with_reducible first | exact HB.out | apply below_alloc | apply pw_below_drewN | apply below_drew1) | exact HB.out)))); have n2_ := Aside0.mk (below_step (by repeat (first | (with_reducible first | exact HB.out | apply below_alloc | apply pw_below_drewN | apply below_drew1) | exact HB.out)) hb); clear HO103; clear HB; have HO103 := n0_; have HO109 := n1_; have HB := n2_; clear n0_ n1_ n2_; clear hb ho49; obtain ⟨Ao50, co50, eo50⟩ := Kd.R_slice HO109.out; subst eo50) | ((with_reducible refine gate_callee (f := 43) rfl ?_); refine goesL_ (some 14) rfl rfl Try.func43 (by kernel_rfl) rfl #[.slice Ao50 y107.length co50, .int .i64 2, .int .i64 1] rfl (by (try simp only [List.map_toArray, List.map_cons, List.map_nil]); first | done | rfl | (simp only [List.length_drop, List.length_take]; rfl)) ?_; (with_reducible refine (choose_Cast.calls _ _ y107 2 1 t110 t111 _ ?side1 ?side2 A2.out).mono ?_); (case side1 => repeat (first | exact (Kd.R_reads' HO109.out).2.2 | (with_reducible refine Kd.C_alloc ?_ _) | (with_reducible refine Kd.C_drewN ?_ _) | (with_reducible refine Kd.C_drew ?_))); (case side2 => exact (Kd.R_reads' HO109.out).2.1); rintro e w51 ⟨rfl, hb⟩; refine ⟨_, rfl, ?_⟩; have n0_ := Aside0.mk (Kd.R_below (by (with_reducible repeat (first | apply Kd.R_alloc | apply Kd.R_drewN | apply Kd.R_drew)); exact HO103.out) hb); have n1_ := Aside0.mk (Kd.R_below (by (with_reducible repeat (first | apply Kd.R_alloc | apply Kd.R_drewN | apply Kd.R_drew)); exact HO109.out) hb); have n2_ := Aside0.mk (below_step (by repeat (first | (with_reducible first | exact HB.out | apply below_alloc | apply pw_below_drewN | apply below_drew1) | exact HB.out)) hb); clear HO103; clear HO109; clear HB; have HO103 := n0_; have HO109 := n1_; have HB := n2_; clear n0_ n1_ n2_; (try clear hb); (try clear hb2); (try clear hk); (try clear hi)) | ((with_reducible refine gate_callee (f := 40) rfl ?_); refine goesL_ (some 18) rfl rfl Try.func40 (by kernel_rfl) rfl #[.int .i64 t106] rfl (by (try simp only [List.map_toArray, List.map_cons, List.map_nil]); first | done | rfl | (simp only [List.length_drop, List.length_take]; rfl)) ?_; (with_reducible refine (lysimeterlaw24_num.calls t106 t112 _ A3.out).mono ?_); rintro e w' ⟨rfl, ⟨nd, rfl⟩⟩; refine ⟨_, rfl, ?_⟩) | ((with_reducible refine gate_callee (f := 40) rfl ?_); refine goesL_ (some 20) rfl rfl Try.func40 (by kernel_rfl) rfl #[.int .i64 t111] rfl (by (try simp only [List.map_toArray, List.map_cons, List.map_nil]); first | done | rfl | (simp only [List.length_drop, List.length_take]; rfl)) ?_; (with_reducible refine (lysimeterlaw24_num.calls t111 t113 _ A4.out).mono ?_); rintro e w' ⟨rfl, ⟨nd, rfl⟩⟩; refine ⟨_, rfl, ?_⟩))
    go_ret
    exact ⟨by first | rfl | (simp [errW_none, errW_some] <;> rfl) | (simp [*, errW_none, errW_some] <;> rfl), by repeat (first | (with_reducible first | exact HB.out | apply below_alloc | apply pw_below_drewN | apply below_drew1) | exact HB.out)⟩
def choose_Peak.f (l0 : List Int) (a1 : Int) (a2 : Int) : Option (Int × Int) := if okL l0 && HS.InB a1 && HS.InB a2 then some (HS.peakS l0 a1 a2) else none
theorem choose_Peak.calls (A0 : Option Addr) (c0 : Nat) (l0 : List Int) (a1 : Int) (a2 : Int) (r1 : Int) (r2 : Int) (w : World) (hr0 : Kd.C (Kd.int .i64) w A0 l0.length l0) (hc0 : l0.length ≤ c0) (h : choose_Peak.f l0 a1 a2 = some (r1, r2)) :
    Calls Try.prog 45 #[.slice A0 l0.length c0, .int .i64 a1, .int .i64 a2] w fun e w' => e = .returned (.tuple #[.int .i64 r1, .int .i64 r2]) ∧ Below w.heap.size w w' := by
  unfold choose_Peak.f at h
  by_cases c : (okL l0 && HS.InB a1 && HS.InB a2) = true
  · rw [if_pos c] at h
    have e := Option.some.inj h
    obtain ⟨rfl, rfl⟩ : (HS.peakS l0 a1 a2).1 = r1 ∧ (HS.peakS l0 a1 a2).2 = r2 := by rw [e]; exact ⟨rfl, rfl⟩
    simp only [Bool.and_eq_true, okL_iff, HS.inB_iff] at c
    exact Ho.choPeak_calls sMiss sCast A0 c0 l0 a1 a2 w hr0 hc0 c.1.1.1 c.1.2 c.2 c.1.1.2
  · rw [if_neg c] at h; cases h
end Go.Proofs.Ytemnfnbjapobcaa.Ch
end
section
namespace Go.Proofs.Ytemnfnbjapobcaa.Ch
open Go.RowKit Go.Proofs.YtemnfnbjapobcaaW.PrintWords Go.Proofs.YtemnfnbjapobcaaW.PrintLast Go.Proofs.YtemnfnbjapobcaaW.PrintMore
attribute [local go_sem] max2_int min2_int max_two min_two max_three min_three max_four min_four   -- for this text's walks alone
set_option linter.unusedVariables false
set_option linter.unusedSimpArgs false
mutual
def lysimeterlaw24_ChoosePeak.j0 : Nat → List Int → Int → Int → Bool → Bool → Option (Bool)
  | 0, _, _, _, _, _ => none
  | k + 1, x0, x1, x2, x7, x29 => if x29 = true then (some x7) else ((choose_Peak.f x0 x1 x2).bind fun bt152 => ((lysimeterlaw24_num.f bt152.2).bind fun t154 => (if t154 = 0 then (lysimeterlaw24_ChoosePeak.l0 k x0 x1 x2 bt152.1 false 1) else (some (bt152.1 == 0)))))
def lysimeterlaw24_ChoosePeak.l0 : Nat → List Int → Int → Int → Int → Bool → Int → Option (Bool)
  | 0, _, _, _, _, _, _ => none
  | k + 1, x0, x1, x2, x8, x10, x11 => if x11 ≤ x2 then ((choose_Cast.f x0 x1 x11).bind fun bt155 => ((lysimeterlaw24_num.f bt155.2).bind fun t157 => (if t157 = 0 then (if bt155.1 > x8 then (some false) else (if x10 = true then (lysimeterlaw24_ChoosePeak.l0 k x0 x1 x2 x8 true (wrap64 (x11 + 1))) else (lysimeterlaw24_ChoosePeak.l0 k x0 x1 x2 x8 (bt155.1 == x8) (wrap64 (x11 + 1))))) else (some false)))) else (some x10)
end
def lysimeterlaw24_ChoosePeak.f (k : Nat) (l0 : List Int) (a1 : Int) (a2 : Int) : Option (Bool) := (lysimeterlaw24_alive.f).bind fun t151 => (if t151 = true then (if (l0.length : Int) > 200 then (lysimeterlaw24_ChoosePeak.j0 k l0 a1 a2 t151 true) else (if a2 < 1 then (lysimeterlaw24_ChoosePeak.j0 k l0 a1 a2 t151 true) else (lysimeterlaw24_ChoosePeak.j0 k l0 a1 a2 t151 (decide (a2 > 30))))) else (lysimeterlaw24_ChoosePeak.j0 k l0 a1 a2 t151 true))
set_option maxHeartbeats 8000000 in
set_option maxRecDepth 100000 in
theorem lysimeterlaw24_ChoosePeak.calls (k : Nat) (A0 : Option Addr) (c0 : Nat) (l0 : List Int) (a1 : Int) (a2 : Int) (r : Bool) (w : World) (hr0 : Kd.C (Kd.int .i64) w A0 l0.length l0) (hc0 : l0.length ≤ c0) (h : lysimeterlaw24_ChoosePeak.f k l0 a1 a2 = some r) :
    Calls Try.prog 10 #[.slice A0 l0.length c0, .int .i64 a1, .int .i64 a2] w fun e w' => e = .returned (.bool r) ∧ Below w.heap.size w w' := by
  have HR0 := Aside0.mk hr0
  have HC0 := Aside0.mk hc0
  clear hr0 hc0
  have HB := Aside0.mk (Below.refl w.heap.size w)
  have H : ((lysimeterlaw24_alive.f).bind fun t151 => (if t151 = true then (if (l0.length : Int) > 200 then (lysimeterlaw24_ChoosePeak.j0 k l0 a1 a2 t151 true) else (if a2 < 1 then (lysimeterlaw24_ChoosePeak.j0 k l0 a1 a2 t151 true) else (lysimeterlaw24_ChoosePeak.j0 k l0 a1 a2 t151 (decide (a2 > 30))))) else (lysimeterlaw24_ChoosePeak.j0 k l0 a1 a2 t151 true))) = some r := h
  clear h
  replace H := Option.bind_eq_some_iff.mp H
  obtain ⟨t151, A40, H⟩ := H
  replace H : (if t151 = true then (if (l0.length : Int) > 200 then (lysimeterlaw24_ChoosePeak.j0 k l0 a1 a2 t151 true) else (if a2 < 1 then (lysimeterlaw24_ChoosePeak.j0 k l0 a1 a2 t151 true) else (lysimeterlaw24_ChoosePeak.j0 k l0 a1 a2 t151 (decide (a2 > 30))))) else (lysimeterlaw24_ChoosePeak.j0 k l0 a1 a2 t151 true)) = some r := H
  have A4 := Aside0.mk A40
  clear A40
  have HC5 := Aside0.mk H
  clear H
  go_enter Try.func10, Try.ntmps10
  go_upto_region 2 with (first | ((with_reducible refine gate_callee (f := 37) rfl ?_); refine goesL_ (some 14) rfl rfl Try.func37 (by kernel_rfl) rfl #[] rfl (by (try simp only [List.map_toArray, List.map_cons, List.map_nil]); first | done | rfl | (simp only [List.length_drop, List.length_take]; rfl)) ?_; (with_reducible refine (lysimeterlaw24_alive.calls  t151 _ A4.out).mono ?_); rintro e w6 ⟨rfl, hb⟩; refine ⟨_, rfl, ?_⟩; have n0_ := Aside0.mk (below_step (by repeat (first | (with_reducible first | exact HB.out | apply below_alloc | apply pw_below_drewN | apply below_drew1) | exact HB.out)) hb); clear HB; have HB := n0_; clear n0_; (try clear hb); (try clear hb2); (try clear hk); (try clear hi)))
  (try simp only [Act.put, List.setIfInBounds_toArray, List.set_cons_zero, List.set_cons_succ])
  go_cut [29] (fun v29 wc => ∃ (kq : Nat) (x29_4 : Bool), v29 = .bool x29_4 ∧ Aside0 (lysimeterlaw24_ChoosePeak.j0 kq l0 a1 a2 t151 x29_4 = some r) ∧ Aside0 (kq ≤ k) ∧ Aside0 (Below w.heap.size w wc))
  case first =>
    have H := HC5.out
    clear HC5
    by_cases c7 : t151 = true
    · subst c7
      have H1 : (if (l0.length : Int) > 200 then (lysimeterlaw24_ChoosePeak.j0 k l0 a1 a2 true true) else (if a2 < 1 then (lysimeterlaw24_ChoosePeak.j0 k l0 a1 a2 true true) else (lysimeterlaw24_ChoosePeak.j0 k l0 a1 a2 true (decide (a2 > 30))))) = some r := by rw [if_pos rfl] at H; exact H
      clear H
      have H := H1
      clear H1
      by_cases c8 : (l0.length : Int) > 200
      · rw [if_pos c8] at H
        have c8b0 : decide (200 < (l0.length : Int)) = true := decide_eq_true c8
        have c8b1 : decide (200 < l0.length) = true := decide_eq_true (by omega)
        clear c8
        (first | rw [c8b0] | (simp only [i64_w, i32_w]; rw [c8b0]) | skip)
        have H' := Aside0.mk H
        clear H
        go_wp2
        go_meet
        case rel => exact ⟨_, (true), (by first | rfl | (simp; done) | (simp [*]; done)), H', ⟨by first | omega | exact Nat.le_refl _⟩, ⟨by repeat (first | (with_reducible first | exact HB.out | apply below_alloc | apply pw_below_drewN | apply below_drew1) | exact HB.out)⟩⟩
      · rw [if_neg c8] at H
        have c8b0 : decide (200 < (l0.length : Int)) = false := decide_eq_false c8
        have c8b1 : decide (200 < l0.length) = false := decide_eq_false (by omega)
        clear c8
        (first | rw [c8b0] | (simp only [i64_w, i32_w]; rw [c8b0]) | skip)
        by_cases c9 : a2 < 1
        · rw [if_pos c9] at H
          have c9b0 : decide (a2 < 1) = true := decide_eq_true c9
          clear c9
          have H' := Aside0.mk H
          clear H
          go_wp2
          go_meet
          case rel => exact ⟨_, (true), (by first | rfl | (simp; done) | (simp [*]; done)), H', ⟨by first | omega | exact Nat.le_refl _⟩, ⟨by repeat (first | (with_reducible first | exact HB.out | apply below_alloc | apply pw_below_drewN | apply below_drew1) | exact HB.out)⟩⟩
        · rw [if_neg c9] at H
          have c9b0 : decide (a2 < 1) = false := decide_eq_false c9
          clear c9
          have H' := Aside0.mk H
          clear H
          go_wp2
          go_meet
          case rel => exact ⟨_, (decide (a2 > 30)), (by first | rfl | (simp; done) | (simp [*]; done)), H', ⟨by first | omega | exact Nat.le_refl _⟩, ⟨by repeat (first | (with_reducible first | exact HB.out | apply below_alloc | apply pw_below_drewN | apply below_drew1) | exact HB.out)⟩⟩
    · replace c7 := Bool.eq_false_iff.mpr c7
      subst c7
      have H1 : (lysimeterlaw24_ChoosePeak.j0 k l0 a1 a2 false true) = some r := by rw [if_neg (show ¬ (false = true) by decide)] at H; exact H
      clear H
      have H := H1
      clear H1
      have H' := Aside0.mk H
      clear H
      go_wp2
      go_meet
      case rel => exact ⟨_, (true), (by first | rfl | (simp; done) | (simp [*]; done)), H', ⟨by first | omega | exact Nat.le_refl _⟩, ⟨by repeat (first | (with_reducible first | exact HB.out | apply below_alloc | apply pw_below_drewN | apply below_drew1) | exact HB.out)⟩⟩
  case rest =>
    clear HC5
    try clear c1
    try clear p2
    try clear c3
    try clear c7
    try clear c8
    try clear c8b0
    try clear c8b1
    try clear c9
    try clear c9b0
    obtain ⟨kq, x29_4, rfl, HA, HJ4, HB⟩ := hcut
    cases kq with
    | zero => exact absurd HA.out (by simp [lysimeterlaw24_ChoosePeak.j0])
    | succ kj4 =>
      have H := HA.out
      clear HA
      simp only [lysimeterlaw24_ChoosePeak.j0] at H
      by_cases c10 : x29_4 = true
      · subst c10
        have H1 : (some t151) = some r := by rw [if_pos rfl] at H; exact H
        clear H
        have H := H1
        clear H1
        obtain rfl := Option.some.inj H
        go_wp2
        go_ret
        exact ⟨by first | rfl | (simp [errW_none, errW_some] <;> rfl) | (simp [*, errW_none, errW_some] <;> rfl), by repeat (first | (with_reducible first | exact HB.out | apply below_alloc | apply pw_below_drewN | apply below_drew1) | exact HB.out)⟩
      · replace c10 := Bool.eq_false_iff.mpr c10
        subst c10
        have H1 : ((choose_Peak.f l0 a1 a2).bind fun bt152 => ((lysimeterlaw24_num.f bt152.2).bind fun t154 => (if t154 = 0 then (lysimeterlaw24_ChoosePeak.l0 kj4 l0 a1 a2 bt152.1 false 1) else (some (bt152.1 == 0))))) = some r := by rw [if_neg (show ¬ (false = true) by decide)] at H; exact H
        clear H
        have H := H1
        clear H1
        replace H := Option.bind_eq_some_iff.mp H
        obtain ⟨⟨t152, t153⟩, A110, H⟩ := H
        replace H : ((lysimeterlaw24_num.f t153).bind fun t154 => (if t154 = 0 then (lysimeterlaw24_ChoosePeak.l0 kj4 l0 a1 a2 t152 false 1) else (some (t152 == 0)))) = some r := H
        have A11 := Aside0.mk A110
        clear A110
        replace H := Option.bind_eq_some_iff.mp H
        obtain ⟨t154, A120, H⟩ := H
        replace H : (if t154 = 0 then (lysimeterlaw24_ChoosePeak.l0 kj4 l0 a1 a2 t152 false 1) else (some (t152 == 0))) = some r := H
        have A12 := Aside0.mk A120
        clear A120
        by_cases c13 : t154 = 0
        · rw [if_pos c13] at H
          have c13b0 : (t154 == 0) = true := beq_iff_eq.mpr c13
          have c13b1 : (t154 != 0) = false := bne_eq_false_iff_eq.mpr c13
          clear c13
          have H' := Aside0.mk H
          clear H
          go_wp2_with (first | ((with_reducible refine gate_callee (f := 45) rfl ?_); refine goesL_ (some 35) rfl rfl Try.func45 (by kernel_rfl) rfl #[.slice A0 l0.length c0, .int .i64 a1, .int .i64 a2] rfl (by (try simp only [List.map_toArray, List.map_cons, List.map_nil]); first | done | rfl | (simp only [List.length_drop, List.length_take]; rfl)) ?_; (with_reducible refine (choose_Peak.calls _ _ l0 a1 a2 t152 t153 _ ?side1 ?side2 A11.out).mono ?_); (case side1 => repeat (first | exact (Kd.C_below HR0.out HB.out) | (with_reducible refine Kd.C_alloc ?_ _) | (with_reducible refine Kd.C_drewN ?_ _) | (with_reducible refine Kd.C_drew ?_))); (case side2 => exact HC0.out); rintro e w14 ⟨rfl, hb⟩; refine ⟨_, rfl, ?_⟩; have n0_ := Aside0.mk (below_step (by repeat (first | (with_reducible first | exact HB.out | apply below_alloc | apply pw_below_drewN | apply below_drew1) | exact HB.out)) hb); clear HB; have HB := n0_; clear n0_; (try clear hb); (try clear hb2); (try clear hk); (try clear hi)) | ((with_reducible refine gate_callee (f := 40) rfl ?_); refine goesL_ (some 39) rfl rfl Try.func40 (by kernel_rfl) rfl #[.int .i64 t153] rfl (by (try simp only [List.map_toArray, List.map_cons, List.map_nil]); first | done | rfl | (simp only [List.length_drop, List.length_take]; rfl)) ?_; (with_reducible refine (lysimeterlaw24_num.calls t153 t154 _ A12.out).mono ?_); rintro e w' ⟨rfl, ⟨nd, rfl⟩⟩; refine ⟨_, rfl, ?_⟩))
          go_loopg [10, 11] kj4 (fun kq v10 v11 w' => ∃ (x10_2 : Bool) (x11_2 : Int), v10 = .bool x10_2 ∧ v11 = .int .i64 x11_2 ∧ Aside0 (lysimeterlaw24_ChoosePeak.l0 kq l0 a1 a2 t152 x10_2 x11_2 = some r) ∧ Aside0 (kq ≤ kj4) ∧ Aside0 (Below w.heap.size w w'))
          case atStart => exact ⟨(false), (1), (by first | rfl | (simp; done) | (simp [*]; done)), (by first | rfl | (simp; done) | (simp [*]; done)), H', ⟨Nat.le_refl _⟩, ⟨by repeat (first | (with_reducible first | exact HB.out | apply below_alloc | apply pw_below_drewN | apply below_drew1) | exact HB.out)⟩⟩
          case round =>
            clear H'
            try clear c1
            try clear p2
            try clear c3
            try clear c4
            try clear c7
            try clear c8
            try clear c8b0
            try clear c8b1
            try clear c9
            try clear c9b0
            try clear c10
            try clear c13
            try clear c13b0
            try clear c13b1
            try clear p2
            obtain ⟨x10_2, x11_2, rfl, rfl, HA, HK2, HB⟩ := hrel
            cases gk with
            | zero => exact absurd HA.out (by simp [lysimeterlaw24_ChoosePeak.l0])
            | succ k2 =>
              have H := HA.out
              clear HA
              simp only [lysimeterlaw24_ChoosePeak.l0] at H
              by_cases c15 : x11_2 ≤ a2
              · rw [if_pos c15] at H
                have c15b0 : decide (x11_2 ≤ a2) = true := decide_eq_true c15
                clear c15
                replace H := Option.bind_eq_some_iff.mp H
                obtain ⟨⟨t155, t156⟩, A160, H⟩ := H
                replace H : ((lysimeterlaw24_num.f t156).bind fun t157 => (if t157 = 0 then (if t155 > t152 then (some false) else (if x10_2 = true then (lysimeterlaw24_ChoosePeak.l0 k2 l0 a1 a2 t152 true (wrap64 (x11_2 + 1))) else (lysimeterlaw24_ChoosePeak.l0 k2 l0 a1 a2 t152 (t155 == t152) (wrap64 (x11_2 + 1))))) else (some false))) = some r := H
                have A16 := Aside0.mk A160
                clear A160
                replace H := Option.bind_eq_some_iff.mp H
                obtain ⟨t157, A170, H⟩ := H
                replace H : (if t157 = 0 then (if t155 > t152 then (some false) else (if x10_2 = true then (lysimeterlaw24_ChoosePeak.l0 k2 l0 a1 a2 t152 true (wrap64 (x11_2 + 1))) else (lysimeterlaw24_ChoosePeak.l0 k2 l0 a1 a2 t152 (t155 == t152) (wrap64 (x11_2 + 1))))) else (some false)) = some r := H
                have A17 := Aside0.mk A170
                clear A170
                by_cases c18 : t157 = 0
                · rw [if_pos c18] at H
                  have c18b0 : (t157 == 0) = true := beq_iff_eq.mpr c18
                  have c18b1 : (t157 != 0) = false := bne_eq_false_iff_eq.mpr c18
                  clear c18
                  by_cases c19 : t155 > t152
                  · rw [if_pos c19] at H
                    have c19b0 : decide (t152 < t155) = true := decide_eq_true c19
                    clear c19
                    obtain rfl := Option.some.inj H
                    go_wp2_with (first | ((with_reducible refine gate_callee (f := 43) rfl ?_); refine goesL_ (some 52) rfl rfl Try.func43 (by kernel_rfl) rfl #[.slice A0 l0.length c0, .int .i64 a1, .int .i64 x11_2] rfl (by (try simp only [List.map_toArray, List.map_cons, List.map_nil]); first | done | rfl | (simp only [List.length_drop, List.length_take]; rfl)) ?_; (with_reducible refine (choose_Cast.calls _ _ l0 a1 x11_2 t155 t156 _ ?side1 ?side2 A16.out).mono ?_); (case side1 => repeat (first | exact (Kd.C_below HR0.out HB.out) | (with_reducible refine Kd.C_alloc ?_ _) | (with_reducible refine Kd.C_drewN ?_ _) | (with_reducible refine Kd.C_drew ?_))); (case side2 => exact HC0.out); rintro e w20 ⟨rfl, hb⟩; refine ⟨_, rfl, ?_⟩; have n0_ := Aside0.mk (below_step (by repeat (first | (with_reducible first | exact HB.out | apply below_alloc | apply pw_below_drewN | apply below_drew1) | exact HB.out)) hb); clear HB; have HB := n0_; clear n0_; (try clear hb); (try clear hb2); (try clear hk); (try clear hi)) | ((with_reducible refine gate_callee (f := 40) rfl ?_); refine goesL_ (some 56) rfl rfl Try.func40 (by kernel_rfl) rfl #[.int .i64 t156] rfl (by (try simp only [List.map_toArray, List.map_cons, List.map_nil]); first | done | rfl | (simp only [List.length_drop, List.length_take]; rfl)) ?_; (with_reducible refine (lysimeterlaw24_num.calls t156 t157 _ A17.out).mono ?_); rintro e w' ⟨rfl, ⟨nd, rfl⟩⟩; refine ⟨_, rfl, ?_⟩))
                    go_ret
                    exact ⟨by first | rfl | (simp [errW_none, errW_some] <;> rfl) | (simp [*, errW_none, errW_some] <;> rfl), by repeat (first | (with_reducible first | exact HB.out | apply below_alloc | apply pw_below_drewN | apply below_drew1) | exact HB.out)⟩
                  · rw [if_neg c19] at H
                    have c19b0 : decide (t152 < t155) = false := decide_eq_false c19
                    clear c19
                    by_cases c21 : x10_2 = true
                    · subst c21
                      have H1 : (lysimeterlaw24_ChoosePeak.l0 k2 l0 a1 a2 t152 true (wrap64 (x11_2 + 1))) = some r := by rw [if_pos rfl] at H; exact H
                      clear H
                      have H := H1
                      clear H1
                      have H' := Aside0.mk H
                      clear H
                      go_wp2_with (first | ((with_reducible refine gate_callee (f := 43) rfl ?_); refine goesL_ (some 52) rfl rfl Try.func43 (by kernel_rfl) rfl #[.slice A0 l0.length c0, .int .i64 a1, .int .i64 x11_2] rfl (by (try simp only [List.map_toArray, List.map_cons, List.map_nil]); first | done | rfl | (simp only [List.length_drop, List.length_take]; rfl)) ?_; (with_reducible refine (choose_Cast.calls _ _ l0 a1 x11_2 t155 t156 _ ?side1 ?side2 A16.out).mono ?_); (case side1 => repeat (first | exact (Kd.C_below HR0.out HB.out) | (with_reducible refine Kd.C_alloc ?_ _) | (with_reducible refine Kd.C_drewN ?_ _) | (with_reducible refine Kd.C_drew ?_))); (case side2 => exact HC0.out); rintro e w22 ⟨rfl, hb⟩; refine ⟨_, rfl, ?_⟩; have n0_ := Aside0.mk (below_step (by repeat (first | (with_reducible first | exact HB.out | apply below_alloc | apply pw_below_drewN | apply below_drew1) | exact HB.out)) hb); clear HB; have HB := n0_; clear n0_; (try clear hb); (try clear hb2); (try clear hk); (try clear hi)) | ((with_reducible refine gate_callee (f := 40) rfl ?_); refine goesL_ (some 56) rfl rfl Try.func40 (by kernel_rfl) rfl #[.int .i64 t156] rfl (by (try simp only [List.map_toArray, List.map_cons, List.map_nil]); first | done | rfl | (simp only [List.length_drop, List.length_take]; rfl)) ?_; (with_reducible refine (lysimeterlaw24_num.calls t156 t157 _ A17.out).mono ?_); rintro e w' ⟨rfl, ⟨nd, rfl⟩⟩; refine ⟨_, rfl, ?_⟩))
                      go_roundg k2
                      case measure => have := HJ4.out; have := HK2.out; omega
                      case rel => exact ⟨(true), (wrap64 (x11_2 + 1)), (by first | rfl | (simp; done) | (simp [*]; done)), (by first | rfl | (simp; done) | (simp [*]; done)), H', ⟨by have := HJ4.out; have := HK2.out; omega⟩, ⟨by repeat (first | (with_reducible first | exact HB.out | apply below_alloc | apply pw_below_drewN | apply below_drew1) | exact HB.out)⟩⟩
                    · replace c21 := Bool.eq_false_iff.mpr c21
                      subst c21
                      have H1 : (lysimeterlaw24_ChoosePeak.l0 k2 l0 a1 a2 t152 (t155 == t152) (wrap64 (x11_2 + 1))) = some r := by rw [if_neg (show ¬ (false = true) by decide)] at H; exact H
                      clear H
                      have H := H1
                      clear H1
                      have H' := Aside0.mk H
                      clear H
                      go_wp2_with (first | ((with_reducible refine gate_callee (f := 43) rfl ?_); refine goesL_ (some 52) rfl rfl Try.func43 (by kernel_rfl) rfl #[.slice A0 l0.length c0, .int .i64 a1, .int .i64 x11_2] rfl (by (try simp only [List.map_toArray, List.map_cons, List.map_nil]); first | done | rfl | (simp only [List.length_drop, List.length_take]; rfl)) ?_; (with_reducible refine (choose_Cast.calls _ _ l0 a1 x11_2 t155 t156 _ ?side1 ?side2 A16.out).mono ?_); (case side1 => repeat (first | exact (Kd.C_below HR0.out HB.out) | (with_reducible refine Kd.C_alloc ?_ _) | (with_reducible refine Kd.C_drewN ?_ _) | (with_reducible refine Kd.C_drew ?_))); (case side2 => exact HC0.out); rintro e w23 ⟨rfl, hb⟩; refine ⟨_, rfl, ?_⟩; have n0_ := Aside0.mk (below_step (by repeat (first | (with_reducible first | exact HB.out | apply below_alloc | apply pw_below_drewN | apply below_drew1) | exact HB.out)) hb); clear HB; have HB := n0_; clear n0_; (try clear hb); (try clear hb2); (try clear hk); (try clear hi)) | ((with_reducible refine gate_callee (f := 40) rfl ?_); refine goesL_ (some 56) rfl rfl Try.func40 (by kernel_rfl) rfl #[.int .i64 t156] rfl (by (try simp only [List.map_toArray, List.map_cons, List.map_nil]); first | done | rfl | (simp only [List.length_drop, List.length_take]; rfl)) ?_; (with_reducible refine (lysimeterlaw24_num.calls t156 t157 _ A17.out).mono ?_); rintro e w' ⟨rfl, ⟨nd, rfl⟩⟩; refine ⟨_, rfl, ?_⟩))
                      go_roundg k2
                      case measure => have := HJ4.out; have := HK2.out; omega
                      case rel => exact ⟨((t155 == t152)), (wrap64 (x11_2 + 1)), (by first | rfl | (simp; done) | (simp [*]; done)), (by first | rfl | (simp; done) | (simp [*]; done)), H', ⟨by have := HJ4.out; have := HK2.out; omega⟩, ⟨by repeat (first | (with_reducible first | exact HB.out | apply below_alloc | apply pw_below_drewN | apply below_drew1) | exact HB.out)⟩⟩
                · rw [if_neg c18] at H
                  have c18b0 : (t157 == 0) = false := beq_eq_false_iff_ne.mpr c18
                  have c18b1 : (t157 != 0) = true := bne_iff_ne.mpr c18
                  obtain rfl := Option.some.inj H
                  go_wp2_with (first | ((with_reducible refine gate_callee (f := 43) rfl ?_); refine goesL_ (some 52) rfl rfl Try.func43 (by kernel_rfl) rfl #[.slice A0 l0.length c0, .int .i64 a1, .int .i64 x11_2] rfl (by (try simp only [List.map_toArray, List.map_cons, List.map_nil]); first | done | rfl | (simp only [List.length_drop, List.length_take]; rfl)) ?_; (with_reducible refine (choose_Cast.calls _ _ l0 a1 x11_2 t155 t156 _ ?side1 ?side2 A16.out).mono ?_); (case side1 => repeat (first | exact (Kd.C_below HR0.out HB.out) | (with_reducible refine Kd.C_alloc ?_ _) | (with_reducible refine Kd.C_drewN ?_ _) | (with_reducible refine Kd.C_drew ?_))); (case side2 => exact HC0.out); rintro e w24 ⟨rfl, hb⟩; refine ⟨_, rfl, ?_⟩; have n0_ := Aside0.mk (below_step (by repeat (first | (with_reducible first | exact HB.out | apply below_alloc | apply pw_below_drewN | apply below_drew1) | exact HB.out)) hb); clear HB; have HB := n0_; clear n0_; (try clear hb); (try clear hb2); (try clear hk); (try clear hi)) | ((with_reducible refine gate_callee (f := 40) rfl ?_); refine goesL_ (some 56) rfl rfl Try.func40 (by kernel_rfl) rfl #[.int .i64 t156] rfl (by (try simp only [List.map_toArray, List.map_cons, List.map_nil]); first | done | rfl | (simp only [List.length_drop, List.length_take]; rfl)) ?_; (with_reducible refine (lysimeterlaw24_num.calls t156 t157 _ A17.out).mono ?_); rintro e w' ⟨rfl, ⟨nd, rfl⟩⟩; refine ⟨_, rfl, ?_⟩))
                  go_ret
                  exact ⟨by first | rfl | (simp [errW_none, errW_some] <;> rfl) | (simp [*, errW_none, errW_some] <;> rfl), by repeat (first | (with_reducible first | exact HB.out | apply below_alloc | apply pw_below_drewN | apply below_drew1) | exact HB.out)⟩
              · rw [if_neg c15] at H
                have c15b0 : decide (x11_2 ≤ a2) = false := decide_eq_false c15
                clear c15
                obtain rfl := Option.some.inj H
                go_wp2
                go_ret
                exact ⟨by first | rfl | (simp [errW_none, errW_some] <;> rfl) | (simp [*, errW_none, errW_some] <;> rfl), by repeat (first | (with_reducible first | exact HB.out | apply below_alloc | apply pw_below_drewN | apply below_drew1) | exact HB.out)⟩
        · rw [if_neg c13] at H
          have c13b0 : (t154 == 0) = false := beq_eq_false_iff_ne.mpr c13
          have c13b1 : (t154 != 0) = true := bne_iff_ne.mpr c13
          obtain rfl := Option.some.inj H
          go_wp2_with (first | ((with_reducible refine gate_callee (f := 45) rfl ?_); refine goesL_ (some 35) rfl rfl Try.func45 (by kernel_rfl) rfl #[.slice A0 l0.length c0, .int .i64 a1, .int .i64 a2] rfl (by (try simp only [List.map_toArray, List.map_cons, List.map_nil]); first | done | rfl | (simp only [List.length_drop, List.length_take]; rfl)) ?_; (with_reducible refine (choose_Peak.calls _ _ l0 a1 a2 t152 t153 _ ?side1 ?side2 A11.out).mono ?_); (case side1 => repeat (first | exact (Kd.C_below HR0.out HB.out) | (with_reducible refine Kd.C_alloc ?_ _) | (with_reducible refine Kd.C_drewN ?_ _) | (with_reducible refine Kd.C_drew ?_))); (case side2 => exact HC0.out); rintro e w25 ⟨rfl, hb⟩; refine ⟨_, rfl, ?_⟩; have n0_ := Aside0.mk (below_step (by repeat (first | (with_reducible first | exact HB.out | apply below_alloc | apply pw_below_drewN | apply below_drew1) | exact HB.out)) hb); clear HB; have HB := n0_; clear n0_; (try clear hb); (try clear hb2); (try clear hk); (try clear hi)) | ((with_reducible refine gate_callee (f := 40) rfl ?_); refine goesL_ (some 39) rfl rfl Try.func40 (by kernel_rfl) rfl #[.int .i64 t153] rfl (by (try simp only [List.map_toArray, List.map_cons, List.map_nil]); first | done | rfl | (simp only [List.length_drop, List.length_take]; rfl)) ?_; (with_reducible refine (lysimeterlaw24_num.calls t153 t154 _ A12.out).mono ?_); rintro e w' ⟨rfl, ⟨nd, rfl⟩⟩; refine ⟨_, rfl, ?_⟩))
          go_ret
          exact ⟨by first | rfl | (simp [errW_none, errW_some] <;> rfl) | (simp [*, errW_none, errW_some] <;> rfl), by repeat (first | (with_reducible first | exact HB.out | apply below_alloc | apply pw_below_drewN | apply below_drew1) | exact HB.out)⟩
def lysimeterlaw24_ChoosePeak.Pure : Prop := ∀ (l0 : List Int) (a1 : Int) (a2 : Int), l0.length ≤ maxLen → l0.length * 8 ≤ 140737488351232 → (∀ x ∈ l0, (Lit.int .i64 x).wf = true) → (Lit.int .i64 a1).wf = true → (Lit.int .i64 a2).wf = true → ∃ k, lysimeterlaw24_ChoosePeak.f k l0 a1 a2 = some true
theorem lysimeterlaw24_ChoosePeak.walk (P : lysimeterlaw24_ChoosePeak.Pure) (a0 : Option Addr) (len0 cap0 : Nat) (z0 : List Int) (a1 : Int) (a2 : Int) (w : World) (w0 : (a0 = none ∧ len0 = 0 ∧ cap0 = 0 ∧ z0 = []) ∨ ∃ x, a0 = some x ∧ len0 ≤ cap0 ∧ cap0 ≤ maxLen ∧ z0.length = cap0 ∧ (∀ i, i < z0.length → w.cell? (x.add i) = some (.int .i64 (z0.getD i 0))) ∧ ∀ n ∈ z0, (Lit.int .i64 n).wf = true) (y0 : len0 * 8 ≤ 140737488351232) (w1 : (Lit.int .i64 a1).wf = true) (w2 : (Lit.int .i64 a2).wf = true) :
    Calls Try.prog 10 #[.slice a0 len0 cap0, .int .i64 a1, .int .i64 a2] w fun e w' => e = .returned (.bool true) ∧ Below w.heap.size w w' := by
  obtain ⟨l0, rfl, hr0, hm0, hw0, hc0⟩ := ReadsInt.ofRowC w0
  obtain ⟨k, h⟩ := P l0 a1 a2 hm0 y0 hw0 w1 w2
  refine (lysimeterlaw24_ChoosePeak.calls k _ _ l0 a1 a2 true w (Kd.C_of_reads (d := (0 : Int)) (h1 := fun _ => rfl) hr0) hc0 h).mono ?_
  rintro e w' ⟨rfl, hd⟩
  exact ⟨rfl, hd⟩
end Go.Proofs.Ytemnfnbjapobcaa.Ch
end
section
namespace Go.Proofs.Ytemnfnbjapobcaa.Ch
open Go.RowKit Go.Proofs.YtemnfnbjapobcaaW.PrintWords Go.Proofs.YtemnfnbjapobcaaW.PrintLast Go.Proofs.YtemnfnbjapobcaaW.PrintMore
attribute [local go_sem] max2_int min2_int max_two min_two max_three min_three max_four min_four   -- for this text's walks alone
set_option linter.unusedVariables false
set_option linter.unusedSimpArgs false
theorem eqA29 (d : Nat) (w : World) (x0 y0 : Int) (x1 y1 : Int) (x2 y2 : Int) (x3 y3 : Int) :
    (Op.equalIn (d + 2) 29 (.agg #[.int .i64 x0, .int .i64 x1, .int .i64 x2, .int .i64 x3]) (.agg #[.int .i64 y0, .int .i64 y1, .int .i64 y2, .int .i64 y3])).run Try.prog w = .ok (x0 == y0 && (x1 == y1 && (x2 == y2 && (x3 == y3)))) w := by
  refine eqA_of Try.underlying29 (by kernel_rfl) ?_
  refine eqf_cons (by rfl) (by go_simp; rfl) (by go_simp; rfl) (by go_simp) ?_
  refine eqf_cons (by rfl) (by go_simp; rfl) (by go_simp; rfl) (by go_simp) ?_
  refine eqf_cons (by rfl) (by go_simp; rfl) (by go_simp; rfl) (by go_simp) ?_
  exact eqf_last (by rfl) (by go_simp; rfl) (by go_simp; rfl) (by go_simp)
end Go.Proofs.Ytemnfnbjapobcaa.Ch
end
section
namespace Go.Proofs.Ytemnfnbjapobcaa.Pure
open Go.RowKit Go.Proofs.Ytemnfnbjapobcaa.Ch Go.Proofs.YtemnfnbjapobcaaW.PrintWords Go.Proofs.YtemnfnbjapobcaaW.PrintLast
open Go.Proofs.Ytemnfnbjapobcaa.HS
theorem choose_alive : lysimeterlaw24_alive.f = some true := by decide +kernel
theorem ok1 {l0 : List Int} (hl : ∀ x ∈ l0, (Lit.int .i64 x).wf = true) (h : ¬ (l0.length : Int) > 400) {a : Int} (w0 : (Lit.int .i64 a).wf = true) : (okL l0 && InB a) = true := by
  simp only [Bool.and_eq_true, okL_iff, inB_iff]
  exact ⟨⟨fun x hx => FM.i64_of_wf (hl x hx), by omega⟩, FM.i64_of_wf w0⟩
end Go.Proofs.Ytemnfnbjapobcaa.Pure
end
section
namespace Go.Proofs.Ytemnfnbjapobcaa.Pure
open Go.RowKit Go.Proofs.Ytemnfnbjapobcaa.Ch Go.Proofs.YtemnfnbjapobcaaW.PrintWords Go.Proofs.YtemnfnbjapobcaaW.PrintLast
open Go.Proofs.Ytemnfnbjapobcaa.HS
theorem ok2 {l0 : List Int} (hl : ∀ x ∈ l0, (Lit.int .i64 x).wf = true) (h : ¬ (l0.length : Int) > 400) {a b : Int} (w0 : (Lit.int .i64 a).wf = true) (w1 : FS.In b) : (okL l0 && InB a && InB b) = true := by
  rw [ok1 hl h w0, inB_iff.mpr w1]; rfl
end Go.Proofs.Ytemnfnbjapobcaa.Pure
end
section
namespace Go.Proofs.Ytemnfnbjapobcaa.Pure
open Go.RowKit Go.Proofs.Ytemnfnbjapobcaa.Ch Go.Proofs.YtemnfnbjapobcaaW.PrintWords Go.Proofs.YtemnfnbjapobcaaW.PrintLast
open Go.Proofs.Ytemnfnbjapobcaa.HS
theorem peak_ge (l : List Int) (s : Int) (o : Option Mo) : ∀ (n i : Nat), i < n → (castBy l s o ((i : Int) + 1)).1 ≤ peakAt l s o n
  | 0, i, h => absurd h (Nat.not_lt_zero i)
  | n + 1, i, h => by
    show _ ≤ max (peakAt l s o n) (castBy l s o ((n : Int) + 1)).1
    rcases Nat.lt_succ_iff_lt_or_eq.mp h with h1 | rfl
    · exact Int.le_trans (peak_ge l s o n i h1) (Int.le_max_left _ _)
    · exact Int.le_max_right _ _
theorem peak_one {l : List Int} (hin : AllIn l) (s : Int) (o : Option Mo) : ∀ n : Nat, ∃ i : Nat, i ≤ n ∧ (castBy l s o ((i : Int) + 1)).1 = peakAt l s o (n + 1)
  | 0 => ⟨0, Nat.le_refl _, by
    show (castBy l s o (((0 : Nat) : Int) + 1)).1 = max (-9223372036854775808) (castBy l s o (((0 : Nat) : Int) + 1)).1
    have h := (Ho.castBy_in hin s o (((0 : Nat) : Int) + 1)).1
    rw [Int.max_eq_right h]⟩
  | n + 1 => by
    obtain ⟨i, hi, e⟩ := peak_one hin s o n
    rcases Int.le_total (peakAt l s o (n + 1)) (castBy l s o (((n + 1 : Nat) : Int) + 1)).1 with h | h
    · exact ⟨n + 1, Nat.le_refl _, by
        show _ = max (peakAt l s o (n + 1)) (castBy l s o (((n + 1 : Nat) : Int) + 1)).1
        rw [Int.max_eq_right h]⟩
    · exact ⟨i, by omega, by
        show _ = max (peakAt l s o (n + 1)) (castBy l s o (((n + 1 : Nat) : Int) + 1)).1
        rw [Int.max_eq_left h, e]⟩
theorem peak_l0 (l : List Int) (s top : Int) (N : Nat) (hN : N ≤ 30) (o : Option Mo) (hc : ∀ i : Nat, i < N → choose_Cast.f l s ((i : Int) + 1) = some ((castBy l s o ((i : Int) + 1)).1, 0)) (ht : ∀ i : Nat, i < N → (castBy l s o ((i : Int) + 1)).1 ≤ top) (d : Nat) : ∀ (i : Nat) (b : Bool), i + d = N → (b = true ∨ ∃ j, i ≤ j ∧ j < N ∧ (castBy l s o ((j : Int) + 1)).1 = top) → lysimeterlaw24_ChoosePeak.l0 (d + 1) l s (N : Int) top b ((i : Int) + 1) = some true := by
  induction d with
  | zero =>
    intro i b hi hb
    rw [lysimeterlaw24_ChoosePeak.l0, if_neg (by omega)]
    rcases hb with rfl | ⟨j, h1, h2, _⟩
    · rfl
    · omega
  | succ d ih =>
    intro i b hi hb
    have hi' : i < N := by omega
    have h1 := hc i hi'
    have h2 := ht i hi'
    have ew : wrap64 ((i : Int) + 1 + 1) = ((i + 1 : Nat) : Int) + 1 := by rw [FM.wrap64_id (by omega) (by omega)]; rfl
    obtain ⟨x, hx⟩ : ∃ x, (castBy l s o ((i : Int) + 1)).1 = x := ⟨_, rfl⟩
    rw [hx] at h1 h2
    have c1 : (i : Int) + 1 ≤ (N : Int) := by clear hb h1; omega
    have c2 : ¬ x > top := Int.not_lt.mpr h2
    rw [lysimeterlaw24_ChoosePeak.l0, if_pos c1, h1, Option.bind_some]
    unfold lysimeterlaw24_num.f
    rw [Option.bind_some, if_pos rfl, if_neg c2]
    by_cases hb' : b = true
    · rw [if_pos hb', ew]
      exact ih (i + 1) true (by clear hb h1; omega) (.inl rfl)
    · rw [if_neg hb', ew]
      refine ih (i + 1) _ (by clear hb h1; omega) ?_
      rcases hb with h | ⟨j, j1, j2, j3⟩
      · exact absurd h hb'
      · rcases Nat.eq_or_lt_of_le j1 with rfl | hj
        · rw [hx] at j3
          exact .inl (by rw [j3]; exact beq_self_eq_true _)
        · exact .inr ⟨j, hj, j2, j3⟩
theorem ChoosePeak : lysimeterlaw24_ChoosePeak.Pure := by
  intro l0 a b _ _ hl w0 w1
  have out : ∀ k, lysimeterlaw24_ChoosePeak.j0 (k + 1) l0 a b true true = some true := fun k => by rw [lysimeterlaw24_ChoosePeak.j0, if_pos rfl]
  by_cases h : (l0.length : Int) > 200
  · refine ⟨1, ?_⟩
    unfold lysimeterlaw24_ChoosePeak.f
    rw [choose_alive, Option.bind_some, if_pos rfl, if_pos h]
    exact out 0
  by_cases h1 : b < 1
  · refine ⟨1, ?_⟩
    unfold lysimeterlaw24_ChoosePeak.f
    rw [choose_alive, Option.bind_some, if_pos rfl, if_neg h, if_pos h1]
    exact out 0
  by_cases h2 : b > 30
  · refine ⟨1, ?_⟩
    unfold lysimeterlaw24_ChoosePeak.f
    rw [choose_alive, Option.bind_some, if_pos rfl, if_neg h, if_neg h1, decide_eq_true h2]
    exact out 0
  obtain ⟨K, rfl⟩ : ∃ K : Nat, b = (K : Int) + 1 := ⟨(b - 1).toNat, by omega⟩
  refine ⟨K + 1 + 1 + 1, ?_⟩
  unfold lysimeterlaw24_ChoosePeak.f
  have e3 : choose_Peak.f l0 a ((K : Int) + 1) = some (peakS l0 a ((K : Int) + 1)) := if_pos (ok2 hl (by omega) w0 ⟨by omega, by omega⟩)
  rw [choose_alive, Option.bind_some, if_pos rfl, if_neg h, if_neg h1, decide_eq_false h2, lysimeterlaw24_ChoosePeak.j0, if_neg (by decide), e3, Option.bind_some]
  unfold lysimeterlaw24_num.f
  rw [Option.bind_some]
  by_cases hn : noCast l0 a ((K : Int) + 1)
  · have e : peakS l0 a ((K : Int) + 1) = (0, 1) := if_pos hn
    rw [e]
    rfl
  · have e : peakS l0 a ((K : Int) + 1) = (peakAt l0 a (wayOf l0 a) (K + 1), 0) := by
      unfold peakS
      rw [if_neg hn]
      rfl
    have hin : AllIn l0 := fun x hx => FM.i64_of_wf (hl x hx)
    have hK : K + 1 ≤ 30 := by omega
    have hc : ∀ i : Nat, i < K + 1 → choose_Cast.f l0 a ((i : Int) + 1) = some ((castBy l0 a (wayOf l0 a) ((i : Int) + 1)).1, 0) := fun i hi => by
      have e4 : choose_Cast.f l0 a ((i : Int) + 1) = some (chosenS l0 a ((i : Int) + 1)) := if_pos (ok2 hl (by omega) w0 ⟨by omega, by omega⟩)
      rw [e4]
      have hn2 : ¬ noCast l0 a ((i : Int) + 1) := Ho.noCast_le hn (by omega) (by omega)
      unfold chosenS
      rw [if_neg hn2]
    rw [e, if_pos rfl]
    obtain ⟨j, j1, j2⟩ := peak_one hin a (wayOf l0 a) K
    have ht := peak_ge l0 a (wayOf l0 a) (K + 1)
    obtain ⟨top, htop⟩ : ∃ top, peakAt l0 a (wayOf l0 a) (K + 1) = top := ⟨_, rfl⟩
    rw [htop] at j2 ht ⊢
    exact peak_l0 l0 a top (K + 1) hK (wayOf l0 a) hc ht (K + 1) 0 false (by omega) (.inr ⟨j, Nat.zero_le _, Nat.lt_succ_of_le j1, j2⟩)
end Go.Proofs.Ytemnfnbjapobcaa.Pure
end
