-- Laid together by wip/shake.py out of: Rlx3 RolP RolQ PureRollupCounts LawRollupCounts
import Derived.Test.YtdglifoakdkheaaRollupCountsm4
import Derived.Test.YtdglifoakdkheaaRows
import Derived.WalkKit
import Derived.ProofKit
import Derived.OpenShut
import Derived.ShutString
import Derived.ChangeOld
import Derived.Below
import Derived.SizedLaws
import Derived.Deep.Slices
import Derived.WideShapes
section
namespace Go.Proofs.Ytdglifoakdkheaa.Rl
open Go.RowKit Go.Proofs.YtdglifoakdkheaaW.PrintWords Go.Proofs.YtdglifoakdkheaaW.PrintLast Go.Proofs.YtdglifoakdkheaaW.PrintMore
attribute [local go_sem] max2_int min2_int max_two min_two max_three min_three max_four min_four   -- for this text's walks alone
set_option linter.unusedVariables false
set_option linter.unusedSimpArgs false
mutual
def lysimeterlaw19_RollupCounts.j0 : Nat → List (S41) → Int → Bool → Bool → Option (Bool)
  | 0, _, _, _, _ => none
  | k + 1, x0, x1, x5, x26 => if x26 = true then (some x5) else ((rollup_Buckets.f x0 x1).bind fun bt115 => ((lysimeterlaw19_num.f bt115.2).bind fun t119 => (if t119 = 0 then (lysimeterlaw19_RollupCounts.l0 k x0 x1 bt115.1 0 0) else (some ((bt115.1.length : Int) == 0)))))
def lysimeterlaw19_RollupCounts.l0 : Nat → List (S41) → Int → List (S52) → Int → Int → Option (Bool)
  | 0, _, _, _, _, _ => none
  | k + 1, x0, x1, x6, x8, x9 => if x9 < (x6.length : Int) then (lysimeterlaw19_RollupCounts.l1 k x0 x1 x6 x8 x9 0) else (some (x8 == (x0.length : Int)))
def lysimeterlaw19_RollupCounts.l1 : Nat → List (S41) → Int → List (S52) → Int → Int → Int → Option (Bool)
  | 0, _, _, _, _, _, _ => none
  | k + 1, x0, x1, x6, x8, x9, x10 => if x8 < (x0.length : Int) then (if 0 ≤ x8 then (if 0 ≤ x9 then (if x9 < (x6.length : Int) then (if ((rd_T41 x0 x8).f0) ≥ ((rd_T52 x6 x9).f0) then (lysimeterlaw19_RollupCounts.j3 k x0 x1 x6 x8 x9 x10 (decide ((wrap64 (((rd_T41 x0 x8).f0) - ((rd_T52 x6 x9).f0))) < x1))) else (lysimeterlaw19_RollupCounts.j3 k x0 x1 x6 x8 x9 x10 false)) else (none)) else (none)) else (none)) else (lysimeterlaw19_RollupCounts.j3 k x0 x1 x6 x8 x9 x10 false)
def lysimeterlaw19_RollupCounts.j3 : Nat → List (S41) → Int → List (S52) → Int → Int → Int → Bool → Option (Bool)
  | 0, _, _, _, _, _, _, _ => none
  | k + 1, x0, x1, x6, x8, x9, x10, x77 => if x77 = true then (if 0 ≤ x8 then (if x8 < (x0.length : Int) then (if 0 ≤ x9 then (if x9 < (x6.length : Int) then (if ((rd_T41 x0 x8).f1) < ((rd_T52 x6 x9).f3) then (some false) else (if ((rd_T41 x0 x8).f1) > ((rd_T52 x6 x9).f4) then (some false) else (lysimeterlaw19_RollupCounts.l1 k x0 x1 x6 (wrap64 (x8 + 1)) x9 (wrap64 (x10 + 1))))) else (none)) else (none)) else (none)) else (none)) else (if 0 ≤ x9 then (if x9 < (x6.length : Int) then (if x10 = ((rd_T52 x6 x9).f1) then (if x10 = 0 then (some false) else (if 0 ≤ (wrap64 (x8 - 1)) then (if (wrap64 (x8 - 1)) < (x0.length : Int) then (if ((rd_T52 x6 x9).f5) = ((rd_T41 x0 (wrap64 (x8 - 1))).f1) then (if x9 > 0 then (if 0 ≤ (wrap64 (x9 - 1)) then (if (wrap64 (x9 - 1)) < (x6.length : Int) then (if ((rd_T52 x6 x9).f0) ≤ ((rd_T52 x6 (wrap64 (x9 - 1))).f0) then (some false) else (lysimeterlaw19_RollupCounts.l0 k x0 x1 x6 x8 (wrap64 (x9 + 1)))) else (none)) else (none)) else (lysimeterlaw19_RollupCounts.l0 k x0 x1 x6 x8 (wrap64 (x9 + 1)))) else (some false)) else (none)) else (none))) else (some false)) else (none)) else (none))
end
def lysimeterlaw19_RollupCounts.f (k : Nat) (l0 : List (S41)) (a1 : Int) : Option (Bool) := (lysimeterlaw19_alive.f).bind fun t114 => (if t114 = true then (if (l0.length : Int) > 500 then (lysimeterlaw19_RollupCounts.j0 k l0 a1 t114 true) else (if a1 < 1 then (lysimeterlaw19_RollupCounts.j0 k l0 a1 t114 true) else (lysimeterlaw19_RollupCounts.j0 k l0 a1 t114 (decide (a1 > 1099511627776))))) else (lysimeterlaw19_RollupCounts.j0 k l0 a1 t114 true))
set_option maxHeartbeats 8000000 in
set_option maxRecDepth 100000 in
theorem lysimeterlaw19_RollupCounts.calls (k : Nat) (A0 : Option Addr) (c0 : Nat) (l0 : List (S41)) (a1 : Int) (r : Bool) (w : World) (hr0 : Kd.C k41 w A0 l0.length l0) (hc0 : l0.length ≤ c0) (h : lysimeterlaw19_RollupCounts.f k l0 a1 = some r) :
    Calls Try.prog 10 #[.slice A0 l0.length c0, .int .i64 a1] w fun e w' => e = .returned (.bool r) ∧ Below w.heap.size w w' := by
  have HR0 := Aside0.mk hr0
  have HC0 := Aside0.mk hc0
  clear hr0 hc0
  have HB := Aside0.mk (Below.refl w.heap.size w)
  have H : ((lysimeterlaw19_alive.f).bind fun t114 => (if t114 = true then (if (l0.length : Int) > 500 then (lysimeterlaw19_RollupCounts.j0 k l0 a1 t114 true) else (if a1 < 1 then (lysimeterlaw19_RollupCounts.j0 k l0 a1 t114 true) else (lysimeterlaw19_RollupCounts.j0 k l0 a1 t114 (decide (a1 > 1099511627776))))) else (lysimeterlaw19_RollupCounts.j0 k l0 a1 t114 true))) = some r := h
  clear h
  replace H := Option.bind_eq_some_iff.mp H
  obtain ⟨t114, A30, H⟩ := H
  replace H : (if t114 = true then (if (l0.length : Int) > 500 then (lysimeterlaw19_RollupCounts.j0 k l0 a1 t114 true) else (if a1 < 1 then (lysimeterlaw19_RollupCounts.j0 k l0 a1 t114 true) else (lysimeterlaw19_RollupCounts.j0 k l0 a1 t114 (decide (a1 > 1099511627776))))) else (lysimeterlaw19_RollupCounts.j0 k l0 a1 t114 true)) = some r := H
  have A3 := Aside0.mk A30
  clear A30
  have HC4 := Aside0.mk H
  clear H
  go_enter Try.func10, Try.ntmps10
  go_upto_region 2 with (first | (go_at_call 24; (with_reducible refine (lysimeterlaw19_alive.calls  t114 _ A3.out).mono ?_); rintro e w5 ⟨rfl, hb⟩; have n0_ := Aside0.mk (below_step (by repeat (first | (with_reducible first | exact HB.out | apply below_alloc | apply pw_below_drewN | apply below_drew1) | exact HB.out)) hb); clear HB; have HB := n0_; clear n0_; (try clear hb); (try clear hb2); (try clear hk); (try clear hi)))
  repeat (go_quiet (first | (go_at_call 24; (with_reducible refine (lysimeterlaw19_alive.calls  t114 _ A3.out).mono ?_); rintro e w5 ⟨rfl, hb⟩; have n0_ := Aside0.mk (below_step (by repeat (first | (with_reducible first | exact HB.out | apply below_alloc | apply pw_below_drewN | apply below_drew1) | exact HB.out)) hb); clear HB; have HB := n0_; clear n0_; (try clear hb); (try clear hb2); (try clear hk); (try clear hi))); go_upto_region 2 with (first | (go_at_call 24; (with_reducible refine (lysimeterlaw19_alive.calls  t114 _ A3.out).mono ?_); rintro e w5 ⟨rfl, hb⟩; have n0_ := Aside0.mk (below_step (by repeat (first | (with_reducible first | exact HB.out | apply below_alloc | apply pw_below_drewN | apply below_drew1) | exact HB.out)) hb); clear HB; have HB := n0_; clear n0_; (try clear hb); (try clear hb2); (try clear hk); (try clear hi))))
  (try simp only [Act.put, List.setIfInBounds_toArray, List.set_cons_zero, List.set_cons_succ])
  go_cut [26] (fun v26 wc => ∃ (kq : Nat) (x26_3 : Bool), v26 = .bool x26_3 ∧ Aside0 (lysimeterlaw19_RollupCounts.j0 kq l0 a1 t114 x26_3 = some r) ∧ Aside0 (kq ≤ k) ∧ Aside0 (Below w.heap.size w wc))
  case first =>
    have H := HC4.out
    clear HC4
    by_cases c6 : t114 = true
    · subst c6
      have H1 : (if (l0.length : Int) > 500 then (lysimeterlaw19_RollupCounts.j0 k l0 a1 true true) else (if a1 < 1 then (lysimeterlaw19_RollupCounts.j0 k l0 a1 true true) else (lysimeterlaw19_RollupCounts.j0 k l0 a1 true (decide (a1 > 1099511627776))))) = some r := by rw [if_pos rfl] at H; exact H
      clear H
      have H := H1
      clear H1
      by_cases c7 : (l0.length : Int) > 500
      · rw [if_pos c7] at H
        have c7b0 : decide (500 < (l0.length : Int)) = true := decide_eq_true c7
        have c7b1 : decide (500 < l0.length) = true := decide_eq_true (by omega)
        clear c7
        (first | rw [c7b0] | (simp only [i64_w, i32_w]; rw [c7b0]) | skip)
        have H' := Aside0.mk H
        clear H
        go_wp2
        repeat (go_quiet (fail); try go_wp2)
        go_meet
        case rel => exact ⟨_, (true), (by first | rfl | (simp; done) | (simp [*]; done)), H', ⟨by first | omega | exact Nat.le_refl _⟩, ⟨by repeat (first | (with_reducible first | exact HB.out | apply below_alloc | apply pw_below_drewN | apply below_drew1) | exact HB.out)⟩⟩
      · rw [if_neg c7] at H
        have c7b0 : decide (500 < (l0.length : Int)) = false := decide_eq_false c7
        have c7b1 : decide (500 < l0.length) = false := decide_eq_false (by omega)
        clear c7
        (first | rw [c7b0] | (simp only [i64_w, i32_w]; rw [c7b0]) | skip)
        by_cases c8 : a1 < 1
        · rw [if_pos c8] at H
          have c8b0 : decide (a1 < 1) = true := decide_eq_true c8
          clear c8
          have H' := Aside0.mk H
          clear H
          go_wp2
          repeat (go_quiet (fail); try go_wp2)
          go_meet
          case rel => exact ⟨_, (true), (by first | rfl | (simp; done) | (simp [*]; done)), H', ⟨by first | omega | exact Nat.le_refl _⟩, ⟨by repeat (first | (with_reducible first | exact HB.out | apply below_alloc | apply pw_below_drewN | apply below_drew1) | exact HB.out)⟩⟩
        · rw [if_neg c8] at H
          have c8b0 : decide (a1 < 1) = false := decide_eq_false c8
          clear c8
          have H' := Aside0.mk H
          clear H
          go_wp2
          repeat (go_quiet (fail); try go_wp2)
          go_meet
          case rel => exact ⟨_, (decide (a1 > 1099511627776)), (by first | rfl | (simp; done) | (simp [*]; done)), H', ⟨by first | omega | exact Nat.le_refl _⟩, ⟨by repeat (first | (with_reducible first | exact HB.out | apply below_alloc | apply pw_below_drewN | apply below_drew1) | exact HB.out)⟩⟩
    · replace c6 := Bool.eq_false_iff.mpr c6
      subst c6
      have H1 : (lysimeterlaw19_RollupCounts.j0 k l0 a1 false true) = some r := by rw [if_neg (show ¬ (false = true) by decide)] at H; exact H
      clear H
      have H := H1
      clear H1
      have H' := Aside0.mk H
      clear H
      go_wp2
      repeat (go_quiet (fail); try go_wp2)
      go_meet
      case rel => exact ⟨_, (true), (by first | rfl | (simp; done) | (simp [*]; done)), H', ⟨by first | omega | exact Nat.le_refl _⟩, ⟨by repeat (first | (with_reducible first | exact HB.out | apply below_alloc | apply pw_below_drewN | apply below_drew1) | exact HB.out)⟩⟩
  case rest =>
    clear HC4
    try clear c1
    try clear p2
    try clear c6
    try clear c7
    try clear c7b0
    try clear c7b1
    try clear c8
    try clear c8b0
    obtain ⟨kq, x26_3, rfl, HA, HJ3, HB⟩ := hcut
    cases kq with
    | zero => exact absurd HA.out (by simp [lysimeterlaw19_RollupCounts.j0])
    | succ kj3 =>
      have H := HA.out
      clear HA
      simp only [lysimeterlaw19_RollupCounts.j0] at H
      by_cases c9 : x26_3 = true
      · subst c9
        have H1 : (some t114) = some r := by rw [if_pos rfl] at H; exact H
        clear H
        have H := H1
        clear H1
        obtain rfl := Option.some.inj H
        go_wp2
        repeat (go_quiet (fail); try go_wp2)
        go_ret
        exact ⟨by first | rfl | (simp [errW_none, errW_some] <;> rfl) | (simp [*, errW_none, errW_some] <;> rfl), by repeat (first | (with_reducible first | exact HB.out | apply below_alloc | apply pw_below_drewN | apply below_drew1) | exact HB.out)⟩
      · replace c9 := Bool.eq_false_iff.mpr c9
        subst c9
        have H1 : ((rollup_Buckets.f l0 a1).bind fun bt115 => ((lysimeterlaw19_num.f bt115.2).bind fun t119 => (if t119 = 0 then (lysimeterlaw19_RollupCounts.l0 kj3 l0 a1 bt115.1 0 0) else (some ((bt115.1.length : Int) == 0))))) = some r := by rw [if_neg (show ¬ (false = true) by decide)] at H; exact H
        clear H
        have H := H1
        clear H1
        replace H := Option.bind_eq_some_iff.mp H
        obtain ⟨⟨t115, t116⟩, A100, H⟩ := H
        replace H : ((lysimeterlaw19_num.f t116).bind fun t119 => (if t119 = 0 then (lysimeterlaw19_RollupCounts.l0 kj3 l0 a1 t115 0 0) else (some ((t115.length : Int) == 0)))) = some r := H
        have A10 := Aside0.mk A100
        clear A100
        replace H := Option.bind_eq_some_iff.mp H
        obtain ⟨t119, A110, H⟩ := H
        replace H : (if t119 = 0 then (lysimeterlaw19_RollupCounts.l0 kj3 l0 a1 t115 0 0) else (some ((t115.length : Int) == 0))) = some r := H
        have A11 := Aside0.mk A110
        clear A110
        by_cases c12 : t119 = 0
        · rw [if_pos c12] at H
          have c12b0 : (t119 == 0) = true := beq_iff_eq.mpr c12
          have c12b1 : (t119 != 0) = false := bne_eq_false_iff_eq.mpr c12
          clear c12
          have H' := Aside0.mk H
          clear H
          go_wp2_with (first | (go_at_call 25; (with_reducible refine (rollup_Buckets.calls _ _ l0 a1 t115 t116 _ ?side1 ?side2 A10.out).mono ?_); (case side1 => repeat (first | exact (Kd.C_below HR0.out HB.out) | (with_reducible refine Kd.C_alloc ?_ _) | (with_reducible refine Kd.C_drewN ?_ _) | (with_reducible refine Kd.C_drew ?_))); (case side2 => exact HC0.out); rintro e w13 ⟨v117, rfl, ho0, hb⟩; have n0_ := Aside0.mk (Kd.R_lower ho0 (below_size (by repeat (first | (with_reducible first | exact HB.out | apply below_alloc | apply pw_below_drewN | apply below_drew1) | exact HB.out)))); have n1_ := Aside0.mk (below_step (by repeat (first | (with_reducible first | exact HB.out | apply below_alloc | apply pw_below_drewN | apply below_drew1) | exact HB.out)) hb); clear HB; have HO118 := n0_; have HB := n1_; clear n0_ n1_; (try clear hb); (try clear hb2); (try clear hk); (try clear hi); (try clear ho0)) | (go_at_call 27; (with_reducible refine (lysimeterlaw19_num.calls t116 t119 _ A11.out).mono ?_); rintro e w' ⟨rfl, ⟨nd, rfl⟩⟩; (try first | exact ⟨rfl, _, World.drewN_drewN _ _ _⟩ | exact ⟨rfl, _, Eq.trans (World.drewN_drewN _ _ _) (congrArg (World.drewN _) (Nat.add_assoc _ _ _))⟩)))
          repeat (go_quiet (first | (go_at_call 25; (with_reducible refine (rollup_Buckets.calls _ _ l0 a1 t115 t116 _ ?side1 ?side2 A10.out).mono ?_); (case side1 => repeat (first | exact (Kd.C_below HR0.out HB.out) | (with_reducible refine Kd.C_alloc ?_ _) | (with_reducible refine Kd.C_drewN ?_ _) | (with_reducible refine Kd.C_drew ?_))); (case side2 => exact HC0.out); rintro e w13 ⟨v117, rfl, ho0, hb⟩; have n0_ := Aside0.mk (Kd.R_lower ho0 (below_size (by repeat (first | (with_reducible first | exact HB.out | apply below_alloc | apply pw_below_drewN | apply below_drew1) | exact HB.out)))); have n1_ := Aside0.mk (below_step (by repeat (first | (with_reducible first | exact HB.out | apply below_alloc | apply pw_below_drewN | apply below_drew1) | exact HB.out)) hb); clear HB; have HO118 := n0_; have HB := n1_; clear n0_ n1_; (try clear hb); (try clear hb2); (try clear hk); (try clear hi); (try clear ho0)) | (go_at_call 27; (with_reducible refine (lysimeterlaw19_num.calls t116 t119 _ A11.out).mono ?_); rintro e w' ⟨rfl, ⟨nd, rfl⟩⟩; (try first | exact ⟨rfl, _, World.drewN_drewN _ _ _⟩ | exact ⟨rfl, _, Eq.trans (World.drewN_drewN _ _ _) (congrArg (World.drewN _) (Nat.add_assoc _ _ _))⟩))); try go_wp2_with (first | (go_at_call 25; (with_reducible refine (rollup_Buckets.calls _ _ l0 a1 t115 t116 _ ?side1 ?side2 A10.out).mono ?_); (case side1 => repeat (first | exact (Kd.C_below HR0.out HB.out) | (with_reducible refine Kd.C_alloc ?_ _) | (with_reducible refine Kd.C_drewN ?_ _) | (with_reducible refine Kd.C_drew ?_))); (case side2 => exact HC0.out); rintro e w13 ⟨v117, rfl, ho0, hb⟩; have n0_ := Aside0.mk (Kd.R_lower ho0 (below_size (by repeat (first | (with_reducible first | exact HB.out | apply below_alloc | apply pw_below_drewN | apply below_drew1) | exact HB.out)))); have n1_ := Aside0.mk (below_step (by repeat (first | (with_reducible first | exact HB.out | apply below_alloc | apply pw_below_drewN | apply below_drew1) | exact HB.out)) hb); clear HB; have HO118 := n0_; have HB := n1_; clear n0_ n1_; (try clear hb); (try clear hb2); (try clear hk); (try clear hi); (try clear ho0)) | (go_at_call 27; (with_reducible refine (lysimeterlaw19_num.calls t116 t119 _ A11.out).mono ?_); rintro e w' ⟨rfl, ⟨nd, rfl⟩⟩; (try first | exact ⟨rfl, _, World.drewN_drewN _ _ _⟩ | exact ⟨rfl, _, Eq.trans (World.drewN_drewN _ _ _) (congrArg (World.drewN _) (Nat.add_assoc _ _ _))⟩))))
          go_loopg [8, 9] kj3 (fun kq v8 v9 w' => ∃ (x8_2 : Int) (x9_2 : Int), v8 = .int .i64 x8_2 ∧ v9 = .int .i64 x9_2 ∧ Aside0 (lysimeterlaw19_RollupCounts.l0 kq l0 a1 t115 x8_2 x9_2 = some r) ∧ Aside0 (kq ≤ kj3) ∧ Aside0 (Kd.R k52 52 w' w.heap.size (fun _ => True) v117 t115) ∧ Aside0 (Below w.heap.size w w'))
          case atStart => exact ⟨(0), (0), (by first | rfl | (simp; done) | (simp [*]; done)), (by first | rfl | (simp; done) | (simp [*]; done)), H', ⟨Nat.le_refl _⟩, ⟨by (with_reducible repeat (first | apply Kd.R_alloc | apply Kd.R_drewN | apply Kd.R_drew)); exact HO118.out⟩, ⟨by repeat (first | (with_reducible first | exact HB.out | apply below_alloc | apply pw_below_drewN | apply below_drew1) | exact HB.out)⟩⟩
          case round =>
            clear H'
            try clear c1
            try clear p2
            try clear c6
            try clear c7
            try clear c7b0
            try clear c7b1
            try clear c8
            try clear c8b0
            try clear c9
            try clear c10
            try clear c12
            try clear c12b0
            try clear c12b1
            try clear p2
            obtain ⟨x8_2, x9_2, rfl, rfl, HA, HK2, HO_6, HB⟩ := hrel
            cases gk with
            | zero => exact absurd HA.out (by simp [lysimeterlaw19_RollupCounts.l0])
            | succ k2 =>
              have H := HA.out
              clear HA
              simp only [lysimeterlaw19_RollupCounts.l0] at H
              by_cases c14 : x9_2 < (t115.length : Int)
              · rw [if_pos c14] at H
                have c14b0 : decide (x9_2 < (t115.length : Int)) = true := decide_eq_true c14
                clear c14
                have H' := Aside0.mk H
                clear H
                obtain ⟨Ao15, co15, eo15⟩ := Kd.R_slice HO_6.out
                subst eo15
                go_wp2
                repeat (go_quiet (fail); try go_wp2)
                go_loopg [8, 10] k2 (fun kq v8 v10 w' => ∃ (x8_3 : Int) (x10_3 : Int), v8 = .int .i64 x8_3 ∧ v10 = .int .i64 x10_3 ∧ Aside0 (lysimeterlaw19_RollupCounts.l1 kq l0 a1 t115 x8_3 x9_2 x10_3 = some r) ∧ Aside0 (kq ≤ k2) ∧ Aside0 (Kd.R k52 52 w' w.heap.size (fun _ => True) (.slice Ao15 t115.length co15) t115) ∧ Aside0 (Below w.heap.size w w'))
                case atStart => exact ⟨(x8_2), (0), (by first | rfl | (simp; done) | (simp [*]; done)), (by first | rfl | (simp; done) | (simp [*]; done)), H', ⟨Nat.le_refl _⟩, ⟨by (with_reducible repeat (first | apply Kd.R_alloc | apply Kd.R_drewN | apply Kd.R_drew)); exact HO_6.out⟩, ⟨by repeat (first | (with_reducible first | exact HB.out | apply below_alloc | apply pw_below_drewN | apply below_drew1) | exact HB.out)⟩⟩
                case round =>
                  clear H'
                  try clear c1
                  try clear p2
                  try clear c6
                  try clear c7
                  try clear c7b0
                  try clear c7b1
                  try clear c8
                  try clear c8b0
                  try clear c9
                  try clear c10
                  try clear c12
                  try clear c12b0
                  try clear c12b1
                  try clear c14
                  try clear c14b0
                  try clear p2
                  obtain ⟨x8_3, x10_3, rfl, rfl, HA, HK3, HO_6, HB⟩ := hrel
                  cases gk with
                  | zero => exact absurd HA.out (by simp [lysimeterlaw19_RollupCounts.l1])
                  | succ k3 =>
                    have H := HA.out
                    clear HA
                    simp only [lysimeterlaw19_RollupCounts.l1] at H
                    have HC16 := Aside0.mk H
                    clear H
                    go_upto_region 12 with (fail)
                    repeat (go_quiet (fail); go_upto_region 12 with (fail))
                    go_cut [77] (fun v77 wc => ∃ (kq : Nat) (x77_15 : Bool), v77 = .bool x77_15 ∧ Aside0 (lysimeterlaw19_RollupCounts.j3 kq l0 a1 t115 x8_3 x9_2 x10_3 x77_15 = some r) ∧ Aside0 (kq ≤ k3) ∧ Aside0 (Kd.R k52 52 wc w.heap.size (fun _ => True) (.slice Ao15 t115.length co15) t115) ∧ Aside0 (Below w.heap.size w wc))
                    case first =>
                      have H := HC16.out
                      clear HC16
                      by_cases c17 : x8_3 < (l0.length : Int)
                      · rw [if_pos c17] at H
                        have c17b0 : decide (x8_3 < (l0.length : Int)) = true := decide_eq_true c17
                        clear c17
                        (first | rw [c17b0] | (simp only [i64_w, i32_w]; rw [c17b0]) | skip)
                        by_cases c18 : 0 ≤ x8_3
                        · rw [if_pos c18] at H
                          have c18b0 : decide (0 ≤ x8_3) = true := decide_eq_true c18
                          clear c18
                          by_cases c19 : 0 ≤ x9_2
                          · rw [if_pos c19] at H
                            have c19b0 : decide (0 ≤ x9_2) = true := decide_eq_true c19
                            clear c19
                            by_cases c20 : x9_2 < (t115.length : Int)
                            · rw [if_pos c20] at H
                              have c20b0 : decide (x9_2 < (t115.length : Int)) = true := decide_eq_true c20
                              clear c20
                              by_cases c21 : ((rd_T41 l0 x8_3).f0) ≥ ((rd_T52 t115 x9_2).f0)
                              · rw [if_pos c21] at H
                                have c21b0 : decide (((rd_T52 t115 x9_2).f0) ≤ ((rd_T41 l0 x8_3).f0)) = true := decide_eq_true c21
                                clear c21
                                have H' := Aside0.mk H
                                clear H
                                have p120 : 0 ≤ (x8_3 : Int) := of_decide_eq_true (by first | (with_reducible assumption) | assumption)
                                have q120 : x8_3 < (l0.length : Int) := of_decide_eq_true (by first | (with_reducible assumption) | assumption)
                                obtain ⟨ad120, e120, hx120_0, hx120_1⟩ := at_T41 HR0.out x8_3 p120 q120
                                cases e120
                                replace hx120_0 := (HB.out.cell (World.block_lt_of_cell? w _ hx120_0)).trans hx120_0
                                replace hx120_1 := (HB.out.cell (World.block_lt_of_cell? w _ hx120_1)).trans hx120_1
                                replace p120 := eq_true p120
                                replace q120 := eq_true q120
                                have p121 : 0 ≤ (x9_2 : Int) := of_decide_eq_true (by first | (with_reducible assumption) | assumption)
                                have q121 : x9_2 < (t115.length : Int) := of_decide_eq_true (by first | (with_reducible assumption) | assumption)
                                obtain ⟨ad121, e121, hx121_0, hx121_1, hx121_2, hx121_3, hx121_4, hx121_5⟩ := at_T52 (Kd.R_reads' HO_6.out).2.2 x9_2 p121 q121
                                cases e121
                                replace p121 := eq_true p121
                                replace q121 := eq_true q121
                                have p122 : 0 ≤ (x8_3 : Int) := of_decide_eq_true (by first | (with_reducible assumption) | assumption)
                                have q122 : x8_3 < (l0.length : Int) := of_decide_eq_true (by first | (with_reducible assumption) | assumption)
                                obtain ⟨ad122, e122, hx122_0, hx122_1⟩ := at_T41 HR0.out x8_3 p122 q122
                                obtain rfl : ad120 = ad122 := (by injection e122)
                                replace hx122_0 := (HB.out.cell (World.block_lt_of_cell? w _ hx122_0)).trans hx122_0
                                replace hx122_1 := (HB.out.cell (World.block_lt_of_cell? w _ hx122_1)).trans hx122_1
                                replace p122 := eq_true p122
                                replace q122 := eq_true q122
                                have p123 : 0 ≤ (x9_2 : Int) := of_decide_eq_true (by first | (with_reducible assumption) | assumption)
                                have q123 : x9_2 < (t115.length : Int) := of_decide_eq_true (by first | (with_reducible assumption) | assumption)
                                obtain ⟨ad123, e123, hx123_0, hx123_1, hx123_2, hx123_3, hx123_4, hx123_5⟩ := at_T52 (Kd.R_reads' HO_6.out).2.2 x9_2 p123 q123
                                obtain rfl : ad121 = ad123 := (by injection e123)
                                replace p123 := eq_true p123
                                replace q123 := eq_true q123
                                go_wp2
                                repeat (go_quiet (fail); try go_wp2)
                                go_meet
                                case rel => exact ⟨_, (decide ((wrap64 (((rd_T41 l0 x8_3).f0) - ((rd_T52 t115 x9_2).f0))) < a1)), (by first | rfl | (simp; done) | (simp [*]; done)), H', ⟨by have := HJ3.out; have := HK2.out; have := HK3.out; first | omega | exact Nat.le_refl _⟩, ⟨by (with_reducible repeat (first | apply Kd.R_alloc | apply Kd.R_drewN | apply Kd.R_drew)); exact HO_6.out⟩, ⟨by repeat (first | (with_reducible first | exact HB.out | apply below_alloc | apply pw_below_drewN | apply below_drew1) | exact HB.out)⟩⟩
                              · rw [if_neg c21] at H
                                have c21b0 : decide (((rd_T52 t115 x9_2).f0) ≤ ((rd_T41 l0 x8_3).f0)) = false := decide_eq_false c21
                                clear c21
                                have H' := Aside0.mk H
                                clear H
                                have p120 : 0 ≤ (x8_3 : Int) := of_decide_eq_true (by first | (with_reducible assumption) | assumption)
                                have q120 : x8_3 < (l0.length : Int) := of_decide_eq_true (by first | (with_reducible assumption) | assumption)
                                obtain ⟨ad120, e120, hx120_0, hx120_1⟩ := at_T41 HR0.out x8_3 p120 q120
                                cases e120
                                replace hx120_0 := (HB.out.cell (World.block_lt_of_cell? w _ hx120_0)).trans hx120_0
                                replace hx120_1 := (HB.out.cell (World.block_lt_of_cell? w _ hx120_1)).trans hx120_1
                                replace p120 := eq_true p120
                                replace q120 := eq_true q120
                                have p121 : 0 ≤ (x9_2 : Int) := of_decide_eq_true (by first | (with_reducible assumption) | assumption)
                                have q121 : x9_2 < (t115.length : Int) := of_decide_eq_true (by first | (with_reducible assumption) | assumption)
                                obtain ⟨ad121, e121, hx121_0, hx121_1, hx121_2, hx121_3, hx121_4, hx121_5⟩ := at_T52 (Kd.R_reads' HO_6.out).2.2 x9_2 p121 q121
                                cases e121
                                replace p121 := eq_true p121
                                replace q121 := eq_true q121
                                go_wp2
                                repeat (go_quiet (fail); try go_wp2)
                                go_meet
                                case rel => exact ⟨_, (false), (by first | rfl | (simp; done) | (simp [*]; done)), H', ⟨by have := HJ3.out; have := HK2.out; have := HK3.out; first | omega | exact Nat.le_refl _⟩, ⟨by (with_reducible repeat (first | apply Kd.R_alloc | apply Kd.R_drewN | apply Kd.R_drew)); exact HO_6.out⟩, ⟨by repeat (first | (with_reducible first | exact HB.out | apply below_alloc | apply pw_below_drewN | apply below_drew1) | exact HB.out)⟩⟩
                            · rw [if_neg c20] at H
                              exact absurd H (by simp)
                          · rw [if_neg c19] at H
                            exact absurd H (by simp)
                        · rw [if_neg c18] at H
                          exact absurd H (by simp)
                      · rw [if_neg c17] at H
                        have c17b0 : decide (x8_3 < (l0.length : Int)) = false := decide_eq_false c17
                        clear c17
                        (first | rw [c17b0] | (simp only [i64_w, i32_w]; rw [c17b0]) | skip)
                        have H' := Aside0.mk H
                        clear H
                        go_wp2
                        repeat (go_quiet (fail); try go_wp2)
                        go_meet
                        case rel => exact ⟨_, (false), (by first | rfl | (simp; done) | (simp [*]; done)), H', ⟨by have := HJ3.out; have := HK2.out; have := HK3.out; first | omega | exact Nat.le_refl _⟩, ⟨by (with_reducible repeat (first | apply Kd.R_alloc | apply Kd.R_drewN | apply Kd.R_drew)); exact HO_6.out⟩, ⟨by repeat (first | (with_reducible first | exact HB.out | apply below_alloc | apply pw_below_drewN | apply below_drew1) | exact HB.out)⟩⟩
                    case rest =>
                      clear HC16
                      try clear c1
                      try clear p1
                      try clear q1
                      try clear hx1
                      try clear c2
                      try clear p2
                      try clear c6
                      try clear p6
                      try clear c7
                      try clear c7b0
                      try clear c7b1
                      try clear c8
                      try clear c8b0
                      try clear c9
                      try clear c10
                      try clear c12
                      try clear c12b0
                      try clear c12b1
                      try clear p12
                      try clear q12
                      try clear hx12
                      try clear c14
                      try clear c14b0
                      try clear c17
                      try clear c17b0
                      try clear c18
                      try clear c18b0
                      try clear c19
                      try clear c19b0
                      try clear c20
                      try clear c20b0
                      try clear c21
                      try clear c21b0
                      try clear hx120_0
                      try clear hx120_1
                      try clear hx121_0
                      try clear hx121_1
                      try clear hx121_2
                      try clear hx121_3
                      try clear hx121_4
                      try clear hx121_5
                      try clear hx122_0
                      try clear hx122_1
                      try clear hx123_0
                      try clear hx123_1
                      try clear hx123_2
                      try clear hx123_3
                      try clear hx123_4
                      try clear hx123_5
                      try clear p120
                      try clear p121
                      try clear p122
                      try clear p123
                      try clear p2
                      try clear q120
                      try clear q121
                      try clear q122
                      try clear q123
                      obtain ⟨kq, x77_15, rfl, HA, HJ15, HO_6, HB⟩ := hcut
                      cases kq with
                      | zero => exact absurd HA.out (by simp [lysimeterlaw19_RollupCounts.j3])
                      | succ kj15 =>
                        have H := HA.out
                        clear HA
                        simp only [lysimeterlaw19_RollupCounts.j3] at H
                        by_cases c22 : x77_15 = true
                        · subst c22
                          have H1 : (if 0 ≤ x8_3 then (if x8_3 < (l0.length : Int) then (if 0 ≤ x9_2 then (if x9_2 < (t115.length : Int) then (if ((rd_T41 l0 x8_3).f1) < ((rd_T52 t115 x9_2).f3) then (some false) else (if ((rd_T41 l0 x8_3).f1) > ((rd_T52 t115 x9_2).f4) then (some false) else (lysimeterlaw19_RollupCounts.l1 kj15 l0 a1 t115 (wrap64 (x8_3 + 1)) x9_2 (wrap64 (x10_3 + 1))))) else (none)) else (none)) else (none)) else (none)) = some r := by rw [if_pos rfl] at H; exact H
                          clear H
                          have H := H1
                          clear H1
                          by_cases c23 : 0 ≤ x8_3
                          · rw [if_pos c23] at H
                            have c23b0 : decide (0 ≤ x8_3) = true := decide_eq_true c23
                            clear c23
                            by_cases c24 : x8_3 < (l0.length : Int)
                            · rw [if_pos c24] at H
                              have c24b0 : decide (x8_3 < (l0.length : Int)) = true := decide_eq_true c24
                              clear c24
                              by_cases c25 : 0 ≤ x9_2
                              · rw [if_pos c25] at H
                                have c25b0 : decide (0 ≤ x9_2) = true := decide_eq_true c25
                                clear c25
                                by_cases c26 : x9_2 < (t115.length : Int)
                                · rw [if_pos c26] at H
                                  have c26b0 : decide (x9_2 < (t115.length : Int)) = true := decide_eq_true c26
                                  clear c26
                                  by_cases c27 : ((rd_T41 l0 x8_3).f1) < ((rd_T52 t115 x9_2).f3)
                                  · rw [if_pos c27] at H
                                    have c27b0 : decide (((rd_T41 l0 x8_3).f1) < ((rd_T52 t115 x9_2).f3)) = true := decide_eq_true c27
                                    clear c27
                                    obtain rfl := Option.some.inj H
                                    have p124 : 0 ≤ (x8_3 : Int) := of_decide_eq_true (by first | (with_reducible assumption) | assumption)
                                    have q124 : x8_3 < (l0.length : Int) := of_decide_eq_true (by first | (with_reducible assumption) | assumption)
                                    obtain ⟨ad124, e124, hx124_0, hx124_1⟩ := at_T41 HR0.out x8_3 p124 q124
                                    cases e124
                                    replace hx124_0 := (HB.out.cell (World.block_lt_of_cell? w _ hx124_0)).trans hx124_0
                                    replace hx124_1 := (HB.out.cell (World.block_lt_of_cell? w _ hx124_1)).trans hx124_1
                                    replace p124 := eq_true p124
                                    replace q124 := eq_true q124
                                    have p125 : 0 ≤ (x9_2 : Int) := of_decide_eq_true (by first | (with_reducible assumption) | assumption)
                                    have q125 : x9_2 < (t115.length : Int) := of_decide_eq_true (by first | (with_reducible assumption) | assumption)
                                    obtain ⟨ad125, e125, hx125_0, hx125_1, hx125_2, hx125_3, hx125_4, hx125_5⟩ := at_T52 (Kd.R_reads' HO_6.out).2.2 x9_2 p125 q125
                                    cases e125
                                    replace p125 := eq_true p125
                                    replace q125 := eq_true q125
                                    go_wp2
                                    repeat (go_quiet (fail); try go_wp2)
                                    go_ret
                                    exact ⟨by first | rfl | (simp [errW_none, errW_some] <;> rfl) | (simp [*, errW_none, errW_some] <;> rfl), by repeat (first | (with_reducible first | exact HB.out | apply below_alloc | apply pw_below_drewN | apply below_drew1) | exact HB.out)⟩
                                  · rw [if_neg c27] at H
                                    have c27b0 : decide (((rd_T41 l0 x8_3).f1) < ((rd_T52 t115 x9_2).f3)) = false := decide_eq_false c27
                                    clear c27
                                    by_cases c28 : ((rd_T41 l0 x8_3).f1) > ((rd_T52 t115 x9_2).f4)
                                    · rw [if_pos c28] at H
                                      have c28b0 : decide (((rd_T52 t115 x9_2).f4) < ((rd_T41 l0 x8_3).f1)) = true := decide_eq_true c28
                                      clear c28
                                      obtain rfl := Option.some.inj H
                                      have p124 : 0 ≤ (x8_3 : Int) := of_decide_eq_true (by first | (with_reducible assumption) | assumption)
                                      have q124 : x8_3 < (l0.length : Int) := of_decide_eq_true (by first | (with_reducible assumption) | assumption)
                                      obtain ⟨ad124, e124, hx124_0, hx124_1⟩ := at_T41 HR0.out x8_3 p124 q124
                                      cases e124
                                      replace hx124_0 := (HB.out.cell (World.block_lt_of_cell? w _ hx124_0)).trans hx124_0
                                      replace hx124_1 := (HB.out.cell (World.block_lt_of_cell? w _ hx124_1)).trans hx124_1
                                      replace p124 := eq_true p124
                                      replace q124 := eq_true q124
                                      have p125 : 0 ≤ (x9_2 : Int) := of_decide_eq_true (by first | (with_reducible assumption) | assumption)
                                      have q125 : x9_2 < (t115.length : Int) := of_decide_eq_true (by first | (with_reducible assumption) | assumption)
                                      obtain ⟨ad125, e125, hx125_0, hx125_1, hx125_2, hx125_3, hx125_4, hx125_5⟩ := at_T52 (Kd.R_reads' HO_6.out).2.2 x9_2 p125 q125
                                      cases e125
                                      replace p125 := eq_true p125
                                      replace q125 := eq_true q125
                                      have p126 : 0 ≤ (x8_3 : Int) := of_decide_eq_true (by first | (with_reducible assumption) | assumption)
                                      have q126 : x8_3 < (l0.length : Int) := of_decide_eq_true (by first | (with_reducible assumption) | assumption)
                                      obtain ⟨ad126, e126, hx126_0, hx126_1⟩ := at_T41 HR0.out x8_3 p126 q126
                                      obtain rfl : ad124 = ad126 := (by injection e126)
                                      replace hx126_0 := (HB.out.cell (World.block_lt_of_cell? w _ hx126_0)).trans hx126_0
                                      replace hx126_1 := (HB.out.cell (World.block_lt_of_cell? w _ hx126_1)).trans hx126_1
                                      replace p126 := eq_true p126
                                      replace q126 := eq_true q126
                                      have p127 : 0 ≤ (x9_2 : Int) := of_decide_eq_true (by first | (with_reducible assumption) | assumption)
                                      have q127 : x9_2 < (t115.length : Int) := of_decide_eq_true (by first | (with_reducible assumption) | assumption)
                                      obtain ⟨ad127, e127, hx127_0, hx127_1, hx127_2, hx127_3, hx127_4, hx127_5⟩ := at_T52 (Kd.R_reads' HO_6.out).2.2 x9_2 p127 q127
                                      obtain rfl : ad125 = ad127 := (by injection e127)
                                      replace p127 := eq_true p127
                                      replace q127 := eq_true q127
                                      go_wp2
                                      repeat (go_quiet (fail); try go_wp2)
                                      go_ret
                                      exact ⟨by first | rfl | (simp [errW_none, errW_some] <;> rfl) | (simp [*, errW_none, errW_some] <;> rfl), by repeat (first | (with_reducible first | exact HB.out | apply below_alloc | apply pw_below_drewN | apply below_drew1) | exact HB.out)⟩
                                    · rw [if_neg c28] at H
                                      have c28b0 : decide (((rd_T52 t115 x9_2).f4) < ((rd_T41 l0 x8_3).f1)) = false := decide_eq_false c28
                                      clear c28
                                      have H' := Aside0.mk H
                                      clear H
                                      have p124 : 0 ≤ (x8_3 : Int) := of_decide_eq_true (by first | (with_reducible assumption) | assumption)
                                      have q124 : x8_3 < (l0.length : Int) := of_decide_eq_true (by first | (with_reducible assumption) | assumption)
                                      obtain ⟨ad124, e124, hx124_0, hx124_1⟩ := at_T41 HR0.out x8_3 p124 q124
                                      cases e124
                                      replace hx124_0 := (HB.out.cell (World.block_lt_of_cell? w _ hx124_0)).trans hx124_0
                                      replace hx124_1 := (HB.out.cell (World.block_lt_of_cell? w _ hx124_1)).trans hx124_1
                                      replace p124 := eq_true p124
                                      replace q124 := eq_true q124
                                      have p125 : 0 ≤ (x9_2 : Int) := of_decide_eq_true (by first | (with_reducible assumption) | assumption)
                                      have q125 : x9_2 < (t115.length : Int) := of_decide_eq_true (by first | (with_reducible assumption) | assumption)
                                      obtain ⟨ad125, e125, hx125_0, hx125_1, hx125_2, hx125_3, hx125_4, hx125_5⟩ := at_T52 (Kd.R_reads' HO_6.out).2.2 x9_2 p125 q125
                                      cases e125
                                      replace p125 := eq_true p125
                                      replace q125 := eq_true q125
                                      have p126 : 0 ≤ (x8_3 : Int) := of_decide_eq_true (by first | (with_reducible assumption) | assumption)
                                      have q126 : x8_3 < (l0.length : Int) := of_decide_eq_true (by first | (with_reducible assumption) | assumption)
                                      obtain ⟨ad126, e126, hx126_0, hx126_1⟩ := at_T41 HR0.out x8_3 p126 q126
                                      obtain rfl : ad124 = ad126 := (by injection e126)
                                      replace hx126_0 := (HB.out.cell (World.block_lt_of_cell? w _ hx126_0)).trans hx126_0
                                      replace hx126_1 := (HB.out.cell (World.block_lt_of_cell? w _ hx126_1)).trans hx126_1
                                      replace p126 := eq_true p126
                                      replace q126 := eq_true q126
                                      have p127 : 0 ≤ (x9_2 : Int) := of_decide_eq_true (by first | (with_reducible assumption) | assumption)
                                      have q127 : x9_2 < (t115.length : Int) := of_decide_eq_true (by first | (with_reducible assumption) | assumption)
                                      obtain ⟨ad127, e127, hx127_0, hx127_1, hx127_2, hx127_3, hx127_4, hx127_5⟩ := at_T52 (Kd.R_reads' HO_6.out).2.2 x9_2 p127 q127
                                      obtain rfl : ad125 = ad127 := (by injection e127)
                                      replace p127 := eq_true p127
                                      replace q127 := eq_true q127
                                      go_wp2
                                      repeat (go_quiet (fail); try go_wp2)
                                      go_roundg kj15
                                      case measure => have := HJ3.out; have := HK2.out; have := HK3.out; have := HJ15.out; omega
                                      case rel => exact ⟨(wrap64 (x8_3 + 1)), (wrap64 (x10_3 + 1)), (by first | rfl | (simp; done) | (simp [*]; done)), (by first | rfl | (simp; done) | (simp [*]; done)), H', ⟨by have := HJ3.out; have := HK2.out; have := HK3.out; have := HJ15.out; omega⟩, ⟨by (with_reducible repeat (first | apply Kd.R_alloc | apply Kd.R_drewN | apply Kd.R_drew)); exact HO_6.out⟩, ⟨by repeat (first | (with_reducible first | exact HB.out | apply below_alloc | apply pw_below_drewN | apply below_drew1) | exact HB.out)⟩⟩
                                · rw [if_neg c26] at H
                                  exact absurd H (by simp)
                              · rw [if_neg c25] at H
                                exact absurd H (by simp)
                            · rw [if_neg c24] at H
                              exact absurd H (by simp)
                          · rw [if_neg c23] at H
                            exact absurd H (by simp)
                        · replace c22 := Bool.eq_false_iff.mpr c22
                          subst c22
                          have H1 : (if 0 ≤ x9_2 then (if x9_2 < (t115.length : Int) then (if x10_3 = ((rd_T52 t115 x9_2).f1) then (if x10_3 = 0 then (some false) else (if 0 ≤ (wrap64 (x8_3 - 1)) then (if (wrap64 (x8_3 - 1)) < (l0.length : Int) then (if ((rd_T52 t115 x9_2).f5) = ((rd_T41 l0 (wrap64 (x8_3 - 1))).f1) then (if x9_2 > 0 then (if 0 ≤ (wrap64 (x9_2 - 1)) then (if (wrap64 (x9_2 - 1)) < (t115.length : Int) then (if ((rd_T52 t115 x9_2).f0) ≤ ((rd_T52 t115 (wrap64 (x9_2 - 1))).f0) then (some false) else (lysimeterlaw19_RollupCounts.l0 kj15 l0 a1 t115 x8_3 (wrap64 (x9_2 + 1)))) else (none)) else (none)) else (lysimeterlaw19_RollupCounts.l0 kj15 l0 a1 t115 x8_3 (wrap64 (x9_2 + 1)))) else (some false)) else (none)) else (none))) else (some false)) else (none)) else (none)) = some r := by rw [if_neg (show ¬ (false = true) by decide)] at H; exact H
                          clear H
                          have H := H1
                          clear H1
                          by_cases c29 : 0 ≤ x9_2
                          · rw [if_pos c29] at H
                            have c29b0 : decide (0 ≤ x9_2) = true := decide_eq_true c29
                            clear c29
                            by_cases c30 : x9_2 < (t115.length : Int)
                            · rw [if_pos c30] at H
                              have c30b0 : decide (x9_2 < (t115.length : Int)) = true := decide_eq_true c30
                              clear c30
                              by_cases c31 : x10_3 = ((rd_T52 t115 x9_2).f1)
                              · rw [if_pos c31] at H
                                have c31b0 : (x10_3 == ((rd_T52 t115 x9_2).f1)) = true := beq_iff_eq.mpr c31
                                have c31b1 : (x10_3 != ((rd_T52 t115 x9_2).f1)) = false := bne_eq_false_iff_eq.mpr c31
                                clear c31
                                by_cases c32 : x10_3 = 0
                                · rw [if_pos c32] at H
                                  have c32b0 : (x10_3 == 0) = true := beq_iff_eq.mpr c32
                                  have c32b1 : (x10_3 != 0) = false := bne_eq_false_iff_eq.mpr c32
                                  clear c32
                                  obtain rfl := Option.some.inj H
                                  have p128 : 0 ≤ (x9_2 : Int) := of_decide_eq_true (by first | (with_reducible assumption) | assumption)
                                  have q128 : x9_2 < (t115.length : Int) := of_decide_eq_true (by first | (with_reducible assumption) | assumption)
                                  obtain ⟨ad128, e128, hx128_0, hx128_1, hx128_2, hx128_3, hx128_4, hx128_5⟩ := at_T52 (Kd.R_reads' HO_6.out).2.2 x9_2 p128 q128
                                  cases e128
                                  replace p128 := eq_true p128
                                  replace q128 := eq_true q128
                                  go_wp2
                                  repeat (go_quiet (fail); try go_wp2)
                                  go_ret
                                  exact ⟨by first | rfl | (simp [errW_none, errW_some] <;> rfl) | (simp [*, errW_none, errW_some] <;> rfl), by repeat (first | (with_reducible first | exact HB.out | apply below_alloc | apply pw_below_drewN | apply below_drew1) | exact HB.out)⟩
                                · rw [if_neg c32] at H
                                  have c32b0 : (x10_3 == 0) = false := beq_eq_false_iff_ne.mpr c32
                                  have c32b1 : (x10_3 != 0) = true := bne_iff_ne.mpr c32
                                  obtain ⟨ji33, hji33⟩ : ∃ j_ : Int, (wrap64 (x8_3 - 1)) = j_ := ⟨_, rfl⟩
                                  replace H : (if 0 ≤ (ji33) then (if (ji33) < (l0.length : Int) then (if ((rd_T52 t115 x9_2).f5) = ((rd_T41 l0 (ji33)).f1) then (if x9_2 > 0 then (if 0 ≤ (wrap64 (x9_2 - 1)) then (if (wrap64 (x9_2 - 1)) < (t115.length : Int) then (if ((rd_T52 t115 x9_2).f0) ≤ ((rd_T52 t115 (wrap64 (x9_2 - 1))).f0) then (some false) else (lysimeterlaw19_RollupCounts.l0 kj15 l0 a1 t115 x8_3 (wrap64 (x9_2 + 1)))) else (none)) else (none)) else (lysimeterlaw19_RollupCounts.l0 kj15 l0 a1 t115 x8_3 (wrap64 (x9_2 + 1)))) else (some false)) else (none)) else (none)) = some r := by first | (rw [hji33] at H; exact H) | (simp only [hji33] at H ⊢; exact H)
                                  have hji33w : (IntKind.i64.wrap (x8_3 - 1)) = ji33 := (i64_w _).trans hji33
                                  by_cases c34 : 0 ≤ (ji33)
                                  · rw [if_pos c34] at H
                                    have c34b0 : decide (0 ≤ (ji33)) = true := decide_eq_true c34
                                    clear c34
                                    by_cases c35 : (ji33) < (l0.length : Int)
                                    · rw [if_pos c35] at H
                                      have c35b0 : decide ((ji33) < (l0.length : Int)) = true := decide_eq_true c35
                                      clear c35
                                      by_cases c36 : ((rd_T52 t115 x9_2).f5) = ((rd_T41 l0 (ji33)).f1)
                                      · rw [if_pos c36] at H
                                        have c36b0 : (((rd_T52 t115 x9_2).f5) == ((rd_T41 l0 (ji33)).f1)) = true := beq_iff_eq.mpr c36
                                        have c36b1 : (((rd_T52 t115 x9_2).f5) != ((rd_T41 l0 (ji33)).f1)) = false := bne_eq_false_iff_eq.mpr c36
                                        clear c36
                                        by_cases c37 : x9_2 > 0
                                        · rw [if_pos c37] at H
                                          have c37b0 : decide (0 < x9_2) = true := decide_eq_true c37
                                          clear c37
                                          obtain ⟨ji38, hji38⟩ : ∃ j_ : Int, (wrap64 (x9_2 - 1)) = j_ := ⟨_, rfl⟩
                                          replace H : (if 0 ≤ (ji38) then (if (ji38) < (t115.length : Int) then (if ((rd_T52 t115 x9_2).f0) ≤ ((rd_T52 t115 (ji38)).f0) then (some false) else (lysimeterlaw19_RollupCounts.l0 kj15 l0 a1 t115 x8_3 (wrap64 (x9_2 + 1)))) else (none)) else (none)) = some r := by first | (rw [hji38] at H; exact H) | (simp only [hji38] at H ⊢; exact H)
                                          have hji38w : (IntKind.i64.wrap (x9_2 - 1)) = ji38 := (i64_w _).trans hji38
                                          by_cases c39 : 0 ≤ (ji38)
                                          · rw [if_pos c39] at H
                                            have c39b0 : decide (0 ≤ (ji38)) = true := decide_eq_true c39
                                            clear c39
                                            by_cases c40 : (ji38) < (t115.length : Int)
                                            · rw [if_pos c40] at H
                                              have c40b0 : decide ((ji38) < (t115.length : Int)) = true := decide_eq_true c40
                                              clear c40
                                              by_cases c41 : ((rd_T52 t115 x9_2).f0) ≤ ((rd_T52 t115 (ji38)).f0)
                                              · rw [if_pos c41] at H
                                                have c41b0 : decide (((rd_T52 t115 x9_2).f0) ≤ ((rd_T52 t115 (ji38)).f0)) = true := decide_eq_true c41
                                                clear c41
                                                obtain rfl := Option.some.inj H
                                                have p128 : 0 ≤ (x9_2 : Int) := of_decide_eq_true (by first | (with_reducible assumption) | assumption)
                                                have q128 : x9_2 < (t115.length : Int) := of_decide_eq_true (by first | (with_reducible assumption) | assumption)
                                                obtain ⟨ad128, e128, hx128_0, hx128_1, hx128_2, hx128_3, hx128_4, hx128_5⟩ := at_T52 (Kd.R_reads' HO_6.out).2.2 x9_2 p128 q128
                                                cases e128
                                                replace p128 := eq_true p128
                                                replace q128 := eq_true q128
                                                have p129 : 0 ≤ (x9_2 : Int) := of_decide_eq_true (by first | (with_reducible assumption) | assumption)
                                                have q129 : x9_2 < (t115.length : Int) := of_decide_eq_true (by first | (with_reducible assumption) | assumption)
                                                obtain ⟨ad129, e129, hx129_0, hx129_1, hx129_2, hx129_3, hx129_4, hx129_5⟩ := at_T52 (Kd.R_reads' HO_6.out).2.2 x9_2 p129 q129
                                                obtain rfl : ad128 = ad129 := (by injection e129)
                                                replace p129 := eq_true p129
                                                replace q129 := eq_true q129
                                                have p130 : 0 ≤ ((ji33) : Int) := of_decide_eq_true (by first | (with_reducible assumption) | assumption)
                                                have q130 : (ji33) < (l0.length : Int) := of_decide_eq_true (by first | (with_reducible assumption) | assumption)
                                                obtain ⟨ad130, e130, hx130_0, hx130_1⟩ := at_T41 HR0.out (ji33) p130 q130
                                                cases e130
                                                replace hx130_0 := (HB.out.cell (World.block_lt_of_cell? w _ hx130_0)).trans hx130_0
                                                replace hx130_1 := (HB.out.cell (World.block_lt_of_cell? w _ hx130_1)).trans hx130_1
                                                replace p130 := eq_true p130
                                                replace q130 := eq_true q130
                                                have p131 : 0 ≤ (x9_2 : Int) := of_decide_eq_true (by first | (with_reducible assumption) | assumption)
                                                have q131 : x9_2 < (t115.length : Int) := of_decide_eq_true (by first | (with_reducible assumption) | assumption)
                                                obtain ⟨ad131, e131, hx131_0, hx131_1, hx131_2, hx131_3, hx131_4, hx131_5⟩ := at_T52 (Kd.R_reads' HO_6.out).2.2 x9_2 p131 q131
                                                obtain rfl : ad128 = ad131 := (by injection e131)
                                                replace p131 := eq_true p131
                                                replace q131 := eq_true q131
                                                have p132 : 0 ≤ ((ji38) : Int) := of_decide_eq_true (by first | (with_reducible assumption) | assumption)
                                                have q132 : (ji38) < (t115.length : Int) := of_decide_eq_true (by first | (with_reducible assumption) | assumption)
                                                obtain ⟨ad132, e132, hx132_0, hx132_1, hx132_2, hx132_3, hx132_4, hx132_5⟩ := at_T52 (Kd.R_reads' HO_6.out).2.2 (ji38) p132 q132
                                                obtain rfl : ad128 = ad132 := (by injection e132)
                                                replace p132 := eq_true p132
                                                replace q132 := eq_true q132
                                                go_wp2
                                                repeat (go_quiet (fail); try go_wp2)
                                                go_ret
                                                exact ⟨by first | rfl | (simp [errW_none, errW_some] <;> rfl) | (simp only [← hji33, ← hji38]; first | rfl | (simp [errW_none, errW_some] <;> rfl)) | (simp [*, errW_none, errW_some] <;> rfl), by repeat (first | (with_reducible first | exact HB.out | apply below_alloc | apply pw_below_drewN | apply below_drew1) | exact HB.out)⟩
                                              · rw [if_neg c41] at H
                                                have c41b0 : decide (((rd_T52 t115 x9_2).f0) ≤ ((rd_T52 t115 (ji38)).f0)) = false := decide_eq_false c41
                                                clear c41
                                                have H' := Aside0.mk H
                                                clear H
                                                have p128 : 0 ≤ (x9_2 : Int) := of_decide_eq_true (by first | (with_reducible assumption) | assumption)
                                                have q128 : x9_2 < (t115.length : Int) := of_decide_eq_true (by first | (with_reducible assumption) | assumption)
                                                obtain ⟨ad128, e128, hx128_0, hx128_1, hx128_2, hx128_3, hx128_4, hx128_5⟩ := at_T52 (Kd.R_reads' HO_6.out).2.2 x9_2 p128 q128
                                                cases e128
                                                replace p128 := eq_true p128
                                                replace q128 := eq_true q128
                                                have p129 : 0 ≤ (x9_2 : Int) := of_decide_eq_true (by first | (with_reducible assumption) | assumption)
                                                have q129 : x9_2 < (t115.length : Int) := of_decide_eq_true (by first | (with_reducible assumption) | assumption)
                                                obtain ⟨ad129, e129, hx129_0, hx129_1, hx129_2, hx129_3, hx129_4, hx129_5⟩ := at_T52 (Kd.R_reads' HO_6.out).2.2 x9_2 p129 q129
                                                obtain rfl : ad128 = ad129 := (by injection e129)
                                                replace p129 := eq_true p129
                                                replace q129 := eq_true q129
                                                have p130 : 0 ≤ ((ji33) : Int) := of_decide_eq_true (by first | (with_reducible assumption) | assumption)
                                                have q130 : (ji33) < (l0.length : Int) := of_decide_eq_true (by first | (with_reducible assumption) | assumption)
                                                obtain ⟨ad130, e130, hx130_0, hx130_1⟩ := at_T41 HR0.out (ji33) p130 q130
                                                cases e130
                                                replace hx130_0 := (HB.out.cell (World.block_lt_of_cell? w _ hx130_0)).trans hx130_0
                                                replace hx130_1 := (HB.out.cell (World.block_lt_of_cell? w _ hx130_1)).trans hx130_1
                                                replace p130 := eq_true p130
                                                replace q130 := eq_true q130
                                                have p131 : 0 ≤ (x9_2 : Int) := of_decide_eq_true (by first | (with_reducible assumption) | assumption)
                                                have q131 : x9_2 < (t115.length : Int) := of_decide_eq_true (by first | (with_reducible assumption) | assumption)
                                                obtain ⟨ad131, e131, hx131_0, hx131_1, hx131_2, hx131_3, hx131_4, hx131_5⟩ := at_T52 (Kd.R_reads' HO_6.out).2.2 x9_2 p131 q131
                                                obtain rfl : ad128 = ad131 := (by injection e131)
                                                replace p131 := eq_true p131
                                                replace q131 := eq_true q131
                                                have p132 : 0 ≤ ((ji38) : Int) := of_decide_eq_true (by first | (with_reducible assumption) | assumption)
                                                have q132 : (ji38) < (t115.length : Int) := of_decide_eq_true (by first | (with_reducible assumption) | assumption)
                                                obtain ⟨ad132, e132, hx132_0, hx132_1, hx132_2, hx132_3, hx132_4, hx132_5⟩ := at_T52 (Kd.R_reads' HO_6.out).2.2 (ji38) p132 q132
                                                obtain rfl : ad128 = ad132 := (by injection e132)
                                                replace p132 := eq_true p132
                                                replace q132 := eq_true q132
                                                go_wp2
                                                repeat (go_quiet (fail); try go_wp2)
                                                go_roundg kj15
                                                case measure => have := HJ3.out; have := HK2.out; have := HK3.out; have := HJ15.out; omega
                                                case rel => exact ⟨(x8_3), (wrap64 (x9_2 + 1)), (by first | rfl | (simp; done) | (simp [*]; done)), (by first | rfl | (simp; done) | (simp [*]; done)), H', ⟨by have := HJ3.out; have := HK2.out; have := HK3.out; have := HJ15.out; omega⟩, ⟨by (with_reducible repeat (first | apply Kd.R_alloc | apply Kd.R_drewN | apply Kd.R_drew)); exact HO_6.out⟩, ⟨by repeat (first | (with_reducible first | exact HB.out | apply below_alloc | apply pw_below_drewN | apply below_drew1) | exact HB.out)⟩⟩
                                            · rw [if_neg c40] at H
                                              exact absurd H (by simp)
                                          · rw [if_neg c39] at H
                                            exact absurd H (by simp)
                                        · rw [if_neg c37] at H
                                          have c37b0 : decide (0 < x9_2) = false := decide_eq_false c37
                                          clear c37
                                          have H' := Aside0.mk H
                                          clear H
                                          have p128 : 0 ≤ (x9_2 : Int) := of_decide_eq_true (by first | (with_reducible assumption) | assumption)
                                          have q128 : x9_2 < (t115.length : Int) := of_decide_eq_true (by first | (with_reducible assumption) | assumption)
                                          obtain ⟨ad128, e128, hx128_0, hx128_1, hx128_2, hx128_3, hx128_4, hx128_5⟩ := at_T52 (Kd.R_reads' HO_6.out).2.2 x9_2 p128 q128
                                          cases e128
                                          replace p128 := eq_true p128
                                          replace q128 := eq_true q128
                                          have p129 : 0 ≤ (x9_2 : Int) := of_decide_eq_true (by first | (with_reducible assumption) | assumption)
                                          have q129 : x9_2 < (t115.length : Int) := of_decide_eq_true (by first | (with_reducible assumption) | assumption)
                                          obtain ⟨ad129, e129, hx129_0, hx129_1, hx129_2, hx129_3, hx129_4, hx129_5⟩ := at_T52 (Kd.R_reads' HO_6.out).2.2 x9_2 p129 q129
                                          obtain rfl : ad128 = ad129 := (by injection e129)
                                          replace p129 := eq_true p129
                                          replace q129 := eq_true q129
                                          have p130 : 0 ≤ ((ji33) : Int) := of_decide_eq_true (by first | (with_reducible assumption) | assumption)
                                          have q130 : (ji33) < (l0.length : Int) := of_decide_eq_true (by first | (with_reducible assumption) | assumption)
                                          obtain ⟨ad130, e130, hx130_0, hx130_1⟩ := at_T41 HR0.out (ji33) p130 q130
                                          cases e130
                                          replace hx130_0 := (HB.out.cell (World.block_lt_of_cell? w _ hx130_0)).trans hx130_0
                                          replace hx130_1 := (HB.out.cell (World.block_lt_of_cell? w _ hx130_1)).trans hx130_1
                                          replace p130 := eq_true p130
                                          replace q130 := eq_true q130
                                          go_wp2
                                          repeat (go_quiet (fail); try go_wp2)
                                          go_roundg kj15
                                          case measure => have := HJ3.out; have := HK2.out; have := HK3.out; have := HJ15.out; omega
                                          case rel => exact ⟨(x8_3), (wrap64 (x9_2 + 1)), (by first | rfl | (simp; done) | (simp [*]; done)), (by first | rfl | (simp; done) | (simp [*]; done)), H', ⟨by have := HJ3.out; have := HK2.out; have := HK3.out; have := HJ15.out; omega⟩, ⟨by (with_reducible repeat (first | apply Kd.R_alloc | apply Kd.R_drewN | apply Kd.R_drew)); exact HO_6.out⟩, ⟨by repeat (first | (with_reducible first | exact HB.out | apply below_alloc | apply pw_below_drewN | apply below_drew1) | exact HB.out)⟩⟩
                                      · rw [if_neg c36] at H
                                        have c36b0 : (((rd_T52 t115 x9_2).f5) == ((rd_T41 l0 (ji33)).f1)) = false := beq_eq_false_iff_ne.mpr c36
                                        have c36b1 : (((rd_T52 t115 x9_2).f5) != ((rd_T41 l0 (ji33)).f1)) = true := bne_iff_ne.mpr c36
                                        obtain rfl := Option.some.inj H
                                        have p128 : 0 ≤ (x9_2 : Int) := of_decide_eq_true (by first | (with_reducible assumption) | assumption)
                                        have q128 : x9_2 < (t115.length : Int) := of_decide_eq_true (by first | (with_reducible assumption) | assumption)
                                        obtain ⟨ad128, e128, hx128_0, hx128_1, hx128_2, hx128_3, hx128_4, hx128_5⟩ := at_T52 (Kd.R_reads' HO_6.out).2.2 x9_2 p128 q128
                                        cases e128
                                        replace p128 := eq_true p128
                                        replace q128 := eq_true q128
                                        have p129 : 0 ≤ (x9_2 : Int) := of_decide_eq_true (by first | (with_reducible assumption) | assumption)
                                        have q129 : x9_2 < (t115.length : Int) := of_decide_eq_true (by first | (with_reducible assumption) | assumption)
                                        obtain ⟨ad129, e129, hx129_0, hx129_1, hx129_2, hx129_3, hx129_4, hx129_5⟩ := at_T52 (Kd.R_reads' HO_6.out).2.2 x9_2 p129 q129
                                        obtain rfl : ad128 = ad129 := (by injection e129)
                                        replace p129 := eq_true p129
                                        replace q129 := eq_true q129
                                        have p130 : 0 ≤ ((ji33) : Int) := of_decide_eq_true (by first | (with_reducible assumption) | assumption)
                                        have q130 : (ji33) < (l0.length : Int) := of_decide_eq_true (by first | (with_reducible assumption) | assumption)
                                        obtain ⟨ad130, e130, hx130_0, hx130_1⟩ := at_T41 HR0.out (ji33) p130 q130
                                        cases e130
                                        replace hx130_0 := (HB.out.cell (World.block_lt_of_cell? w _ hx130_0)).trans hx130_0
                                        replace hx130_1 := (HB.out.cell (World.block_lt_of_cell? w _ hx130_1)).trans hx130_1
                                        replace p130 := eq_true p130
                                        replace q130 := eq_true q130
                                        go_wp2
                                        repeat (go_quiet (fail); try go_wp2)
                                        go_ret
                                        exact ⟨by first | rfl | (simp [errW_none, errW_some] <;> rfl) | (simp only [← hji33]; first | rfl | (simp [errW_none, errW_some] <;> rfl)) | (simp [*, errW_none, errW_some] <;> rfl), by repeat (first | (with_reducible first | exact HB.out | apply below_alloc | apply pw_below_drewN | apply below_drew1) | exact HB.out)⟩
                                    · rw [if_neg c35] at H
                                      exact absurd H (by simp)
                                  · rw [if_neg c34] at H
                                    exact absurd H (by simp)
                              · rw [if_neg c31] at H
                                have c31b0 : (x10_3 == ((rd_T52 t115 x9_2).f1)) = false := beq_eq_false_iff_ne.mpr c31
                                have c31b1 : (x10_3 != ((rd_T52 t115 x9_2).f1)) = true := bne_iff_ne.mpr c31
                                obtain rfl := Option.some.inj H
                                have p128 : 0 ≤ (x9_2 : Int) := of_decide_eq_true (by first | (with_reducible assumption) | assumption)
                                have q128 : x9_2 < (t115.length : Int) := of_decide_eq_true (by first | (with_reducible assumption) | assumption)
                                obtain ⟨ad128, e128, hx128_0, hx128_1, hx128_2, hx128_3, hx128_4, hx128_5⟩ := at_T52 (Kd.R_reads' HO_6.out).2.2 x9_2 p128 q128
                                cases e128
                                replace p128 := eq_true p128
                                replace q128 := eq_true q128
                                go_wp2
                                repeat (go_quiet (fail); try go_wp2)
                                go_ret
                                exact ⟨by first | rfl | (simp [errW_none, errW_some] <;> rfl) | (simp [*, errW_none, errW_some] <;> rfl), by repeat (first | (with_reducible first | exact HB.out | apply below_alloc | apply pw_below_drewN | apply below_drew1) | exact HB.out)⟩
                            · rw [if_neg c30] at H
                              exact absurd H (by simp)
                          · rw [if_neg c29] at H
                            exact absurd H (by simp)
              · rw [if_neg c14] at H
                have c14b0 : decide (x9_2 < (t115.length : Int)) = false := decide_eq_false c14
                clear c14
                obtain rfl := Option.some.inj H
                obtain ⟨Ao42, co42, eo42⟩ := Kd.R_slice HO_6.out
                subst eo42
                go_wp2
                repeat (go_quiet (fail); try go_wp2)
                go_ret
                exact ⟨by first | rfl | (simp [errW_none, errW_some] <;> rfl) | (simp [*, errW_none, errW_some] <;> rfl), by repeat (first | (with_reducible first | exact HB.out | apply below_alloc | apply pw_below_drewN | apply below_drew1) | exact HB.out)⟩
        · rw [if_neg c12] at H
          have c12b0 : (t119 == 0) = false := beq_eq_false_iff_ne.mpr c12
          have c12b1 : (t119 != 0) = true := bne_iff_ne.mpr c12
          obtain rfl := Option.some.inj H
          go_wp2_with (first | (go_at_call 25; (with_reducible refine (rollup_Buckets.calls _ _ l0 a1 t115 t116 _ ?side1 ?side2 A10.out).mono ?_); (case side1 => repeat (first | exact (Kd.C_below HR0.out HB.out) | (with_reducible refine Kd.C_alloc ?_ _) | (with_reducible refine Kd.C_drewN ?_ _) | (with_reducible refine Kd.C_drew ?_))); (case side2 => exact HC0.out); rintro e w43 ⟨v117, rfl, ho0, hb⟩; have n0_ := Aside0.mk (Kd.R_lower ho0 (below_size (by repeat (first | (with_reducible first | exact HB.out | apply below_alloc | apply pw_below_drewN | apply below_drew1) | exact HB.out)))); have n1_ := Aside0.mk (below_step (by repeat (first | (with_reducible first | exact HB.out | apply below_alloc | apply pw_below_drewN | apply below_drew1) | exact HB.out)) hb); clear HB; have HO118 := n0_; have HB := n1_; clear n0_ n1_; (try clear hb); (try clear hb2); (try clear hk); (try clear hi); (try clear ho0)) | (go_at_call 27; (with_reducible refine (lysimeterlaw19_num.calls t116 t119 _ A11.out).mono ?_); rintro e w' ⟨rfl, ⟨nd, rfl⟩⟩; (try first | exact ⟨rfl, _, World.drewN_drewN _ _ _⟩ | exact ⟨rfl, _, Eq.trans (World.drewN_drewN _ _ _) (congrArg (World.drewN _) (Nat.add_assoc _ _ _))⟩); obtain ⟨Ao44, co44, eo44⟩ := Kd.R_slice HO118.out; subst eo44))
          repeat (go_quiet (first | (go_at_call 25; (with_reducible refine (rollup_Buckets.calls _ _ l0 a1 t115 t116 _ ?side1 ?side2 A10.out).mono ?_); (case side1 => repeat (first | exact (Kd.C_below HR0.out HB.out) | (with_reducible refine Kd.C_alloc ?_ _) | (with_reducible refine Kd.C_drewN ?_ _) | (with_reducible refine Kd.C_drew ?_))); (case side2 => exact HC0.out); rintro e w43 ⟨v117, rfl, ho0, hb⟩; have n0_ := Aside0.mk (Kd.R_lower ho0 (below_size (by repeat (first | (with_reducible first | exact HB.out | apply below_alloc | apply pw_below_drewN | apply below_drew1) | exact HB.out)))); have n1_ := Aside0.mk (below_step (by repeat (first | (with_reducible first | exact HB.out | apply below_alloc | apply pw_below_drewN | apply below_drew1) | exact HB.out)) hb); clear HB; have HO118 := n0_; have HB := n1_; clear n0_ n1_; (try clear hb); (try clear hb2); (try clear hk); (try clear hi); (try clear ho0)) | (go_at_call 27; (with_reducible refine (lysimeterlaw19_num.calls t116 t119 _ A11.out).mono ?_); rintro e w' ⟨rfl, ⟨nd, rfl⟩⟩; (try first | exact ⟨rfl, _, World.drewN_drewN _ _ _⟩ | exact ⟨rfl, _, Eq.trans (World.drewN_drewN _ _ _) (congrArg (World.drewN _) (Nat.add_assoc _ _ _))⟩); obtain ⟨Ao44, co44, eo44⟩ := Kd.R_slice HO118.out; subst eo44)); try go_wp2_with (first | (go_at_call 25; (with_reducible refine (rollup_Buckets.calls _ _ l0 a1 t115 t116 _ ?side1 ?side2 A10.out).mono ?_); (case side1 => repeat (first | exact (Kd.C_below HR0.out HB.out) | (with_reducible refine Kd.C_alloc ?_ _) | (with_reducible refine Kd.C_drewN ?_ _) | (with_reducible refine Kd.C_drew ?_))); (case side2 => exact HC0.out); rintro e w43 ⟨v117, rfl, ho0, hb⟩; have n0_ := Aside0.mk (Kd.R_lower ho0 (below_size (by repeat (first | (with_reducible first | exact HB.out | apply below_alloc | apply pw_below_drewN | apply below_drew1) | exact HB.out)))); have n1_ := Aside0.mk (below_step (by repeat (first | (with_reducible first | exact HB.out | apply below_alloc | apply pw_below_drewN | apply below_drew1) | exact HB.out)) hb); clear HB; have HO118 := n0_; have HB := n1_; clear n0_ n1_; (try clear hb); (try clear hb2); (try clear hk); (try clear hi); (try clear ho0)) | (go_at_call 27; (with_reducible refine (lysimeterlaw19_num.calls t116 t119 _ A11.out).mono ?_); rintro e w' ⟨rfl, ⟨nd, rfl⟩⟩; (try first | exact ⟨rfl, _, World.drewN_drewN _ _ _⟩ | exact ⟨rfl, _, Eq.trans (World.drewN_drewN _ _ _) (congrArg (World.drewN _) (Nat.add_assoc _ _ _))⟩); obtain ⟨Ao44, co44, eo44⟩ := Kd.R_slice HO118.out; subst eo44)))
          go_ret
          exact ⟨by first | rfl | (simp [errW_none, errW_some] <;> rfl) | (simp [*, errW_none, errW_some] <;> rfl), by repeat (first | (with_reducible first | exact HB.out | apply below_alloc | apply pw_below_drewN | apply below_drew1) | exact HB.out)⟩
def lysimeterlaw19_RollupCounts.Pure : Prop := ∀ (l0 : List (S41)) (a1 : Int), l0.length ≤ maxLen → l0.length * 16 ≤ 140737488351232 → (∀ x ∈ l0, (Lit.int .i64 x.f0).wf = true ∧ (Lit.int .i64 x.f1).wf = true) → (Lit.int .i64 a1).wf = true → ∃ k, lysimeterlaw19_RollupCounts.f k l0 a1 = some true
end Go.Proofs.Ytdglifoakdkheaa.Rl
end
section
namespace Go.Proofs.Ytdglifoakdkheaa.Pure
open Go.RowKit Go.Proofs.Ytdglifoakdkheaa.Rl Go.Proofs.YtdglifoakdkheaaW.PrintWords Go.Proofs.YtdglifoakdkheaaW.PrintLast
theorem alive_buckets : rollup_Buckets.f [⟨1, 5⟩, ⟨2, 3⟩, ⟨11, 1⟩] 10 = some ([⟨0, 2, 8, 3, 5, 3⟩, ⟨10, 1, 1, 1, 1, 1⟩], 0) := by
  kernel_rfl
theorem alive_eq : lysimeterlaw19_alive.f = some true := by
  unfold lysimeterlaw19_alive.f
  rw [alive_buckets]
  kernel_rfl
end Go.Proofs.Ytdglifoakdkheaa.Pure
end
section
namespace Go.Proofs.Ytdglifoakdkheaa.Roll
open Go.RowKit Go.Proofs.YtdglifoakdkheaaW.PrintWords
theorem ris_all (l : List S41) : ∀ (d i : Nat), ris l i d = true → ∀ j, i ≤ j → j < i + d → okAt l j = true := by
  intro d
  induction d with
  | zero => intro i _ j h1 h2; omega
  | succ d ih =>
    intro i h j h1 h2
    unfold ris at h
    rw [Bool.and_eq_true] at h
    by_cases e : i = j
    · rw [← e]; exact h.1
    · exact ih (i + 1) h.2 j (by omega) (by omega)
theorem okAt_parts {l : List S41} {i : Nat} (h : okAt l i = true) : -9007199254740992 ≤ tm l i ∧ tm l i ≤ 9007199254740992 ∧ (0 < i → tm l (i - 1) < tm l i) := by
  unfold okAt at h
  simp only [Bool.and_eq_true, Bool.or_eq_true, decide_eq_true_eq] at h
  refine ⟨h.1, h.2.1, fun h0 => ?_⟩
  rcases h.2.2 with e | e
  · omega
  · exact e
theorem ris_timed {l : List S41} (h : ris l 0 l.length = true) : ∀ s ∈ l, -9007199254740992 ≤ s.f0 ∧ s.f0 ≤ 9007199254740992 := by
  intro s hs
  obtain ⟨i, hi, rfl⟩ := List.getElem_of_mem hs
  have := okAt_parts (ris_all l _ _ h i (by omega) (by omega))
  have e : tm l i = l[i].f0 := by unfold tm; rw [List.getD_eq_getElem?_getD, List.getElem?_eq_getElem hi]; rfl
  rw [e] at this
  exact ⟨this.1, this.2.1⟩
theorem ris_pair {l : List S41} (h : ris l 0 l.length = true) : l.Pairwise (fun a b => a.f0 < b.f0) := by
  have key : ∀ (k j : Nat), j < k → k < l.length → tm l j < tm l k := by
    intro k
    induction k with
    | zero => intro j h1; omega
    | succ k ih =>
      intro j h1 h2
      have h3 := (okAt_parts (ris_all l _ _ h (k + 1) (by omega) (by omega))).2.2 (by omega)
      have h3 : tm l k < tm l (k + 1) := h3
      by_cases e : j = k
      · rw [e]; exact h3
      · exact Int.lt_trans (ih j (by omega) (by omega)) h3
  rw [List.pairwise_iff_getElem]
  intro i j hi hj hij
  have := key j i hij hj
  unfold tm at this
  rwa [List.getD_eq_getElem?_getD, List.getElem?_eq_getElem hi, List.getD_eq_getElem?_getD, List.getElem?_eq_getElem hj] at this
theorem row_in {t T w : Int} (hw : 1 ≤ w) (ht : -9007199254740992 ≤ t) (ht2 : t ≤ 9007199254740992) (hw2 : w ≤ 1099511627776) (h : floorS t w = T) : T ≤ t ∧ t - T < w ∧ -9008298766368768 ≤ T ∧ (w ∣ T) := by
  have h1 := floor_mul t w hw
  have h4 := Int.mul_ediv_add_emod t w
  have h5 := Int.emod_nonneg t (show w ≠ 0 by omega)
  have h6 := Int.emod_lt_of_pos t (show 0 < w by omega)
  rw [h] at h1
  rw [if_neg (by omega)] at h1
  refine ⟨by omega, by omega, by omega, ?_⟩
  rw [h1]
  exact Int.dvd_mul_right _ _
theorem row_next {T T' w t : Int} (hw : 1 ≤ w) (h1 : w ∣ T) (h2 : w ∣ T') (h : T < T') (h3 : T' ≤ t) : w ≤ t - T := by
  have : w ∣ T' - T := Int.dvd_sub h2 h1
  have := Int.le_of_dvd (by omega) this
  omega
end Go.Proofs.Ytdglifoakdkheaa.Roll
end
section
namespace Go.Proofs.Ytdglifoakdkheaa.Pure
open Go.RowKit Go.Proofs.Ytdglifoakdkheaa.Rl Go.Proofs.YtdglifoakdkheaaW.PrintWords Go.Proofs.YtdglifoakdkheaaW.PrintLast
section
variable (l : List S41) (w : Int) (B : List S52)
abbrev Tm (j : Nat) : Int := (rd_T41 l (j : Int)).f0
abbrev Vl (j : Nat) : Int := (rd_T41 l (j : Int)).f1
structure BuckAt (a m i : Nat) : Prop where
  iB : i < B.length
  m0 : 0 < m
  am : a + m ≤ l.length
  ins : ∀ n, n < m → (rd_T52 B (i : Int)).f0 ≤ Tm l (a + n) ∧ Tm l (a + n) - (rd_T52 B (i : Int)).f0 < w ∧ (rd_T52 B (i : Int)).f3 ≤ Vl l (a + n) ∧ Vl l (a + n) ≤ (rd_T52 B (i : Int)).f4
  out : a + m < l.length → w ≤ Tm l (a + m) - (rd_T52 B (i : Int)).f0
  tms : ∀ n, n < l.length → -9007199254740992 ≤ Tm l n ∧ Tm l n ≤ 9007199254740992
  low : -9008298766368768 ≤ (rd_T52 B (i : Int)).f0 ∧ (rd_T52 B (i : Int)).f0 ≤ 9008298766368768
  cnt : (rd_T52 B (i : Int)).f1 = (m : Int)
  las : (rd_T52 B (i : Int)).f5 = Vl l (a + m - 1)
  up : 0 < i → (rd_T52 B ((i - 1 : Nat) : Int)).f0 < (rd_T52 B (i : Int)).f0
variable {l w B}
theorem l1_run (hl : l.length ≤ 500) (hw : 1 ≤ w) {a m i : Nat} (h : BuckAt l w B a m i) {r : Bool} (K : Ev (fun k => lysimeterlaw19_RollupCounts.j3 k l w B ((a + m : Nat) : Int) (i : Int) (m : Int) false) r) :
    ∀ d n, n + d = m → Ev (fun k => lysimeterlaw19_RollupCounts.l1 k l w B ((a + n : Nat) : Int) (i : Int) (n : Int)) r := by
  have hiB := h.iB
  have ham := h.am
  have hlow := h.low
  intro d
  induction d with
  | zero =>
    intro n hn
    obtain rfl : n = m := by omega
    refine Ev.step (f := fun k => lysimeterlaw19_RollupCounts.j3 k l w B ((a + n : Nat) : Int) (i : Int) (n : Int) false) (fun k => ?_) K
    simp only [lysimeterlaw19_RollupCounts.l1]
    by_cases c : a + n < l.length
    · have h1 := h.out c
      have h2 := h.tms _ c
      rw [if_pos (by omega), if_pos (by omega), if_pos (by omega), if_pos (by omega)]
      by_cases e : Tm l (a + n) ≥ (rd_T52 B (i : Int)).f0
      · rw [if_pos e, Roll.wrap64_id (by show _ ≤ Tm l (a + n) - _; omega) (by show Tm l (a + n) - _ ≤ _; omega), decide_eq_false (by show ¬ Tm l (a + n) - _ < w; omega)]
      · rw [if_neg e]
    · rw [if_neg (by omega)]
  | succ d ih =>
    intro n hn
    have h1 := h.ins n (by omega)
    have h2 := h.tms (a + n) (by omega)
    have ih := ih (n + 1) (by omega)
    refine Ev.step (f := fun k => lysimeterlaw19_RollupCounts.j3 k l w B ((a + n : Nat) : Int) (i : Int) (n : Int) true) (fun k => ?_) ?_
    · simp only [lysimeterlaw19_RollupCounts.l1]
      rw [if_pos (by omega), if_pos (by omega), if_pos (by omega), if_pos (by omega), if_pos (show Tm l (a + n) ≥ _ by omega), Roll.wrap64_id (by show _ ≤ Tm l (a + n) - _; omega) (by show Tm l (a + n) - _ ≤ _; omega), decide_eq_true (show Tm l (a + n) - _ < w by omega)]
    · refine Ev.step (fun k => ?_) ih
      simp only [lysimeterlaw19_RollupCounts.j3]
      rw [if_pos trivial, if_pos (by omega), if_pos (by omega), if_pos (by omega), if_pos (by omega), if_neg (show ¬ Vl l (a + n) < _ by omega), if_neg (show ¬ Vl l (a + n) > _ by omega), Roll.wrap64_id (by omega) (by omega), Roll.wrap64_id (by omega) (by omega)]
      have e1 : ((a + n : Nat) : Int) + 1 = ((a + (n + 1) : Nat) : Int) := by omega
      have e2 : (n : Int) + 1 = ((n + 1 : Nat) : Int) := by omega
      rw [e1, e2]
theorem l0_step (hl : l.length ≤ 500) (hBl : B.length ≤ 500) (hw : 1 ≤ w) {a m i : Nat} (h : BuckAt l w B a m i) {r : Bool} (K : Ev (fun k => lysimeterlaw19_RollupCounts.l0 k l w B ((a + m : Nat) : Int) ((i + 1 : Nat) : Int)) r) :
    Ev (fun k => lysimeterlaw19_RollupCounts.l0 k l w B (a : Int) (i : Int)) r := by
  have hiB := h.iB
  have ham := h.am
  have hm := h.m0
  refine Ev.step (f := fun k => lysimeterlaw19_RollupCounts.l1 k l w B ((a + 0 : Nat) : Int) (i : Int) ((0 : Nat) : Int)) (fun k => ?_) (l1_run hl hw h ?_ m 0 (by omega))
  · simp only [lysimeterlaw19_RollupCounts.l0]
    rw [if_pos (by omega)]
    rfl
  · refine Ev.step (fun k => ?_) K
    simp only [lysimeterlaw19_RollupCounts.j3]
    have e1 : ((a + m : Nat) : Int) - 1 = ((a + m - 1 : Nat) : Int) := by omega
    rw [if_neg (by simp), if_pos (by omega), if_pos (by omega), if_pos h.cnt.symm, if_neg (by omega), Roll.wrap64_id (n := ((a + m : Nat) : Int) - 1) (by omega) (by omega), e1, if_pos (by omega), if_pos (by omega), if_pos h.las]
    have e3 : wrap64 ((i : Int) + 1) = ((i + 1 : Nat) : Int) := by rw [Roll.wrap64_id (by omega) (by omega)]; omega
    rw [e3]
    by_cases c : 0 < i
    · have e2 : (i : Int) - 1 = ((i - 1 : Nat) : Int) := by omega
      have hu := h.up c
      rw [if_pos (by omega), Roll.wrap64_id (n := (i : Int) - 1) (by omega) (by omega), e2, if_pos (by omega), if_pos (by omega), if_neg (by omega)]
    · rw [if_neg (by omega)]
end
theorem idx_eq {l : List S41} {j : Nat} {s : Roll.S41} (h : (l.map rollup_Buckets.to)[j]? = some s) : Tm l j = s.f0 ∧ Vl l j = s.f1 ∧ j < l.length := by
  rw [List.getElem?_map] at h
  obtain ⟨y, hy, rfl⟩ := Option.map_eq_some_iff.mp h
  have e : rd_T41 l (j : Int) = y := by
    unfold rd_T41
    rw [Int.toNat_natCast, List.getD_eq_getElem?_getD, hy]
    rfl
  refine ⟨by show (rd_T41 l (j : Int)).f0 = _; rw [e]; rfl, by show (rd_T41 l (j : Int)).f1 = _; rw [e]; rfl, (List.getElem?_eq_some_iff.1 hy).1⟩
theorem buck_eq {G : List (Int × List Roll.S41)} {i : Nat} {p : Int × List Roll.S41} (h : G[i]? = some p) : rd_T52 ((G.map (fun p => Roll.aggS p.1 p.2)).map rollup_Buckets.fr) (i : Int) = rollup_Buckets.fr (Roll.aggS p.1 p.2) := by
  unfold rd_T52
  rw [Int.toNat_natCast, List.getD_eq_getElem?_getD, List.getElem?_map, List.getElem?_map, h]
  rfl
theorem l0_run {l : List S41} {w : Int} (hl : l.length ≤ 500) (hw : 1 ≤ w) (hw2 : w ≤ 1099511627776) {G : List (Int × List Roll.S41)} (hT : ∀ s ∈ l.map rollup_Buckets.to, -9007199254740992 ≤ s.f0 ∧ s.f0 ≤ 9007199254740992)
    (hR : Roll.Rows w (l.map rollup_Buckets.to) G) (hP : G.Pairwise (fun p q => p.1 < q.1)) (hGl : G.length ≤ 500) :
    ∀ (Gb Ga : List (Int × List Roll.S41)), Ga ++ Gb = G → Ev (fun k => lysimeterlaw19_RollupCounts.l0 k l w ((G.map (fun p => Roll.aggS p.1 p.2)).map rollup_Buckets.fr) (((Ga.map (·.2)).flatten.length : Nat) : Int) (Ga.length : Int)) true := by
  have hBl : ((G.map (fun p => Roll.aggS p.1 p.2)).map rollup_Buckets.fr).length = G.length := by rw [List.length_map, List.length_map]
  intro Gb
  induction Gb with
  | nil =>
    intro Ga hG
    rw [List.append_nil] at hG
    subst hG
    have e : (Ga.map (·.2)).flatten.length = l.length := by rw [hR.all, List.length_map]
    refine Ev.step (f := fun _ => some true) (fun k => ?_) (Ev.now _)
    simp only [lysimeterlaw19_RollupCounts.l0]
    rw [if_neg (by omega), e]
    simp
  | cons p Gb ih =>
    intro Ga hG
    obtain ⟨t, seg⟩ := p
    have hmem : (t, seg) ∈ G := by rw [← hG]; simp
    obtain ⟨hne, hfl⟩ := hR.each _ hmem
    have hm : 0 < seg.length := List.length_pos_iff.mpr hne
    obtain ⟨a, ha⟩ : ∃ a, (Ga.map (·.2)).flatten.length = a := ⟨_, rfl⟩
    have hall : l.map rollup_Buckets.to = (Ga.map (·.2)).flatten ++ (seg ++ (Gb.map (·.2)).flatten) := by
      rw [← hR.all, ← hG]
      simp
    have hat : ∀ n, (l.map rollup_Buckets.to)[a + n]? = (seg ++ (Gb.map (·.2)).flatten)[n]? := by
      intro n
      rw [hall, List.getElem?_append_right (by omega)]
      congr 1
      omega
    have hlen : l.length = a + (seg.length + (Gb.map (·.2)).flatten.length) := by
      have := congrArg List.length hall
      rw [List.length_map, List.length_append, List.length_append, ha] at this
      exact this
    have hGi : G[Ga.length]? = some (t, seg) := by
      rw [← hG, List.getElem?_append_right (Nat.le_refl _), Nat.sub_self]
      rfl
    have eB := buck_eq hGi
    have hcons := Roll.agg_cons t seg.length seg rfl (by omega) hne
    have hGlen : G.length = Ga.length + (Gb.length + 1) := by rw [← hG]; simp
    have hrow : ∀ s ∈ seg, t ≤ s.f0 ∧ s.f0 - t < w ∧ -9008298766368768 ≤ t ∧ (w ∣ t) ∧ s.f0 ≤ 9007199254740992 := by
      intro s hs
      have h1 := hT s (by rw [hall]; simp [hs])
      have h2 := Roll.row_in hw h1.1 h1.2 hw2 (hfl s hs)
      exact ⟨h2.1, h2.2.1, h2.2.2.1, h2.2.2.2, h1.2⟩
    have hT0 : t = (rd_T52 ((G.map (fun p => Roll.aggS p.1 p.2)).map rollup_Buckets.fr) (Ga.length : Int)).f0 := by
      rw [eB]; exact (Roll.aggS_t t seg).symm
    have hseg : ∀ n, n < seg.length → ∃ s, s ∈ seg ∧ seg[n]? = some s ∧ (l.map rollup_Buckets.to)[a + n]? = some s := by
      intro n hn
      refine ⟨seg[n], List.getElem_mem hn, List.getElem?_eq_getElem hn, ?_⟩
      rw [hat, List.getElem?_append_left hn, List.getElem?_eq_getElem hn]
    have ih' := ih (Ga ++ [(t, seg)]) (by rw [← hG]; simp)
    have e1 : ((Ga ++ [(t, seg)]).map (·.2)).flatten.length = a + seg.length := by simp [← ha]
    have e2 : (Ga ++ [(t, seg)]).length = Ga.length + 1 := by simp
    rw [e1, e2] at ih'
    rw [ha]
    refine l0_step hl (by omega) hw (m := seg.length) ?_ ih'
    refine ⟨by omega, hm, by omega, ?_, ?_, ?_, ?_, ?_, ?_, ?_⟩
    · intro n hn
      obtain ⟨s, hs, _, h2⟩ := hseg n hn
      obtain ⟨i1, i2, _⟩ := idx_eq h2
      rw [i1, i2, ← hT0, eB]
      have h3 := hrow s hs
      exact ⟨h3.1, h3.2.1, (hcons.2.1 s hs).1, (hcons.2.1 s hs).2⟩
    · intro hlt
      obtain ⟨s0, hs0⟩ := List.exists_mem_of_ne_nil seg hne
      have h0 := hrow s0 hs0
      cases Gb with
      | nil => simp at hlen; omega
      | cons q Gb' =>
        obtain ⟨t', seg'⟩ := q
        have hmem' : (t', seg') ∈ G := by rw [← hG]; simp
        obtain ⟨hne', hfl'⟩ := hR.each _ hmem'
        obtain ⟨s', rest, rfl⟩ : ∃ s r, seg' = s :: r := by cases seg' with | nil => exact absurd rfl hne' | cons s r => exact ⟨s, r, rfl⟩
        have h2 : (l.map rollup_Buckets.to)[a + seg.length]? = some s' := by
          rw [hat, List.getElem?_append_right (Nat.le_refl _), Nat.sub_self]
          rfl
        obtain ⟨i1, _, _⟩ := idx_eq h2
        have hb' := hT s' (List.mem_of_getElem? h2)
        have h3 := Roll.row_in hw hb'.1 hb'.2 hw2 (hfl' s' (List.mem_cons_self ..))
        have hlt2 : t < t' := by
          rw [← hG, List.pairwise_append] at hP
          exact (List.pairwise_cons.mp hP.2.1).1 (t', s' :: rest) (List.mem_cons_self ..)
        rw [i1, ← hT0]
        exact Roll.row_next hw h0.2.2.2.1 h3.2.2.2 hlt2 h3.1
    · intro n hn
      have h2 : (l.map rollup_Buckets.to)[n]? = some (rollup_Buckets.to l[n]) := by rw [List.getElem?_map, List.getElem?_eq_getElem hn]; rfl
      obtain ⟨i1, _, _⟩ := idx_eq h2
      rw [i1]
      exact hT _ (List.mem_of_getElem? h2)
    · obtain ⟨s0, hs0⟩ := List.exists_mem_of_ne_nil seg hne
      have h0 := hrow s0 hs0
      rw [← hT0]
      omega
    · rw [eB]; exact hcons.1
    · obtain ⟨s, hs, h1, h2⟩ := hseg (seg.length - 1) (by omega)
      obtain ⟨_, i2, _⟩ := idx_eq h2
      rw [eB, show a + seg.length - 1 = a + (seg.length - 1) by omega, i2]
      exact hcons.2.2 s (by rw [List.getLast?_eq_getElem?]; exact h1)
    · intro h0
      obtain ⟨p, hp⟩ : ∃ p, Ga[Ga.length - 1]? = some p := ⟨_, List.getElem?_eq_getElem (by omega)⟩
      have hGp : G[Ga.length - 1]? = some p := by rw [← hG, List.getElem?_append_left (by omega)]; exact hp
      rw [buck_eq hGp, ← hT0]
      show (Roll.aggS p.1 p.2).f0 < t
      rw [Roll.aggS_t]
      rw [← hG, List.pairwise_append] at hP
      exact hP.2.2 p (List.mem_of_getElem? hp) (t, seg) (List.mem_cons_self ..)
theorem RollupCounts : lysimeterlaw19_RollupCounts.Pure := by
  intro l w hml hbl hwf hww
  have hw := Roll.i64_of_wf hww
  have hin : ∀ x ∈ l, Roll.In x.f0 ∧ Roll.In x.f1 := fun x hx => ⟨Roll.i64_of_wf (hwf x hx).1, Roll.i64_of_wf (hwf x hx).2⟩
  unfold lysimeterlaw19_RollupCounts.f
  rw [alive_eq]
  simp only [Option.bind_some, if_true]
  by_cases c1 : (l.length : Int) > 500
  · refine ⟨1, ?_⟩
    rw [if_pos c1]
    rfl
  · simp only [if_neg c1]
    by_cases c2 : w < 1
    · refine ⟨1, ?_⟩
      rw [if_pos c2]
      rfl
    · simp only [if_neg c2]
      by_cases c3 : w > 1099511627776
      · refine ⟨1, ?_⟩
        rw [decide_eq_true c3]
        rfl
      · rw [decide_eq_false c3]
        refine Ev.rounds ?_
        have hB : rollup_Buckets.f l w = some ((Roll.bucketsS (l.map rollup_Buckets.to) w).1.map rollup_Buckets.fr, (Roll.bucketsS (l.map rollup_Buckets.to) w).2) := by
          unfold rollup_Buckets.f
          rw [if_pos]
          refine Roll.inB_iff.2 ⟨by omega, fun s hs => ?_, hw⟩
          obtain ⟨y, hy, rfl⟩ := List.mem_map.mp hs
          exact hin y hy
        by_cases c4 : Roll.ris (l.map rollup_Buckets.to) 0 (l.map rollup_Buckets.to).length = true
        · obtain ⟨G, hR, hO, _, hP⟩ := Roll.rows_steps w (l.map rollup_Buckets.to) (Roll.ris_pair c4)
          have eB : Roll.bucketsS (l.map rollup_Buckets.to) w = (G.map (fun p => Roll.aggS p.1 p.2), 0) := by
            unfold Roll.bucketsS
            rw [if_neg (by omega), if_pos c4, hO]
          rw [eB] at hB
          have hGl : G.length ≤ 500 := by
            have h1 := Roll.steps_len w ((l.map rollup_Buckets.to).map Roll.oneS) ([], none)
            rw [hO] at h1
            simp only [List.length_map] at h1
            have : (Roll.outS (([], none) : List Roll.S52 × Option Roll.S52)).length = 0 := rfl
            omega
          refine Ev.step (f := fun k => lysimeterlaw19_RollupCounts.l0 k l w ((G.map (fun p => Roll.aggS p.1 p.2)).map rollup_Buckets.fr) 0 0) (fun k => ?_) ?_
          · simp only [lysimeterlaw19_RollupCounts.j0]
            rw [if_neg (by simp), hB, Option.bind_some]
            rfl
          · exact l0_run (by omega) (by omega) (by omega) (Roll.ris_timed c4) hR hP hGl G [] rfl
        · have eB : Roll.bucketsS (l.map rollup_Buckets.to) w = ([], 21) := by
            unfold Roll.bucketsS
            rw [if_neg (by omega), if_neg c4]
          rw [eB] at hB
          refine Ev.step (f := fun _ => some true) (fun k => ?_) (Ev.now _)
          simp only [lysimeterlaw19_RollupCounts.j0]
          rw [if_neg (by simp), hB, Option.bind_some]
          rfl
end Go.Proofs.Ytdglifoakdkheaa.Pure
end
section
namespace Go.Proofs.Ytdglifoakdkheaa.rollupCounts
open Go.ChangeShapes Go.WideShapes Go.ChangeAt Go.RowKit Go.Proofs.Ytdglifoakdkheaa.Rl
open Go.Proofs.YtdglifoakdkheaaW.PrintWords Go.Proofs.YtdglifoakdkheaaW.PrintLast
open Go.ChangeMaps (open_string shut_string)
set_option linter.unusedVariables false
theorem own : ownKnob Try.prog.godebug = none := by kernel_rfl
theorem laidOut : laidOutB Try.prog = true := by kernel_rfl
def IsRow (k : IntKind) (w : World) (a : Option Addr) (len cap : Nat) (zs : List Int) : Prop :=
  (a = none ∧ len = 0 ∧ cap = 0 ∧ zs = []) ∨
  ∃ x, a = some x ∧ len ≤ cap ∧ cap ≤ maxLen ∧ zs.length = cap ∧ (∀ i, i < zs.length → w.cell? (x.add i) = some (.int k (zs.getD i 0))) ∧ ∀ n ∈ zs, (Lit.int k n).wf = true
theorem cells41 : Try.prog.cellsOf 41 = 2 := by kernel_rfl
theorem cellsF41_3 : Try.prog.cellsOf 3 = 1 := by kernel_rfl
theorem bytes41 : Try.prog.bytesOf 41 = 16 := by kernel_rfl
theorem open_sl41 {H : Type} {enc : TypeId × Value → H} {W : World} {base : Nat} {spare : Nat → Bool} {held : Bool} {a : Option Addr} {len cap fuel : Nat} {x : DataW H × List MemPlace}
    (h : DataW.trod enc Try.prog W base spare held fuel 32 [.slice a len cap] = some x) :
    ∃ l : List S41, len = l.length ∧ Kd.C k41 W a l.length l ∧ l.length ≤ maxLen ∧ l.length ≤ cap ∧ (∀ y ∈ l, (Lit.int .i64 y.f0).wf = true ∧ (Lit.int .i64 y.f1).wf = true) ∧ (∃ D R, x.1 = .slice D R ∧ l.length ≤ D.length + R.length ∨ l = []) := by
  rcases Deep.open_slice Try.underlying32 h with ⟨hcs, _⟩ | ⟨x, l, c, m, n, D, Pl, hcs, _, hl, hm, hmm, hx0, hx⟩
  · simp only [List.cons.injEq, Value.slice.injEq, and_true] at hcs
    obtain ⟨rfl, rfl, rfl⟩ := hcs
    exact ⟨[], rfl, Kd.C_nil _ _, by simp, by simp, by simp, [], [], .inr rfl⟩
  · simp only [List.cons.injEq, Value.slice.injEq, and_true] at hcs
    obtain ⟨rfl, rfl, rfl⟩ := hcs
    have hlm : len ≤ m := by rw [hmm]; split <;> omega
    have key : ∀ i, i < len → ∃ y : S41, ((Lit.int .i64 y.f0).wf = true ∧ (Lit.int .i64 y.f1).wf = true) ∧ ∀ j u, [Value.int .i64 y.f0, Value.int .i64 y.f1][j]? = some u → W.cell? (x.add (i * 2 + j)) = some u := by
      intro i hi
      obtain ⟨cs', h1, h2⟩ := hx i (by omega)
      rw [cells41] at h1
      obtain ⟨xs, n', _, _, hlen, hxl, hf⟩ := DataW.trod_struct Try.underlying41 h2
      rw [cells41] at hlen
      obtain ⟨_, _, hcell⟩ := World.cells?_some h1
      match cs', hlen with
      | [c0, c1], _ =>
        have g0 := hf 0 _ rfl
        obtain ⟨n0, e0, _, w0⟩ := DataW.trod_int Try.underlying3 (g0.trans (List.getElem?_eq_getElem (by rw [hxl]; decide)))
        obtain rfl : c0 = .int .i64 n0 := by simpa [cellsF41_3] using e0
        have g1 := hf 1 _ rfl
        obtain ⟨n1, e1, _, w1⟩ := DataW.trod_int Try.underlying3 (g1.trans (List.getElem?_eq_getElem (by rw [hxl]; decide)))
        obtain rfl : c1 = .int .i64 n1 := by simpa [cellsF41_3] using e1
        refine ⟨⟨n0, n1⟩, ⟨w0, w1⟩, ?_⟩
        intro j u hu
        have hj : j < 2 := by obtain ⟨z, _⟩ := List.getElem?_eq_some_iff.1 hu; simpa using z
        have z := hcell j hj
        rw [Deep.add_add] at z
        rw [z]; exact hu
    obtain ⟨f, hf⟩ : ∃ f : Nat → S41, ∀ i, i < len → ((Lit.int .i64 (f i).f0).wf = true ∧ (Lit.int .i64 (f i).f1).wf = true) ∧ ∀ j u, [Value.int .i64 (f i).f0, Value.int .i64 (f i).f1][j]? = some u → W.cell? (x.add (i * 2 + j)) = some u := by
      haveI : Inhabited S41 := ⟨z41⟩
      exact Deep.choose_lt key
    refine ⟨(List.range len).map f, by simp, ⟨rfl, by simp only [List.length_map, List.length_range]; unfold maxLen at hm; omega, fun hn => ⟨x, rfl, fun j p hp => ?_⟩⟩, by simp only [List.length_map, List.length_range]; omega, by simpa using hl, ?_, ?_⟩
    · obtain ⟨hj, rfl⟩ := List.getElem?_eq_some_iff.1 hp
      simp only [List.length_map, List.length_range] at hj
      simp only [List.getElem_map, List.getElem_range]
      refine ⟨[Value.int .i64 (f j).f0, Value.int .i64 (f j).f1], rfl, k41_mk W (f j), fun i u hu => ?_⟩
      exact (hf j hj).2 i u hu
    · intro y hy
      simp only [List.mem_map, List.mem_range] at hy
      obtain ⟨i, hi, rfl⟩ := hy
      exact (hf i hi).1
    · refine ⟨_, _, .inl ⟨by rw [hx0], ?_⟩⟩
      simp only [List.length_map, List.length_range]
      omega
set_option maxRecDepth 100000 in
theorem lifted (os : Os) (started : os.Started) (H : Type) (enc : TypeId × Value → H) :
    ReturnsInHanded {} Try.checked os 10 .any (Rows.rollupCountsSpec.pre6 enc Try.prog Try.f10 Rows.rollupCountsRow.domain false) (Rows.rollupCountsSpec.post enc Try.prog Try.f10 false true false false) := by
  refine returnsInHanded_of_change_sized (C := Try.checked) own started (by kernel_rfl) Try.func10
    (ChangeSpec.witness6 (enc := enc) (C := Try.checked) false ⟨#[], #[.slice none 0 0, .int .i64 0], []⟩ 8 (by kernel_rfl) (by kernel_rfl) (by kernel_rfl) (by kernel_rfl)) ?_
  intro W base args ds gs before hval0 hW hcnd hsz0 _
  have hsz : (DataW.weightsEach Try.prog (Try.f10.params.toList ++ Rows.rollupCountsSpec.plain.varTypes Try.prog) (ds ++ gs)).all (· ≤ reachBytes) = true := hsz0
  have hval : ∀ (j : Nat) t v, Try.f10.params[j]? = some t → args[j]? = some v → Value.okWide Try.prog W .any base t v := hval0
  have hW' := hW
  obtain ⟨p, q, hA0, hV, rfl, hfz, hnd⟩ := hW
  have hA : DataW.TrodAll enc Try.prog W 0 (fun _ => true) true Try.f10.params.toList args.toList ds p := hA0
  rw [Try.params10] at hA hval hsz
  obtain ⟨v0, vs0, d0, ds0, p0, q0, hargs, rfl, rfl, h0, r0⟩ := trodAll_cons hA
  obtain ⟨v1, vs1, d1, ds1, p1, q1, rfl, rfl, rfl, h1, r1⟩ := trodAll_cons r0
  obtain ⟨rfl, rfl, rfl⟩ := trodAll_nil r1
  obtain rfl : args = #[v0, v1] := by cases args; simp_all
  obtain ⟨rfl, rfl⟩ := trodVars_none hV
  obtain ⟨a0, len0, cap0, rfl⟩ := okWide_slice Try.underlying32 (hval 0 32 v0 rfl rfl)
  have k0 := h0
  have lt0 : ∀ x ∈ p0, x.block < W.heap.size := by obtain ⟨m, hm⟩ := k0; exact DataW.trod_lt m _ _ _ hm
  obtain ⟨l0, rfl, hr0, hm0, hc0, hw0, y0⟩ : ∃ l : List S41, len0 = l.length ∧ Kd.C k41 W a0 l.length l ∧ l.length ≤ maxLen ∧ l.length ≤ cap0 ∧ (∀ y ∈ l, (Lit.int .i64 y.f0).wf = true ∧ (Lit.int .i64 y.f1).wf = true) ∧ l.length * 16 ≤ 140737488351232 := by
    obtain ⟨fuel, hf⟩ := h0
    obtain ⟨l, e1, e2, e3, e4, e5, D, R, e6⟩ := open_sl41 (by simpa [Value.cells] using hf)
    refine ⟨l, e1, e2, e3, e4, e5, ?_⟩
    rcases e6 with ⟨e6, e7⟩ | rfl
    · have e6' : d0 = .slice D R := e6
      subst e6'
      have z := sized_slice hsz (j := 0) (t := 32) (e := 41) rfl rfl Try.underlying32
      rw [bytes41] at z
      unfold reachBytes at z
      have z1 := Nat.mul_le_mul_right 16 e7
      omega
    · simp
  obtain ⟨a1, rfl, rfl, rfl, w1⟩ := open_int Try.underlying3 (hval 1 3 v1 rfl rfl) h1
  clear hA0 hval0 hsz0 hsz
  obtain ⟨k, hk⟩ := Pure.RollupCounts l0 a1 hm0 y0 hw0 w1
  refine (lysimeterlaw19_RollupCounts.calls k _ _ l0 a1 true W hr0 hc0 hk).mono ?_
  rintro e W' ⟨rfl, bel0⟩
  have bel : Below W.heap.size W W' := bel0
  exact ⟨_, rfl, _, _, _, [], _, [], hW', trodAll_mk1 (shut_bool Try.underlying4 _), (trodAll_cons_mk (Below.trod laidOut (by kernel_rfl) (of_decide_eq_true (by kernel_rfl)) k0 bel lt0) (trodAll_cons_mk (shut_int Try.underlying3 w1) trodAll_mk0)), rfl, bel.frame _, fun h => by cases h⟩
theorem over : Rows.rollupCountsRow.holds Try.pinned (OpenSpec.ofChange Rows.rollupCountsSpec) :=
  OpenClaim.holds_of_wide 10 Try.f10 rfl rfl rfl rfl rfl rfl rfl ⟨rfl, rfl, rfl, rfl, rfl⟩ rfl rfl rfl rfl rfl (by kernel_rfl) Try.func10 (by kernel_rfl)
    (of_decide_eq_true (by kernel_rfl)) (by unfold Func.isWrapper; first | (rw [if_pos (by decide +kernel)]; kernel_rfl) | (rw [if_neg (by decide +kernel)]; exact ⟨rfl, rfl⟩))
    (fun os started H enc _ => lifted os started H enc)
theorem proved : Rows.RollupCountsSaid := over
#print axioms proved
end Go.Proofs.Ytdglifoakdkheaa.rollupCounts
namespace Go.Proofs.Ytdglifoakdkheaa
theorem rollupCounts_holds : Rows.RollupCountsSaid := rollupCounts.proved
end Go.Proofs.Ytdglifoakdkheaa
end
