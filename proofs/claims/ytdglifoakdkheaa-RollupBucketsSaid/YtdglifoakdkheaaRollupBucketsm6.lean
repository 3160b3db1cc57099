-- Laid together by wip/shake.py out of: Rkx2
import Derived.Test.YtdglifoakdkheaaRollupBucketsm5
section
namespace Go.Proofs.Ytdglifoakdkheaa.Rk
open Go.RowKit Go.Proofs.YtdglifoakdkheaaW.PrintWords Go.Proofs.YtdglifoakdkheaaW.PrintLast Go.Proofs.YtdglifoakdkheaaW.PrintMore
attribute [local go_sem] max2_int min2_int max_two min_two max_three min_three max_four min_four   -- for this text's walks alone
set_option linter.unusedVariables false
set_option linter.unusedSimpArgs false
mutual
def lysimeterref16_Buckets.j0 : Nat → List (S41) → Int → Bool → Option ((List (S52)) × Int)
  | 0, _, _, _ => none
  | k + 1, x0, x1, x16 => if x16 = true then (some (([] : List (S52)), 1)) else ((lysimeterref16_Times.f x0).bind fun t101 => ((lysimeterref4_Rising.f t101).bind fun t104 => (if t104 = true then (lysimeterref16_Buckets.l0 k x0 x1 ([] : List (S52)) 0) else (some (([] : List (S52)), 21)))))
def lysimeterref16_Buckets.l0 : Nat → List (S41) → Int → List (S52) → Int → Option ((List (S52)) × Int)
  | 0, _, _, _, _ => none
  | k + 1, x0, x1, x7, x8 => if x8 < (x0.length : Int) then (if 0 ≤ x8 then ((lysimeterref16_Floor.f ((rd_T41 x0 x8).f0) x1).bind fun t106 => (if (x7.length : Int) > 0 then (if 0 ≤ (wrap64 ((x7.length : Int) - 1)) then (if (wrap64 ((x7.length : Int) - 1)) < (x7.length : Int) then (if ((rd_T52 x7 (wrap64 ((x7.length : Int) - 1))).f0) = t106 then ((lysimeterref16_Join.f ((rd_T52 x7 (wrap64 ((x7.length : Int) - 1))).f0) ((rd_T52 x7 (wrap64 ((x7.length : Int) - 1))).f1) ((rd_T52 x7 (wrap64 ((x7.length : Int) - 1))).f2) ((rd_T52 x7 (wrap64 ((x7.length : Int) - 1))).f3) ((rd_T52 x7 (wrap64 ((x7.length : Int) - 1))).f4) ((rd_T52 x7 (wrap64 ((x7.length : Int) - 1))).f5) t106 1 ((rd_T41 x0 x8).f1) ((rd_T41 x0 x8).f1) ((rd_T41 x0 x8).f1) ((rd_T41 x0 x8).f1)).bind fun bt114 => (lysimeterref16_Buckets.l0 k x0 x1 (x7.set ((wrap64 ((x7.length : Int) - 1)) : Int).toNat (⟨bt114.1, bt114.2.1, bt114.2.2.1, bt114.2.2.2.1, bt114.2.2.2.2.1, bt114.2.2.2.2.2⟩ : S52)) (wrap64 (x8 + 1)))) else (if x7.length < 2932031007402 then (lysimeterref16_Buckets.l0 k x0 x1 (x7 ++ [(⟨t106, 1, (rd_T41 x0 x8).f1, (rd_T41 x0 x8).f1, (rd_T41 x0 x8).f1, (rd_T41 x0 x8).f1⟩ : S52)]) (wrap64 (x8 + 1))) else (none))) else (none)) else (none)) else (if x7.length < 2932031007402 then (lysimeterref16_Buckets.l0 k x0 x1 (x7 ++ [(⟨t106, 1, (rd_T41 x0 x8).f1, (rd_T41 x0 x8).f1, (rd_T41 x0 x8).f1, (rd_T41 x0 x8).f1⟩ : S52)]) (wrap64 (x8 + 1))) else (none)))) else (none)) else (some (x7, 0))
end
def lysimeterref16_Buckets.f (k : Nat) (l0 : List (S41)) (a1 : Int) : Option ((List (S52)) × Int) := if a1 < 1 then (lysimeterref16_Buckets.j0 k l0 a1 true) else (lysimeterref16_Buckets.j0 k l0 a1 (decide (a1 > 9007199254740992)))
def lysimeterref16_Buckets.T10 : Bool × List (List Nat × List Nat) := (true, [([], []), ([], []), ([0, 1], [0, 1]), ([2], [2]), ([3], [3]), ([], []), ([4, 5], [4, 5]), ([], []), ([], []), ([7, 8], [7, 8]), ([9], [9]), ([10], [10]), ([], []), ([], []), ([12, 13], [12, 13]), ([14], [14]), ([15], [15]), ([], []), ([], []), ([17, 18], [17, 18]), ([19], [19]), ([20], [20]), ([], []), ([], []), ([22, 23], [22, 23]), ([24], [24]), ([25], [25]), ([6, 11, 16, 21, 26], [6, 11, 16, 21, 26]), ([], []), ([28, 27, 6, 0, 1, 2, 3, 4, 5, 6, 7, 8, 9, 10, 11, 12, 13, 14, 15, 16, 17, 18, 19, 20, 21, 22, 23, 24, 25, 26, 27, 28], [27, 28])])
def lysimeterref16_Buckets.B10 : List Nat := [0, 0, 3, 7, 15, 0, 63, 0, 0, 384, 896, 1920, 0, 0, 12288, 28672, 61440, 0, 0, 393216, 917504, 1966080, 0, 0, 12582912, 29360128, 62914560, 134217727, 0, 536870911]
theorem lysimeterref16_Buckets.tab10 : rtab .any (opsOf Try.f26 10) = lysimeterref16_Buckets.T10 := by kernel_rfl
theorem lysimeterref16_Buckets.bits10 : waitsOk lysimeterref16_Buckets.T10.2 lysimeterref16_Buckets.B10 = true := by kernel_rfl
def lysimeterref16_Buckets.T12 : Bool × List (List Nat × List Nat) := (true, [([], []), ([0], [0]), ([1], [1]), ([2], [2]), ([2], [2]), ([4, 2], [2, 4]), ([3, 5, 2], [2, 3, 5]), ([6, 2], [2, 6]), ([7, 2], [2, 7]), ([2], [2]), ([9, 2], [2, 9]), ([8, 10, 2], [2, 8, 10]), ([2, 11], [2, 11])])
def lysimeterref16_Buckets.B12 : List Nat := [0, 1, 3, 7, 7, 23, 63, 127, 255, 7, 519, 2047, 4095]
theorem lysimeterref16_Buckets.tab12 : rtab .any (opsOf Try.f26 12) = lysimeterref16_Buckets.T12 := by kernel_rfl
theorem lysimeterref16_Buckets.bits12 : waitsOk lysimeterref16_Buckets.T12.2 lysimeterref16_Buckets.B12 = true := by kernel_rfl
def lysimeterref16_Buckets.T13 : Bool × List (List Nat × List Nat) := (true, [([], []), ([], []), ([1], [1]), ([], []), ([], []), ([4], [4]), ([3, 5], [3, 5]), ([6], [6]), ([], []), ([7, 8], [7, 8]), ([0, 2, 0, 1, 2, 3, 4, 5, 6, 7, 8, 9], [0, 2]), ([10, 9, 9, 0, 1, 2, 3, 4, 5, 6, 7, 8, 9], [9, 10])])
def lysimeterref16_Buckets.B13 : List Nat := [0, 0, 2, 0, 0, 16, 56, 120, 0, 504, 1023, 2047]
theorem lysimeterref16_Buckets.tab13 : rtab .any (opsOf Try.f26 13) = lysimeterref16_Buckets.T13 := by kernel_rfl
theorem lysimeterref16_Buckets.bits13 : waitsOk lysimeterref16_Buckets.T13.2 lysimeterref16_Buckets.B13 = true := by kernel_rfl
set_option maxHeartbeats 8000000 in
set_option maxRecDepth 100000 in
theorem lysimeterref16_Buckets.calls (k : Nat) (A0 : Option Addr) (c0 : Nat) (l0 : List (S41)) (a1 : Int) (r1 : List (S52)) (r2 : Int) (w : World) (hr0 : Kd.C k41 w A0 l0.length l0) (hc0 : l0.length ≤ c0) (h : lysimeterref16_Buckets.f k l0 a1 = some (r1, r2)) :
    Calls Try.prog 26 #[.slice A0 l0.length c0, .int .i64 a1] w fun e w' => ∃ v0_ : Value, e = .returned (.tuple #[v0_, .int .i64 r2]) ∧ Kd.R k52 52 w' w.heap.size (fun _ => True) v0_ r1 ∧ Below w.heap.size w w' := by
  have hu52 := Try.underlying52
  have HR0 := Aside0.mk hr0
  have HC0 := Aside0.mk hc0
  clear hr0 hc0
  have HB := Aside0.mk (Below.refl w.heap.size w)
  have H : (if a1 < 1 then (lysimeterref16_Buckets.j0 k l0 a1 true) else (lysimeterref16_Buckets.j0 k l0 a1 (decide (a1 > 9007199254740992)))) = some (r1, r2) := h
  clear h
  have HC3 := Aside0.mk H
  clear H
  go_enter Try.func26, Try.ntmps26
  go_upto_region 1 with (fail)
  go_cut [16] (fun v16 wc => ∃ (kq : Nat) (x16_2 : Bool), v16 = .bool x16_2 ∧ Aside0 (lysimeterref16_Buckets.j0 kq l0 a1 x16_2 = some (r1, r2)) ∧ Aside0 (kq ≤ k) ∧ Aside0 (Below w.heap.size w wc))
  case first =>
    have H := HC3.out
    clear HC3
    by_cases c4 : a1 < 1
    · rw [if_pos c4] at H
      have c4b0 : decide (a1 < 1) = true := decide_eq_true c4
      clear c4
      (first | rw [c4b0] | (simp only [i64_w, i32_w]; rw [c4b0]) | skip)
      have H' := Aside0.mk H
      clear H
      go_wp2
      go_meet
      case rel => exact ⟨_, (true), (by first | rfl | (simp; done) | (simp [*]; done)), H', ⟨by first | omega | exact Nat.le_refl _⟩, ⟨by repeat (first | (with_reducible first | exact HB.out | apply below_alloc | apply pw_below_drewN | apply below_drew1) | exact HB.out)⟩⟩
    · rw [if_neg c4] at H
      have c4b0 : decide (a1 < 1) = false := decide_eq_false c4
      clear c4
      (first | rw [c4b0] | (simp only [i64_w, i32_w]; rw [c4b0]) | skip)
      have H' := Aside0.mk H
      clear H
      go_wp2
      go_meet
      case rel => exact ⟨_, (decide (a1 > 9007199254740992)), (by first | rfl | (simp; done) | (simp [*]; done)), H', ⟨by first | omega | exact Nat.le_refl _⟩, ⟨by repeat (first | (with_reducible first | exact HB.out | apply below_alloc | apply pw_below_drewN | apply below_drew1) | exact HB.out)⟩⟩
  case rest =>
    clear HC3
    try clear c2
    try clear p2
    try clear c4
    try clear c4b0
    obtain ⟨kq, x16_2, rfl, HA, HJ2, HB⟩ := hcut
    cases kq with
    | zero => exact absurd HA.out (by simp [lysimeterref16_Buckets.j0])
    | succ kj2 =>
      have H := HA.out
      clear HA
      simp only [lysimeterref16_Buckets.j0] at H
      by_cases c5 : x16_2 = true
      · subst c5
        have H1 : (some (([] : List (S52)), 1)) = some (r1, r2) := by rw [if_pos rfl] at H; exact H
        clear H
        have H := H1
        clear H1
        simp only [Option.some.injEq, Prod.mk.injEq] at H
        obtain ⟨rfl, rfl⟩ := H
        go_wp2
        go_ret2
        exact ⟨_, by first | rfl | (simp [errW_none, errW_some] <;> rfl) | (simp [*, errW_none, errW_some] <;> rfl), by first | exact Kd.R_nil _ _ _ _ _ | exact Kd.N_nil _ _ _ _ _ | exact Kd.V_nil _ _ _ _ _ | exact Kd.Q_nil _ _ _ _ _ | exact Kd.S_nil _ _ _ _ _, by repeat (first | (with_reducible first | exact HB.out | apply below_alloc | apply pw_below_drewN | apply below_drew1) | exact HB.out)⟩
      · replace c5 := Bool.eq_false_iff.mpr c5
        subst c5
        have H1 : ((lysimeterref16_Times.f l0).bind fun t101 => ((lysimeterref4_Rising.f t101).bind fun t104 => (if t104 = true then (lysimeterref16_Buckets.l0 kj2 l0 a1 ([] : List (S52)) 0) else (some (([] : List (S52)), 21))))) = some (r1, r2) := by rw [if_neg (show ¬ (false = true) by decide)] at H; exact H
        clear H
        have H := H1
        clear H1
        replace H := Option.bind_eq_some_iff.mp H
        obtain ⟨t101, A60, H⟩ := H
        replace H : ((lysimeterref4_Rising.f t101).bind fun t104 => (if t104 = true then (lysimeterref16_Buckets.l0 kj2 l0 a1 ([] : List (S52)) 0) else (some (([] : List (S52)), 21)))) = some (r1, r2) := H
        have A6 := Aside0.mk A60
        clear A60
        replace H := Option.bind_eq_some_iff.mp H
        obtain ⟨t104, A70, H⟩ := H
        replace H : (if t104 = true then (lysimeterref16_Buckets.l0 kj2 l0 a1 ([] : List (S52)) 0) else (some (([] : List (S52)), 21))) = some (r1, r2) := H
        have A7 := Aside0.mk A70
        clear A70
        by_cases c8 : t104 = true
        · subst c8
          have H1 : (lysimeterref16_Buckets.l0 kj2 l0 a1 ([] : List (S52)) 0) = some (r1, r2) := by rw [if_pos rfl] at H; exact H
          clear H
          have H := H1
          clear H1
          have H' := Aside0.mk H
          clear H
          go_wp2_with (first | ((with_reducible refine gate_callee (f := 41) rfl ?_); refine goesL_ (some 18) rfl rfl Try.func41 (by kernel_rfl) rfl #[.slice A0 l0.length c0] rfl (by (try simp only [List.map_toArray, List.map_cons, List.map_nil]); first | done | rfl | (simp only [List.length_drop, List.length_take]; rfl)) ?_; (with_reducible refine (lysimeterref16_Times.calls _ _ l0 t101 _ ?side1 ?side2 A6.out).mono ?_); (case side1 => repeat (first | exact (Kd.C_below HR0.out HB.out) | (with_reducible refine Kd.C_alloc ?_ _) | (with_reducible refine Kd.C_drewN ?_ _) | (with_reducible refine Kd.C_drew ?_))); (case side2 => exact HC0.out); rintro e w9 ⟨v102, rfl, ho0, hb⟩; refine ⟨_, rfl, ?_⟩; have n0_ := Aside0.mk (Kd.R_lower ho0 (below_size (by repeat (first | (with_reducible first | exact HB.out | apply below_alloc | apply pw_below_drewN | apply below_drew1) | exact HB.out)))); have n1_ := Aside0.mk (below_step (by repeat (first | (with_reducible first | exact HB.out | apply below_alloc | apply pw_below_drewN | apply below_drew1) | exact HB.out)) hb); clear HB; have HO103 := n0_; have HB := n1_; clear n0_ n1_; (try clear hb); (try clear hb2); (try clear hk); (try clear hi); (try clear ho0); obtain ⟨Ao10, co10, eo10⟩ := Kd.R_slice HO103.out; subst eo10) | ((with_reducible refine gate_callee (f := 40) rfl ?_); refine goesL_ (some 19) rfl rfl Try.func40 (by kernel_rfl) rfl #[.slice Ao10 t101.length co10] rfl (by (try simp only [List.map_toArray, List.map_cons, List.map_nil]); first | done | rfl | (simp only [List.length_drop, List.length_take]; rfl)) ?_; (with_reducible refine (lysimeterref4_Rising.calls _ _ t101 true _ ?side1 ?side2 A7.out).mono ?_); (case side1 => repeat (first | exact (Kd.R_reads' HO103.out).2.2 | (with_reducible refine Kd.C_alloc ?_ _) | (with_reducible refine Kd.C_drewN ?_ _) | (with_reducible refine Kd.C_drew ?_))); (case side2 => exact (Kd.R_reads' HO103.out).2.1); rintro e w' ⟨rfl, ⟨nd, rfl⟩⟩; refine ⟨_, rfl, ?_⟩))
          go_loopg [7, 8] kj2 (fun kq v7 v8 w' => ∃ (x7_2 : List (S52)) (x8_2 : Int), v8 = .int .i64 x8_2 ∧ Aside0 (lysimeterref16_Buckets.l0 kq l0 a1 x7_2 x8_2 = some (r1, r2)) ∧ Aside0 (kq ≤ kj2) ∧ Aside0 (Kd.R k52 52 w' w.heap.size (fun _ => True) v7 x7_2) ∧ Aside0 (Below w.heap.size w w'))
          case atStart => exact ⟨(([] : List (S52))), (0), (by first | rfl | (simp; done) | (simp [*]; done)), H', ⟨Nat.le_refl _⟩, ⟨by first | exact Kd.R_nil _ _ _ _ _ | exact Kd.N_nil _ _ _ _ _ | exact Kd.V_nil _ _ _ _ _ | exact Kd.Q_nil _ _ _ _ _ | exact Kd.S_nil _ _ _ _ _⟩, ⟨by repeat (first | (with_reducible first | exact HB.out | apply below_alloc | apply pw_below_drewN | apply below_drew1) | exact HB.out)⟩⟩
          case round =>
            clear H'
            try clear c2
            try clear p2
            try clear c4
            try clear c4b0
            try clear c5
            try clear c8
            try clear p2
            obtain ⟨x7_2, x8_2, rfl, HA, HK2, HO_7, HB⟩ := hrel
            cases gk with
            | zero => exact absurd HA.out (by simp [lysimeterref16_Buckets.l0])
            | succ k2 =>
              have H := HA.out
              clear HA
              simp only [lysimeterref16_Buckets.l0] at H
              by_cases c11 : x8_2 < (l0.length : Int)
              · rw [if_pos c11] at H
                have c11b0 : decide (x8_2 < (l0.length : Int)) = true := decide_eq_true c11
                clear c11
                by_cases c12 : 0 ≤ x8_2
                · rw [if_pos c12] at H
                  have c12b0 : decide (0 ≤ x8_2) = true := decide_eq_true c12
                  clear c12
                  replace H := Option.bind_eq_some_iff.mp H
                  obtain ⟨t106, A130, H⟩ := H
                  replace H : (if (x7_2.length : Int) > 0 then (if 0 ≤ (wrap64 ((x7_2.length : Int) - 1)) then (if (wrap64 ((x7_2.length : Int) - 1)) < (x7_2.length : Int) then (if ((rd_T52 x7_2 (wrap64 ((x7_2.length : Int) - 1))).f0) = t106 then ((lysimeterref16_Join.f ((rd_T52 x7_2 (wrap64 ((x7_2.length : Int) - 1))).f0) ((rd_T52 x7_2 (wrap64 ((x7_2.length : Int) - 1))).f1) ((rd_T52 x7_2 (wrap64 ((x7_2.length : Int) - 1))).f2) ((rd_T52 x7_2 (wrap64 ((x7_2.length : Int) - 1))).f3) ((rd_T52 x7_2 (wrap64 ((x7_2.length : Int) - 1))).f4) ((rd_T52 x7_2 (wrap64 ((x7_2.length : Int) - 1))).f5) t106 1 ((rd_T41 l0 x8_2).f1) ((rd_T41 l0 x8_2).f1) ((rd_T41 l0 x8_2).f1) ((rd_T41 l0 x8_2).f1)).bind fun bt114 => (lysimeterref16_Buckets.l0 k2 l0 a1 (x7_2.set ((wrap64 ((x7_2.length : Int) - 1)) : Int).toNat (⟨bt114.1, bt114.2.1, bt114.2.2.1, bt114.2.2.2.1, bt114.2.2.2.2.1, bt114.2.2.2.2.2⟩ : S52)) (wrap64 (x8_2 + 1)))) else (if x7_2.length < 2932031007402 then (lysimeterref16_Buckets.l0 k2 l0 a1 (x7_2 ++ [(⟨t106, 1, (rd_T41 l0 x8_2).f1, (rd_T41 l0 x8_2).f1, (rd_T41 l0 x8_2).f1, (rd_T41 l0 x8_2).f1⟩ : S52)]) (wrap64 (x8_2 + 1))) else (none))) else (none)) else (none)) else (if x7_2.length < 2932031007402 then (lysimeterref16_Buckets.l0 k2 l0 a1 (x7_2 ++ [(⟨t106, 1, (rd_T41 l0 x8_2).f1, (rd_T41 l0 x8_2).f1, (rd_T41 l0 x8_2).f1, (rd_T41 l0 x8_2).f1⟩ : S52)]) (wrap64 (x8_2 + 1))) else (none))) = some (r1, r2) := H
                  have A13 := Aside0.mk A130
                  clear A130
                  by_cases c14 : (x7_2.length : Int) > 0
                  · rw [if_pos c14] at H
                    have c14b0 : decide (0 < (x7_2.length : Int)) = true := decide_eq_true c14
                    have c14b1 : decide (0 < x7_2.length) = true := decide_eq_true (by omega)
                    clear c14
                    obtain ⟨ji15, hji15⟩ : ∃ j_ : Int, (wrap64 ((x7_2.length : Int) - 1)) = j_ := ⟨_, rfl⟩
                    replace H : (if 0 ≤ (ji15) then (if (ji15) < (x7_2.length : Int) then (if ((rd_T52 x7_2 (ji15)).f0) = t106 then ((lysimeterref16_Join.f ((rd_T52 x7_2 (ji15)).f0) ((rd_T52 x7_2 (ji15)).f1) ((rd_T52 x7_2 (ji15)).f2) ((rd_T52 x7_2 (ji15)).f3) ((rd_T52 x7_2 (ji15)).f4) ((rd_T52 x7_2 (ji15)).f5) t106 1 ((rd_T41 l0 x8_2).f1) ((rd_T41 l0 x8_2).f1) ((rd_T41 l0 x8_2).f1) ((rd_T41 l0 x8_2).f1)).bind fun bt114 => (lysimeterref16_Buckets.l0 k2 l0 a1 (x7_2.set ((ji15) : Int).toNat (⟨bt114.1, bt114.2.1, bt114.2.2.1, bt114.2.2.2.1, bt114.2.2.2.2.1, bt114.2.2.2.2.2⟩ : S52)) (wrap64 (x8_2 + 1)))) else (if x7_2.length < 2932031007402 then (lysimeterref16_Buckets.l0 k2 l0 a1 (x7_2 ++ [(⟨t106, 1, (rd_T41 l0 x8_2).f1, (rd_T41 l0 x8_2).f1, (rd_T41 l0 x8_2).f1, (rd_T41 l0 x8_2).f1⟩ : S52)]) (wrap64 (x8_2 + 1))) else (none))) else (none)) else (none)) = some (r1, r2) := by first | (rw [hji15] at H; exact H) | (simp only [hji15] at H ⊢; exact H)
                    (try rw [hji15] at A13)
                    have hji15w : (IntKind.i64.wrap ((x7_2.length : Int) - 1)) = ji15 := (i64_w _).trans hji15
                    by_cases c16 : 0 ≤ (ji15)
                    · rw [if_pos c16] at H
                      have c16b0 : decide (0 ≤ (ji15)) = true := decide_eq_true c16
                      clear c16
                      by_cases c17 : (ji15) < (x7_2.length : Int)
                      · rw [if_pos c17] at H
                        have c17b0 : decide ((ji15) < (x7_2.length : Int)) = true := decide_eq_true c17
                        clear c17
                        by_cases c18 : ((rd_T52 x7_2 (ji15)).f0) = t106
                        · rw [if_pos c18] at H
                          have c18b0 : (((rd_T52 x7_2 (ji15)).f0) == t106) = true := beq_iff_eq.mpr c18
                          have c18b1 : (((rd_T52 x7_2 (ji15)).f0) != t106) = false := bne_eq_false_iff_eq.mpr c18
                          clear c18
                          replace H := Option.bind_eq_some_iff.mp H
                          obtain ⟨⟨t114, t115, t116, t117, t118, t119⟩, A190, H⟩ := H
                          replace H : (lysimeterref16_Buckets.l0 k2 l0 a1 (x7_2.set ((ji15) : Int).toNat (⟨t114, t115, t116, t117, t118, t119⟩ : S52)) (wrap64 (x8_2 + 1))) = some (r1, r2) := H
                          have A19 := Aside0.mk A190
                          clear A190
                          obtain ⟨y120, hy120⟩ : ∃ y_ : List (S52), y_ = (x7_2.set ((ji15) : Int).toNat (⟨t114, t115, t116, t117, t118, t119⟩ : S52)) := ⟨_, rfl⟩
                          replace H : (lysimeterref16_Buckets.l0 k2 l0 a1 y120 (wrap64 (x8_2 + 1))) = some (r1, r2) := by first | (rw [hy120]; with_reducible exact H) | (have H2_ := (Option.bind_some _ _).symm.trans H; rw [hy120]; with_reducible exact H2_) | (have H2_ := (Option.bind_some _ _).symm.trans H; with_reducible exact H2_) | with_reducible exact H | (rw [hy120]; exact H) | exact H
                          have Ny120 := Aside0.mk hy120
                          clear hy120
                          have H' := Aside0.mk H
                          clear H
                          try go_wp2
                          have n0_ := Aside0.mk (Kd.R_drew HO_7.out)
                          have n1_ := Aside0.mk (below_drew1 HB.out)
                          clear HO_7
                          clear HB
                          have HO_7 := n0_
                          have HB := n1_
                          clear n0_ n1_
                          have p105 : 0 ≤ (x8_2 : Int) := of_decide_eq_true (by first | (with_reducible assumption) | assumption)
                          have q105 : x8_2 < (l0.length : Int) := of_decide_eq_true (by first | (with_reducible assumption) | assumption)
                          obtain ⟨ad105, e105, hx105_0, hx105_1⟩ := at_T41 HR0.out x8_2 p105 q105
                          have hw105_1 := hx105_1
                          have hw105_0 := hx105_0
                          cases e105
                          replace hx105_0 := (HB.out.cell (World.block_lt_of_cell? w _ hx105_0)).trans hx105_0
                          replace hx105_1 := (HB.out.cell (World.block_lt_of_cell? w _ hx105_1)).trans hx105_1
                          replace p105 := eq_true p105
                          replace q105 := eq_true q105
                          have p107 : 0 ≤ (x8_2 : Int) := of_decide_eq_true (by first | (with_reducible assumption) | assumption)
                          have q107 : x8_2 < (l0.length : Int) := of_decide_eq_true (by first | (with_reducible assumption) | assumption)
                          obtain ⟨ad107, e107, hx107_0, hx107_1⟩ := at_T41 HR0.out x8_2 p107 q107
                          have hw107_1 := hx107_1
                          have hw107_0 := hx107_0
                          obtain rfl : ad105 = ad107 := (by injection e107)
                          replace hx107_0 := (HB.out.cell (World.block_lt_of_cell? w _ hx107_0)).trans hx107_0
                          replace hx107_1 := (HB.out.cell (World.block_lt_of_cell? w _ hx107_1)).trans hx107_1
                          replace p107 := eq_true p107
                          replace q107 := eq_true q107
                          have p108 : 0 ≤ (x8_2 : Int) := of_decide_eq_true (by first | (with_reducible assumption) | assumption)
                          have q108 : x8_2 < (l0.length : Int) := of_decide_eq_true (by first | (with_reducible assumption) | assumption)
                          obtain ⟨ad108, e108, hx108_0, hx108_1⟩ := at_T41 HR0.out x8_2 p108 q108
                          have hw108_1 := hx108_1
                          have hw108_0 := hx108_0
                          obtain rfl : ad105 = ad108 := (by injection e108)
                          replace hx108_0 := (HB.out.cell (World.block_lt_of_cell? w _ hx108_0)).trans hx108_0
                          replace hx108_1 := (HB.out.cell (World.block_lt_of_cell? w _ hx108_1)).trans hx108_1
                          replace p108 := eq_true p108
                          replace q108 := eq_true q108
                          have p109 : 0 ≤ (x8_2 : Int) := of_decide_eq_true (by first | (with_reducible assumption) | assumption)
                          have q109 : x8_2 < (l0.length : Int) := of_decide_eq_true (by first | (with_reducible assumption) | assumption)
                          obtain ⟨ad109, e109, hx109_0, hx109_1⟩ := at_T41 HR0.out x8_2 p109 q109
                          have hw109_1 := hx109_1
                          have hw109_0 := hx109_0
                          obtain rfl : ad105 = ad109 := (by injection e109)
                          replace hx109_0 := (HB.out.cell (World.block_lt_of_cell? w _ hx109_0)).trans hx109_0
                          replace hx109_1 := (HB.out.cell (World.block_lt_of_cell? w _ hx109_1)).trans hx109_1
                          replace p109 := eq_true p109
                          replace q109 := eq_true q109
                          have p110 : 0 ≤ (x8_2 : Int) := of_decide_eq_true (by first | (with_reducible assumption) | assumption)
                          have q110 : x8_2 < (l0.length : Int) := of_decide_eq_true (by first | (with_reducible assumption) | assumption)
                          obtain ⟨ad110, e110, hx110_0, hx110_1⟩ := at_T41 HR0.out x8_2 p110 q110
                          have hw110_1 := hx110_1
                          have hw110_0 := hx110_0
                          obtain rfl : ad105 = ad110 := (by injection e110)
                          replace hx110_0 := (HB.out.cell (World.block_lt_of_cell? w _ hx110_0)).trans hx110_0
                          replace hx110_1 := (HB.out.cell (World.block_lt_of_cell? w _ hx110_1)).trans hx110_1
                          replace p110 := eq_true p110
                          replace q110 := eq_true q110
                          refine start_ (n := 30) (S := fun w' => w'.cell? (ad105.add ((x8_2).toNat * 2)) = some (.int .i64 ((rd_T41 l0 x8_2).f0)) ∧ w'.cell? ⟨(ad105.add ((x8_2).toNat * 2)).block, (ad105.add ((x8_2).toNat * 2)).off + 1, none⟩ = some (.int .i64 ((rd_T41 l0 x8_2).f1)) ∧ w'.cell? (ad105.add ((x8_2).toNat * 2)) = some (.int .i64 ((rd_T41 l0 x8_2).f0)) ∧ w'.cell? ⟨(ad105.add ((x8_2).toNat * 2)).block, (ad105.add ((x8_2).toNat * 2)).off + 1, none⟩ = some (.int .i64 ((rd_T41 l0 x8_2).f1)) ∧ w'.cell? (ad105.add ((x8_2).toNat * 2)) = some (.int .i64 ((rd_T41 l0 x8_2).f0)) ∧ w'.cell? ⟨(ad105.add ((x8_2).toNat * 2)).block, (ad105.add ((x8_2).toNat * 2)).off + 1, none⟩ = some (.int .i64 ((rd_T41 l0 x8_2).f1)) ∧ w'.cell? (ad105.add ((x8_2).toNat * 2)) = some (.int .i64 ((rd_T41 l0 x8_2).f0)) ∧ w'.cell? ⟨(ad105.add ((x8_2).toNat * 2)).block, (ad105.add ((x8_2).toNat * 2)).off + 1, none⟩ = some (.int .i64 ((rd_T41 l0 x8_2).f1)) ∧ w'.cell? (ad105.add ((x8_2).toNat * 2)) = some (.int .i64 ((rd_T41 l0 x8_2).f0)) ∧ w'.cell? ⟨(ad105.add ((x8_2).toNat * 2)).block, (ad105.add ((x8_2).toNat * 2)).off + 1, none⟩ = some (.int .i64 ((rd_T41 l0 x8_2).f1))) (ds := []) #[false, false, false, false, false, false, false, false, false, false, false, false, false, false, false, false, false, false, false, false, false, false, false, false, false, false, false, false, false, false] (by kernel_rfl) rfl rfl ⟨((HB.out.cell (World.block_lt_of_cell? w _ hw105_0)).trans hw105_0), ((HB.out.cell (World.block_lt_of_cell? w _ hw105_1)).trans hw105_1), ((HB.out.cell (World.block_lt_of_cell? w _ hw107_0)).trans hw107_0), ((HB.out.cell (World.block_lt_of_cell? w _ hw107_1)).trans hw107_1), ((HB.out.cell (World.block_lt_of_cell? w _ hw108_0)).trans hw108_0), ((HB.out.cell (World.block_lt_of_cell? w _ hw108_1)).trans hw108_1), ((HB.out.cell (World.block_lt_of_cell? w _ hw109_0)).trans hw109_0), ((HB.out.cell (World.block_lt_of_cell? w _ hw109_1)).trans hw109_1), ((HB.out.cell (World.block_lt_of_cell? w _ hw110_0)).trans hw110_0), ((HB.out.cell (World.block_lt_of_cell? w _ hw110_1)).trans hw110_1)⟩ (fun hHeld => ?_); refine with_tabW lysimeterref16_Buckets.tab10 lysimeterref16_Buckets.bits10 (fun HT_ HW_ => ?_)
                          generalize wr.drew = w21 at HO_7 HB hx105_0 hx105_1 hx107_0 hx107_1 hx108_0 hx108_1 hx109_0 hx109_1 hx110_0 hx110_1 hHeld ⊢
                          refine pure_ (i := 0) (N := some 28) (v := ?_) (a' := ?_) #[true, false, false, false, false, false, false, false, false, false, false, false, false, false, false, false, false, false, false, false, false, false, false, false, false, false, false, false, false, false] rfl rfl (any_of HT_.out (by kernel_rfl)) (fun _ _ _ h => h) (Or.inl ⟨by rfl, ?_⟩) ?_ ?_
                          rotate_left
                          · intro w'
                            go_simp
                            with_reducible rfl
                          rotate_left
                          · simp only [Act.put, List.setIfInBounds_toArray, List.set_cons_zero, List.set_cons_succ, i64_w, i32_w]
                            rfl
                          refine pure_ (i := 1) (N := some 29) (v := ?_) (a' := ?_) #[true, true, false, false, false, false, false, false, false, false, false, false, false, false, false, false, false, false, false, false, false, false, false, false, false, false, false, false, false, false] rfl rfl (any_of HT_.out (by kernel_rfl)) (fun _ _ _ h => h) (Or.inl ⟨by rfl, ?_⟩) ?_ ?_
                          rotate_left
                          · intro w'
                            go_simp
                            with_reducible rfl
                          rotate_left
                          · simp only [Act.put, List.setIfInBounds_toArray, List.set_cons_zero, List.set_cons_succ, i64_w, i32_w]
                            rfl
                          refine pure_ (i := 2) (N := some 30) (v := ?_) (a' := ?_) #[true, true, true, false, false, false, false, false, false, false, false, false, false, false, false, false, false, false, false, false, false, false, false, false, false, false, false, false, false, false] rfl rfl (any_of HT_.out (by kernel_rfl)) (fun _ _ _ h => h) (Or.inl ⟨by rfl, ?_⟩) ?_ ?_
                          rotate_left
                          · intro w'
                            go_simp
                            with_reducible rfl
                          rotate_left
                          · simp only [Act.put, List.setIfInBounds_toArray, List.set_cons_zero, List.set_cons_succ, i64_w, i32_w]
                            rfl
                          refine pure_ (i := 3) (N := some 31) (v := ?_) (a' := ?_) #[true, true, true, true, false, false, false, false, false, false, false, false, false, false, false, false, false, false, false, false, false, false, false, false, false, false, false, false, false, false] rfl rfl (any_of HT_.out (by kernel_rfl)) (fun _ _ _ h => h) (Or.inl ⟨by rfl, ?_⟩) ?_ ?_
                          rotate_left
                          · intro w'
                            go_simp
                            with_reducible rfl
                          rotate_left
                          · simp only [Act.put, List.setIfInBounds_toArray, List.set_cons_zero, List.set_cons_succ, i64_w, i32_w]
                            rfl
                          refine pure_ (i := 5) (N := some 33) (v := ?_) (a' := ?_) #[true, true, true, true, false, true, false, false, false, false, false, false, false, false, false, false, false, false, false, false, false, false, false, false, false, false, false, false, false, false] rfl rfl (any_of HT_.out (by kernel_rfl)) (fun _ _ _ h => h) (Or.inl ⟨by rfl, ?_⟩) ?_ ?_
                          rotate_left
                          · intro w'
                            go_simp
                            with_reducible rfl
                          rotate_left
                          · simp only [Act.put, List.setIfInBounds_toArray, List.set_cons_zero, List.set_cons_succ, i64_w, i32_w]
                            rfl
                          refine pure_ (i := 7) (N := some 35) (v := ?_) (a' := ?_) #[true, true, true, true, false, true, false, true, false, false, false, false, false, false, false, false, false, false, false, false, false, false, false, false, false, false, false, false, false, false] rfl rfl (any_of HT_.out (by kernel_rfl)) (fun _ _ _ h => h) (Or.inl ⟨by rfl, ?_⟩) ?_ ?_
                          rotate_left
                          · intro w'
                            go_simp
                            with_reducible rfl
                          rotate_left
                          · simp only [Act.put, List.setIfInBounds_toArray, List.set_cons_zero, List.set_cons_succ, i64_w, i32_w]
                            rfl
                          refine pure_ (i := 8) (N := some 36) (v := ?_) (a' := ?_) #[true, true, true, true, false, true, false, true, true, false, false, false, false, false, false, false, false, false, false, false, false, false, false, false, false, false, false, false, false, false] rfl rfl (any_of HT_.out (by kernel_rfl)) (fun _ _ _ h => h) (Or.inl ⟨by rfl, ?_⟩) ?_ ?_
                          rotate_left
                          · intro w'
                            go_simp
                            with_reducible rfl
                          rotate_left
                          · simp only [Act.put, List.setIfInBounds_toArray, List.set_cons_zero, List.set_cons_succ, i64_w, i32_w]
                            rfl
                          refine pure_ (i := 9) (N := some 37) (v := ?_) (a' := ?_) #[true, true, true, true, false, true, false, true, true, true, false, false, false, false, false, false, false, false, false, false, false, false, false, false, false, false, false, false, false, false] rfl rfl (any_of HT_.out (by kernel_rfl)) (fun _ _ _ h => h) (Or.inl ⟨by rfl, ?_⟩) ?_ ?_
                          rotate_left
                          · intro w'
                            go_simp
                            with_reducible rfl
                          rotate_left
                          · simp only [Act.put, List.setIfInBounds_toArray, List.set_cons_zero, List.set_cons_succ, i64_w, i32_w]
                            rfl
                          refine pure_ (i := 10) (N := some 38) (v := ?_) (a' := ?_) #[true, true, true, true, false, true, false, true, true, true, true, false, false, false, false, false, false, false, false, false, false, false, false, false, false, false, false, false, false, false] rfl rfl (any_of HT_.out (by kernel_rfl)) (fun _ _ _ h => h) (Or.inl ⟨by rfl, ?_⟩) ?_ ?_
                          rotate_left
                          · intro w'
                            go_simp
                            with_reducible rfl
                          rotate_left
                          · simp only [Act.put, List.setIfInBounds_toArray, List.set_cons_zero, List.set_cons_succ, i64_w, i32_w]
                            rfl
                          refine pure_ (i := 12) (N := some 40) (v := ?_) (a' := ?_) #[true, true, true, true, false, true, false, true, true, true, true, false, true, false, false, false, false, false, false, false, false, false, false, false, false, false, false, false, false, false] rfl rfl (any_of HT_.out (by kernel_rfl)) (fun _ _ _ h => h) (Or.inl ⟨by rfl, ?_⟩) ?_ ?_
                          rotate_left
                          · intro w'
                            go_simp
                            with_reducible rfl
                          rotate_left
                          · simp only [Act.put, List.setIfInBounds_toArray, List.set_cons_zero, List.set_cons_succ, i64_w, i32_w]
                            rfl
                          refine pure_ (i := 13) (N := some 41) (v := ?_) (a' := ?_) #[true, true, true, true, false, true, false, true, true, true, true, false, true, true, false, false, false, false, false, false, false, false, false, false, false, false, false, false, false, false] rfl rfl (any_of HT_.out (by kernel_rfl)) (fun _ _ _ h => h) (Or.inl ⟨by rfl, ?_⟩) ?_ ?_
                          rotate_left
                          · intro w'
                            go_simp
                            with_reducible rfl
                          rotate_left
                          · simp only [Act.put, List.setIfInBounds_toArray, List.set_cons_zero, List.set_cons_succ, i64_w, i32_w]
                            rfl
                          refine pure_ (i := 14) (N := some 42) (v := ?_) (a' := ?_) #[true, true, true, true, false, true, false, true, true, true, true, false, true, true, true, false, false, false, false, false, false, false, false, false, false, false, false, false, false, false] rfl rfl (any_of HT_.out (by kernel_rfl)) (fun _ _ _ h => h) (Or.inl ⟨by rfl, ?_⟩) ?_ ?_
                          rotate_left
                          · intro w'
                            go_simp
                            with_reducible rfl
                          rotate_left
                          · simp only [Act.put, List.setIfInBounds_toArray, List.set_cons_zero, List.set_cons_succ, i64_w, i32_w]
                            rfl
                          refine pure_ (i := 15) (N := some 43) (v := ?_) (a' := ?_) #[true, true, true, true, false, true, false, true, true, true, true, false, true, true, true, true, false, false, false, false, false, false, false, false, false, false, false, false, false, false] rfl rfl (any_of HT_.out (by kernel_rfl)) (fun _ _ _ h => h) (Or.inl ⟨by rfl, ?_⟩) ?_ ?_
                          rotate_left
                          · intro w'
                            go_simp
                            with_reducible rfl
                          rotate_left
                          · simp only [Act.put, List.setIfInBounds_toArray, List.set_cons_zero, List.set_cons_succ, i64_w, i32_w]
                            rfl
                          refine pure_ (i := 17) (N := some 45) (v := ?_) (a' := ?_) #[true, true, true, true, false, true, false, true, true, true, true, false, true, true, true, true, false, true, false, false, false, false, false, false, false, false, false, false, false, false] rfl rfl (any_of HT_.out (by kernel_rfl)) (fun _ _ _ h => h) (Or.inl ⟨by rfl, ?_⟩) ?_ ?_
                          rotate_left
                          · intro w'
                            go_simp
                            with_reducible rfl
                          rotate_left
                          · simp only [Act.put, List.setIfInBounds_toArray, List.set_cons_zero, List.set_cons_succ, i64_w, i32_w]
                            rfl
                          refine pure_ (i := 18) (N := some 46) (v := ?_) (a' := ?_) #[true, true, true, true, false, true, false, true, true, true, true, false, true, true, true, true, false, true, true, false, false, false, false, false, false, false, false, false, false, false] rfl rfl (any_of HT_.out (by kernel_rfl)) (fun _ _ _ h => h) (Or.inl ⟨by rfl, ?_⟩) ?_ ?_
                          rotate_left
                          · intro w'
                            go_simp
                            with_reducible rfl
                          rotate_left
                          · simp only [Act.put, List.setIfInBounds_toArray, List.set_cons_zero, List.set_cons_succ, i64_w, i32_w]
                            rfl
                          refine pure_ (i := 19) (N := some 47) (v := ?_) (a' := ?_) #[true, true, true, true, false, true, false, true, true, true, true, false, true, true, true, true, false, true, true, true, false, false, false, false, false, false, false, false, false, false] rfl rfl (any_of HT_.out (by kernel_rfl)) (fun _ _ _ h => h) (Or.inl ⟨by rfl, ?_⟩) ?_ ?_
                          rotate_left
                          · intro w'
                            go_simp
                            with_reducible rfl
                          rotate_left
                          · simp only [Act.put, List.setIfInBounds_toArray, List.set_cons_zero, List.set_cons_succ, i64_w, i32_w]
                            rfl
                          refine pure_ (i := 20) (N := some 48) (v := ?_) (a' := ?_) #[true, true, true, true, false, true, false, true, true, true, true, false, true, true, true, true, false, true, true, true, true, false, false, false, false, false, false, false, false, false] rfl rfl (any_of HT_.out (by kernel_rfl)) (fun _ _ _ h => h) (Or.inl ⟨by rfl, ?_⟩) ?_ ?_
                          rotate_left
                          · intro w'
                            go_simp
                            with_reducible rfl
                          rotate_left
                          · simp only [Act.put, List.setIfInBounds_toArray, List.set_cons_zero, List.set_cons_succ, i64_w, i32_w]
                            rfl
                          refine pure_ (i := 22) (N := some 50) (v := ?_) (a' := ?_) #[true, true, true, true, false, true, false, true, true, true, true, false, true, true, true, true, false, true, true, true, true, false, true, false, false, false, false, false, false, false] rfl rfl (any_of HT_.out (by kernel_rfl)) (fun _ _ _ h => h) (Or.inl ⟨by rfl, ?_⟩) ?_ ?_
                          rotate_left
                          · intro w'
                            go_simp
                            with_reducible rfl
                          rotate_left
                          · simp only [Act.put, List.setIfInBounds_toArray, List.set_cons_zero, List.set_cons_succ, i64_w, i32_w]
                            rfl
                          refine pure_ (i := 23) (N := some 51) (v := ?_) (a' := ?_) #[true, true, true, true, false, true, false, true, true, true, true, false, true, true, true, true, false, true, true, true, true, false, true, true, false, false, false, false, false, false] rfl rfl (any_of HT_.out (by kernel_rfl)) (fun _ _ _ h => h) (Or.inl ⟨by rfl, ?_⟩) ?_ ?_
                          rotate_left
                          · intro w'
                            go_simp
                            with_reducible rfl
                          rotate_left
                          · simp only [Act.put, List.setIfInBounds_toArray, List.set_cons_zero, List.set_cons_succ, i64_w, i32_w]
                            rfl
                          refine pure_ (i := 24) (N := some 52) (v := ?_) (a' := ?_) #[true, true, true, true, false, true, false, true, true, true, true, false, true, true, true, true, false, true, true, true, true, false, true, true, true, false, false, false, false, false] rfl rfl (any_of HT_.out (by kernel_rfl)) (fun _ _ _ h => h) (Or.inl ⟨by rfl, ?_⟩) ?_ ?_
                          rotate_left
                          · intro w'
                            go_simp
                            with_reducible rfl
                          rotate_left
                          · simp only [Act.put, List.setIfInBounds_toArray, List.set_cons_zero, List.set_cons_succ, i64_w, i32_w]
                            rfl
                          refine pure_ (i := 25) (N := some 53) (v := ?_) (a' := ?_) #[true, true, true, true, false, true, false, true, true, true, true, false, true, true, true, true, false, true, true, true, true, false, true, true, true, true, false, false, false, false] rfl rfl (any_of HT_.out (by kernel_rfl)) (fun _ _ _ h => h) (Or.inl ⟨by rfl, ?_⟩) ?_ ?_
                          rotate_left
                          · intro w'
                            go_simp
                            with_reducible rfl
                          rotate_left
                          · simp only [Act.put, List.setIfInBounds_toArray, List.set_cons_zero, List.set_cons_succ, i64_w, i32_w]
                            rfl
                          refine take_ (i := 4) (N := some 32) (v := ?_) (a' := ?_) #[true, true, true, true, true, true, false, true, true, true, true, false, true, true, true, true, false, true, true, true, true, false, true, true, true, true, false, false, false, false] rfl rfl (take_ofW HT_.out HW_.out (by kernel_rfl)) (fun _ _ _ h => h) (Or.inl ⟨by rfl, ?_⟩) hHeld ?_ ?_
                          rotate_left
                          · rintro w' ⟨s0, s1, s2, s3, s4, s5, s6, s7, s8, s9⟩
                            go_simp
                            with_reducible rfl
                          rotate_left
                          · simp only [Act.put, List.setIfInBounds_toArray, List.set_cons_zero, List.set_cons_succ, i64_w, i32_w]
                            rfl
                          refine take_ (i := 11) (N := some 39) (v := ?_) (a' := ?_) #[true, true, true, true, true, true, false, true, true, true, true, true, true, true, true, true, false, true, true, true, true, false, true, true, true, true, false, false, false, false] rfl rfl (take_ofW HT_.out HW_.out (by kernel_rfl)) (fun _ _ _ h => h) (Or.inl ⟨by rfl, ?_⟩) hHeld ?_ ?_
                          rotate_left
                          · rintro w' ⟨s0, s1, s2, s3, s4, s5, s6, s7, s8, s9⟩
                            go_simp
                            with_reducible rfl
                          rotate_left
                          · simp only [Act.put, List.setIfInBounds_toArray, List.set_cons_zero, List.set_cons_succ, i64_w, i32_w]
                            rfl
                          refine take_ (i := 16) (N := some 44) (v := ?_) (a' := ?_) #[true, true, true, true, true, true, false, true, true, true, true, true, true, true, true, true, true, true, true, true, true, false, true, true, true, true, false, false, false, false] rfl rfl (take_ofW HT_.out HW_.out (by kernel_rfl)) (fun _ _ _ h => h) (Or.inl ⟨by rfl, ?_⟩) hHeld ?_ ?_
                          rotate_left
                          · rintro w' ⟨s0, s1, s2, s3, s4, s5, s6, s7, s8, s9⟩
                            go_simp
                            with_reducible rfl
                          rotate_left
                          · simp only [Act.put, List.setIfInBounds_toArray, List.set_cons_zero, List.set_cons_succ, i64_w, i32_w]
                            rfl
                          refine take_ (i := 21) (N := some 49) (v := ?_) (a' := ?_) #[true, true, true, true, true, true, false, true, true, true, true, true, true, true, true, true, true, true, true, true, true, true, true, true, true, true, false, false, false, false] rfl rfl (take_ofW HT_.out HW_.out (by kernel_rfl)) (fun _ _ _ h => h) (Or.inl ⟨by rfl, ?_⟩) hHeld ?_ ?_
                          rotate_left
                          · rintro w' ⟨s0, s1, s2, s3, s4, s5, s6, s7, s8, s9⟩
                            go_simp
                            with_reducible rfl
                          rotate_left
                          · simp only [Act.put, List.setIfInBounds_toArray, List.set_cons_zero, List.set_cons_succ, i64_w, i32_w]
                            rfl
                          refine take_ (i := 26) (N := some 54) (v := ?_) (a' := ?_) #[true, true, true, true, true, true, false, true, true, true, true, true, true, true, true, true, true, true, true, true, true, true, true, true, true, true, true, false, false, false] rfl rfl (take_ofW HT_.out HW_.out (by kernel_rfl)) (fun _ _ _ h => h) (Or.inl ⟨by rfl, ?_⟩) hHeld ?_ ?_
                          rotate_left
                          · rintro w' ⟨s0, s1, s2, s3, s4, s5, s6, s7, s8, s9⟩
                            go_simp
                            with_reducible rfl
                          rotate_left
                          · simp only [Act.put, List.setIfInBounds_toArray, List.set_cons_zero, List.set_cons_succ, i64_w, i32_w]
                            rfl
                          refine join_ (σ := Nat) 1 #[true, true, true, true, true, true, true, true, true, true, true, true, true, true, true, true, true, true, true, true, true, true, true, true, true, true, true, true, true, false] (fun s_ => [(34, .int .i64 t106), (9, .pointer (some ⟨s_, 0, none⟩)), (55, .agg #[.int .i64 t106, .int .i64 1, .int .i64 ((rd_T41 l0 x8_2).f1), .int .i64 ((rd_T41 l0 x8_2).f1), .int .i64 ((rd_T41 l0 x8_2).f1), .int .i64 ((rd_T41 l0 x8_2).f1)])]) (fun s_ w' => (w'.cell? (ad105.add ((x8_2).toNat * 2)) = some (.int .i64 ((rd_T41 l0 x8_2).f0)) ∧ w'.cell? ⟨(ad105.add ((x8_2).toNat * 2)).block, (ad105.add ((x8_2).toNat * 2)).off + 1, none⟩ = some (.int .i64 ((rd_T41 l0 x8_2).f1)) ∧ w'.cell? (ad105.add ((x8_2).toNat * 2)) = some (.int .i64 ((rd_T41 l0 x8_2).f0)) ∧ w'.cell? ⟨(ad105.add ((x8_2).toNat * 2)).block, (ad105.add ((x8_2).toNat * 2)).off + 1, none⟩ = some (.int .i64 ((rd_T41 l0 x8_2).f1)) ∧ w'.cell? (ad105.add ((x8_2).toNat * 2)) = some (.int .i64 ((rd_T41 l0 x8_2).f0)) ∧ w'.cell? ⟨(ad105.add ((x8_2).toNat * 2)).block, (ad105.add ((x8_2).toNat * 2)).off + 1, none⟩ = some (.int .i64 ((rd_T41 l0 x8_2).f1)) ∧ w'.cell? (ad105.add ((x8_2).toNat * 2)) = some (.int .i64 ((rd_T41 l0 x8_2).f0)) ∧ w'.cell? ⟨(ad105.add ((x8_2).toNat * 2)).block, (ad105.add ((x8_2).toNat * 2)).off + 1, none⟩ = some (.int .i64 ((rd_T41 l0 x8_2).f1)) ∧ w'.cell? (ad105.add ((x8_2).toNat * 2)) = some (.int .i64 ((rd_T41 l0 x8_2).f0)) ∧ w'.cell? ⟨(ad105.add ((x8_2).toNat * 2)).block, (ad105.add ((x8_2).toNat * 2)).off + 1, none⟩ = some (.int .i64 ((rd_T41 l0 x8_2).f1))) ∧ (Kd.R k52 52 w' w.heap.size (fun k_ => k_ ≠ s_) u7 x7_2) ∧ (w'.heap[s_]? = some (.cells #[.int .i64 0, .int .i64 0, .int .i64 0, .int .i64 0, .int .i64 0, .int .i64 0] 52 (0, 0))) ∧ (w.heap.size ≤ s_) ∧ (w.heap.size ≤ s_) ∧ (Below w.heap.size w w')) ?_ ?_
                          rotate_left
                          · intro hCont
                            refine two_ (i := 6) (j := 28) (Ni := some 34) (Nj := some 9) #[true, true, true, true, true, true, true, true, true, true, true, true, true, true, true, true, true, true, true, true, true, true, true, true, true, true, true, false, false, false] #[true, true, true, true, true, true, false, true, true, true, true, true, true, true, true, true, true, true, true, true, true, true, true, true, true, true, true, false, true, false] rfl rfl rfl rfl (two_of HT_.out (by kernel_rfl)) (by decide) (by decide) (fun K hK => ?_) (fun K hK => ?_)
                            · skip
                              refine goes_ Try.func30 (by kernel_rfl) rfl #[.int .i64 ((rd_T41 l0 x8_2).f0), .int .i64 a1] (by rfl) rfl rfl (by (try simp only [List.map_toArray, List.map_cons, List.map_nil]); first | done | rfl | (simp only [List.length_drop, List.length_take]; rfl)) ?_
                              with_reducible refine (lysimeterref16_Floor.calls ((rd_T41 l0 x8_2).f0) a1 t106 _ A13.out).mono ?_
                              rintro e w' ⟨rfl, ⟨nd, rfl⟩⟩
                              refine ⟨_, rfl, ?_⟩
                              refine hK.out _ _ ⟨((HB.out.cell (World.block_lt_of_cell? w _ hw105_0)).trans hw105_0), ((HB.out.cell (World.block_lt_of_cell? w _ hw105_1)).trans hw105_1), ((HB.out.cell (World.block_lt_of_cell? w _ hw107_0)).trans hw107_0), ((HB.out.cell (World.block_lt_of_cell? w _ hw107_1)).trans hw107_1), ((HB.out.cell (World.block_lt_of_cell? w _ hw108_0)).trans hw108_0), ((HB.out.cell (World.block_lt_of_cell? w _ hw108_1)).trans hw108_1), ((HB.out.cell (World.block_lt_of_cell? w _ hw109_0)).trans hw109_0), ((HB.out.cell (World.block_lt_of_cell? w _ hw109_1)).trans hw109_1), ((HB.out.cell (World.block_lt_of_cell? w _ hw110_0)).trans hw110_0), ((HB.out.cell (World.block_lt_of_cell? w _ hw110_1)).trans hw110_1)⟩ (fun hHeld => ?_)
                              clear hK K
                              refine norm_ (a' := ?_) ?_ ?_
                              rotate_left
                              · show Act.put _ (some 34) _ = _
                                simp only [Act.put, List.setIfInBounds_toArray, List.set_cons_zero, List.set_cons_succ, i64_w, i32_w]
                                rfl
                              refine pure_ (i := 27) (N := some 55) (v := ?_) (a' := ?_) #[true, true, true, true, true, true, true, true, true, true, true, true, true, true, true, true, true, true, true, true, true, true, true, true, true, true, true, true, false, false] rfl rfl (any_of HT_.out (by kernel_rfl)) (fun _ _ _ h => h) (Or.inl ⟨by rfl, ?_⟩) ?_ ?_
                              rotate_left
                              · intro w'
                                go_simp
                                with_reducible rfl
                              rotate_left
                              · simp only [Act.put, List.setIfInBounds_toArray, List.set_cons_zero, List.set_cons_succ, i64_w, i32_w]
                                rfl
                              refine one_ (i := 28) (N := some 9) #[true, true, true, true, true, true, true, true, true, true, true, true, true, true, true, true, true, true, true, true, true, true, true, true, true, true, true, true, true, false] rfl rfl (one_of HT_.out (by kernel_rfl)) (by decide) (fun K hK => ?_)
                              refine box_step ?hg (N := 9) ?hd (cs := #[.int .i64 0, .int .i64 0, .int .i64 0, .int .i64 0, .int .i64 0, .int .i64 0]) (t := 52) ?hr ?_; (case hd => rfl); (case hg => rfl); (case hr => first | (go_simp; done) | (go_simp; rfl))
                              intro gb111 hg w22 hbox hb
                              have n0_ := Aside0.mk (Kd.R_below (Kd.R_elderB (by (with_reducible repeat (first | apply Kd.R_alloc | apply Kd.R_drewN | apply Kd.R_drew)); exact HO_7.out) gb111 (Nat.le_of_eq hg.symm)) hb)
                              have n1_ := Aside0.mk (below_step (by repeat (first | (with_reducible first | exact HB.out | apply below_alloc | apply pw_below_drewN | apply below_drew1) | exact HB.out)) hb)
                              have n2_ := Aside0.mk (hbox)
                              have n3_ := Aside0.mk ((by rw [hg]; exact (below_size (by repeat (first | (with_reducible first | exact HB.out | apply below_alloc | apply pw_below_drewN | apply below_drew1) | exact HB.out))) : w.heap.size ≤ gb111))
                              have n4_ := Aside0.mk ((by rw [hg]; exact (below_size (by repeat (first | (with_reducible first | exact HB.out | apply below_alloc | apply pw_below_drewN | apply below_drew1) | exact HB.out))) : w.heap.size ≤ gb111))
                              clear HO_7
                              clear HB
                              have HO_7 := n0_
                              have HB := n1_
                              have BK111 := n2_
                              have GW111 := n3_
                              have GE111 := n4_
                              clear n0_ n1_ n2_ n3_ n4_
                              clear hb hbox hg
                              refine hK.out _ _ ⟨((HB.out.cell (World.block_lt_of_cell? w _ hw105_0)).trans hw105_0), ((HB.out.cell (World.block_lt_of_cell? w _ hw105_1)).trans hw105_1), ((HB.out.cell (World.block_lt_of_cell? w _ hw107_0)).trans hw107_0), ((HB.out.cell (World.block_lt_of_cell? w _ hw107_1)).trans hw107_1), ((HB.out.cell (World.block_lt_of_cell? w _ hw108_0)).trans hw108_0), ((HB.out.cell (World.block_lt_of_cell? w _ hw108_1)).trans hw108_1), ((HB.out.cell (World.block_lt_of_cell? w _ hw109_0)).trans hw109_0), ((HB.out.cell (World.block_lt_of_cell? w _ hw109_1)).trans hw109_1), ((HB.out.cell (World.block_lt_of_cell? w _ hw110_0)).trans hw110_0), ((HB.out.cell (World.block_lt_of_cell? w _ hw110_1)).trans hw110_1)⟩ (fun hHeld => ?_)
                              clear hK K
                              refine norm_ (a' := ?_) ?_ ?_
                              rotate_left
                              · show Act.put _ (some 9) _ = _
                                simp only [Act.put, List.setIfInBounds_toArray, List.set_cons_zero, List.set_cons_succ, i64_w, i32_w]
                                rfl
                              exact norm_ (by simp only [putAll, Act.put, List.setIfInBounds_toArray, List.set_cons_zero, List.set_cons_succ]) (hCont (gb111) _ ⟨hHeld, (by (with_reducible repeat (first | apply Kd.R_alloc | apply Kd.R_drewN | apply Kd.R_drew)); exact Kd.R_mono HO_7.out (fun _ hk => hk.2)), (by (with_reducible repeat (first | refine blk_drewN ?_ _ | refine blk_drew ?_ | refine blk_alloc ?_ _)); exact BK111.out), GW111.out, GE111.out, (by repeat (first | (with_reducible first | exact HB.out | apply below_alloc | apply pw_below_drewN | apply below_drew1 | refine below_set ?_ GE111.out) | exact HB.out))⟩)
                            · skip
                              refine box_step ?hg (N := 9) ?hd (cs := #[.int .i64 0, .int .i64 0, .int .i64 0, .int .i64 0, .int .i64 0, .int .i64 0]) (t := 52) ?hr ?_; (case hd => rfl); (case hg => rfl); (case hr => first | (go_simp; done) | (go_simp; rfl))
                              intro gb111 hg w22 hbox hb
                              have n0_ := Aside0.mk (Kd.R_below (Kd.R_elderB (by (with_reducible repeat (first | apply Kd.R_alloc | apply Kd.R_drewN | apply Kd.R_drew)); exact HO_7.out) gb111 (Nat.le_of_eq hg.symm)) hb)
                              have n1_ := Aside0.mk (below_step (by repeat (first | (with_reducible first | exact HB.out | apply below_alloc | apply pw_below_drewN | apply below_drew1) | exact HB.out)) hb)
                              have n2_ := Aside0.mk (hbox)
                              have n3_ := Aside0.mk ((by rw [hg]; exact (below_size (by repeat (first | (with_reducible first | exact HB.out | apply below_alloc | apply pw_below_drewN | apply below_drew1) | exact HB.out))) : w.heap.size ≤ gb111))
                              have n4_ := Aside0.mk ((by rw [hg]; exact (below_size (by repeat (first | (with_reducible first | exact HB.out | apply below_alloc | apply pw_below_drewN | apply below_drew1) | exact HB.out))) : w.heap.size ≤ gb111))
                              clear HO_7
                              clear HB
                              have HO_7 := n0_
                              have HB := n1_
                              have BK111 := n2_
                              have GW111 := n3_
                              have GE111 := n4_
                              clear n0_ n1_ n2_ n3_ n4_
                              clear hb hbox hg
                              refine hK.out _ _ ⟨((HB.out.cell (World.block_lt_of_cell? w _ hw105_0)).trans hw105_0), ((HB.out.cell (World.block_lt_of_cell? w _ hw105_1)).trans hw105_1), ((HB.out.cell (World.block_lt_of_cell? w _ hw107_0)).trans hw107_0), ((HB.out.cell (World.block_lt_of_cell? w _ hw107_1)).trans hw107_1), ((HB.out.cell (World.block_lt_of_cell? w _ hw108_0)).trans hw108_0), ((HB.out.cell (World.block_lt_of_cell? w _ hw108_1)).trans hw108_1), ((HB.out.cell (World.block_lt_of_cell? w _ hw109_0)).trans hw109_0), ((HB.out.cell (World.block_lt_of_cell? w _ hw109_1)).trans hw109_1), ((HB.out.cell (World.block_lt_of_cell? w _ hw110_0)).trans hw110_0), ((HB.out.cell (World.block_lt_of_cell? w _ hw110_1)).trans hw110_1)⟩ (fun hHeld => ?_)
                              clear hK K
                              refine norm_ (a' := ?_) ?_ ?_
                              rotate_left
                              · show Act.put _ (some 9) _ = _
                                simp only [Act.put, List.setIfInBounds_toArray, List.set_cons_zero, List.set_cons_succ, i64_w, i32_w]
                                rfl
                              refine one_ (i := 6) (N := some 34) #[true, true, true, true, true, true, true, true, true, true, true, true, true, true, true, true, true, true, true, true, true, true, true, true, true, true, true, false, true, false] rfl rfl (one_of HT_.out (by kernel_rfl)) (by decide) (fun K hK => ?_)
                              refine goes_ Try.func30 (by kernel_rfl) rfl #[.int .i64 ((rd_T41 l0 x8_2).f0), .int .i64 a1] (by rfl) rfl rfl (by (try simp only [List.map_toArray, List.map_cons, List.map_nil]); first | done | rfl | (simp only [List.length_drop, List.length_take]; rfl)) ?_
                              with_reducible refine (lysimeterref16_Floor.calls ((rd_T41 l0 x8_2).f0) a1 t106 _ A13.out).mono ?_
                              rintro e w' ⟨rfl, ⟨nd, rfl⟩⟩
                              refine ⟨_, rfl, ?_⟩
                              refine hK.out _ _ ⟨((HB.out.cell (World.block_lt_of_cell? w _ hw105_0)).trans hw105_0), ((HB.out.cell (World.block_lt_of_cell? w _ hw105_1)).trans hw105_1), ((HB.out.cell (World.block_lt_of_cell? w _ hw107_0)).trans hw107_0), ((HB.out.cell (World.block_lt_of_cell? w _ hw107_1)).trans hw107_1), ((HB.out.cell (World.block_lt_of_cell? w _ hw108_0)).trans hw108_0), ((HB.out.cell (World.block_lt_of_cell? w _ hw108_1)).trans hw108_1), ((HB.out.cell (World.block_lt_of_cell? w _ hw109_0)).trans hw109_0), ((HB.out.cell (World.block_lt_of_cell? w _ hw109_1)).trans hw109_1), ((HB.out.cell (World.block_lt_of_cell? w _ hw110_0)).trans hw110_0), ((HB.out.cell (World.block_lt_of_cell? w _ hw110_1)).trans hw110_1)⟩ (fun hHeld => ?_)
                              clear hK K
                              refine norm_ (a' := ?_) ?_ ?_
                              rotate_left
                              · show Act.put _ (some 34) _ = _
                                simp only [Act.put, List.setIfInBounds_toArray, List.set_cons_zero, List.set_cons_succ, i64_w, i32_w]
                                rfl
                              refine pure_ (i := 27) (N := some 55) (v := ?_) (a' := ?_) #[true, true, true, true, true, true, true, true, true, true, true, true, true, true, true, true, true, true, true, true, true, true, true, true, true, true, true, true, true, false] rfl rfl (any_of HT_.out (by kernel_rfl)) (fun _ _ _ h => h) (Or.inl ⟨by rfl, ?_⟩) ?_ ?_
                              rotate_left
                              · intro w'
                                go_simp
                                with_reducible rfl
                              rotate_left
                              · simp only [Act.put, List.setIfInBounds_toArray, List.set_cons_zero, List.set_cons_succ, i64_w, i32_w]
                                rfl
                              exact norm_ (by simp only [putAll, Act.put, List.setIfInBounds_toArray, List.set_cons_zero, List.set_cons_succ]) (hCont (gb111) _ ⟨hHeld, (by (with_reducible repeat (first | apply Kd.R_alloc | apply Kd.R_drewN | apply Kd.R_drew)); exact Kd.R_mono HO_7.out (fun _ hk => hk.2)), (by (with_reducible repeat (first | refine blk_drewN ?_ _ | refine blk_drew ?_ | refine blk_alloc ?_ _)); exact BK111.out), GW111.out, GE111.out, (by repeat (first | (with_reducible first | exact HB.out | apply below_alloc | apply pw_below_drewN | apply below_drew1 | refine below_set ?_ GE111.out) | exact HB.out))⟩)
                          rintro gb111 w23 ⟨hS_, h0_, h1_, h2_, h3_, h4_⟩
                          have n0_ : Aside0 (Kd.R k52 52 w23 w.heap.size (fun k_ => k_ ≠ gb111) u7 x7_2) := ⟨h0_⟩
                          have n1_ : Aside0 (w23.heap[gb111]? = some (.cells #[.int .i64 0, .int .i64 0, .int .i64 0, .int .i64 0, .int .i64 0, .int .i64 0] 52 (0, 0))) := ⟨h1_⟩
                          have n2_ : Aside0 (w.heap.size ≤ gb111) := ⟨h2_⟩
                          have n3_ : Aside0 (w.heap.size ≤ gb111) := ⟨h3_⟩
                          have n4_ : Aside0 (Below w.heap.size w w23) := ⟨h4_⟩
                          clear HO_7
                          clear HB
                          clear h0_ h1_ h2_ h3_ h4_
                          have HO_7 := n0_
                          have BK111 := n1_
                          have GW111 := n2_
                          have GE111 := n3_
                          have HB := n4_
                          clear n0_ n1_ n2_ n3_ n4_
                          have hHeld : w23.cell? (ad105.add ((x8_2).toNat * 2)) = some (.int .i64 ((rd_T41 l0 x8_2).f0)) ∧ w23.cell? ⟨(ad105.add ((x8_2).toNat * 2)).block, (ad105.add ((x8_2).toNat * 2)).off + 1, none⟩ = some (.int .i64 ((rd_T41 l0 x8_2).f1)) ∧ w23.cell? (ad105.add ((x8_2).toNat * 2)) = some (.int .i64 ((rd_T41 l0 x8_2).f0)) ∧ w23.cell? ⟨(ad105.add ((x8_2).toNat * 2)).block, (ad105.add ((x8_2).toNat * 2)).off + 1, none⟩ = some (.int .i64 ((rd_T41 l0 x8_2).f1)) ∧ w23.cell? (ad105.add ((x8_2).toNat * 2)) = some (.int .i64 ((rd_T41 l0 x8_2).f0)) ∧ w23.cell? ⟨(ad105.add ((x8_2).toNat * 2)).block, (ad105.add ((x8_2).toNat * 2)).off + 1, none⟩ = some (.int .i64 ((rd_T41 l0 x8_2).f1)) ∧ w23.cell? (ad105.add ((x8_2).toNat * 2)) = some (.int .i64 ((rd_T41 l0 x8_2).f0)) ∧ w23.cell? ⟨(ad105.add ((x8_2).toNat * 2)).block, (ad105.add ((x8_2).toNat * 2)).off + 1, none⟩ = some (.int .i64 ((rd_T41 l0 x8_2).f1)) ∧ w23.cell? (ad105.add ((x8_2).toNat * 2)) = some (.int .i64 ((rd_T41 l0 x8_2).f0)) ∧ w23.cell? ⟨(ad105.add ((x8_2).toNat * 2)).block, (ad105.add ((x8_2).toNat * 2)).off + 1, none⟩ = some (.int .i64 ((rd_T41 l0 x8_2).f1)) := hS_
                          refine norm_ (a' := ?_) ?_ ?_
                          rotate_left
                          · simp only [putAll, Act.put, List.setIfInBounds_toArray, List.set_cons_zero, List.set_cons_succ]
                            rfl
                          refine one_ (i := 29) (N := none) #[true, true, true, true, true, true, true, true, true, true, true, true, true, true, true, true, true, true, true, true, true, true, true, true, true, true, true, true, true, true] rfl rfl (one_of HT_.out (by kernel_rfl)) (by decide) (fun K hK => ?_)
                          have hs24 : w23.cell? ⟨gb111, 0, none⟩ = some (.int .i64 0) := (blk_cell BK111.out 0).trans rfl
                          have hfs24 := blk_frozen BK111.out 0
                          have hs25 : w23.cell? ⟨gb111, 1, none⟩ = some (.int .i64 0) := (blk_cell BK111.out 1).trans rfl
                          have hfs25 := blk_frozen BK111.out 1
                          have hs26 : w23.cell? ⟨gb111, 2, none⟩ = some (.int .i64 0) := (blk_cell BK111.out 2).trans rfl
                          have hfs26 := blk_frozen BK111.out 2
                          have hs27 : w23.cell? ⟨gb111, 3, none⟩ = some (.int .i64 0) := (blk_cell BK111.out 3).trans rfl
                          have hfs27 := blk_frozen BK111.out 3
                          have hs28 : w23.cell? ⟨gb111, 4, none⟩ = some (.int .i64 0) := (blk_cell BK111.out 4).trans rfl
                          have hfs28 := blk_frozen BK111.out 4
                          have hs29 : w23.cell? ⟨gb111, 5, none⟩ = some (.int .i64 0) := (blk_cell BK111.out 5).trans rfl
                          have hfs29 := blk_frozen BK111.out 5
                          refine skip_ (w1 := ?_) (by rfl) rfl ?_ ?_
                          rotate_left
                          · go_simp
                            rfl
                          refine hK.out _ _ ⟨((cell_far (p := ⟨gb111, _, none⟩) (by first | exact far_ hw105_0 GW111.out | (rw [add_block]; exact far_ hw105_0 GW111.out) | exact far2_ hw105_0 GW111.out | (rw [add_block]; exact far2_ hw105_0 GW111.out) | (show (Addr.add _ _).block ≠ _; rw [add_block]; first | exact far_ hw105_0 GW111.out | exact far2_ hw105_0 GW111.out)) _).trans (((cell_far (p := ⟨gb111, _, none⟩) (by first | exact far_ hw105_0 GW111.out | (rw [add_block]; exact far_ hw105_0 GW111.out) | exact far2_ hw105_0 GW111.out | (rw [add_block]; exact far2_ hw105_0 GW111.out) | (show (Addr.add _ _).block ≠ _; rw [add_block]; first | exact far_ hw105_0 GW111.out | exact far2_ hw105_0 GW111.out)) _).trans (((cell_far (p := ⟨gb111, _, none⟩) (by first | exact far_ hw105_0 GW111.out | (rw [add_block]; exact far_ hw105_0 GW111.out) | exact far2_ hw105_0 GW111.out | (rw [add_block]; exact far2_ hw105_0 GW111.out) | (show (Addr.add _ _).block ≠ _; rw [add_block]; first | exact far_ hw105_0 GW111.out | exact far2_ hw105_0 GW111.out)) _).trans (((cell_far (p := ⟨gb111, _, none⟩) (by first | exact far_ hw105_0 GW111.out | (rw [add_block]; exact far_ hw105_0 GW111.out) | exact far2_ hw105_0 GW111.out | (rw [add_block]; exact far2_ hw105_0 GW111.out) | (show (Addr.add _ _).block ≠ _; rw [add_block]; first | exact far_ hw105_0 GW111.out | exact far2_ hw105_0 GW111.out)) _).trans (((cell_far (p := ⟨gb111, _, none⟩) (by first | exact far_ hw105_0 GW111.out | (rw [add_block]; exact far_ hw105_0 GW111.out) | exact far2_ hw105_0 GW111.out | (rw [add_block]; exact far2_ hw105_0 GW111.out) | (show (Addr.add _ _).block ≠ _; rw [add_block]; first | exact far_ hw105_0 GW111.out | exact far2_ hw105_0 GW111.out)) _).trans (((cell_far (p := ⟨gb111, _, none⟩) (by first | exact far_ hw105_0 GW111.out | (rw [add_block]; exact far_ hw105_0 GW111.out) | exact far2_ hw105_0 GW111.out | (rw [add_block]; exact far2_ hw105_0 GW111.out) | (show (Addr.add _ _).block ≠ _; rw [add_block]; first | exact far_ hw105_0 GW111.out | exact far2_ hw105_0 GW111.out)) _).trans (hHeld.1)))))))))))), ((cell_far (p := ⟨gb111, _, none⟩) (by first | exact far_ hw105_1 GW111.out | (rw [add_block]; exact far_ hw105_1 GW111.out) | exact far2_ hw105_1 GW111.out | (rw [add_block]; exact far2_ hw105_1 GW111.out) | (show (Addr.add _ _).block ≠ _; rw [add_block]; first | exact far_ hw105_1 GW111.out | exact far2_ hw105_1 GW111.out)) _).trans (((cell_far (p := ⟨gb111, _, none⟩) (by first | exact far_ hw105_1 GW111.out | (rw [add_block]; exact far_ hw105_1 GW111.out) | exact far2_ hw105_1 GW111.out | (rw [add_block]; exact far2_ hw105_1 GW111.out) | (show (Addr.add _ _).block ≠ _; rw [add_block]; first | exact far_ hw105_1 GW111.out | exact far2_ hw105_1 GW111.out)) _).trans (((cell_far (p := ⟨gb111, _, none⟩) (by first | exact far_ hw105_1 GW111.out | (rw [add_block]; exact far_ hw105_1 GW111.out) | exact far2_ hw105_1 GW111.out | (rw [add_block]; exact far2_ hw105_1 GW111.out) | (show (Addr.add _ _).block ≠ _; rw [add_block]; first | exact far_ hw105_1 GW111.out | exact far2_ hw105_1 GW111.out)) _).trans (((cell_far (p := ⟨gb111, _, none⟩) (by first | exact far_ hw105_1 GW111.out | (rw [add_block]; exact far_ hw105_1 GW111.out) | exact far2_ hw105_1 GW111.out | (rw [add_block]; exact far2_ hw105_1 GW111.out) | (show (Addr.add _ _).block ≠ _; rw [add_block]; first | exact far_ hw105_1 GW111.out | exact far2_ hw105_1 GW111.out)) _).trans (((cell_far (p := ⟨gb111, _, none⟩) (by first | exact far_ hw105_1 GW111.out | (rw [add_block]; exact far_ hw105_1 GW111.out) | exact far2_ hw105_1 GW111.out | (rw [add_block]; exact far2_ hw105_1 GW111.out) | (show (Addr.add _ _).block ≠ _; rw [add_block]; first | exact far_ hw105_1 GW111.out | exact far2_ hw105_1 GW111.out)) _).trans (((cell_far (p := ⟨gb111, _, none⟩) (by first | exact far_ hw105_1 GW111.out | (rw [add_block]; exact far_ hw105_1 GW111.out) | exact far2_ hw105_1 GW111.out | (rw [add_block]; exact far2_ hw105_1 GW111.out) | (show (Addr.add _ _).block ≠ _; rw [add_block]; first | exact far_ hw105_1 GW111.out | exact far2_ hw105_1 GW111.out)) _).trans (hHeld.2.1)))))))))))), ((cell_far (p := ⟨gb111, _, none⟩) (by first | exact far_ hw107_0 GW111.out | (rw [add_block]; exact far_ hw107_0 GW111.out) | exact far2_ hw107_0 GW111.out | (rw [add_block]; exact far2_ hw107_0 GW111.out) | (show (Addr.add _ _).block ≠ _; rw [add_block]; first | exact far_ hw107_0 GW111.out | exact far2_ hw107_0 GW111.out)) _).trans (((cell_far (p := ⟨gb111, _, none⟩) (by first | exact far_ hw107_0 GW111.out | (rw [add_block]; exact far_ hw107_0 GW111.out) | exact far2_ hw107_0 GW111.out | (rw [add_block]; exact far2_ hw107_0 GW111.out) | (show (Addr.add _ _).block ≠ _; rw [add_block]; first | exact far_ hw107_0 GW111.out | exact far2_ hw107_0 GW111.out)) _).trans (((cell_far (p := ⟨gb111, _, none⟩) (by first | exact far_ hw107_0 GW111.out | (rw [add_block]; exact far_ hw107_0 GW111.out) | exact far2_ hw107_0 GW111.out | (rw [add_block]; exact far2_ hw107_0 GW111.out) | (show (Addr.add _ _).block ≠ _; rw [add_block]; first | exact far_ hw107_0 GW111.out | exact far2_ hw107_0 GW111.out)) _).trans (((cell_far (p := ⟨gb111, _, none⟩) (by first | exact far_ hw107_0 GW111.out | (rw [add_block]; exact far_ hw107_0 GW111.out) | exact far2_ hw107_0 GW111.out | (rw [add_block]; exact far2_ hw107_0 GW111.out) | (show (Addr.add _ _).block ≠ _; rw [add_block]; first | exact far_ hw107_0 GW111.out | exact far2_ hw107_0 GW111.out)) _).trans (((cell_far (p := ⟨gb111, _, none⟩) (by first | exact far_ hw107_0 GW111.out | (rw [add_block]; exact far_ hw107_0 GW111.out) | exact far2_ hw107_0 GW111.out | (rw [add_block]; exact far2_ hw107_0 GW111.out) | (show (Addr.add _ _).block ≠ _; rw [add_block]; first | exact far_ hw107_0 GW111.out | exact far2_ hw107_0 GW111.out)) _).trans (((cell_far (p := ⟨gb111, _, none⟩) (by first | exact far_ hw107_0 GW111.out | (rw [add_block]; exact far_ hw107_0 GW111.out) | exact far2_ hw107_0 GW111.out | (rw [add_block]; exact far2_ hw107_0 GW111.out) | (show (Addr.add _ _).block ≠ _; rw [add_block]; first | exact far_ hw107_0 GW111.out | exact far2_ hw107_0 GW111.out)) _).trans (hHeld.2.2.1)))))))))))), ((cell_far (p := ⟨gb111, _, none⟩) (by first | exact far_ hw107_1 GW111.out | (rw [add_block]; exact far_ hw107_1 GW111.out) | exact far2_ hw107_1 GW111.out | (rw [add_block]; exact far2_ hw107_1 GW111.out) | (show (Addr.add _ _).block ≠ _; rw [add_block]; first | exact far_ hw107_1 GW111.out | exact far2_ hw107_1 GW111.out)) _).trans (((cell_far (p := ⟨gb111, _, none⟩) (by first | exact far_ hw107_1 GW111.out | (rw [add_block]; exact far_ hw107_1 GW111.out) | exact far2_ hw107_1 GW111.out | (rw [add_block]; exact far2_ hw107_1 GW111.out) | (show (Addr.add _ _).block ≠ _; rw [add_block]; first | exact far_ hw107_1 GW111.out | exact far2_ hw107_1 GW111.out)) _).trans (((cell_far (p := ⟨gb111, _, none⟩) (by first | exact far_ hw107_1 GW111.out | (rw [add_block]; exact far_ hw107_1 GW111.out) | exact far2_ hw107_1 GW111.out | (rw [add_block]; exact far2_ hw107_1 GW111.out) | (show (Addr.add _ _).block ≠ _; rw [add_block]; first | exact far_ hw107_1 GW111.out | exact far2_ hw107_1 GW111.out)) _).trans (((cell_far (p := ⟨gb111, _, none⟩) (by first | exact far_ hw107_1 GW111.out | (rw [add_block]; exact far_ hw107_1 GW111.out) | exact far2_ hw107_1 GW111.out | (rw [add_block]; exact far2_ hw107_1 GW111.out) | (show (Addr.add _ _).block ≠ _; rw [add_block]; first | exact far_ hw107_1 GW111.out | exact far2_ hw107_1 GW111.out)) _).trans (((cell_far (p := ⟨gb111, _, none⟩) (by first | exact far_ hw107_1 GW111.out | (rw [add_block]; exact far_ hw107_1 GW111.out) | exact far2_ hw107_1 GW111.out | (rw [add_block]; exact far2_ hw107_1 GW111.out) | (show (Addr.add _ _).block ≠ _; rw [add_block]; first | exact far_ hw107_1 GW111.out | exact far2_ hw107_1 GW111.out)) _).trans (((cell_far (p := ⟨gb111, _, none⟩) (by first | exact far_ hw107_1 GW111.out | (rw [add_block]; exact far_ hw107_1 GW111.out) | exact far2_ hw107_1 GW111.out | (rw [add_block]; exact far2_ hw107_1 GW111.out) | (show (Addr.add _ _).block ≠ _; rw [add_block]; first | exact far_ hw107_1 GW111.out | exact far2_ hw107_1 GW111.out)) _).trans (hHeld.2.2.2.1)))))))))))), ((cell_far (p := ⟨gb111, _, none⟩) (by first | exact far_ hw108_0 GW111.out | (rw [add_block]; exact far_ hw108_0 GW111.out) | exact far2_ hw108_0 GW111.out | (rw [add_block]; exact far2_ hw108_0 GW111.out) | (show (Addr.add _ _).block ≠ _; rw [add_block]; first | exact far_ hw108_0 GW111.out | exact far2_ hw108_0 GW111.out)) _).trans (((cell_far (p := ⟨gb111, _, none⟩) (by first | exact far_ hw108_0 GW111.out | (rw [add_block]; exact far_ hw108_0 GW111.out) | exact far2_ hw108_0 GW111.out | (rw [add_block]; exact far2_ hw108_0 GW111.out) | (show (Addr.add _ _).block ≠ _; rw [add_block]; first | exact far_ hw108_0 GW111.out | exact far2_ hw108_0 GW111.out)) _).trans (((cell_far (p := ⟨gb111, _, none⟩) (by first | exact far_ hw108_0 GW111.out | (rw [add_block]; exact far_ hw108_0 GW111.out) | exact far2_ hw108_0 GW111.out | (rw [add_block]; exact far2_ hw108_0 GW111.out) | (show (Addr.add _ _).block ≠ _; rw [add_block]; first | exact far_ hw108_0 GW111.out | exact far2_ hw108_0 GW111.out)) _).trans (((cell_far (p := ⟨gb111, _, none⟩) (by first | exact far_ hw108_0 GW111.out | (rw [add_block]; exact far_ hw108_0 GW111.out) | exact far2_ hw108_0 GW111.out | (rw [add_block]; exact far2_ hw108_0 GW111.out) | (show (Addr.add _ _).block ≠ _; rw [add_block]; first | exact far_ hw108_0 GW111.out | exact far2_ hw108_0 GW111.out)) _).trans (((cell_far (p := ⟨gb111, _, none⟩) (by first | exact far_ hw108_0 GW111.out | (rw [add_block]; exact far_ hw108_0 GW111.out) | exact far2_ hw108_0 GW111.out | (rw [add_block]; exact far2_ hw108_0 GW111.out) | (show (Addr.add _ _).block ≠ _; rw [add_block]; first | exact far_ hw108_0 GW111.out | exact far2_ hw108_0 GW111.out)) _).trans (((cell_far (p := ⟨gb111, _, none⟩) (by first | exact far_ hw108_0 GW111.out | (rw [add_block]; exact far_ hw108_0 GW111.out) | exact far2_ hw108_0 GW111.out | (rw [add_block]; exact far2_ hw108_0 GW111.out) | (show (Addr.add _ _).block ≠ _; rw [add_block]; first | exact far_ hw108_0 GW111.out | exact far2_ hw108_0 GW111.out)) _).trans (hHeld.2.2.2.2.1)))))))))))), ((cell_far (p := ⟨gb111, _, none⟩) (by first | exact far_ hw108_1 GW111.out | (rw [add_block]; exact far_ hw108_1 GW111.out) | exact far2_ hw108_1 GW111.out | (rw [add_block]; exact far2_ hw108_1 GW111.out) | (show (Addr.add _ _).block ≠ _; rw [add_block]; first | exact far_ hw108_1 GW111.out | exact far2_ hw108_1 GW111.out)) _).trans (((cell_far (p := ⟨gb111, _, none⟩) (by first | exact far_ hw108_1 GW111.out | (rw [add_block]; exact far_ hw108_1 GW111.out) | exact far2_ hw108_1 GW111.out | (rw [add_block]; exact far2_ hw108_1 GW111.out) | (show (Addr.add _ _).block ≠ _; rw [add_block]; first | exact far_ hw108_1 GW111.out | exact far2_ hw108_1 GW111.out)) _).trans (((cell_far (p := ⟨gb111, _, none⟩) (by first | exact far_ hw108_1 GW111.out | (rw [add_block]; exact far_ hw108_1 GW111.out) | exact far2_ hw108_1 GW111.out | (rw [add_block]; exact far2_ hw108_1 GW111.out) | (show (Addr.add _ _).block ≠ _; rw [add_block]; first | exact far_ hw108_1 GW111.out | exact far2_ hw108_1 GW111.out)) _).trans (((cell_far (p := ⟨gb111, _, none⟩) (by first | exact far_ hw108_1 GW111.out | (rw [add_block]; exact far_ hw108_1 GW111.out) | exact far2_ hw108_1 GW111.out | (rw [add_block]; exact far2_ hw108_1 GW111.out) | (show (Addr.add _ _).block ≠ _; rw [add_block]; first | exact far_ hw108_1 GW111.out | exact far2_ hw108_1 GW111.out)) _).trans (((cell_far (p := ⟨gb111, _, none⟩) (by first | exact far_ hw108_1 GW111.out | (rw [add_block]; exact far_ hw108_1 GW111.out) | exact far2_ hw108_1 GW111.out | (rw [add_block]; exact far2_ hw108_1 GW111.out) | (show (Addr.add _ _).block ≠ _; rw [add_block]; first | exact far_ hw108_1 GW111.out | exact far2_ hw108_1 GW111.out)) _).trans (((cell_far (p := ⟨gb111, _, none⟩) (by first | exact far_ hw108_1 GW111.out | (rw [add_block]; exact far_ hw108_1 GW111.out) | exact far2_ hw108_1 GW111.out | (rw [add_block]; exact far2_ hw108_1 GW111.out) | (show (Addr.add _ _).block ≠ _; rw [add_block]; first | exact far_ hw108_1 GW111.out | exact far2_ hw108_1 GW111.out)) _).trans (hHeld.2.2.2.2.2.1)))))))))))), ((cell_far (p := ⟨gb111, _, none⟩) (by first | exact far_ hw109_0 GW111.out | (rw [add_block]; exact far_ hw109_0 GW111.out) | exact far2_ hw109_0 GW111.out | (rw [add_block]; exact far2_ hw109_0 GW111.out) | (show (Addr.add _ _).block ≠ _; rw [add_block]; first | exact far_ hw109_0 GW111.out | exact far2_ hw109_0 GW111.out)) _).trans (((cell_far (p := ⟨gb111, _, none⟩) (by first | exact far_ hw109_0 GW111.out | (rw [add_block]; exact far_ hw109_0 GW111.out) | exact far2_ hw109_0 GW111.out | (rw [add_block]; exact far2_ hw109_0 GW111.out) | (show (Addr.add _ _).block ≠ _; rw [add_block]; first | exact far_ hw109_0 GW111.out | exact far2_ hw109_0 GW111.out)) _).trans (((cell_far (p := ⟨gb111, _, none⟩) (by first | exact far_ hw109_0 GW111.out | (rw [add_block]; exact far_ hw109_0 GW111.out) | exact far2_ hw109_0 GW111.out | (rw [add_block]; exact far2_ hw109_0 GW111.out) | (show (Addr.add _ _).block ≠ _; rw [add_block]; first | exact far_ hw109_0 GW111.out | exact far2_ hw109_0 GW111.out)) _).trans (((cell_far (p := ⟨gb111, _, none⟩) (by first | exact far_ hw109_0 GW111.out | (rw [add_block]; exact far_ hw109_0 GW111.out) | exact far2_ hw109_0 GW111.out | (rw [add_block]; exact far2_ hw109_0 GW111.out) | (show (Addr.add _ _).block ≠ _; rw [add_block]; first | exact far_ hw109_0 GW111.out | exact far2_ hw109_0 GW111.out)) _).trans (((cell_far (p := ⟨gb111, _, none⟩) (by first | exact far_ hw109_0 GW111.out | (rw [add_block]; exact far_ hw109_0 GW111.out) | exact far2_ hw109_0 GW111.out | (rw [add_block]; exact far2_ hw109_0 GW111.out) | (show (Addr.add _ _).block ≠ _; rw [add_block]; first | exact far_ hw109_0 GW111.out | exact far2_ hw109_0 GW111.out)) _).trans (((cell_far (p := ⟨gb111, _, none⟩) (by first | exact far_ hw109_0 GW111.out | (rw [add_block]; exact far_ hw109_0 GW111.out) | exact far2_ hw109_0 GW111.out | (rw [add_block]; exact far2_ hw109_0 GW111.out) | (show (Addr.add _ _).block ≠ _; rw [add_block]; first | exact far_ hw109_0 GW111.out | exact far2_ hw109_0 GW111.out)) _).trans (hHeld.2.2.2.2.2.2.1)))))))))))), ((cell_far (p := ⟨gb111, _, none⟩) (by first | exact far_ hw109_1 GW111.out | (rw [add_block]; exact far_ hw109_1 GW111.out) | exact far2_ hw109_1 GW111.out | (rw [add_block]; exact far2_ hw109_1 GW111.out) | (show (Addr.add _ _).block ≠ _; rw [add_block]; first | exact far_ hw109_1 GW111.out | exact far2_ hw109_1 GW111.out)) _).trans (((cell_far (p := ⟨gb111, _, none⟩) (by first | exact far_ hw109_1 GW111.out | (rw [add_block]; exact far_ hw109_1 GW111.out) | exact far2_ hw109_1 GW111.out | (rw [add_block]; exact far2_ hw109_1 GW111.out) | (show (Addr.add _ _).block ≠ _; rw [add_block]; first | exact far_ hw109_1 GW111.out | exact far2_ hw109_1 GW111.out)) _).trans (((cell_far (p := ⟨gb111, _, none⟩) (by first | exact far_ hw109_1 GW111.out | (rw [add_block]; exact far_ hw109_1 GW111.out) | exact far2_ hw109_1 GW111.out | (rw [add_block]; exact far2_ hw109_1 GW111.out) | (show (Addr.add _ _).block ≠ _; rw [add_block]; first | exact far_ hw109_1 GW111.out | exact far2_ hw109_1 GW111.out)) _).trans (((cell_far (p := ⟨gb111, _, none⟩) (by first | exact far_ hw109_1 GW111.out | (rw [add_block]; exact far_ hw109_1 GW111.out) | exact far2_ hw109_1 GW111.out | (rw [add_block]; exact far2_ hw109_1 GW111.out) | (show (Addr.add _ _).block ≠ _; rw [add_block]; first | exact far_ hw109_1 GW111.out | exact far2_ hw109_1 GW111.out)) _).trans (((cell_far (p := ⟨gb111, _, none⟩) (by first | exact far_ hw109_1 GW111.out | (rw [add_block]; exact far_ hw109_1 GW111.out) | exact far2_ hw109_1 GW111.out | (rw [add_block]; exact far2_ hw109_1 GW111.out) | (show (Addr.add _ _).block ≠ _; rw [add_block]; first | exact far_ hw109_1 GW111.out | exact far2_ hw109_1 GW111.out)) _).trans (((cell_far (p := ⟨gb111, _, none⟩) (by first | exact far_ hw109_1 GW111.out | (rw [add_block]; exact far_ hw109_1 GW111.out) | exact far2_ hw109_1 GW111.out | (rw [add_block]; exact far2_ hw109_1 GW111.out) | (show (Addr.add _ _).block ≠ _; rw [add_block]; first | exact far_ hw109_1 GW111.out | exact far2_ hw109_1 GW111.out)) _).trans (hHeld.2.2.2.2.2.2.2.1)))))))))))), ((cell_far (p := ⟨gb111, _, none⟩) (by first | exact far_ hw110_0 GW111.out | (rw [add_block]; exact far_ hw110_0 GW111.out) | exact far2_ hw110_0 GW111.out | (rw [add_block]; exact far2_ hw110_0 GW111.out) | (show (Addr.add _ _).block ≠ _; rw [add_block]; first | exact far_ hw110_0 GW111.out | exact far2_ hw110_0 GW111.out)) _).trans (((cell_far (p := ⟨gb111, _, none⟩) (by first | exact far_ hw110_0 GW111.out | (rw [add_block]; exact far_ hw110_0 GW111.out) | exact far2_ hw110_0 GW111.out | (rw [add_block]; exact far2_ hw110_0 GW111.out) | (show (Addr.add _ _).block ≠ _; rw [add_block]; first | exact far_ hw110_0 GW111.out | exact far2_ hw110_0 GW111.out)) _).trans (((cell_far (p := ⟨gb111, _, none⟩) (by first | exact far_ hw110_0 GW111.out | (rw [add_block]; exact far_ hw110_0 GW111.out) | exact far2_ hw110_0 GW111.out | (rw [add_block]; exact far2_ hw110_0 GW111.out) | (show (Addr.add _ _).block ≠ _; rw [add_block]; first | exact far_ hw110_0 GW111.out | exact far2_ hw110_0 GW111.out)) _).trans (((cell_far (p := ⟨gb111, _, none⟩) (by first | exact far_ hw110_0 GW111.out | (rw [add_block]; exact far_ hw110_0 GW111.out) | exact far2_ hw110_0 GW111.out | (rw [add_block]; exact far2_ hw110_0 GW111.out) | (show (Addr.add _ _).block ≠ _; rw [add_block]; first | exact far_ hw110_0 GW111.out | exact far2_ hw110_0 GW111.out)) _).trans (((cell_far (p := ⟨gb111, _, none⟩) (by first | exact far_ hw110_0 GW111.out | (rw [add_block]; exact far_ hw110_0 GW111.out) | exact far2_ hw110_0 GW111.out | (rw [add_block]; exact far2_ hw110_0 GW111.out) | (show (Addr.add _ _).block ≠ _; rw [add_block]; first | exact far_ hw110_0 GW111.out | exact far2_ hw110_0 GW111.out)) _).trans (((cell_far (p := ⟨gb111, _, none⟩) (by first | exact far_ hw110_0 GW111.out | (rw [add_block]; exact far_ hw110_0 GW111.out) | exact far2_ hw110_0 GW111.out | (rw [add_block]; exact far2_ hw110_0 GW111.out) | (show (Addr.add _ _).block ≠ _; rw [add_block]; first | exact far_ hw110_0 GW111.out | exact far2_ hw110_0 GW111.out)) _).trans (hHeld.2.2.2.2.2.2.2.2.1)))))))))))), ((cell_far (p := ⟨gb111, _, none⟩) (by first | exact far_ hw110_1 GW111.out | (rw [add_block]; exact far_ hw110_1 GW111.out) | exact far2_ hw110_1 GW111.out | (rw [add_block]; exact far2_ hw110_1 GW111.out) | (show (Addr.add _ _).block ≠ _; rw [add_block]; first | exact far_ hw110_1 GW111.out | exact far2_ hw110_1 GW111.out)) _).trans (((cell_far (p := ⟨gb111, _, none⟩) (by first | exact far_ hw110_1 GW111.out | (rw [add_block]; exact far_ hw110_1 GW111.out) | exact far2_ hw110_1 GW111.out | (rw [add_block]; exact far2_ hw110_1 GW111.out) | (show (Addr.add _ _).block ≠ _; rw [add_block]; first | exact far_ hw110_1 GW111.out | exact far2_ hw110_1 GW111.out)) _).trans (((cell_far (p := ⟨gb111, _, none⟩) (by first | exact far_ hw110_1 GW111.out | (rw [add_block]; exact far_ hw110_1 GW111.out) | exact far2_ hw110_1 GW111.out | (rw [add_block]; exact far2_ hw110_1 GW111.out) | (show (Addr.add _ _).block ≠ _; rw [add_block]; first | exact far_ hw110_1 GW111.out | exact far2_ hw110_1 GW111.out)) _).trans (((cell_far (p := ⟨gb111, _, none⟩) (by first | exact far_ hw110_1 GW111.out | (rw [add_block]; exact far_ hw110_1 GW111.out) | exact far2_ hw110_1 GW111.out | (rw [add_block]; exact far2_ hw110_1 GW111.out) | (show (Addr.add _ _).block ≠ _; rw [add_block]; first | exact far_ hw110_1 GW111.out | exact far2_ hw110_1 GW111.out)) _).trans (((cell_far (p := ⟨gb111, _, none⟩) (by first | exact far_ hw110_1 GW111.out | (rw [add_block]; exact far_ hw110_1 GW111.out) | exact far2_ hw110_1 GW111.out | (rw [add_block]; exact far2_ hw110_1 GW111.out) | (show (Addr.add _ _).block ≠ _; rw [add_block]; first | exact far_ hw110_1 GW111.out | exact far2_ hw110_1 GW111.out)) _).trans (((cell_far (p := ⟨gb111, _, none⟩) (by first | exact far_ hw110_1 GW111.out | (rw [add_block]; exact far_ hw110_1 GW111.out) | exact far2_ hw110_1 GW111.out | (rw [add_block]; exact far2_ hw110_1 GW111.out) | (show (Addr.add _ _).block ≠ _; rw [add_block]; first | exact far_ hw110_1 GW111.out | exact far2_ hw110_1 GW111.out)) _).trans (hHeld.2.2.2.2.2.2.2.2.2))))))))))))⟩ (fun hHeld => ?_)
                          clear hK K
                          refine done_ (done_of HT_.out (by kernel_rfl)) ?_
                          obtain ⟨Ao30, co30, eo30⟩ := Kd.R_slice HO_7.out
                          subst eo30
                          try go_wp2
                          have n0_ : Aside0 (Kd.R k52 52 ((((((w23.setCell ⟨gb111, 0, none⟩ (.int .i64 t106)).setCell ⟨gb111, 1, none⟩ (.int .i64 1)).setCell ⟨gb111, 2, none⟩ (.int .i64 ((rd_T41 l0 x8_2).f1))).setCell ⟨gb111, 3, none⟩ (.int .i64 ((rd_T41 l0 x8_2).f1))).setCell ⟨gb111, 4, none⟩ (.int .i64 ((rd_T41 l0 x8_2).f1))).setCell ⟨gb111, 5, none⟩ (.int .i64 ((rd_T41 l0 x8_2).f1))) w.heap.size (fun k_ => k_ ≠ gb111) (.slice Ao30 x7_2.length co30) x7_2) := ⟨by (with_reducible repeat (first | apply Kd.R_alloc | apply Kd.R_drewN | apply Kd.R_drew)); exact Kd.R_mono (Kd.R_far (p := ⟨gb111, 5, none⟩) (Kd.R_far (p := ⟨gb111, 4, none⟩) (Kd.R_far (p := ⟨gb111, 3, none⟩) (Kd.R_far (p := ⟨gb111, 2, none⟩) (Kd.R_far (p := ⟨gb111, 1, none⟩) (Kd.R_far (p := ⟨gb111, 0, none⟩) (Kd.R_mono HO_7.out (fun k_ hk => (⟨hk, hk⟩ : _ ∧ k_ ≠ gb111))) (fun _ hk => hk.2) (.int .i64 t106)) (fun _ hk => hk.2) (.int .i64 1)) (fun _ hk => hk.2) (.int .i64 ((rd_T41 l0 x8_2).f1))) (fun _ hk => hk.2) (.int .i64 ((rd_T41 l0 x8_2).f1))) (fun _ hk => hk.2) (.int .i64 ((rd_T41 l0 x8_2).f1))) (fun _ hk => hk.2) (.int .i64 ((rd_T41 l0 x8_2).f1))) (fun _ hk => hk.1)⟩
                          have n1_ : Aside0 (((((((w23.setCell ⟨gb111, 0, none⟩ (.int .i64 t106)).setCell ⟨gb111, 1, none⟩ (.int .i64 1)).setCell ⟨gb111, 2, none⟩ (.int .i64 ((rd_T41 l0 x8_2).f1))).setCell ⟨gb111, 3, none⟩ (.int .i64 ((rd_T41 l0 x8_2).f1))).setCell ⟨gb111, 4, none⟩ (.int .i64 ((rd_T41 l0 x8_2).f1))).setCell ⟨gb111, 5, none⟩ (.int .i64 ((rd_T41 l0 x8_2).f1))).heap[gb111]? = some (.cells #[.int .i64 t106, .int .i64 1, .int .i64 ((rd_T41 l0 x8_2).f1), .int .i64 ((rd_T41 l0 x8_2).f1), .int .i64 ((rd_T41 l0 x8_2).f1), .int .i64 ((rd_T41 l0 x8_2).f1)] 52 (0, 0))) := ⟨by (with_reducible repeat (first | refine blk_drewN ?_ _ | refine blk_drew ?_ | refine blk_alloc ?_ _)); refine blk_put (cs := #[.int .i64 t106, .int .i64 1, .int .i64 ((rd_T41 l0 x8_2).f1), .int .i64 ((rd_T41 l0 x8_2).f1), .int .i64 ((rd_T41 l0 x8_2).f1), .int .i64 0]) ?_ 5 _ rfl; (with_reducible repeat (first | refine blk_drewN ?_ _ | refine blk_drew ?_ | refine blk_alloc ?_ _)); refine blk_put (cs := #[.int .i64 t106, .int .i64 1, .int .i64 ((rd_T41 l0 x8_2).f1), .int .i64 ((rd_T41 l0 x8_2).f1), .int .i64 0, .int .i64 0]) ?_ 4 _ rfl; (with_reducible repeat (first | refine blk_drewN ?_ _ | refine blk_drew ?_ | refine blk_alloc ?_ _)); refine blk_put (cs := #[.int .i64 t106, .int .i64 1, .int .i64 ((rd_T41 l0 x8_2).f1), .int .i64 0, .int .i64 0, .int .i64 0]) ?_ 3 _ rfl; (with_reducible repeat (first | refine blk_drewN ?_ _ | refine blk_drew ?_ | refine blk_alloc ?_ _)); refine blk_put (cs := #[.int .i64 t106, .int .i64 1, .int .i64 0, .int .i64 0, .int .i64 0, .int .i64 0]) ?_ 2 _ rfl; (with_reducible repeat (first | refine blk_drewN ?_ _ | refine blk_drew ?_ | refine blk_alloc ?_ _)); refine blk_put (cs := #[.int .i64 t106, .int .i64 0, .int .i64 0, .int .i64 0, .int .i64 0, .int .i64 0]) ?_ 1 _ rfl; (with_reducible repeat (first | refine blk_drewN ?_ _ | refine blk_drew ?_ | refine blk_alloc ?_ _)); refine blk_put (cs := #[.int .i64 0, .int .i64 0, .int .i64 0, .int .i64 0, .int .i64 0, .int .i64 0]) ?_ 0 _ rfl; (with_reducible repeat (first | refine blk_drewN ?_ _ | refine blk_drew ?_ | refine blk_alloc ?_ _)); exact BK111.out⟩
                          have n2_ : Aside0 (Below w.heap.size w ((((((w23.setCell ⟨gb111, 0, none⟩ (.int .i64 t106)).setCell ⟨gb111, 1, none⟩ (.int .i64 1)).setCell ⟨gb111, 2, none⟩ (.int .i64 ((rd_T41 l0 x8_2).f1))).setCell ⟨gb111, 3, none⟩ (.int .i64 ((rd_T41 l0 x8_2).f1))).setCell ⟨gb111, 4, none⟩ (.int .i64 ((rd_T41 l0 x8_2).f1))).setCell ⟨gb111, 5, none⟩ (.int .i64 ((rd_T41 l0 x8_2).f1)))) := ⟨by repeat (first | (with_reducible first | exact HB.out | apply below_alloc | apply pw_below_drewN | apply below_drew1 | refine below_set ?_ GE111.out) | exact HB.out)⟩
                          (try clear HO_7)
                          (try clear BK111)
                          (try clear HB)
                          generalize ((((((w23.setCell ⟨gb111, 0, none⟩ (.int .i64 t106)).setCell ⟨gb111, 1, none⟩ (.int .i64 1)).setCell ⟨gb111, 2, none⟩ (.int .i64 ((rd_T41 l0 x8_2).f1))).setCell ⟨gb111, 3, none⟩ (.int .i64 ((rd_T41 l0 x8_2).f1))).setCell ⟨gb111, 4, none⟩ (.int .i64 ((rd_T41 l0 x8_2).f1))).setCell ⟨gb111, 5, none⟩ (.int .i64 ((rd_T41 l0 x8_2).f1))) = w31 at n0_ n1_ n2_ ⊢
                          have HO_7 := n0_
                          have BK111 := n1_
                          have HB := n2_
                          clear n0_ n1_ n2_
                          have n0_ := Aside0.mk (Kd.R_drew HO_7.out)
                          have n1_ := Aside0.mk (blk_drew BK111.out)
                          have n2_ := Aside0.mk (below_drew1 HB.out)
                          clear HO_7
                          clear BK111
                          clear HB
                          have HO_7 := n0_
                          have BK111 := n1_
                          have HB := n2_
                          clear n0_ n1_ n2_
                          have p112 : 0 ≤ ((ji15) : Int) := of_decide_eq_true (by first | (with_reducible assumption) | assumption)
                          have q112 : (ji15) < (x7_2.length : Int) := of_decide_eq_true (by first | (with_reducible assumption) | assumption)
                          obtain ⟨ad112, e112, hx112_0, hx112_1, hx112_2, hx112_3, hx112_4, hx112_5⟩ := at_T52 (Kd.R_reads' HO_7.out).2.2 (ji15) p112 q112
                          cases e112
                          replace p112 := eq_true p112
                          replace q112 := eq_true q112
                          refine start_ (n := 13) (S := fun w' => w'.cell? ⟨gb111, 0, none⟩ = some (.int .i64 t106) ∧ w'.cell? ⟨gb111, 1, none⟩ = some (.int .i64 1) ∧ w'.cell? ⟨gb111, 2, none⟩ = some (.int .i64 ((rd_T41 l0 x8_2).f1)) ∧ w'.cell? ⟨gb111, 3, none⟩ = some (.int .i64 ((rd_T41 l0 x8_2).f1)) ∧ w'.cell? ⟨gb111, 4, none⟩ = some (.int .i64 ((rd_T41 l0 x8_2).f1)) ∧ w'.cell? ⟨gb111, 5, none⟩ = some (.int .i64 ((rd_T41 l0 x8_2).f1)) ∧ w'.cell? (ad112.add (((ji15)).toNat * 6)) = some (.int .i64 ((rd_T52 x7_2 (ji15)).f0)) ∧ w'.cell? ⟨(ad112.add (((ji15)).toNat * 6)).block, (ad112.add (((ji15)).toNat * 6)).off + 1, none⟩ = some (.int .i64 ((rd_T52 x7_2 (ji15)).f1)) ∧ w'.cell? ⟨(ad112.add (((ji15)).toNat * 6)).block, (ad112.add (((ji15)).toNat * 6)).off + 2, none⟩ = some (.int .i64 ((rd_T52 x7_2 (ji15)).f2)) ∧ w'.cell? ⟨(ad112.add (((ji15)).toNat * 6)).block, (ad112.add (((ji15)).toNat * 6)).off + 3, none⟩ = some (.int .i64 ((rd_T52 x7_2 (ji15)).f3)) ∧ w'.cell? ⟨(ad112.add (((ji15)).toNat * 6)).block, (ad112.add (((ji15)).toNat * 6)).off + 4, none⟩ = some (.int .i64 ((rd_T52 x7_2 (ji15)).f4)) ∧ w'.cell? ⟨(ad112.add (((ji15)).toNat * 6)).block, (ad112.add (((ji15)).toNat * 6)).off + 5, none⟩ = some (.int .i64 ((rd_T52 x7_2 (ji15)).f5))) (ds := []) #[false, false, false, false, false, false, false, false, false, false, false, false, false] (by kernel_rfl) rfl rfl ⟨(blk_cell BK111.out 0).trans rfl, (blk_cell BK111.out 1).trans rfl, (blk_cell BK111.out 2).trans rfl, (blk_cell BK111.out 3).trans rfl, (blk_cell BK111.out 4).trans rfl, (blk_cell BK111.out 5).trans rfl, hx112_0, hx112_1, hx112_2, hx112_3, hx112_4, hx112_5⟩ (fun hHeld => ?_); refine with_tabW lysimeterref16_Buckets.tab12 lysimeterref16_Buckets.bits12 (fun HT_ HW_ => ?_)
                          generalize w31.drew = w32 at HO_7 BK111 HB hx112_0 hx112_1 hx112_2 hx112_3 hx112_4 hx112_5 hHeld ⊢
                          refine pure_ (i := 0) (N := some 58) (v := ?_) (a' := ?_) #[true, false, false, false, false, false, false, false, false, false, false, false, false] rfl rfl (any_of HT_.out (by kernel_rfl)) (fun _ _ _ h => h) (Or.inl ⟨by rfl, ?_⟩) ?_ ?_
                          rotate_left
                          · intro w'
                            go_simp
                            with_reducible rfl
                          rotate_left
                          · simp only [Act.put, List.setIfInBounds_toArray, List.set_cons_zero, List.set_cons_succ, i64_w, i32_w]
                            rfl
                          refine pure_ (i := 1) (N := some 59) (v := ?_) (a' := ?_) #[true, true, false, false, false, false, false, false, false, false, false, false, false] rfl rfl (any_of HT_.out (by kernel_rfl)) (fun _ _ _ h => h) (Or.inl ⟨by rfl, ?_⟩) ?_ ?_
                          rotate_left
                          · intro w'
                            go_simp
                            with_reducible rfl
                          rotate_left
                          · simp only [Act.put, List.setIfInBounds_toArray, List.set_cons_zero, List.set_cons_succ, i64_w, i32_w]
                            rfl
                          refine pure_ (i := 2) (N := some 60) (v := ?_) (a' := ?_) #[true, true, true, false, false, false, false, false, false, false, false, false, false] rfl rfl (any_of HT_.out (by kernel_rfl)) (fun _ _ _ h => h) (Or.inl ⟨by rfl, ?_⟩) ?_ ?_
                          rotate_left
                          · intro w'
                            go_simp
                            with_reducible rfl
                          rotate_left
                          · simp only [Act.put, List.setIfInBounds_toArray, List.set_cons_zero, List.set_cons_succ, i64_w, i32_w]
                            rfl
                          refine pure_ (i := 3) (N := some 61) (v := ?_) (a' := ?_) #[true, true, true, true, false, false, false, false, false, false, false, false, false] rfl rfl (any_of HT_.out (by kernel_rfl)) (fun _ _ _ h => h) (Or.inl ⟨by rfl, ?_⟩) ?_ ?_
                          rotate_left
                          · intro w'
                            go_simp
                            with_reducible rfl
                          rotate_left
                          · simp only [Act.put, List.setIfInBounds_toArray, List.set_cons_zero, List.set_cons_succ, i64_w, i32_w]
                            rfl
                          refine pure_ (i := 4) (N := some 62) (v := ?_) (a' := ?_) #[true, true, true, true, true, false, false, false, false, false, false, false, false] rfl rfl (any_of HT_.out (by kernel_rfl)) (fun _ _ _ h => h) (Or.inl ⟨by rfl, ?_⟩) ?_ ?_
                          rotate_left
                          · intro w'
                            go_simp
                            with_reducible rfl
                          rotate_left
                          · simp only [Act.put, List.setIfInBounds_toArray, List.set_cons_zero, List.set_cons_succ, i64_w, i32_w]
                            rfl
                          refine pure_ (i := 5) (N := some 63) (v := ?_) (a' := ?_) #[true, true, true, true, true, true, false, false, false, false, false, false, false] rfl rfl (any_of HT_.out (by kernel_rfl)) (fun _ _ _ h => h) (Or.inl ⟨by rfl, ?_⟩) ?_ ?_
                          rotate_left
                          · intro w'
                            go_simp
                            with_reducible rfl
                          rotate_left
                          · simp only [Act.put, List.setIfInBounds_toArray, List.set_cons_zero, List.set_cons_succ, i64_w, i32_w]
                            rfl
                          refine pure_ (i := 6) (N := some 64) (v := ?_) (a' := ?_) #[true, true, true, true, true, true, true, false, false, false, false, false, false] rfl rfl (any_of HT_.out (by kernel_rfl)) (fun _ _ _ h => h) (Or.inl ⟨by rfl, ?_⟩) ?_ ?_
                          rotate_left
                          · intro w'
                            go_simp
                            with_reducible rfl
                          rotate_left
                          · simp only [Act.put, List.setIfInBounds_toArray, List.set_cons_zero, List.set_cons_succ, i64_w, i32_w]
                            rfl
                          refine pure_ (i := 7) (N := some 65) (v := ?_) (a' := ?_) #[true, true, true, true, true, true, true, true, false, false, false, false, false] rfl rfl (any_of HT_.out (by kernel_rfl)) (fun _ _ _ h => h) (Or.inl ⟨by rfl, ?_⟩) ?_ ?_
                          rotate_left
                          · intro w'
                            go_simp
                            with_reducible rfl
                          rotate_left
                          · simp only [Act.put, List.setIfInBounds_toArray, List.set_cons_zero, List.set_cons_succ, i64_w, i32_w]
                            rfl
                          refine pure_ (i := 9) (N := some 67) (v := ?_) (a' := ?_) #[true, true, true, true, true, true, true, true, false, true, false, false, false] rfl rfl (any_of HT_.out (by kernel_rfl)) (fun _ _ _ h => h) (Or.inl ⟨by rfl, ?_⟩) ?_ ?_
                          rotate_left
                          · intro w'
                            go_simp
                            with_reducible rfl
                          rotate_left
                          · simp only [Act.put, List.setIfInBounds_toArray, List.set_cons_zero, List.set_cons_succ, i64_w, i32_w]
                            rfl
                          refine take_ (i := 8) (N := some 66) (v := ?_) (a' := ?_) #[true, true, true, true, true, true, true, true, true, true, false, false, false] rfl rfl (take_ofW HT_.out HW_.out (by kernel_rfl)) (fun _ _ _ h => h) (Or.inl ⟨by rfl, ?_⟩) hHeld ?_ ?_
                          rotate_left
                          · rintro w' ⟨s0, s1, s2, s3, s4, s5, s6, s7, s8, s9, s10, s11⟩
                            go_simp
                            with_reducible rfl
                          rotate_left
                          · simp only [Act.put, List.setIfInBounds_toArray, List.set_cons_zero, List.set_cons_succ, i64_w, i32_w]
                            rfl
                          refine take_ (i := 10) (N := some 68) (v := ?_) (a' := ?_) #[true, true, true, true, true, true, true, true, true, true, true, false, false] rfl rfl (take_ofW HT_.out HW_.out (by kernel_rfl)) (fun _ _ _ h => h) (Or.inl ⟨by rfl, ?_⟩) hHeld ?_ ?_
                          rotate_left
                          · rintro w' ⟨s0, s1, s2, s3, s4, s5, s6, s7, s8, s9, s10, s11⟩
                            go_simp
                            with_reducible rfl
                          rotate_left
                          · simp only [Act.put, List.setIfInBounds_toArray, List.set_cons_zero, List.set_cons_succ, i64_w, i32_w]
                            rfl
                          refine pure_ (i := 11) (N := some 69) (v := ?_) (a' := ?_) #[true, true, true, true, true, true, true, true, true, true, true, true, false] rfl rfl (any_of HT_.out (by kernel_rfl)) (fun _ _ _ h => h) (Or.inl ⟨by rfl, ?_⟩) ?_ ?_
                          rotate_left
                          · intro w'
                            go_simp
                            with_reducible rfl
                          rotate_left
                          · simp only [Act.put, List.setIfInBounds_toArray, List.set_cons_zero, List.set_cons_succ, i64_w, i32_w]
                            rfl
                          refine pure_ (i := 12) (N := some 70) (v := ?_) (a' := ?_) #[true, true, true, true, true, true, true, true, true, true, true, true, true] rfl rfl (any_of HT_.out (by kernel_rfl)) (fun _ _ _ h => h) (Or.inl ⟨by rfl, ?_⟩) ?_ ?_
                          rotate_left
                          · intro w'
                            go_simp
                            with_reducible rfl
                          rotate_left
                          · simp only [Act.put, List.setIfInBounds_toArray, List.set_cons_zero, List.set_cons_succ, i64_w, i32_w]
                            rfl
                          refine done_ (done_of HT_.out (by kernel_rfl)) ?_
                          try go_wp2
                          have n0_ := Aside0.mk (Kd.R_drew HO_7.out)
                          have n1_ := Aside0.mk (blk_drew BK111.out)
                          have n2_ := Aside0.mk (below_drew1 HB.out)
                          clear HO_7
                          clear BK111
                          clear HB
                          have HO_7 := n0_
                          have BK111 := n1_
                          have HB := n2_
                          clear n0_ n1_ n2_
                          have p113 : 0 ≤ ((ji15) : Int) := of_decide_eq_true (by first | (with_reducible assumption) | assumption)
                          have q113 : (ji15) < (x7_2.length : Int) := of_decide_eq_true (by first | (with_reducible assumption) | assumption)
                          obtain ⟨ad113, e113, hx113_0, hx113_1, hx113_2, hx113_3, hx113_4, hx113_5⟩ := at_T52 (Kd.R_reads' HO_7.out).2.2 (ji15) p113 q113
                          obtain rfl : ad112 = ad113 := (by injection e113)
                          replace p113 := eq_true p113
                          replace q113 := eq_true q113
                          refine start_ (n := 12) (S := fun w' => w'.cell? ⟨gb111, 0, none⟩ = some (.int .i64 t106) ∧ w'.cell? ⟨gb111, 1, none⟩ = some (.int .i64 1) ∧ w'.cell? ⟨gb111, 2, none⟩ = some (.int .i64 ((rd_T41 l0 x8_2).f1)) ∧ w'.cell? ⟨gb111, 3, none⟩ = some (.int .i64 ((rd_T41 l0 x8_2).f1)) ∧ w'.cell? ⟨gb111, 4, none⟩ = some (.int .i64 ((rd_T41 l0 x8_2).f1)) ∧ w'.cell? ⟨gb111, 5, none⟩ = some (.int .i64 ((rd_T41 l0 x8_2).f1)) ∧ w'.cell? (ad112.add (((ji15)).toNat * 6)) = some (.int .i64 ((rd_T52 x7_2 (ji15)).f0)) ∧ w'.cell? ⟨(ad112.add (((ji15)).toNat * 6)).block, (ad112.add (((ji15)).toNat * 6)).off + 1, none⟩ = some (.int .i64 ((rd_T52 x7_2 (ji15)).f1)) ∧ w'.cell? ⟨(ad112.add (((ji15)).toNat * 6)).block, (ad112.add (((ji15)).toNat * 6)).off + 2, none⟩ = some (.int .i64 ((rd_T52 x7_2 (ji15)).f2)) ∧ w'.cell? ⟨(ad112.add (((ji15)).toNat * 6)).block, (ad112.add (((ji15)).toNat * 6)).off + 3, none⟩ = some (.int .i64 ((rd_T52 x7_2 (ji15)).f3)) ∧ w'.cell? ⟨(ad112.add (((ji15)).toNat * 6)).block, (ad112.add (((ji15)).toNat * 6)).off + 4, none⟩ = some (.int .i64 ((rd_T52 x7_2 (ji15)).f4)) ∧ w'.cell? ⟨(ad112.add (((ji15)).toNat * 6)).block, (ad112.add (((ji15)).toNat * 6)).off + 5, none⟩ = some (.int .i64 ((rd_T52 x7_2 (ji15)).f5))) (ds := [11]) #[false, false, false, false, false, false, false, false, false, false, false, false] (by kernel_rfl) rfl rfl ⟨(blk_cell BK111.out 0).trans rfl, (blk_cell BK111.out 1).trans rfl, (blk_cell BK111.out 2).trans rfl, (blk_cell BK111.out 3).trans rfl, (blk_cell BK111.out 4).trans rfl, (blk_cell BK111.out 5).trans rfl, hx113_0, hx113_1, hx113_2, hx113_3, hx113_4, hx113_5⟩ (fun hHeld => ?_); refine with_tabW lysimeterref16_Buckets.tab13 lysimeterref16_Buckets.bits13 (fun HT_ HW_ => ?_)
                          generalize w32.drew = w33 at HO_7 BK111 HB hx113_0 hx113_1 hx113_2 hx113_3 hx113_4 hx113_5 hHeld ⊢
                          refine pure_ (i := 0) (N := some 71) (v := ?_) (a' := ?_) #[true, false, false, false, false, false, false, false, false, false, false, false] rfl rfl (any_of HT_.out (by kernel_rfl)) (fun _ _ _ h => h) (Or.inl ⟨by rfl, ?_⟩) ?_ ?_
                          rotate_left
                          · intro w'
                            go_simp
                            with_reducible rfl
                          rotate_left
                          · simp only [Act.put, List.setIfInBounds_toArray, List.set_cons_zero, List.set_cons_succ, i64_w, i32_w]
                            rfl
                          refine pure_ (i := 1) (N := some 72) (v := ?_) (a' := ?_) #[true, true, false, false, false, false, false, false, false, false, false, false] rfl rfl (any_of HT_.out (by kernel_rfl)) (fun _ _ _ h => h) (Or.inl ⟨by rfl, ?_⟩) ?_ ?_
                          rotate_left
                          · intro w'
                            go_simp
                            with_reducible rfl
                          rotate_left
                          · simp only [Act.put, List.setIfInBounds_toArray, List.set_cons_zero, List.set_cons_succ, i64_w, i32_w]
                            rfl
                          refine pure_ (i := 2) (N := some 73) (v := ?_) (a' := ?_) #[true, true, true, false, false, false, false, false, false, false, false, false] rfl rfl (any_of HT_.out (by kernel_rfl)) (fun _ _ _ h => h) (Or.inl ⟨by rfl, ?_⟩) ?_ ?_
                          rotate_left
                          · intro w'
                            go_simp
                            with_reducible rfl
                          rotate_left
                          · simp only [Act.put, List.setIfInBounds_toArray, List.set_cons_zero, List.set_cons_succ, i64_w, i32_w]
                            rfl
                          refine pure_ (i := 3) (N := some 74) (v := ?_) (a' := ?_) #[true, true, true, true, false, false, false, false, false, false, false, false] rfl rfl (any_of HT_.out (by kernel_rfl)) (fun _ _ _ h => h) (Or.inl ⟨by rfl, ?_⟩) ?_ ?_
                          rotate_left
                          · intro w'
                            go_simp
                            with_reducible rfl
                          rotate_left
                          · simp only [Act.put, List.setIfInBounds_toArray, List.set_cons_zero, List.set_cons_succ, i64_w, i32_w]
                            rfl
                          refine pure_ (i := 4) (N := some 75) (v := ?_) (a' := ?_) #[true, true, true, true, true, false, false, false, false, false, false, false] rfl rfl (any_of HT_.out (by kernel_rfl)) (fun _ _ _ h => h) (Or.inl ⟨by rfl, ?_⟩) ?_ ?_
                          rotate_left
                          · intro w'
                            go_simp
                            with_reducible rfl
                          rotate_left
                          · simp only [Act.put, List.setIfInBounds_toArray, List.set_cons_zero, List.set_cons_succ, i64_w, i32_w]
                            rfl
                          refine pure_ (i := 5) (N := some 76) (v := ?_) (a' := ?_) #[true, true, true, true, true, true, false, false, false, false, false, false] rfl rfl (any_of HT_.out (by kernel_rfl)) (fun _ _ _ h => h) (Or.inl ⟨by rfl, ?_⟩) ?_ ?_
                          rotate_left
                          · intro w'
                            go_simp
                            with_reducible rfl
                          rotate_left
                          · simp only [Act.put, List.setIfInBounds_toArray, List.set_cons_zero, List.set_cons_succ, i64_w, i32_w]
                            rfl
                          refine pure_ (i := 6) (N := some 77) (v := ?_) (a' := ?_) #[true, true, true, true, true, true, true, false, false, false, false, false] rfl rfl (any_of HT_.out (by kernel_rfl)) (fun _ _ _ h => h) (Or.inl ⟨by rfl, ?_⟩) ?_ ?_
                          rotate_left
                          · intro w'
                            go_simp
                            with_reducible rfl
                          rotate_left
                          · simp only [Act.put, List.setIfInBounds_toArray, List.set_cons_zero, List.set_cons_succ, i64_w, i32_w]
                            rfl
                          refine take_ (i := 7) (N := some 78) (v := ?_) (a' := ?_) #[true, true, true, true, true, true, true, true, false, false, false, false] rfl rfl (take_ofW HT_.out HW_.out (by kernel_rfl)) (fun _ _ _ h => h) (Or.inl ⟨by rfl, ?_⟩) hHeld ?_ ?_
                          rotate_left
                          · rintro w' ⟨s0, s1, s2, s3, s4, s5, s6, s7, s8, s9, s10, s11⟩
                            go_simp
                            with_reducible rfl
                          rotate_left
                          · simp only [Act.put, List.setIfInBounds_toArray, List.set_cons_zero, List.set_cons_succ, i64_w, i32_w]
                            rfl
                          refine take_ (i := 8) (N := some 79) (v := ?_) (a' := ?_) #[true, true, true, true, true, true, true, true, true, false, false, false] rfl rfl (take_ofW HT_.out HW_.out (by kernel_rfl)) (fun _ _ _ h => h) (Or.inl ⟨by rfl, ?_⟩) hHeld ?_ ?_
                          rotate_left
                          · rintro w' ⟨s0, s1, s2, s3, s4, s5, s6, s7, s8, s9, s10, s11⟩
                            go_simp
                            with_reducible rfl
                          rotate_left
                          · simp only [Act.put, List.setIfInBounds_toArray, List.set_cons_zero, List.set_cons_succ, i64_w, i32_w]
                            rfl
                          refine one_ (i := 9) (N := some 80) #[true, true, true, true, true, true, true, true, true, true, false, false] rfl rfl (one_of HT_.out (by kernel_rfl)) (by decide) (fun K hK => ?_)
                          refine goes_ Try.func47 (by kernel_rfl) rfl #[.agg #[.int .i64 ((rd_T52 x7_2 (ji15)).f0), .int .i64 ((rd_T52 x7_2 (ji15)).f1), .int .i64 ((rd_T52 x7_2 (ji15)).f2), .int .i64 ((rd_T52 x7_2 (ji15)).f3), .int .i64 ((rd_T52 x7_2 (ji15)).f4), .int .i64 ((rd_T52 x7_2 (ji15)).f5)], .agg #[.int .i64 t106, .int .i64 1, .int .i64 ((rd_T41 l0 x8_2).f1), .int .i64 ((rd_T41 l0 x8_2).f1), .int .i64 ((rd_T41 l0 x8_2).f1), .int .i64 ((rd_T41 l0 x8_2).f1)]] (by rfl) rfl rfl (by (try simp only [List.map_toArray, List.map_cons, List.map_nil]); first | done | (simp only [hji15]; rfl) | rfl | (simp only [List.length_drop, List.length_take]; rfl)) ?_
                          with_reducible refine (lysimeterref16_Join.calls ((rd_T52 x7_2 (ji15)).f0) ((rd_T52 x7_2 (ji15)).f1) ((rd_T52 x7_2 (ji15)).f2) ((rd_T52 x7_2 (ji15)).f3) ((rd_T52 x7_2 (ji15)).f4) ((rd_T52 x7_2 (ji15)).f5) t106 1 ((rd_T41 l0 x8_2).f1) ((rd_T41 l0 x8_2).f1) ((rd_T41 l0 x8_2).f1) ((rd_T41 l0 x8_2).f1) t114 t115 t116 t117 t118 t119 _ A19.out).mono ?_
                          rintro e w34 ⟨rfl, hb⟩
                          have HS6_ := (hb.cell (World.block_lt_of_cell? _ _ (hHeld.2.2.2.2.2.2.1))).trans (hHeld.2.2.2.2.2.2.1)
                          have HS7_ := (hb.cell (World.block_lt_of_cell? _ _ (hHeld.2.2.2.2.2.2.2.1))).trans (hHeld.2.2.2.2.2.2.2.1)
                          have HS8_ := (hb.cell (World.block_lt_of_cell? _ _ (hHeld.2.2.2.2.2.2.2.2.1))).trans (hHeld.2.2.2.2.2.2.2.2.1)
                          have HS9_ := (hb.cell (World.block_lt_of_cell? _ _ (hHeld.2.2.2.2.2.2.2.2.2.1))).trans (hHeld.2.2.2.2.2.2.2.2.2.1)
                          have HS10_ := (hb.cell (World.block_lt_of_cell? _ _ (hHeld.2.2.2.2.2.2.2.2.2.2.1))).trans (hHeld.2.2.2.2.2.2.2.2.2.2.1)
                          have HS11_ := (hb.cell (World.block_lt_of_cell? _ _ (hHeld.2.2.2.2.2.2.2.2.2.2.2))).trans (hHeld.2.2.2.2.2.2.2.2.2.2.2)
                          refine ⟨_, rfl, ?_⟩
                          have n0_ := Aside0.mk (Kd.R_below (by (with_reducible repeat (first | apply Kd.R_alloc | apply Kd.R_drewN | apply Kd.R_drew)); exact HO_7.out) hb)
                          have n1_ := Aside0.mk (blk_below (g := gb111) (o := .cells #[.int .i64 t106, .int .i64 1, .int .i64 ((rd_T41 l0 x8_2).f1), .int .i64 ((rd_T41 l0 x8_2).f1), .int .i64 ((rd_T41 l0 x8_2).f1), .int .i64 ((rd_T41 l0 x8_2).f1)] 52 (0, 0)) (by (with_reducible repeat (first | refine blk_drewN ?_ _ | refine blk_drew ?_ | refine blk_alloc ?_ _)); exact BK111.out) hb)
                          have n2_ := Aside0.mk (below_step (by repeat (first | (with_reducible first | exact HB.out | apply below_alloc | apply pw_below_drewN | apply below_drew1 | refine below_set ?_ GE111.out) | exact HB.out)) hb)
                          clear HO_7
                          clear BK111
                          clear HB
                          have HO_7 := n0_
                          have BK111 := n1_
                          have HB := n2_
                          clear n0_ n1_ n2_
                          (try clear hb)
                          (try clear hb2)
                          (try clear hk)
                          (try clear hi)
                          have p20 : 0 ≤ ((ji15) : Int) := of_decide_eq_true (by first | (with_reducible assumption) | assumption)
                          have q20 : ((ji15) : Int) < ((x7_2.length : Int) : Int) := of_decide_eq_true (by first | (with_reducible assumption) | assumption)
                          obtain ⟨go20, co20, eo20, gb20, gl20, cl20, HG20⟩ := Kd.R_form HO_7.out (by omega)
                          (first | cases eo20 | (injection eo20 with ea_ en_ ec_; (first | subst ea_ | (injection ea_ with ea_; subst ea_)); subst ec_; clear en_))
                          have GB20 := Aside0.mk gb20
                          have GG20 := Aside0.mk HG20
                          clear gb20 gl20 HG20
                          (first | simp only [add_plain] at hx112_0 | skip)
                          (first | simp only [add_plain] at hx112_1 | skip)
                          (first | simp only [add_plain] at hx112_2 | skip)
                          (first | simp only [add_plain] at hx112_3 | skip)
                          (first | simp only [add_plain] at hx112_4 | skip)
                          (first | simp only [add_plain] at hx112_5 | skip)
                          (first | simp only [add_plain] at hx113_0 | skip)
                          (first | simp only [add_plain] at hx113_1 | skip)
                          (first | simp only [add_plain] at hx113_2 | skip)
                          (first | simp only [add_plain] at hx113_3 | skip)
                          (first | simp only [add_plain] at hx113_4 | skip)
                          (first | simp only [add_plain] at hx113_5 | skip)
                          obtain ⟨ce20, hcl20, hM20, hcc20, hfr20⟩ := Kd.R_elem HO_7.out z52 ((ji15) : Int) p20 q20
                          obtain rfl := k52_openM hM20
                          have hx20_0 : World.cell? _ ⟨go20, ((ji15) : Int).toNat * 6, none⟩ = some (.int .i64 ((rd_T52 x7_2 (ji15)).f0)) := hcc20 0 _ rfl
                          have hx20_1 : World.cell? _ ⟨go20, ((ji15) : Int).toNat * 6 + 1, none⟩ = some (.int .i64 ((rd_T52 x7_2 (ji15)).f1)) := hcc20 1 _ rfl
                          have hx20_2 : World.cell? _ ⟨go20, ((ji15) : Int).toNat * 6 + 2, none⟩ = some (.int .i64 ((rd_T52 x7_2 (ji15)).f2)) := hcc20 2 _ rfl
                          have hx20_3 : World.cell? _ ⟨go20, ((ji15) : Int).toNat * 6 + 3, none⟩ = some (.int .i64 ((rd_T52 x7_2 (ji15)).f3)) := hcc20 3 _ rfl
                          have hx20_4 : World.cell? _ ⟨go20, ((ji15) : Int).toNat * 6 + 4, none⟩ = some (.int .i64 ((rd_T52 x7_2 (ji15)).f4)) := hcc20 4 _ rfl
                          have hx20_5 : World.cell? _ ⟨go20, ((ji15) : Int).toNat * 6 + 5, none⟩ = some (.int .i64 ((rd_T52 x7_2 (ji15)).f5)) := hcc20 5 _ rfl
                          have hf20_0 : World.frozen? _ ⟨go20, ((ji15) : Int).toNat * 6, none⟩ = false := hfr20 0
                          have hf20_1 : World.frozen? _ ⟨go20, ((ji15) : Int).toNat * 6 + 1, none⟩ = false := hfr20 1
                          have hf20_2 : World.frozen? _ ⟨go20, ((ji15) : Int).toNat * 6 + 2, none⟩ = false := hfr20 2
                          have hf20_3 : World.frozen? _ ⟨go20, ((ji15) : Int).toNat * 6 + 3, none⟩ = false := hfr20 3
                          have hf20_4 : World.frozen? _ ⟨go20, ((ji15) : Int).toNat * 6 + 4, none⟩ = false := hfr20 4
                          have hf20_5 : World.frozen? _ ⟨go20, ((ji15) : Int).toNat * 6 + 5, none⟩ = false := hfr20 5
                          clear hcl20 hcc20 hfr20 hM20
                          replace p20 := eq_true p20
                          replace q20 := eq_true q20
                          obtain ⟨ce35, hcl35, hM35, hcc35, hfr35⟩ := Kd.R_elem HO_7.out z52 ((ji15) : Int) (of_decide_eq_true (by first | (with_reducible assumption) | assumption)) (by have h_ : ((ji15) : Int) < ((x7_2.length : Int) : Int) := of_decide_eq_true (by first | (with_reducible assumption) | assumption); first | exact h_ | (have e_ := (Kd.R_reads' HO_7.out).1; omega) | simpa using h_)
                          obtain rfl := k52_openM hM35
                          have HP35 := (Kd.R_seg HO_7.out ((ji15) : Int) (of_decide_eq_true (by first | (with_reducible assumption) | assumption)) (by have h_ : ((ji15) : Int) < ((x7_2.length : Int) : Int) := of_decide_eq_true (by first | (with_reducible assumption) | assumption); first | exact h_ | (have e_ := (Kd.R_reads' HO_7.out).1; omega) | simpa using h_) (seg := [.int .i64 t114, .int .i64 t115, .int .i64 t116, .int .i64 t117, .int .i64 t118, .int .i64 t119]) (j := 0) hcl35 hcc35 (show 6 ≤ 6 from by decide) (x' := (⟨t114, t115, t116, t117, t118, t119⟩ : S52)) (k52_mkM _ _ _ (⟨t114, t115, t116, t117, t118, t119⟩ : S52) ) (fun _ hk => hk)).1
                          rw [← Ny120.out] at HP35
                          have HQ35 := Aside0.mk HP35
                          clear hcl35 hcc35 hfr35 hM35 HP35
                          refine hK.out _ _ ⟨(blk_cell BK111.out 0).trans rfl, (blk_cell BK111.out 1).trans rfl, (blk_cell BK111.out 2).trans rfl, (blk_cell BK111.out 3).trans rfl, (blk_cell BK111.out 4).trans rfl, (blk_cell BK111.out 5).trans rfl, HS6_, HS7_, HS8_, HS9_, HS10_, HS11_⟩ (fun hHeld => ?_)
                          clear hK K
                          refine norm_ (a' := ?_) ?_ ?_
                          rotate_left
                          · show Act.put _ (some 80) _ = _
                            simp only [Act.put, List.setIfInBounds_toArray, List.set_cons_zero, List.set_cons_succ, i64_w, i32_w]
                            rfl
                          refine pure_ (i := 10) (N := some 81) (v := ?_) (a' := ?_) #[true, true, true, true, true, true, true, true, true, true, true, false] rfl rfl (any_of HT_.out (by kernel_rfl)) (fun _ _ _ h => h) (Or.inl ⟨by rfl, ?_⟩) ?_ ?_
                          rotate_left
                          · intro w'
                            go_simp
                            with_reducible rfl
                          rotate_left
                          · simp only [Act.put, List.setIfInBounds_toArray, List.set_cons_zero, List.set_cons_succ, i64_w, i32_w]
                            rfl
                          refine last_ (i := 11) (N := none) #[true, true, true, true, true, true, true, true, true, true, true, true] rfl rfl (one_of HT_.out (by kernel_rfl)) (by decide) (fun K hK => ?_)
                          refine skip_ (w1 := ?_) (by rfl) rfl ?_ ?_
                          rotate_left
                          · go_simp
                            rfl
                          refine hK.out _ _ ?_
                          clear hK K
                          refine done_ (done_of HT_.out (by kernel_rfl)) ?_
                          try go_wp2
                          go_roundg k2
                          case measure => have := HJ2.out; have := HK2.out; omega
                          case rel => exact ⟨(y120), (wrap64 (x8_2 + 1)), (by first | rfl | (simp; done) | (simp [*]; done)), H', ⟨by have := HJ2.out; have := HK2.out; omega⟩, ⟨by (with_reducible repeat (first | apply Kd.R_alloc | apply Kd.R_drewN | apply Kd.R_drew)); exact Kd.R_mono HQ35.out (fun _ hk => trivial)⟩, ⟨by repeat (first | (with_reducible first | exact HB.out | apply below_alloc | apply pw_below_drewN | apply below_drew1 | refine below_set ?_ GB20.out | refine below_set ?_ GB20.out | refine below_set ?_ GB20.out | refine below_set ?_ GB20.out | refine below_set ?_ GB20.out | refine below_set ?_ GB20.out | refine below_set ?_ GE111.out) | exact HB.out)⟩⟩
                        · rw [if_neg c18] at H
                          have c18b0 : (((rd_T52 x7_2 (ji15)).f0) == t106) = false := beq_eq_false_iff_ne.mpr c18
                          have c18b1 : (((rd_T52 x7_2 (ji15)).f0) != t106) = true := bne_iff_ne.mpr c18
                          by_cases c36 : x7_2.length < 2932031007402
                          · rw [if_pos c36] at H
                            have LMc36 := Aside0.mk c36
                            clear c36
                            obtain ⟨y121, hy121⟩ : ∃ y_ : List (S52), y_ = (x7_2 ++ [(⟨t106, 1, (rd_T41 l0 x8_2).f1, (rd_T41 l0 x8_2).f1, (rd_T41 l0 x8_2).f1, (rd_T41 l0 x8_2).f1⟩ : S52)]) := ⟨_, rfl⟩
                            replace H : (lysimeterref16_Buckets.l0 k2 l0 a1 y121 (wrap64 (x8_2 + 1))) = some (r1, r2) := by first | (rw [hy121]; with_reducible exact H) | (have H2_ := (Option.bind_some _ _).symm.trans H; rw [hy121]; with_reducible exact H2_) | (have H2_ := (Option.bind_some _ _).symm.trans H; with_reducible exact H2_) | with_reducible exact H | (rw [hy121]; exact H) | exact H
                            have Ny121 := Aside0.mk hy121
                            clear hy121
                            have H' := Aside0.mk H
                            clear H
                            try go_wp2
                            have n0_ := Aside0.mk (Kd.R_drew HO_7.out)
                            have n1_ := Aside0.mk (below_drew1 HB.out)
                            clear HO_7
                            clear HB
                            have HO_7 := n0_
                            have HB := n1_
                            clear n0_ n1_
                            have p105 : 0 ≤ (x8_2 : Int) := of_decide_eq_true (by first | (with_reducible assumption) | assumption)
                            have q105 : x8_2 < (l0.length : Int) := of_decide_eq_true (by first | (with_reducible assumption) | assumption)
                            obtain ⟨ad105, e105, hx105_0, hx105_1⟩ := at_T41 HR0.out x8_2 p105 q105
                            have hw105_1 := hx105_1
                            have hw105_0 := hx105_0
                            cases e105
                            replace hx105_0 := (HB.out.cell (World.block_lt_of_cell? w _ hx105_0)).trans hx105_0
                            replace hx105_1 := (HB.out.cell (World.block_lt_of_cell? w _ hx105_1)).trans hx105_1
                            replace p105 := eq_true p105
                            replace q105 := eq_true q105
                            have p107 : 0 ≤ (x8_2 : Int) := of_decide_eq_true (by first | (with_reducible assumption) | assumption)
                            have q107 : x8_2 < (l0.length : Int) := of_decide_eq_true (by first | (with_reducible assumption) | assumption)
                            obtain ⟨ad107, e107, hx107_0, hx107_1⟩ := at_T41 HR0.out x8_2 p107 q107
                            have hw107_1 := hx107_1
                            have hw107_0 := hx107_0
                            obtain rfl : ad105 = ad107 := (by injection e107)
                            replace hx107_0 := (HB.out.cell (World.block_lt_of_cell? w _ hx107_0)).trans hx107_0
                            replace hx107_1 := (HB.out.cell (World.block_lt_of_cell? w _ hx107_1)).trans hx107_1
                            replace p107 := eq_true p107
                            replace q107 := eq_true q107
                            have p108 : 0 ≤ (x8_2 : Int) := of_decide_eq_true (by first | (with_reducible assumption) | assumption)
                            have q108 : x8_2 < (l0.length : Int) := of_decide_eq_true (by first | (with_reducible assumption) | assumption)
                            obtain ⟨ad108, e108, hx108_0, hx108_1⟩ := at_T41 HR0.out x8_2 p108 q108
                            have hw108_1 := hx108_1
                            have hw108_0 := hx108_0
                            obtain rfl : ad105 = ad108 := (by injection e108)
                            replace hx108_0 := (HB.out.cell (World.block_lt_of_cell? w _ hx108_0)).trans hx108_0
                            replace hx108_1 := (HB.out.cell (World.block_lt_of_cell? w _ hx108_1)).trans hx108_1
                            replace p108 := eq_true p108
                            replace q108 := eq_true q108
                            have p109 : 0 ≤ (x8_2 : Int) := of_decide_eq_true (by first | (with_reducible assumption) | assumption)
                            have q109 : x8_2 < (l0.length : Int) := of_decide_eq_true (by first | (with_reducible assumption) | assumption)
                            obtain ⟨ad109, e109, hx109_0, hx109_1⟩ := at_T41 HR0.out x8_2 p109 q109
                            have hw109_1 := hx109_1
                            have hw109_0 := hx109_0
                            obtain rfl : ad105 = ad109 := (by injection e109)
                            replace hx109_0 := (HB.out.cell (World.block_lt_of_cell? w _ hx109_0)).trans hx109_0
                            replace hx109_1 := (HB.out.cell (World.block_lt_of_cell? w _ hx109_1)).trans hx109_1
                            replace p109 := eq_true p109
                            replace q109 := eq_true q109
                            have p110 : 0 ≤ (x8_2 : Int) := of_decide_eq_true (by first | (with_reducible assumption) | assumption)
                            have q110 : x8_2 < (l0.length : Int) := of_decide_eq_true (by first | (with_reducible assumption) | assumption)
                            obtain ⟨ad110, e110, hx110_0, hx110_1⟩ := at_T41 HR0.out x8_2 p110 q110
                            have hw110_1 := hx110_1
                            have hw110_0 := hx110_0
                            obtain rfl : ad105 = ad110 := (by injection e110)
                            replace hx110_0 := (HB.out.cell (World.block_lt_of_cell? w _ hx110_0)).trans hx110_0
                            replace hx110_1 := (HB.out.cell (World.block_lt_of_cell? w _ hx110_1)).trans hx110_1
                            replace p110 := eq_true p110
                            replace q110 := eq_true q110
                            refine start_ (n := 30) (S := fun w' => w'.cell? (ad105.add ((x8_2).toNat * 2)) = some (.int .i64 ((rd_T41 l0 x8_2).f0)) ∧ w'.cell? ⟨(ad105.add ((x8_2).toNat * 2)).block, (ad105.add ((x8_2).toNat * 2)).off + 1, none⟩ = some (.int .i64 ((rd_T41 l0 x8_2).f1)) ∧ w'.cell? (ad105.add ((x8_2).toNat * 2)) = some (.int .i64 ((rd_T41 l0 x8_2).f0)) ∧ w'.cell? ⟨(ad105.add ((x8_2).toNat * 2)).block, (ad105.add ((x8_2).toNat * 2)).off + 1, none⟩ = some (.int .i64 ((rd_T41 l0 x8_2).f1)) ∧ w'.cell? (ad105.add ((x8_2).toNat * 2)) = some (.int .i64 ((rd_T41 l0 x8_2).f0)) ∧ w'.cell? ⟨(ad105.add ((x8_2).toNat * 2)).block, (ad105.add ((x8_2).toNat * 2)).off + 1, none⟩ = some (.int .i64 ((rd_T41 l0 x8_2).f1)) ∧ w'.cell? (ad105.add ((x8_2).toNat * 2)) = some (.int .i64 ((rd_T41 l0 x8_2).f0)) ∧ w'.cell? ⟨(ad105.add ((x8_2).toNat * 2)).block, (ad105.add ((x8_2).toNat * 2)).off + 1, none⟩ = some (.int .i64 ((rd_T41 l0 x8_2).f1)) ∧ w'.cell? (ad105.add ((x8_2).toNat * 2)) = some (.int .i64 ((rd_T41 l0 x8_2).f0)) ∧ w'.cell? ⟨(ad105.add ((x8_2).toNat * 2)).block, (ad105.add ((x8_2).toNat * 2)).off + 1, none⟩ = some (.int .i64 ((rd_T41 l0 x8_2).f1))) (ds := []) #[false, false, false, false, false, false, false, false, false, false, false, false, false, false, false, false, false, false, false, false, false, false, false, false, false, false, false, false, false, false] (by kernel_rfl) rfl rfl ⟨((HB.out.cell (World.block_lt_of_cell? w _ hw105_0)).trans hw105_0), ((HB.out.cell (World.block_lt_of_cell? w _ hw105_1)).trans hw105_1), ((HB.out.cell (World.block_lt_of_cell? w _ hw107_0)).trans hw107_0), ((HB.out.cell (World.block_lt_of_cell? w _ hw107_1)).trans hw107_1), ((HB.out.cell (World.block_lt_of_cell? w _ hw108_0)).trans hw108_0), ((HB.out.cell (World.block_lt_of_cell? w _ hw108_1)).trans hw108_1), ((HB.out.cell (World.block_lt_of_cell? w _ hw109_0)).trans hw109_0), ((HB.out.cell (World.block_lt_of_cell? w _ hw109_1)).trans hw109_1), ((HB.out.cell (World.block_lt_of_cell? w _ hw110_0)).trans hw110_0), ((HB.out.cell (World.block_lt_of_cell? w _ hw110_1)).trans hw110_1)⟩ (fun hHeld => ?_); refine with_tabW lysimeterref16_Buckets.tab10 lysimeterref16_Buckets.bits10 (fun HT_ HW_ => ?_)
                            generalize wr.drew = w37 at HO_7 HB hx105_0 hx105_1 hx107_0 hx107_1 hx108_0 hx108_1 hx109_0 hx109_1 hx110_0 hx110_1 hHeld ⊢
                            refine pure_ (i := 0) (N := some 28) (v := ?_) (a' := ?_) #[true, false, false, false, false, false, false, false, false, false, false, false, false, false, false, false, false, false, false, false, false, false, false, false, false, false, false, false, false, false] rfl rfl (any_of HT_.out (by kernel_rfl)) (fun _ _ _ h => h) (Or.inl ⟨by rfl, ?_⟩) ?_ ?_
                            rotate_left
                            · intro w'
                              go_simp
                              with_reducible rfl
                            rotate_left
                            · simp only [Act.put, List.setIfInBounds_toArray, List.set_cons_zero, List.set_cons_succ, i64_w, i32_w]
                              rfl
                            refine pure_ (i := 1) (N := some 29) (v := ?_) (a' := ?_) #[true, true, false, false, false, false, false, false, false, false, false, false, false, false, false, false, false, false, false, false, false, false, false, false, false, false, false, false, false, false] rfl rfl (any_of HT_.out (by kernel_rfl)) (fun _ _ _ h => h) (Or.inl ⟨by rfl, ?_⟩) ?_ ?_
                            rotate_left
                            · intro w'
                              go_simp
                              with_reducible rfl
                            rotate_left
                            · simp only [Act.put, List.setIfInBounds_toArray, List.set_cons_zero, List.set_cons_succ, i64_w, i32_w]
                              rfl
                            refine pure_ (i := 2) (N := some 30) (v := ?_) (a' := ?_) #[true, true, true, false, false, false, false, false, false, false, false, false, false, false, false, false, false, false, false, false, false, false, false, false, false, false, false, false, false, false] rfl rfl (any_of HT_.out (by kernel_rfl)) (fun _ _ _ h => h) (Or.inl ⟨by rfl, ?_⟩) ?_ ?_
                            rotate_left
                            · intro w'
                              go_simp
                              with_reducible rfl
                            rotate_left
                            · simp only [Act.put, List.setIfInBounds_toArray, List.set_cons_zero, List.set_cons_succ, i64_w, i32_w]
                              rfl
                            refine pure_ (i := 3) (N := some 31) (v := ?_) (a' := ?_) #[true, true, true, true, false, false, false, false, false, false, false, false, false, false, false, false, false, false, false, false, false, false, false, false, false, false, false, false, false, false] rfl rfl (any_of HT_.out (by kernel_rfl)) (fun _ _ _ h => h) (Or.inl ⟨by rfl, ?_⟩) ?_ ?_
                            rotate_left
                            · intro w'
                              go_simp
                              with_reducible rfl
                            rotate_left
                            · simp only [Act.put, List.setIfInBounds_toArray, List.set_cons_zero, List.set_cons_succ, i64_w, i32_w]
                              rfl
                            refine pure_ (i := 5) (N := some 33) (v := ?_) (a' := ?_) #[true, true, true, true, false, true, false, false, false, false, false, false, false, false, false, false, false, false, false, false, false, false, false, false, false, false, false, false, false, false] rfl rfl (any_of HT_.out (by kernel_rfl)) (fun _ _ _ h => h) (Or.inl ⟨by rfl, ?_⟩) ?_ ?_
                            rotate_left
                            · intro w'
                              go_simp
                              with_reducible rfl
                            rotate_left
                            · simp only [Act.put, List.setIfInBounds_toArray, List.set_cons_zero, List.set_cons_succ, i64_w, i32_w]
                              rfl
                            refine pure_ (i := 7) (N := some 35) (v := ?_) (a' := ?_) #[true, true, true, true, false, true, false, true, false, false, false, false, false, false, false, false, false, false, false, false, false, false, false, false, false, false, false, false, false, false] rfl rfl (any_of HT_.out (by kernel_rfl)) (fun _ _ _ h => h) (Or.inl ⟨by rfl, ?_⟩) ?_ ?_
                            rotate_left
                            · intro w'
                              go_simp
                              with_reducible rfl
                            rotate_left
                            · simp only [Act.put, List.setIfInBounds_toArray, List.set_cons_zero, List.set_cons_succ, i64_w, i32_w]
                              rfl
                            refine pure_ (i := 8) (N := some 36) (v := ?_) (a' := ?_) #[true, true, true, true, false, true, false, true, true, false, false, false, false, false, false, false, false, false, false, false, false, false, false, false, false, false, false, false, false, false] rfl rfl (any_of HT_.out (by kernel_rfl)) (fun _ _ _ h => h) (Or.inl ⟨by rfl, ?_⟩) ?_ ?_
                            rotate_left
                            · intro w'
                              go_simp
                              with_reducible rfl
                            rotate_left
                            · simp only [Act.put, List.setIfInBounds_toArray, List.set_cons_zero, List.set_cons_succ, i64_w, i32_w]
                              rfl
                            refine pure_ (i := 9) (N := some 37) (v := ?_) (a' := ?_) #[true, true, true, true, false, true, false, true, true, true, false, false, false, false, false, false, false, false, false, false, false, false, false, false, false, false, false, false, false, false] rfl rfl (any_of HT_.out (by kernel_rfl)) (fun _ _ _ h => h) (Or.inl ⟨by rfl, ?_⟩) ?_ ?_
                            rotate_left
                            · intro w'
                              go_simp
                              with_reducible rfl
                            rotate_left
                            · simp only [Act.put, List.setIfInBounds_toArray, List.set_cons_zero, List.set_cons_succ, i64_w, i32_w]
                              rfl
                            refine pure_ (i := 10) (N := some 38) (v := ?_) (a' := ?_) #[true, true, true, true, false, true, false, true, true, true, true, false, false, false, false, false, false, false, false, false, false, false, false, false, false, false, false, false, false, false] rfl rfl (any_of HT_.out (by kernel_rfl)) (fun _ _ _ h => h) (Or.inl ⟨by rfl, ?_⟩) ?_ ?_
                            rotate_left
                            · intro w'
                              go_simp
                              with_reducible rfl
                            rotate_left
                            · simp only [Act.put, List.setIfInBounds_toArray, List.set_cons_zero, List.set_cons_succ, i64_w, i32_w]
                              rfl
                            refine pure_ (i := 12) (N := some 40) (v := ?_) (a' := ?_) #[true, true, true, true, false, true, false, true, true, true, true, false, true, false, false, false, false, false, false, false, false, false, false, false, false, false, false, false, false, false] rfl rfl (any_of HT_.out (by kernel_rfl)) (fun _ _ _ h => h) (Or.inl ⟨by rfl, ?_⟩) ?_ ?_
                            rotate_left
                            · intro w'
                              go_simp
                              with_reducible rfl
                            rotate_left
                            · simp only [Act.put, List.setIfInBounds_toArray, List.set_cons_zero, List.set_cons_succ, i64_w, i32_w]
                              rfl
                            refine pure_ (i := 13) (N := some 41) (v := ?_) (a' := ?_) #[true, true, true, true, false, true, false, true, true, true, true, false, true, true, false, false, false, false, false, false, false, false, false, false, false, false, false, false, false, false] rfl rfl (any_of HT_.out (by kernel_rfl)) (fun _ _ _ h => h) (Or.inl ⟨by rfl, ?_⟩) ?_ ?_
                            rotate_left
                            · intro w'
                              go_simp
                              with_reducible rfl
                            rotate_left
                            · simp only [Act.put, List.setIfInBounds_toArray, List.set_cons_zero, List.set_cons_succ, i64_w, i32_w]
                              rfl
                            refine pure_ (i := 14) (N := some 42) (v := ?_) (a' := ?_) #[true, true, true, true, false, true, false, true, true, true, true, false, true, true, true, false, false, false, false, false, false, false, false, false, false, false, false, false, false, false] rfl rfl (any_of HT_.out (by kernel_rfl)) (fun _ _ _ h => h) (Or.inl ⟨by rfl, ?_⟩) ?_ ?_
                            rotate_left
                            · intro w'
                              go_simp
                              with_reducible rfl
                            rotate_left
                            · simp only [Act.put, List.setIfInBounds_toArray, List.set_cons_zero, List.set_cons_succ, i64_w, i32_w]
                              rfl
                            refine pure_ (i := 15) (N := some 43) (v := ?_) (a' := ?_) #[true, true, true, true, false, true, false, true, true, true, true, false, true, true, true, true, false, false, false, false, false, false, false, false, false, false, false, false, false, false] rfl rfl (any_of HT_.out (by kernel_rfl)) (fun _ _ _ h => h) (Or.inl ⟨by rfl, ?_⟩) ?_ ?_
                            rotate_left
                            · intro w'
                              go_simp
                              with_reducible rfl
                            rotate_left
                            · simp only [Act.put, List.setIfInBounds_toArray, List.set_cons_zero, List.set_cons_succ, i64_w, i32_w]
                              rfl
                            refine pure_ (i := 17) (N := some 45) (v := ?_) (a' := ?_) #[true, true, true, true, false, true, false, true, true, true, true, false, true, true, true, true, false, true, false, false, false, false, false, false, false, false, false, false, false, false] rfl rfl (any_of HT_.out (by kernel_rfl)) (fun _ _ _ h => h) (Or.inl ⟨by rfl, ?_⟩) ?_ ?_
                            rotate_left
                            · intro w'
                              go_simp
                              with_reducible rfl
                            rotate_left
                            · simp only [Act.put, List.setIfInBounds_toArray, List.set_cons_zero, List.set_cons_succ, i64_w, i32_w]
                              rfl
                            refine pure_ (i := 18) (N := some 46) (v := ?_) (a' := ?_) #[true, true, true, true, false, true, false, true, true, true, true, false, true, true, true, true, false, true, true, false, false, false, false, false, false, false, false, false, false, false] rfl rfl (any_of HT_.out (by kernel_rfl)) (fun _ _ _ h => h) (Or.inl ⟨by rfl, ?_⟩) ?_ ?_
                            rotate_left
                            · intro w'
                              go_simp
                              with_reducible rfl
                            rotate_left
                            · simp only [Act.put, List.setIfInBounds_toArray, List.set_cons_zero, List.set_cons_succ, i64_w, i32_w]
                              rfl
                            refine pure_ (i := 19) (N := some 47) (v := ?_) (a' := ?_) #[true, true, true, true, false, true, false, true, true, true, true, false, true, true, true, true, false, true, true, true, false, false, false, false, false, false, false, false, false, false] rfl rfl (any_of HT_.out (by kernel_rfl)) (fun _ _ _ h => h) (Or.inl ⟨by rfl, ?_⟩) ?_ ?_
                            rotate_left
                            · intro w'
                              go_simp
                              with_reducible rfl
                            rotate_left
                            · simp only [Act.put, List.setIfInBounds_toArray, List.set_cons_zero, List.set_cons_succ, i64_w, i32_w]
                              rfl
                            refine pure_ (i := 20) (N := some 48) (v := ?_) (a' := ?_) #[true, true, true, true, false, true, false, true, true, true, true, false, true, true, true, true, false, true, true, true, true, false, false, false, false, false, false, false, false, false] rfl rfl (any_of HT_.out (by kernel_rfl)) (fun _ _ _ h => h) (Or.inl ⟨by rfl, ?_⟩) ?_ ?_
                            rotate_left
                            · intro w'
                              go_simp
                              with_reducible rfl
                            rotate_left
                            · simp only [Act.put, List.setIfInBounds_toArray, List.set_cons_zero, List.set_cons_succ, i64_w, i32_w]
                              rfl
                            refine pure_ (i := 22) (N := some 50) (v := ?_) (a' := ?_) #[true, true, true, true, false, true, false, true, true, true, true, false, true, true, true, true, false, true, true, true, true, false, true, false, false, false, false, false, false, false] rfl rfl (any_of HT_.out (by kernel_rfl)) (fun _ _ _ h => h) (Or.inl ⟨by rfl, ?_⟩) ?_ ?_
                            rotate_left
                            · intro w'
                              go_simp
                              with_reducible rfl
                            rotate_left
                            · simp only [Act.put, List.setIfInBounds_toArray, List.set_cons_zero, List.set_cons_succ, i64_w, i32_w]
                              rfl
                            refine pure_ (i := 23) (N := some 51) (v := ?_) (a' := ?_) #[true, true, true, true, false, true, false, true, true, true, true, false, true, true, true, true, false, true, true, true, true, false, true, true, false, false, false, false, false, false] rfl rfl (any_of HT_.out (by kernel_rfl)) (fun _ _ _ h => h) (Or.inl ⟨by rfl, ?_⟩) ?_ ?_
                            rotate_left
                            · intro w'
                              go_simp
                              with_reducible rfl
                            rotate_left
                            · simp only [Act.put, List.setIfInBounds_toArray, List.set_cons_zero, List.set_cons_succ, i64_w, i32_w]
                              rfl
                            refine pure_ (i := 24) (N := some 52) (v := ?_) (a' := ?_) #[true, true, true, true, false, true, false, true, true, true, true, false, true, true, true, true, false, true, true, true, true, false, true, true, true, false, false, false, false, false] rfl rfl (any_of HT_.out (by kernel_rfl)) (fun _ _ _ h => h) (Or.inl ⟨by rfl, ?_⟩) ?_ ?_
                            rotate_left
                            · intro w'
                              go_simp
                              with_reducible rfl
                            rotate_left
                            · simp only [Act.put, List.setIfInBounds_toArray, List.set_cons_zero, List.set_cons_succ, i64_w, i32_w]
                              rfl
                            refine pure_ (i := 25) (N := some 53) (v := ?_) (a' := ?_) #[true, true, true, true, false, true, false, true, true, true, true, false, true, true, true, true, false, true, true, true, true, false, true, true, true, true, false, false, false, false] rfl rfl (any_of HT_.out (by kernel_rfl)) (fun _ _ _ h => h) (Or.inl ⟨by rfl, ?_⟩) ?_ ?_
                            rotate_left
                            · intro w'
                              go_simp
                              with_reducible rfl
                            rotate_left
                            · simp only [Act.put, List.setIfInBounds_toArray, List.set_cons_zero, List.set_cons_succ, i64_w, i32_w]
                              rfl
                            refine take_ (i := 4) (N := some 32) (v := ?_) (a' := ?_) #[true, true, true, true, true, true, false, true, true, true, true, false, true, true, true, true, false, true, true, true, true, false, true, true, true, true, false, false, false, false] rfl rfl (take_ofW HT_.out HW_.out (by kernel_rfl)) (fun _ _ _ h => h) (Or.inl ⟨by rfl, ?_⟩) hHeld ?_ ?_
                            rotate_left
                            · rintro w' ⟨s0, s1, s2, s3, s4, s5, s6, s7, s8, s9⟩
                              go_simp
                              with_reducible rfl
                            rotate_left
                            · simp only [Act.put, List.setIfInBounds_toArray, List.set_cons_zero, List.set_cons_succ, i64_w, i32_w]
                              rfl
                            refine take_ (i := 11) (N := some 39) (v := ?_) (a' := ?_) #[true, true, true, true, true, true, false, true, true, true, true, true, true, true, true, true, false, true, true, true, true, false, true, true, true, true, false, false, false, false] rfl rfl (take_ofW HT_.out HW_.out (by kernel_rfl)) (fun _ _ _ h => h) (Or.inl ⟨by rfl, ?_⟩) hHeld ?_ ?_
                            rotate_left
                            · rintro w' ⟨s0, s1, s2, s3, s4, s5, s6, s7, s8, s9⟩
                              go_simp
                              with_reducible rfl
                            rotate_left
                            · simp only [Act.put, List.setIfInBounds_toArray, List.set_cons_zero, List.set_cons_succ, i64_w, i32_w]
                              rfl
                            refine take_ (i := 16) (N := some 44) (v := ?_) (a' := ?_) #[true, true, true, true, true, true, false, true, true, true, true, true, true, true, true, true, true, true, true, true, true, false, true, true, true, true, false, false, false, false] rfl rfl (take_ofW HT_.out HW_.out (by kernel_rfl)) (fun _ _ _ h => h) (Or.inl ⟨by rfl, ?_⟩) hHeld ?_ ?_
                            rotate_left
                            · rintro w' ⟨s0, s1, s2, s3, s4, s5, s6, s7, s8, s9⟩
                              go_simp
                              with_reducible rfl
                            rotate_left
                            · simp only [Act.put, List.setIfInBounds_toArray, List.set_cons_zero, List.set_cons_succ, i64_w, i32_w]
                              rfl
                            refine take_ (i := 21) (N := some 49) (v := ?_) (a' := ?_) #[true, true, true, true, true, true, false, true, true, true, true, true, true, true, true, true, true, true, true, true, true, true, true, true, true, true, false, false, false, false] rfl rfl (take_ofW HT_.out HW_.out (by kernel_rfl)) (fun _ _ _ h => h) (Or.inl ⟨by rfl, ?_⟩) hHeld ?_ ?_
                            rotate_left
                            · rintro w' ⟨s0, s1, s2, s3, s4, s5, s6, s7, s8, s9⟩
                              go_simp
                              with_reducible rfl
                            rotate_left
                            · simp only [Act.put, List.setIfInBounds_toArray, List.set_cons_zero, List.set_cons_succ, i64_w, i32_w]
                              rfl
                            refine take_ (i := 26) (N := some 54) (v := ?_) (a' := ?_) #[true, true, true, true, true, true, false, true, true, true, true, true, true, true, true, true, true, true, true, true, true, true, true, true, true, true, true, false, false, false] rfl rfl (take_ofW HT_.out HW_.out (by kernel_rfl)) (fun _ _ _ h => h) (Or.inl ⟨by rfl, ?_⟩) hHeld ?_ ?_
                            rotate_left
                            · rintro w' ⟨s0, s1, s2, s3, s4, s5, s6, s7, s8, s9⟩
                              go_simp
                              with_reducible rfl
                            rotate_left
                            · simp only [Act.put, List.setIfInBounds_toArray, List.set_cons_zero, List.set_cons_succ, i64_w, i32_w]
                              rfl
                            refine join_ (σ := Nat) 1 #[true, true, true, true, true, true, true, true, true, true, true, true, true, true, true, true, true, true, true, true, true, true, true, true, true, true, true, true, true, false] (fun s_ => [(34, .int .i64 t106), (9, .pointer (some ⟨s_, 0, none⟩)), (55, .agg #[.int .i64 t106, .int .i64 1, .int .i64 ((rd_T41 l0 x8_2).f1), .int .i64 ((rd_T41 l0 x8_2).f1), .int .i64 ((rd_T41 l0 x8_2).f1), .int .i64 ((rd_T41 l0 x8_2).f1)])]) (fun s_ w' => (w'.cell? (ad105.add ((x8_2).toNat * 2)) = some (.int .i64 ((rd_T41 l0 x8_2).f0)) ∧ w'.cell? ⟨(ad105.add ((x8_2).toNat * 2)).block, (ad105.add ((x8_2).toNat * 2)).off + 1, none⟩ = some (.int .i64 ((rd_T41 l0 x8_2).f1)) ∧ w'.cell? (ad105.add ((x8_2).toNat * 2)) = some (.int .i64 ((rd_T41 l0 x8_2).f0)) ∧ w'.cell? ⟨(ad105.add ((x8_2).toNat * 2)).block, (ad105.add ((x8_2).toNat * 2)).off + 1, none⟩ = some (.int .i64 ((rd_T41 l0 x8_2).f1)) ∧ w'.cell? (ad105.add ((x8_2).toNat * 2)) = some (.int .i64 ((rd_T41 l0 x8_2).f0)) ∧ w'.cell? ⟨(ad105.add ((x8_2).toNat * 2)).block, (ad105.add ((x8_2).toNat * 2)).off + 1, none⟩ = some (.int .i64 ((rd_T41 l0 x8_2).f1)) ∧ w'.cell? (ad105.add ((x8_2).toNat * 2)) = some (.int .i64 ((rd_T41 l0 x8_2).f0)) ∧ w'.cell? ⟨(ad105.add ((x8_2).toNat * 2)).block, (ad105.add ((x8_2).toNat * 2)).off + 1, none⟩ = some (.int .i64 ((rd_T41 l0 x8_2).f1)) ∧ w'.cell? (ad105.add ((x8_2).toNat * 2)) = some (.int .i64 ((rd_T41 l0 x8_2).f0)) ∧ w'.cell? ⟨(ad105.add ((x8_2).toNat * 2)).block, (ad105.add ((x8_2).toNat * 2)).off + 1, none⟩ = some (.int .i64 ((rd_T41 l0 x8_2).f1))) ∧ (Kd.R k52 52 w' w.heap.size (fun k_ => k_ ≠ s_) u7 x7_2) ∧ (w'.heap[s_]? = some (.cells #[.int .i64 0, .int .i64 0, .int .i64 0, .int .i64 0, .int .i64 0, .int .i64 0] 52 (0, 0))) ∧ (w.heap.size ≤ s_) ∧ (w.heap.size ≤ s_) ∧ (Below w.heap.size w w')) ?_ ?_
                            rotate_left
                            · intro hCont
                              refine two_ (i := 6) (j := 28) (Ni := some 34) (Nj := some 9) #[true, true, true, true, true, true, true, true, true, true, true, true, true, true, true, true, true, true, true, true, true, true, true, true, true, true, true, false, false, false] #[true, true, true, true, true, true, false, true, true, true, true, true, true, true, true, true, true, true, true, true, true, true, true, true, true, true, true, false, true, false] rfl rfl rfl rfl (two_of HT_.out (by kernel_rfl)) (by decide) (by decide) (fun K hK => ?_) (fun K hK => ?_)
                              · skip
                                refine goes_ Try.func30 (by kernel_rfl) rfl #[.int .i64 ((rd_T41 l0 x8_2).f0), .int .i64 a1] (by rfl) rfl rfl (by (try simp only [List.map_toArray, List.map_cons, List.map_nil]); first | done | rfl | (simp only [List.length_drop, List.length_take]; rfl)) ?_
                                with_reducible refine (lysimeterref16_Floor.calls ((rd_T41 l0 x8_2).f0) a1 t106 _ A13.out).mono ?_
                                rintro e w' ⟨rfl, ⟨nd, rfl⟩⟩
                                refine ⟨_, rfl, ?_⟩
                                refine hK.out _ _ ⟨((HB.out.cell (World.block_lt_of_cell? w _ hw105_0)).trans hw105_0), ((HB.out.cell (World.block_lt_of_cell? w _ hw105_1)).trans hw105_1), ((HB.out.cell (World.block_lt_of_cell? w _ hw107_0)).trans hw107_0), ((HB.out.cell (World.block_lt_of_cell? w _ hw107_1)).trans hw107_1), ((HB.out.cell (World.block_lt_of_cell? w _ hw108_0)).trans hw108_0), ((HB.out.cell (World.block_lt_of_cell? w _ hw108_1)).trans hw108_1), ((HB.out.cell (World.block_lt_of_cell? w _ hw109_0)).trans hw109_0), ((HB.out.cell (World.block_lt_of_cell? w _ hw109_1)).trans hw109_1), ((HB.out.cell (World.block_lt_of_cell? w _ hw110_0)).trans hw110_0), ((HB.out.cell (World.block_lt_of_cell? w _ hw110_1)).trans hw110_1)⟩ (fun hHeld => ?_)
                                clear hK K
                                refine norm_ (a' := ?_) ?_ ?_
                                rotate_left
                                · show Act.put _ (some 34) _ = _
                                  simp only [Act.put, List.setIfInBounds_toArray, List.set_cons_zero, List.set_cons_succ, i64_w, i32_w]
                                  rfl
                                refine pure_ (i := 27) (N := some 55) (v := ?_) (a' := ?_) #[true, true, true, true, true, true, true, true, true, true, true, true, true, true, true, true, true, true, true, true, true, true, true, true, true, true, true, true, false, false] rfl rfl (any_of HT_.out (by kernel_rfl)) (fun _ _ _ h => h) (Or.inl ⟨by rfl, ?_⟩) ?_ ?_
                                rotate_left
                                · intro w'
                                  go_simp
                                  with_reducible rfl
                                rotate_left
                                · simp only [Act.put, List.setIfInBounds_toArray, List.set_cons_zero, List.set_cons_succ, i64_w, i32_w]
                                  rfl
                                refine one_ (i := 28) (N := some 9) #[true, true, true, true, true, true, true, true, true, true, true, true, true, true, true, true, true, true, true, true, true, true, true, true, true, true, true, true, true, false] rfl rfl (one_of HT_.out (by kernel_rfl)) (by decide) (fun K hK => ?_)
                                refine box_step ?hg (N := 9) ?hd (cs := #[.int .i64 0, .int .i64 0, .int .i64 0, .int .i64 0, .int .i64 0, .int .i64 0]) (t := 52) ?hr ?_; (case hd => rfl); (case hg => rfl); (case hr => first | (go_simp; done) | (go_simp; rfl))
                                intro gb111 hg w38 hbox hb
                                have n0_ := Aside0.mk (Kd.R_below (Kd.R_elderB (by (with_reducible repeat (first | apply Kd.R_alloc | apply Kd.R_drewN | apply Kd.R_drew)); exact HO_7.out) gb111 (Nat.le_of_eq hg.symm)) hb)
                                have n1_ := Aside0.mk (below_step (by repeat (first | (with_reducible first | exact HB.out | apply below_alloc | apply pw_below_drewN | apply below_drew1) | exact HB.out)) hb)
                                have n2_ := Aside0.mk (hbox)
                                have n3_ := Aside0.mk ((by rw [hg]; exact (below_size (by repeat (first | (with_reducible first | exact HB.out | apply below_alloc | apply pw_below_drewN | apply below_drew1) | exact HB.out))) : w.heap.size ≤ gb111))
                                have n4_ := Aside0.mk ((by rw [hg]; exact (below_size (by repeat (first | (with_reducible first | exact HB.out | apply below_alloc | apply pw_below_drewN | apply below_drew1) | exact HB.out))) : w.heap.size ≤ gb111))
                                clear HO_7
                                clear HB
                                have HO_7 := n0_
                                have HB := n1_
                                have BK111 := n2_
                                have GW111 := n3_
                                have GE111 := n4_
                                clear n0_ n1_ n2_ n3_ n4_
                                clear hb hbox hg
                                refine hK.out _ _ ⟨((HB.out.cell (World.block_lt_of_cell? w _ hw105_0)).trans hw105_0), ((HB.out.cell (World.block_lt_of_cell? w _ hw105_1)).trans hw105_1), ((HB.out.cell (World.block_lt_of_cell? w _ hw107_0)).trans hw107_0), ((HB.out.cell (World.block_lt_of_cell? w _ hw107_1)).trans hw107_1), ((HB.out.cell (World.block_lt_of_cell? w _ hw108_0)).trans hw108_0), ((HB.out.cell (World.block_lt_of_cell? w _ hw108_1)).trans hw108_1), ((HB.out.cell (World.block_lt_of_cell? w _ hw109_0)).trans hw109_0), ((HB.out.cell (World.block_lt_of_cell? w _ hw109_1)).trans hw109_1), ((HB.out.cell (World.block_lt_of_cell? w _ hw110_0)).trans hw110_0), ((HB.out.cell (World.block_lt_of_cell? w _ hw110_1)).trans hw110_1)⟩ (fun hHeld => ?_)
                                clear hK K
                                refine norm_ (a' := ?_) ?_ ?_
                                rotate_left
                                · show Act.put _ (some 9) _ = _
                                  simp only [Act.put, List.setIfInBounds_toArray, List.set_cons_zero, List.set_cons_succ, i64_w, i32_w]
                                  rfl
                                exact norm_ (by simp only [putAll, Act.put, List.setIfInBounds_toArray, List.set_cons_zero, List.set_cons_succ]) (hCont (gb111) _ ⟨hHeld, (by (with_reducible repeat (first | apply Kd.R_alloc | apply Kd.R_drewN | apply Kd.R_drew)); exact Kd.R_mono HO_7.out (fun _ hk => hk.2)), (by (with_reducible repeat (first | refine blk_drewN ?_ _ | refine blk_drew ?_ | refine blk_alloc ?_ _)); exact BK111.out), GW111.out, GE111.out, (by repeat (first | (with_reducible first | exact HB.out | apply below_alloc | apply pw_below_drewN | apply below_drew1 | refine below_set ?_ GE111.out) | exact HB.out))⟩)
                              · skip
                                refine box_step ?hg (N := 9) ?hd (cs := #[.int .i64 0, .int .i64 0, .int .i64 0, .int .i64 0, .int .i64 0, .int .i64 0]) (t := 52) ?hr ?_; (case hd => rfl); (case hg => rfl); (case hr => first | (go_simp; done) | (go_simp; rfl))
                                intro gb111 hg w38 hbox hb
                                have n0_ := Aside0.mk (Kd.R_below (Kd.R_elderB (by (with_reducible repeat (first | apply Kd.R_alloc | apply Kd.R_drewN | apply Kd.R_drew)); exact HO_7.out) gb111 (Nat.le_of_eq hg.symm)) hb)
                                have n1_ := Aside0.mk (below_step (by repeat (first | (with_reducible first | exact HB.out | apply below_alloc | apply pw_below_drewN | apply below_drew1) | exact HB.out)) hb)
                                have n2_ := Aside0.mk (hbox)
                                have n3_ := Aside0.mk ((by rw [hg]; exact (below_size (by repeat (first | (with_reducible first | exact HB.out | apply below_alloc | apply pw_below_drewN | apply below_drew1) | exact HB.out))) : w.heap.size ≤ gb111))
                                have n4_ := Aside0.mk ((by rw [hg]; exact (below_size (by repeat (first | (with_reducible first | exact HB.out | apply below_alloc | apply pw_below_drewN | apply below_drew1) | exact HB.out))) : w.heap.size ≤ gb111))
                                clear HO_7
                                clear HB
                                have HO_7 := n0_
                                have HB := n1_
                                have BK111 := n2_
                                have GW111 := n3_
                                have GE111 := n4_
                                clear n0_ n1_ n2_ n3_ n4_
                                clear hb hbox hg
                                refine hK.out _ _ ⟨((HB.out.cell (World.block_lt_of_cell? w _ hw105_0)).trans hw105_0), ((HB.out.cell (World.block_lt_of_cell? w _ hw105_1)).trans hw105_1), ((HB.out.cell (World.block_lt_of_cell? w _ hw107_0)).trans hw107_0), ((HB.out.cell (World.block_lt_of_cell? w _ hw107_1)).trans hw107_1), ((HB.out.cell (World.block_lt_of_cell? w _ hw108_0)).trans hw108_0), ((HB.out.cell (World.block_lt_of_cell? w _ hw108_1)).trans hw108_1), ((HB.out.cell (World.block_lt_of_cell? w _ hw109_0)).trans hw109_0), ((HB.out.cell (World.block_lt_of_cell? w _ hw109_1)).trans hw109_1), ((HB.out.cell (World.block_lt_of_cell? w _ hw110_0)).trans hw110_0), ((HB.out.cell (World.block_lt_of_cell? w _ hw110_1)).trans hw110_1)⟩ (fun hHeld => ?_)
                                clear hK K
                                refine norm_ (a' := ?_) ?_ ?_
                                rotate_left
                                · show Act.put _ (some 9) _ = _
                                  simp only [Act.put, List.setIfInBounds_toArray, List.set_cons_zero, List.set_cons_succ, i64_w, i32_w]
                                  rfl
                                refine one_ (i := 6) (N := some 34) #[true, true, true, true, true, true, true, true, true, true, true, true, true, true, true, true, true, true, true, true, true, true, true, true, true, true, true, false, true, false] rfl rfl (one_of HT_.out (by kernel_rfl)) (by decide) (fun K hK => ?_)
                                refine goes_ Try.func30 (by kernel_rfl) rfl #[.int .i64 ((rd_T41 l0 x8_2).f0), .int .i64 a1] (by rfl) rfl rfl (by (try simp only [List.map_toArray, List.map_cons, List.map_nil]); first | done | rfl | (simp only [List.length_drop, List.length_take]; rfl)) ?_
                                with_reducible refine (lysimeterref16_Floor.calls ((rd_T41 l0 x8_2).f0) a1 t106 _ A13.out).mono ?_
                                rintro e w' ⟨rfl, ⟨nd, rfl⟩⟩
                                refine ⟨_, rfl, ?_⟩
                                refine hK.out _ _ ⟨((HB.out.cell (World.block_lt_of_cell? w _ hw105_0)).trans hw105_0), ((HB.out.cell (World.block_lt_of_cell? w _ hw105_1)).trans hw105_1), ((HB.out.cell (World.block_lt_of_cell? w _ hw107_0)).trans hw107_0), ((HB.out.cell (World.block_lt_of_cell? w _ hw107_1)).trans hw107_1), ((HB.out.cell (World.block_lt_of_cell? w _ hw108_0)).trans hw108_0), ((HB.out.cell (World.block_lt_of_cell? w _ hw108_1)).trans hw108_1), ((HB.out.cell (World.block_lt_of_cell? w _ hw109_0)).trans hw109_0), ((HB.out.cell (World.block_lt_of_cell? w _ hw109_1)).trans hw109_1), ((HB.out.cell (World.block_lt_of_cell? w _ hw110_0)).trans hw110_0), ((HB.out.cell (World.block_lt_of_cell? w _ hw110_1)).trans hw110_1)⟩ (fun hHeld => ?_)
                                clear hK K
                                refine norm_ (a' := ?_) ?_ ?_
                                rotate_left
                                · show Act.put _ (some 34) _ = _
                                  simp only [Act.put, List.setIfInBounds_toArray, List.set_cons_zero, List.set_cons_succ, i64_w, i32_w]
                                  rfl
                                refine pure_ (i := 27) (N := some 55) (v := ?_) (a' := ?_) #[true, true, true, true, true, true, true, true, true, true, true, true, true, true, true, true, true, true, true, true, true, true, true, true, true, true, true, true, true, false] rfl rfl (any_of HT_.out (by kernel_rfl)) (fun _ _ _ h => h) (Or.inl ⟨by rfl, ?_⟩) ?_ ?_
                                rotate_left
                                · intro w'
                                  go_simp
                                  with_reducible rfl
                                rotate_left
                                · simp only [Act.put, List.setIfInBounds_toArray, List.set_cons_zero, List.set_cons_succ, i64_w, i32_w]
                                  rfl
                                exact norm_ (by simp only [putAll, Act.put, List.setIfInBounds_toArray, List.set_cons_zero, List.set_cons_succ]) (hCont (gb111) _ ⟨hHeld, (by (with_reducible repeat (first | apply Kd.R_alloc | apply Kd.R_drewN | apply Kd.R_drew)); exact Kd.R_mono HO_7.out (fun _ hk => hk.2)), (by (with_reducible repeat (first | refine blk_drewN ?_ _ | refine blk_drew ?_ | refine blk_alloc ?_ _)); exact BK111.out), GW111.out, GE111.out, (by repeat (first | (with_reducible first | exact HB.out | apply below_alloc | apply pw_below_drewN | apply below_drew1 | refine below_set ?_ GE111.out) | exact HB.out))⟩)
                            rintro gb111 w39 ⟨hS_, h0_, h1_, h2_, h3_, h4_⟩
                            have n0_ : Aside0 (Kd.R k52 52 w39 w.heap.size (fun k_ => k_ ≠ gb111) u7 x7_2) := ⟨h0_⟩
                            have n1_ : Aside0 (w39.heap[gb111]? = some (.cells #[.int .i64 0, .int .i64 0, .int .i64 0, .int .i64 0, .int .i64 0, .int .i64 0] 52 (0, 0))) := ⟨h1_⟩
                            have n2_ : Aside0 (w.heap.size ≤ gb111) := ⟨h2_⟩
                            have n3_ : Aside0 (w.heap.size ≤ gb111) := ⟨h3_⟩
                            have n4_ : Aside0 (Below w.heap.size w w39) := ⟨h4_⟩
                            clear HO_7
                            clear HB
                            clear h0_ h1_ h2_ h3_ h4_
                            have HO_7 := n0_
                            have BK111 := n1_
                            have GW111 := n2_
                            have GE111 := n3_
                            have HB := n4_
                            clear n0_ n1_ n2_ n3_ n4_
                            have hHeld : w39.cell? (ad105.add ((x8_2).toNat * 2)) = some (.int .i64 ((rd_T41 l0 x8_2).f0)) ∧ w39.cell? ⟨(ad105.add ((x8_2).toNat * 2)).block, (ad105.add ((x8_2).toNat * 2)).off + 1, none⟩ = some (.int .i64 ((rd_T41 l0 x8_2).f1)) ∧ w39.cell? (ad105.add ((x8_2).toNat * 2)) = some (.int .i64 ((rd_T41 l0 x8_2).f0)) ∧ w39.cell? ⟨(ad105.add ((x8_2).toNat * 2)).block, (ad105.add ((x8_2).toNat * 2)).off + 1, none⟩ = some (.int .i64 ((rd_T41 l0 x8_2).f1)) ∧ w39.cell? (ad105.add ((x8_2).toNat * 2)) = some (.int .i64 ((rd_T41 l0 x8_2).f0)) ∧ w39.cell? ⟨(ad105.add ((x8_2).toNat * 2)).block, (ad105.add ((x8_2).toNat * 2)).off + 1, none⟩ = some (.int .i64 ((rd_T41 l0 x8_2).f1)) ∧ w39.cell? (ad105.add ((x8_2).toNat * 2)) = some (.int .i64 ((rd_T41 l0 x8_2).f0)) ∧ w39.cell? ⟨(ad105.add ((x8_2).toNat * 2)).block, (ad105.add ((x8_2).toNat * 2)).off + 1, none⟩ = some (.int .i64 ((rd_T41 l0 x8_2).f1)) ∧ w39.cell? (ad105.add ((x8_2).toNat * 2)) = some (.int .i64 ((rd_T41 l0 x8_2).f0)) ∧ w39.cell? ⟨(ad105.add ((x8_2).toNat * 2)).block, (ad105.add ((x8_2).toNat * 2)).off + 1, none⟩ = some (.int .i64 ((rd_T41 l0 x8_2).f1)) := hS_
                            refine norm_ (a' := ?_) ?_ ?_
                            rotate_left
                            · simp only [putAll, Act.put, List.setIfInBounds_toArray, List.set_cons_zero, List.set_cons_succ]
                              rfl
                            refine one_ (i := 29) (N := none) #[true, true, true, true, true, true, true, true, true, true, true, true, true, true, true, true, true, true, true, true, true, true, true, true, true, true, true, true, true, true] rfl rfl (one_of HT_.out (by kernel_rfl)) (by decide) (fun K hK => ?_)
                            have hs40 : w39.cell? ⟨gb111, 0, none⟩ = some (.int .i64 0) := (blk_cell BK111.out 0).trans rfl
                            have hfs40 := blk_frozen BK111.out 0
                            have hs41 : w39.cell? ⟨gb111, 1, none⟩ = some (.int .i64 0) := (blk_cell BK111.out 1).trans rfl
                            have hfs41 := blk_frozen BK111.out 1
                            have hs42 : w39.cell? ⟨gb111, 2, none⟩ = some (.int .i64 0) := (blk_cell BK111.out 2).trans rfl
                            have hfs42 := blk_frozen BK111.out 2
                            have hs43 : w39.cell? ⟨gb111, 3, none⟩ = some (.int .i64 0) := (blk_cell BK111.out 3).trans rfl
                            have hfs43 := blk_frozen BK111.out 3
                            have hs44 : w39.cell? ⟨gb111, 4, none⟩ = some (.int .i64 0) := (blk_cell BK111.out 4).trans rfl
                            have hfs44 := blk_frozen BK111.out 4
                            have hs45 : w39.cell? ⟨gb111, 5, none⟩ = some (.int .i64 0) := (blk_cell BK111.out 5).trans rfl
                            have hfs45 := blk_frozen BK111.out 5
                            refine skip_ (w1 := ?_) (by rfl) rfl ?_ ?_
                            rotate_left
                            · go_simp
                              rfl
                            refine hK.out _ _ ⟨((cell_far (p := ⟨gb111, _, none⟩) (by first | exact far_ hw105_0 GW111.out | (rw [add_block]; exact far_ hw105_0 GW111.out) | exact far2_ hw105_0 GW111.out | (rw [add_block]; exact far2_ hw105_0 GW111.out) | (show (Addr.add _ _).block ≠ _; rw [add_block]; first | exact far_ hw105_0 GW111.out | exact far2_ hw105_0 GW111.out)) _).trans (((cell_far (p := ⟨gb111, _, none⟩) (by first | exact far_ hw105_0 GW111.out | (rw [add_block]; exact far_ hw105_0 GW111.out) | exact far2_ hw105_0 GW111.out | (rw [add_block]; exact far2_ hw105_0 GW111.out) | (show (Addr.add _ _).block ≠ _; rw [add_block]; first | exact far_ hw105_0 GW111.out | exact far2_ hw105_0 GW111.out)) _).trans (((cell_far (p := ⟨gb111, _, none⟩) (by first | exact far_ hw105_0 GW111.out | (rw [add_block]; exact far_ hw105_0 GW111.out) | exact far2_ hw105_0 GW111.out | (rw [add_block]; exact far2_ hw105_0 GW111.out) | (show (Addr.add _ _).block ≠ _; rw [add_block]; first | exact far_ hw105_0 GW111.out | exact far2_ hw105_0 GW111.out)) _).trans (((cell_far (p := ⟨gb111, _, none⟩) (by first | exact far_ hw105_0 GW111.out | (rw [add_block]; exact far_ hw105_0 GW111.out) | exact far2_ hw105_0 GW111.out | (rw [add_block]; exact far2_ hw105_0 GW111.out) | (show (Addr.add _ _).block ≠ _; rw [add_block]; first | exact far_ hw105_0 GW111.out | exact far2_ hw105_0 GW111.out)) _).trans (((cell_far (p := ⟨gb111, _, none⟩) (by first | exact far_ hw105_0 GW111.out | (rw [add_block]; exact far_ hw105_0 GW111.out) | exact far2_ hw105_0 GW111.out | (rw [add_block]; exact far2_ hw105_0 GW111.out) | (show (Addr.add _ _).block ≠ _; rw [add_block]; first | exact far_ hw105_0 GW111.out | exact far2_ hw105_0 GW111.out)) _).trans (((cell_far (p := ⟨gb111, _, none⟩) (by first | exact far_ hw105_0 GW111.out | (rw [add_block]; exact far_ hw105_0 GW111.out) | exact far2_ hw105_0 GW111.out | (rw [add_block]; exact far2_ hw105_0 GW111.out) | (show (Addr.add _ _).block ≠ _; rw [add_block]; first | exact far_ hw105_0 GW111.out | exact far2_ hw105_0 GW111.out)) _).trans (hHeld.1)))))))))))), ((cell_far (p := ⟨gb111, _, none⟩) (by first | exact far_ hw105_1 GW111.out | (rw [add_block]; exact far_ hw105_1 GW111.out) | exact far2_ hw105_1 GW111.out | (rw [add_block]; exact far2_ hw105_1 GW111.out) | (show (Addr.add _ _).block ≠ _; rw [add_block]; first | exact far_ hw105_1 GW111.out | exact far2_ hw105_1 GW111.out)) _).trans (((cell_far (p := ⟨gb111, _, none⟩) (by first | exact far_ hw105_1 GW111.out | (rw [add_block]; exact far_ hw105_1 GW111.out) | exact far2_ hw105_1 GW111.out | (rw [add_block]; exact far2_ hw105_1 GW111.out) | (show (Addr.add _ _).block ≠ _; rw [add_block]; first | exact far_ hw105_1 GW111.out | exact far2_ hw105_1 GW111.out)) _).trans (((cell_far (p := ⟨gb111, _, none⟩) (by first | exact far_ hw105_1 GW111.out | (rw [add_block]; exact far_ hw105_1 GW111.out) | exact far2_ hw105_1 GW111.out | (rw [add_block]; exact far2_ hw105_1 GW111.out) | (show (Addr.add _ _).block ≠ _; rw [add_block]; first | exact far_ hw105_1 GW111.out | exact far2_ hw105_1 GW111.out)) _).trans (((cell_far (p := ⟨gb111, _, none⟩) (by first | exact far_ hw105_1 GW111.out | (rw [add_block]; exact far_ hw105_1 GW111.out) | exact far2_ hw105_1 GW111.out | (rw [add_block]; exact far2_ hw105_1 GW111.out) | (show (Addr.add _ _).block ≠ _; rw [add_block]; first | exact far_ hw105_1 GW111.out | exact far2_ hw105_1 GW111.out)) _).trans (((cell_far (p := ⟨gb111, _, none⟩) (by first | exact far_ hw105_1 GW111.out | (rw [add_block]; exact far_ hw105_1 GW111.out) | exact far2_ hw105_1 GW111.out | (rw [add_block]; exact far2_ hw105_1 GW111.out) | (show (Addr.add _ _).block ≠ _; rw [add_block]; first | exact far_ hw105_1 GW111.out | exact far2_ hw105_1 GW111.out)) _).trans (((cell_far (p := ⟨gb111, _, none⟩) (by first | exact far_ hw105_1 GW111.out | (rw [add_block]; exact far_ hw105_1 GW111.out) | exact far2_ hw105_1 GW111.out | (rw [add_block]; exact far2_ hw105_1 GW111.out) | (show (Addr.add _ _).block ≠ _; rw [add_block]; first | exact far_ hw105_1 GW111.out | exact far2_ hw105_1 GW111.out)) _).trans (hHeld.2.1)))))))))))), ((cell_far (p := ⟨gb111, _, none⟩) (by first | exact far_ hw107_0 GW111.out | (rw [add_block]; exact far_ hw107_0 GW111.out) | exact far2_ hw107_0 GW111.out | (rw [add_block]; exact far2_ hw107_0 GW111.out) | (show (Addr.add _ _).block ≠ _; rw [add_block]; first | exact far_ hw107_0 GW111.out | exact far2_ hw107_0 GW111.out)) _).trans (((cell_far (p := ⟨gb111, _, none⟩) (by first | exact far_ hw107_0 GW111.out | (rw [add_block]; exact far_ hw107_0 GW111.out) | exact far2_ hw107_0 GW111.out | (rw [add_block]; exact far2_ hw107_0 GW111.out) | (show (Addr.add _ _).block ≠ _; rw [add_block]; first | exact far_ hw107_0 GW111.out | exact far2_ hw107_0 GW111.out)) _).trans (((cell_far (p := ⟨gb111, _, none⟩) (by first | exact far_ hw107_0 GW111.out | (rw [add_block]; exact far_ hw107_0 GW111.out) | exact far2_ hw107_0 GW111.out | (rw [add_block]; exact far2_ hw107_0 GW111.out) | (show (Addr.add _ _).block ≠ _; rw [add_block]; first | exact far_ hw107_0 GW111.out | exact far2_ hw107_0 GW111.out)) _).trans (((cell_far (p := ⟨gb111, _, none⟩) (by first | exact far_ hw107_0 GW111.out | (rw [add_block]; exact far_ hw107_0 GW111.out) | exact far2_ hw107_0 GW111.out | (rw [add_block]; exact far2_ hw107_0 GW111.out) | (show (Addr.add _ _).block ≠ _; rw [add_block]; first | exact far_ hw107_0 GW111.out | exact far2_ hw107_0 GW111.out)) _).trans (((cell_far (p := ⟨gb111, _, none⟩) (by first | exact far_ hw107_0 GW111.out | (rw [add_block]; exact far_ hw107_0 GW111.out) | exact far2_ hw107_0 GW111.out | (rw [add_block]; exact far2_ hw107_0 GW111.out) | (show (Addr.add _ _).block ≠ _; rw [add_block]; first | exact far_ hw107_0 GW111.out | exact far2_ hw107_0 GW111.out)) _).trans (((cell_far (p := ⟨gb111, _, none⟩) (by first | exact far_ hw107_0 GW111.out | (rw [add_block]; exact far_ hw107_0 GW111.out) | exact far2_ hw107_0 GW111.out | (rw [add_block]; exact far2_ hw107_0 GW111.out) | (show (Addr.add _ _).block ≠ _; rw [add_block]; first | exact far_ hw107_0 GW111.out | exact far2_ hw107_0 GW111.out)) _).trans (hHeld.2.2.1)))))))))))), ((cell_far (p := ⟨gb111, _, none⟩) (by first | exact far_ hw107_1 GW111.out | (rw [add_block]; exact far_ hw107_1 GW111.out) | exact far2_ hw107_1 GW111.out | (rw [add_block]; exact far2_ hw107_1 GW111.out) | (show (Addr.add _ _).block ≠ _; rw [add_block]; first | exact far_ hw107_1 GW111.out | exact far2_ hw107_1 GW111.out)) _).trans (((cell_far (p := ⟨gb111, _, none⟩) (by first | exact far_ hw107_1 GW111.out | (rw [add_block]; exact far_ hw107_1 GW111.out) | exact far2_ hw107_1 GW111.out | (rw [add_block]; exact far2_ hw107_1 GW111.out) | (show (Addr.add _ _).block ≠ _; rw [add_block]; first | exact far_ hw107_1 GW111.out | exact far2_ hw107_1 GW111.out)) _).trans (((cell_far (p := ⟨gb111, _, none⟩) (by first | exact far_ hw107_1 GW111.out | (rw [add_block]; exact far_ hw107_1 GW111.out) | exact far2_ hw107_1 GW111.out | (rw [add_block]; exact far2_ hw107_1 GW111.out) | (show (Addr.add _ _).block ≠ _; rw [add_block]; first | exact far_ hw107_1 GW111.out | exact far2_ hw107_1 GW111.out)) _).trans (((cell_far (p := ⟨gb111, _, none⟩) (by first | exact far_ hw107_1 GW111.out | (rw [add_block]; exact far_ hw107_1 GW111.out) | exact far2_ hw107_1 GW111.out | (rw [add_block]; exact far2_ hw107_1 GW111.out) | (show (Addr.add _ _).block ≠ _; rw [add_block]; first | exact far_ hw107_1 GW111.out | exact far2_ hw107_1 GW111.out)) _).trans (((cell_far (p := ⟨gb111, _, none⟩) (by first | exact far_ hw107_1 GW111.out | (rw [add_block]; exact far_ hw107_1 GW111.out) | exact far2_ hw107_1 GW111.out | (rw [add_block]; exact far2_ hw107_1 GW111.out) | (show (Addr.add _ _).block ≠ _; rw [add_block]; first | exact far_ hw107_1 GW111.out | exact far2_ hw107_1 GW111.out)) _).trans (((cell_far (p := ⟨gb111, _, none⟩) (by first | exact far_ hw107_1 GW111.out | (rw [add_block]; exact far_ hw107_1 GW111.out) | exact far2_ hw107_1 GW111.out | (rw [add_block]; exact far2_ hw107_1 GW111.out) | (show (Addr.add _ _).block ≠ _; rw [add_block]; first | exact far_ hw107_1 GW111.out | exact far2_ hw107_1 GW111.out)) _).trans (hHeld.2.2.2.1)))))))))))), ((cell_far (p := ⟨gb111, _, none⟩) (by first | exact far_ hw108_0 GW111.out | (rw [add_block]; exact far_ hw108_0 GW111.out) | exact far2_ hw108_0 GW111.out | (rw [add_block]; exact far2_ hw108_0 GW111.out) | (show (Addr.add _ _).block ≠ _; rw [add_block]; first | exact far_ hw108_0 GW111.out | exact far2_ hw108_0 GW111.out)) _).trans (((cell_far (p := ⟨gb111, _, none⟩) (by first | exact far_ hw108_0 GW111.out | (rw [add_block]; exact far_ hw108_0 GW111.out) | exact far2_ hw108_0 GW111.out | (rw [add_block]; exact far2_ hw108_0 GW111.out) | (show (Addr.add _ _).block ≠ _; rw [add_block]; first | exact far_ hw108_0 GW111.out | exact far2_ hw108_0 GW111.out)) _).trans (((cell_far (p := ⟨gb111, _, none⟩) (by first | exact far_ hw108_0 GW111.out | (rw [add_block]; exact far_ hw108_0 GW111.out) | exact far2_ hw108_0 GW111.out | (rw [add_block]; exact far2_ hw108_0 GW111.out) | (show (Addr.add _ _).block ≠ _; rw [add_block]; first | exact far_ hw108_0 GW111.out | exact far2_ hw108_0 GW111.out)) _).trans (((cell_far (p := ⟨gb111, _, none⟩) (by first | exact far_ hw108_0 GW111.out | (rw [add_block]; exact far_ hw108_0 GW111.out) | exact far2_ hw108_0 GW111.out | (rw [add_block]; exact far2_ hw108_0 GW111.out) | (show (Addr.add _ _).block ≠ _; rw [add_block]; first | exact far_ hw108_0 GW111.out | exact far2_ hw108_0 GW111.out)) _).trans (((cell_far (p := ⟨gb111, _, none⟩) (by first | exact far_ hw108_0 GW111.out | (rw [add_block]; exact far_ hw108_0 GW111.out) | exact far2_ hw108_0 GW111.out | (rw [add_block]; exact far2_ hw108_0 GW111.out) | (show (Addr.add _ _).block ≠ _; rw [add_block]; first | exact far_ hw108_0 GW111.out | exact far2_ hw108_0 GW111.out)) _).trans (((cell_far (p := ⟨gb111, _, none⟩) (by first | exact far_ hw108_0 GW111.out | (rw [add_block]; exact far_ hw108_0 GW111.out) | exact far2_ hw108_0 GW111.out | (rw [add_block]; exact far2_ hw108_0 GW111.out) | (show (Addr.add _ _).block ≠ _; rw [add_block]; first | exact far_ hw108_0 GW111.out | exact far2_ hw108_0 GW111.out)) _).trans (hHeld.2.2.2.2.1)))))))))))), ((cell_far (p := ⟨gb111, _, none⟩) (by first | exact far_ hw108_1 GW111.out | (rw [add_block]; exact far_ hw108_1 GW111.out) | exact far2_ hw108_1 GW111.out | (rw [add_block]; exact far2_ hw108_1 GW111.out) | (show (Addr.add _ _).block ≠ _; rw [add_block]; first | exact far_ hw108_1 GW111.out | exact far2_ hw108_1 GW111.out)) _).trans (((cell_far (p := ⟨gb111, _, none⟩) (by first | exact far_ hw108_1 GW111.out | (rw [add_block]; exact far_ hw108_1 GW111.out) | exact far2_ hw108_1 GW111.out | (rw [add_block]; exact far2_ hw108_1 GW111.out) | (show (Addr.add _ _).block ≠ _; rw [add_block]; first | exact far_ hw108_1 GW111.out | exact far2_ hw108_1 GW111.out)) _).trans (((cell_far (p := ⟨gb111, _, none⟩) (by first | exact far_ hw108_1 GW111.out | (rw [add_block]; exact far_ hw108_1 GW111.out) | exact far2_ hw108_1 GW111.out | (rw [add_block]; exact far2_ hw108_1 GW111.out) | (show (Addr.add _ _).block ≠ _; rw [add_block]; first | exact far_ hw108_1 GW111.out | exact far2_ hw108_1 GW111.out)) _).trans (((cell_far (p := ⟨gb111, _, none⟩) (by first | exact far_ hw108_1 GW111.out | (rw [add_block]; exact far_ hw108_1 GW111.out) | exact far2_ hw108_1 GW111.out | (rw [add_block]; exact far2_ hw108_1 GW111.out) | (show (Addr.add _ _).block ≠ _; rw [add_block]; first | exact far_ hw108_1 GW111.out | exact far2_ hw108_1 GW111.out)) _).trans (((cell_far (p := ⟨gb111, _, none⟩) (by first | exact far_ hw108_1 GW111.out | (rw [add_block]; exact far_ hw108_1 GW111.out) | exact far2_ hw108_1 GW111.out | (rw [add_block]; exact far2_ hw108_1 GW111.out) | (show (Addr.add _ _).block ≠ _; rw [add_block]; first | exact far_ hw108_1 GW111.out | exact far2_ hw108_1 GW111.out)) _).trans (((cell_far (p := ⟨gb111, _, none⟩) (by first | exact far_ hw108_1 GW111.out | (rw [add_block]; exact far_ hw108_1 GW111.out) | exact far2_ hw108_1 GW111.out | (rw [add_block]; exact far2_ hw108_1 GW111.out) | (show (Addr.add _ _).block ≠ _; rw [add_block]; first | exact far_ hw108_1 GW111.out | exact far2_ hw108_1 GW111.out)) _).trans (hHeld.2.2.2.2.2.1)))))))))))), ((cell_far (p := ⟨gb111, _, none⟩) (by first | exact far_ hw109_0 GW111.out | (rw [add_block]; exact far_ hw109_0 GW111.out) | exact far2_ hw109_0 GW111.out | (rw [add_block]; exact far2_ hw109_0 GW111.out) | (show (Addr.add _ _).block ≠ _; rw [add_block]; first | exact far_ hw109_0 GW111.out | exact far2_ hw109_0 GW111.out)) _).trans (((cell_far (p := ⟨gb111, _, none⟩) (by first | exact far_ hw109_0 GW111.out | (rw [add_block]; exact far_ hw109_0 GW111.out) | exact far2_ hw109_0 GW111.out | (rw [add_block]; exact far2_ hw109_0 GW111.out) | (show (Addr.add _ _).block ≠ _; rw [add_block]; first | exact far_ hw109_0 GW111.out | exact far2_ hw109_0 GW111.out)) _).trans (((cell_far (p := ⟨gb111, _, none⟩) (by first | exact far_ hw109_0 GW111.out | (rw [add_block]; exact far_ hw109_0 GW111.out) | exact far2_ hw109_0 GW111.out | (rw [add_block]; exact far2_ hw109_0 GW111.out) | (show (Addr.add _ _).block ≠ _; rw [add_block]; first | exact far_ hw109_0 GW111.out | exact far2_ hw109_0 GW111.out)) _).trans (((cell_far (p := ⟨gb111, _, none⟩) (by first | exact far_ hw109_0 GW111.out | (rw [add_block]; exact far_ hw109_0 GW111.out) | exact far2_ hw109_0 GW111.out | (rw [add_block]; exact far2_ hw109_0 GW111.out) | (show (Addr.add _ _).block ≠ _; rw [add_block]; first | exact far_ hw109_0 GW111.out | exact far2_ hw109_0 GW111.out)) _).trans (((cell_far (p := ⟨gb111, _, none⟩) (by first | exact far_ hw109_0 GW111.out | (rw [add_block]; exact far_ hw109_0 GW111.out) | exact far2_ hw109_0 GW111.out | (rw [add_block]; exact far2_ hw109_0 GW111.out) | (show (Addr.add _ _).block ≠ _; rw [add_block]; first | exact far_ hw109_0 GW111.out | exact far2_ hw109_0 GW111.out)) _).trans (((cell_far (p := ⟨gb111, _, none⟩) (by first | exact far_ hw109_0 GW111.out | (rw [add_block]; exact far_ hw109_0 GW111.out) | exact far2_ hw109_0 GW111.out | (rw [add_block]; exact far2_ hw109_0 GW111.out) | (show (Addr.add _ _).block ≠ _; rw [add_block]; first | exact far_ hw109_0 GW111.out | exact far2_ hw109_0 GW111.out)) _).trans (hHeld.2.2.2.2.2.2.1)))))))))))), ((cell_far (p := ⟨gb111, _, none⟩) (by first | exact far_ hw109_1 GW111.out | (rw [add_block]; exact far_ hw109_1 GW111.out) | exact far2_ hw109_1 GW111.out | (rw [add_block]; exact far2_ hw109_1 GW111.out) | (show (Addr.add _ _).block ≠ _; rw [add_block]; first | exact far_ hw109_1 GW111.out | exact far2_ hw109_1 GW111.out)) _).trans (((cell_far (p := ⟨gb111, _, none⟩) (by first | exact far_ hw109_1 GW111.out | (rw [add_block]; exact far_ hw109_1 GW111.out) | exact far2_ hw109_1 GW111.out | (rw [add_block]; exact far2_ hw109_1 GW111.out) | (show (Addr.add _ _).block ≠ _; rw [add_block]; first | exact far_ hw109_1 GW111.out | exact far2_ hw109_1 GW111.out)) _).trans (((cell_far (p := ⟨gb111, _, none⟩) (by first | exact far_ hw109_1 GW111.out | (rw [add_block]; exact far_ hw109_1 GW111.out) | exact far2_ hw109_1 GW111.out | (rw [add_block]; exact far2_ hw109_1 GW111.out) | (show (Addr.add _ _).block ≠ _; rw [add_block]; first | exact far_ hw109_1 GW111.out | exact far2_ hw109_1 GW111.out)) _).trans (((cell_far (p := ⟨gb111, _, none⟩) (by first | exact far_ hw109_1 GW111.out | (rw [add_block]; exact far_ hw109_1 GW111.out) | exact far2_ hw109_1 GW111.out | (rw [add_block]; exact far2_ hw109_1 GW111.out) | (show (Addr.add _ _).block ≠ _; rw [add_block]; first | exact far_ hw109_1 GW111.out | exact far2_ hw109_1 GW111.out)) _).trans (((cell_far (p := ⟨gb111, _, none⟩) (by first | exact far_ hw109_1 GW111.out | (rw [add_block]; exact far_ hw109_1 GW111.out) | exact far2_ hw109_1 GW111.out | (rw [add_block]; exact far2_ hw109_1 GW111.out) | (show (Addr.add _ _).block ≠ _; rw [add_block]; first | exact far_ hw109_1 GW111.out | exact far2_ hw109_1 GW111.out)) _).trans (((cell_far (p := ⟨gb111, _, none⟩) (by first | exact far_ hw109_1 GW111.out | (rw [add_block]; exact far_ hw109_1 GW111.out) | exact far2_ hw109_1 GW111.out | (rw [add_block]; exact far2_ hw109_1 GW111.out) | (show (Addr.add _ _).block ≠ _; rw [add_block]; first | exact far_ hw109_1 GW111.out | exact far2_ hw109_1 GW111.out)) _).trans (hHeld.2.2.2.2.2.2.2.1)))))))))))), ((cell_far (p := ⟨gb111, _, none⟩) (by first | exact far_ hw110_0 GW111.out | (rw [add_block]; exact far_ hw110_0 GW111.out) | exact far2_ hw110_0 GW111.out | (rw [add_block]; exact far2_ hw110_0 GW111.out) | (show (Addr.add _ _).block ≠ _; rw [add_block]; first | exact far_ hw110_0 GW111.out | exact far2_ hw110_0 GW111.out)) _).trans (((cell_far (p := ⟨gb111, _, none⟩) (by first | exact far_ hw110_0 GW111.out | (rw [add_block]; exact far_ hw110_0 GW111.out) | exact far2_ hw110_0 GW111.out | (rw [add_block]; exact far2_ hw110_0 GW111.out) | (show (Addr.add _ _).block ≠ _; rw [add_block]; first | exact far_ hw110_0 GW111.out | exact far2_ hw110_0 GW111.out)) _).trans (((cell_far (p := ⟨gb111, _, none⟩) (by first | exact far_ hw110_0 GW111.out | (rw [add_block]; exact far_ hw110_0 GW111.out) | exact far2_ hw110_0 GW111.out | (rw [add_block]; exact far2_ hw110_0 GW111.out) | (show (Addr.add _ _).block ≠ _; rw [add_block]; first | exact far_ hw110_0 GW111.out | exact far2_ hw110_0 GW111.out)) _).trans (((cell_far (p := ⟨gb111, _, none⟩) (by first | exact far_ hw110_0 GW111.out | (rw [add_block]; exact far_ hw110_0 GW111.out) | exact far2_ hw110_0 GW111.out | (rw [add_block]; exact far2_ hw110_0 GW111.out) | (show (Addr.add _ _).block ≠ _; rw [add_block]; first | exact far_ hw110_0 GW111.out | exact far2_ hw110_0 GW111.out)) _).trans (((cell_far (p := ⟨gb111, _, none⟩) (by first | exact far_ hw110_0 GW111.out | (rw [add_block]; exact far_ hw110_0 GW111.out) | exact far2_ hw110_0 GW111.out | (rw [add_block]; exact far2_ hw110_0 GW111.out) | (show (Addr.add _ _).block ≠ _; rw [add_block]; first | exact far_ hw110_0 GW111.out | exact far2_ hw110_0 GW111.out)) _).trans (((cell_far (p := ⟨gb111, _, none⟩) (by first | exact far_ hw110_0 GW111.out | (rw [add_block]; exact far_ hw110_0 GW111.out) | exact far2_ hw110_0 GW111.out | (rw [add_block]; exact far2_ hw110_0 GW111.out) | (show (Addr.add _ _).block ≠ _; rw [add_block]; first | exact far_ hw110_0 GW111.out | exact far2_ hw110_0 GW111.out)) _).trans (hHeld.2.2.2.2.2.2.2.2.1)))))))))))), ((cell_far (p := ⟨gb111, _, none⟩) (by first | exact far_ hw110_1 GW111.out | (rw [add_block]; exact far_ hw110_1 GW111.out) | exact far2_ hw110_1 GW111.out | (rw [add_block]; exact far2_ hw110_1 GW111.out) | (show (Addr.add _ _).block ≠ _; rw [add_block]; first | exact far_ hw110_1 GW111.out | exact far2_ hw110_1 GW111.out)) _).trans (((cell_far (p := ⟨gb111, _, none⟩) (by first | exact far_ hw110_1 GW111.out | (rw [add_block]; exact far_ hw110_1 GW111.out) | exact far2_ hw110_1 GW111.out | (rw [add_block]; exact far2_ hw110_1 GW111.out) | (show (Addr.add _ _).block ≠ _; rw [add_block]; first | exact far_ hw110_1 GW111.out | exact far2_ hw110_1 GW111.out)) _).trans (((cell_far (p := ⟨gb111, _, none⟩) (by first | exact far_ hw110_1 GW111.out | (rw [add_block]; exact far_ hw110_1 GW111.out) | exact far2_ hw110_1 GW111.out | (rw [add_block]; exact far2_ hw110_1 GW111.out) | (show (Addr.add _ _).block ≠ _; rw [add_block]; first | exact far_ hw110_1 GW111.out | exact far2_ hw110_1 GW111.out)) _).trans (((cell_far (p := ⟨gb111, _, none⟩) (by first | exact far_ hw110_1 GW111.out | (rw [add_block]; exact far_ hw110_1 GW111.out) | exact far2_ hw110_1 GW111.out | (rw [add_block]; exact far2_ hw110_1 GW111.out) | (show (Addr.add _ _).block ≠ _; rw [add_block]; first | exact far_ hw110_1 GW111.out | exact far2_ hw110_1 GW111.out)) _).trans (((cell_far (p := ⟨gb111, _, none⟩) (by first | exact far_ hw110_1 GW111.out | (rw [add_block]; exact far_ hw110_1 GW111.out) | exact far2_ hw110_1 GW111.out | (rw [add_block]; exact far2_ hw110_1 GW111.out) | (show (Addr.add _ _).block ≠ _; rw [add_block]; first | exact far_ hw110_1 GW111.out | exact far2_ hw110_1 GW111.out)) _).trans (((cell_far (p := ⟨gb111, _, none⟩) (by first | exact far_ hw110_1 GW111.out | (rw [add_block]; exact far_ hw110_1 GW111.out) | exact far2_ hw110_1 GW111.out | (rw [add_block]; exact far2_ hw110_1 GW111.out) | (show (Addr.add _ _).block ≠ _; rw [add_block]; first | exact far_ hw110_1 GW111.out | exact far2_ hw110_1 GW111.out)) _).trans (hHeld.2.2.2.2.2.2.2.2.2))))))))))))⟩ (fun hHeld => ?_)
                            clear hK K
                            refine done_ (done_of HT_.out (by kernel_rfl)) ?_
                            obtain ⟨Ao46, co46, eo46⟩ := Kd.R_slice HO_7.out
                            subst eo46
                            try go_wp2
                            have n0_ : Aside0 (Kd.R k52 52 ((((((w39.setCell ⟨gb111, 0, none⟩ (.int .i64 t106)).setCell ⟨gb111, 1, none⟩ (.int .i64 1)).setCell ⟨gb111, 2, none⟩ (.int .i64 ((rd_T41 l0 x8_2).f1))).setCell ⟨gb111, 3, none⟩ (.int .i64 ((rd_T41 l0 x8_2).f1))).setCell ⟨gb111, 4, none⟩ (.int .i64 ((rd_T41 l0 x8_2).f1))).setCell ⟨gb111, 5, none⟩ (.int .i64 ((rd_T41 l0 x8_2).f1))) w.heap.size (fun k_ => k_ ≠ gb111) (.slice Ao46 x7_2.length co46) x7_2) := ⟨by (with_reducible repeat (first | apply Kd.R_alloc | apply Kd.R_drewN | apply Kd.R_drew)); exact Kd.R_mono (Kd.R_far (p := ⟨gb111, 5, none⟩) (Kd.R_far (p := ⟨gb111, 4, none⟩) (Kd.R_far (p := ⟨gb111, 3, none⟩) (Kd.R_far (p := ⟨gb111, 2, none⟩) (Kd.R_far (p := ⟨gb111, 1, none⟩) (Kd.R_far (p := ⟨gb111, 0, none⟩) (Kd.R_mono HO_7.out (fun k_ hk => (⟨hk, hk⟩ : _ ∧ k_ ≠ gb111))) (fun _ hk => hk.2) (.int .i64 t106)) (fun _ hk => hk.2) (.int .i64 1)) (fun _ hk => hk.2) (.int .i64 ((rd_T41 l0 x8_2).f1))) (fun _ hk => hk.2) (.int .i64 ((rd_T41 l0 x8_2).f1))) (fun _ hk => hk.2) (.int .i64 ((rd_T41 l0 x8_2).f1))) (fun _ hk => hk.2) (.int .i64 ((rd_T41 l0 x8_2).f1))) (fun _ hk => hk.1)⟩
                            have n1_ : Aside0 (((((((w39.setCell ⟨gb111, 0, none⟩ (.int .i64 t106)).setCell ⟨gb111, 1, none⟩ (.int .i64 1)).setCell ⟨gb111, 2, none⟩ (.int .i64 ((rd_T41 l0 x8_2).f1))).setCell ⟨gb111, 3, none⟩ (.int .i64 ((rd_T41 l0 x8_2).f1))).setCell ⟨gb111, 4, none⟩ (.int .i64 ((rd_T41 l0 x8_2).f1))).setCell ⟨gb111, 5, none⟩ (.int .i64 ((rd_T41 l0 x8_2).f1))).heap[gb111]? = some (.cells #[.int .i64 t106, .int .i64 1, .int .i64 ((rd_T41 l0 x8_2).f1), .int .i64 ((rd_T41 l0 x8_2).f1), .int .i64 ((rd_T41 l0 x8_2).f1), .int .i64 ((rd_T41 l0 x8_2).f1)] 52 (0, 0))) := ⟨by (with_reducible repeat (first | refine blk_drewN ?_ _ | refine blk_drew ?_ | refine blk_alloc ?_ _)); refine blk_put (cs := #[.int .i64 t106, .int .i64 1, .int .i64 ((rd_T41 l0 x8_2).f1), .int .i64 ((rd_T41 l0 x8_2).f1), .int .i64 ((rd_T41 l0 x8_2).f1), .int .i64 0]) ?_ 5 _ rfl; (with_reducible repeat (first | refine blk_drewN ?_ _ | refine blk_drew ?_ | refine blk_alloc ?_ _)); refine blk_put (cs := #[.int .i64 t106, .int .i64 1, .int .i64 ((rd_T41 l0 x8_2).f1), .int .i64 ((rd_T41 l0 x8_2).f1), .int .i64 0, .int .i64 0]) ?_ 4 _ rfl; (with_reducible repeat (first | refine blk_drewN ?_ _ | refine blk_drew ?_ | refine blk_alloc ?_ _)); refine blk_put (cs := #[.int .i64 t106, .int .i64 1, .int .i64 ((rd_T41 l0 x8_2).f1), .int .i64 0, .int .i64 0, .int .i64 0]) ?_ 3 _ rfl; (with_reducible repeat (first | refine blk_drewN ?_ _ | refine blk_drew ?_ | refine blk_alloc ?_ _)); refine blk_put (cs := #[.int .i64 t106, .int .i64 1, .int .i64 0, .int .i64 0, .int .i64 0, .int .i64 0]) ?_ 2 _ rfl; (with_reducible repeat (first | refine blk_drewN ?_ _ | refine blk_drew ?_ | refine blk_alloc ?_ _)); refine blk_put (cs := #[.int .i64 t106, .int .i64 0, .int .i64 0, .int .i64 0, .int .i64 0, .int .i64 0]) ?_ 1 _ rfl; (with_reducible repeat (first | refine blk_drewN ?_ _ | refine blk_drew ?_ | refine blk_alloc ?_ _)); refine blk_put (cs := #[.int .i64 0, .int .i64 0, .int .i64 0, .int .i64 0, .int .i64 0, .int .i64 0]) ?_ 0 _ rfl; (with_reducible repeat (first | refine blk_drewN ?_ _ | refine blk_drew ?_ | refine blk_alloc ?_ _)); exact BK111.out⟩
                            have n2_ : Aside0 (Below w.heap.size w ((((((w39.setCell ⟨gb111, 0, none⟩ (.int .i64 t106)).setCell ⟨gb111, 1, none⟩ (.int .i64 1)).setCell ⟨gb111, 2, none⟩ (.int .i64 ((rd_T41 l0 x8_2).f1))).setCell ⟨gb111, 3, none⟩ (.int .i64 ((rd_T41 l0 x8_2).f1))).setCell ⟨gb111, 4, none⟩ (.int .i64 ((rd_T41 l0 x8_2).f1))).setCell ⟨gb111, 5, none⟩ (.int .i64 ((rd_T41 l0 x8_2).f1)))) := ⟨by repeat (first | (with_reducible first | exact HB.out | apply below_alloc | apply pw_below_drewN | apply below_drew1 | refine below_set ?_ GE111.out) | exact HB.out)⟩
                            (try clear HO_7)
                            (try clear BK111)
                            (try clear HB)
                            generalize ((((((w39.setCell ⟨gb111, 0, none⟩ (.int .i64 t106)).setCell ⟨gb111, 1, none⟩ (.int .i64 1)).setCell ⟨gb111, 2, none⟩ (.int .i64 ((rd_T41 l0 x8_2).f1))).setCell ⟨gb111, 3, none⟩ (.int .i64 ((rd_T41 l0 x8_2).f1))).setCell ⟨gb111, 4, none⟩ (.int .i64 ((rd_T41 l0 x8_2).f1))).setCell ⟨gb111, 5, none⟩ (.int .i64 ((rd_T41 l0 x8_2).f1))) = w47 at n0_ n1_ n2_ ⊢
                            have HO_7 := n0_
                            have BK111 := n1_
                            have HB := n2_
                            clear n0_ n1_ n2_
                            have n0_ := Aside0.mk (Kd.R_drew HO_7.out)
                            have n1_ := Aside0.mk (blk_drew BK111.out)
                            have n2_ := Aside0.mk (below_drew1 HB.out)
                            clear HO_7
                            clear BK111
                            clear HB
                            have HO_7 := n0_
                            have BK111 := n1_
                            have HB := n2_
                            clear n0_ n1_ n2_
                            have p112 : 0 ≤ ((ji15) : Int) := of_decide_eq_true (by first | (with_reducible assumption) | assumption)
                            have q112 : (ji15) < (x7_2.length : Int) := of_decide_eq_true (by first | (with_reducible assumption) | assumption)
                            obtain ⟨ad112, e112, hx112_0, hx112_1, hx112_2, hx112_3, hx112_4, hx112_5⟩ := at_T52 (Kd.R_reads' HO_7.out).2.2 (ji15) p112 q112
                            cases e112
                            replace p112 := eq_true p112
                            replace q112 := eq_true q112
                            refine start_ (n := 13) (S := fun w' => w'.cell? ⟨gb111, 0, none⟩ = some (.int .i64 t106) ∧ w'.cell? ⟨gb111, 1, none⟩ = some (.int .i64 1) ∧ w'.cell? ⟨gb111, 2, none⟩ = some (.int .i64 ((rd_T41 l0 x8_2).f1)) ∧ w'.cell? ⟨gb111, 3, none⟩ = some (.int .i64 ((rd_T41 l0 x8_2).f1)) ∧ w'.cell? ⟨gb111, 4, none⟩ = some (.int .i64 ((rd_T41 l0 x8_2).f1)) ∧ w'.cell? ⟨gb111, 5, none⟩ = some (.int .i64 ((rd_T41 l0 x8_2).f1)) ∧ w'.cell? (ad112.add (((ji15)).toNat * 6)) = some (.int .i64 ((rd_T52 x7_2 (ji15)).f0)) ∧ w'.cell? ⟨(ad112.add (((ji15)).toNat * 6)).block, (ad112.add (((ji15)).toNat * 6)).off + 1, none⟩ = some (.int .i64 ((rd_T52 x7_2 (ji15)).f1)) ∧ w'.cell? ⟨(ad112.add (((ji15)).toNat * 6)).block, (ad112.add (((ji15)).toNat * 6)).off + 2, none⟩ = some (.int .i64 ((rd_T52 x7_2 (ji15)).f2)) ∧ w'.cell? ⟨(ad112.add (((ji15)).toNat * 6)).block, (ad112.add (((ji15)).toNat * 6)).off + 3, none⟩ = some (.int .i64 ((rd_T52 x7_2 (ji15)).f3)) ∧ w'.cell? ⟨(ad112.add (((ji15)).toNat * 6)).block, (ad112.add (((ji15)).toNat * 6)).off + 4, none⟩ = some (.int .i64 ((rd_T52 x7_2 (ji15)).f4)) ∧ w'.cell? ⟨(ad112.add (((ji15)).toNat * 6)).block, (ad112.add (((ji15)).toNat * 6)).off + 5, none⟩ = some (.int .i64 ((rd_T52 x7_2 (ji15)).f5))) (ds := []) #[false, false, false, false, false, false, false, false, false, false, false, false, false] (by kernel_rfl) rfl rfl ⟨(blk_cell BK111.out 0).trans rfl, (blk_cell BK111.out 1).trans rfl, (blk_cell BK111.out 2).trans rfl, (blk_cell BK111.out 3).trans rfl, (blk_cell BK111.out 4).trans rfl, (blk_cell BK111.out 5).trans rfl, hx112_0, hx112_1, hx112_2, hx112_3, hx112_4, hx112_5⟩ (fun hHeld => ?_); refine with_tabW lysimeterref16_Buckets.tab12 lysimeterref16_Buckets.bits12 (fun HT_ HW_ => ?_)
                            generalize w47.drew = w48 at HO_7 BK111 HB hx112_0 hx112_1 hx112_2 hx112_3 hx112_4 hx112_5 hHeld ⊢
                            refine pure_ (i := 0) (N := some 58) (v := ?_) (a' := ?_) #[true, false, false, false, false, false, false, false, false, false, false, false, false] rfl rfl (any_of HT_.out (by kernel_rfl)) (fun _ _ _ h => h) (Or.inl ⟨by rfl, ?_⟩) ?_ ?_
                            rotate_left
                            · intro w'
                              go_simp
                              with_reducible rfl
                            rotate_left
                            · simp only [Act.put, List.setIfInBounds_toArray, List.set_cons_zero, List.set_cons_succ, i64_w, i32_w]
                              rfl
                            refine pure_ (i := 1) (N := some 59) (v := ?_) (a' := ?_) #[true, true, false, false, false, false, false, false, false, false, false, false, false] rfl rfl (any_of HT_.out (by kernel_rfl)) (fun _ _ _ h => h) (Or.inl ⟨by rfl, ?_⟩) ?_ ?_
                            rotate_left
                            · intro w'
                              go_simp
                              with_reducible rfl
                            rotate_left
                            · simp only [Act.put, List.setIfInBounds_toArray, List.set_cons_zero, List.set_cons_succ, i64_w, i32_w]
                              rfl
                            refine pure_ (i := 2) (N := some 60) (v := ?_) (a' := ?_) #[true, true, true, false, false, false, false, false, false, false, false, false, false] rfl rfl (any_of HT_.out (by kernel_rfl)) (fun _ _ _ h => h) (Or.inl ⟨by rfl, ?_⟩) ?_ ?_
                            rotate_left
                            · intro w'
                              go_simp
                              with_reducible rfl
                            rotate_left
                            · simp only [Act.put, List.setIfInBounds_toArray, List.set_cons_zero, List.set_cons_succ, i64_w, i32_w]
                              rfl
                            refine pure_ (i := 3) (N := some 61) (v := ?_) (a' := ?_) #[true, true, true, true, false, false, false, false, false, false, false, false, false] rfl rfl (any_of HT_.out (by kernel_rfl)) (fun _ _ _ h => h) (Or.inl ⟨by rfl, ?_⟩) ?_ ?_
                            rotate_left
                            · intro w'
                              go_simp
                              with_reducible rfl
                            rotate_left
                            · simp only [Act.put, List.setIfInBounds_toArray, List.set_cons_zero, List.set_cons_succ, i64_w, i32_w]
                              rfl
                            refine pure_ (i := 4) (N := some 62) (v := ?_) (a' := ?_) #[true, true, true, true, true, false, false, false, false, false, false, false, false] rfl rfl (any_of HT_.out (by kernel_rfl)) (fun _ _ _ h => h) (Or.inl ⟨by rfl, ?_⟩) ?_ ?_
                            rotate_left
                            · intro w'
                              go_simp
                              with_reducible rfl
                            rotate_left
                            · simp only [Act.put, List.setIfInBounds_toArray, List.set_cons_zero, List.set_cons_succ, i64_w, i32_w]
                              rfl
                            refine pure_ (i := 5) (N := some 63) (v := ?_) (a' := ?_) #[true, true, true, true, true, true, false, false, false, false, false, false, false] rfl rfl (any_of HT_.out (by kernel_rfl)) (fun _ _ _ h => h) (Or.inl ⟨by rfl, ?_⟩) ?_ ?_
                            rotate_left
                            · intro w'
                              go_simp
                              with_reducible rfl
                            rotate_left
                            · simp only [Act.put, List.setIfInBounds_toArray, List.set_cons_zero, List.set_cons_succ, i64_w, i32_w]
                              rfl
                            refine pure_ (i := 6) (N := some 64) (v := ?_) (a' := ?_) #[true, true, true, true, true, true, true, false, false, false, false, false, false] rfl rfl (any_of HT_.out (by kernel_rfl)) (fun _ _ _ h => h) (Or.inl ⟨by rfl, ?_⟩) ?_ ?_
                            rotate_left
                            · intro w'
                              go_simp
                              with_reducible rfl
                            rotate_left
                            · simp only [Act.put, List.setIfInBounds_toArray, List.set_cons_zero, List.set_cons_succ, i64_w, i32_w]
                              rfl
                            refine pure_ (i := 7) (N := some 65) (v := ?_) (a' := ?_) #[true, true, true, true, true, true, true, true, false, false, false, false, false] rfl rfl (any_of HT_.out (by kernel_rfl)) (fun _ _ _ h => h) (Or.inl ⟨by rfl, ?_⟩) ?_ ?_
                            rotate_left
                            · intro w'
                              go_simp
                              with_reducible rfl
                            rotate_left
                            · simp only [Act.put, List.setIfInBounds_toArray, List.set_cons_zero, List.set_cons_succ, i64_w, i32_w]
                              rfl
                            refine pure_ (i := 9) (N := some 67) (v := ?_) (a' := ?_) #[true, true, true, true, true, true, true, true, false, true, false, false, false] rfl rfl (any_of HT_.out (by kernel_rfl)) (fun _ _ _ h => h) (Or.inl ⟨by rfl, ?_⟩) ?_ ?_
                            rotate_left
                            · intro w'
                              go_simp
                              with_reducible rfl
                            rotate_left
                            · simp only [Act.put, List.setIfInBounds_toArray, List.set_cons_zero, List.set_cons_succ, i64_w, i32_w]
                              rfl
                            refine take_ (i := 8) (N := some 66) (v := ?_) (a' := ?_) #[true, true, true, true, true, true, true, true, true, true, false, false, false] rfl rfl (take_ofW HT_.out HW_.out (by kernel_rfl)) (fun _ _ _ h => h) (Or.inl ⟨by rfl, ?_⟩) hHeld ?_ ?_
                            rotate_left
                            · rintro w' ⟨s0, s1, s2, s3, s4, s5, s6, s7, s8, s9, s10, s11⟩
                              go_simp
                              with_reducible rfl
                            rotate_left
                            · simp only [Act.put, List.setIfInBounds_toArray, List.set_cons_zero, List.set_cons_succ, i64_w, i32_w]
                              rfl
                            refine take_ (i := 10) (N := some 68) (v := ?_) (a' := ?_) #[true, true, true, true, true, true, true, true, true, true, true, false, false] rfl rfl (take_ofW HT_.out HW_.out (by kernel_rfl)) (fun _ _ _ h => h) (Or.inl ⟨by rfl, ?_⟩) hHeld ?_ ?_
                            rotate_left
                            · rintro w' ⟨s0, s1, s2, s3, s4, s5, s6, s7, s8, s9, s10, s11⟩
                              go_simp
                              with_reducible rfl
                            rotate_left
                            · simp only [Act.put, List.setIfInBounds_toArray, List.set_cons_zero, List.set_cons_succ, i64_w, i32_w]
                              rfl
                            refine pure_ (i := 11) (N := some 69) (v := ?_) (a' := ?_) #[true, true, true, true, true, true, true, true, true, true, true, true, false] rfl rfl (any_of HT_.out (by kernel_rfl)) (fun _ _ _ h => h) (Or.inl ⟨by rfl, ?_⟩) ?_ ?_
                            rotate_left
                            · intro w'
                              go_simp
                              with_reducible rfl
                            rotate_left
                            · simp only [Act.put, List.setIfInBounds_toArray, List.set_cons_zero, List.set_cons_succ, i64_w, i32_w]
                              rfl
                            refine pure_ (i := 12) (N := some 70) (v := ?_) (a' := ?_) #[true, true, true, true, true, true, true, true, true, true, true, true, true] rfl rfl (any_of HT_.out (by kernel_rfl)) (fun _ _ _ h => h) (Or.inl ⟨by rfl, ?_⟩) ?_ ?_
                            rotate_left
                            · intro w'
                              go_simp
                              with_reducible rfl
                            rotate_left
                            · simp only [Act.put, List.setIfInBounds_toArray, List.set_cons_zero, List.set_cons_succ, i64_w, i32_w]
                              rfl
                            refine done_ (done_of HT_.out (by kernel_rfl)) ?_
                            have hcz49_0 : w48.cell? ⟨gb111, 0, none⟩ = some (.int .i64 t106) := (blk_cell BK111.out 0).trans rfl
                            have hcz49_1 : w48.cell? ⟨gb111, 1, none⟩ = some (.int .i64 1) := (blk_cell BK111.out 1).trans rfl
                            have hcz49_2 : w48.cell? ⟨gb111, 2, none⟩ = some (.int .i64 ((rd_T41 l0 x8_2).f1)) := (blk_cell BK111.out 2).trans rfl
                            have hcz49_3 : w48.cell? ⟨gb111, 3, none⟩ = some (.int .i64 ((rd_T41 l0 x8_2).f1)) := (blk_cell BK111.out 3).trans rfl
                            have hcz49_4 : w48.cell? ⟨gb111, 4, none⟩ = some (.int .i64 ((rd_T41 l0 x8_2).f1)) := (blk_cell BK111.out 4).trans rfl
                            have hcz49_5 : w48.cell? ⟨gb111, 5, none⟩ = some (.int .i64 ((rd_T41 l0 x8_2).f1)) := (blk_cell BK111.out 5).trans rfl
                            have hfz49_0 := blk_frozen BK111.out 0
                            have hfz49_1 := blk_frozen BK111.out 1
                            have hfz49_2 := blk_frozen BK111.out 2
                            have hfz49_3 := blk_frozen BK111.out 3
                            have hfz49_4 := blk_frozen BK111.out 4
                            have hfz49_5 := blk_frozen BK111.out 5
                            try go_wp2_with (first | ((with_reducible refine gate_builtin (b := .append) (xs := #[.tmp 82, .tmp 84]) rfl ?_); at_builtin; refine Kd.R_append k52 (w0 := w) w.heap.size rfl (.tmp 82) (.tmp 84) 42 52 (.agg #[(.int .i64 0), (.int .i64 0), (.int .i64 0), (.int .i64 0), (.int .i64 0), (.int .i64 0)]) 48 rfl Try.underlying42 info52 rfl (by decide) (by omega) (.slice (some ad112) x7_2.length co46) x7_2 (⟨t106, 1, (rd_T41 l0 x8_2).f1, (rd_T41 l0 x8_2).f1, (rd_T41 l0 x8_2).f1, (rd_T41 l0 x8_2).f1⟩ : S52) [.int .i64 t106, .int .i64 1, .int .i64 ((rd_T41 l0 x8_2).f1), .int .i64 ((rd_T41 l0 x8_2).f1), .int .i64 ((rd_T41 l0 x8_2).f1), .int .i64 ((rd_T41 l0 x8_2).f1)] (fun k_ => k_ ≠ gb111) (fun _ => False) rfl rfl ?aP (fun _ hk => hk.elim) ?aF ?aO ?aB ?aS ?aL ?_; (case aP => exact k52_mkM _ _ _ (⟨t106, 1, (rd_T41 l0 x8_2).f1, (rd_T41 l0 x8_2).f1, (rd_T41 l0 x8_2).f1, (rd_T41 l0 x8_2).f1⟩ : S52)); (case aB => exact (by repeat (first | (with_reducible first | exact HB.out | apply below_alloc | apply pw_below_drewN | apply below_drew1 | refine below_set ?_ GE111.out) | exact HB.out))); (case aF => exact (fun k_ hk => Kd.freshB (g := gb111) (o := .cells #[.int .i64 t106, .int .i64 1, .int .i64 ((rd_T41 l0 x8_2).f1), .int .i64 ((rd_T41 l0 x8_2).f1), .int .i64 ((rd_T41 l0 x8_2).f1), .int .i64 ((rd_T41 l0 x8_2).f1)] 52 (0, 0)) (by (with_reducible repeat (first | refine blk_drewN ?_ _ | refine blk_drew ?_ | refine blk_alloc ?_ _)); exact BK111.out) k_ hk)); (case aO => exact (by (with_reducible repeat (first | apply Kd.R_alloc | apply Kd.R_drewN | apply Kd.R_drew)); exact HO_7.out)); (case aS => exact (below_size (by repeat (first | (with_reducible first | exact HB.out | apply below_alloc | apply pw_below_drewN | apply below_drew1 | refine below_set ?_ GE111.out) | exact HB.out)))); (case aL => have := LMc36.out; omega); intro v122 w50 ho hb hg hat; rw [← Ny121.out] at ho; have n0_ := Aside0.mk (blk_grown (g := gb111) (o := .cells #[.int .i64 t106, .int .i64 1, .int .i64 ((rd_T41 l0 x8_2).f1), .int .i64 ((rd_T41 l0 x8_2).f1), .int .i64 ((rd_T41 l0 x8_2).f1), .int .i64 ((rd_T41 l0 x8_2).f1)] 52 (0, 0)) (by (with_reducible repeat (first | refine blk_drewN ?_ _ | refine blk_drew ?_ | refine blk_alloc ?_ _)); exact BK111.out) hg (Kd.R_away HO_7.out (fun _ hk => hk))); have n1_ := Aside0.mk (hb); have n2_ := Aside0.mk (ho); clear BK111; clear HB; clear HO_7; have BK111 := n0_; have HB := n1_; have HO123 := n2_; clear n0_ n1_ n2_; clear ho hb hg hat))
                            go_roundg k2
                            case measure => have := HJ2.out; have := HK2.out; omega
                            case rel => exact ⟨(y121), (wrap64 (x8_2 + 1)), (by first | rfl | (simp; done) | (simp [*]; done)), H', ⟨by have := HJ2.out; have := HK2.out; omega⟩, ⟨by (with_reducible repeat (first | apply Kd.R_alloc | apply Kd.R_drewN | apply Kd.R_drew)); exact Kd.R_mono HO123.out (fun _ hk => trivial)⟩, ⟨by repeat (first | (with_reducible first | exact HB.out | apply below_alloc | apply pw_below_drewN | apply below_drew1 | refine below_set ?_ GE111.out) | exact HB.out)⟩⟩
                          · rw [if_neg c36] at H
                            exact absurd H (by simp)
                      · rw [if_neg c17] at H
                        exact absurd H (by simp)
                    · rw [if_neg c16] at H
                      exact absurd H (by simp)
                  · rw [if_neg c14] at H
                    have c14b0 : decide (0 < (x7_2.length : Int)) = false := decide_eq_false c14
                    have c14b1 : decide (0 < x7_2.length) = false := decide_eq_false (by omega)
                    clear c14
                    by_cases c51 : x7_2.length < 2932031007402
                    · rw [if_pos c51] at H
                      have LMc51 := Aside0.mk c51
                      clear c51
                      obtain ⟨y124, hy124⟩ : ∃ y_ : List (S52), y_ = (x7_2 ++ [(⟨t106, 1, (rd_T41 l0 x8_2).f1, (rd_T41 l0 x8_2).f1, (rd_T41 l0 x8_2).f1, (rd_T41 l0 x8_2).f1⟩ : S52)]) := ⟨_, rfl⟩
                      replace H : (lysimeterref16_Buckets.l0 k2 l0 a1 y124 (wrap64 (x8_2 + 1))) = some (r1, r2) := by first | (rw [hy124]; with_reducible exact H) | (have H2_ := (Option.bind_some _ _).symm.trans H; rw [hy124]; with_reducible exact H2_) | (have H2_ := (Option.bind_some _ _).symm.trans H; with_reducible exact H2_) | with_reducible exact H | (rw [hy124]; exact H) | exact H
                      have Ny124 := Aside0.mk hy124
                      clear hy124
                      have H' := Aside0.mk H
                      clear H
                      try go_wp2
                      have n0_ := Aside0.mk (Kd.R_drew HO_7.out)
                      have n1_ := Aside0.mk (below_drew1 HB.out)
                      clear HO_7
                      clear HB
                      have HO_7 := n0_
                      have HB := n1_
                      clear n0_ n1_
                      have p105 : 0 ≤ (x8_2 : Int) := of_decide_eq_true (by first | (with_reducible assumption) | assumption)
                      have q105 : x8_2 < (l0.length : Int) := of_decide_eq_true (by first | (with_reducible assumption) | assumption)
                      obtain ⟨ad105, e105, hx105_0, hx105_1⟩ := at_T41 HR0.out x8_2 p105 q105
                      have hw105_1 := hx105_1
                      have hw105_0 := hx105_0
                      cases e105
                      replace hx105_0 := (HB.out.cell (World.block_lt_of_cell? w _ hx105_0)).trans hx105_0
                      replace hx105_1 := (HB.out.cell (World.block_lt_of_cell? w _ hx105_1)).trans hx105_1
                      replace p105 := eq_true p105
                      replace q105 := eq_true q105
                      have p107 : 0 ≤ (x8_2 : Int) := of_decide_eq_true (by first | (with_reducible assumption) | assumption)
                      have q107 : x8_2 < (l0.length : Int) := of_decide_eq_true (by first | (with_reducible assumption) | assumption)
                      obtain ⟨ad107, e107, hx107_0, hx107_1⟩ := at_T41 HR0.out x8_2 p107 q107
                      have hw107_1 := hx107_1
                      have hw107_0 := hx107_0
                      obtain rfl : ad105 = ad107 := (by injection e107)
                      replace hx107_0 := (HB.out.cell (World.block_lt_of_cell? w _ hx107_0)).trans hx107_0
                      replace hx107_1 := (HB.out.cell (World.block_lt_of_cell? w _ hx107_1)).trans hx107_1
                      replace p107 := eq_true p107
                      replace q107 := eq_true q107
                      have p108 : 0 ≤ (x8_2 : Int) := of_decide_eq_true (by first | (with_reducible assumption) | assumption)
                      have q108 : x8_2 < (l0.length : Int) := of_decide_eq_true (by first | (with_reducible assumption) | assumption)
                      obtain ⟨ad108, e108, hx108_0, hx108_1⟩ := at_T41 HR0.out x8_2 p108 q108
                      have hw108_1 := hx108_1
                      have hw108_0 := hx108_0
                      obtain rfl : ad105 = ad108 := (by injection e108)
                      replace hx108_0 := (HB.out.cell (World.block_lt_of_cell? w _ hx108_0)).trans hx108_0
                      replace hx108_1 := (HB.out.cell (World.block_lt_of_cell? w _ hx108_1)).trans hx108_1
                      replace p108 := eq_true p108
                      replace q108 := eq_true q108
                      have p109 : 0 ≤ (x8_2 : Int) := of_decide_eq_true (by first | (with_reducible assumption) | assumption)
                      have q109 : x8_2 < (l0.length : Int) := of_decide_eq_true (by first | (with_reducible assumption) | assumption)
                      obtain ⟨ad109, e109, hx109_0, hx109_1⟩ := at_T41 HR0.out x8_2 p109 q109
                      have hw109_1 := hx109_1
                      have hw109_0 := hx109_0
                      obtain rfl : ad105 = ad109 := (by injection e109)
                      replace hx109_0 := (HB.out.cell (World.block_lt_of_cell? w _ hx109_0)).trans hx109_0
                      replace hx109_1 := (HB.out.cell (World.block_lt_of_cell? w _ hx109_1)).trans hx109_1
                      replace p109 := eq_true p109
                      replace q109 := eq_true q109
                      have p110 : 0 ≤ (x8_2 : Int) := of_decide_eq_true (by first | (with_reducible assumption) | assumption)
                      have q110 : x8_2 < (l0.length : Int) := of_decide_eq_true (by first | (with_reducible assumption) | assumption)
                      obtain ⟨ad110, e110, hx110_0, hx110_1⟩ := at_T41 HR0.out x8_2 p110 q110
                      have hw110_1 := hx110_1
                      have hw110_0 := hx110_0
                      obtain rfl : ad105 = ad110 := (by injection e110)
                      replace hx110_0 := (HB.out.cell (World.block_lt_of_cell? w _ hx110_0)).trans hx110_0
                      replace hx110_1 := (HB.out.cell (World.block_lt_of_cell? w _ hx110_1)).trans hx110_1
                      replace p110 := eq_true p110
                      replace q110 := eq_true q110
                      refine start_ (n := 30) (S := fun w' => w'.cell? (ad105.add ((x8_2).toNat * 2)) = some (.int .i64 ((rd_T41 l0 x8_2).f0)) ∧ w'.cell? ⟨(ad105.add ((x8_2).toNat * 2)).block, (ad105.add ((x8_2).toNat * 2)).off + 1, none⟩ = some (.int .i64 ((rd_T41 l0 x8_2).f1)) ∧ w'.cell? (ad105.add ((x8_2).toNat * 2)) = some (.int .i64 ((rd_T41 l0 x8_2).f0)) ∧ w'.cell? ⟨(ad105.add ((x8_2).toNat * 2)).block, (ad105.add ((x8_2).toNat * 2)).off + 1, none⟩ = some (.int .i64 ((rd_T41 l0 x8_2).f1)) ∧ w'.cell? (ad105.add ((x8_2).toNat * 2)) = some (.int .i64 ((rd_T41 l0 x8_2).f0)) ∧ w'.cell? ⟨(ad105.add ((x8_2).toNat * 2)).block, (ad105.add ((x8_2).toNat * 2)).off + 1, none⟩ = some (.int .i64 ((rd_T41 l0 x8_2).f1)) ∧ w'.cell? (ad105.add ((x8_2).toNat * 2)) = some (.int .i64 ((rd_T41 l0 x8_2).f0)) ∧ w'.cell? ⟨(ad105.add ((x8_2).toNat * 2)).block, (ad105.add ((x8_2).toNat * 2)).off + 1, none⟩ = some (.int .i64 ((rd_T41 l0 x8_2).f1)) ∧ w'.cell? (ad105.add ((x8_2).toNat * 2)) = some (.int .i64 ((rd_T41 l0 x8_2).f0)) ∧ w'.cell? ⟨(ad105.add ((x8_2).toNat * 2)).block, (ad105.add ((x8_2).toNat * 2)).off + 1, none⟩ = some (.int .i64 ((rd_T41 l0 x8_2).f1))) (ds := []) #[false, false, false, false, false, false, false, false, false, false, false, false, false, false, false, false, false, false, false, false, false, false, false, false, false, false, false, false, false, false] (by kernel_rfl) rfl rfl ⟨((HB.out.cell (World.block_lt_of_cell? w _ hw105_0)).trans hw105_0), ((HB.out.cell (World.block_lt_of_cell? w _ hw105_1)).trans hw105_1), ((HB.out.cell (World.block_lt_of_cell? w _ hw107_0)).trans hw107_0), ((HB.out.cell (World.block_lt_of_cell? w _ hw107_1)).trans hw107_1), ((HB.out.cell (World.block_lt_of_cell? w _ hw108_0)).trans hw108_0), ((HB.out.cell (World.block_lt_of_cell? w _ hw108_1)).trans hw108_1), ((HB.out.cell (World.block_lt_of_cell? w _ hw109_0)).trans hw109_0), ((HB.out.cell (World.block_lt_of_cell? w _ hw109_1)).trans hw109_1), ((HB.out.cell (World.block_lt_of_cell? w _ hw110_0)).trans hw110_0), ((HB.out.cell (World.block_lt_of_cell? w _ hw110_1)).trans hw110_1)⟩ (fun hHeld => ?_); refine with_tabW lysimeterref16_Buckets.tab10 lysimeterref16_Buckets.bits10 (fun HT_ HW_ => ?_)
                      generalize wr.drew = w52 at HO_7 HB hx105_0 hx105_1 hx107_0 hx107_1 hx108_0 hx108_1 hx109_0 hx109_1 hx110_0 hx110_1 hHeld ⊢
                      refine pure_ (i := 0) (N := some 28) (v := ?_) (a' := ?_) #[true, false, false, false, false, false, false, false, false, false, false, false, false, false, false, false, false, false, false, false, false, false, false, false, false, false, false, false, false, false] rfl rfl (any_of HT_.out (by kernel_rfl)) (fun _ _ _ h => h) (Or.inl ⟨by rfl, ?_⟩) ?_ ?_
                      rotate_left
                      · intro w'
                        go_simp
                        with_reducible rfl
                      rotate_left
                      · simp only [Act.put, List.setIfInBounds_toArray, List.set_cons_zero, List.set_cons_succ, i64_w, i32_w]
                        rfl
                      refine pure_ (i := 1) (N := some 29) (v := ?_) (a' := ?_) #[true, true, false, false, false, false, false, false, false, false, false, false, false, false, false, false, false, false, false, false, false, false, false, false, false, false, false, false, false, false] rfl rfl (any_of HT_.out (by kernel_rfl)) (fun _ _ _ h => h) (Or.inl ⟨by rfl, ?_⟩) ?_ ?_
                      rotate_left
                      · intro w'
                        go_simp
                        with_reducible rfl
                      rotate_left
                      · simp only [Act.put, List.setIfInBounds_toArray, List.set_cons_zero, List.set_cons_succ, i64_w, i32_w]
                        rfl
                      refine pure_ (i := 2) (N := some 30) (v := ?_) (a' := ?_) #[true, true, true, false, false, false, false, false, false, false, false, false, false, false, false, false, false, false, false, false, false, false, false, false, false, false, false, false, false, false] rfl rfl (any_of HT_.out (by kernel_rfl)) (fun _ _ _ h => h) (Or.inl ⟨by rfl, ?_⟩) ?_ ?_
                      rotate_left
                      · intro w'
                        go_simp
                        with_reducible rfl
                      rotate_left
                      · simp only [Act.put, List.setIfInBounds_toArray, List.set_cons_zero, List.set_cons_succ, i64_w, i32_w]
                        rfl
                      refine pure_ (i := 3) (N := some 31) (v := ?_) (a' := ?_) #[true, true, true, true, false, false, false, false, false, false, false, false, false, false, false, false, false, false, false, false, false, false, false, false, false, false, false, false, false, false] rfl rfl (any_of HT_.out (by kernel_rfl)) (fun _ _ _ h => h) (Or.inl ⟨by rfl, ?_⟩) ?_ ?_
                      rotate_left
                      · intro w'
                        go_simp
                        with_reducible rfl
                      rotate_left
                      · simp only [Act.put, List.setIfInBounds_toArray, List.set_cons_zero, List.set_cons_succ, i64_w, i32_w]
                        rfl
                      refine pure_ (i := 5) (N := some 33) (v := ?_) (a' := ?_) #[true, true, true, true, false, true, false, false, false, false, false, false, false, false, false, false, false, false, false, false, false, false, false, false, false, false, false, false, false, false] rfl rfl (any_of HT_.out (by kernel_rfl)) (fun _ _ _ h => h) (Or.inl ⟨by rfl, ?_⟩) ?_ ?_
                      rotate_left
                      · intro w'
                        go_simp
                        with_reducible rfl
                      rotate_left
                      · simp only [Act.put, List.setIfInBounds_toArray, List.set_cons_zero, List.set_cons_succ, i64_w, i32_w]
                        rfl
                      refine pure_ (i := 7) (N := some 35) (v := ?_) (a' := ?_) #[true, true, true, true, false, true, false, true, false, false, false, false, false, false, false, false, false, false, false, false, false, false, false, false, false, false, false, false, false, false] rfl rfl (any_of HT_.out (by kernel_rfl)) (fun _ _ _ h => h) (Or.inl ⟨by rfl, ?_⟩) ?_ ?_
                      rotate_left
                      · intro w'
                        go_simp
                        with_reducible rfl
                      rotate_left
                      · simp only [Act.put, List.setIfInBounds_toArray, List.set_cons_zero, List.set_cons_succ, i64_w, i32_w]
                        rfl
                      refine pure_ (i := 8) (N := some 36) (v := ?_) (a' := ?_) #[true, true, true, true, false, true, false, true, true, false, false, false, false, false, false, false, false, false, false, false, false, false, false, false, false, false, false, false, false, false] rfl rfl (any_of HT_.out (by kernel_rfl)) (fun _ _ _ h => h) (Or.inl ⟨by rfl, ?_⟩) ?_ ?_
                      rotate_left
                      · intro w'
                        go_simp
                        with_reducible rfl
                      rotate_left
                      · simp only [Act.put, List.setIfInBounds_toArray, List.set_cons_zero, List.set_cons_succ, i64_w, i32_w]
                        rfl
                      refine pure_ (i := 9) (N := some 37) (v := ?_) (a' := ?_) #[true, true, true, true, false, true, false, true, true, true, false, false, false, false, false, false, false, false, false, false, false, false, false, false, false, false, false, false, false, false] rfl rfl (any_of HT_.out (by kernel_rfl)) (fun _ _ _ h => h) (Or.inl ⟨by rfl, ?_⟩) ?_ ?_
                      rotate_left
                      · intro w'
                        go_simp
                        with_reducible rfl
                      rotate_left
                      · simp only [Act.put, List.setIfInBounds_toArray, List.set_cons_zero, List.set_cons_succ, i64_w, i32_w]
                        rfl
                      refine pure_ (i := 10) (N := some 38) (v := ?_) (a' := ?_) #[true, true, true, true, false, true, false, true, true, true, true, false, false, false, false, false, false, false, false, false, false, false, false, false, false, false, false, false, false, false] rfl rfl (any_of HT_.out (by kernel_rfl)) (fun _ _ _ h => h) (Or.inl ⟨by rfl, ?_⟩) ?_ ?_
                      rotate_left
                      · intro w'
                        go_simp
                        with_reducible rfl
                      rotate_left
                      · simp only [Act.put, List.setIfInBounds_toArray, List.set_cons_zero, List.set_cons_succ, i64_w, i32_w]
                        rfl
                      refine pure_ (i := 12) (N := some 40) (v := ?_) (a' := ?_) #[true, true, true, true, false, true, false, true, true, true, true, false, true, false, false, false, false, false, false, false, false, false, false, false, false, false, false, false, false, false] rfl rfl (any_of HT_.out (by kernel_rfl)) (fun _ _ _ h => h) (Or.inl ⟨by rfl, ?_⟩) ?_ ?_
                      rotate_left
                      · intro w'
                        go_simp
                        with_reducible rfl
                      rotate_left
                      · simp only [Act.put, List.setIfInBounds_toArray, List.set_cons_zero, List.set_cons_succ, i64_w, i32_w]
                        rfl
                      refine pure_ (i := 13) (N := some 41) (v := ?_) (a' := ?_) #[true, true, true, true, false, true, false, true, true, true, true, false, true, true, false, false, false, false, false, false, false, false, false, false, false, false, false, false, false, false] rfl rfl (any_of HT_.out (by kernel_rfl)) (fun _ _ _ h => h) (Or.inl ⟨by rfl, ?_⟩) ?_ ?_
                      rotate_left
                      · intro w'
                        go_simp
                        with_reducible rfl
                      rotate_left
                      · simp only [Act.put, List.setIfInBounds_toArray, List.set_cons_zero, List.set_cons_succ, i64_w, i32_w]
                        rfl
                      refine pure_ (i := 14) (N := some 42) (v := ?_) (a' := ?_) #[true, true, true, true, false, true, false, true, true, true, true, false, true, true, true, false, false, false, false, false, false, false, false, false, false, false, false, false, false, false] rfl rfl (any_of HT_.out (by kernel_rfl)) (fun _ _ _ h => h) (Or.inl ⟨by rfl, ?_⟩) ?_ ?_
                      rotate_left
                      · intro w'
                        go_simp
                        with_reducible rfl
                      rotate_left
                      · simp only [Act.put, List.setIfInBounds_toArray, List.set_cons_zero, List.set_cons_succ, i64_w, i32_w]
                        rfl
                      refine pure_ (i := 15) (N := some 43) (v := ?_) (a' := ?_) #[true, true, true, true, false, true, false, true, true, true, true, false, true, true, true, true, false, false, false, false, false, false, false, false, false, false, false, false, false, false] rfl rfl (any_of HT_.out (by kernel_rfl)) (fun _ _ _ h => h) (Or.inl ⟨by rfl, ?_⟩) ?_ ?_
                      rotate_left
                      · intro w'
                        go_simp
                        with_reducible rfl
                      rotate_left
                      · simp only [Act.put, List.setIfInBounds_toArray, List.set_cons_zero, List.set_cons_succ, i64_w, i32_w]
                        rfl
                      refine pure_ (i := 17) (N := some 45) (v := ?_) (a' := ?_) #[true, true, true, true, false, true, false, true, true, true, true, false, true, true, true, true, false, true, false, false, false, false, false, false, false, false, false, false, false, false] rfl rfl (any_of HT_.out (by kernel_rfl)) (fun _ _ _ h => h) (Or.inl ⟨by rfl, ?_⟩) ?_ ?_
                      rotate_left
                      · intro w'
                        go_simp
                        with_reducible rfl
                      rotate_left
                      · simp only [Act.put, List.setIfInBounds_toArray, List.set_cons_zero, List.set_cons_succ, i64_w, i32_w]
                        rfl
                      refine pure_ (i := 18) (N := some 46) (v := ?_) (a' := ?_) #[true, true, true, true, false, true, false, true, true, true, true, false, true, true, true, true, false, true, true, false, false, false, false, false, false, false, false, false, false, false] rfl rfl (any_of HT_.out (by kernel_rfl)) (fun _ _ _ h => h) (Or.inl ⟨by rfl, ?_⟩) ?_ ?_
                      rotate_left
                      · intro w'
                        go_simp
                        with_reducible rfl
                      rotate_left
                      · simp only [Act.put, List.setIfInBounds_toArray, List.set_cons_zero, List.set_cons_succ, i64_w, i32_w]
                        rfl
                      refine pure_ (i := 19) (N := some 47) (v := ?_) (a' := ?_) #[true, true, true, true, false, true, false, true, true, true, true, false, true, true, true, true, false, true, true, true, false, false, false, false, false, false, false, false, false, false] rfl rfl (any_of HT_.out (by kernel_rfl)) (fun _ _ _ h => h) (Or.inl ⟨by rfl, ?_⟩) ?_ ?_
                      rotate_left
                      · intro w'
                        go_simp
                        with_reducible rfl
                      rotate_left
                      · simp only [Act.put, List.setIfInBounds_toArray, List.set_cons_zero, List.set_cons_succ, i64_w, i32_w]
                        rfl
                      refine pure_ (i := 20) (N := some 48) (v := ?_) (a' := ?_) #[true, true, true, true, false, true, false, true, true, true, true, false, true, true, true, true, false, true, true, true, true, false, false, false, false, false, false, false, false, false] rfl rfl (any_of HT_.out (by kernel_rfl)) (fun _ _ _ h => h) (Or.inl ⟨by rfl, ?_⟩) ?_ ?_
                      rotate_left
                      · intro w'
                        go_simp
                        with_reducible rfl
                      rotate_left
                      · simp only [Act.put, List.setIfInBounds_toArray, List.set_cons_zero, List.set_cons_succ, i64_w, i32_w]
                        rfl
                      refine pure_ (i := 22) (N := some 50) (v := ?_) (a' := ?_) #[true, true, true, true, false, true, false, true, true, true, true, false, true, true, true, true, false, true, true, true, true, false, true, false, false, false, false, false, false, false] rfl rfl (any_of HT_.out (by kernel_rfl)) (fun _ _ _ h => h) (Or.inl ⟨by rfl, ?_⟩) ?_ ?_
                      rotate_left
                      · intro w'
                        go_simp
                        with_reducible rfl
                      rotate_left
                      · simp only [Act.put, List.setIfInBounds_toArray, List.set_cons_zero, List.set_cons_succ, i64_w, i32_w]
                        rfl
                      refine pure_ (i := 23) (N := some 51) (v := ?_) (a' := ?_) #[true, true, true, true, false, true, false, true, true, true, true, false, true, true, true, true, false, true, true, true, true, false, true, true, false, false, false, false, false, false] rfl rfl (any_of HT_.out (by kernel_rfl)) (fun _ _ _ h => h) (Or.inl ⟨by rfl, ?_⟩) ?_ ?_
                      rotate_left
                      · intro w'
                        go_simp
                        with_reducible rfl
                      rotate_left
                      · simp only [Act.put, List.setIfInBounds_toArray, List.set_cons_zero, List.set_cons_succ, i64_w, i32_w]
                        rfl
                      refine pure_ (i := 24) (N := some 52) (v := ?_) (a' := ?_) #[true, true, true, true, false, true, false, true, true, true, true, false, true, true, true, true, false, true, true, true, true, false, true, true, true, false, false, false, false, false] rfl rfl (any_of HT_.out (by kernel_rfl)) (fun _ _ _ h => h) (Or.inl ⟨by rfl, ?_⟩) ?_ ?_
                      rotate_left
                      · intro w'
                        go_simp
                        with_reducible rfl
                      rotate_left
                      · simp only [Act.put, List.setIfInBounds_toArray, List.set_cons_zero, List.set_cons_succ, i64_w, i32_w]
                        rfl
                      refine pure_ (i := 25) (N := some 53) (v := ?_) (a' := ?_) #[true, true, true, true, false, true, false, true, true, true, true, false, true, true, true, true, false, true, true, true, true, false, true, true, true, true, false, false, false, false] rfl rfl (any_of HT_.out (by kernel_rfl)) (fun _ _ _ h => h) (Or.inl ⟨by rfl, ?_⟩) ?_ ?_
                      rotate_left
                      · intro w'
                        go_simp
                        with_reducible rfl
                      rotate_left
                      · simp only [Act.put, List.setIfInBounds_toArray, List.set_cons_zero, List.set_cons_succ, i64_w, i32_w]
                        rfl
                      refine take_ (i := 4) (N := some 32) (v := ?_) (a' := ?_) #[true, true, true, true, true, true, false, true, true, true, true, false, true, true, true, true, false, true, true, true, true, false, true, true, true, true, false, false, false, false] rfl rfl (take_ofW HT_.out HW_.out (by kernel_rfl)) (fun _ _ _ h => h) (Or.inl ⟨by rfl, ?_⟩) hHeld ?_ ?_
                      rotate_left
                      · rintro w' ⟨s0, s1, s2, s3, s4, s5, s6, s7, s8, s9⟩
                        go_simp
                        with_reducible rfl
                      rotate_left
                      · simp only [Act.put, List.setIfInBounds_toArray, List.set_cons_zero, List.set_cons_succ, i64_w, i32_w]
                        rfl
                      refine take_ (i := 11) (N := some 39) (v := ?_) (a' := ?_) #[true, true, true, true, true, true, false, true, true, true, true, true, true, true, true, true, false, true, true, true, true, false, true, true, true, true, false, false, false, false] rfl rfl (take_ofW HT_.out HW_.out (by kernel_rfl)) (fun _ _ _ h => h) (Or.inl ⟨by rfl, ?_⟩) hHeld ?_ ?_
                      rotate_left
                      · rintro w' ⟨s0, s1, s2, s3, s4, s5, s6, s7, s8, s9⟩
                        go_simp
                        with_reducible rfl
                      rotate_left
                      · simp only [Act.put, List.setIfInBounds_toArray, List.set_cons_zero, List.set_cons_succ, i64_w, i32_w]
                        rfl
                      refine take_ (i := 16) (N := some 44) (v := ?_) (a' := ?_) #[true, true, true, true, true, true, false, true, true, true, true, true, true, true, true, true, true, true, true, true, true, false, true, true, true, true, false, false, false, false] rfl rfl (take_ofW HT_.out HW_.out (by kernel_rfl)) (fun _ _ _ h => h) (Or.inl ⟨by rfl, ?_⟩) hHeld ?_ ?_
                      rotate_left
                      · rintro w' ⟨s0, s1, s2, s3, s4, s5, s6, s7, s8, s9⟩
                        go_simp
                        with_reducible rfl
                      rotate_left
                      · simp only [Act.put, List.setIfInBounds_toArray, List.set_cons_zero, List.set_cons_succ, i64_w, i32_w]
                        rfl
                      refine take_ (i := 21) (N := some 49) (v := ?_) (a' := ?_) #[true, true, true, true, true, true, false, true, true, true, true, true, true, true, true, true, true, true, true, true, true, true, true, true, true, true, false, false, false, false] rfl rfl (take_ofW HT_.out HW_.out (by kernel_rfl)) (fun _ _ _ h => h) (Or.inl ⟨by rfl, ?_⟩) hHeld ?_ ?_
                      rotate_left
                      · rintro w' ⟨s0, s1, s2, s3, s4, s5, s6, s7, s8, s9⟩
                        go_simp
                        with_reducible rfl
                      rotate_left
                      · simp only [Act.put, List.setIfInBounds_toArray, List.set_cons_zero, List.set_cons_succ, i64_w, i32_w]
                        rfl
                      refine take_ (i := 26) (N := some 54) (v := ?_) (a' := ?_) #[true, true, true, true, true, true, false, true, true, true, true, true, true, true, true, true, true, true, true, true, true, true, true, true, true, true, true, false, false, false] rfl rfl (take_ofW HT_.out HW_.out (by kernel_rfl)) (fun _ _ _ h => h) (Or.inl ⟨by rfl, ?_⟩) hHeld ?_ ?_
                      rotate_left
                      · rintro w' ⟨s0, s1, s2, s3, s4, s5, s6, s7, s8, s9⟩
                        go_simp
                        with_reducible rfl
                      rotate_left
                      · simp only [Act.put, List.setIfInBounds_toArray, List.set_cons_zero, List.set_cons_succ, i64_w, i32_w]
                        rfl
                      refine join_ (σ := Nat) 1 #[true, true, true, true, true, true, true, true, true, true, true, true, true, true, true, true, true, true, true, true, true, true, true, true, true, true, true, true, true, false] (fun s_ => [(34, .int .i64 t106), (9, .pointer (some ⟨s_, 0, none⟩)), (55, .agg #[.int .i64 t106, .int .i64 1, .int .i64 ((rd_T41 l0 x8_2).f1), .int .i64 ((rd_T41 l0 x8_2).f1), .int .i64 ((rd_T41 l0 x8_2).f1), .int .i64 ((rd_T41 l0 x8_2).f1)])]) (fun s_ w' => (w'.cell? (ad105.add ((x8_2).toNat * 2)) = some (.int .i64 ((rd_T41 l0 x8_2).f0)) ∧ w'.cell? ⟨(ad105.add ((x8_2).toNat * 2)).block, (ad105.add ((x8_2).toNat * 2)).off + 1, none⟩ = some (.int .i64 ((rd_T41 l0 x8_2).f1)) ∧ w'.cell? (ad105.add ((x8_2).toNat * 2)) = some (.int .i64 ((rd_T41 l0 x8_2).f0)) ∧ w'.cell? ⟨(ad105.add ((x8_2).toNat * 2)).block, (ad105.add ((x8_2).toNat * 2)).off + 1, none⟩ = some (.int .i64 ((rd_T41 l0 x8_2).f1)) ∧ w'.cell? (ad105.add ((x8_2).toNat * 2)) = some (.int .i64 ((rd_T41 l0 x8_2).f0)) ∧ w'.cell? ⟨(ad105.add ((x8_2).toNat * 2)).block, (ad105.add ((x8_2).toNat * 2)).off + 1, none⟩ = some (.int .i64 ((rd_T41 l0 x8_2).f1)) ∧ w'.cell? (ad105.add ((x8_2).toNat * 2)) = some (.int .i64 ((rd_T41 l0 x8_2).f0)) ∧ w'.cell? ⟨(ad105.add ((x8_2).toNat * 2)).block, (ad105.add ((x8_2).toNat * 2)).off + 1, none⟩ = some (.int .i64 ((rd_T41 l0 x8_2).f1)) ∧ w'.cell? (ad105.add ((x8_2).toNat * 2)) = some (.int .i64 ((rd_T41 l0 x8_2).f0)) ∧ w'.cell? ⟨(ad105.add ((x8_2).toNat * 2)).block, (ad105.add ((x8_2).toNat * 2)).off + 1, none⟩ = some (.int .i64 ((rd_T41 l0 x8_2).f1))) ∧ (Kd.R k52 52 w' w.heap.size (fun k_ => k_ ≠ s_) u7 x7_2) ∧ (w'.heap[s_]? = some (.cells #[.int .i64 0, .int .i64 0, .int .i64 0, .int .i64 0, .int .i64 0, .int .i64 0] 52 (0, 0))) ∧ (w.heap.size ≤ s_) ∧ (w.heap.size ≤ s_) ∧ (Below w.heap.size w w')) ?_ ?_
                      rotate_left
                      · intro hCont
                        refine two_ (i := 6) (j := 28) (Ni := some 34) (Nj := some 9) #[true, true, true, true, true, true, true, true, true, true, true, true, true, true, true, true, true, true, true, true, true, true, true, true, true, true, true, false, false, false] #[true, true, true, true, true, true, false, true, true, true, true, true, true, true, true, true, true, true, true, true, true, true, true, true, true, true, true, false, true, false] rfl rfl rfl rfl (two_of HT_.out (by kernel_rfl)) (by decide) (by decide) (fun K hK => ?_) (fun K hK => ?_)
                        · skip
                          refine goes_ Try.func30 (by kernel_rfl) rfl #[.int .i64 ((rd_T41 l0 x8_2).f0), .int .i64 a1] (by rfl) rfl rfl (by (try simp only [List.map_toArray, List.map_cons, List.map_nil]); first | done | rfl | (simp only [List.length_drop, List.length_take]; rfl)) ?_
                          with_reducible refine (lysimeterref16_Floor.calls ((rd_T41 l0 x8_2).f0) a1 t106 _ A13.out).mono ?_
                          rintro e w' ⟨rfl, ⟨nd, rfl⟩⟩
                          refine ⟨_, rfl, ?_⟩
                          refine hK.out _ _ ⟨((HB.out.cell (World.block_lt_of_cell? w _ hw105_0)).trans hw105_0), ((HB.out.cell (World.block_lt_of_cell? w _ hw105_1)).trans hw105_1), ((HB.out.cell (World.block_lt_of_cell? w _ hw107_0)).trans hw107_0), ((HB.out.cell (World.block_lt_of_cell? w _ hw107_1)).trans hw107_1), ((HB.out.cell (World.block_lt_of_cell? w _ hw108_0)).trans hw108_0), ((HB.out.cell (World.block_lt_of_cell? w _ hw108_1)).trans hw108_1), ((HB.out.cell (World.block_lt_of_cell? w _ hw109_0)).trans hw109_0), ((HB.out.cell (World.block_lt_of_cell? w _ hw109_1)).trans hw109_1), ((HB.out.cell (World.block_lt_of_cell? w _ hw110_0)).trans hw110_0), ((HB.out.cell (World.block_lt_of_cell? w _ hw110_1)).trans hw110_1)⟩ (fun hHeld => ?_)
                          clear hK K
                          refine norm_ (a' := ?_) ?_ ?_
                          rotate_left
                          · show Act.put _ (some 34) _ = _
                            simp only [Act.put, List.setIfInBounds_toArray, List.set_cons_zero, List.set_cons_succ, i64_w, i32_w]
                            rfl
                          refine pure_ (i := 27) (N := some 55) (v := ?_) (a' := ?_) #[true, true, true, true, true, true, true, true, true, true, true, true, true, true, true, true, true, true, true, true, true, true, true, true, true, true, true, true, false, false] rfl rfl (any_of HT_.out (by kernel_rfl)) (fun _ _ _ h => h) (Or.inl ⟨by rfl, ?_⟩) ?_ ?_
                          rotate_left
                          · intro w'
                            go_simp
                            with_reducible rfl
                          rotate_left
                          · simp only [Act.put, List.setIfInBounds_toArray, List.set_cons_zero, List.set_cons_succ, i64_w, i32_w]
                            rfl
                          refine one_ (i := 28) (N := some 9) #[true, true, true, true, true, true, true, true, true, true, true, true, true, true, true, true, true, true, true, true, true, true, true, true, true, true, true, true, true, false] rfl rfl (one_of HT_.out (by kernel_rfl)) (by decide) (fun K hK => ?_)
                          refine box_step ?hg (N := 9) ?hd (cs := #[.int .i64 0, .int .i64 0, .int .i64 0, .int .i64 0, .int .i64 0, .int .i64 0]) (t := 52) ?hr ?_; (case hd => rfl); (case hg => rfl); (case hr => first | (go_simp; done) | (go_simp; rfl))
                          intro gb111 hg w53 hbox hb
                          have n0_ := Aside0.mk (Kd.R_below (Kd.R_elderB (by (with_reducible repeat (first | apply Kd.R_alloc | apply Kd.R_drewN | apply Kd.R_drew)); exact HO_7.out) gb111 (Nat.le_of_eq hg.symm)) hb)
                          have n1_ := Aside0.mk (below_step (by repeat (first | (with_reducible first | exact HB.out | apply below_alloc | apply pw_below_drewN | apply below_drew1) | exact HB.out)) hb)
                          have n2_ := Aside0.mk (hbox)
                          have n3_ := Aside0.mk ((by rw [hg]; exact (below_size (by repeat (first | (with_reducible first | exact HB.out | apply below_alloc | apply pw_below_drewN | apply below_drew1) | exact HB.out))) : w.heap.size ≤ gb111))
                          have n4_ := Aside0.mk ((by rw [hg]; exact (below_size (by repeat (first | (with_reducible first | exact HB.out | apply below_alloc | apply pw_below_drewN | apply below_drew1) | exact HB.out))) : w.heap.size ≤ gb111))
                          clear HO_7
                          clear HB
                          have HO_7 := n0_
                          have HB := n1_
                          have BK111 := n2_
                          have GW111 := n3_
                          have GE111 := n4_
                          clear n0_ n1_ n2_ n3_ n4_
                          clear hb hbox hg
                          refine hK.out _ _ ⟨((HB.out.cell (World.block_lt_of_cell? w _ hw105_0)).trans hw105_0), ((HB.out.cell (World.block_lt_of_cell? w _ hw105_1)).trans hw105_1), ((HB.out.cell (World.block_lt_of_cell? w _ hw107_0)).trans hw107_0), ((HB.out.cell (World.block_lt_of_cell? w _ hw107_1)).trans hw107_1), ((HB.out.cell (World.block_lt_of_cell? w _ hw108_0)).trans hw108_0), ((HB.out.cell (World.block_lt_of_cell? w _ hw108_1)).trans hw108_1), ((HB.out.cell (World.block_lt_of_cell? w _ hw109_0)).trans hw109_0), ((HB.out.cell (World.block_lt_of_cell? w _ hw109_1)).trans hw109_1), ((HB.out.cell (World.block_lt_of_cell? w _ hw110_0)).trans hw110_0), ((HB.out.cell (World.block_lt_of_cell? w _ hw110_1)).trans hw110_1)⟩ (fun hHeld => ?_)
                          clear hK K
                          refine norm_ (a' := ?_) ?_ ?_
                          rotate_left
                          · show Act.put _ (some 9) _ = _
                            simp only [Act.put, List.setIfInBounds_toArray, List.set_cons_zero, List.set_cons_succ, i64_w, i32_w]
                            rfl
                          exact norm_ (by simp only [putAll, Act.put, List.setIfInBounds_toArray, List.set_cons_zero, List.set_cons_succ]) (hCont (gb111) _ ⟨hHeld, (by (with_reducible repeat (first | apply Kd.R_alloc | apply Kd.R_drewN | apply Kd.R_drew)); exact Kd.R_mono HO_7.out (fun _ hk => hk.2)), (by (with_reducible repeat (first | refine blk_drewN ?_ _ | refine blk_drew ?_ | refine blk_alloc ?_ _)); exact BK111.out), GW111.out, GE111.out, (by repeat (first | (with_reducible first | exact HB.out | apply below_alloc | apply pw_below_drewN | apply below_drew1 | refine below_set ?_ GE111.out) | exact HB.out))⟩)
                        · skip
                          refine box_step ?hg (N := 9) ?hd (cs := #[.int .i64 0, .int .i64 0, .int .i64 0, .int .i64 0, .int .i64 0, .int .i64 0]) (t := 52) ?hr ?_; (case hd => rfl); (case hg => rfl); (case hr => first | (go_simp; done) | (go_simp; rfl))
                          intro gb111 hg w53 hbox hb
                          have n0_ := Aside0.mk (Kd.R_below (Kd.R_elderB (by (with_reducible repeat (first | apply Kd.R_alloc | apply Kd.R_drewN | apply Kd.R_drew)); exact HO_7.out) gb111 (Nat.le_of_eq hg.symm)) hb)
                          have n1_ := Aside0.mk (below_step (by repeat (first | (with_reducible first | exact HB.out | apply below_alloc | apply pw_below_drewN | apply below_drew1) | exact HB.out)) hb)
                          have n2_ := Aside0.mk (hbox)
                          have n3_ := Aside0.mk ((by rw [hg]; exact (below_size (by repeat (first | (with_reducible first | exact HB.out | apply below_alloc | apply pw_below_drewN | apply below_drew1) | exact HB.out))) : w.heap.size ≤ gb111))
                          have n4_ := Aside0.mk ((by rw [hg]; exact (below_size (by repeat (first | (with_reducible first | exact HB.out | apply below_alloc | apply pw_below_drewN | apply below_drew1) | exact HB.out))) : w.heap.size ≤ gb111))
                          clear HO_7
                          clear HB
                          have HO_7 := n0_
                          have HB := n1_
                          have BK111 := n2_
                          have GW111 := n3_
                          have GE111 := n4_
                          clear n0_ n1_ n2_ n3_ n4_
                          clear hb hbox hg
                          refine hK.out _ _ ⟨((HB.out.cell (World.block_lt_of_cell? w _ hw105_0)).trans hw105_0), ((HB.out.cell (World.block_lt_of_cell? w _ hw105_1)).trans hw105_1), ((HB.out.cell (World.block_lt_of_cell? w _ hw107_0)).trans hw107_0), ((HB.out.cell (World.block_lt_of_cell? w _ hw107_1)).trans hw107_1), ((HB.out.cell (World.block_lt_of_cell? w _ hw108_0)).trans hw108_0), ((HB.out.cell (World.block_lt_of_cell? w _ hw108_1)).trans hw108_1), ((HB.out.cell (World.block_lt_of_cell? w _ hw109_0)).trans hw109_0), ((HB.out.cell (World.block_lt_of_cell? w _ hw109_1)).trans hw109_1), ((HB.out.cell (World.block_lt_of_cell? w _ hw110_0)).trans hw110_0), ((HB.out.cell (World.block_lt_of_cell? w _ hw110_1)).trans hw110_1)⟩ (fun hHeld => ?_)
                          clear hK K
                          refine norm_ (a' := ?_) ?_ ?_
                          rotate_left
                          · show Act.put _ (some 9) _ = _
                            simp only [Act.put, List.setIfInBounds_toArray, List.set_cons_zero, List.set_cons_succ, i64_w, i32_w]
                            rfl
                          refine one_ (i := 6) (N := some 34) #[true, true, true, true, true, true, true, true, true, true, true, true, true, true, true, true, true, true, true, true, true, true, true, true, true, true, true, false, true, false] rfl rfl (one_of HT_.out (by kernel_rfl)) (by decide) (fun K hK => ?_)
                          refine goes_ Try.func30 (by kernel_rfl) rfl #[.int .i64 ((rd_T41 l0 x8_2).f0), .int .i64 a1] (by rfl) rfl rfl (by (try simp only [List.map_toArray, List.map_cons, List.map_nil]); first | done | rfl | (simp only [List.length_drop, List.length_take]; rfl)) ?_
                          with_reducible refine (lysimeterref16_Floor.calls ((rd_T41 l0 x8_2).f0) a1 t106 _ A13.out).mono ?_
                          rintro e w' ⟨rfl, ⟨nd, rfl⟩⟩
                          refine ⟨_, rfl, ?_⟩
                          refine hK.out _ _ ⟨((HB.out.cell (World.block_lt_of_cell? w _ hw105_0)).trans hw105_0), ((HB.out.cell (World.block_lt_of_cell? w _ hw105_1)).trans hw105_1), ((HB.out.cell (World.block_lt_of_cell? w _ hw107_0)).trans hw107_0), ((HB.out.cell (World.block_lt_of_cell? w _ hw107_1)).trans hw107_1), ((HB.out.cell (World.block_lt_of_cell? w _ hw108_0)).trans hw108_0), ((HB.out.cell (World.block_lt_of_cell? w _ hw108_1)).trans hw108_1), ((HB.out.cell (World.block_lt_of_cell? w _ hw109_0)).trans hw109_0), ((HB.out.cell (World.block_lt_of_cell? w _ hw109_1)).trans hw109_1), ((HB.out.cell (World.block_lt_of_cell? w _ hw110_0)).trans hw110_0), ((HB.out.cell (World.block_lt_of_cell? w _ hw110_1)).trans hw110_1)⟩ (fun hHeld => ?_)
                          clear hK K
                          refine norm_ (a' := ?_) ?_ ?_
                          rotate_left
                          · show Act.put _ (some 34) _ = _
                            simp only [Act.put, List.setIfInBounds_toArray, List.set_cons_zero, List.set_cons_succ, i64_w, i32_w]
                            rfl
                          refine pure_ (i := 27) (N := some 55) (v := ?_) (a' := ?_) #[true, true, true, true, true, true, true, true, true, true, true, true, true, true, true, true, true, true, true, true, true, true, true, true, true, true, true, true, true, false] rfl rfl (any_of HT_.out (by kernel_rfl)) (fun _ _ _ h => h) (Or.inl ⟨by rfl, ?_⟩) ?_ ?_
                          rotate_left
                          · intro w'
                            go_simp
                            with_reducible rfl
                          rotate_left
                          · simp only [Act.put, List.setIfInBounds_toArray, List.set_cons_zero, List.set_cons_succ, i64_w, i32_w]
                            rfl
                          exact norm_ (by simp only [putAll, Act.put, List.setIfInBounds_toArray, List.set_cons_zero, List.set_cons_succ]) (hCont (gb111) _ ⟨hHeld, (by (with_reducible repeat (first | apply Kd.R_alloc | apply Kd.R_drewN | apply Kd.R_drew)); exact Kd.R_mono HO_7.out (fun _ hk => hk.2)), (by (with_reducible repeat (first | refine blk_drewN ?_ _ | refine blk_drew ?_ | refine blk_alloc ?_ _)); exact BK111.out), GW111.out, GE111.out, (by repeat (first | (with_reducible first | exact HB.out | apply below_alloc | apply pw_below_drewN | apply below_drew1 | refine below_set ?_ GE111.out) | exact HB.out))⟩)
                      rintro gb111 w54 ⟨hS_, h0_, h1_, h2_, h3_, h4_⟩
                      have n0_ : Aside0 (Kd.R k52 52 w54 w.heap.size (fun k_ => k_ ≠ gb111) u7 x7_2) := ⟨h0_⟩
                      have n1_ : Aside0 (w54.heap[gb111]? = some (.cells #[.int .i64 0, .int .i64 0, .int .i64 0, .int .i64 0, .int .i64 0, .int .i64 0] 52 (0, 0))) := ⟨h1_⟩
                      have n2_ : Aside0 (w.heap.size ≤ gb111) := ⟨h2_⟩
                      have n3_ : Aside0 (w.heap.size ≤ gb111) := ⟨h3_⟩
                      have n4_ : Aside0 (Below w.heap.size w w54) := ⟨h4_⟩
                      clear HO_7
                      clear HB
                      clear h0_ h1_ h2_ h3_ h4_
                      have HO_7 := n0_
                      have BK111 := n1_
                      have GW111 := n2_
                      have GE111 := n3_
                      have HB := n4_
                      clear n0_ n1_ n2_ n3_ n4_
                      have hHeld : w54.cell? (ad105.add ((x8_2).toNat * 2)) = some (.int .i64 ((rd_T41 l0 x8_2).f0)) ∧ w54.cell? ⟨(ad105.add ((x8_2).toNat * 2)).block, (ad105.add ((x8_2).toNat * 2)).off + 1, none⟩ = some (.int .i64 ((rd_T41 l0 x8_2).f1)) ∧ w54.cell? (ad105.add ((x8_2).toNat * 2)) = some (.int .i64 ((rd_T41 l0 x8_2).f0)) ∧ w54.cell? ⟨(ad105.add ((x8_2).toNat * 2)).block, (ad105.add ((x8_2).toNat * 2)).off + 1, none⟩ = some (.int .i64 ((rd_T41 l0 x8_2).f1)) ∧ w54.cell? (ad105.add ((x8_2).toNat * 2)) = some (.int .i64 ((rd_T41 l0 x8_2).f0)) ∧ w54.cell? ⟨(ad105.add ((x8_2).toNat * 2)).block, (ad105.add ((x8_2).toNat * 2)).off + 1, none⟩ = some (.int .i64 ((rd_T41 l0 x8_2).f1)) ∧ w54.cell? (ad105.add ((x8_2).toNat * 2)) = some (.int .i64 ((rd_T41 l0 x8_2).f0)) ∧ w54.cell? ⟨(ad105.add ((x8_2).toNat * 2)).block, (ad105.add ((x8_2).toNat * 2)).off + 1, none⟩ = some (.int .i64 ((rd_T41 l0 x8_2).f1)) ∧ w54.cell? (ad105.add ((x8_2).toNat * 2)) = some (.int .i64 ((rd_T41 l0 x8_2).f0)) ∧ w54.cell? ⟨(ad105.add ((x8_2).toNat * 2)).block, (ad105.add ((x8_2).toNat * 2)).off + 1, none⟩ = some (.int .i64 ((rd_T41 l0 x8_2).f1)) := hS_
                      refine norm_ (a' := ?_) ?_ ?_
                      rotate_left
                      · simp only [putAll, Act.put, List.setIfInBounds_toArray, List.set_cons_zero, List.set_cons_succ]
                        rfl
                      refine one_ (i := 29) (N := none) #[true, true, true, true, true, true, true, true, true, true, true, true, true, true, true, true, true, true, true, true, true, true, true, true, true, true, true, true, true, true] rfl rfl (one_of HT_.out (by kernel_rfl)) (by decide) (fun K hK => ?_)
                      have hs55 : w54.cell? ⟨gb111, 0, none⟩ = some (.int .i64 0) := (blk_cell BK111.out 0).trans rfl
                      have hfs55 := blk_frozen BK111.out 0
                      have hs56 : w54.cell? ⟨gb111, 1, none⟩ = some (.int .i64 0) := (blk_cell BK111.out 1).trans rfl
                      have hfs56 := blk_frozen BK111.out 1
                      have hs57 : w54.cell? ⟨gb111, 2, none⟩ = some (.int .i64 0) := (blk_cell BK111.out 2).trans rfl
                      have hfs57 := blk_frozen BK111.out 2
                      have hs58 : w54.cell? ⟨gb111, 3, none⟩ = some (.int .i64 0) := (blk_cell BK111.out 3).trans rfl
                      have hfs58 := blk_frozen BK111.out 3
                      have hs59 : w54.cell? ⟨gb111, 4, none⟩ = some (.int .i64 0) := (blk_cell BK111.out 4).trans rfl
                      have hfs59 := blk_frozen BK111.out 4
                      have hs60 : w54.cell? ⟨gb111, 5, none⟩ = some (.int .i64 0) := (blk_cell BK111.out 5).trans rfl
                      have hfs60 := blk_frozen BK111.out 5
                      refine skip_ (w1 := ?_) (by rfl) rfl ?_ ?_
                      rotate_left
                      · go_simp
                        rfl
                      refine hK.out _ _ ⟨((cell_far (p := ⟨gb111, _, none⟩) (by first | exact far_ hw105_0 GW111.out | (rw [add_block]; exact far_ hw105_0 GW111.out) | exact far2_ hw105_0 GW111.out | (rw [add_block]; exact far2_ hw105_0 GW111.out) | (show (Addr.add _ _).block ≠ _; rw [add_block]; first | exact far_ hw105_0 GW111.out | exact far2_ hw105_0 GW111.out)) _).trans (((cell_far (p := ⟨gb111, _, none⟩) (by first | exact far_ hw105_0 GW111.out | (rw [add_block]; exact far_ hw105_0 GW111.out) | exact far2_ hw105_0 GW111.out | (rw [add_block]; exact far2_ hw105_0 GW111.out) | (show (Addr.add _ _).block ≠ _; rw [add_block]; first | exact far_ hw105_0 GW111.out | exact far2_ hw105_0 GW111.out)) _).trans (((cell_far (p := ⟨gb111, _, none⟩) (by first | exact far_ hw105_0 GW111.out | (rw [add_block]; exact far_ hw105_0 GW111.out) | exact far2_ hw105_0 GW111.out | (rw [add_block]; exact far2_ hw105_0 GW111.out) | (show (Addr.add _ _).block ≠ _; rw [add_block]; first | exact far_ hw105_0 GW111.out | exact far2_ hw105_0 GW111.out)) _).trans (((cell_far (p := ⟨gb111, _, none⟩) (by first | exact far_ hw105_0 GW111.out | (rw [add_block]; exact far_ hw105_0 GW111.out) | exact far2_ hw105_0 GW111.out | (rw [add_block]; exact far2_ hw105_0 GW111.out) | (show (Addr.add _ _).block ≠ _; rw [add_block]; first | exact far_ hw105_0 GW111.out | exact far2_ hw105_0 GW111.out)) _).trans (((cell_far (p := ⟨gb111, _, none⟩) (by first | exact far_ hw105_0 GW111.out | (rw [add_block]; exact far_ hw105_0 GW111.out) | exact far2_ hw105_0 GW111.out | (rw [add_block]; exact far2_ hw105_0 GW111.out) | (show (Addr.add _ _).block ≠ _; rw [add_block]; first | exact far_ hw105_0 GW111.out | exact far2_ hw105_0 GW111.out)) _).trans (((cell_far (p := ⟨gb111, _, none⟩) (by first | exact far_ hw105_0 GW111.out | (rw [add_block]; exact far_ hw105_0 GW111.out) | exact far2_ hw105_0 GW111.out | (rw [add_block]; exact far2_ hw105_0 GW111.out) | (show (Addr.add _ _).block ≠ _; rw [add_block]; first | exact far_ hw105_0 GW111.out | exact far2_ hw105_0 GW111.out)) _).trans (hHeld.1)))))))))))), ((cell_far (p := ⟨gb111, _, none⟩) (by first | exact far_ hw105_1 GW111.out | (rw [add_block]; exact far_ hw105_1 GW111.out) | exact far2_ hw105_1 GW111.out | (rw [add_block]; exact far2_ hw105_1 GW111.out) | (show (Addr.add _ _).block ≠ _; rw [add_block]; first | exact far_ hw105_1 GW111.out | exact far2_ hw105_1 GW111.out)) _).trans (((cell_far (p := ⟨gb111, _, none⟩) (by first | exact far_ hw105_1 GW111.out | (rw [add_block]; exact far_ hw105_1 GW111.out) | exact far2_ hw105_1 GW111.out | (rw [add_block]; exact far2_ hw105_1 GW111.out) | (show (Addr.add _ _).block ≠ _; rw [add_block]; first | exact far_ hw105_1 GW111.out | exact far2_ hw105_1 GW111.out)) _).trans (((cell_far (p := ⟨gb111, _, none⟩) (by first | exact far_ hw105_1 GW111.out | (rw [add_block]; exact far_ hw105_1 GW111.out) | exact far2_ hw105_1 GW111.out | (rw [add_block]; exact far2_ hw105_1 GW111.out) | (show (Addr.add _ _).block ≠ _; rw [add_block]; first | exact far_ hw105_1 GW111.out | exact far2_ hw105_1 GW111.out)) _).trans (((cell_far (p := ⟨gb111, _, none⟩) (by first | exact far_ hw105_1 GW111.out | (rw [add_block]; exact far_ hw105_1 GW111.out) | exact far2_ hw105_1 GW111.out | (rw [add_block]; exact far2_ hw105_1 GW111.out) | (show (Addr.add _ _).block ≠ _; rw [add_block]; first | exact far_ hw105_1 GW111.out | exact far2_ hw105_1 GW111.out)) _).trans (((cell_far (p := ⟨gb111, _, none⟩) (by first | exact far_ hw105_1 GW111.out | (rw [add_block]; exact far_ hw105_1 GW111.out) | exact far2_ hw105_1 GW111.out | (rw [add_block]; exact far2_ hw105_1 GW111.out) | (show (Addr.add _ _).block ≠ _; rw [add_block]; first | exact far_ hw105_1 GW111.out | exact far2_ hw105_1 GW111.out)) _).trans (((cell_far (p := ⟨gb111, _, none⟩) (by first | exact far_ hw105_1 GW111.out | (rw [add_block]; exact far_ hw105_1 GW111.out) | exact far2_ hw105_1 GW111.out | (rw [add_block]; exact far2_ hw105_1 GW111.out) | (show (Addr.add _ _).block ≠ _; rw [add_block]; first | exact far_ hw105_1 GW111.out | exact far2_ hw105_1 GW111.out)) _).trans (hHeld.2.1)))))))))))), ((cell_far (p := ⟨gb111, _, none⟩) (by first | exact far_ hw107_0 GW111.out | (rw [add_block]; exact far_ hw107_0 GW111.out) | exact far2_ hw107_0 GW111.out | (rw [add_block]; exact far2_ hw107_0 GW111.out) | (show (Addr.add _ _).block ≠ _; rw [add_block]; first | exact far_ hw107_0 GW111.out | exact far2_ hw107_0 GW111.out)) _).trans (((cell_far (p := ⟨gb111, _, none⟩) (by first | exact far_ hw107_0 GW111.out | (rw [add_block]; exact far_ hw107_0 GW111.out) | exact far2_ hw107_0 GW111.out | (rw [add_block]; exact far2_ hw107_0 GW111.out) | (show (Addr.add _ _).block ≠ _; rw [add_block]; first | exact far_ hw107_0 GW111.out | exact far2_ hw107_0 GW111.out)) _).trans (((cell_far (p := ⟨gb111, _, none⟩) (by first | exact far_ hw107_0 GW111.out | (rw [add_block]; exact far_ hw107_0 GW111.out) | exact far2_ hw107_0 GW111.out | (rw [add_block]; exact far2_ hw107_0 GW111.out) | (show (Addr.add _ _).block ≠ _; rw [add_block]; first | exact far_ hw107_0 GW111.out | exact far2_ hw107_0 GW111.out)) _).trans (((cell_far (p := ⟨gb111, _, none⟩) (by first | exact far_ hw107_0 GW111.out | (rw [add_block]; exact far_ hw107_0 GW111.out) | exact far2_ hw107_0 GW111.out | (rw [add_block]; exact far2_ hw107_0 GW111.out) | (show (Addr.add _ _).block ≠ _; rw [add_block]; first | exact far_ hw107_0 GW111.out | exact far2_ hw107_0 GW111.out)) _).trans (((cell_far (p := ⟨gb111, _, none⟩) (by first | exact far_ hw107_0 GW111.out | (rw [add_block]; exact far_ hw107_0 GW111.out) | exact far2_ hw107_0 GW111.out | (rw [add_block]; exact far2_ hw107_0 GW111.out) | (show (Addr.add _ _).block ≠ _; rw [add_block]; first | exact far_ hw107_0 GW111.out | exact far2_ hw107_0 GW111.out)) _).trans (((cell_far (p := ⟨gb111, _, none⟩) (by first | exact far_ hw107_0 GW111.out | (rw [add_block]; exact far_ hw107_0 GW111.out) | exact far2_ hw107_0 GW111.out | (rw [add_block]; exact far2_ hw107_0 GW111.out) | (show (Addr.add _ _).block ≠ _; rw [add_block]; first | exact far_ hw107_0 GW111.out | exact far2_ hw107_0 GW111.out)) _).trans (hHeld.2.2.1)))))))))))), ((cell_far (p := ⟨gb111, _, none⟩) (by first | exact far_ hw107_1 GW111.out | (rw [add_block]; exact far_ hw107_1 GW111.out) | exact far2_ hw107_1 GW111.out | (rw [add_block]; exact far2_ hw107_1 GW111.out) | (show (Addr.add _ _).block ≠ _; rw [add_block]; first | exact far_ hw107_1 GW111.out | exact far2_ hw107_1 GW111.out)) _).trans (((cell_far (p := ⟨gb111, _, none⟩) (by first | exact far_ hw107_1 GW111.out | (rw [add_block]; exact far_ hw107_1 GW111.out) | exact far2_ hw107_1 GW111.out | (rw [add_block]; exact far2_ hw107_1 GW111.out) | (show (Addr.add _ _).block ≠ _; rw [add_block]; first | exact far_ hw107_1 GW111.out | exact far2_ hw107_1 GW111.out)) _).trans (((cell_far (p := ⟨gb111, _, none⟩) (by first | exact far_ hw107_1 GW111.out | (rw [add_block]; exact far_ hw107_1 GW111.out) | exact far2_ hw107_1 GW111.out | (rw [add_block]; exact far2_ hw107_1 GW111.out) | (show (Addr.add _ _).block ≠ _; rw [add_block]; first | exact far_ hw107_1 GW111.out | exact far2_ hw107_1 GW111.out)) _).trans (((cell_far (p := ⟨gb111, _, none⟩) (by first | exact far_ hw107_1 GW111.out | (rw [add_block]; exact far_ hw107_1 GW111.out) | exact far2_ hw107_1 GW111.out | (rw [add_block]; exact far2_ hw107_1 GW111.out) | (show (Addr.add _ _).block ≠ _; rw [add_block]; first | exact far_ hw107_1 GW111.out | exact far2_ hw107_1 GW111.out)) _).trans (((cell_far (p := ⟨gb111, _, none⟩) (by first | exact far_ hw107_1 GW111.out | (rw [add_block]; exact far_ hw107_1 GW111.out) | exact far2_ hw107_1 GW111.out | (rw [add_block]; exact far2_ hw107_1 GW111.out) | (show (Addr.add _ _).block ≠ _; rw [add_block]; first | exact far_ hw107_1 GW111.out | exact far2_ hw107_1 GW111.out)) _).trans (((cell_far (p := ⟨gb111, _, none⟩) (by first | exact far_ hw107_1 GW111.out | (rw [add_block]; exact far_ hw107_1 GW111.out) | exact far2_ hw107_1 GW111.out | (rw [add_block]; exact far2_ hw107_1 GW111.out) | (show (Addr.add _ _).block ≠ _; rw [add_block]; first | exact far_ hw107_1 GW111.out | exact far2_ hw107_1 GW111.out)) _).trans (hHeld.2.2.2.1)))))))))))), ((cell_far (p := ⟨gb111, _, none⟩) (by first | exact far_ hw108_0 GW111.out | (rw [add_block]; exact far_ hw108_0 GW111.out) | exact far2_ hw108_0 GW111.out | (rw [add_block]; exact far2_ hw108_0 GW111.out) | (show (Addr.add _ _).block ≠ _; rw [add_block]; first | exact far_ hw108_0 GW111.out | exact far2_ hw108_0 GW111.out)) _).trans (((cell_far (p := ⟨gb111, _, none⟩) (by first | exact far_ hw108_0 GW111.out | (rw [add_block]; exact far_ hw108_0 GW111.out) | exact far2_ hw108_0 GW111.out | (rw [add_block]; exact far2_ hw108_0 GW111.out) | (show (Addr.add _ _).block ≠ _; rw [add_block]; first | exact far_ hw108_0 GW111.out | exact far2_ hw108_0 GW111.out)) _).trans (((cell_far (p := ⟨gb111, _, none⟩) (by first | exact far_ hw108_0 GW111.out | (rw [add_block]; exact far_ hw108_0 GW111.out) | exact far2_ hw108_0 GW111.out | (rw [add_block]; exact far2_ hw108_0 GW111.out) | (show (Addr.add _ _).block ≠ _; rw [add_block]; first | exact far_ hw108_0 GW111.out | exact far2_ hw108_0 GW111.out)) _).trans (((cell_far (p := ⟨gb111, _, none⟩) (by first | exact far_ hw108_0 GW111.out | (rw [add_block]; exact far_ hw108_0 GW111.out) | exact far2_ hw108_0 GW111.out | (rw [add_block]; exact far2_ hw108_0 GW111.out) | (show (Addr.add _ _).block ≠ _; rw [add_block]; first | exact far_ hw108_0 GW111.out | exact far2_ hw108_0 GW111.out)) _).trans (((cell_far (p := ⟨gb111, _, none⟩) (by first | exact far_ hw108_0 GW111.out | (rw [add_block]; exact far_ hw108_0 GW111.out) | exact far2_ hw108_0 GW111.out | (rw [add_block]; exact far2_ hw108_0 GW111.out) | (show (Addr.add _ _).block ≠ _; rw [add_block]; first | exact far_ hw108_0 GW111.out | exact far2_ hw108_0 GW111.out)) _).trans (((cell_far (p := ⟨gb111, _, none⟩) (by first | exact far_ hw108_0 GW111.out | (rw [add_block]; exact far_ hw108_0 GW111.out) | exact far2_ hw108_0 GW111.out | (rw [add_block]; exact far2_ hw108_0 GW111.out) | (show (Addr.add _ _).block ≠ _; rw [add_block]; first | exact far_ hw108_0 GW111.out | exact far2_ hw108_0 GW111.out)) _).trans (hHeld.2.2.2.2.1)))))))))))), ((cell_far (p := ⟨gb111, _, none⟩) (by first | exact far_ hw108_1 GW111.out | (rw [add_block]; exact far_ hw108_1 GW111.out) | exact far2_ hw108_1 GW111.out | (rw [add_block]; exact far2_ hw108_1 GW111.out) | (show (Addr.add _ _).block ≠ _; rw [add_block]; first | exact far_ hw108_1 GW111.out | exact far2_ hw108_1 GW111.out)) _).trans (((cell_far (p := ⟨gb111, _, none⟩) (by first | exact far_ hw108_1 GW111.out | (rw [add_block]; exact far_ hw108_1 GW111.out) | exact far2_ hw108_1 GW111.out | (rw [add_block]; exact far2_ hw108_1 GW111.out) | (show (Addr.add _ _).block ≠ _; rw [add_block]; first | exact far_ hw108_1 GW111.out | exact far2_ hw108_1 GW111.out)) _).trans (((cell_far (p := ⟨gb111, _, none⟩) (by first | exact far_ hw108_1 GW111.out | (rw [add_block]; exact far_ hw108_1 GW111.out) | exact far2_ hw108_1 GW111.out | (rw [add_block]; exact far2_ hw108_1 GW111.out) | (show (Addr.add _ _).block ≠ _; rw [add_block]; first | exact far_ hw108_1 GW111.out | exact far2_ hw108_1 GW111.out)) _).trans (((cell_far (p := ⟨gb111, _, none⟩) (by first | exact far_ hw108_1 GW111.out | (rw [add_block]; exact far_ hw108_1 GW111.out) | exact far2_ hw108_1 GW111.out | (rw [add_block]; exact far2_ hw108_1 GW111.out) | (show (Addr.add _ _).block ≠ _; rw [add_block]; first | exact far_ hw108_1 GW111.out | exact far2_ hw108_1 GW111.out)) _).trans (((cell_far (p := ⟨gb111, _, none⟩) (by first | exact far_ hw108_1 GW111.out | (rw [add_block]; exact far_ hw108_1 GW111.out) | exact far2_ hw108_1 GW111.out | (rw [add_block]; exact far2_ hw108_1 GW111.out) | (show (Addr.add _ _).block ≠ _; rw [add_block]; first | exact far_ hw108_1 GW111.out | exact far2_ hw108_1 GW111.out)) _).trans (((cell_far (p := ⟨gb111, _, none⟩) (by first | exact far_ hw108_1 GW111.out | (rw [add_block]; exact far_ hw108_1 GW111.out) | exact far2_ hw108_1 GW111.out | (rw [add_block]; exact far2_ hw108_1 GW111.out) | (show (Addr.add _ _).block ≠ _; rw [add_block]; first | exact far_ hw108_1 GW111.out | exact far2_ hw108_1 GW111.out)) _).trans (hHeld.2.2.2.2.2.1)))))))))))), ((cell_far (p := ⟨gb111, _, none⟩) (by first | exact far_ hw109_0 GW111.out | (rw [add_block]; exact far_ hw109_0 GW111.out) | exact far2_ hw109_0 GW111.out | (rw [add_block]; exact far2_ hw109_0 GW111.out) | (show (Addr.add _ _).block ≠ _; rw [add_block]; first | exact far_ hw109_0 GW111.out | exact far2_ hw109_0 GW111.out)) _).trans (((cell_far (p := ⟨gb111, _, none⟩) (by first | exact far_ hw109_0 GW111.out | (rw [add_block]; exact far_ hw109_0 GW111.out) | exact far2_ hw109_0 GW111.out | (rw [add_block]; exact far2_ hw109_0 GW111.out) | (show (Addr.add _ _).block ≠ _; rw [add_block]; first | exact far_ hw109_0 GW111.out | exact far2_ hw109_0 GW111.out)) _).trans (((cell_far (p := ⟨gb111, _, none⟩) (by first | exact far_ hw109_0 GW111.out | (rw [add_block]; exact far_ hw109_0 GW111.out) | exact far2_ hw109_0 GW111.out | (rw [add_block]; exact far2_ hw109_0 GW111.out) | (show (Addr.add _ _).block ≠ _; rw [add_block]; first | exact far_ hw109_0 GW111.out | exact far2_ hw109_0 GW111.out)) _).trans (((cell_far (p := ⟨gb111, _, none⟩) (by first | exact far_ hw109_0 GW111.out | (rw [add_block]; exact far_ hw109_0 GW111.out) | exact far2_ hw109_0 GW111.out | (rw [add_block]; exact far2_ hw109_0 GW111.out) | (show (Addr.add _ _).block ≠ _; rw [add_block]; first | exact far_ hw109_0 GW111.out | exact far2_ hw109_0 GW111.out)) _).trans (((cell_far (p := ⟨gb111, _, none⟩) (by first | exact far_ hw109_0 GW111.out | (rw [add_block]; exact far_ hw109_0 GW111.out) | exact far2_ hw109_0 GW111.out | (rw [add_block]; exact far2_ hw109_0 GW111.out) | (show (Addr.add _ _).block ≠ _; rw [add_block]; first | exact far_ hw109_0 GW111.out | exact far2_ hw109_0 GW111.out)) _).trans (((cell_far (p := ⟨gb111, _, none⟩) (by first | exact far_ hw109_0 GW111.out | (rw [add_block]; exact far_ hw109_0 GW111.out) | exact far2_ hw109_0 GW111.out | (rw [add_block]; exact far2_ hw109_0 GW111.out) | (show (Addr.add _ _).block ≠ _; rw [add_block]; first | exact far_ hw109_0 GW111.out | exact far2_ hw109_0 GW111.out)) _).trans (hHeld.2.2.2.2.2.2.1)))))))))))), ((cell_far (p := ⟨gb111, _, none⟩) (by first | exact far_ hw109_1 GW111.out | (rw [add_block]; exact far_ hw109_1 GW111.out) | exact far2_ hw109_1 GW111.out | (rw [add_block]; exact far2_ hw109_1 GW111.out) | (show (Addr.add _ _).block ≠ _; rw [add_block]; first | exact far_ hw109_1 GW111.out | exact far2_ hw109_1 GW111.out)) _).trans (((cell_far (p := ⟨gb111, _, none⟩) (by first | exact far_ hw109_1 GW111.out | (rw [add_block]; exact far_ hw109_1 GW111.out) | exact far2_ hw109_1 GW111.out | (rw [add_block]; exact far2_ hw109_1 GW111.out) | (show (Addr.add _ _).block ≠ _; rw [add_block]; first | exact far_ hw109_1 GW111.out | exact far2_ hw109_1 GW111.out)) _).trans (((cell_far (p := ⟨gb111, _, none⟩) (by first | exact far_ hw109_1 GW111.out | (rw [add_block]; exact far_ hw109_1 GW111.out) | exact far2_ hw109_1 GW111.out | (rw [add_block]; exact far2_ hw109_1 GW111.out) | (show (Addr.add _ _).block ≠ _; rw [add_block]; first | exact far_ hw109_1 GW111.out | exact far2_ hw109_1 GW111.out)) _).trans (((cell_far (p := ⟨gb111, _, none⟩) (by first | exact far_ hw109_1 GW111.out | (rw [add_block]; exact far_ hw109_1 GW111.out) | exact far2_ hw109_1 GW111.out | (rw [add_block]; exact far2_ hw109_1 GW111.out) | (show (Addr.add _ _).block ≠ _; rw [add_block]; first | exact far_ hw109_1 GW111.out | exact far2_ hw109_1 GW111.out)) _).trans (((cell_far (p := ⟨gb111, _, none⟩) (by first | exact far_ hw109_1 GW111.out | (rw [add_block]; exact far_ hw109_1 GW111.out) | exact far2_ hw109_1 GW111.out | (rw [add_block]; exact far2_ hw109_1 GW111.out) | (show (Addr.add _ _).block ≠ _; rw [add_block]; first | exact far_ hw109_1 GW111.out | exact far2_ hw109_1 GW111.out)) _).trans (((cell_far (p := ⟨gb111, _, none⟩) (by first | exact far_ hw109_1 GW111.out | (rw [add_block]; exact far_ hw109_1 GW111.out) | exact far2_ hw109_1 GW111.out | (rw [add_block]; exact far2_ hw109_1 GW111.out) | (show (Addr.add _ _).block ≠ _; rw [add_block]; first | exact far_ hw109_1 GW111.out | exact far2_ hw109_1 GW111.out)) _).trans (hHeld.2.2.2.2.2.2.2.1)))))))))))), ((cell_far (p := ⟨gb111, _, none⟩) (by first | exact far_ hw110_0 GW111.out | (rw [add_block]; exact far_ hw110_0 GW111.out) | exact far2_ hw110_0 GW111.out | (rw [add_block]; exact far2_ hw110_0 GW111.out) | (show (Addr.add _ _).block ≠ _; rw [add_block]; first | exact far_ hw110_0 GW111.out | exact far2_ hw110_0 GW111.out)) _).trans (((cell_far (p := ⟨gb111, _, none⟩) (by first | exact far_ hw110_0 GW111.out | (rw [add_block]; exact far_ hw110_0 GW111.out) | exact far2_ hw110_0 GW111.out | (rw [add_block]; exact far2_ hw110_0 GW111.out) | (show (Addr.add _ _).block ≠ _; rw [add_block]; first | exact far_ hw110_0 GW111.out | exact far2_ hw110_0 GW111.out)) _).trans (((cell_far (p := ⟨gb111, _, none⟩) (by first | exact far_ hw110_0 GW111.out | (rw [add_block]; exact far_ hw110_0 GW111.out) | exact far2_ hw110_0 GW111.out | (rw [add_block]; exact far2_ hw110_0 GW111.out) | (show (Addr.add _ _).block ≠ _; rw [add_block]; first | exact far_ hw110_0 GW111.out | exact far2_ hw110_0 GW111.out)) _).trans (((cell_far (p := ⟨gb111, _, none⟩) (by first | exact far_ hw110_0 GW111.out | (rw [add_block]; exact far_ hw110_0 GW111.out) | exact far2_ hw110_0 GW111.out | (rw [add_block]; exact far2_ hw110_0 GW111.out) | (show (Addr.add _ _).block ≠ _; rw [add_block]; first | exact far_ hw110_0 GW111.out | exact far2_ hw110_0 GW111.out)) _).trans (((cell_far (p := ⟨gb111, _, none⟩) (by first | exact far_ hw110_0 GW111.out | (rw [add_block]; exact far_ hw110_0 GW111.out) | exact far2_ hw110_0 GW111.out | (rw [add_block]; exact far2_ hw110_0 GW111.out) | (show (Addr.add _ _).block ≠ _; rw [add_block]; first | exact far_ hw110_0 GW111.out | exact far2_ hw110_0 GW111.out)) _).trans (((cell_far (p := ⟨gb111, _, none⟩) (by first | exact far_ hw110_0 GW111.out | (rw [add_block]; exact far_ hw110_0 GW111.out) | exact far2_ hw110_0 GW111.out | (rw [add_block]; exact far2_ hw110_0 GW111.out) | (show (Addr.add _ _).block ≠ _; rw [add_block]; first | exact far_ hw110_0 GW111.out | exact far2_ hw110_0 GW111.out)) _).trans (hHeld.2.2.2.2.2.2.2.2.1)))))))))))), ((cell_far (p := ⟨gb111, _, none⟩) (by first | exact far_ hw110_1 GW111.out | (rw [add_block]; exact far_ hw110_1 GW111.out) | exact far2_ hw110_1 GW111.out | (rw [add_block]; exact far2_ hw110_1 GW111.out) | (show (Addr.add _ _).block ≠ _; rw [add_block]; first | exact far_ hw110_1 GW111.out | exact far2_ hw110_1 GW111.out)) _).trans (((cell_far (p := ⟨gb111, _, none⟩) (by first | exact far_ hw110_1 GW111.out | (rw [add_block]; exact far_ hw110_1 GW111.out) | exact far2_ hw110_1 GW111.out | (rw [add_block]; exact far2_ hw110_1 GW111.out) | (show (Addr.add _ _).block ≠ _; rw [add_block]; first | exact far_ hw110_1 GW111.out | exact far2_ hw110_1 GW111.out)) _).trans (((cell_far (p := ⟨gb111, _, none⟩) (by first | exact far_ hw110_1 GW111.out | (rw [add_block]; exact far_ hw110_1 GW111.out) | exact far2_ hw110_1 GW111.out | (rw [add_block]; exact far2_ hw110_1 GW111.out) | (show (Addr.add _ _).block ≠ _; rw [add_block]; first | exact far_ hw110_1 GW111.out | exact far2_ hw110_1 GW111.out)) _).trans (((cell_far (p := ⟨gb111, _, none⟩) (by first | exact far_ hw110_1 GW111.out | (rw [add_block]; exact far_ hw110_1 GW111.out) | exact far2_ hw110_1 GW111.out | (rw [add_block]; exact far2_ hw110_1 GW111.out) | (show (Addr.add _ _).block ≠ _; rw [add_block]; first | exact far_ hw110_1 GW111.out | exact far2_ hw110_1 GW111.out)) _).trans (((cell_far (p := ⟨gb111, _, none⟩) (by first | exact far_ hw110_1 GW111.out | (rw [add_block]; exact far_ hw110_1 GW111.out) | exact far2_ hw110_1 GW111.out | (rw [add_block]; exact far2_ hw110_1 GW111.out) | (show (Addr.add _ _).block ≠ _; rw [add_block]; first | exact far_ hw110_1 GW111.out | exact far2_ hw110_1 GW111.out)) _).trans (((cell_far (p := ⟨gb111, _, none⟩) (by first | exact far_ hw110_1 GW111.out | (rw [add_block]; exact far_ hw110_1 GW111.out) | exact far2_ hw110_1 GW111.out | (rw [add_block]; exact far2_ hw110_1 GW111.out) | (show (Addr.add _ _).block ≠ _; rw [add_block]; first | exact far_ hw110_1 GW111.out | exact far2_ hw110_1 GW111.out)) _).trans (hHeld.2.2.2.2.2.2.2.2.2))))))))))))⟩ (fun hHeld => ?_)
                      clear hK K
                      refine done_ (done_of HT_.out (by kernel_rfl)) ?_
                      obtain ⟨Ao61, co61, eo61⟩ := Kd.R_slice HO_7.out
                      subst eo61
                      try go_wp2
                      have n0_ : Aside0 (Kd.R k52 52 ((((((w54.setCell ⟨gb111, 0, none⟩ (.int .i64 t106)).setCell ⟨gb111, 1, none⟩ (.int .i64 1)).setCell ⟨gb111, 2, none⟩ (.int .i64 ((rd_T41 l0 x8_2).f1))).setCell ⟨gb111, 3, none⟩ (.int .i64 ((rd_T41 l0 x8_2).f1))).setCell ⟨gb111, 4, none⟩ (.int .i64 ((rd_T41 l0 x8_2).f1))).setCell ⟨gb111, 5, none⟩ (.int .i64 ((rd_T41 l0 x8_2).f1))) w.heap.size (fun k_ => k_ ≠ gb111) (.slice Ao61 x7_2.length co61) x7_2) := ⟨by (with_reducible repeat (first | apply Kd.R_alloc | apply Kd.R_drewN | apply Kd.R_drew)); exact Kd.R_mono (Kd.R_far (p := ⟨gb111, 5, none⟩) (Kd.R_far (p := ⟨gb111, 4, none⟩) (Kd.R_far (p := ⟨gb111, 3, none⟩) (Kd.R_far (p := ⟨gb111, 2, none⟩) (Kd.R_far (p := ⟨gb111, 1, none⟩) (Kd.R_far (p := ⟨gb111, 0, none⟩) (Kd.R_mono HO_7.out (fun k_ hk => (⟨hk, hk⟩ : _ ∧ k_ ≠ gb111))) (fun _ hk => hk.2) (.int .i64 t106)) (fun _ hk => hk.2) (.int .i64 1)) (fun _ hk => hk.2) (.int .i64 ((rd_T41 l0 x8_2).f1))) (fun _ hk => hk.2) (.int .i64 ((rd_T41 l0 x8_2).f1))) (fun _ hk => hk.2) (.int .i64 ((rd_T41 l0 x8_2).f1))) (fun _ hk => hk.2) (.int .i64 ((rd_T41 l0 x8_2).f1))) (fun _ hk => hk.1)⟩
                      have n1_ : Aside0 (((((((w54.setCell ⟨gb111, 0, none⟩ (.int .i64 t106)).setCell ⟨gb111, 1, none⟩ (.int .i64 1)).setCell ⟨gb111, 2, none⟩ (.int .i64 ((rd_T41 l0 x8_2).f1))).setCell ⟨gb111, 3, none⟩ (.int .i64 ((rd_T41 l0 x8_2).f1))).setCell ⟨gb111, 4, none⟩ (.int .i64 ((rd_T41 l0 x8_2).f1))).setCell ⟨gb111, 5, none⟩ (.int .i64 ((rd_T41 l0 x8_2).f1))).heap[gb111]? = some (.cells #[.int .i64 t106, .int .i64 1, .int .i64 ((rd_T41 l0 x8_2).f1), .int .i64 ((rd_T41 l0 x8_2).f1), .int .i64 ((rd_T41 l0 x8_2).f1), .int .i64 ((rd_T41 l0 x8_2).f1)] 52 (0, 0))) := ⟨by (with_reducible repeat (first | refine blk_drewN ?_ _ | refine blk_drew ?_ | refine blk_alloc ?_ _)); refine blk_put (cs := #[.int .i64 t106, .int .i64 1, .int .i64 ((rd_T41 l0 x8_2).f1), .int .i64 ((rd_T41 l0 x8_2).f1), .int .i64 ((rd_T41 l0 x8_2).f1), .int .i64 0]) ?_ 5 _ rfl; (with_reducible repeat (first | refine blk_drewN ?_ _ | refine blk_drew ?_ | refine blk_alloc ?_ _)); refine blk_put (cs := #[.int .i64 t106, .int .i64 1, .int .i64 ((rd_T41 l0 x8_2).f1), .int .i64 ((rd_T41 l0 x8_2).f1), .int .i64 0, .int .i64 0]) ?_ 4 _ rfl; (with_reducible repeat (first | refine blk_drewN ?_ _ | refine blk_drew ?_ | refine blk_alloc ?_ _)); refine blk_put (cs := #[.int .i64 t106, .int .i64 1, .int .i64 ((rd_T41 l0 x8_2).f1), .int .i64 0, .int .i64 0, .int .i64 0]) ?_ 3 _ rfl; (with_reducible repeat (first | refine blk_drewN ?_ _ | refine blk_drew ?_ | refine blk_alloc ?_ _)); refine blk_put (cs := #[.int .i64 t106, .int .i64 1, .int .i64 0, .int .i64 0, .int .i64 0, .int .i64 0]) ?_ 2 _ rfl; (with_reducible repeat (first | refine blk_drewN ?_ _ | refine blk_drew ?_ | refine blk_alloc ?_ _)); refine blk_put (cs := #[.int .i64 t106, .int .i64 0, .int .i64 0, .int .i64 0, .int .i64 0, .int .i64 0]) ?_ 1 _ rfl; (with_reducible repeat (first | refine blk_drewN ?_ _ | refine blk_drew ?_ | refine blk_alloc ?_ _)); refine blk_put (cs := #[.int .i64 0, .int .i64 0, .int .i64 0, .int .i64 0, .int .i64 0, .int .i64 0]) ?_ 0 _ rfl; (with_reducible repeat (first | refine blk_drewN ?_ _ | refine blk_drew ?_ | refine blk_alloc ?_ _)); exact BK111.out⟩
                      have n2_ : Aside0 (Below w.heap.size w ((((((w54.setCell ⟨gb111, 0, none⟩ (.int .i64 t106)).setCell ⟨gb111, 1, none⟩ (.int .i64 1)).setCell ⟨gb111, 2, none⟩ (.int .i64 ((rd_T41 l0 x8_2).f1))).setCell ⟨gb111, 3, none⟩ (.int .i64 ((rd_T41 l0 x8_2).f1))).setCell ⟨gb111, 4, none⟩ (.int .i64 ((rd_T41 l0 x8_2).f1))).setCell ⟨gb111, 5, none⟩ (.int .i64 ((rd_T41 l0 x8_2).f1)))) := ⟨by repeat (first | (with_reducible first | exact HB.out | apply below_alloc | apply pw_below_drewN | apply below_drew1 | refine below_set ?_ GE111.out) | exact HB.out)⟩
                      (try clear HO_7)
                      (try clear BK111)
                      (try clear HB)
                      generalize ((((((w54.setCell ⟨gb111, 0, none⟩ (.int .i64 t106)).setCell ⟨gb111, 1, none⟩ (.int .i64 1)).setCell ⟨gb111, 2, none⟩ (.int .i64 ((rd_T41 l0 x8_2).f1))).setCell ⟨gb111, 3, none⟩ (.int .i64 ((rd_T41 l0 x8_2).f1))).setCell ⟨gb111, 4, none⟩ (.int .i64 ((rd_T41 l0 x8_2).f1))).setCell ⟨gb111, 5, none⟩ (.int .i64 ((rd_T41 l0 x8_2).f1))) = w62 at n0_ n1_ n2_ ⊢
                      have HO_7 := n0_
                      have BK111 := n1_
                      have HB := n2_
                      clear n0_ n1_ n2_
                      have n0_ := Aside0.mk (Kd.R_drew HO_7.out)
                      have n1_ := Aside0.mk (blk_drew BK111.out)
                      have n2_ := Aside0.mk (below_drew1 HB.out)
                      clear HO_7
                      clear BK111
                      clear HB
                      have HO_7 := n0_
                      have BK111 := n1_
                      have HB := n2_
                      clear n0_ n1_ n2_
                      refine start_ (n := 13) (S := fun w' => True) (ds := []) #[false, false, false, false, false, false, false, false, false, false, false, false, false] (by kernel_rfl) rfl rfl trivial (fun hHeld => ?_); refine with_tabW lysimeterref16_Buckets.tab12 lysimeterref16_Buckets.bits12 (fun HT_ HW_ => ?_)
                      generalize w62.drew = w63 at HO_7 BK111 HB hHeld ⊢
                      refine pure_ (i := 0) (N := some 58) (v := ?_) (a' := ?_) #[true, false, false, false, false, false, false, false, false, false, false, false, false] rfl rfl (any_of HT_.out (by kernel_rfl)) (fun _ _ _ h => h) (Or.inl ⟨by rfl, ?_⟩) ?_ ?_
                      rotate_left
                      · intro w'
                        go_simp
                        with_reducible rfl
                      rotate_left
                      · simp only [Act.put, List.setIfInBounds_toArray, List.set_cons_zero, List.set_cons_succ, i64_w, i32_w]
                        rfl
                      refine pure_ (i := 1) (N := some 59) (v := ?_) (a' := ?_) #[true, true, false, false, false, false, false, false, false, false, false, false, false] rfl rfl (any_of HT_.out (by kernel_rfl)) (fun _ _ _ h => h) (Or.inl ⟨by rfl, ?_⟩) ?_ ?_
                      rotate_left
                      · intro w'
                        go_simp
                        with_reducible rfl
                      rotate_left
                      · simp only [Act.put, List.setIfInBounds_toArray, List.set_cons_zero, List.set_cons_succ, i64_w, i32_w]
                        rfl
                      refine pure_ (i := 2) (N := some 60) (v := ?_) (a' := ?_) #[true, true, true, false, false, false, false, false, false, false, false, false, false] rfl rfl (any_of HT_.out (by kernel_rfl)) (fun _ _ _ h => h) (Or.inl ⟨by rfl, ?_⟩) ?_ ?_
                      rotate_left
                      · intro w'
                        go_simp
                        with_reducible rfl
                      rotate_left
                      · simp only [Act.put, List.setIfInBounds_toArray, List.set_cons_zero, List.set_cons_succ, i64_w, i32_w]
                        rfl
                      refine pure_ (i := 3) (N := some 61) (v := undef) (a' := ?_) #[true, true, true, true, false, false, false, false, false, false, false, false, false] rfl rfl (any_of HT_.out (by kernel_rfl)) (fun _ _ _ h => h) (Or.inr ⟨by rfl, rfl⟩) ?_ ?_
                      rotate_left
                      · simp only [Act.put, List.setIfInBounds_toArray, List.set_cons_zero, List.set_cons_succ, i64_w, i32_w]
                        rfl
                      refine pure_ (i := 4) (N := some 62) (v := undef) (a' := ?_) #[true, true, true, true, true, false, false, false, false, false, false, false, false] rfl rfl (any_of HT_.out (by kernel_rfl)) (fun _ _ _ h => h) (Or.inr ⟨by rfl, rfl⟩) ?_ ?_
                      rotate_left
                      · simp only [Act.put, List.setIfInBounds_toArray, List.set_cons_zero, List.set_cons_succ, i64_w, i32_w]
                        rfl
                      refine pure_ (i := 5) (N := some 63) (v := undef) (a' := ?_) #[true, true, true, true, true, true, false, false, false, false, false, false, false] rfl rfl (any_of HT_.out (by kernel_rfl)) (fun _ _ _ h => h) (Or.inr ⟨by rfl, rfl⟩) ?_ ?_
                      rotate_left
                      · simp only [Act.put, List.setIfInBounds_toArray, List.set_cons_zero, List.set_cons_succ, i64_w, i32_w]
                        rfl
                      refine pure_ (i := 6) (N := some 64) (v := undef) (a' := ?_) #[true, true, true, true, true, true, true, false, false, false, false, false, false] rfl rfl (any_of HT_.out (by kernel_rfl)) (fun _ _ _ h => h) (Or.inr ⟨by rfl, rfl⟩) ?_ ?_
                      rotate_left
                      · simp only [Act.put, List.setIfInBounds_toArray, List.set_cons_zero, List.set_cons_succ, i64_w, i32_w]
                        rfl
                      refine pure_ (i := 7) (N := some 65) (v := undef) (a' := ?_) #[true, true, true, true, true, true, true, true, false, false, false, false, false] rfl rfl (any_of HT_.out (by kernel_rfl)) (fun _ _ _ h => h) (Or.inr ⟨by rfl, rfl⟩) ?_ ?_
                      rotate_left
                      · simp only [Act.put, List.setIfInBounds_toArray, List.set_cons_zero, List.set_cons_succ, i64_w, i32_w]
                        rfl
                      refine pure_ (i := 8) (N := some 66) (v := undef) (a' := ?_) #[true, true, true, true, true, true, true, true, true, false, false, false, false] rfl rfl (any_of HT_.out (by kernel_rfl)) (fun _ _ _ h => h) (Or.inr ⟨by rfl, rfl⟩) ?_ ?_
                      rotate_left
                      · simp only [Act.put, List.setIfInBounds_toArray, List.set_cons_zero, List.set_cons_succ, i64_w, i32_w]
                        rfl
                      refine pure_ (i := 9) (N := some 67) (v := undef) (a' := ?_) #[true, true, true, true, true, true, true, true, true, true, false, false, false] rfl rfl (any_of HT_.out (by kernel_rfl)) (fun _ _ _ h => h) (Or.inr ⟨by rfl, rfl⟩) ?_ ?_
                      rotate_left
                      · simp only [Act.put, List.setIfInBounds_toArray, List.set_cons_zero, List.set_cons_succ, i64_w, i32_w]
                        rfl
                      refine pure_ (i := 10) (N := some 68) (v := undef) (a' := ?_) #[true, true, true, true, true, true, true, true, true, true, true, false, false] rfl rfl (any_of HT_.out (by kernel_rfl)) (fun _ _ _ h => h) (Or.inr ⟨by rfl, rfl⟩) ?_ ?_
                      rotate_left
                      · simp only [Act.put, List.setIfInBounds_toArray, List.set_cons_zero, List.set_cons_succ, i64_w, i32_w]
                        rfl
                      refine pure_ (i := 11) (N := some 69) (v := undef) (a' := ?_) #[true, true, true, true, true, true, true, true, true, true, true, true, false] rfl rfl (any_of HT_.out (by kernel_rfl)) (fun _ _ _ h => h) (Or.inr ⟨by rfl, rfl⟩) ?_ ?_
                      rotate_left
                      · simp only [Act.put, List.setIfInBounds_toArray, List.set_cons_zero, List.set_cons_succ, i64_w, i32_w]
                        rfl
                      refine pure_ (i := 12) (N := some 70) (v := ?_) (a' := ?_) #[true, true, true, true, true, true, true, true, true, true, true, true, true] rfl rfl (any_of HT_.out (by kernel_rfl)) (fun _ _ _ h => h) (Or.inl ⟨by rfl, ?_⟩) ?_ ?_
                      rotate_left
                      · intro w'
                        go_simp
                        with_reducible rfl
                      rotate_left
                      · simp only [Act.put, List.setIfInBounds_toArray, List.set_cons_zero, List.set_cons_succ, i64_w, i32_w]
                        rfl
                      refine done_ (done_of HT_.out (by kernel_rfl)) ?_
                      have hcz64_0 : w63.cell? ⟨gb111, 0, none⟩ = some (.int .i64 t106) := (blk_cell BK111.out 0).trans rfl
                      have hcz64_1 : w63.cell? ⟨gb111, 1, none⟩ = some (.int .i64 1) := (blk_cell BK111.out 1).trans rfl
                      have hcz64_2 : w63.cell? ⟨gb111, 2, none⟩ = some (.int .i64 ((rd_T41 l0 x8_2).f1)) := (blk_cell BK111.out 2).trans rfl
                      have hcz64_3 : w63.cell? ⟨gb111, 3, none⟩ = some (.int .i64 ((rd_T41 l0 x8_2).f1)) := (blk_cell BK111.out 3).trans rfl
                      have hcz64_4 : w63.cell? ⟨gb111, 4, none⟩ = some (.int .i64 ((rd_T41 l0 x8_2).f1)) := (blk_cell BK111.out 4).trans rfl
                      have hcz64_5 : w63.cell? ⟨gb111, 5, none⟩ = some (.int .i64 ((rd_T41 l0 x8_2).f1)) := (blk_cell BK111.out 5).trans rfl
                      have hfz64_0 := blk_frozen BK111.out 0
                      have hfz64_1 := blk_frozen BK111.out 1
                      have hfz64_2 := blk_frozen BK111.out 2
                      have hfz64_3 := blk_frozen BK111.out 3
                      have hfz64_4 := blk_frozen BK111.out 4
                      have hfz64_5 := blk_frozen BK111.out 5
                      try go_wp2_with (first | ((with_reducible refine gate_builtin (b := .append) (xs := #[.tmp 82, .tmp 84]) rfl ?_); at_builtin; refine Kd.R_append k52 (w0 := w) w.heap.size rfl (.tmp 82) (.tmp 84) 42 52 (.agg #[(.int .i64 0), (.int .i64 0), (.int .i64 0), (.int .i64 0), (.int .i64 0), (.int .i64 0)]) 48 rfl Try.underlying42 info52 rfl (by decide) (by omega) (.slice Ao61 x7_2.length co61) x7_2 (⟨t106, 1, (rd_T41 l0 x8_2).f1, (rd_T41 l0 x8_2).f1, (rd_T41 l0 x8_2).f1, (rd_T41 l0 x8_2).f1⟩ : S52) [.int .i64 t106, .int .i64 1, .int .i64 ((rd_T41 l0 x8_2).f1), .int .i64 ((rd_T41 l0 x8_2).f1), .int .i64 ((rd_T41 l0 x8_2).f1), .int .i64 ((rd_T41 l0 x8_2).f1)] (fun k_ => k_ ≠ gb111) (fun _ => False) rfl rfl ?aP (fun _ hk => hk.elim) ?aF ?aO ?aB ?aS ?aL ?_; (case aP => exact k52_mkM _ _ _ (⟨t106, 1, (rd_T41 l0 x8_2).f1, (rd_T41 l0 x8_2).f1, (rd_T41 l0 x8_2).f1, (rd_T41 l0 x8_2).f1⟩ : S52)); (case aB => exact (by repeat (first | (with_reducible first | exact HB.out | apply below_alloc | apply pw_below_drewN | apply below_drew1 | refine below_set ?_ GE111.out) | exact HB.out))); (case aF => exact (fun k_ hk => Kd.freshB (g := gb111) (o := .cells #[.int .i64 t106, .int .i64 1, .int .i64 ((rd_T41 l0 x8_2).f1), .int .i64 ((rd_T41 l0 x8_2).f1), .int .i64 ((rd_T41 l0 x8_2).f1), .int .i64 ((rd_T41 l0 x8_2).f1)] 52 (0, 0)) (by (with_reducible repeat (first | refine blk_drewN ?_ _ | refine blk_drew ?_ | refine blk_alloc ?_ _)); exact BK111.out) k_ hk)); (case aO => exact (by (with_reducible repeat (first | apply Kd.R_alloc | apply Kd.R_drewN | apply Kd.R_drew)); exact HO_7.out)); (case aS => exact (below_size (by repeat (first | (with_reducible first | exact HB.out | apply below_alloc | apply pw_below_drewN | apply below_drew1 | refine below_set ?_ GE111.out) | exact HB.out)))); (case aL => have := LMc51.out; omega); intro v125 w65 ho hb hg hat; rw [← Ny124.out] at ho; have n0_ := Aside0.mk (blk_grown (g := gb111) (o := .cells #[.int .i64 t106, .int .i64 1, .int .i64 ((rd_T41 l0 x8_2).f1), .int .i64 ((rd_T41 l0 x8_2).f1), .int .i64 ((rd_T41 l0 x8_2).f1), .int .i64 ((rd_T41 l0 x8_2).f1)] 52 (0, 0)) (by (with_reducible repeat (first | refine blk_drewN ?_ _ | refine blk_drew ?_ | refine blk_alloc ?_ _)); exact BK111.out) hg (Kd.R_away HO_7.out (fun _ hk => hk))); have n1_ := Aside0.mk (hb); have n2_ := Aside0.mk (ho); clear BK111; clear HB; clear HO_7; have BK111 := n0_; have HB := n1_; have HO126 := n2_; clear n0_ n1_ n2_; clear ho hb hg hat))
                      go_roundg k2
                      case measure => have := HJ2.out; have := HK2.out; omega
                      case rel => exact ⟨(y124), (wrap64 (x8_2 + 1)), (by first | rfl | (simp; done) | (simp [*]; done)), H', ⟨by have := HJ2.out; have := HK2.out; omega⟩, ⟨by (with_reducible repeat (first | apply Kd.R_alloc | apply Kd.R_drewN | apply Kd.R_drew)); exact Kd.R_mono HO126.out (fun _ hk => trivial)⟩, ⟨by repeat (first | (with_reducible first | exact HB.out | apply below_alloc | apply pw_below_drewN | apply below_drew1 | refine below_set ?_ GE111.out) | exact HB.out)⟩⟩
                    · rw [if_neg c51] at H
                      exact absurd H (by simp)
                · rw [if_neg c12] at H
                  exact absurd H (by simp)
              · rw [if_neg c11] at H
                have c11b0 : decide (x8_2 < (l0.length : Int)) = false := decide_eq_false c11
                clear c11
                simp only [Option.some.injEq, Prod.mk.injEq] at H
                obtain ⟨rfl, rfl⟩ := H
                go_wp2
                go_ret2
                exact ⟨_, by first | rfl | (simp [errW_none, errW_some] <;> rfl) | (simp [*, errW_none, errW_some] <;> rfl), by (with_reducible repeat (first | apply Kd.R_alloc | apply Kd.R_drewN | apply Kd.R_drew)); exact HO_7.out, by repeat (first | (with_reducible first | exact HB.out | apply below_alloc | apply pw_below_drewN | apply below_drew1) | exact HB.out)⟩
        · replace c8 := Bool.eq_false_iff.mpr c8
          subst c8
          have H1 : (some (([] : List (S52)), 21)) = some (r1, r2) := by rw [if_neg (show ¬ (false = true) by decide)] at H; exact H
          clear H
          have H := H1
          clear H1
          simp only [Option.some.injEq, Prod.mk.injEq] at H
          obtain ⟨rfl, rfl⟩ := H
          go_wp2_with (first | ((with_reducible refine gate_callee (f := 41) rfl ?_); refine goesL_ (some 18) rfl rfl Try.func41 (by kernel_rfl) rfl #[.slice A0 l0.length c0] rfl (by (try simp only [List.map_toArray, List.map_cons, List.map_nil]); first | done | rfl | (simp only [List.length_drop, List.length_take]; rfl)) ?_; (with_reducible refine (lysimeterref16_Times.calls _ _ l0 t101 _ ?side1 ?side2 A6.out).mono ?_); (case side1 => repeat (first | exact (Kd.C_below HR0.out HB.out) | (with_reducible refine Kd.C_alloc ?_ _) | (with_reducible refine Kd.C_drewN ?_ _) | (with_reducible refine Kd.C_drew ?_))); (case side2 => exact HC0.out); rintro e w66 ⟨v102, rfl, ho0, hb⟩; refine ⟨_, rfl, ?_⟩; have n0_ := Aside0.mk (Kd.R_lower ho0 (below_size (by repeat (first | (with_reducible first | exact HB.out | apply below_alloc | apply pw_below_drewN | apply below_drew1) | exact HB.out)))); have n1_ := Aside0.mk (below_step (by repeat (first | (with_reducible first | exact HB.out | apply below_alloc | apply pw_below_drewN | apply below_drew1) | exact HB.out)) hb); clear HB; have HO103 := n0_; have HB := n1_; clear n0_ n1_; (try clear hb); (try clear hb2); (try clear hk); (try clear hi); (try clear ho0); obtain ⟨Ao67, co67, eo67⟩ := Kd.R_slice HO103.out; subst eo67) | ((with_reducible refine gate_callee (f := 40) rfl ?_); refine goesL_ (some 19) rfl rfl Try.func40 (by kernel_rfl) rfl #[.slice Ao67 t101.length co67] rfl (by (try simp only [List.map_toArray, List.map_cons, List.map_nil]); first | done | rfl | (simp only [List.length_drop, List.length_take]; rfl)) ?_; (with_reducible refine (lysimeterref4_Rising.calls _ _ t101 false _ ?side1 ?side2 A7.out).mono ?_); (case side1 => repeat (first | exact (Kd.R_reads' HO103.out).2.2 | (with_reducible refine Kd.C_alloc ?_ _) | (with_reducible refine Kd.C_drewN ?_ _) | (with_reducible refine Kd.C_drew ?_))); (case side2 => exact (Kd.R_reads' HO103.out).2.1); rintro e w' ⟨rfl, ⟨nd, rfl⟩⟩; refine ⟨_, rfl, ?_⟩))
          go_ret2
          exact ⟨_, by first | rfl | (simp [errW_none, errW_some] <;> rfl) | (simp [*, errW_none, errW_some] <;> rfl), by first | exact Kd.R_nil _ _ _ _ _ | exact Kd.N_nil _ _ _ _ _ | exact Kd.V_nil _ _ _ _ _ | exact Kd.Q_nil _ _ _ _ _ | exact Kd.S_nil _ _ _ _ _, by repeat (first | (with_reducible first | exact HB.out | apply below_alloc | apply pw_below_drewN | apply below_drew1) | exact HB.out)⟩
end Go.Proofs.Ytdglifoakdkheaa.Rk
end
