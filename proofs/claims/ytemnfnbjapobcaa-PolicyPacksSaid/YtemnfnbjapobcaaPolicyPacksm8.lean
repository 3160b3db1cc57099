-- Laid together by wip/shake.py out of: Prx3 Pol2 Prx4 PtSpec Pol3 Pol4 Pol5
import Derived.Test.YtemnfnbjapobcaaPolicyPacksm7
section
namespace Go.Proofs.Ytemnfnbjapobcaa.Pr
open Go.RowKit Go.Proofs.YtemnfnbjapobcaaW.PrintWords Go.Proofs.YtemnfnbjapobcaaW.PrintLast Go.Proofs.YtemnfnbjapobcaaW.PrintMore
attribute [local go_sem] max2_int min2_int max_two min_two max_three min_three max_four min_four   -- for this text's walks alone
set_option linter.unusedVariables false
set_option linter.unusedSimpArgs false
mutual
def resample_Points.j1 : Nat → List (S70) → Int → List Int → Int → Option (List Int × Int)
  | 0, _, _, _, _ => none
  | k + 1, x0, x3, x11, x12 => if x12 < 0 then (some (([] : List Int), 0)) else (if 0 ≤ x3 then (if (x3 : Int).toNat ≤ 35184372088832 then (if 0 ≤ x12 then (if x12 < (x0.length : Int) then (resample_Points.l1 k x0 x11 (List.replicate (x3 : Int).toNat 0) ((rd_T70 x0 x12).f1) x3 0) else (none)) else (none)) else (none)) else (none))
def resample_Points.l1 : Nat → List (S70) → List Int → List Int → Int → Int → Int → Option (List Int × Int)
  | 0, _, _, _, _, _, _ => none
  | k + 1, x0, x11, x15, x16, x50, x51 => if x51 < x50 then (if 0 ≤ x51 then (if x51 < (x11.length : Int) then (if (rd x11 x51) ≥ 0 then (if 0 ≤ (rd x11 x51) then (if (rd x11 x51) < (x0.length : Int) then (if x51 < (x15.length : Int) then (resample_Points.l1 k x0 x11 (x15.set (x51 : Int).toNat ((rd_T70 x0 (rd x11 x51)).f1)) ((rd_T70 x0 (rd x11 x51)).f1) x50 (wrap64 (x51 + 1))) else (none)) else (none)) else (none)) else (if x51 < (x15.length : Int) then (resample_Points.l1 k x0 x11 (x15.set (x51 : Int).toNat x16) x16 x50 (wrap64 (x51 + 1))) else (none))) else (none)) else (none)) else (some (x15, 0))
def resample_Points.l0 : Nat → List (S70) → Int → List Int → Int → List Int → Int → Int → Option (List Int × Int)
  | 0, _, _, _, _, _, _, _ => none
  | k + 1, x0, x3, x11, x12, x31, x32, x33 => if x33 < x32 then (if 0 ≤ x33 then (if x33 < (x31.length : Int) then (if (rd x31 x33) ≥ 0 then (resample_Points.j1 k x0 x3 x11 (rd x31 x33)) else (resample_Points.l0 k x0 x3 x11 x12 x31 x32 (wrap64 (x33 + 1)))) else (none)) else (none)) else (resample_Points.j1 k x0 x3 x11 x12)
end
def resample_Points.f (k : Nat) (l0 : List (S70)) (a1 : Int) (a2 : Int) (a3 : Int) : Option (List Int × Int) := (resample_ask.f k l0 a1 a2 a3).bind fun t119 => (if t119 = 0 then ((resample_places.f k l0 a1 a2 a3).bind fun t120 => (resample_Points.l0 k l0 a3 t120 (-1) t120 (t120.length : Int) 0)) else (some (([] : List Int), t119)))
set_option maxHeartbeats 8000000 in
set_option maxRecDepth 100000 in
theorem resample_Points.calls (k : Nat) (A0 : Option Addr) (c0 : Nat) (l0 : List (S70)) (a1 : Int) (a2 : Int) (a3 : Int) (r1 : List Int) (r2 : Int) (w : World) (hr0 : Kd.C k70 w A0 l0.length l0) (hc0 : l0.length ≤ c0) (h : resample_Points.f k l0 a1 a2 a3 = some (r1, r2)) :
    Calls Try.prog 139 #[.slice A0 l0.length c0, .int .i64 a1, .int .i64 a2, .int .i64 a3] w fun e w' => ∃ v0_ : Value, e = .returned (.tuple #[v0_, .int .i64 r2]) ∧ Kd.R (Kd.int .i64) 3 w' w.heap.size (fun _ => True) v0_ r1 ∧ Below w.heap.size w w' := by
  have HR0 := Aside0.mk hr0
  have HC0 := Aside0.mk hc0
  clear hr0 hc0
  have HB := Aside0.mk (Below.refl w.heap.size w)
  have H : ((resample_ask.f k l0 a1 a2 a3).bind fun t119 => (if t119 = 0 then ((resample_places.f k l0 a1 a2 a3).bind fun t120 => (resample_Points.l0 k l0 a3 t120 (-1) t120 (t120.length : Int) 0)) else (some (([] : List Int), t119)))) = some (r1, r2) := h
  clear h
  replace H := Option.bind_eq_some_iff.mp H
  obtain ⟨t119, A50, H⟩ := H
  replace H : (if t119 = 0 then ((resample_places.f k l0 a1 a2 a3).bind fun t120 => (resample_Points.l0 k l0 a3 t120 (-1) t120 (t120.length : Int) 0)) else (some (([] : List Int), t119))) = some (r1, r2) := H
  have A5 := Aside0.mk A50
  clear A50
  by_cases c6 : t119 = 0
  · rw [if_pos c6] at H
    have c6b0 : (t119 == 0) = true := beq_iff_eq.mpr c6
    have c6b1 : (t119 != 0) = false := bne_eq_false_iff_eq.mpr c6
    clear c6
    replace H := Option.bind_eq_some_iff.mp H
    obtain ⟨t120, A70, H⟩ := H
    replace H : (resample_Points.l0 k l0 a3 t120 (-1) t120 (t120.length : Int) 0) = some (r1, r2) := H
    have A7 := Aside0.mk A70
    clear A70
    have HC8 := Aside0.mk H
    clear H
    go_enter Try.func139, Try.ntmps139
    go_upto_block 0 with (first | ((with_reducible refine gate_callee (f := 145) rfl ?_); refine goesL_ (some 22) rfl rfl Try.func145 (by kernel_rfl) rfl #[.slice A0 l0.length c0, .int .i64 a1, .int .i64 a2, .int .i64 a3] rfl (by (try simp only [List.map_toArray, List.map_cons, List.map_nil]); first | done | rfl | (simp only [List.length_drop, List.length_take]; rfl)) ?_; (with_reducible refine (resample_ask.calls k _ _ l0 a1 a2 a3 t119 _ ?side1 ?side2 A5.out).mono ?_); (case side1 => repeat (first | exact HR0.out | (with_reducible refine Kd.C_alloc ?_ _) | (with_reducible refine Kd.C_drewN ?_ _) | (with_reducible refine Kd.C_drew ?_))); (case side2 => exact HC0.out); rintro e w9 ⟨rfl, hb⟩; refine ⟨_, rfl, ?_⟩; have n0_ := Aside0.mk (below_step (by repeat (first | (with_reducible first | exact HB.out | apply below_alloc | apply pw_below_drewN | apply below_drew1) | exact HB.out)) hb); clear HB; have HB := n0_; clear n0_; (try clear hb); (try clear hb2); (try clear hk); (try clear hi)) | ((with_reducible refine gate_callee (f := 146) rfl ?_); refine goesL_ (some 30) rfl rfl Try.func146 (by kernel_rfl) rfl #[.slice A0 l0.length c0, .int .i64 a1, .int .i64 a2, .int .i64 a3] rfl (by (try simp only [List.map_toArray, List.map_cons, List.map_nil]); first | done | rfl | (simp only [List.length_drop, List.length_take]; rfl)) ?_; (with_reducible refine (resample_places.calls k _ _ l0 a1 a2 a3 t120 _ ?side1 ?side2 A7.out).mono ?_); (case side1 => repeat (first | exact (Kd.C_below HR0.out HB.out) | (with_reducible refine Kd.C_alloc ?_ _) | (with_reducible refine Kd.C_drewN ?_ _) | (with_reducible refine Kd.C_drew ?_))); (case side2 => exact HC0.out); rintro e w10 ⟨v121, rfl, ho0, hb⟩; refine ⟨_, rfl, ?_⟩; have n0_ := Aside0.mk (Kd.R_lower ho0 (below_size (by repeat (first | (with_reducible first | exact HB.out | apply below_alloc | apply pw_below_drewN | apply below_drew1) | exact HB.out)))); have n1_ := Aside0.mk (below_step (by repeat (first | (with_reducible first | exact HB.out | apply below_alloc | apply pw_below_drewN | apply below_drew1) | exact HB.out)) hb); clear HB; have HO122 := n0_; have HB := n1_; clear n0_ n1_; (try clear hb); (try clear hb2); (try clear hk); (try clear hi); (try clear ho0); obtain ⟨Ao11, co11, eo11⟩ := Kd.R_slice HO122.out; subst eo11))
    (try simp only [Act.put, List.setIfInBounds_toArray, List.set_cons_zero, List.set_cons_succ])
    go_cut [12] (fun v12 wc => ∃ (kq : Nat) (x12_7 : Int), v12 = .int .i64 x12_7 ∧ Aside0 (resample_Points.j1 kq l0 a3 t120 x12_7 = some (r1, r2)) ∧ Aside0 (kq ≤ k) ∧ Aside0 (Kd.R (Kd.int .i64) 3 wc w.heap.size (fun _ => True) (.slice Ao11 t120.length co11) t120) ∧ Aside0 (Below w.heap.size w wc))
    case first =>
      have H := HC8.out
      clear HC8
      have H' := Aside0.mk H
      clear H
      go_wp2
      go_loopg [12, 33] k (fun kq v12 v33 w' => ∃ (x12_1 : Int) (x33_1 : Int), v12 = .int .i64 x12_1 ∧ v33 = .int .i64 x33_1 ∧ Aside0 (resample_Points.l0 kq l0 a3 t120 x12_1 t120 (t120.length : Int) x33_1 = some (r1, r2)) ∧ Aside0 (kq ≤ k) ∧ Aside0 (Kd.R (Kd.int .i64) 3 w' w.heap.size (fun _ => True) (.slice Ao11 t120.length co11) t120) ∧ Aside0 (Kd.R (Kd.int .i64) 3 w' w.heap.size (fun _ => True) (.slice Ao11 t120.length co11) t120) ∧ Aside0 (Below w.heap.size w w'))
      case atStart => exact ⟨((-1)), (0), (by first | rfl | (simp; done) | (simp [*]; done)), (by first | rfl | (simp; done) | (simp [*]; done)), H', ⟨Nat.le_refl _⟩, ⟨by (with_reducible repeat (first | apply Kd.R_alloc | apply Kd.R_drewN | apply Kd.R_drew)); exact HO122.out⟩, ⟨by (with_reducible repeat (first | apply Kd.R_alloc | apply Kd.R_drewN | apply Kd.R_drew)); exact HO122.out⟩, ⟨by repeat (first | (with_reducible first | exact HB.out | apply below_alloc | apply pw_below_drewN | apply below_drew1) | exact HB.out)⟩⟩
      case round =>
        clear H'
        try clear c1
        try clear p2
        try clear c6
        try clear c6b0
        try clear c6b1
        obtain ⟨x12_1, x33_1, rfl, rfl, HA, HK1, HO_11, HO_31, HB⟩ := hrel
        cases gk with
        | zero => exact absurd HA.out (by simp [resample_Points.l0])
        | succ k1 =>
          have H := HA.out
          clear HA
          simp only [resample_Points.l0] at H
          by_cases c12 : x33_1 < (t120.length : Int)
          · rw [if_pos c12] at H
            have c12b0 : decide (x33_1 < (t120.length : Int)) = true := decide_eq_true c12
            clear c12
            (first | rw [c12b0] | (simp only [i64_w, i32_w]; rw [c12b0]) | skip)
            by_cases c13 : 0 ≤ x33_1
            · rw [if_pos c13] at H
              have c13b0 : decide (0 ≤ x33_1) = true := decide_eq_true c13
              clear c13
              by_cases c14 : x33_1 < (t120.length : Int)
              · rw [if_pos c14] at H
                have c14b0 : decide (x33_1 < (t120.length : Int)) = true := decide_eq_true c14
                clear c14
                by_cases c15 : (rd t120 x33_1) ≥ 0
                · rw [if_pos c15] at H
                  have c15b0 : decide (0 ≤ (rd t120 x33_1)) = true := decide_eq_true c15
                  clear c15
                  have H' := Aside0.mk H
                  clear H
                  have p123 : 0 ≤ (x33_1 : Int) := of_decide_eq_true (by first | (with_reducible assumption) | assumption)
                  have q123 : x33_1 < (t120.length : Int) := of_decide_eq_true (by first | (with_reducible assumption) | assumption)
                  obtain ⟨ad123, e123, hx123_0⟩ := Kd.at_int (Kd.R_reads' HO_31.out).2.2 x33_1 p123 q123
                  cases e123
                  replace p123 := eq_true p123
                  replace q123 := eq_true q123
                  go_wp2
                  go_meet
                  case rel => exact ⟨_, (rd t120 x33_1), (by first | rfl | (simp; done) | (simp [*]; done)), H', ⟨by have := HK1.out; first | omega | exact Nat.le_refl _⟩, ⟨by (with_reducible repeat (first | apply Kd.R_alloc | apply Kd.R_drewN | apply Kd.R_drew)); exact HO_11.out⟩, ⟨by repeat (first | (with_reducible first | exact HB.out | apply below_alloc | apply pw_below_drewN | apply below_drew1) | exact HB.out)⟩⟩
                · rw [if_neg c15] at H
                  have c15b0 : decide (0 ≤ (rd t120 x33_1)) = false := decide_eq_false c15
                  clear c15
                  have H' := Aside0.mk H
                  clear H
                  have p123 : 0 ≤ (x33_1 : Int) := of_decide_eq_true (by first | (with_reducible assumption) | assumption)
                  have q123 : x33_1 < (t120.length : Int) := of_decide_eq_true (by first | (with_reducible assumption) | assumption)
                  obtain ⟨ad123, e123, hx123_0⟩ := Kd.at_int (Kd.R_reads' HO_31.out).2.2 x33_1 p123 q123
                  cases e123
                  replace p123 := eq_true p123
                  replace q123 := eq_true q123
                  go_wp2
                  go_roundg k1
                  case measure => have := HK1.out; omega
                  case rel => exact ⟨(x12_1), (wrap64 (x33_1 + 1)), (by first | rfl | (simp; done) | (simp [*]; done)), (by first | rfl | (simp; done) | (simp [*]; done)), H', ⟨by have := HK1.out; omega⟩, ⟨by (with_reducible repeat (first | apply Kd.R_alloc | apply Kd.R_drewN | apply Kd.R_drew)); exact HO_11.out⟩, ⟨by (with_reducible repeat (first | apply Kd.R_alloc | apply Kd.R_drewN | apply Kd.R_drew)); exact HO_31.out⟩, ⟨by repeat (first | (with_reducible first | exact HB.out | apply below_alloc | apply pw_below_drewN | apply below_drew1) | exact HB.out)⟩⟩
              · rw [if_neg c14] at H
                exact absurd H (by simp)
            · rw [if_neg c13] at H
              exact absurd H (by simp)
          · rw [if_neg c12] at H
            have c12b0 : decide (x33_1 < (t120.length : Int)) = false := decide_eq_false c12
            clear c12
            (first | rw [c12b0] | (simp only [i64_w, i32_w]; rw [c12b0]) | skip)
            have H' := Aside0.mk H
            clear H
            go_wp2
            go_meet
            case rel => exact ⟨_, (x12_1), (by first | rfl | (simp; done) | (simp [*]; done)), H', ⟨by have := HK1.out; first | omega | exact Nat.le_refl _⟩, ⟨by (with_reducible repeat (first | apply Kd.R_alloc | apply Kd.R_drewN | apply Kd.R_drew)); exact HO_11.out⟩, ⟨by repeat (first | (with_reducible first | exact HB.out | apply below_alloc | apply pw_below_drewN | apply below_drew1) | exact HB.out)⟩⟩
    case rest =>
      clear HC8
      try clear c1
      try clear p1
      try clear q1
      try clear hx1
      try clear p2
      try clear c6
      try clear c6b0
      try clear c6b1
      try clear p6
      try clear c12
      try clear c12b0
      try clear p12
      try clear q12
      try clear hx12
      try clear c13
      try clear c13b0
      try clear c14
      try clear c14b0
      try clear c15
      try clear c15b0
      try clear hx123_0
      try clear p123
      try clear p2
      try clear q123
      obtain ⟨kq, x12_7, rfl, HA, HJ7, HO_11, HB⟩ := hcut
      cases kq with
      | zero => exact absurd HA.out (by simp [resample_Points.j1])
      | succ kj7 =>
        have H := HA.out
        clear HA
        simp only [resample_Points.j1] at H
        by_cases c16 : x12_7 < 0
        · rw [if_pos c16] at H
          have c16b0 : decide (x12_7 < 0) = true := decide_eq_true c16
          clear c16
          simp only [Option.some.injEq, Prod.mk.injEq] at H
          obtain ⟨rfl, rfl⟩ := H
          go_wp2
          go_ret2
          exact ⟨_, by first | rfl | (simp [errW_none, errW_some] <;> rfl) | (simp [*, errW_none, errW_some] <;> rfl), by first | exact Kd.R_nil _ _ _ _ _ | exact Kd.N_nil _ _ _ _ _ | exact Kd.V_nil _ _ _ _ _ | exact Kd.Q_nil _ _ _ _ _ | exact Kd.S_nil _ _ _ _ _, by repeat (first | (with_reducible first | exact HB.out | apply below_alloc | apply pw_below_drewN | apply below_drew1) | exact HB.out)⟩
        · rw [if_neg c16] at H
          have c16b0 : decide (x12_7 < 0) = false := decide_eq_false c16
          clear c16
          by_cases c17 : 0 ≤ a3
          · rw [if_pos c17] at H
            have c17b0 := eq_true c17
            have c17b1 : decide (0 ≤ a3) = true := decide_eq_true c17
            clear c17
            by_cases c18 : (a3 : Int).toNat ≤ 35184372088832
            · rw [if_pos c18] at H
              have c18b0 := eq_true c18
              have c18b1 : decide ((a3 : Int).toNat ≤ 35184372088832) = true := decide_eq_true c18
              clear c18
              obtain ⟨y124, hy124⟩ : ∃ y_ : List Int, y_ = (List.replicate (a3 : Int).toNat 0) := ⟨_, rfl⟩
              replace H : (if 0 ≤ x12_7 then (if x12_7 < (l0.length : Int) then (resample_Points.l1 kj7 l0 t120 y124 ((rd_T70 l0 x12_7).f1) a3 0) else (none)) else (none)) = some (r1, r2) := by first | (rw [hy124]; with_reducible exact H) | (have H2_ := (Option.bind_some _ _).symm.trans H; rw [hy124]; with_reducible exact H2_) | (have H2_ := (Option.bind_some _ _).symm.trans H; with_reducible exact H2_) | with_reducible exact H | (rw [hy124]; exact H) | exact H
              have Ny124 := Aside0.mk hy124
              clear hy124
              by_cases c19 : 0 ≤ x12_7
              · rw [if_pos c19] at H
                have c19b0 : decide (0 ≤ x12_7) = true := decide_eq_true c19
                clear c19
                by_cases c20 : x12_7 < (l0.length : Int)
                · rw [if_pos c20] at H
                  have c20b0 : decide (x12_7 < (l0.length : Int)) = true := decide_eq_true c20
                  clear c20
                  have H' := Aside0.mk H
                  clear H
                  go_wp2_with (first | ((with_reducible refine gate_dst (N := 44) rfl ?_); refine Kd.R_make (Kd.int .i64) _ 3 rfl (N := 44) rfl 23 _ _ rfl a3 rfl rfl Try.underlying23 (.int .i64 0) 8 info3 rfl (by decide) (by omega) 0 (ok := fun _ => True) (okp := fun _ => True) rfl (fun _ hk => hk) trivial (of_decide_eq_true (by first | (with_reducible assumption) | assumption)) (Nat.le_trans (Nat.mul_le_mul_right _ (of_decide_eq_true (by first | (with_reducible assumption) | assumption) : a3.toNat ≤ 35184372088832)) (by omega)) (Below.refl _ _) (Nat.le_refl _) ?_; intro v125 w21 ho22 hb hg_ hnew_; clear hg_ hnew_; (first | rw [← Ny124.out] at ho22 | (simp only [Int.reduceToNat] at ho22; rw [← Ny124.out] at ho22)); have n0_ := Aside0.mk (Kd.R_elder' (by (with_reducible repeat (first | apply Kd.R_alloc | apply Kd.R_drewN | apply Kd.R_drew)); exact HO_11.out) (Kd.R_base ho22) hb); have n1_ := Aside0.mk (Kd.R_lower (Kd.R_new' ho22 (Kd.R_lt (by (with_reducible repeat (first | apply Kd.R_alloc | apply Kd.R_drewN | apply Kd.R_drew)); exact HO_11.out))) (below_size (by repeat (first | (with_reducible first | exact HB.out | apply below_alloc | apply pw_below_drewN | apply below_drew1) | exact HB.out)))); have n2_ := Aside0.mk (below_step (by repeat (first | (with_reducible first | exact HB.out | apply below_alloc | apply pw_below_drewN | apply below_drew1) | exact HB.out)) hb); clear HO_11; clear HB; have HO_11 := n0_; have HO126 := n1_; have HB := n2_; clear n0_ n1_ n2_; clear hb ho22; have p127 : 0 ≤ (x12_7 : Int) := of_decide_eq_true (by first | (with_reducible assumption) | assumption); have q127 : x12_7 < (l0.length : Int) := of_decide_eq_true (by first | (with_reducible assumption) | assumption); obtain ⟨ad127, e127, hx127_0, hx127_1⟩ := at_T70 HR0.out x12_7 p127 q127; cases e127; replace hx127_0 := (HB.out.cell (World.block_lt_of_cell? w _ hx127_0)).trans hx127_0; replace hx127_1 := (HB.out.cell (World.block_lt_of_cell? w _ hx127_1)).trans hx127_1; replace p127 := eq_true p127; replace q127 := eq_true q127))
                  go_loopg [16, 51] kj7 (fun kq v16 v51 w' => ∃ (x15_2 : List Int) (x16_2 : Int) (x51_2 : Int), v16 = .int .i64 x16_2 ∧ v51 = .int .i64 x51_2 ∧ Aside0 (resample_Points.l1 kq l0 t120 x15_2 x16_2 a3 x51_2 = some (r1, r2)) ∧ Aside0 (kq ≤ kj7) ∧ Aside0 (Kd.R (Kd.int .i64) 3 w' w.heap.size (fun k_ => some k_ ≠ (v125 : Value).ownBlock) (.slice Ao11 t120.length co11) t120) ∧ Aside0 (Kd.R (Kd.int .i64) 3 w' w.heap.size (fun k_ => some k_ ≠ ((.slice Ao11 t120.length co11) : Value).ownBlock) v125 x15_2) ∧ Aside0 (Below w.heap.size w w'))
                  case atStart => exact ⟨(y124), ((rd_T70 l0 x12_7).f1), (0), (by first | rfl | (simp; done) | (simp [*]; done)), (by first | rfl | (simp; done) | (simp [*]; done)), H', ⟨Nat.le_refl _⟩, ⟨by (with_reducible repeat (first | apply Kd.R_alloc | apply Kd.R_drewN | apply Kd.R_drew)); exact Kd.R_mono HO_11.out (fun _ hk => hk.2)⟩, ⟨by (with_reducible repeat (first | apply Kd.R_alloc | apply Kd.R_drewN | apply Kd.R_drew)); exact Kd.R_mono HO126.out (fun _ hk => hk.2)⟩, ⟨by repeat (first | (with_reducible first | exact HB.out | apply below_alloc | apply pw_below_drewN | apply below_drew1) | exact HB.out)⟩⟩
                  case round =>
                    clear H'
                    try clear c1
                    try clear p1
                    try clear q1
                    try clear hx1
                    try clear c2
                    try clear p2
                    try clear c6
                    try clear c6b0
                    try clear c6b1
                    try clear p6
                    try clear c12
                    try clear c12b0
                    try clear p12
                    try clear q12
                    try clear hx12
                    try clear c13
                    try clear c13b0
                    try clear c14
                    try clear c14b0
                    try clear c15
                    try clear c15b0
                    try clear c16
                    try clear c16b0
                    try clear c17
                    try clear c17b0
                    try clear c17b1
                    try clear c18
                    try clear c18b0
                    try clear c18b1
                    try clear c19
                    try clear c19b0
                    try clear c20
                    try clear c20b0
                    try clear hx123_0
                    try clear hx127_0
                    try clear hx127_1
                    try clear p1
                    try clear p12
                    try clear p123
                    try clear p127
                    try clear p2
                    try clear p6
                    try clear q1
                    try clear q12
                    try clear q123
                    try clear q127
                    obtain ⟨x15_2, x16_2, x51_2, rfl, rfl, HA, HK2, HO_11, HO_15, HB⟩ := hrel
                    cases gk with
                    | zero => exact absurd HA.out (by simp [resample_Points.l1])
                    | succ k2 =>
                      have H := HA.out
                      clear HA
                      simp only [resample_Points.l1] at H
                      by_cases c23 : x51_2 < a3
                      · rw [if_pos c23] at H
                        have c23b0 : decide (x51_2 < a3) = true := decide_eq_true c23
                        clear c23
                        by_cases c24 : 0 ≤ x51_2
                        · rw [if_pos c24] at H
                          have c24b0 : decide (0 ≤ x51_2) = true := decide_eq_true c24
                          clear c24
                          by_cases c25 : x51_2 < (t120.length : Int)
                          · rw [if_pos c25] at H
                            have c25b0 : decide (x51_2 < (t120.length : Int)) = true := decide_eq_true c25
                            clear c25
                            by_cases c26 : (rd t120 x51_2) ≥ 0
                            · rw [if_pos c26] at H
                              have c26b0 : decide (0 ≤ (rd t120 x51_2)) = true := decide_eq_true c26
                              clear c26
                              by_cases c27 : 0 ≤ (rd t120 x51_2)
                              · rw [if_pos c27] at H
                                have c27b0 : decide (0 ≤ (rd t120 x51_2)) = true := decide_eq_true c27
                                clear c27
                                by_cases c28 : (rd t120 x51_2) < (l0.length : Int)
                                · rw [if_pos c28] at H
                                  have c28b0 : decide ((rd t120 x51_2) < (l0.length : Int)) = true := decide_eq_true c28
                                  clear c28
                                  by_cases c29 : x51_2 < (x15_2.length : Int)
                                  · rw [if_pos c29] at H
                                    have c29b0 : decide (x51_2 < (x15_2.length : Int)) = true := decide_eq_true c29
                                    clear c29
                                    obtain ⟨y131, hy131⟩ : ∃ y_ : List Int, y_ = (x15_2.set (x51_2 : Int).toNat ((rd_T70 l0 (rd t120 x51_2)).f1)) := ⟨_, rfl⟩
                                    replace H : (resample_Points.l1 k2 l0 t120 y131 ((rd_T70 l0 (rd t120 x51_2)).f1) a3 (wrap64 (x51_2 + 1))) = some (r1, r2) := by first | (rw [hy131]; with_reducible exact H) | (have H2_ := (Option.bind_some _ _).symm.trans H; rw [hy131]; with_reducible exact H2_) | (have H2_ := (Option.bind_some _ _).symm.trans H; with_reducible exact H2_) | with_reducible exact H | (rw [hy131]; exact H) | exact H
                                    have Ny131 := Aside0.mk hy131
                                    clear hy131
                                    have H' := Aside0.mk H
                                    clear H
                                    have p128 : 0 ≤ (x51_2 : Int) := of_decide_eq_true (by first | (with_reducible assumption) | assumption)
                                    have q128 : x51_2 < (t120.length : Int) := of_decide_eq_true (by first | (with_reducible assumption) | assumption)
                                    obtain ⟨ad128, e128, hx128_0⟩ := Kd.at_int (Kd.R_reads' HO_11.out).2.2 x51_2 p128 q128
                                    cases e128
                                    replace p128 := eq_true p128
                                    replace q128 := eq_true q128
                                    have p129 : 0 ≤ (x51_2 : Int) := of_decide_eq_true (by first | (with_reducible assumption) | assumption)
                                    have q129 : x51_2 < (t120.length : Int) := of_decide_eq_true (by first | (with_reducible assumption) | assumption)
                                    obtain ⟨ad129, e129, hx129_0⟩ := Kd.at_int (Kd.R_reads' HO_11.out).2.2 x51_2 p129 q129
                                    obtain rfl : ad128 = ad129 := (by injection e129)
                                    replace p129 := eq_true p129
                                    replace q129 := eq_true q129
                                    have p130 : 0 ≤ ((rd t120 x51_2) : Int) := of_decide_eq_true (by first | (with_reducible assumption) | assumption)
                                    have q130 : (rd t120 x51_2) < (l0.length : Int) := of_decide_eq_true (by first | (with_reducible assumption) | assumption)
                                    obtain ⟨ad130, e130, hx130_0, hx130_1⟩ := at_T70 HR0.out (rd t120 x51_2) p130 q130
                                    obtain rfl : ad127 = ad130 := (by injection e130)
                                    replace hx130_0 := (HB.out.cell (World.block_lt_of_cell? w _ hx130_0)).trans hx130_0
                                    replace hx130_1 := (HB.out.cell (World.block_lt_of_cell? w _ hx130_1)).trans hx130_1
                                    replace p130 := eq_true p130
                                    replace q130 := eq_true q130
                                    have p30 : 0 ≤ (x51_2 : Int) := of_decide_eq_true (by first | (with_reducible assumption) | assumption)
                                    have q30 : (x51_2 : Int) < ((x15_2.length : Int) : Int) := of_decide_eq_true (by first | (with_reducible assumption) | assumption)
                                    obtain ⟨go30, co30, eo30, gb30, gl30, cl30, HG30⟩ := Kd.R_form HO_15.out (by omega)
                                    (first | cases eo30 | (injection eo30 with ea_ en_ ec_; (first | subst ea_ | (injection ea_ with ea_; subst ea_)); subst ec_; clear en_))
                                    have GB30 := Aside0.mk gb30
                                    have GG30 := Aside0.mk HG30
                                    clear gb30 gl30 HG30
                                    obtain ⟨hx30_0, hf30_0⟩ := Kd.R_celln 0 HO_15.out (x51_2 : Int) p30 q30
                                    replace p30 := eq_true p30
                                    replace q30 := eq_true q30
                                    have HP31 := Kd.R_putg HO_15.out (x51_2 : Int) ((rd_T70 l0 (rd t120 x51_2)).f1)
                                    go_wp2_with (first | ((with_reducible refine gate_store (t := 3) (p := 70) rfl ?_); refine store_event (t := 3) (p := 70) (v := ?vo_w32) (w1 := (wr.setCell ⟨go30, (x51_2 : Int).toNat, none⟩ (.int .i64 ((rd_T70 l0 (rd t120 x51_2)).f1)))) ?hg ?ho ?hn ?hr ?_; (case ho => rfl); (case hg => rfl); (case hn => rfl); (case hr => first | (go_simp; done) | (go_simp; rfl)); intro w32 hw; have hg : wr.grownBy w32 (some go30) := (by rw [hw]; exact HP31.2); have hp_ : Kd.R (Kd.int .i64) 3 w32 w.heap.size (fun k_ => some k_ ≠ (.slice (some ad128) t120.length co11 : Value).ownBlock) (.slice (some ⟨go30, 0, none⟩) x15_2.length co30) y131 := (by rw [hw, Ny131.out]; exact HP31.1); clear HP31; have n0_ := Aside0.mk (Kd.R_after (v := (.slice (some ⟨go30, 0, none⟩) x15_2.length co30)) (v1 := (.slice (some ⟨go30, 0, none⟩) x15_2.length co30)) (ok := (fun _ => True)) (by (with_reducible repeat (first | apply Kd.R_alloc | apply Kd.R_drewN | apply Kd.R_drew)); exact Kd.R_mono HO_11.out (fun _ hk => ⟨trivial, hk⟩)) hg (.inl rfl)); have n1_ := Aside0.mk (hp_); have n2_ := Aside0.mk ((by rw [hw]; exact below_set (HB.out) GB30.out : Below w.heap.size w w32)); clear HO_11; clear HO_15; clear HB; have HO_11 := n0_; have HO_15 := n1_; have HB := n2_; clear n0_ n1_ n2_; clear hg hw hp_))
                                    go_roundg k2
                                    case measure => have := HJ7.out; have := HK2.out; omega
                                    case rel => exact ⟨(y131), ((rd_T70 l0 (rd t120 x51_2)).f1), (wrap64 (x51_2 + 1)), (by first | rfl | (simp; done) | (simp [*]; done)), (by first | rfl | (simp; done) | (simp [*]; done)), H', ⟨by have := HJ7.out; have := HK2.out; omega⟩, ⟨by (with_reducible repeat (first | apply Kd.R_alloc | apply Kd.R_drewN | apply Kd.R_drew)); exact Kd.R_mono HO_11.out (fun _ hk => hk.2)⟩, ⟨by (with_reducible repeat (first | apply Kd.R_alloc | apply Kd.R_drewN | apply Kd.R_drew)); exact HO_15.out⟩, ⟨by repeat (first | (with_reducible first | exact HB.out | apply below_alloc | apply pw_below_drewN | apply below_drew1) | exact HB.out)⟩⟩
                                  · rw [if_neg c29] at H
                                    exact absurd H (by simp)
                                · rw [if_neg c28] at H
                                  exact absurd H (by simp)
                              · rw [if_neg c27] at H
                                exact absurd H (by simp)
                            · rw [if_neg c26] at H
                              have c26b0 : decide (0 ≤ (rd t120 x51_2)) = false := decide_eq_false c26
                              clear c26
                              by_cases c33 : x51_2 < (x15_2.length : Int)
                              · rw [if_pos c33] at H
                                have c33b0 : decide (x51_2 < (x15_2.length : Int)) = true := decide_eq_true c33
                                clear c33
                                obtain ⟨y132, hy132⟩ : ∃ y_ : List Int, y_ = (x15_2.set (x51_2 : Int).toNat x16_2) := ⟨_, rfl⟩
                                replace H : (resample_Points.l1 k2 l0 t120 y132 x16_2 a3 (wrap64 (x51_2 + 1))) = some (r1, r2) := by first | (rw [hy132]; with_reducible exact H) | (have H2_ := (Option.bind_some _ _).symm.trans H; rw [hy132]; with_reducible exact H2_) | (have H2_ := (Option.bind_some _ _).symm.trans H; with_reducible exact H2_) | with_reducible exact H | (rw [hy132]; exact H) | exact H
                                have Ny132 := Aside0.mk hy132
                                clear hy132
                                have H' := Aside0.mk H
                                clear H
                                have p128 : 0 ≤ (x51_2 : Int) := of_decide_eq_true (by first | (with_reducible assumption) | assumption)
                                have q128 : x51_2 < (t120.length : Int) := of_decide_eq_true (by first | (with_reducible assumption) | assumption)
                                obtain ⟨ad128, e128, hx128_0⟩ := Kd.at_int (Kd.R_reads' HO_11.out).2.2 x51_2 p128 q128
                                cases e128
                                replace p128 := eq_true p128
                                replace q128 := eq_true q128
                                have p34 : 0 ≤ (x51_2 : Int) := of_decide_eq_true (by first | (with_reducible assumption) | assumption)
                                have q34 : (x51_2 : Int) < ((x15_2.length : Int) : Int) := of_decide_eq_true (by first | (with_reducible assumption) | assumption)
                                obtain ⟨go34, co34, eo34, gb34, gl34, cl34, HG34⟩ := Kd.R_form HO_15.out (by omega)
                                (first | cases eo34 | (injection eo34 with ea_ en_ ec_; (first | subst ea_ | (injection ea_ with ea_; subst ea_)); subst ec_; clear en_))
                                have GB34 := Aside0.mk gb34
                                have GG34 := Aside0.mk HG34
                                clear gb34 gl34 HG34
                                obtain ⟨hx34_0, hf34_0⟩ := Kd.R_celln 0 HO_15.out (x51_2 : Int) p34 q34
                                replace p34 := eq_true p34
                                replace q34 := eq_true q34
                                have HP35 := Kd.R_putg HO_15.out (x51_2 : Int) x16_2
                                go_wp2_with (first | ((with_reducible refine gate_store (t := 3) (p := 70) rfl ?_); refine store_event (t := 3) (p := 70) (v := ?vo_w36) (w1 := (wr.setCell ⟨go34, (x51_2 : Int).toNat, none⟩ (.int .i64 x16_2))) ?hg ?ho ?hn ?hr ?_; (case ho => rfl); (case hg => rfl); (case hn => rfl); (case hr => first | (go_simp; done) | (go_simp; rfl)); intro w36 hw; have hg : wr.grownBy w36 (some go34) := (by rw [hw]; exact HP35.2); have hp_ : Kd.R (Kd.int .i64) 3 w36 w.heap.size (fun k_ => some k_ ≠ (.slice (some ad128) t120.length co11 : Value).ownBlock) (.slice (some ⟨go34, 0, none⟩) x15_2.length co34) y132 := (by rw [hw, Ny132.out]; exact HP35.1); clear HP35; have n0_ := Aside0.mk (Kd.R_after (v := (.slice (some ⟨go34, 0, none⟩) x15_2.length co34)) (v1 := (.slice (some ⟨go34, 0, none⟩) x15_2.length co34)) (ok := (fun _ => True)) (by (with_reducible repeat (first | apply Kd.R_alloc | apply Kd.R_drewN | apply Kd.R_drew)); exact Kd.R_mono HO_11.out (fun _ hk => ⟨trivial, hk⟩)) hg (.inl rfl)); have n1_ := Aside0.mk (hp_); have n2_ := Aside0.mk ((by rw [hw]; exact below_set (HB.out) GB34.out : Below w.heap.size w w36)); clear HO_11; clear HO_15; clear HB; have HO_11 := n0_; have HO_15 := n1_; have HB := n2_; clear n0_ n1_ n2_; clear hg hw hp_))
                                go_roundg k2
                                case measure => have := HJ7.out; have := HK2.out; omega
                                case rel => exact ⟨(y132), (x16_2), (wrap64 (x51_2 + 1)), (by first | rfl | (simp; done) | (simp [*]; done)), (by first | rfl | (simp; done) | (simp [*]; done)), H', ⟨by have := HJ7.out; have := HK2.out; omega⟩, ⟨by (with_reducible repeat (first | apply Kd.R_alloc | apply Kd.R_drewN | apply Kd.R_drew)); exact Kd.R_mono HO_11.out (fun _ hk => hk.2)⟩, ⟨by (with_reducible repeat (first | apply Kd.R_alloc | apply Kd.R_drewN | apply Kd.R_drew)); exact HO_15.out⟩, ⟨by repeat (first | (with_reducible first | exact HB.out | apply below_alloc | apply pw_below_drewN | apply below_drew1) | exact HB.out)⟩⟩
                              · rw [if_neg c33] at H
                                exact absurd H (by simp)
                          · rw [if_neg c25] at H
                            exact absurd H (by simp)
                        · rw [if_neg c24] at H
                          exact absurd H (by simp)
                      · rw [if_neg c23] at H
                        have c23b0 : decide (x51_2 < a3) = false := decide_eq_false c23
                        clear c23
                        simp only [Option.some.injEq, Prod.mk.injEq] at H
                        obtain ⟨rfl, rfl⟩ := H
                        go_wp2
                        go_ret2
                        exact ⟨_, by first | rfl | (simp [errW_none, errW_some] <;> rfl) | (simp [*, errW_none, errW_some] <;> rfl), by (with_reducible repeat (first | apply Kd.R_alloc | apply Kd.R_drewN | apply Kd.R_drew)); exact Kd.R_mono HO_15.out (fun _ hk => trivial), by repeat (first | (with_reducible first | exact HB.out | apply below_alloc | apply pw_below_drewN | apply below_drew1) | exact HB.out)⟩
                · rw [if_neg c20] at H
                  exact absurd H (by simp)
              · rw [if_neg c19] at H
                exact absurd H (by simp)
            · rw [if_neg c18] at H
              exact absurd H (by simp)
          · rw [if_neg c17] at H
            exact absurd H (by simp)
  · rw [if_neg c6] at H
    have c6b0 : (t119 == 0) = false := beq_eq_false_iff_ne.mpr c6
    have c6b1 : (t119 != 0) = true := bne_iff_ne.mpr c6
    simp only [Option.some.injEq, Prod.mk.injEq] at H
    obtain ⟨rfl, rfl⟩ := H
    go_enter Try.func139, Try.ntmps139
    go_wp2_with (first | ((with_reducible refine gate_callee (f := 145) rfl ?_); refine goesL_ (some 22) rfl rfl Try.func145 (by kernel_rfl) rfl #[.slice A0 l0.length c0, .int .i64 a1, .int .i64 a2, .int .i64 a3] rfl (by (try simp only [List.map_toArray, List.map_cons, List.map_nil]); first | done | rfl | (simp only [List.length_drop, List.length_take]; rfl)) ?_; (with_reducible refine (resample_ask.calls k _ _ l0 a1 a2 a3 t119 _ ?side1 ?side2 A5.out).mono ?_); (case side1 => repeat (first | exact HR0.out | (with_reducible refine Kd.C_alloc ?_ _) | (with_reducible refine Kd.C_drewN ?_ _) | (with_reducible refine Kd.C_drew ?_))); (case side2 => exact HC0.out); rintro e w37 ⟨rfl, hb⟩; refine ⟨_, rfl, ?_⟩; have n0_ := Aside0.mk (below_step (by repeat (first | (with_reducible first | exact HB.out | apply below_alloc | apply pw_below_drewN | apply below_drew1) | exact HB.out)) hb); clear HB; have HB := n0_; clear n0_; (try clear hb); (try clear hb2); (try clear hk); (try clear hi)))
    go_ret2
    exact ⟨_, by first | rfl | (simp [errW_none, errW_some] <;> rfl) | (simp [*, errW_none, errW_some] <;> rfl), by first | exact Kd.R_nil _ _ _ _ _ | exact Kd.N_nil _ _ _ _ _ | exact Kd.V_nil _ _ _ _ _ | exact Kd.Q_nil _ _ _ _ _ | exact Kd.S_nil _ _ _ _ _, by repeat (first | (with_reducible first | exact HB.out | apply below_alloc | apply pw_below_drewN | apply below_drew1) | exact HB.out)⟩
end Go.Proofs.Ytemnfnbjapobcaa.Pr
end
section
namespace Go.Proofs.Ytemnfnbjapobcaa.PS
structure Dec where
  t : Int
  rep : Int
  floor : Int
  plan : Int
  cast : Int
def clampS (x lo hi : Int) : Int := if x < lo then lo else if x > hi then hi else x
def floorP (p : Pol) (load : Int) : Int := if okP p then clampS (-(-(FS.cdivS load p.per) / 4294967296)) 0 p.mx else 0
structure Dr where
  p : Pol
  now : Int
  plan : Int
  prev : Dec
  changed : Int
def Dr.some (d : Dr) : Prop := d.prev.t ≠ -9223372036854775808
instance (d : Dr) : Decidable d.some := by unfold Dr.some; infer_instance
def Dr.bounded (d : Dr) (n : Int) : Int := clampS n d.p.mn d.p.mx
def Dr.rests (d : Dr) : Prop := d.changed > 9223372036854775807 - d.p.cool ∨ d.now < d.changed + d.p.cool
instance (d : Dr) : Decidable d.rests := by unfold Dr.rests; infer_instance
end Go.Proofs.Ytemnfnbjapobcaa.PS
namespace Go.Proofs.Ytemnfnbjapobcaa.Ho
open Go.RowKit Go.Proofs.YtemnfnbjapobcaaW.PrintWords Go.Proofs.YtemnfnbjapobcaaW.PrintLast Go.Proofs.YtemnfnbjapobcaaW.PrintMore
open Go.Proofs.Ytemnfnbjapobcaa.FS Go.Proofs.Ytemnfnbjapobcaa.HS Go.Proofs.Ytemnfnbjapobcaa.FM Go.Proofs.Ytemnfnbjapobcaa.PS
set_option linter.unusedVariables false
set_option linter.unusedSimpArgs false
def drCells (d : Dr) (A : Option Addr) (n c : Nat) : Array Value := #[.int .i64 d.p.mn, .int .i64 d.p.mx, .int .i64 d.p.per, .int .i64 d.p.stale, .int .i64 d.p.step, .int .i64 d.p.ahead, .int .i64 d.p.cool, .int .i64 d.p.season, .int .i64 d.now, .slice A n c, .int .i64 d.plan, .int .i64 d.prev.t, .int .i64 d.prev.rep, .int .i64 d.prev.floor, .int .i64 d.prev.plan, .int .i64 d.prev.cast, .int .i64 d.changed]
def DrAt (W : World) (b : Nat) (d : Dr) (A : Option Addr) (n c : Nat) : Prop := W.heap[b]? = some (.cells (drCells d A n c) 115 (0, 0))
theorem DrAt.at {W : World} {b : Nat} {d : Dr} {A : Option Addr} {n c : Nat} (h : DrAt W b d A n c) (i : Nat) (v : Value) (e : (drCells d A n c)[i]? = some v) : W.cell? ⟨b, i, none⟩ = some v := (blk_cell h i).trans e
theorem DrAt.below {W W' : World} {b : Nat} {d : Dr} {A : Option Addr} {n c : Nat} (h : DrAt W b d A n c) (hb : Below W.heap.size W W') : DrAt W' b d A n c := blk_below h hb
theorem some_calls (b : Nat) (d : Dr) (A : Option Addr) (n c : Nat) (w : World) (h : DrAt w b d A n c) :
    Calls Try.prog 121 #[.pointer (some ⟨b, 0, none⟩)] w fun e w' => e = .returned (.bool (decide d.some)) ∧ Drawn0 w w' := by
  have d11 := h.at 11 (.int .i64 d.prev.t) rfl
  obtain ⟨p, now, plan, ⟨t, rep, fl, pl, ca⟩, changed⟩ := d
  dsimp only at d11
  clear h
  by_cases c1 : t = -9223372036854775808
  · have e : decide (Dr.some ⟨p, now, plan, ⟨t, rep, fl, pl, ca⟩, changed⟩) = false := decide_eq_false (fun h => h c1)
    rw [e]
    clear e
    subst c1
    go_enter Try.func121, Try.ntmps121
    go_wp2
    go_ret
    exact ⟨rfl, Drawn0.refl _⟩
  · have e : decide (Dr.some ⟨p, now, plan, ⟨t, rep, fl, pl, ca⟩, changed⟩) = true := decide_eq_true c1
    rw [e]
    have c2 : (t != -9223372036854775808) = true := by simp [c1]
    clear e c1
    go_enter Try.func121, Try.ntmps121
    go_wp2
    go_ret
    exact ⟨rfl, Drawn0.refl _⟩
theorem clamp_calls (x lo hi : Int) (w : World) : Calls Try.prog 89 #[.int .i64 x, .int .i64 lo, .int .i64 hi] w fun e w' => e = .returned (.int .i64 (clampS x lo hi)) ∧ Drawn0 w w' := by
  refine Pr.fixed_Clamp.calls x lo hi (clampS x lo hi) w ?_
  unfold Pr.fixed_Clamp.f clampS
  split
  · rfl
  · split <;> rfl
theorem quiet_of {f : Nat} {args : Array Value} {v : Value} {w : World} (h : Calls Try.prog f args w fun e w' => e = .returned v ∧ Drawn0 w w') : Calls Try.prog f args w fun e w' => e = .returned v ∧ ∃ m, w' = w.drewN m := h.mono fun _ _ ⟨he, hw⟩ => ⟨he, hw.out⟩
theorem bounded_calls (b : Nat) (d : Dr) (A : Option Addr) (n c : Nat) (x : Int) (w : World) (h : DrAt w b d A n c) :
    Calls Try.prog 120 #[.pointer (some ⟨b, 0, none⟩), .int .i64 x] w fun e w' => e = .returned (.int .i64 (d.bounded x)) ∧ Drawn0 w w' := by
  have d0 := h.at 0 (.int .i64 d.p.mn) rfl
  have d1 := h.at 1 (.int .i64 d.p.mx) rfl
  unfold Dr.bounded
  obtain ⟨⟨mn, mx, per, stale, step, ahead, cool, season⟩, now, plan, prev, changed⟩ := d
  dsimp only at d0 d1 ⊢
  clear h
  go_enter Try.func120, Try.ntmps120
  go_wp2
  go_quiet ((go_at_call 89; exact Calls.quiet_of (quiet_of (clamp_calls _ _ _ _))))
  go_wp2
  go_ret
  exact ⟨rfl, by repeat (first | exact Drawn0.refl _ | apply Drawn0.step)⟩
theorem rests_calls (b : Nat) (d : Dr) (A : Option Addr) (n c : Nat) (w : World) (h : DrAt w b d A n c) (hc0 : 0 ≤ d.p.cool) (hc1 : d.p.cool ≤ 9007199254740992) (hch : FS.In d.changed) :
    Calls Try.prog 122 #[.pointer (some ⟨b, 0, none⟩)] w fun e w' => e = .returned (.bool (decide d.rests)) ∧ Drawn0 w w' := by
  have d6 := h.at 6 (.int .i64 d.p.cool) rfl
  have d8 := h.at 8 (.int .i64 d.now) rfl
  have d16 := h.at 16 (.int .i64 d.changed) rfl
  obtain ⟨⟨mn, mx, per, stale, step, ahead, cool, season⟩, now, plan, prev, changed⟩ := d
  dsimp only at d6 d8 d16 hc0 hc1 hch
  clear h
  obtain ⟨x, hx⟩ : ∃ x, 9223372036854775807 - cool = x := ⟨_, rfl⟩
  have e1 : wrap64 (9223372036854775807 - cool) = x := by rw [wrap64_id (by omega) (by omega)]; exact hx
  have e1' : IntKind.i64.wrap (9223372036854775807 - cool) = x := (i64_w _).trans e1
  obtain ⟨h1, h2⟩ := hch
  by_cases g1 : changed > x
  · have c1 : decide (x < changed) = true := decide_eq_true g1
    have e : decide (Dr.rests ⟨⟨mn, mx, per, stale, step, ahead, cool, season⟩, now, plan, prev, changed⟩) = true := decide_eq_true (Or.inl (by dsimp only; omega))
    rw [e]
    have G := Aside0.mk (And.intro hx (And.intro h1 h2))
    clear e g1 hx h1 h2 hc0 hc1 e1
    go_enter Try.func122, Try.ntmps122
    go_wp2
    go_quiet (fail)
    go_wp2
    go_ret
    exact ⟨rfl, by repeat (first | exact Drawn0.refl _ | apply Drawn0.step)⟩
  · have c1 : decide (x < changed) = false := decide_eq_false g1
    obtain ⟨y, hy⟩ : ∃ y, changed + cool = y := ⟨_, rfl⟩
    have e2' : IntKind.i64.wrap (changed + cool) = y := by rw [i64_w, wrap64_id (by omega) (by omega)]; exact hy
    by_cases g2 : now < y
    · have c2 : decide (now < y) = true := decide_eq_true g2
      have e : decide (Dr.rests ⟨⟨mn, mx, per, stale, step, ahead, cool, season⟩, now, plan, prev, changed⟩) = true := decide_eq_true (Or.inr (by dsimp only; omega))
      rw [e]
      clear e g1 g2 hx hy h1 h2 hc0 hc1 e1
      go_enter Try.func122, Try.ntmps122
      go_wp2
      go_quiet (fail)
      go_wp2
      go_ret
      exact ⟨rfl, by repeat (first | exact Drawn0.refl _ | apply Drawn0.step)⟩
    · have c2 : decide (now < y) = false := decide_eq_false g2
      have e : decide (Dr.rests ⟨⟨mn, mx, per, stale, step, ahead, cool, season⟩, now, plan, prev, changed⟩) = false := decide_eq_false (by unfold Dr.rests; dsimp only; omega)
      rw [e]
      clear e g1 g2 hx hy h1 h2 hc0 hc1 e1
      go_enter Try.func122, Try.ntmps122
      go_wp2
      go_quiet (fail)
      go_wp2
      go_ret
      exact ⟨rfl, by repeat (first | exact Drawn0.refl _ | apply Drawn0.step)⟩
end Go.Proofs.Ytemnfnbjapobcaa.Ho
end
section
namespace Go.Proofs.Ytemnfnbjapobcaa.Pr
open Go.RowKit Go.Proofs.YtemnfnbjapobcaaW.PrintWords Go.Proofs.YtemnfnbjapobcaaW.PrintLast Go.Proofs.YtemnfnbjapobcaaW.PrintMore
attribute [local go_sem] max2_int min2_int max_two min_two max_three min_three max_four min_four   -- for this text's walks alone
set_option linter.unusedVariables false
set_option linter.unusedSimpArgs false
def resample_Gaps.l0 : Nat → Int → List Int → Int → Int → Option (Int × Int)
  | 0, _, _, _, _ => none
  | k + 1, x11, x26, x27, x28 => if x28 < x27 then (if 0 ≤ x28 then (if x28 < (x26.length : Int) then (if (rd x26 x28) < 0 then (resample_Gaps.l0 k (wrap64 (x11 + 1)) x26 x27 (wrap64 (x28 + 1))) else (resample_Gaps.l0 k x11 x26 x27 (wrap64 (x28 + 1)))) else (none)) else (none)) else (some (x11, 0))
def resample_Gaps.f (k : Nat) (l0 : List (S70)) (a1 : Int) (a2 : Int) (a3 : Int) : Option (Int × Int) := (resample_ask.f k l0 a1 a2 a3).bind fun t133 => (if t133 = 0 then ((resample_places.f k l0 a1 a2 a3).bind fun t134 => (resample_Gaps.l0 k 0 t134 (t134.length : Int) 0)) else (some (0, t133)))
set_option maxHeartbeats 8000000 in
set_option maxRecDepth 100000 in
theorem resample_Gaps.calls (k : Nat) (A0 : Option Addr) (c0 : Nat) (l0 : List (S70)) (a1 : Int) (a2 : Int) (a3 : Int) (r1 : Int) (r2 : Int) (w : World) (hr0 : Kd.C k70 w A0 l0.length l0) (hc0 : l0.length ≤ c0) (h : resample_Gaps.f k l0 a1 a2 a3 = some (r1, r2)) :
    Calls Try.prog 140 #[.slice A0 l0.length c0, .int .i64 a1, .int .i64 a2, .int .i64 a3] w fun e w' => e = .returned (.tuple #[.int .i64 r1, .int .i64 r2]) ∧ Below w.heap.size w w' := by
  have HR0 := Aside0.mk hr0
  have HC0 := Aside0.mk hc0
  clear hr0 hc0
  have HB := Aside0.mk (Below.refl w.heap.size w)
  have H : ((resample_ask.f k l0 a1 a2 a3).bind fun t133 => (if t133 = 0 then ((resample_places.f k l0 a1 a2 a3).bind fun t134 => (resample_Gaps.l0 k 0 t134 (t134.length : Int) 0)) else (some (0, t133)))) = some (r1, r2) := h
  clear h
  replace H := Option.bind_eq_some_iff.mp H
  obtain ⟨t133, A50, H⟩ := H
  replace H : (if t133 = 0 then ((resample_places.f k l0 a1 a2 a3).bind fun t134 => (resample_Gaps.l0 k 0 t134 (t134.length : Int) 0)) else (some (0, t133))) = some (r1, r2) := H
  have A5 := Aside0.mk A50
  clear A50
  by_cases c6 : t133 = 0
  · rw [if_pos c6] at H
    have c6b0 : (t133 == 0) = true := beq_iff_eq.mpr c6
    have c6b1 : (t133 != 0) = false := bne_eq_false_iff_eq.mpr c6
    clear c6
    replace H := Option.bind_eq_some_iff.mp H
    obtain ⟨t134, A70, H⟩ := H
    replace H : (resample_Gaps.l0 k 0 t134 (t134.length : Int) 0) = some (r1, r2) := H
    have A7 := Aside0.mk A70
    clear A70
    have H' := Aside0.mk H
    clear H
    go_enter Try.func140, Try.ntmps140
    go_wp2_with (first | ((with_reducible refine gate_callee (f := 145) rfl ?_); refine goesL_ (some 18) rfl rfl Try.func145 (by kernel_rfl) rfl #[.slice A0 l0.length c0, .int .i64 a1, .int .i64 a2, .int .i64 a3] rfl (by (try simp only [List.map_toArray, List.map_cons, List.map_nil]); first | done | rfl | (simp only [List.length_drop, List.length_take]; rfl)) ?_; (with_reducible refine (resample_ask.calls k _ _ l0 a1 a2 a3 t133 _ ?side1 ?side2 A5.out).mono ?_); (case side1 => repeat (first | exact HR0.out | (with_reducible refine Kd.C_alloc ?_ _) | (with_reducible refine Kd.C_drewN ?_ _) | (with_reducible refine Kd.C_drew ?_))); (case side2 => exact HC0.out); rintro e w8 ⟨rfl, hb⟩; refine ⟨_, rfl, ?_⟩; have n0_ := Aside0.mk (below_step (by repeat (first | (with_reducible first | exact HB.out | apply below_alloc | apply pw_below_drewN | apply below_drew1) | exact HB.out)) hb); clear HB; have HB := n0_; clear n0_; (try clear hb); (try clear hb2); (try clear hk); (try clear hi)) | ((with_reducible refine gate_callee (f := 146) rfl ?_); refine goesL_ (some 26) rfl rfl Try.func146 (by kernel_rfl) rfl #[.slice A0 l0.length c0, .int .i64 a1, .int .i64 a2, .int .i64 a3] rfl (by (try simp only [List.map_toArray, List.map_cons, List.map_nil]); first | done | rfl | (simp only [List.length_drop, List.length_take]; rfl)) ?_; (with_reducible refine (resample_places.calls k _ _ l0 a1 a2 a3 t134 _ ?side1 ?side2 A7.out).mono ?_); (case side1 => repeat (first | exact (Kd.C_below HR0.out HB.out) | (with_reducible refine Kd.C_alloc ?_ _) | (with_reducible refine Kd.C_drewN ?_ _) | (with_reducible refine Kd.C_drew ?_))); (case side2 => exact HC0.out); rintro e w9 ⟨v135, rfl, ho0, hb⟩; refine ⟨_, rfl, ?_⟩; have n0_ := Aside0.mk (Kd.R_lower ho0 (below_size (by repeat (first | (with_reducible first | exact HB.out | apply below_alloc | apply pw_below_drewN | apply below_drew1) | exact HB.out)))); have n1_ := Aside0.mk (below_step (by repeat (first | (with_reducible first | exact HB.out | apply below_alloc | apply pw_below_drewN | apply below_drew1) | exact HB.out)) hb); clear HB; have HO136 := n0_; have HB := n1_; clear n0_ n1_; (try clear hb); (try clear hb2); (try clear hk); (try clear hi); (try clear ho0); obtain ⟨Ao10, co10, eo10⟩ := Kd.R_slice HO136.out; subst eo10))
    go_loopg [11, 28] k (fun kq v11 v28 w' => ∃ (x11_1 : Int) (x28_1 : Int), v11 = .int .i64 x11_1 ∧ v28 = .int .i64 x28_1 ∧ Aside0 (resample_Gaps.l0 kq x11_1 t134 (t134.length : Int) x28_1 = some (r1, r2)) ∧ Aside0 (kq ≤ k) ∧ Aside0 (Kd.R (Kd.int .i64) 3 w' w.heap.size (fun _ => True) (.slice Ao10 t134.length co10) t134) ∧ Aside0 (Below w.heap.size w w'))
    case atStart => exact ⟨(0), (0), (by first | rfl | (simp; done) | (simp [*]; done)), (by first | rfl | (simp; done) | (simp [*]; done)), H', ⟨Nat.le_refl _⟩, ⟨by (with_reducible repeat (first | apply Kd.R_alloc | apply Kd.R_drewN | apply Kd.R_drew)); exact HO136.out⟩, ⟨by repeat (first | (with_reducible first | exact HB.out | apply below_alloc | apply pw_below_drewN | apply below_drew1) | exact HB.out)⟩⟩
    case round =>
      clear H'
      try clear c1
      try clear p2
      try clear c6
      try clear c6b0
      try clear c6b1
      obtain ⟨x11_1, x28_1, rfl, rfl, HA, HK1, HO_26, HB⟩ := hrel
      cases gk with
      | zero => exact absurd HA.out (by simp [resample_Gaps.l0])
      | succ k1 =>
        have H := HA.out
        clear HA
        simp only [resample_Gaps.l0] at H
        by_cases c11 : x28_1 < (t134.length : Int)
        · rw [if_pos c11] at H
          have c11b0 : decide (x28_1 < (t134.length : Int)) = true := decide_eq_true c11
          clear c11
          by_cases c12 : 0 ≤ x28_1
          · rw [if_pos c12] at H
            have c12b0 : decide (0 ≤ x28_1) = true := decide_eq_true c12
            clear c12
            by_cases c13 : x28_1 < (t134.length : Int)
            · rw [if_pos c13] at H
              have c13b0 : decide (x28_1 < (t134.length : Int)) = true := decide_eq_true c13
              clear c13
              by_cases c14 : (rd t134 x28_1) < 0
              · rw [if_pos c14] at H
                have c14b0 : decide ((rd t134 x28_1) < 0) = true := decide_eq_true c14
                clear c14
                have H' := Aside0.mk H
                clear H
                have p137 : 0 ≤ (x28_1 : Int) := of_decide_eq_true (by first | (with_reducible assumption) | assumption)
                have q137 : x28_1 < (t134.length : Int) := of_decide_eq_true (by first | (with_reducible assumption) | assumption)
                obtain ⟨ad137, e137, hx137_0⟩ := Kd.at_int (Kd.R_reads' HO_26.out).2.2 x28_1 p137 q137
                cases e137
                replace p137 := eq_true p137
                replace q137 := eq_true q137
                go_wp2
                go_roundg k1
                case measure => have := HK1.out; omega
                case rel => exact ⟨(wrap64 (x11_1 + 1)), (wrap64 (x28_1 + 1)), (by first | rfl | (simp; done) | (simp [*]; done)), (by first | rfl | (simp; done) | (simp [*]; done)), H', ⟨by have := HK1.out; omega⟩, ⟨by (with_reducible repeat (first | apply Kd.R_alloc | apply Kd.R_drewN | apply Kd.R_drew)); exact HO_26.out⟩, ⟨by repeat (first | (with_reducible first | exact HB.out | apply below_alloc | apply pw_below_drewN | apply below_drew1) | exact HB.out)⟩⟩
              · rw [if_neg c14] at H
                have c14b0 : decide ((rd t134 x28_1) < 0) = false := decide_eq_false c14
                clear c14
                have H' := Aside0.mk H
                clear H
                have p137 : 0 ≤ (x28_1 : Int) := of_decide_eq_true (by first | (with_reducible assumption) | assumption)
                have q137 : x28_1 < (t134.length : Int) := of_decide_eq_true (by first | (with_reducible assumption) | assumption)
                obtain ⟨ad137, e137, hx137_0⟩ := Kd.at_int (Kd.R_reads' HO_26.out).2.2 x28_1 p137 q137
                cases e137
                replace p137 := eq_true p137
                replace q137 := eq_true q137
                go_wp2
                go_roundg k1
                case measure => have := HK1.out; omega
                case rel => exact ⟨(x11_1), (wrap64 (x28_1 + 1)), (by first | rfl | (simp; done) | (simp [*]; done)), (by first | rfl | (simp; done) | (simp [*]; done)), H', ⟨by have := HK1.out; omega⟩, ⟨by (with_reducible repeat (first | apply Kd.R_alloc | apply Kd.R_drewN | apply Kd.R_drew)); exact HO_26.out⟩, ⟨by repeat (first | (with_reducible first | exact HB.out | apply below_alloc | apply pw_below_drewN | apply below_drew1) | exact HB.out)⟩⟩
            · rw [if_neg c13] at H
              exact absurd H (by simp)
          · rw [if_neg c12] at H
            exact absurd H (by simp)
        · rw [if_neg c11] at H
          have c11b0 : decide (x28_1 < (t134.length : Int)) = false := decide_eq_false c11
          clear c11
          simp only [Option.some.injEq, Prod.mk.injEq] at H
          obtain ⟨rfl, rfl⟩ := H
          go_wp2
          go_ret2
          exact ⟨by first | rfl | (simp [errW_none, errW_some] <;> rfl) | (simp [*, errW_none, errW_some] <;> rfl), by repeat (first | (with_reducible first | exact HB.out | apply below_alloc | apply pw_below_drewN | apply below_drew1) | exact HB.out)⟩
  · rw [if_neg c6] at H
    have c6b0 : (t133 == 0) = false := beq_eq_false_iff_ne.mpr c6
    have c6b1 : (t133 != 0) = true := bne_iff_ne.mpr c6
    simp only [Option.some.injEq, Prod.mk.injEq] at H
    obtain ⟨rfl, rfl⟩ := H
    go_enter Try.func140, Try.ntmps140
    go_wp2_with (first | ((with_reducible refine gate_callee (f := 145) rfl ?_); refine goesL_ (some 18) rfl rfl Try.func145 (by kernel_rfl) rfl #[.slice A0 l0.length c0, .int .i64 a1, .int .i64 a2, .int .i64 a3] rfl (by (try simp only [List.map_toArray, List.map_cons, List.map_nil]); first | done | rfl | (simp only [List.length_drop, List.length_take]; rfl)) ?_; (with_reducible refine (resample_ask.calls k _ _ l0 a1 a2 a3 t133 _ ?side1 ?side2 A5.out).mono ?_); (case side1 => repeat (first | exact HR0.out | (with_reducible refine Kd.C_alloc ?_ _) | (with_reducible refine Kd.C_drewN ?_ _) | (with_reducible refine Kd.C_drew ?_))); (case side2 => exact HC0.out); rintro e w15 ⟨rfl, hb⟩; refine ⟨_, rfl, ?_⟩; have n0_ := Aside0.mk (below_step (by repeat (first | (with_reducible first | exact HB.out | apply below_alloc | apply pw_below_drewN | apply below_drew1) | exact HB.out)) hb); clear HB; have HB := n0_; clear n0_; (try clear hb); (try clear hb2); (try clear hk); (try clear hi)))
    go_ret2
    exact ⟨by first | rfl | (simp [errW_none, errW_some] <;> rfl) | (simp [*, errW_none, errW_some] <;> rfl), by repeat (first | (with_reducible first | exact HB.out | apply below_alloc | apply pw_below_drewN | apply below_drew1) | exact HB.out)⟩
end Go.Proofs.Ytemnfnbjapobcaa.Pr
end
section
namespace Go.Proofs.Ytemnfnbjapobcaa.RS
open Go.RowKit Go.Proofs.Ytemnfnbjapobcaa.Pr Go.Proofs.YtemnfnbjapobcaaW.PrintWords Go.Proofs.YtemnfnbjapobcaaW.PrintLast Go.Proofs.YtemnfnbjapobcaaW.PrintMore
theorem wrap64_id {n : Int} (h0 : -9223372036854775808 ≤ n) (h1 : n ≤ 9223372036854775807) : wrap64 n = n := by unfold wrap64; omega
theorem Ev.eq {α : Type} {g f : Nat → Option α} {r : α} (h : g = f) (k : Ev f r) : Ev g r := h ▸ k
theorem Ev.all {α : Type} {g : Nat → Option α} {r : α} (h : ∀ k, g k = some r) : Ev g r := ⟨0, fun k _ => h k⟩
theorem rd_nat (xs : List Int) (i : Nat) : rd xs (i : Int) = xs.getD i 0 := rfl
theorem getD_set {α : Type} (xs : List α) (i j : Nat) (v d : α) (hi : i < xs.length) : (xs.set i v).getD j d = if i = j then v else xs.getD j d := by
  simp only [List.getD_eq_getElem?_getD, List.getElem?_set]
  split
  · rename_i h; subst h; simp
  · rfl
theorem ext_getD {xs ys : List Int} (hl : xs.length = ys.length) (h : ∀ j, j < xs.length → xs.getD j 0 = ys.getD j 0) : xs = ys := by
  apply List.ext_getElem hl
  intro j h1 h2
  have := h j h1
  simpa [List.getD_eq_getElem?_getD, h1, h2] using this
theorem getD_range (f : Nat → Int) (n j : Nat) (hj : j < n) : ((List.range n).map f).getD j 0 = f j := by
  simp [List.getD_eq_getElem?_getD, hj]
theorem getD_replicate (n : Nat) (v : Int) (j : Nat) (hj : j < n) : (List.replicate n v).getD j 0 = v := by
  simp [List.getD_eq_getElem?_getD, hj]
def tm (l : List S70) (i : Nat) : Int := (l.getD i z70).f0
theorem rd70 (l : List S70) (i : Nat) : rd_T70 l (i : Int) = l.getD i z70 := rfl
def okAt (l : List S70) (i : Nat) : Bool := decide (-9007199254740992 ≤ tm l i) && (decide (tm l i ≤ 9007199254740992) && (decide (i = 0) || decide (tm l (i - 1) < tm l i)))
def ris (l : List S70) : Nat → Nat → Bool
  | _, 0 => true
  | i, d + 1 => okAt l i && ris l (i + 1) d
theorem timed_eq (t : Int) : rollup_Timed.f t = some (decide (-9007199254740992 ≤ t) && decide (t ≤ 9007199254740992)) := by
  unfold rollup_Timed.f
  by_cases h : t ≥ -9007199254740992
  · rw [if_pos h, decide_eq_true h]; rfl
  · rw [if_neg h, decide_eq_false h]; rfl
theorem rising_l0 (l : List S70) (hl : l.length ≤ 1152921504606846976) (d : Nat) : ∀ i : Nat, i + d = l.length → Ev (fun k => rollup_Rising.l0 k l l (l.length : Int) (i : Int)) (if ris l i d then 0 else 21) := by
  induction d with
  | zero =>
    intro i hi
    refine Ev.step (f := fun _ => some 0) (fun k => ?_) (Ev.now _)
    simp only [rollup_Rising.l0]
    rw [if_neg (by omega)]
  | succ d ih =>
    intro i hi
    refine Ev.step (f := fun k => if okAt l i then rollup_Rising.l0 k l l (l.length : Int) ((i + 1 : Nat) : Int) else some 21) (fun k => ?_) ?_
    · simp only [rollup_Rising.l0]
      have e : wrap64 ((i : Int) + 1) = ((i + 1 : Nat) : Int) := by rw [wrap64_id (by omega) (by omega)]; omega
      rw [if_pos (by omega), if_pos (by omega), if_pos (by omega), rd70, timed_eq, Option.bind_some, e]
      unfold okAt tm
      by_cases h1 : -9007199254740992 ≤ (l.getD i z70).f0
      · by_cases h2 : (l.getD i z70).f0 ≤ 9007199254740992
        · simp only [decide_eq_true h1, decide_eq_true h2, Bool.true_and, if_true]
          by_cases h3 : i = 0
          · rw [if_neg (by omega), decide_eq_true h3]; simp
          · rw [if_pos (by omega), wrap64_id (by omega) (by omega), if_pos (by omega), if_pos (by omega)]
            have e2 : ((i : Int) - 1) = ((i - 1 : Nat) : Int) := by omega
            rw [e2, rd70, decide_eq_false h3]
            by_cases h4 : (l.getD i z70).f0 ≤ (l.getD (i - 1) z70).f0
            · rw [if_pos h4, decide_eq_false (by omega)]; simp
            · rw [if_neg h4, decide_eq_true (by omega)]; simp
        · simp only [decide_eq_false h2]; simp
      · simp only [decide_eq_false h1]; simp
    · simp only [ris]
      by_cases h : okAt l i = true
      · simp only [h, if_true, Bool.true_and]
        exact ih (i + 1) (by omega)
      · simp only [h, Bool.false_eq_true, if_false, Bool.false_and]
        exact Ev.now (21 : Int)
theorem rising_ev (l : List S70) (hl : l.length ≤ 1152921504606846976) : Ev (fun k => rollup_Rising.f k l) (if ris l 0 l.length then 0 else 21) := rising_l0 l hl l.length 0 (by omega)
theorem ris_at (l : List S70) (d : Nat) : ∀ i, ris l i d = true → ∀ j, i ≤ j → j < i + d → okAt l j = true := by
  induction d with
  | zero => intro i _ j h1 h2; omega
  | succ d ih =>
    intro i h j h1 h2
    simp only [ris, Bool.and_eq_true] at h
    by_cases hj : j = i
    · subst hj; exact h.1
    · exact ih (i + 1) h.2 j (by omega) (by omega)
theorem ok_timed {l : List S70} {i : Nat} (h : okAt l i = true) : -9007199254740992 ≤ tm l i ∧ tm l i ≤ 9007199254740992 := by
  unfold okAt at h
  simp only [Bool.and_eq_true, decide_eq_true_eq] at h
  exact ⟨h.1, h.2.1⟩
def timedAll (l : List S70) : Prop := ∀ j, j < l.length → -9007199254740992 ≤ tm l j ∧ tm l j ≤ 9007199254740992
theorem timedAll_of (l : List S70) (h : ris l 0 l.length = true) : timedAll l := fun j hj => ok_timed (ris_at l l.length 0 h j (by omega) (by omega))
def argOK (from_ step n : Int) : Bool := decide (1 ≤ step) && decide (step ≤ 9007199254740992) && decide (0 ≤ n) && decide (n ≤ 10000) && decide (-9007199254740992 ≤ from_) && decide (from_ ≤ 9007199254740992)
def askS (l : List S70) (from_ step n : Int) : Int := if argOK from_ step n then (if ris l 0 l.length then 0 else 21) else 1
theorem ask_ev (l : List S70) (hl : l.length ≤ 1152921504606846976) (from_ step n : Int) : Ev (fun k => resample_ask.f k l from_ step n) (askS l from_ step n) := by
  unfold resample_ask.f askS argOK
  by_cases h1 : step < 1
  · simp only [if_pos h1, decide_eq_false (show ¬ 1 ≤ step by omega)]; simpa using Ev.now (1 : Int)
  by_cases h2 : step > 9007199254740992
  · simp only [if_neg h1, if_pos h2, decide_eq_false (show ¬ step ≤ 9007199254740992 by omega)]; simpa using Ev.now (1 : Int)
  by_cases h3 : n < 0
  · simp only [if_neg h1, if_neg h2, if_pos h3, decide_eq_false (show ¬ 0 ≤ n by omega)]; simpa using Ev.now (1 : Int)
  by_cases h4 : n > 10000
  · simp only [if_neg h1, if_neg h2, if_neg h3, if_pos h4, decide_eq_false (show ¬ n ≤ 10000 by omega)]; simpa using Ev.now (1 : Int)
  simp only [if_neg h1, if_neg h2, if_neg h3, if_neg h4, timed_eq, Option.bind_some, decide_eq_true (show 1 ≤ step by omega), decide_eq_true (show step ≤ 9007199254740992 by omega), decide_eq_true (show 0 ≤ n by omega), decide_eq_true (show n ≤ 10000 by omega), Bool.true_and]
  cases hc : (decide (-9007199254740992 ≤ from_) && decide (from_ ≤ 9007199254740992))
  · simpa using Ev.now (1 : Int)
  · simp only [if_true]
    exact Ev.bind (rising_ev l hl) (Ev.now _)
def stp (l : List S70) (from_ step : Int) (n : Nat) (out : List Int) (i : Nat) : List Int :=
  if tm l i < from_ then out else if (tm l i - from_) / step < n then out.set ((tm l i - from_) / step).toNat i else out
def plc (l : List S70) (from_ step : Int) (n : Nat) : Nat → Nat → List Int → List Int
  | _, 0, out => out
  | i, d + 1, out => plc l from_ step n (i + 1) d (stp l from_ step n out i)
theorem stp_length (l : List S70) (from_ step : Int) (n : Nat) (out : List Int) (i : Nat) : (stp l from_ step n out i).length = out.length := by
  unfold stp; split; rfl; split; simp; rfl
theorem plc_length (l : List S70) (from_ step : Int) (n : Nat) (d : Nat) : ∀ i out, (plc l from_ step n i d out).length = out.length := by
  induction d with
  | zero => intro i out; rfl
  | succ d ih => intro i out; simp only [plc]; rw [ih, stp_length]
theorem plc_inv (l : List S70) (from_ step : Int) (n : Nat) (P : Nat → List Int → Prop) (hs : ∀ i out, i < l.length → P i out → P (i + 1) (stp l from_ step n out i)) (d : Nat) :
    ∀ i out, i + d = l.length → P i out → P l.length (plc l from_ step n i d out) := by
  induction d with
  | zero => intro i out h hp; simp only [plc]; obtain rfl : i = l.length := by omega
            exact hp
  | succ d ih => intro i out h hp; simp only [plc]; exact ih (i + 1) _ (by omega) (hs i out (by omega) hp)
theorem quo_nonneg {t from_ step : Int} (hs : 1 ≤ step) (h : ¬ t < from_) : 0 ≤ (t - from_) / step := Int.ediv_nonneg (by omega) (by omega)
theorem quo_le {t from_ step : Int} (_hs : 1 ≤ step) (h : ¬ t < from_) : (t - from_) / step ≤ t - from_ := Int.ediv_le_self _ (by omega)
theorem places_l1 (l : List S70) (hl : l.length ≤ 1152921504606846976) (from_ step : Int) (n : Nat) (hs : 1 ≤ step) (hf : -9007199254740992 ≤ from_ ∧ from_ ≤ 9007199254740992) (ht : timedAll l) (d : Nat) :
    ∀ (i : Nat) (out : List Int), i + d = l.length → out.length = n → Ev (fun k => resample_places.l1 k from_ step (n : Int) out l (l.length : Int) (i : Int)) (plc l from_ step n i d out) := by
  induction d with
  | zero =>
    intro i out hi ho
    refine Ev.step (f := fun _ => some out) (fun k => ?_) (Ev.now _)
    simp only [resample_places.l1]
    rw [if_neg (by omega)]
  | succ d ih =>
    intro i out hi ho
    refine Ev.step (f := fun k => resample_places.l1 k from_ step (n : Int) (stp l from_ step n out i) l (l.length : Int) ((i + 1 : Nat) : Int)) (fun k => ?_) ?_
    · simp only [resample_places.l1]
      have e : wrap64 ((i : Int) + 1) = ((i + 1 : Nat) : Int) := by rw [wrap64_id (by omega) (by omega)]; omega
      obtain ⟨t0, t1⟩ := ht i (by omega)
      rw [if_pos (by omega), if_pos (by omega), if_pos (by omega), rd70, e]
      show (if tm l i < from_ then _ else _) = _
      unfold stp
      by_cases h1 : tm l i < from_
      · rw [if_pos h1, if_pos h1]
      · rw [if_neg h1, if_neg h1, if_neg (by omega)]
        have e1 : wrap64 ((l.getD i z70).f0 - from_) = tm l i - from_ := wrap64_id (by unfold tm at *; omega) (by unfold tm at *; omega)
        have q0 := quo_nonneg hs h1
        have q1 := quo_le hs h1
        have e2 : wrap64 ((tm l i - from_).tdiv step) = (tm l i - from_) / step := by
          rw [Int.tdiv_eq_ediv_of_nonneg (by omega)]; exact wrap64_id (by omega) (by omega)
        rw [e1, e2]
        by_cases h2 : (tm l i - from_) / step < n
        · rw [if_pos h2, if_pos h2, if_pos q0, if_pos (by omega)]
        · rw [if_neg h2, if_neg h2]
    · exact ih (i + 1) _ (by omega) (by rw [stp_length]; exact ho)
def none_ (n : Nat) : List Int := List.replicate n (-1)
theorem set_mid (i d : Nat) : (List.replicate i (-1 : Int) ++ List.replicate (d + 1) 0).set i (-1) = List.replicate (i + 1) (-1) ++ List.replicate d 0 := by
  rw [List.set_append_right _ _ (by simp), List.replicate_succ (n := d), List.replicate_succ' (n := i)]
  simp
theorem places_l0 (l : List S70) (from_ step : Int) (n : Nat) (hn : n ≤ 10000) (r : List Int) (h : Ev (fun k => resample_places.l1 k from_ step (n : Int) (none_ n) l (l.length : Int) 0) r) (d : Nat) :
    ∀ i : Nat, i + d = n → Ev (fun k => resample_places.l0 k l from_ step (n : Int) (List.replicate i (-1) ++ List.replicate d 0) (n : Int) (i : Int)) r := by
  induction d with
  | zero =>
    intro i hi
    refine Ev.step (f := fun k => resample_places.l1 k from_ step (n : Int) (none_ n) l (l.length : Int) 0) (fun k => ?_) h
    simp only [resample_places.l0]
    rw [if_neg (by omega)]
    obtain rfl : i = n := by omega
    simp [none_]
  | succ d ih =>
    intro i hi
    refine Ev.step (f := fun k => resample_places.l0 k l from_ step (n : Int) (List.replicate (i + 1) (-1) ++ List.replicate d 0) (n : Int) ((i + 1 : Nat) : Int)) (fun k => ?_) (ih (i + 1) (by omega))
    simp only [resample_places.l0]
    have e : wrap64 ((i : Int) + 1) = ((i + 1 : Nat) : Int) := by rw [wrap64_id (by omega) (by omega)]; omega
    rw [if_pos (by omega), if_pos (by omega), if_pos (by simp; omega), e]
    have e2 : (i : Int).toNat = i := by omega
    rw [e2, set_mid]
def plS (l : List S70) (from_ step : Int) (n : Nat) : List Int := plc l from_ step n 0 l.length (none_ n)
theorem plS_length (l : List S70) (from_ step : Int) (n : Nat) : (plS l from_ step n).length = n := by unfold plS; rw [plc_length]; simp [none_]
theorem places_ev (l : List S70) (hl : l.length ≤ 1152921504606846976) (from_ step : Int) (n : Nat) (hn : n ≤ 10000) (hs : 1 ≤ step) (hf : -9007199254740992 ≤ from_ ∧ from_ ≤ 9007199254740992) (ht : timedAll l) :
    Ev (fun k => resample_places.f k l from_ step (n : Int)) (plS l from_ step n) := by
  have h1 := places_l1 l hl from_ step n hs hf ht l.length 0 (none_ n) (by omega) (by simp [none_])
  have h2 := places_l0 l from_ step n hn _ h1 n 0 (by omega)
  refine Ev.eq ?_ h2
  funext k
  unfold resample_places.f
  rw [if_pos (by omega), if_pos (by omega)]
  simp
def okPl (l : List S70) (at_ : List Int) : Prop := ∀ j, j < at_.length → at_.getD j 0 < l.length ∧ -1 ≤ at_.getD j 0
theorem plS_ok (l : List S70) (from_ step : Int) (n : Nat) (_hs : 1 ≤ step) : okPl l (plS l from_ step n) := by
  refine plc_inv l from_ step n (fun _ out => ∀ j, j < out.length → out.getD j 0 < l.length ∧ -1 ≤ out.getD j 0) ?_ l.length 0 _ (by omega) ?_
  · intro i out hi h j hj
    rw [stp_length] at hj
    unfold stp
    by_cases h1 : tm l i < from_
    · rw [if_pos h1]; exact h j hj
    · rw [if_neg h1]
      by_cases h2 : (tm l i - from_) / step < n
      · rw [if_pos h2]
        by_cases h3 : ((tm l i - from_) / step).toNat < out.length
        · rw [getD_set _ _ _ _ _ h3]
          split
          · omega
          · exact h j hj
        · rw [List.set_eq_of_length_le (by omega)]; exact h j hj
      · rw [if_neg h2]; exact h j hj
  · intro j hj
    have : (none_ n).getD j 0 = -1 := getD_replicate n (-1) j (by simpa [none_] using hj)
    rw [this]; omega
def fst (at_ : List Int) : Nat → Nat → Int
  | _, 0 => -1
  | i, d + 1 => if at_.getD i 0 ≥ 0 then at_.getD i 0 else fst at_ (i + 1) d
def pv (l : List S70) (e : Int) : Int := (rd_T70 l e).f1
def fl (l : List S70) (at_ : List Int) (v0 : Int) : Nat → Int
  | 0 => if at_.getD 0 0 ≥ 0 then pv l (at_.getD 0 0) else v0
  | j + 1 => if at_.getD (j + 1) 0 ≥ 0 then pv l (at_.getD (j + 1) 0) else fl l at_ v0 j
def flv (l : List S70) (at_ : List Int) (v0 : Int) (i : Nat) : Int := if i = 0 then v0 else fl l at_ v0 (i - 1)
theorem fl_step (l : List S70) (at_ : List Int) (v0 : Int) (i : Nat) : fl l at_ v0 i = if at_.getD i 0 ≥ 0 then pv l (at_.getD i 0) else flv l at_ v0 i := by
  cases i with
  | zero => simp [fl, flv]
  | succ i => simp [fl, flv]
def filled (l : List S70) (at_ : List Int) (v0 : Int) (n : Nat) : List Int := (List.range n).map (fl l at_ v0)
theorem fill_l1 (l : List S70) (_hl : l.length ≤ 1152921504606846976) (at_ : List Int) (n : Nat) (hn : n ≤ 10000) (ha : at_.length = n) (hk : okPl l at_) (v0 : Int) (d : Nat) :
    ∀ (i : Nat) (out : List Int), i + d = n → out.length = n → (∀ j, j < i → out.getD j 0 = fl l at_ v0 j) → Ev (fun k => resample_Points.l1 k l at_ out (flv l at_ v0 i) (n : Int) (i : Int)) (filled l at_ v0 n, 0) := by
  induction d with
  | zero =>
    intro i out hi ho hp
    refine Ev.step (f := fun _ => some (out, 0)) (fun k => ?_) ?_
    · simp only [resample_Points.l1]
      rw [if_neg (by omega)]
    · have : out = filled l at_ v0 n := by
        refine ext_getD (by simp [filled, ho]) (fun j hj => ?_)
        rw [hp j (by omega), filled, getD_range _ _ _ (by omega)]
      rw [this]
      exact Ev.now _
  | succ d ih =>
    intro i out hi ho hp
    have e : wrap64 ((i : Int) + 1) = ((i + 1 : Nat) : Int) := by rw [wrap64_id (by omega) (by omega)]; omega
    have hst := fl_step l at_ v0 i
    have next : ∀ v, v = fl l at_ v0 i → Ev (fun k => resample_Points.l1 k l at_ (out.set i v) v (n : Int) ((i + 1 : Nat) : Int)) (filled l at_ v0 n, 0) := by
      intro v hv
      have := ih (i + 1) (out.set i v) (by omega) (by simpa using ho) (fun j hj => by
        rw [getD_set _ _ _ _ _ (by omega)]
        split
        · rename_i h; subst h; exact hv
        · exact hp j (by omega))
      have e3 : flv l at_ v0 (i + 1) = v := by rw [hv]; simp [flv]
      rw [e3] at this
      exact this
    refine Ev.step (f := fun k => resample_Points.l1 k l at_ (out.set i (fl l at_ v0 i)) (fl l at_ v0 i) (n : Int) ((i + 1 : Nat) : Int)) (fun k => ?_) (next _ rfl)
    simp only [resample_Points.l1]
    rw [if_pos (by omega), if_pos (by omega), if_pos (by omega), rd_nat, e]
    obtain ⟨k1, k2⟩ := hk i (by omega)
    have e2 : (i : Int).toNat = i := by omega
    rw [e2]
    by_cases h1 : at_.getD i 0 ≥ 0
    · rw [if_pos h1] at hst
      rw [if_pos h1, if_pos h1, if_pos k1, if_pos (by omega), hst]
      rfl
    · rw [if_neg h1] at hst
      rw [if_neg h1, if_pos (by omega), hst]
theorem points_j1 (l : List S70) (hl : l.length ≤ 1152921504606846976) (at_ : List Int) (n : Nat) (hn : n ≤ 10000) (ha : at_.length = n) (hk : okPl l at_) (e : Int) (he : e < l.length) :
    Ev (fun k => resample_Points.j1 k l (n : Int) at_ e) (if e < 0 then ([], 0) else (filled l at_ (pv l e) n, 0)) := by
  by_cases h : e < 0
  · rw [if_pos h]
    refine Ev.step (f := fun _ => some ([], 0)) (fun k => ?_) (Ev.now _)
    simp only [resample_Points.j1]
    rw [if_pos h]
  · rw [if_neg h]
    have := fill_l1 l hl at_ n hn ha hk (pv l e) n 0 (List.replicate n 0) (by omega) (by simp) (fun j hj => by omega)
    refine Ev.step (f := fun k => resample_Points.l1 k l at_ (List.replicate n 0) (pv l e) (n : Int) 0) (fun k => ?_) this
    simp only [resample_Points.j1]
    rw [if_neg h, if_pos (by omega), if_pos (by omega), if_pos (by omega), if_pos he]
    have e2 : (n : Int).toNat = n := by omega
    rw [e2]; rfl
theorem fst_yes {at_ : List Int} {i d : Nat} (h : at_.getD i 0 ≥ 0) : fst at_ i (d + 1) = at_.getD i 0 := by simp only [fst]; rw [if_pos h]
theorem fst_no {at_ : List Int} {i d : Nat} (h : ¬ at_.getD i 0 ≥ 0) : fst at_ i (d + 1) = fst at_ (i + 1) d := by simp only [fst]; rw [if_neg h]
theorem points_l0 (l : List S70) (hl : l.length ≤ 1152921504606846976) (at_ : List Int) (n : Nat) (hn : n ≤ 10000) (ha : at_.length = n) (hk : okPl l at_) (d : Nat) :
    ∀ i : Nat, i + d = n → Ev (fun k => resample_Points.l0 k l (n : Int) at_ (-1) at_ (n : Int) (i : Int)) (if fst at_ i d < 0 then ([], 0) else (filled l at_ (pv l (fst at_ i d)) n, 0)) := by
  induction d with
  | zero =>
    intro i hi
    refine Ev.step (f := fun k => resample_Points.j1 k l (n : Int) at_ (-1)) (fun k => ?_) ?_
    · simp only [resample_Points.l0]
      rw [if_neg (by omega)]
    · have := points_j1 l hl at_ n hn ha hk (-1) (by omega)
      simpa [fst] using this
  | succ d ih =>
    intro i hi
    have e : wrap64 ((i : Int) + 1) = ((i + 1 : Nat) : Int) := by rw [wrap64_id (by omega) (by omega)]; omega
    by_cases h1 : at_.getD i 0 ≥ 0
    · refine Ev.step (f := fun k => resample_Points.j1 k l (n : Int) at_ (at_.getD i 0)) (fun k => ?_) ?_
      · simp only [resample_Points.l0]
        rw [if_pos (by omega), if_pos (by omega), if_pos (by omega), rd_nat, if_pos h1]
      · have := points_j1 l hl at_ n hn ha hk (at_.getD i 0) (hk i (by omega)).1
        rw [fst_yes h1]
        exact this
    · refine Ev.step (f := fun k => resample_Points.l0 k l (n : Int) at_ (-1) at_ (n : Int) ((i + 1 : Nat) : Int)) (fun k => ?_) ?_
      · simp only [resample_Points.l0]
        rw [if_pos (by omega), if_pos (by omega), if_pos (by omega), rd_nat, if_neg h1, e]
      · rw [fst_no h1]
        exact ih (i + 1) (by omega)
def ptS (l : List S70) (at_ : List Int) : List Int := if fst at_ 0 at_.length < 0 then [] else filled l at_ (pv l (fst at_ 0 at_.length)) at_.length
def cnt (at_ : List Int) : Nat → Nat → Int
  | _, 0 => 0
  | i, d + 1 => (if at_.getD i 0 < 0 then 1 else 0) + cnt at_ (i + 1) d
theorem gaps_l0 (at_ : List Int) (n : Nat) (hn : n ≤ 10000) (ha : at_.length = n) (d : Nat) :
    ∀ (i : Nat) (g : Int), i + d = n → 0 ≤ g → g ≤ i → Ev (fun k => resample_Gaps.l0 k g at_ (n : Int) (i : Int)) (g + cnt at_ i d, 0) := by
  induction d with
  | zero =>
    intro i g hi h0 h1
    refine Ev.step (f := fun _ => some (g + cnt at_ i 0, 0)) (fun k => ?_) (Ev.now _)
    simp only [resample_Gaps.l0]
    rw [if_neg (by omega)]
    simp [cnt]
  | succ d ih =>
    intro i g hi h0 h1
    have e : wrap64 ((i : Int) + 1) = ((i + 1 : Nat) : Int) := by rw [wrap64_id (by omega) (by omega)]; omega
    by_cases h : at_.getD i 0 < 0
    · refine Ev.step (f := fun k => resample_Gaps.l0 k (wrap64 (g + 1)) at_ (n : Int) ((i + 1 : Nat) : Int)) (fun k => ?_) ?_
      · simp only [resample_Gaps.l0]
        rw [if_pos (by omega), if_pos (by omega), if_pos (by omega), rd_nat, if_pos h, e]
      · rw [wrap64_id (by omega) (by omega)]
        have := ih (i + 1) (g + 1) (by omega) (by omega) (by omega)
        simp only [cnt]
        rw [if_pos h, ← Int.add_assoc]
        exact this
    · refine Ev.step (f := fun k => resample_Gaps.l0 k g at_ (n : Int) ((i + 1 : Nat) : Int)) (fun k => ?_) ?_
      · simp only [resample_Gaps.l0]
        rw [if_pos (by omega), if_pos (by omega), if_pos (by omega), rd_nat, if_neg h, e]
      · have := ih (i + 1) g (by omega) h0 (by omega)
        simp only [cnt]
        rw [if_neg h, Int.zero_add]
        exact this
theorem points_bad (l : List S70) (hl : l.length ≤ 1152921504606846976) (from_ step n : Int) (h : askS l from_ step n ≠ 0) : Ev (fun k => resample_Points.f k l from_ step n) ([], askS l from_ step n) := by
  unfold resample_Points.f
  refine Ev.bind (ask_ev l hl from_ step n) ?_
  simp only [if_neg h]
  exact Ev.now _
theorem gaps_bad (l : List S70) (hl : l.length ≤ 1152921504606846976) (from_ step n : Int) (h : askS l from_ step n ≠ 0) : Ev (fun k => resample_Gaps.f k l from_ step n) (0, askS l from_ step n) := by
  unfold resample_Gaps.f
  refine Ev.bind (ask_ev l hl from_ step n) ?_
  simp only [if_neg h]
  exact Ev.now _
theorem ask_ok {l : List S70} {from_ step n : Int} (h : askS l from_ step n = 0) : argOK from_ step n = true ∧ ris l 0 l.length = true := by
  unfold askS at h
  split at h
  · rename_i h1
    refine ⟨h1, ?_⟩
    split at h
    · assumption
    · omega
  · omega
theorem arg_ok {from_ step n : Int} (h : argOK from_ step n = true) : 1 ≤ step ∧ step ≤ 9007199254740992 ∧ 0 ≤ n ∧ n ≤ 10000 ∧ -9007199254740992 ≤ from_ ∧ from_ ≤ 9007199254740992 := by
  unfold argOK at h
  simp only [Bool.and_eq_true, decide_eq_true_eq] at h
  omega
theorem points_good (l : List S70) (hl : l.length ≤ 1152921504606846976) (from_ step : Int) (n : Nat) (h : askS l from_ step n = 0) : Ev (fun k => resample_Points.f k l from_ step n) (ptS l (plS l from_ step n), 0) := by
  obtain ⟨h1, h2⟩ := ask_ok h
  obtain ⟨a1, a2, a3, a4, a5, a6⟩ := arg_ok h1
  unfold resample_Points.f
  refine Ev.bind (h ▸ ask_ev l hl from_ step n) ?_
  simp only [if_true]
  refine Ev.bind (places_ev l hl from_ step n (by omega) a1 ⟨a5, a6⟩ (timedAll_of l h2)) ?_
  have hlen := plS_length l from_ step n
  have := points_l0 l hl (plS l from_ step n) n (by omega) hlen (plS_ok l from_ step n a1) n 0 (by omega)
  simp only [hlen]
  unfold ptS
  rw [hlen]
  have e : (if fst (plS l from_ step n) 0 n < 0 then (([], 0) : List Int × Int) else (filled l (plS l from_ step n) (pv l (fst (plS l from_ step n) 0 n)) n, 0)) = (if fst (plS l from_ step n) 0 n < 0 then [] else filled l (plS l from_ step n) (pv l (fst (plS l from_ step n) 0 n)) n, 0) := by split <;> rfl
  rw [← e]
  exact this
theorem gaps_good (l : List S70) (hl : l.length ≤ 1152921504606846976) (from_ step : Int) (n : Nat) (h : askS l from_ step n = 0) : Ev (fun k => resample_Gaps.f k l from_ step n) (cnt (plS l from_ step n) 0 n, 0) := by
  obtain ⟨h1, h2⟩ := ask_ok h
  obtain ⟨a1, a2, a3, a4, a5, a6⟩ := arg_ok h1
  unfold resample_Gaps.f
  refine Ev.bind (h ▸ ask_ev l hl from_ step n) ?_
  simp only [if_true]
  refine Ev.bind (places_ev l hl from_ step n (by omega) a1 ⟨a5, a6⟩ (timedAll_of l h2)) ?_
  have hlen := plS_length l from_ step n
  have := gaps_l0 (plS l from_ step n) n (by omega) hlen n 0 0 (by omega) (by omega) (by omega)
  simp only [hlen]
  rw [Int.zero_add] at this
  exact this
end Go.Proofs.Ytemnfnbjapobcaa.RS
end
section
namespace Go.Proofs.Ytemnfnbjapobcaa.PS
open Go.Proofs.Ytemnfnbjapobcaa.Pr Go.Proofs.Ytemnfnbjapobcaa.RS
def pointsS (l : List S70) (from_ step n : Int) : List Int × Int := if askS l from_ step n = 0 then (ptS l (plS l from_ step n.toNat), 0) else ([], askS l from_ step n)
def gapsS (l : List S70) (from_ step n : Int) : Int × Int := if askS l from_ step n = 0 then (cnt (plS l from_ step n.toNat) 0 n.toNat, 0) else (0, askS l from_ step n)
def untilN : List S70 → Int → Nat
  | [], _ => 0
  | x :: l, now => if x.f0 ≤ now then untilN l now + 1 else 0
theorem until_le : ∀ (l : List S70) (now : Int), untilN l now ≤ l.length
  | [], _ => Nat.le_refl _
  | x :: l, now => by
    have := until_le l now
    unfold untilN
    split <;> simp <;> omega
theorem until_get : ∀ (l : List S70) (now : Int) (i : Nat), i < untilN l now → (l.getD i z70).f0 ≤ now
  | [], _, i, h => absurd h (Nat.not_lt_zero _)
  | x :: l, now, i, h => by
    unfold untilN at h
    by_cases c : x.f0 ≤ now
    · rw [if_pos c] at h
      cases i with
      | zero => exact c
      | succ i => exact until_get l now i (by omega)
    · rw [if_neg c] at h; omega
theorem until_stop : ∀ (l : List S70) (now : Int), untilN l now < l.length → ¬ (l.getD (untilN l now) z70).f0 ≤ now
  | [], _, h => absurd h (Nat.not_lt_zero _)
  | x :: l, now, h => by
    by_cases c : x.f0 ≤ now
    · have e : untilN (x :: l) now = untilN l now + 1 := by rw [untilN, if_pos c]
      rw [e] at h ⊢
      exact until_stop l now (by simpa using h)
    · have e : untilN (x :: l) now = 0 := by rw [untilN, if_neg c]
      rw [e]
      exact c
def sIn (l : List S70) : Prop := ∀ x ∈ l, FS.In x.f0 ∧ FS.In x.f1
theorem fl_in {l : List S70} (h : sIn l) (at_ : List Int) {v0 : Int} (h0 : FS.In v0) : ∀ i, FS.In (fl l at_ v0 i)
  | 0 => by
    rw [fl_step]
    split
    · exact pv_in _
    · exact h0
  | i + 1 => by
    rw [fl_step]
    split
    · exact pv_in _
    · exact fl_in h at_ h0 i
where
  pv_in (e : Int) : FS.In (pv l e) := by
    unfold pv rd_T70
    rw [List.getD_eq_getElem?_getD]
    cases he : l[e.toNat]? with
    | none => exact ⟨by decide, by decide⟩
    | some x => exact (h x (List.mem_of_getElem? he)).2
theorem pt_in {l : List S70} (h : sIn l) (at_ : List Int) : HS.AllIn (ptS l at_) := by
  unfold ptS
  split
  · intro x hx; cases hx
  · intro x hx
    unfold filled at hx
    obtain ⟨i, _, rfl⟩ := List.mem_map.mp hx
    exact fl_in h at_ (fl_in.pv_in h _) i
theorem points_in {l : List S70} (h : sIn l) (from_ step n : Int) : HS.AllIn (pointsS l from_ step n).1 := by
  unfold pointsS
  split
  · exact pt_in h _
  · intro x hx; cases hx
theorem points_len (l : List S70) (from_ step n : Int) (hn : n ≤ 10000) : (pointsS l from_ step n).1.length ≤ 10000 := by
  unfold pointsS
  split
  · show (ptS l (plS l from_ step n.toNat)).length ≤ 10000
    unfold ptS
    split
    · exact Nat.zero_le _
    · unfold filled
      rw [List.length_map, List.length_range, plS_length]
      omega
  · exact Nat.zero_le _
end Go.Proofs.Ytemnfnbjapobcaa.PS
namespace Go.Proofs.Ytemnfnbjapobcaa.Ho
open Go.RowKit Go.Proofs.YtemnfnbjapobcaaW.PrintWords Go.Proofs.YtemnfnbjapobcaaW.PrintLast Go.Proofs.YtemnfnbjapobcaaW.PrintMore
open Go.Proofs.Ytemnfnbjapobcaa.FS Go.Proofs.Ytemnfnbjapobcaa.HS Go.Proofs.Ytemnfnbjapobcaa.FM Go.Proofs.Ytemnfnbjapobcaa.PS Go.Proofs.Ytemnfnbjapobcaa.Pr
set_option linter.unusedVariables false
set_option linter.unusedSimpArgs false
theorem pfloor_calls (p : Pol) (load : Int) (hl : FS.In load) (hp : FS.In p.per) (w : World) :
    Calls Try.prog 53 #[polV p, .int .i64 load] w fun e w' => e = .returned (.int .i64 (floorP p load)) ∧ Below w.heap.size w w' := by
  obtain ⟨mn, mx, per, stale, step, ahead, cool, season⟩ := p
  refine Pr.policy_Floor.calls mn mx per stale step ahead cool season load _ w ?_
  unfold Pr.policy_Floor.f Pr.policy_Check.f floorP checkP
  rw [Option.bind_some]
  by_cases h : okP ⟨mn, mx, per, stale, step, ahead, cool, season⟩
  · rw [if_pos h, if_pos h, if_pos rfl]
    have e1 : Pr.fixed_CeilDiv.f load per = some (cdivS load per) := if_pos (by simp [inB_iff.mpr hl, inB_iff.mpr hp])
    have e2 : Pr.fixed_Ceil.f (cdivS load per) = some (-(-(cdivS load per) / 4294967296)) := if_pos (inB_iff.mpr (in_cdivS _ _))
    rw [e1, Option.bind_some, e2, Option.bind_some]
    unfold Pr.fixed_Clamp.f clampS
    split
    · rfl
    · split <;> rfl
  · rw [if_neg h, if_neg h, if_neg (by decide)]
theorem points_calls (A : Option Addr) (c : Nat) (l : List S70) (from_ step n : Int) (w : World) (hr : Kd.C k70 w A l.length l) (hc : l.length ≤ c) (hl : l.length ≤ 1152921504606846976) :
    Calls Try.prog 139 #[.slice A l.length c, .int .i64 from_, .int .i64 step, .int .i64 n] w fun e w' => ∃ v0_ : Value, e = .returned (.tuple #[v0_, .int .i64 (pointsS l from_ step n).2]) ∧ Kd.R (Kd.int .i64) 3 w' w.heap.size (fun _ => True) v0_ (pointsS l from_ step n).1 ∧ Below w.heap.size w w' := by
  obtain ⟨k, h⟩ : ∃ k, Pr.resample_Points.f k l from_ step n = some (pointsS l from_ step n) := by
    unfold pointsS
    by_cases h : RS.askS l from_ step n = 0
    · rw [if_pos h]
      obtain ⟨_, _, h0, _⟩ := RS.arg_ok (RS.ask_ok h).1
      obtain ⟨N, rfl⟩ := Int.eq_ofNat_of_zero_le h0
      exact (RS.points_good l hl from_ step N h).rounds
    · rw [if_neg h]
      exact (RS.points_bad l hl from_ step n h).rounds
  exact Pr.resample_Points.calls k A c l from_ step n _ _ w hr hc h
theorem gaps_calls (A : Option Addr) (c : Nat) (l : List S70) (from_ step n : Int) (w : World) (hr : Kd.C k70 w A l.length l) (hc : l.length ≤ c) (hl : l.length ≤ 1152921504606846976) :
    Calls Try.prog 140 #[.slice A l.length c, .int .i64 from_, .int .i64 step, .int .i64 n] w fun e w' => e = .returned (.tuple #[.int .i64 (gapsS l from_ step n).1, .int .i64 (gapsS l from_ step n).2]) ∧ Below w.heap.size w w' := by
  obtain ⟨k, h⟩ : ∃ k, Pr.resample_Gaps.f k l from_ step n = some (gapsS l from_ step n) := by
    unfold gapsS
    by_cases h : RS.askS l from_ step n = 0
    · rw [if_pos h]
      obtain ⟨_, _, h0, _⟩ := RS.arg_ok (RS.ask_ok h).1
      obtain ⟨N, rfl⟩ := Int.eq_ofNat_of_zero_le h0
      exact (RS.gaps_good l hl from_ step N h).rounds
    · rw [if_neg h]
      exact (RS.gaps_bad l hl from_ step n h).rounds
  exact Pr.resample_Gaps.calls k A c l from_ step n _ _ w hr hc h
theorem rising_calls (A : Option Addr) (c : Nat) (l : List S70) (w : World) (hr : Kd.C k70 w A l.length l) (hc : l.length ≤ c) (hl : l.length ≤ 1152921504606846976) :
    Calls Try.prog 82 #[.slice A l.length c] w fun e w' => e = .returned (.int .i64 (if RS.ris l 0 l.length then 0 else 21)) ∧ Below w.heap.size w w' := by
  obtain ⟨k, h⟩ := (RS.rising_ev l hl).rounds
  exact Pr.rollup_Rising.calls k A c l _ w hr hc h
def timedB (now : Int) : Bool := decide (-4503599627370496 ≤ now) && decide (now ≤ 4503599627370496)
theorem ptimed_calls (now : Int) (w : World) : Calls Try.prog 81 #[.int .i64 now] w fun e w' => e = .returned (.bool (timedB now)) ∧ Drawn0 w w' := by
  refine Pr.policy_Timed.calls now _ w ?_
  unfold Pr.policy_Timed.f timedB
  by_cases h : now ≥ -4503599627370496
  · rw [if_pos h, decide_eq_true h, Bool.true_and]
  · rw [if_neg h, decide_eq_false h, Bool.false_and]
theorem rd70_nat (l : List S70) (i : Nat) : rd_T70 l (i : Int) = l.getD i z70 := rfl
set_option maxRecDepth 100000 in
set_option maxHeartbeats 4000000 in
theorem until_calls (A : Option Addr) (c : Nat) (l : List S70) (now : Int) (w : World) (hr : Kd.C k70 w A l.length l) (hc : l.length ≤ c) (hl : l.length ≤ 1152921504606846976) :
    Calls Try.prog 83 #[.slice A l.length c, .int .i64 now] w fun e w' => e = .returned (.slice A (untilN l now) (untilN l now)) ∧ Drawn0 w w' := by
  have HR := Aside0.mk hr
  clear hr
  have hle := until_le l now
  have hget := Aside0.mk (until_get l now)
  have hstop := Aside0.mk (until_stop l now)
  obtain ⟨u, hu⟩ : ∃ u, untilN l now = u := ⟨_, rfl⟩
  rw [hu] at hle hget hstop ⊢
  clear hu
  go_enter Try.func83, Try.ntmps83
  go_wp2
  go_loopg [5] (l.length + 1) (fun kq v5 W' => ∃ i : Nat, v5 = .int .i64 (i : Int) ∧ Aside0 (kq + i = l.length + 1 ∧ i ≤ u) ∧ W' = w)
  case atStart => exact ⟨0, rfl, ⟨rfl, Nat.zero_le _⟩, rfl⟩
  case round =>
    obtain ⟨i, rfl, HK, rfl⟩ := hrel
    by_cases c1 : i < u
    · have c2 : decide ((i : Int) < (l.length : Int)) = true := decide_eq_true (by omega)
      obtain ⟨ad, e, r0, _⟩ := at_T70 HR.out (i : Int) (by omega) (by omega)
      cases e
      have g := hget.out i c1
      rw [rd70_nat, Int.toNat_natCast] at r0
      obtain ⟨x, hx⟩ : ∃ x, (l.getD i z70).f0 = x := ⟨_, rfl⟩
      rw [hx] at r0 g
      have c3 : decide (x ≤ now) = true := decide_eq_true g
      have c4 : i < l.length := by omega
      have c5 : wrap64 ((i : Int) + 1) = (i : Int) + 1 := wrap64_id (by omega) (by omega)
      clear hx g
      cases gk with
      | zero => exact absurd HK.out (by omega)
      | succ k1 =>
        go_wp2
        go_roundg k1
        case measure => omega
        case rel => exact ⟨i + 1, by go_num, ⟨by have := HK.out; omega, by omega⟩, rfl⟩
    · obtain ⟨h1, h2⟩ := HK.out
      obtain rfl : i = u := by omega
      have stop := hstop.out
      by_cases c2 : i < l.length
      · have c3 : decide ((i : Int) < (l.length : Int)) = true := decide_eq_true (by omega)
        obtain ⟨ad, e, r0, _⟩ := at_T70 HR.out (i : Int) (by omega) (by omega)
        cases e
        have g := stop c2
        rw [rd70_nat, Int.toNat_natCast] at r0
        obtain ⟨x, hx⟩ : ∃ x, (l.getD i z70).f0 = x := ⟨_, rfl⟩
        rw [hx] at r0 g
        have c4 : decide (x ≤ now) = false := decide_eq_false (by omega)
        clear hx g stop h1 h2 c1
        have c6 : i ≤ c := by omega
        go_wp2
        go_ret
        exact ⟨rfl, Drawn0.refl _⟩
      · have c3 : decide ((i : Int) < (l.length : Int)) = false := decide_eq_false (by omega)
        clear stop h1 h2 c1
        have c6 : i ≤ c := by omega
        go_wp2
        go_ret
        exact ⟨rfl, Drawn0.refl _⟩
end Go.Proofs.Ytemnfnbjapobcaa.Ho
end
section
namespace Go.Proofs.Ytemnfnbjapobcaa.PS
open Go.Proofs.Ytemnfnbjapobcaa.Pr Go.Proofs.Ytemnfnbjapobcaa.RS Go.Proofs.Ytemnfnbjapobcaa.HS
def lastS (l : List S70) : S70 := l.getD (l.length - 1) z70
def floorD (d : Dr) (l : List S70) : Int := if 0 < l.length ∧ d.now - d.p.stale < (lastS l).f0 then floorP d.p (lastS l).f1 else if d.some then d.prev.rep else d.p.mn
def ptsD (d : Dr) (l : List S70) : List Int × Int := pointsS l (d.now + 1 - 4 * d.p.season * d.p.step) d.p.step (4 * d.p.season)
def gpsD (d : Dr) (l : List S70) : Int × Int := gapsS l (d.now + 1 - 4 * d.p.season * d.p.step) d.p.step (4 * d.p.season)
def peakD (d : Dr) (l : List S70) : Int × Int := peakS (ptsD d l).1 d.p.season d.p.ahead
def castD (d : Dr) (l : List S70) : Int :=
  if 4503599627370496 / (4 * d.p.season) < d.p.step then 0
  else if (ptsD d l).2 ≠ 0 then 0
  else if (ptsD d l).1.length = 0 then 0
  else if (gpsD d l).2 ≠ 0 then 0
  else if 4 * d.p.season / 2 < (gpsD d l).1 then 0
  else if (peakD d l).2 ≠ 0 then 0
  else floorP d.p (peakD d l).1
end Go.Proofs.Ytemnfnbjapobcaa.PS
namespace Go.Proofs.Ytemnfnbjapobcaa.Ho
open Go.RowKit Go.Proofs.YtemnfnbjapobcaaW.PrintWords Go.Proofs.YtemnfnbjapobcaaW.PrintLast Go.Proofs.YtemnfnbjapobcaaW.PrintMore
open Go.Proofs.Ytemnfnbjapobcaa.FS Go.Proofs.Ytemnfnbjapobcaa.HS Go.Proofs.Ytemnfnbjapobcaa.FM Go.Proofs.Ytemnfnbjapobcaa.PS Go.Proofs.Ytemnfnbjapobcaa.Pr
set_option linter.unusedVariables false
set_option linter.unusedSimpArgs false
set_option maxRecDepth 100000 in
set_option maxHeartbeats 8000000 in
theorem dfloor_calls (b : Nat) (d : Dr) (A : Option Addr) (c : Nat) (l : List S70) (w : World) (h : DrAt w b d A l.length c) (hr : Kd.C k70 w A l.length l) (hc : l.length ≤ c) (hs : sIn l) (hp : okP d.p) (hper : FS.In d.p.per) (hn0 : -4503599627370496 ≤ d.now) (hn1 : d.now ≤ 4503599627370496) (hl : l.length ≤ 1152921504606846976) :
    Calls Try.prog 118 #[.pointer (some ⟨b, 0, none⟩)] w fun e w' => e = .returned (.int .i64 (floorD d l)) ∧ Below w.heap.size w w' := by
  have d0 := h.at 0 (.int .i64 d.p.mn) rfl
  have d1 := h.at 1 (.int .i64 d.p.mx) rfl
  have d2 := h.at 2 (.int .i64 d.p.per) rfl
  have d3 := h.at 3 (.int .i64 d.p.stale) rfl
  have d4 := h.at 4 (.int .i64 d.p.step) rfl
  have d5 := h.at 5 (.int .i64 d.p.ahead) rfl
  have d6 := h.at 6 (.int .i64 d.p.cool) rfl
  have d7 := h.at 7 (.int .i64 d.p.season) rfl
  have d8 := h.at 8 (.int .i64 d.now) rfl
  have d11 := h.at 11 (.int .i64 d.prev.t) rfl
  have d12 := h.at 12 (.int .i64 d.prev.rep) rfl
  have d9 := h.at 9 (.slice A l.length c) rfl
  have KS := Aside0.mk (fun W (h : DrAt W b d A l.length c) => some_calls b d A l.length c W h)
  have HD := Aside0.mk h
  have HR := Aside0.mk hr
  clear h hr
  obtain ⟨f, hf⟩ : ∃ f, floorD d l = f := ⟨_, rfl⟩
  rw [hf]
  unfold floorD at hf
  by_cases c0 : 0 < l.length
  · obtain ⟨m, hm⟩ : ∃ m, l.length = m + 1 := ⟨l.length - 1, by omega⟩
    have e1 : wrap64 ((l.length : Int) - 1) = (m : Int) := by rw [wrap64_id (by omega) (by omega)]; omega
    have e1' : IntKind.i64.wrap ((l.length : Int) - 1) = (m : Int) := (i64_w _).trans e1
    have e2 : (l.length : Int) - 1 = (m : Int) := by omega
    have e3 : decide ((0 : Int) < (l.length : Int)) = true := decide_eq_true (by omega)
    have e3' : decide (0 < l.length) = true := decide_eq_true c0
    have e4 : m < l.length := by omega
    obtain ⟨ad, ee, r0, r1⟩ := at_T70 HR.out (m : Int) (by omega) (by omega)
    subst ee
    have hla : lastS l = l.getD m z70 := by unfold lastS; rw [hm]; rfl
    rw [rd70_nat, Int.toNat_natCast, ← hla] at r0 r1
    have hsv : FS.In (lastS l).f1 := by
      have : lastS l ∈ l := by rw [hla, List.getD_eq_getElem?_getD, List.getElem?_eq_getElem e4]; exact List.getElem_mem e4
      exact (hs _ this).2
    obtain ⟨S, hS⟩ : ∃ S, lastS l = S := ⟨_, rfl⟩
    rw [hS] at hf r0 r1 hsv
    clear hla hS
    obtain ⟨T, V⟩ := S
    dsimp only at hf r0 r1 hsv
    obtain ⟨y, hy⟩ : ∃ y, d.now - d.p.stale = y := ⟨_, rfl⟩
    have ey : IntKind.i64.wrap (d.now - d.p.stale) = y := by
      obtain ⟨_, _, _, _, ⟨s1, s2⟩, _⟩ := hp
      rw [i64_w, wrap64_id (by omega) (by omega)]; exact hy
    rw [hy] at hf
    by_cases c1 : y < T
    · rw [if_pos ⟨c0, c1⟩] at hf
      have e5 : decide (y < T) = true := decide_eq_true c1
      have KF := Aside0.mk (fun W => pfloor_calls d.p V hsv hper W)
      rw [hf] at KF
      obtain ⟨⟨mn, mx, per, stale, step, ahead, cool, season⟩, now, plan, ⟨pt, pr, pf, pp, pc⟩, changed⟩ := d
      dsimp only [okP] at d0 d1 d2 d3 d4 d5 d6 d7 d8 d11 d12 hp hper hn0 hn1 ey hy
      dsimp only [polV] at KF
      clear KS hp hper hn0 hn1 hf hy c0 c1 hsv hm
      go_enter Try.func118, Try.ntmps118
      go_wp2
      go_quiet (fail)
      go_wp2
      refine wp_region_mid 13 (by kernel_rfl) (by kernel_rfl) rfl ?_
      simp only [List.take_succ_cons, List.take_zero, List.drop_succ_cons, List.drop_zero]
      repeat (go_big_quiet_step (fail))
      refine wpQuiet_nil ?_
      rintro W1 ⟨nq, hnq⟩ K1 hK
      have HB0 : Aside0 (Below w.heap.size w W1) := ⟨hnq ▸ pw_below_drewN (pw_below_drewN (Below.refl _ _) _) _⟩
      clear hnq nq
      refine goes_ Try.func53 (by kernel_rfl) rfl #[.agg #[.int .i64 mn, .int .i64 mx, .int .i64 per, .int .i64 stale, .int .i64 step, .int .i64 ahead, .int .i64 cool, .int .i64 season], .int .i64 V] (by rfl) rfl rfl (by simp [Act.eval]) ?_
      refine (KF.out _).mono ?_
      rintro e w2 ⟨rfl, hb2⟩
      refine ⟨_, rfl, hK _ _ ?_⟩
      have HB2 := Aside0.mk (HB0.out.trans (hb2.mono HB0.out.size))
      clear hK K1 hb2
      simp only [Act.put, List.setIfInBounds_toArray, List.set_cons_zero, List.set_cons_succ]
      repeat (go_big_quiet_step (fail))
      refine wpQuiet_nil ?_
      rintro w3 ⟨n3, rfl⟩
      go_wp2
      go_ret
      exact ⟨rfl, pw_below_drewN HB2.out _⟩
    · have e5 : decide (y < T) = false := decide_eq_false c1
      have cf : ¬ (0 < l.length ∧ y < T) := fun h => c1 h.2
      by_cases g : d.some
      · rw [if_neg cf, if_pos g] at hf
        have KS1 : Aside0 (∀ W, DrAt W b d (some ad) l.length c → Calls Try.prog 121 #[.pointer (some ⟨b, 0, none⟩)] W fun e w' => e = .returned (.bool true) ∧ Drawn0 W w') := ⟨fun W h => by
          have := KS.out W h
          rwa [decide_eq_true g] at this⟩
        obtain ⟨⟨mn, mx, per, stale, step, ahead, cool, season⟩, now, plan, ⟨pt, pr, pf, pp, pc⟩, changed⟩ := d
        dsimp only [okP] at d0 d1 d2 d3 d4 d5 d6 d7 d8 d11 d12 hp hper hn0 hn1 ey hy
        dsimp only at hf
        subst hf
        clear hy c0 c1 cf hsv hm g KS hp hper hn0 hn1
        go_enter Try.func118, Try.ntmps118
        go_wp2
        go_quiet (fail)
        go_wp2_with (go_at_call 121; (with_reducible refine (KS1.out _ (HD.out.below (pw_below_drewN (Below.refl _ _) _))).mono ?_); rintro e w' ⟨rfl, ⟨nd, rfl⟩⟩)
        go_ret
        first | exact ⟨rfl, pw_below_drewN (Below.refl _ _) _⟩ | exact ⟨rfl, pw_below_drewN (pw_below_drewN (Below.refl _ _) _) _⟩ | exact ⟨rfl, pw_below_drewN (pw_below_drewN (below_drew1 (Below.refl _ _)) _) _⟩
      · rw [if_neg cf, if_neg g] at hf
        have KS1 : Aside0 (∀ W, DrAt W b d (some ad) l.length c → Calls Try.prog 121 #[.pointer (some ⟨b, 0, none⟩)] W fun e w' => e = .returned (.bool false) ∧ Drawn0 W w') := ⟨fun W h => by
          have := KS.out W h
          rwa [decide_eq_false g] at this⟩
        obtain ⟨⟨mn, mx, per, stale, step, ahead, cool, season⟩, now, plan, ⟨pt, pr, pf, pp, pc⟩, changed⟩ := d
        dsimp only [okP] at d0 d1 d2 d3 d4 d5 d6 d7 d8 d11 d12 hp hper hn0 hn1 ey hy
        dsimp only at hf
        subst hf
        clear hy c0 c1 cf hsv hm g KS hp hper hn0 hn1
        go_enter Try.func118, Try.ntmps118
        go_wp2
        go_quiet (fail)
        go_wp2_with (go_at_call 121; (with_reducible refine (KS1.out _ (HD.out.below (pw_below_drewN (Below.refl _ _) _))).mono ?_); rintro e w' ⟨rfl, ⟨nd, rfl⟩⟩)
        go_ret
        first | exact ⟨rfl, pw_below_drewN (Below.refl _ _) _⟩ | exact ⟨rfl, pw_below_drewN (pw_below_drewN (Below.refl _ _) _) _⟩ | exact ⟨rfl, pw_below_drewN (pw_below_drewN (below_drew1 (Below.refl _ _)) _) _⟩
  · have e3 : decide ((0 : Int) < (l.length : Int)) = false := decide_eq_false (by omega)
    have e3' : decide (0 < l.length) = false := decide_eq_false c0
    have cf : ¬ (0 < l.length ∧ d.now - d.p.stale < (lastS l).f0) := fun h => c0 h.1
    have e4 : l.length = 0 := by omega
    by_cases g : d.some
    · rw [if_neg cf, if_pos g] at hf
      have KS1 : Aside0 (∀ W, DrAt W b d A l.length c → Calls Try.prog 121 #[.pointer (some ⟨b, 0, none⟩)] W fun e w' => e = .returned (.bool true) ∧ Drawn0 W w') := ⟨fun W h => by
        have := KS.out W h
        rwa [decide_eq_true g] at this⟩
      obtain ⟨⟨mn, mx, per, stale, step, ahead, cool, season⟩, now, plan, ⟨pt, pr, pf, pp, pc⟩, changed⟩ := d
      dsimp only [okP] at d0 d1 d2 d3 d4 d5 d6 d7 d8 d11 d12 hp hper hn0 hn1
      dsimp only at hf
      subst hf
      clear cf c0 g KS hp hper hn0 hn1
      go_enter Try.func118, Try.ntmps118
      go_wp2
      go_quiet (fail)
      go_wp2_with (go_at_call 121; (with_reducible refine (KS1.out _ (HD.out.below (pw_below_drewN (Below.refl _ _) _))).mono ?_); rintro e w' ⟨rfl, ⟨nd, rfl⟩⟩)
      go_ret
      first | exact ⟨rfl, pw_below_drewN (Below.refl _ _) _⟩ | exact ⟨rfl, pw_below_drewN (pw_below_drewN (Below.refl _ _) _) _⟩ | exact ⟨rfl, pw_below_drewN (pw_below_drewN (below_drew1 (Below.refl _ _)) _) _⟩
    · rw [if_neg cf, if_neg g] at hf
      have KS1 : Aside0 (∀ W, DrAt W b d A l.length c → Calls Try.prog 121 #[.pointer (some ⟨b, 0, none⟩)] W fun e w' => e = .returned (.bool false) ∧ Drawn0 W w') := ⟨fun W h => by
        have := KS.out W h
        rwa [decide_eq_false g] at this⟩
      obtain ⟨⟨mn, mx, per, stale, step, ahead, cool, season⟩, now, plan, ⟨pt, pr, pf, pp, pc⟩, changed⟩ := d
      dsimp only [okP] at d0 d1 d2 d3 d4 d5 d6 d7 d8 d11 d12 hp hper hn0 hn1
      dsimp only at hf
      subst hf
      clear cf c0 g KS hp hper hn0 hn1
      go_enter Try.func118, Try.ntmps118
      go_wp2
      go_quiet (fail)
      go_wp2_with (go_at_call 121; (with_reducible refine (KS1.out _ (HD.out.below (pw_below_drewN (Below.refl _ _) _))).mono ?_); rintro e w' ⟨rfl, ⟨nd, rfl⟩⟩)
      go_ret
      first | exact ⟨rfl, pw_below_drewN (Below.refl _ _) _⟩ | exact ⟨rfl, pw_below_drewN (pw_below_drewN (Below.refl _ _) _) _⟩ | exact ⟨rfl, pw_below_drewN (pw_below_drewN (below_drew1 (Below.refl _ _)) _) _⟩
end Go.Proofs.Ytemnfnbjapobcaa.Ho
end
section
namespace Go.Proofs.Ytemnfnbjapobcaa.Ho
open Go.RowKit Go.Proofs.YtemnfnbjapobcaaW.PrintWords Go.Proofs.YtemnfnbjapobcaaW.PrintLast Go.Proofs.YtemnfnbjapobcaaW.PrintMore
open Go.Proofs.Ytemnfnbjapobcaa.FS Go.Proofs.Ytemnfnbjapobcaa.HS Go.Proofs.Ytemnfnbjapobcaa.FM Go.Proofs.Ytemnfnbjapobcaa.PS Go.Proofs.Ytemnfnbjapobcaa.Pr
set_option linter.unusedVariables false
set_option linter.unusedSimpArgs false
theorem castBy_in' {l : List Int} (hin : AllIn l) (s : Int) (o : Option Mo) (ahead : Int) : FS.In (castBy l s o ahead).1 := by
  have z : FS.In 0 := ⟨by decide, by decide⟩
  cases o with
  | none =>
    show FS.In (naiveS l s ahead).1
    unfold naiveS
    split
    · exact z
    · exact allIn_getD hin _
  | some m =>
    show FS.In (castOf (startS l m) ahead).1
    unfold castOf
    split
    · exact z
    · exact in_addS _ _
theorem pointsC (A : Option Addr) (c : Nat) (l : List S70) (from_ step n : Int) (w : World) (hr : Kd.C k70 w A l.length l) (hc : l.length ≤ c) (hl : l.length ≤ 1152921504606846976) :
    Calls Try.prog 139 #[.slice A l.length c, .int .i64 from_, .int .i64 step, .int .i64 n] w fun e w' => ∃ (B : Option Addr) (cB : Nat), e = .returned (.tuple #[.slice B (pointsS l from_ step n).1.length cB, .int .i64 (pointsS l from_ step n).2]) ∧ (pointsS l from_ step n).1.length ≤ cB ∧ Kd.C (Kd.int .i64) w' B (pointsS l from_ step n).1.length (pointsS l from_ step n).1 ∧ Below w.heap.size w w' := by
  refine (points_calls A c l from_ step n w hr hc hl).mono ?_
  rintro e w' ⟨v0, rfl, hR, hb⟩
  obtain ⟨B, cB, rfl, h1, h2⟩ := Kd.R_reads hR
  exact ⟨B, cB, rfl, h1, h2, hb⟩
theorem peakAt_in {l : List Int} (hin : AllIn l) (s : Int) (o : Option Mo) : ∀ n, FS.In (peakAt l s o n)
  | 0 => by
    show FS.In (-9223372036854775808)
    exact ⟨by decide, by decide⟩
  | n + 1 => by
    obtain ⟨a1, a2⟩ := peakAt_in hin s o n
    obtain ⟨b1, b2⟩ := castBy_in' hin s o ((n : Int) + 1)
    show FS.In (max (peakAt l s o n) (castBy l s o ((n : Int) + 1)).1)
    exact ⟨Int.le_trans a1 (Int.le_max_left _ _), Int.max_le.mpr ⟨a2, b2⟩⟩
theorem peak_in {l : List Int} (hin : AllIn l) (s a : Int) : FS.In (peakS l s a).1 := by
  unfold peakS
  split
  · exact ⟨by decide, by decide⟩
  · exact peakAt_in hin s _ _
theorem far_ok {N step : Int} (h1 : 1 ≤ N) (h2 : 1 ≤ step) (h3 : ¬ 4503599627370496 / N < step) : 0 ≤ N * step ∧ N * step ≤ 4503599627370496 := by
  refine ⟨Int.mul_nonneg (by omega) (by omega), ?_⟩
  have e1 : N * step ≤ N * (4503599627370496 / N) := Int.mul_le_mul_of_nonneg_left (by omega) (by omega)
  exact Int.le_trans e1 (Int.mul_ediv_self_le (by omega))
set_option maxRecDepth 100000 in
set_option maxHeartbeats 8000000 in
theorem dcast_calls (HS : Aside0 SeasonMiss) (HC : Aside0 SeasonCast) (b : Nat) (d : Dr) (A : Option Addr) (c : Nat) (l : List S70) (w : World) (h : DrAt w b d A l.length c) (hr : Kd.C k70 w A l.length l) (hc : l.length ≤ c) (hs : sIn l) (hp : okP d.p) (hper : FS.In d.p.per) (hn0 : -4503599627370496 ≤ d.now) (hn1 : d.now ≤ 4503599627370496) (hl : l.length ≤ 1152921504606846976) :
    Calls Try.prog 119 #[.pointer (some ⟨b, 0, none⟩)] w fun e w' => e = .returned (.int .i64 (castD d l)) ∧ Below w.heap.size w w' := by
  obtain ⟨f, hf⟩ : ∃ f, castD d l = f := ⟨_, rfl⟩
  rw [hf]
  have HD := Aside0.mk h
  have HR := Aside0.mk hr
  clear h hr
  obtain ⟨⟨mn, mx, per, stale, step, ahead, cool, season⟩, now, plan, prev, changed⟩ := d
  unfold castD peakD ptsD gpsD at hf
  dsimp only [okP] at hf hp hper hn0 hn1
  have hp' := hp
  obtain ⟨_, _, _, _, _, ⟨s1, s2⟩, _, a1, a2, e1, e2⟩ := hp'
  obtain ⟨N, hN⟩ : ∃ N, 4 * season = N := ⟨_, rfl⟩
  have n1 : 4 ≤ N ∧ N ≤ 2000 := by omega
  have eN : wrap64 (4 * season) = N := by rw [hN]; exact wrap64_id (by omega) (by omega)
  have eN' : IntKind.i64.wrap (4 * season) = N := (i64_w _).trans eN
  rw [hN] at hf
  obtain ⟨Q, hQ⟩ : ∃ Q, 4503599627370496 / N = Q := ⟨_, rfl⟩
  have q0 : 0 ≤ Q ∧ Q ≤ 4503599627370496 := by rw [← hQ]; exact ⟨Int.ediv_nonneg (by omega) (by omega), Int.ediv_le_self _ (by omega)⟩
  have eQ : Int.tdiv 4503599627370496 N = Q := by rw [Int.tdiv_eq_ediv_of_nonneg (by omega)]; exact hQ
  have eQ' : IntKind.i64.wrap Q = Q := by rw [i64_w]; exact wrap64_id (by omega) (by omega)
  have zN : ¬ N = 0 := by omega
  have zN' : (N = 0) = False := eq_false zN
  have zN2 : (N == 0) = false := by simp [zN]
  have G : Aside0 (okP ⟨mn, mx, per, stale, step, ahead, cool, season⟩) := ⟨hp⟩
  by_cases h1 : Q < step
  · rw [hQ, if_pos h1] at hf
    subst hf
    have c1 : decide (Q < step) = true := decide_eq_true h1
    have d0 := (HD.out).at 0 (.int .i64 mn) rfl
    have d1 := (HD.out).at 1 (.int .i64 mx) rfl
    have d2 := (HD.out).at 2 (.int .i64 per) rfl
    have d3 := (HD.out).at 3 (.int .i64 stale) rfl
    have d4 := (HD.out).at 4 (.int .i64 step) rfl
    have d5 := (HD.out).at 5 (.int .i64 ahead) rfl
    have d6 := (HD.out).at 6 (.int .i64 cool) rfl
    have d7 := (HD.out).at 7 (.int .i64 season) rfl
    have d8 := (HD.out).at 8 (.int .i64 now) rfl
    have d9 := (HD.out).at 9 (.slice A l.length c) rfl
    clear hp hper hn0 hn1 s1 s2 a1 a2 e1 e2 hN n1 q0 hQ h1 zN
    go_enter Try.func119, Try.ntmps119
    go_wp2
    go_quiet (fail)
    go_wp2
    go_ret
    exact ⟨rfl, pw_below_drewN (Below.refl _ _) _⟩
  have c1 : decide (Q < step) = false := decide_eq_false h1
  obtain ⟨p0, p1⟩ := far_ok (N := N) (step := step) (by omega) s1 (by rw [hQ]; exact h1)
  obtain ⟨P, hP⟩ : ∃ P, N * step = P := ⟨_, rfl⟩
  rw [hP] at p0 p1 hf
  have eP : IntKind.i64.wrap (N * step) = P := by rw [i64_w, hP]; exact wrap64_id (by omega) (by omega)
  obtain ⟨M, hM⟩ : ∃ M, now + 1 = M := ⟨_, rfl⟩
  have eM : IntKind.i64.wrap (now + 1) = M := by rw [i64_w, hM]; exact wrap64_id (by omega) (by omega)
  rw [hM] at hf
  obtain ⟨F, hF⟩ : ∃ F, M - P = F := ⟨_, rfl⟩
  have eF : IntKind.i64.wrap (M - P) = F := by rw [i64_w, hF]; exact wrap64_id (by omega) (by omega)
  rw [hF, hQ, if_neg h1] at hf
  have KP := Aside0.mk (fun W (h : Kd.C k70 W A l.length l) => pointsC A c l F step N W h hc hl)
  have KG := Aside0.mk (fun W (h : Kd.C k70 W A l.length l) => gaps_calls A c l F step N W h hc hl)
  have hpi := points_in hs F step N
  have hpl := points_len l F step N (by omega)
  obtain ⟨ps, hps⟩ : ∃ ps, (pointsS l F step N).1 = ps := ⟨_, rfl⟩
  obtain ⟨pe, hpe⟩ : ∃ pe, (pointsS l F step N).2 = pe := ⟨_, rfl⟩
  obtain ⟨gs, hgs⟩ : ∃ gs, (gapsS l F step N).1 = gs := ⟨_, rfl⟩
  obtain ⟨ge, hge⟩ : ∃ ge, (gapsS l F step N).2 = ge := ⟨_, rfl⟩
  rw [hps, hpe] at KP
  rw [hgs, hge] at KG
  rw [hps] at hpi hpl
  rw [hps, hpe, hgs, hge] at hf
  have KK := Aside0.mk (fun W (B : Option Addr) (cB : Nat) (h : Kd.C (Kd.int .i64) W B ps.length ps) (hcB : ps.length ≤ cB) => choPeak_calls HS HC B cB ps season ahead W h hcB hpi ⟨by omega, by omega⟩ ⟨by omega, by omega⟩ (by omega))
  obtain ⟨kv, hkv⟩ : ∃ kv, (peakS ps season ahead).1 = kv := ⟨_, rfl⟩
  obtain ⟨ke, hke⟩ : ∃ ke, (peakS ps season ahead).2 = ke := ⟨_, rfl⟩
  have hkin : FS.In kv := by
    rw [← hkv]
    exact peak_in hpi season ahead
  rw [hkv, hke] at KK hf
  have KF := Aside0.mk (fun W => pfloor_calls ⟨mn, mx, per, stale, step, ahead, cool, season⟩ kv hkin hper W)
  dsimp only [polV] at KF
  obtain ⟨H, hH⟩ : ∃ H, N / 2 = H := ⟨_, rfl⟩
  have eH : Int.tdiv N 2 = H := by rw [Int.tdiv_eq_ediv_of_nonneg (by omega)]; exact hH
  have eH' : wrap64 H = H := wrap64_id (by omega) (by omega)
  rw [hH] at hf
  clear hps hpe hgs hge hkv hke hkin hpi hpl hp hper hn0 hn1 s1 s2 a1 a2 e1 e2 hN n1 q0 hQ zN p0 p1 hP hM hF hH h1 hs hl
  by_cases h2 : pe ≠ 0
  · rw [if_pos h2] at hf
    subst hf
    have c2 : (pe != 0) = true := by simp [h2]
    have c2' : (pe = 0) = False := eq_false h2
    clear h2
    have d0 := (HD.out).at 0 (.int .i64 mn) rfl
    have d1 := (HD.out).at 1 (.int .i64 mx) rfl
    have d2 := (HD.out).at 2 (.int .i64 per) rfl
    have d3 := (HD.out).at 3 (.int .i64 stale) rfl
    have d4 := (HD.out).at 4 (.int .i64 step) rfl
    have d5 := (HD.out).at 5 (.int .i64 ahead) rfl
    have d6 := (HD.out).at 6 (.int .i64 cool) rfl
    have d7 := (HD.out).at 7 (.int .i64 season) rfl
    have d8 := (HD.out).at 8 (.int .i64 now) rfl
    have d9 := (HD.out).at 9 (.slice A l.length c) rfl
    go_enter Try.func119, Try.ntmps119
    go_wp2
    go_quiet (fail)
    go_wp2
    go_quiet (fail)
    go_wp2
    refine wp_region_mid 11 (by kernel_rfl) (by kernel_rfl) rfl ?_
    simp only [List.take_succ_cons, List.take_zero, List.drop_succ_cons, List.drop_zero]
    repeat (go_big_quiet_step (fail))
    refine wpQuiet_nil ?_
    rintro W1 ⟨nq, hnq⟩ K1 hK
    have HA1 : Aside0 (Below w.heap.size w W1) := ⟨by subst hnq; repeat (first | exact Below.refl _ _ | apply pw_below_drewN)⟩
    clear hnq nq
    refine goes_ Try.func139 (by kernel_rfl) rfl #[.slice A l.length c, .int .i64 F, .int .i64 step, .int .i64 N] (by rfl) rfl rfl (by simp [Act.eval]) ?_
    refine (KP.out _ (Kd.C_below HR.out HA1.out)).mono ?_
    rintro e w1 ⟨B, cB, rfl, hcB, hC, hb2⟩
    refine ⟨_, rfl, hK _ _ ?_⟩
    have HB1 : Aside0 (Below w.heap.size w w1) := ⟨HA1.out.trans (hb2.mono HA1.out.size)⟩
    have HC1 := Aside0.mk hC
    clear hK K1 hb2 hC d0 d1 d2 d3 d4 d5 d6 d7 d8 d9
    simp only [Act.put, List.setIfInBounds_toArray, List.set_cons_zero, List.set_cons_succ]
    repeat (go_big_quiet_step (fail))
    refine wpQuiet_nil ?_
    rintro v1 ⟨m1, hv1⟩
    have HD1 : Aside0 (DrAt v1 b ⟨⟨mn, mx, per, stale, step, ahead, cool, season⟩, now, plan, prev, changed⟩ A l.length c) := ⟨by subst hv1; exact (HD.out.below HB1.out).below (pw_below_drewN (Below.refl _ _) _)⟩
    have HV1 : Aside0 (Below w.heap.size w v1) := ⟨by subst hv1; exact pw_below_drewN HB1.out _⟩
    have HCv : Aside0 (Kd.C (Kd.int .i64) v1 B ps.length ps) := ⟨by subst hv1; exact Kd.C_below HC1.out (pw_below_drewN (Below.refl _ _) _)⟩
    clear hv1 m1 HC1
    have d0 := (HD1.out).at 0 (.int .i64 mn) rfl
    have d1 := (HD1.out).at 1 (.int .i64 mx) rfl
    have d2 := (HD1.out).at 2 (.int .i64 per) rfl
    have d3 := (HD1.out).at 3 (.int .i64 stale) rfl
    have d4 := (HD1.out).at 4 (.int .i64 step) rfl
    have d5 := (HD1.out).at 5 (.int .i64 ahead) rfl
    have d6 := (HD1.out).at 6 (.int .i64 cool) rfl
    have d7 := (HD1.out).at 7 (.int .i64 season) rfl
    have d8 := (HD1.out).at 8 (.int .i64 now) rfl
    have d9 := (HD1.out).at 9 (.slice A l.length c) rfl
    go_wp2
    go_ret
    exact ⟨rfl, HV1.out⟩
  rw [if_neg h2] at hf
  obtain rfl : pe = 0 := Decidable.not_not.mp h2
  clear h2
  by_cases h3 : ps.length = 0
  · rw [if_pos h3] at hf
    subst hf
    have c3 : ((ps.length : Int) == 0) = true := by simp [h3]
    have c3' : (ps.length = 0) = True := eq_true h3
    clear h3
    have d0 := (HD.out).at 0 (.int .i64 mn) rfl
    have d1 := (HD.out).at 1 (.int .i64 mx) rfl
    have d2 := (HD.out).at 2 (.int .i64 per) rfl
    have d3 := (HD.out).at 3 (.int .i64 stale) rfl
    have d4 := (HD.out).at 4 (.int .i64 step) rfl
    have d5 := (HD.out).at 5 (.int .i64 ahead) rfl
    have d6 := (HD.out).at 6 (.int .i64 cool) rfl
    have d7 := (HD.out).at 7 (.int .i64 season) rfl
    have d8 := (HD.out).at 8 (.int .i64 now) rfl
    have d9 := (HD.out).at 9 (.slice A l.length c) rfl
    go_enter Try.func119, Try.ntmps119
    go_wp2
    go_quiet (fail)
    go_wp2
    go_quiet (fail)
    go_wp2
    refine wp_region_mid 11 (by kernel_rfl) (by kernel_rfl) rfl ?_
    simp only [List.take_succ_cons, List.take_zero, List.drop_succ_cons, List.drop_zero]
    repeat (go_big_quiet_step (fail))
    refine wpQuiet_nil ?_
    rintro W1 ⟨nq, hnq⟩ K1 hK
    have HA1 : Aside0 (Below w.heap.size w W1) := ⟨by subst hnq; repeat (first | exact Below.refl _ _ | apply pw_below_drewN)⟩
    clear hnq nq
    refine goes_ Try.func139 (by kernel_rfl) rfl #[.slice A l.length c, .int .i64 F, .int .i64 step, .int .i64 N] (by rfl) rfl rfl (by simp [Act.eval]) ?_
    refine (KP.out _ (Kd.C_below HR.out HA1.out)).mono ?_
    rintro e w1 ⟨B, cB, rfl, hcB, hC, hb2⟩
    refine ⟨_, rfl, hK _ _ ?_⟩
    have HB1 : Aside0 (Below w.heap.size w w1) := ⟨HA1.out.trans (hb2.mono HA1.out.size)⟩
    have HC1 := Aside0.mk hC
    clear hK K1 hb2 hC d0 d1 d2 d3 d4 d5 d6 d7 d8 d9
    simp only [Act.put, List.setIfInBounds_toArray, List.set_cons_zero, List.set_cons_succ]
    repeat (go_big_quiet_step (fail))
    refine wpQuiet_nil ?_
    rintro v1 ⟨m1, hv1⟩
    have HD1 : Aside0 (DrAt v1 b ⟨⟨mn, mx, per, stale, step, ahead, cool, season⟩, now, plan, prev, changed⟩ A l.length c) := ⟨by subst hv1; exact (HD.out.below HB1.out).below (pw_below_drewN (Below.refl _ _) _)⟩
    have HV1 : Aside0 (Below w.heap.size w v1) := ⟨by subst hv1; exact pw_below_drewN HB1.out _⟩
    have HCv : Aside0 (Kd.C (Kd.int .i64) v1 B ps.length ps) := ⟨by subst hv1; exact Kd.C_below HC1.out (pw_below_drewN (Below.refl _ _) _)⟩
    clear hv1 m1 HC1
    have d0 := (HD1.out).at 0 (.int .i64 mn) rfl
    have d1 := (HD1.out).at 1 (.int .i64 mx) rfl
    have d2 := (HD1.out).at 2 (.int .i64 per) rfl
    have d3 := (HD1.out).at 3 (.int .i64 stale) rfl
    have d4 := (HD1.out).at 4 (.int .i64 step) rfl
    have d5 := (HD1.out).at 5 (.int .i64 ahead) rfl
    have d6 := (HD1.out).at 6 (.int .i64 cool) rfl
    have d7 := (HD1.out).at 7 (.int .i64 season) rfl
    have d8 := (HD1.out).at 8 (.int .i64 now) rfl
    have d9 := (HD1.out).at 9 (.slice A l.length c) rfl
    go_wp2
    go_ret
    exact ⟨rfl, HV1.out⟩
  rw [if_neg h3] at hf
  have c3 : ((ps.length : Int) == 0) = false := by simp [h3]
  have c3' : (ps.length = 0) = False := eq_false h3
  clear h3
  by_cases h4 : ge ≠ 0
  · rw [if_pos h4] at hf
    subst hf
    have c4 : (ge != 0) = true := by simp [h4]
    have c4' : (ge = 0) = False := eq_false h4
    clear h4
    have d0 := (HD.out).at 0 (.int .i64 mn) rfl
    have d1 := (HD.out).at 1 (.int .i64 mx) rfl
    have d2 := (HD.out).at 2 (.int .i64 per) rfl
    have d3 := (HD.out).at 3 (.int .i64 stale) rfl
    have d4 := (HD.out).at 4 (.int .i64 step) rfl
    have d5 := (HD.out).at 5 (.int .i64 ahead) rfl
    have d6 := (HD.out).at 6 (.int .i64 cool) rfl
    have d7 := (HD.out).at 7 (.int .i64 season) rfl
    have d8 := (HD.out).at 8 (.int .i64 now) rfl
    have d9 := (HD.out).at 9 (.slice A l.length c) rfl
    go_enter Try.func119, Try.ntmps119
    go_wp2
    go_quiet (fail)
    go_wp2
    go_quiet (fail)
    go_wp2
    refine wp_region_mid 11 (by kernel_rfl) (by kernel_rfl) rfl ?_
    simp only [List.take_succ_cons, List.take_zero, List.drop_succ_cons, List.drop_zero]
    repeat (go_big_quiet_step (fail))
    refine wpQuiet_nil ?_
    rintro W1 ⟨nq, hnq⟩ K1 hK
    have HA1 : Aside0 (Below w.heap.size w W1) := ⟨by subst hnq; repeat (first | exact Below.refl _ _ | apply pw_below_drewN)⟩
    clear hnq nq
    refine goes_ Try.func139 (by kernel_rfl) rfl #[.slice A l.length c, .int .i64 F, .int .i64 step, .int .i64 N] (by rfl) rfl rfl (by simp [Act.eval]) ?_
    refine (KP.out _ (Kd.C_below HR.out HA1.out)).mono ?_
    rintro e w1 ⟨B, cB, rfl, hcB, hC, hb2⟩
    refine ⟨_, rfl, hK _ _ ?_⟩
    have HB1 : Aside0 (Below w.heap.size w w1) := ⟨HA1.out.trans (hb2.mono HA1.out.size)⟩
    have HC1 := Aside0.mk hC
    clear hK K1 hb2 hC d0 d1 d2 d3 d4 d5 d6 d7 d8 d9
    simp only [Act.put, List.setIfInBounds_toArray, List.set_cons_zero, List.set_cons_succ]
    repeat (go_big_quiet_step (fail))
    refine wpQuiet_nil ?_
    rintro v1 ⟨m1, hv1⟩
    have HD1 : Aside0 (DrAt v1 b ⟨⟨mn, mx, per, stale, step, ahead, cool, season⟩, now, plan, prev, changed⟩ A l.length c) := ⟨by subst hv1; exact (HD.out.below HB1.out).below (pw_below_drewN (Below.refl _ _) _)⟩
    have HV1 : Aside0 (Below w.heap.size w v1) := ⟨by subst hv1; exact pw_below_drewN HB1.out _⟩
    have HCv : Aside0 (Kd.C (Kd.int .i64) v1 B ps.length ps) := ⟨by subst hv1; exact Kd.C_below HC1.out (pw_below_drewN (Below.refl _ _) _)⟩
    clear hv1 m1 HC1
    have d0 := (HD1.out).at 0 (.int .i64 mn) rfl
    have d1 := (HD1.out).at 1 (.int .i64 mx) rfl
    have d2 := (HD1.out).at 2 (.int .i64 per) rfl
    have d3 := (HD1.out).at 3 (.int .i64 stale) rfl
    have d4 := (HD1.out).at 4 (.int .i64 step) rfl
    have d5 := (HD1.out).at 5 (.int .i64 ahead) rfl
    have d6 := (HD1.out).at 6 (.int .i64 cool) rfl
    have d7 := (HD1.out).at 7 (.int .i64 season) rfl
    have d8 := (HD1.out).at 8 (.int .i64 now) rfl
    have d9 := (HD1.out).at 9 (.slice A l.length c) rfl
    go_wp2
    refine wp_region_mid 11 (by kernel_rfl) (by kernel_rfl) rfl ?_
    simp only [List.take_succ_cons, List.take_zero, List.drop_succ_cons, List.drop_zero]
    repeat (go_big_quiet_step (fail))
    refine wpQuiet_nil ?_
    rintro W2 ⟨nq, hnq⟩ K1 hK
    have HE2 : Aside0 (Below v1.heap.size v1 W2) := ⟨by subst hnq; exact pw_below_drewN (Below.refl _ _) _⟩
    have HA2 : Aside0 (Below w.heap.size w W2) := ⟨by subst hnq; repeat (first | exact Below.refl _ _ | exact HV1.out | apply pw_below_drewN)⟩
    clear hnq nq
    refine goes_ Try.func140 (by kernel_rfl) rfl #[.slice A l.length c, .int .i64 F, .int .i64 step, .int .i64 N] (by rfl) rfl rfl (by simp [Act.eval]) ?_
    refine (KG.out _ (Kd.C_below HR.out HA2.out)).mono ?_
    rintro e w2 ⟨rfl, hb2⟩
    refine ⟨_, rfl, hK _ _ ?_⟩
    have HB2 : Aside0 (Below w.heap.size w w2) := ⟨HA2.out.trans (hb2.mono HA2.out.size)⟩
    have HC2 : Aside0 (Kd.C (Kd.int .i64) w2 B ps.length ps) := ⟨Kd.C_below (Kd.C_below HCv.out HE2.out) hb2⟩
    clear hK K1 hb2 HCv HE2 d0 d1 d2 d3 d4 d5 d6 d7 d8 d9
    simp only [Act.put, List.setIfInBounds_toArray, List.set_cons_zero, List.set_cons_succ]
    repeat (go_big_quiet_step (fail))
    refine wpQuiet_nil ?_
    rintro v2 ⟨m2, hv2⟩
    have HD2 : Aside0 (DrAt v2 b ⟨⟨mn, mx, per, stale, step, ahead, cool, season⟩, now, plan, prev, changed⟩ A l.length c) := ⟨by subst hv2; exact (HD.out.below HB2.out).below (pw_below_drewN (Below.refl _ _) _)⟩
    have HV2 : Aside0 (Below w.heap.size w v2) := ⟨by subst hv2; exact pw_below_drewN HB2.out _⟩
    have HCv : Aside0 (Kd.C (Kd.int .i64) v2 B ps.length ps) := ⟨by subst hv2; exact Kd.C_below HC2.out (pw_below_drewN (Below.refl _ _) _)⟩
    clear hv2 m2 HC2
    have d0 := (HD2.out).at 0 (.int .i64 mn) rfl
    have d1 := (HD2.out).at 1 (.int .i64 mx) rfl
    have d2 := (HD2.out).at 2 (.int .i64 per) rfl
    have d3 := (HD2.out).at 3 (.int .i64 stale) rfl
    have d4 := (HD2.out).at 4 (.int .i64 step) rfl
    have d5 := (HD2.out).at 5 (.int .i64 ahead) rfl
    have d6 := (HD2.out).at 6 (.int .i64 cool) rfl
    have d7 := (HD2.out).at 7 (.int .i64 season) rfl
    have d8 := (HD2.out).at 8 (.int .i64 now) rfl
    have d9 := (HD2.out).at 9 (.slice A l.length c) rfl
    go_wp2
    go_ret
    exact ⟨rfl, HV2.out⟩
  rw [if_neg h4] at hf
  obtain rfl : ge = 0 := Decidable.not_not.mp h4
  clear h4
  by_cases h5 : H < gs
  · rw [if_pos h5] at hf
    subst hf
    have c5 : decide (H < gs) = true := decide_eq_true h5
    clear h5
    have d0 := (HD.out).at 0 (.int .i64 mn) rfl
    have d1 := (HD.out).at 1 (.int .i64 mx) rfl
    have d2 := (HD.out).at 2 (.int .i64 per) rfl
    have d3 := (HD.out).at 3 (.int .i64 stale) rfl
    have d4 := (HD.out).at 4 (.int .i64 step) rfl
    have d5 := (HD.out).at 5 (.int .i64 ahead) rfl
    have d6 := (HD.out).at 6 (.int .i64 cool) rfl
    have d7 := (HD.out).at 7 (.int .i64 season) rfl
    have d8 := (HD.out).at 8 (.int .i64 now) rfl
    have d9 := (HD.out).at 9 (.slice A l.length c) rfl
    go_enter Try.func119, Try.ntmps119
    go_wp2
    go_quiet (fail)
    go_wp2
    go_quiet (fail)
    go_wp2
    refine wp_region_mid 11 (by kernel_rfl) (by kernel_rfl) rfl ?_
    simp only [List.take_succ_cons, List.take_zero, List.drop_succ_cons, List.drop_zero]
    repeat (go_big_quiet_step (fail))
    refine wpQuiet_nil ?_
    rintro W1 ⟨nq, hnq⟩ K1 hK
    have HA1 : Aside0 (Below w.heap.size w W1) := ⟨by subst hnq; repeat (first | exact Below.refl _ _ | apply pw_below_drewN)⟩
    clear hnq nq
    refine goes_ Try.func139 (by kernel_rfl) rfl #[.slice A l.length c, .int .i64 F, .int .i64 step, .int .i64 N] (by rfl) rfl rfl (by simp [Act.eval]) ?_
    refine (KP.out _ (Kd.C_below HR.out HA1.out)).mono ?_
    rintro e w1 ⟨B, cB, rfl, hcB, hC, hb2⟩
    refine ⟨_, rfl, hK _ _ ?_⟩
    have HB1 : Aside0 (Below w.heap.size w w1) := ⟨HA1.out.trans (hb2.mono HA1.out.size)⟩
    have HC1 := Aside0.mk hC
    clear hK K1 hb2 hC d0 d1 d2 d3 d4 d5 d6 d7 d8 d9
    simp only [Act.put, List.setIfInBounds_toArray, List.set_cons_zero, List.set_cons_succ]
    repeat (go_big_quiet_step (fail))
    refine wpQuiet_nil ?_
    rintro v1 ⟨m1, hv1⟩
    have HD1 : Aside0 (DrAt v1 b ⟨⟨mn, mx, per, stale, step, ahead, cool, season⟩, now, plan, prev, changed⟩ A l.length c) := ⟨by subst hv1; exact (HD.out.below HB1.out).below (pw_below_drewN (Below.refl _ _) _)⟩
    have HV1 : Aside0 (Below w.heap.size w v1) := ⟨by subst hv1; exact pw_below_drewN HB1.out _⟩
    have HCv : Aside0 (Kd.C (Kd.int .i64) v1 B ps.length ps) := ⟨by subst hv1; exact Kd.C_below HC1.out (pw_below_drewN (Below.refl _ _) _)⟩
    clear hv1 m1 HC1
    have d0 := (HD1.out).at 0 (.int .i64 mn) rfl
    have d1 := (HD1.out).at 1 (.int .i64 mx) rfl
    have d2 := (HD1.out).at 2 (.int .i64 per) rfl
    have d3 := (HD1.out).at 3 (.int .i64 stale) rfl
    have d4 := (HD1.out).at 4 (.int .i64 step) rfl
    have d5 := (HD1.out).at 5 (.int .i64 ahead) rfl
    have d6 := (HD1.out).at 6 (.int .i64 cool) rfl
    have d7 := (HD1.out).at 7 (.int .i64 season) rfl
    have d8 := (HD1.out).at 8 (.int .i64 now) rfl
    have d9 := (HD1.out).at 9 (.slice A l.length c) rfl
    go_wp2
    refine wp_region_mid 11 (by kernel_rfl) (by kernel_rfl) rfl ?_
    simp only [List.take_succ_cons, List.take_zero, List.drop_succ_cons, List.drop_zero]
    repeat (go_big_quiet_step (fail))
    refine wpQuiet_nil ?_
    rintro W2 ⟨nq, hnq⟩ K1 hK
    have HE2 : Aside0 (Below v1.heap.size v1 W2) := ⟨by subst hnq; exact pw_below_drewN (Below.refl _ _) _⟩
    have HA2 : Aside0 (Below w.heap.size w W2) := ⟨by subst hnq; repeat (first | exact Below.refl _ _ | exact HV1.out | apply pw_below_drewN)⟩
    clear hnq nq
    refine goes_ Try.func140 (by kernel_rfl) rfl #[.slice A l.length c, .int .i64 F, .int .i64 step, .int .i64 N] (by rfl) rfl rfl (by simp [Act.eval]) ?_
    refine (KG.out _ (Kd.C_below HR.out HA2.out)).mono ?_
    rintro e w2 ⟨rfl, hb2⟩
    refine ⟨_, rfl, hK _ _ ?_⟩
    have HB2 : Aside0 (Below w.heap.size w w2) := ⟨HA2.out.trans (hb2.mono HA2.out.size)⟩
    have HC2 : Aside0 (Kd.C (Kd.int .i64) w2 B ps.length ps) := ⟨Kd.C_below (Kd.C_below HCv.out HE2.out) hb2⟩
    clear hK K1 hb2 HCv HE2 d0 d1 d2 d3 d4 d5 d6 d7 d8 d9
    simp only [Act.put, List.setIfInBounds_toArray, List.set_cons_zero, List.set_cons_succ]
    repeat (go_big_quiet_step (fail))
    refine wpQuiet_nil ?_
    rintro v2 ⟨m2, hv2⟩
    have HD2 : Aside0 (DrAt v2 b ⟨⟨mn, mx, per, stale, step, ahead, cool, season⟩, now, plan, prev, changed⟩ A l.length c) := ⟨by subst hv2; exact (HD.out.below HB2.out).below (pw_below_drewN (Below.refl _ _) _)⟩
    have HV2 : Aside0 (Below w.heap.size w v2) := ⟨by subst hv2; exact pw_below_drewN HB2.out _⟩
    have HCv : Aside0 (Kd.C (Kd.int .i64) v2 B ps.length ps) := ⟨by subst hv2; exact Kd.C_below HC2.out (pw_below_drewN (Below.refl _ _) _)⟩
    clear hv2 m2 HC2
    have d0 := (HD2.out).at 0 (.int .i64 mn) rfl
    have d1 := (HD2.out).at 1 (.int .i64 mx) rfl
    have d2 := (HD2.out).at 2 (.int .i64 per) rfl
    have d3 := (HD2.out).at 3 (.int .i64 stale) rfl
    have d4 := (HD2.out).at 4 (.int .i64 step) rfl
    have d5 := (HD2.out).at 5 (.int .i64 ahead) rfl
    have d6 := (HD2.out).at 6 (.int .i64 cool) rfl
    have d7 := (HD2.out).at 7 (.int .i64 season) rfl
    have d8 := (HD2.out).at 8 (.int .i64 now) rfl
    have d9 := (HD2.out).at 9 (.slice A l.length c) rfl
    go_wp2
    go_ret
    exact ⟨rfl, HV2.out⟩
  rw [if_neg h5] at hf
  have c5 : decide (H < gs) = false := decide_eq_false h5
  clear h5
  by_cases h6 : ke ≠ 0
  · rw [if_pos h6] at hf
    subst hf
    have c6 : (ke != 0) = true := by simp [h6]
    have c6' : (ke = 0) = False := eq_false h6
    clear h6
    have d0 := (HD.out).at 0 (.int .i64 mn) rfl
    have d1 := (HD.out).at 1 (.int .i64 mx) rfl
    have d2 := (HD.out).at 2 (.int .i64 per) rfl
    have d3 := (HD.out).at 3 (.int .i64 stale) rfl
    have d4 := (HD.out).at 4 (.int .i64 step) rfl
    have d5 := (HD.out).at 5 (.int .i64 ahead) rfl
    have d6 := (HD.out).at 6 (.int .i64 cool) rfl
    have d7 := (HD.out).at 7 (.int .i64 season) rfl
    have d8 := (HD.out).at 8 (.int .i64 now) rfl
    have d9 := (HD.out).at 9 (.slice A l.length c) rfl
    go_enter Try.func119, Try.ntmps119
    go_wp2
    go_quiet (fail)
    go_wp2
    go_quiet (fail)
    go_wp2
    refine wp_region_mid 11 (by kernel_rfl) (by kernel_rfl) rfl ?_
    simp only [List.take_succ_cons, List.take_zero, List.drop_succ_cons, List.drop_zero]
    repeat (go_big_quiet_step (fail))
    refine wpQuiet_nil ?_
    rintro W1 ⟨nq, hnq⟩ K1 hK
    have HA1 : Aside0 (Below w.heap.size w W1) := ⟨by subst hnq; repeat (first | exact Below.refl _ _ | apply pw_below_drewN)⟩
    clear hnq nq
    refine goes_ Try.func139 (by kernel_rfl) rfl #[.slice A l.length c, .int .i64 F, .int .i64 step, .int .i64 N] (by rfl) rfl rfl (by simp [Act.eval]) ?_
    refine (KP.out _ (Kd.C_below HR.out HA1.out)).mono ?_
    rintro e w1 ⟨B, cB, rfl, hcB, hC, hb2⟩
    refine ⟨_, rfl, hK _ _ ?_⟩
    have HB1 : Aside0 (Below w.heap.size w w1) := ⟨HA1.out.trans (hb2.mono HA1.out.size)⟩
    have HC1 := Aside0.mk hC
    clear hK K1 hb2 hC d0 d1 d2 d3 d4 d5 d6 d7 d8 d9
    simp only [Act.put, List.setIfInBounds_toArray, List.set_cons_zero, List.set_cons_succ]
    repeat (go_big_quiet_step (fail))
    refine wpQuiet_nil ?_
    rintro v1 ⟨m1, hv1⟩
    have HD1 : Aside0 (DrAt v1 b ⟨⟨mn, mx, per, stale, step, ahead, cool, season⟩, now, plan, prev, changed⟩ A l.length c) := ⟨by subst hv1; exact (HD.out.below HB1.out).below (pw_below_drewN (Below.refl _ _) _)⟩
    have HV1 : Aside0 (Below w.heap.size w v1) := ⟨by subst hv1; exact pw_below_drewN HB1.out _⟩
    have HCv : Aside0 (Kd.C (Kd.int .i64) v1 B ps.length ps) := ⟨by subst hv1; exact Kd.C_below HC1.out (pw_below_drewN (Below.refl _ _) _)⟩
    clear hv1 m1 HC1
    have d0 := (HD1.out).at 0 (.int .i64 mn) rfl
    have d1 := (HD1.out).at 1 (.int .i64 mx) rfl
    have d2 := (HD1.out).at 2 (.int .i64 per) rfl
    have d3 := (HD1.out).at 3 (.int .i64 stale) rfl
    have d4 := (HD1.out).at 4 (.int .i64 step) rfl
    have d5 := (HD1.out).at 5 (.int .i64 ahead) rfl
    have d6 := (HD1.out).at 6 (.int .i64 cool) rfl
    have d7 := (HD1.out).at 7 (.int .i64 season) rfl
    have d8 := (HD1.out).at 8 (.int .i64 now) rfl
    have d9 := (HD1.out).at 9 (.slice A l.length c) rfl
    go_wp2
    refine wp_region_mid 11 (by kernel_rfl) (by kernel_rfl) rfl ?_
    simp only [List.take_succ_cons, List.take_zero, List.drop_succ_cons, List.drop_zero]
    repeat (go_big_quiet_step (fail))
    refine wpQuiet_nil ?_
    rintro W2 ⟨nq, hnq⟩ K1 hK
    have HE2 : Aside0 (Below v1.heap.size v1 W2) := ⟨by subst hnq; exact pw_below_drewN (Below.refl _ _) _⟩
    have HA2 : Aside0 (Below w.heap.size w W2) := ⟨by subst hnq; repeat (first | exact Below.refl _ _ | exact HV1.out | apply pw_below_drewN)⟩
    clear hnq nq
    refine goes_ Try.func140 (by kernel_rfl) rfl #[.slice A l.length c, .int .i64 F, .int .i64 step, .int .i64 N] (by rfl) rfl rfl (by simp [Act.eval]) ?_
    refine (KG.out _ (Kd.C_below HR.out HA2.out)).mono ?_
    rintro e w2 ⟨rfl, hb2⟩
    refine ⟨_, rfl, hK _ _ ?_⟩
    have HB2 : Aside0 (Below w.heap.size w w2) := ⟨HA2.out.trans (hb2.mono HA2.out.size)⟩
    have HC2 : Aside0 (Kd.C (Kd.int .i64) w2 B ps.length ps) := ⟨Kd.C_below (Kd.C_below HCv.out HE2.out) hb2⟩
    clear hK K1 hb2 HCv HE2 d0 d1 d2 d3 d4 d5 d6 d7 d8 d9
    simp only [Act.put, List.setIfInBounds_toArray, List.set_cons_zero, List.set_cons_succ]
    repeat (go_big_quiet_step (fail))
    refine wpQuiet_nil ?_
    rintro v2 ⟨m2, hv2⟩
    have HD2 : Aside0 (DrAt v2 b ⟨⟨mn, mx, per, stale, step, ahead, cool, season⟩, now, plan, prev, changed⟩ A l.length c) := ⟨by subst hv2; exact (HD.out.below HB2.out).below (pw_below_drewN (Below.refl _ _) _)⟩
    have HV2 : Aside0 (Below w.heap.size w v2) := ⟨by subst hv2; exact pw_below_drewN HB2.out _⟩
    have HCv : Aside0 (Kd.C (Kd.int .i64) v2 B ps.length ps) := ⟨by subst hv2; exact Kd.C_below HC2.out (pw_below_drewN (Below.refl _ _) _)⟩
    clear hv2 m2 HC2
    have d0 := (HD2.out).at 0 (.int .i64 mn) rfl
    have d1 := (HD2.out).at 1 (.int .i64 mx) rfl
    have d2 := (HD2.out).at 2 (.int .i64 per) rfl
    have d3 := (HD2.out).at 3 (.int .i64 stale) rfl
    have d4 := (HD2.out).at 4 (.int .i64 step) rfl
    have d5 := (HD2.out).at 5 (.int .i64 ahead) rfl
    have d6 := (HD2.out).at 6 (.int .i64 cool) rfl
    have d7 := (HD2.out).at 7 (.int .i64 season) rfl
    have d8 := (HD2.out).at 8 (.int .i64 now) rfl
    have d9 := (HD2.out).at 9 (.slice A l.length c) rfl
    go_wp2
    refine wp_region_mid 11 (by kernel_rfl) (by kernel_rfl) rfl ?_
    simp only [List.take_succ_cons, List.take_zero, List.drop_succ_cons, List.drop_zero]
    repeat (go_big_quiet_step (fail))
    refine wpQuiet_nil ?_
    rintro W3 ⟨nq, hnq⟩ K1 hK
    have HE3 : Aside0 (Below v2.heap.size v2 W3) := ⟨by subst hnq; exact pw_below_drewN (Below.refl _ _) _⟩
    have HA3 : Aside0 (Below w.heap.size w W3) := ⟨by subst hnq; repeat (first | exact Below.refl _ _ | exact HV2.out | apply pw_below_drewN)⟩
    clear hnq nq
    refine goes_ Try.func45 (by kernel_rfl) rfl #[.slice B ps.length cB, .int .i64 season, .int .i64 ahead] (by rfl) rfl rfl (by simp [Act.eval]) ?_
    refine (KK.out _ B cB (Kd.C_below HCv.out HE3.out) hcB).mono ?_
    rintro e w3 ⟨rfl, hb2⟩
    refine ⟨_, rfl, hK _ _ ?_⟩
    have HB3 : Aside0 (Below w.heap.size w w3) := ⟨HA3.out.trans (hb2.mono HA3.out.size)⟩
    clear hK K1 hb2 HCv HE3 d0 d1 d2 d3 d4 d5 d6 d7 d8 d9
    simp only [Act.put, List.setIfInBounds_toArray, List.set_cons_zero, List.set_cons_succ]
    repeat (go_big_quiet_step (fail))
    refine wpQuiet_nil ?_
    rintro v3 ⟨m3, hv3⟩
    have HD3 : Aside0 (DrAt v3 b ⟨⟨mn, mx, per, stale, step, ahead, cool, season⟩, now, plan, prev, changed⟩ A l.length c) := ⟨by subst hv3; exact (HD.out.below HB3.out).below (pw_below_drewN (Below.refl _ _) _)⟩
    have HV3 : Aside0 (Below w.heap.size w v3) := ⟨by subst hv3; exact pw_below_drewN HB3.out _⟩
    clear hv3 m3
    have d0 := (HD3.out).at 0 (.int .i64 mn) rfl
    have d1 := (HD3.out).at 1 (.int .i64 mx) rfl
    have d2 := (HD3.out).at 2 (.int .i64 per) rfl
    have d3 := (HD3.out).at 3 (.int .i64 stale) rfl
    have d4 := (HD3.out).at 4 (.int .i64 step) rfl
    have d5 := (HD3.out).at 5 (.int .i64 ahead) rfl
    have d6 := (HD3.out).at 6 (.int .i64 cool) rfl
    have d7 := (HD3.out).at 7 (.int .i64 season) rfl
    have d8 := (HD3.out).at 8 (.int .i64 now) rfl
    have d9 := (HD3.out).at 9 (.slice A l.length c) rfl
    go_wp2
    go_ret
    exact ⟨rfl, HV3.out⟩
  rw [if_neg h6] at hf
  obtain rfl : ke = 0 := Decidable.not_not.mp h6
  clear h6
  subst hf
  have d0 := (HD.out).at 0 (.int .i64 mn) rfl
  have d1 := (HD.out).at 1 (.int .i64 mx) rfl
  have d2 := (HD.out).at 2 (.int .i64 per) rfl
  have d3 := (HD.out).at 3 (.int .i64 stale) rfl
  have d4 := (HD.out).at 4 (.int .i64 step) rfl
  have d5 := (HD.out).at 5 (.int .i64 ahead) rfl
  have d6 := (HD.out).at 6 (.int .i64 cool) rfl
  have d7 := (HD.out).at 7 (.int .i64 season) rfl
  have d8 := (HD.out).at 8 (.int .i64 now) rfl
  have d9 := (HD.out).at 9 (.slice A l.length c) rfl
  go_enter Try.func119, Try.ntmps119
  go_wp2
  go_quiet (fail)
  go_wp2
  go_quiet (fail)
  go_wp2
  refine wp_region_mid 11 (by kernel_rfl) (by kernel_rfl) rfl ?_
  simp only [List.take_succ_cons, List.take_zero, List.drop_succ_cons, List.drop_zero]
  repeat (go_big_quiet_step (fail))
  refine wpQuiet_nil ?_
  rintro W1 ⟨nq, hnq⟩ K1 hK
  have HA1 : Aside0 (Below w.heap.size w W1) := ⟨by subst hnq; repeat (first | exact Below.refl _ _ | apply pw_below_drewN)⟩
  clear hnq nq
  refine goes_ Try.func139 (by kernel_rfl) rfl #[.slice A l.length c, .int .i64 F, .int .i64 step, .int .i64 N] (by rfl) rfl rfl (by simp [Act.eval]) ?_
  refine (KP.out _ (Kd.C_below HR.out HA1.out)).mono ?_
  rintro e w1 ⟨B, cB, rfl, hcB, hC, hb2⟩
  refine ⟨_, rfl, hK _ _ ?_⟩
  have HB1 : Aside0 (Below w.heap.size w w1) := ⟨HA1.out.trans (hb2.mono HA1.out.size)⟩
  have HC1 := Aside0.mk hC
  clear hK K1 hb2 hC d0 d1 d2 d3 d4 d5 d6 d7 d8 d9
  simp only [Act.put, List.setIfInBounds_toArray, List.set_cons_zero, List.set_cons_succ]
  repeat (go_big_quiet_step (fail))
  refine wpQuiet_nil ?_
  rintro v1 ⟨m1, hv1⟩
  have HD1 : Aside0 (DrAt v1 b ⟨⟨mn, mx, per, stale, step, ahead, cool, season⟩, now, plan, prev, changed⟩ A l.length c) := ⟨by subst hv1; exact (HD.out.below HB1.out).below (pw_below_drewN (Below.refl _ _) _)⟩
  have HV1 : Aside0 (Below w.heap.size w v1) := ⟨by subst hv1; exact pw_below_drewN HB1.out _⟩
  have HCv : Aside0 (Kd.C (Kd.int .i64) v1 B ps.length ps) := ⟨by subst hv1; exact Kd.C_below HC1.out (pw_below_drewN (Below.refl _ _) _)⟩
  clear hv1 m1 HC1
  have d0 := (HD1.out).at 0 (.int .i64 mn) rfl
  have d1 := (HD1.out).at 1 (.int .i64 mx) rfl
  have d2 := (HD1.out).at 2 (.int .i64 per) rfl
  have d3 := (HD1.out).at 3 (.int .i64 stale) rfl
  have d4 := (HD1.out).at 4 (.int .i64 step) rfl
  have d5 := (HD1.out).at 5 (.int .i64 ahead) rfl
  have d6 := (HD1.out).at 6 (.int .i64 cool) rfl
  have d7 := (HD1.out).at 7 (.int .i64 season) rfl
  have d8 := (HD1.out).at 8 (.int .i64 now) rfl
  have d9 := (HD1.out).at 9 (.slice A l.length c) rfl
  go_wp2
  refine wp_region_mid 11 (by kernel_rfl) (by kernel_rfl) rfl ?_
  simp only [List.take_succ_cons, List.take_zero, List.drop_succ_cons, List.drop_zero]
  repeat (go_big_quiet_step (fail))
  refine wpQuiet_nil ?_
  rintro W2 ⟨nq, hnq⟩ K1 hK
  have HE2 : Aside0 (Below v1.heap.size v1 W2) := ⟨by subst hnq; exact pw_below_drewN (Below.refl _ _) _⟩
  have HA2 : Aside0 (Below w.heap.size w W2) := ⟨by subst hnq; repeat (first | exact Below.refl _ _ | exact HV1.out | apply pw_below_drewN)⟩
  clear hnq nq
  refine goes_ Try.func140 (by kernel_rfl) rfl #[.slice A l.length c, .int .i64 F, .int .i64 step, .int .i64 N] (by rfl) rfl rfl (by simp [Act.eval]) ?_
  refine (KG.out _ (Kd.C_below HR.out HA2.out)).mono ?_
  rintro e w2 ⟨rfl, hb2⟩
  refine ⟨_, rfl, hK _ _ ?_⟩
  have HB2 : Aside0 (Below w.heap.size w w2) := ⟨HA2.out.trans (hb2.mono HA2.out.size)⟩
  have HC2 : Aside0 (Kd.C (Kd.int .i64) w2 B ps.length ps) := ⟨Kd.C_below (Kd.C_below HCv.out HE2.out) hb2⟩
  clear hK K1 hb2 HCv HE2 d0 d1 d2 d3 d4 d5 d6 d7 d8 d9
  simp only [Act.put, List.setIfInBounds_toArray, List.set_cons_zero, List.set_cons_succ]
  repeat (go_big_quiet_step (fail))
  refine wpQuiet_nil ?_
  rintro v2 ⟨m2, hv2⟩
  have HD2 : Aside0 (DrAt v2 b ⟨⟨mn, mx, per, stale, step, ahead, cool, season⟩, now, plan, prev, changed⟩ A l.length c) := ⟨by subst hv2; exact (HD.out.below HB2.out).below (pw_below_drewN (Below.refl _ _) _)⟩
  have HV2 : Aside0 (Below w.heap.size w v2) := ⟨by subst hv2; exact pw_below_drewN HB2.out _⟩
  have HCv : Aside0 (Kd.C (Kd.int .i64) v2 B ps.length ps) := ⟨by subst hv2; exact Kd.C_below HC2.out (pw_below_drewN (Below.refl _ _) _)⟩
  clear hv2 m2 HC2
  have d0 := (HD2.out).at 0 (.int .i64 mn) rfl
  have d1 := (HD2.out).at 1 (.int .i64 mx) rfl
  have d2 := (HD2.out).at 2 (.int .i64 per) rfl
  have d3 := (HD2.out).at 3 (.int .i64 stale) rfl
  have d4 := (HD2.out).at 4 (.int .i64 step) rfl
  have d5 := (HD2.out).at 5 (.int .i64 ahead) rfl
  have d6 := (HD2.out).at 6 (.int .i64 cool) rfl
  have d7 := (HD2.out).at 7 (.int .i64 season) rfl
  have d8 := (HD2.out).at 8 (.int .i64 now) rfl
  have d9 := (HD2.out).at 9 (.slice A l.length c) rfl
  go_wp2
  refine wp_region_mid 11 (by kernel_rfl) (by kernel_rfl) rfl ?_
  simp only [List.take_succ_cons, List.take_zero, List.drop_succ_cons, List.drop_zero]
  repeat (go_big_quiet_step (fail))
  refine wpQuiet_nil ?_
  rintro W3 ⟨nq, hnq⟩ K1 hK
  have HE3 : Aside0 (Below v2.heap.size v2 W3) := ⟨by subst hnq; exact pw_below_drewN (Below.refl _ _) _⟩
  have HA3 : Aside0 (Below w.heap.size w W3) := ⟨by subst hnq; repeat (first | exact Below.refl _ _ | exact HV2.out | apply pw_below_drewN)⟩
  clear hnq nq
  refine goes_ Try.func45 (by kernel_rfl) rfl #[.slice B ps.length cB, .int .i64 season, .int .i64 ahead] (by rfl) rfl rfl (by simp [Act.eval]) ?_
  refine (KK.out _ B cB (Kd.C_below HCv.out HE3.out) hcB).mono ?_
  rintro e w3 ⟨rfl, hb2⟩
  refine ⟨_, rfl, hK _ _ ?_⟩
  have HB3 : Aside0 (Below w.heap.size w w3) := ⟨HA3.out.trans (hb2.mono HA3.out.size)⟩
  clear hK K1 hb2 HCv HE3 d0 d1 d2 d3 d4 d5 d6 d7 d8 d9
  simp only [Act.put, List.setIfInBounds_toArray, List.set_cons_zero, List.set_cons_succ]
  repeat (go_big_quiet_step (fail))
  refine wpQuiet_nil ?_
  rintro v3 ⟨m3, hv3⟩
  have HD3 : Aside0 (DrAt v3 b ⟨⟨mn, mx, per, stale, step, ahead, cool, season⟩, now, plan, prev, changed⟩ A l.length c) := ⟨by subst hv3; exact (HD.out.below HB3.out).below (pw_below_drewN (Below.refl _ _) _)⟩
  have HV3 : Aside0 (Below w.heap.size w v3) := ⟨by subst hv3; exact pw_below_drewN HB3.out _⟩
  clear hv3 m3
  have d0 := (HD3.out).at 0 (.int .i64 mn) rfl
  have d1 := (HD3.out).at 1 (.int .i64 mx) rfl
  have d2 := (HD3.out).at 2 (.int .i64 per) rfl
  have d3 := (HD3.out).at 3 (.int .i64 stale) rfl
  have d4 := (HD3.out).at 4 (.int .i64 step) rfl
  have d5 := (HD3.out).at 5 (.int .i64 ahead) rfl
  have d6 := (HD3.out).at 6 (.int .i64 cool) rfl
  have d7 := (HD3.out).at 7 (.int .i64 season) rfl
  have d8 := (HD3.out).at 8 (.int .i64 now) rfl
  have d9 := (HD3.out).at 9 (.slice A l.length c) rfl
  go_wp2_with (go_at_call 53; (with_reducible refine (KF.out _).mono ?_); rintro e w4 ⟨rfl, hb⟩; have HB4 := Aside0.mk (HV3.out.trans (hb.mono HV3.out.size)); clear hb)
  go_ret
  exact ⟨rfl, HB4.out⟩
end Go.Proofs.Ytemnfnbjapobcaa.Ho
end
