-- Laid together by wip/shake.py out of: Prx6 PtSpec Pol3 Pol4
import Derived.Test.YtemnfnbjapobcaaPolicyDecidesm12
set_option maxHeartbeats 8000000
set_option maxRecDepth 100000
set_option linter.unusedVariables false
set_option linter.unusedSimpArgs false
namespace Go.Proofs
open Go.RowKit
theorem zfr {P : Prop} (h : P := by (with_reducible repeat (first | apply Kd.zcg | apply Kd.zcm | apply Kd.zcC)); exact HO_13.out) : P := h
theorem zfS {P : Prop} (h : P := by (with_reducible repeat (first | apply Kd.zcg | apply Kd.zcm | apply Kd.zcC)); exact HO_12.out) : P := h
end Go.Proofs
section
namespace Go.Proofs.Ytemnfnbjapobcaa.Pr
open Go.RowKit Go.Proofs.ZW.PrintWords Go.Proofs.ZW.PrintLast Go.Proofs.ZW.PrintMore
attribute [local go_sem] zcx zcw zcO zcN zco zcn zcJ zcI
mutual
def zak.j0 : Nat → List (S70) → Int → Int → Int → Bool → Option (List Int × Int × Int)
 | 0, _, _, _, _, _ => none
 | k + 1, x0, x1, x2, x3, x42 => if x42 = true then (some (([] : List Int), 0, 1)) else ((zbc.f k x0).bind fun t152 => ((zaY.f k t152).bind fun t155 => (if t155 = true then (if 0 ≤ x3 then (if (x3 : Int).toNat ≤ 281474976710656 then (if (x3 : Int).toNat ≤ 35184372088832 then (zak.l0 k x0 x1 x2 x3 (List.replicate (x3 : Int).toNat false) (List.replicate (x3 : Int).toNat 0) 0) else (none)) else (none)) else (none)) else (some (([] : List Int), 0, 21)))))
def zak.l0 : Nat → List (S70) → Int → Int → Int → List Bool → List Int → Int → Option (List Int × Int × Int)
 | 0, _, _, _, _, _, _, _ => none
 | k + 1, x0, x1, x2, x3, x12, x13, x14 => if x14 < (x0.length : Int) then (if 0 ≤ x14 then (if ((zaE x0 x14).f0) < x1 then (zak.l0 k x0 x1 x2 x3 x12 x13 (wrap64 (x14 + 1))) else (if x2 = 0 then (none) else (if (wrap64 (Int.tdiv (wrap64 (((zaE x0 x14).f0) - x1)) x2)) < x3 then (if 0 ≤ (wrap64 (Int.tdiv (wrap64 (((zaE x0 x14).f0) - x1)) x2)) then (if (wrap64 (Int.tdiv (wrap64 (((zaE x0 x14).f0) - x1)) x2)) < (x12.length : Int) then (if (wrap64 (Int.tdiv (wrap64 (((zaE x0 x14).f0) - x1)) x2)) < (x13.length : Int) then (zak.l0 k x0 x1 x2 x3 (x12.set ((wrap64 (Int.tdiv (wrap64 (((zaE x0 x14).f0) - x1)) x2)) : Int).toNat true) (x13.set ((wrap64 (Int.tdiv (wrap64 (((zaE x0 x14).f0) - x1)) x2)) : Int).toNat ((zaE x0 x14).f1)) (wrap64 (x14 + 1))) else (none)) else (none)) else (none)) else (zak.l0 k x0 x1 x2 x3 x12 x13 (wrap64 (x14 + 1)))))) else (none)) else (zak.l1 k x3 x12 x13 0 (-1) 0)
def zak.l1 : Nat → Int → List Bool → List Int → Int → Int → Int → Option (List Int × Int × Int)
 | 0, _, _, _, _, _, _ => none
 | k + 1, x3, x12, x13, x16, x17, x18 => if x18 < x3 then (if 0 ≤ x18 then (if x18 < (x12.length : Int) then (if zgw false x12 x18 = true then (if x17 < 0 then (zak.l1 k x3 x12 x13 x16 x18 (wrap64 (x18 + 1))) else (zak.l1 k x3 x12 x13 x16 x17 (wrap64 (x18 + 1)))) else (zak.l1 k x3 x12 x13 (wrap64 (x16 + 1)) x17 (wrap64 (x18 + 1)))) else (none)) else (none)) else (if x17 < 0 then (some (([] : List Int), x16, 0)) else (zak.l2 k x3 x12 x13 x16 x17 0))
def zak.l2 : Nat → Int → List Bool → List Int → Int → Int → Int → Option (List Int × Int × Int)
 | 0, _, _, _, _, _, _ => none
 | k + 1, x3, x12, x13, x16, x17, x19 => if x19 < x17 then (if 0 ≤ x17 then (if x17 < (x13.length : Int) then (if 0 ≤ x19 then (if x19 < (x13.length : Int) then (zak.l2 k x3 x12 (x13.set (x19 : Int).toNat (rd x13 x17)) x16 x17 (wrap64 (x19 + 1))) else (none)) else (none)) else (none)) else (none)) else (zak.l3 k x3 x12 x13 x16 (wrap64 (x17 + 1)))
def zak.l3 : Nat → Int → List Bool → List Int → Int → Int → Option (List Int × Int × Int)
 | 0, _, _, _, _, _ => none
 | k + 1, x3, x12, x13, x16, x20 => if x20 < x3 then (if 0 ≤ x20 then (if x20 < (x12.length : Int) then (if zgw false x12 x20 = true then (zak.l3 k x3 x12 x13 x16 (wrap64 (x20 + 1))) else (if 0 ≤ (wrap64 (x20 - 1)) then (if (wrap64 (x20 - 1)) < (x13.length : Int) then (if x20 < (x13.length : Int) then (zak.l3 k x3 x12 (x13.set (x20 : Int).toNat (rd x13 (wrap64 (x20 - 1)))) x16 (wrap64 (x20 + 1))) else (none)) else (none)) else (none))) else (none)) else (none)) else (some (x13, x16, 0))
end
def zak.f (k : Nat) (l0 : List (S70)) (a1 : Int) (a2 : Int) (a3 : Int) : Option (List Int × Int × Int) := if a2 < 1 then (zak.j0 k l0 a1 a2 a3 true) else (if a2 > 9007199254740992 then (zak.j0 k l0 a1 a2 a3 true) else (if a3 < 0 then (zak.j0 k l0 a1 a2 a3 true) else (if a3 > 10000 then (zak.j0 k l0 a1 a2 a3 true) else (if a1 < (-9007199254740992) then (zak.j0 k l0 a1 a2 a3 true) else (zak.j0 k l0 a1 a2 a3 (decide (a1 > 9007199254740992)))))))
theorem zak.calls (k : Nat) (A0 : Option Addr) (c0 : Nat) (l0 : List (S70)) (a1 : Int) (a2 : Int) (a3 : Int) (r1 : List Int) (r2 : Int) (r3 : Int) (w : World) (hr0 : Kd.C k70 w A0 l0.length l0) (hc0 : l0.length ≤ c0) (h : zak.f k l0 a1 a2 a3 = some (r1, r2, r3)) :
  Calls Try.prog 87 #[.slice A0 l0.length c0, .int .i64 a1, .int .i64 a2, .int .i64 a3] w fun e w' => ∃ v0_ : Value, e = .returned (.tuple #[v0_, .int .i64 r2, .int .i64 r3]) ∧ Kd.R (Kd.int .i64) 3 w' w.heap.size (fun _ => True) v0_ r1 ∧ Below w.heap.size w w' := by
 have HR0 := zaa.mk hr0; have HC0 := zaa.mk hc0; clear hr0 hc0; have HB := zaa.mk (Below.refl w.heap.size w); have H : (if a2 < 1 then (zak.j0 k l0 a1 a2 a3 true) else (if a2 > 9007199254740992 then (zak.j0 k l0 a1 a2 a3 true) else (if a3 < 0 then (zak.j0 k l0 a1 a2 a3 true) else (if a3 > 10000 then (zak.j0 k l0 a1 a2 a3 true) else (if a1 < (-9007199254740992) then (zak.j0 k l0 a1 a2 a3 true) else (zak.j0 k l0 a1 a2 a3 (decide (a1 > 9007199254740992)))))))) = some (r1, r2, r3) := h; clear h; have HC5 := zaa.mk H; clear H; go_enter Try.func87, Try.ntmps87
 go_upto_region 1 with (fail)
 go_cut [42] (fun v42 wc => ∃ (kq : Nat) (x42_4 : Bool), v42 = .bool x42_4 ∧ zaa (zak.j0 kq l0 a1 a2 a3 x42_4 = some (r1, r2, r3)) ∧ zaa (kq ≤ k) ∧ zaa (Below w.heap.size w wc))
 case first =>
  have H := HC5.out; clear HC5; by_cases c6 : a2 < 1
  · rw [if_pos c6] at H; have c6b0 := zdt c6; clear c6
    (first | rw [c6b0] | (simp only [zaF, zaM]; rw [c6b0]) | skip)
    have H' := zaa.mk H; clear H; go_wp2; go_meet
    case rel => exact ⟨_, (true), zq2, H', ⟨zdQ⟩, ⟨zq0⟩⟩
  rw [if_neg c6] at H; have c6b0 := zdf c6; clear c6
  (first | rw [c6b0] | (simp only [zaF, zaM]; rw [c6b0]) | skip)
  by_cases c7 : a2 > 9007199254740992
  · rw [if_pos c7] at H; have c7b0 : decide (9007199254740992 < a2) = true := zdt c7; clear c7; have H' := zaa.mk H; clear H; go_wp2; go_meet
    case rel => exact ⟨_, (true), zq2, H', ⟨zdQ⟩, ⟨zq0⟩⟩
  rw [if_neg c7] at H; have c7b0 : decide (9007199254740992 < a2) = false := zdf c7; clear c7; by_cases c8 : a3 < 0
  · rw [if_pos c8] at H; have c8b0 := zdt c8; clear c8; have H' := zaa.mk H; clear H; go_wp2; go_meet
    case rel => exact ⟨_, (true), zq2, H', ⟨zdQ⟩, ⟨zq0⟩⟩
  rw [if_neg c8] at H; have c8b0 := zdf c8; clear c8; by_cases c9 : a3 > 10000
  · rw [if_pos c9] at H; have c9b0 : decide (10000 < a3) = true := zdt c9; clear c9; have H' := zaa.mk H; clear H; go_wp2; go_meet
    case rel => exact ⟨_, (true), zq2, H', ⟨zdQ⟩, ⟨zq0⟩⟩
  rw [if_neg c9] at H; have c9b0 : decide (10000 < a3) = false := zdf c9; clear c9; by_cases c10 : a1 < (-9007199254740992)
  · rw [if_pos c10] at H; have c10b0 := zdt c10; clear c10; have H' := zaa.mk H; clear H; go_wp2; go_meet
    case rel => exact ⟨_, (true), zq2, H', ⟨zdQ⟩, ⟨zq0⟩⟩
  rw [if_neg c10] at H; have c10b0 := zdf c10; clear c10; have H' := zaa.mk H; clear H; go_wp2; go_meet
  case rel => exact ⟨_, (decide (a1 > 9007199254740992)), zq2, H', ⟨zdQ⟩, ⟨zq0⟩⟩
 case rest =>
  clear HC5; (try clear c1); (try clear p2); (try clear c6); (try clear c6b0); (try clear c7); (try clear c7b0); (try clear c8); (try clear c8b0); (try clear c9); (try clear c9b0); (try clear c10); (try clear c10b0); obtain ⟨kq, x42_4, rfl, HA, HJ4, HB⟩ := hcut
  cases kq with
  | zero => exact absurd HA.out (by simp [zak.j0])
  | succ kj4 =>
   have H := HA.out; clear HA; simp only [zak.j0] at H; by_cases c11 : x42_4 = true
   · subst c11; have H1 : (some (([] : List Int), 0, 1)) = some (r1, r2, r3) := by rw [if_pos rfl] at H; exact H
     clear H; have H := H1; clear H1; simp only [Option.some.injEq, Prod.mk.injEq] at H; obtain ⟨rfl, rfl, rfl⟩ := H; go_wp2; go_ret3
     exact ⟨_, zq4, zjU, zq0⟩
   replace c11 := Bool.eq_false_iff.mpr c11; subst c11; have H1 : ((zbc.f kj4 l0).bind fun t152 => ((zaY.f kj4 t152).bind fun t155 => (if t155 = true then (if 0 ≤ a3 then (if (a3 : Int).toNat ≤ 281474976710656 then (if (a3 : Int).toNat ≤ 35184372088832 then (zak.l0 kj4 l0 a1 a2 a3 (List.replicate (a3 : Int).toNat false) (List.replicate (a3 : Int).toNat 0) 0) else (none)) else (none)) else (none)) else (some (([] : List Int), 0, 21))))) = some (r1, r2, r3) := by rw [if_neg (show ¬ (false = true) by decide)] at H; exact H
   clear H; have H := H1; clear H1; replace H := zob H; obtain ⟨t152, A120, H⟩ := H; replace H : ((zaY.f kj4 t152).bind fun t155 => (if t155 = true then (if 0 ≤ a3 then (if (a3 : Int).toNat ≤ 281474976710656 then (if (a3 : Int).toNat ≤ 35184372088832 then (zak.l0 kj4 l0 a1 a2 a3 (List.replicate (a3 : Int).toNat false) (List.replicate (a3 : Int).toNat 0) 0) else (none)) else (none)) else (none)) else (some (([] : List Int), 0, 21)))) = some (r1, r2, r3) := H; have A12 := zaa.mk A120; clear A120; replace H := zob H; obtain ⟨t155, A130, H⟩ := H; replace H : (if t155 = true then (if 0 ≤ a3 then (if (a3 : Int).toNat ≤ 281474976710656 then (if (a3 : Int).toNat ≤ 35184372088832 then (zak.l0 kj4 l0 a1 a2 a3 (List.replicate (a3 : Int).toNat false) (List.replicate (a3 : Int).toNat 0) 0) else (none)) else (none)) else (none)) else (some (([] : List Int), 0, 21))) = some (r1, r2, r3) := H; have A13 := zaa.mk A130; clear A130; by_cases c14 : t155 = true; rotate_left
   · replace c14 := Bool.eq_false_iff.mpr c14; subst c14; have H1 : (some (([] : List Int), 0, 21)) = some (r1, r2, r3) := by rw [if_neg (show ¬ (false = true) by decide)] at H; exact H
     clear H; have H := H1; clear H1; simp only [Option.some.injEq, Prod.mk.injEq] at H; obtain ⟨rfl, rfl, rfl⟩ := H; go_wp2_with (first | ((with_reducible refine zaf (f := 86) rfl ?_); refine zat (some 44) rfl rfl Try.func86 zq6 rfl #[.slice A0 l0.length c0] rfl zq1 ?_; (with_reducible refine (zbc.calls kj4 _ _ l0 t152 _ ?side1 ?side2 A12.out).mono ?_); (case side1 => repeat (first | exact (Kd.zaL HR0.out HB.out) | (with_reducible refine Kd.zcF ?_ _) | (with_reducible refine Kd.zcX ?_ _) | (with_reducible refine Kd.zdD ?_))); (case side2 => exact HC0.out); rintro e w73 ⟨v153, rfl, ho0, hb⟩; refine ⟨_, rfl, ?_⟩; have n0_ := zaa.mk (Kd.zdw ho0 (zao zq0)); have n1_ := zaa.mk (zan zq0 hb); clear HB; have HO154 := n0_; have HB := n1_; clear n0_ n1_; (try clear hb); (try clear hb2); (try clear hk); (try clear hi); (try clear ho0); obtain ⟨Ao74, co74, eo74⟩ := Kd.zdd HO154.out; subst eo74) | ((with_reducible refine zaf (f := 85) rfl ?_); refine zat (some 45) rfl rfl Try.func85 zq6 rfl #[.slice Ao74 t152.length co74] rfl zq1 ?_; (with_reducible refine (zaY.calls kj4 _ _ t152 false _ ?side1 ?side2 A13.out).mono ?_); (case side1 => repeat (first | exact (Kd.zbF HO154.out).2.2 | (with_reducible refine Kd.zcF ?_ _) | (with_reducible refine Kd.zcX ?_ _) | (with_reducible refine Kd.zdD ?_))); (case side2 => exact (Kd.zbF HO154.out).2.1); rintro e w' ⟨rfl, ⟨nd, rfl⟩⟩; refine ⟨_, rfl, ?_⟩))
     go_ret3
     exact ⟨_, zq4, zjU, zq0⟩
   subst c14; have H1 : (if 0 ≤ a3 then (if (a3 : Int).toNat ≤ 281474976710656 then (if (a3 : Int).toNat ≤ 35184372088832 then (zak.l0 kj4 l0 a1 a2 a3 (List.replicate (a3 : Int).toNat false) (List.replicate (a3 : Int).toNat 0) 0) else (none)) else (none)) else (none)) = some (r1, r2, r3) := by rw [if_pos rfl] at H; exact H
   clear H; have H := H1; clear H1; by_cases c15 : 0 ≤ a3; rotate_left
   · rw [if_neg c15] at H; exact absurd H (by simp)
   rw [if_pos c15] at H; have c15b0 := eq_true c15; have c15b1 := zdt c15; clear c15; by_cases c16 : (a3 : Int).toNat ≤ 281474976710656; rotate_left
   · rw [if_neg c16] at H; exact absurd H (by simp)
   rw [if_pos c16] at H; have c16b0 := eq_true c16; have c16b1 := zdt c16; clear c16; obtain ⟨y156, hy156⟩ : ∃ y_ : List Bool, y_ = (List.replicate (a3 : Int).toNat false) := ⟨_, rfl⟩
   replace H : (if (a3 : Int).toNat ≤ 35184372088832 then (zak.l0 kj4 l0 a1 a2 a3 y156 (List.replicate (a3 : Int).toNat 0) 0) else (none)) = some (r1, r2, r3) := by first | (rw [hy156]; with_reducible exact H) | (have H2_ := (Option.bind_some _ _).symm.trans H; rw [hy156]; with_reducible exact H2_) | (have H2_ := (Option.bind_some _ _).symm.trans H; with_reducible exact H2_) | with_reducible exact H | (rw [hy156]; exact H) | exact H
   have Ny156 := zaa.mk hy156; clear hy156; by_cases c17 : (a3 : Int).toNat ≤ 35184372088832; rotate_left
   · rw [if_neg c17] at H; exact absurd H (by simp)
   rw [if_pos c17] at H; have c17b0 := eq_true c17; have c17b1 := zdt c17; clear c17; obtain ⟨y159, hy159⟩ : ∃ y_ : List Int, y_ = (List.replicate (a3 : Int).toNat 0) := ⟨_, rfl⟩
   replace H : (zak.l0 kj4 l0 a1 a2 a3 y156 y159 0) = some (r1, r2, r3) := by first | (rw [hy159]; with_reducible exact H) | (have H2_ := (Option.bind_some _ _).symm.trans H; rw [hy159]; with_reducible exact H2_) | (have H2_ := (Option.bind_some _ _).symm.trans H; with_reducible exact H2_) | with_reducible exact H | (rw [hy159]; exact H) | exact H
   have Ny159 := zaa.mk hy159; clear hy159; have H' := zaa.mk H; clear H; go_wp2_with (first | ((with_reducible refine zaf (f := 86) rfl ?_); refine zat (some 44) rfl rfl Try.func86 zq6 rfl #[.slice A0 l0.length c0] rfl zq1 ?_; (with_reducible refine (zbc.calls kj4 _ _ l0 t152 _ ?side1 ?side2 A12.out).mono ?_); (case side1 => repeat (first | exact (Kd.zaL HR0.out HB.out) | (with_reducible refine Kd.zcF ?_ _) | (with_reducible refine Kd.zcX ?_ _) | (with_reducible refine Kd.zdD ?_))); (case side2 => exact HC0.out); rintro e w18 ⟨v153, rfl, ho0, hb⟩; refine ⟨_, rfl, ?_⟩; have n0_ := zaa.mk (Kd.zdw ho0 (zao zq0)); have n1_ := zaa.mk (zan zq0 hb); clear HB; have HO154 := n0_; have HB := n1_; clear n0_ n1_; (try clear hb); (try clear hb2); (try clear hk); (try clear hi); (try clear ho0); obtain ⟨Ao19, co19, eo19⟩ := Kd.zdd HO154.out; subst eo19) | ((with_reducible refine zaf (f := 85) rfl ?_); refine zat (some 45) rfl rfl Try.func85 zq6 rfl #[.slice Ao19 t152.length co19] rfl zq1 ?_; (with_reducible refine (zaY.calls kj4 _ _ t152 true _ ?side1 ?side2 A13.out).mono ?_); (case side1 => repeat (first | exact (Kd.zbF HO154.out).2.2 | (with_reducible refine Kd.zcF ?_ _) | (with_reducible refine Kd.zcX ?_ _) | (with_reducible refine Kd.zdD ?_))); (case side2 => exact (Kd.zbF HO154.out).2.1); rintro e w' ⟨rfl, ⟨nd, rfl⟩⟩; refine ⟨_, rfl, ?_⟩) | ((with_reducible refine zaK (N := 49) rfl ?_); refine Kd.zjM Kd.bool _ 4 rfl (N := 49) rfl 153 _ _ rfl a3 rfl rfl Try.underlying153 (.bool false) 1 zrq rfl zaR zq8 false (ok := fun _ => True) (okp := fun _ => True) rfl (fun _ hk => hk) trivial (zod zq5) (Nat.le_trans (Nat.mul_le_mul_right _ (zod zq5 : a3.toNat ≤ 281474976710656)) zq8) (Below.refl _ _) (Nat.le_refl _) ?_; intro v157 w20 ho21 hb hg_ hnew_; clear hg_ hnew_; (first | rw [← Ny156.out] at ho21 | (simp only [Int.reduceToNat] at ho21; rw [← Ny156.out] at ho21)); have n0_ := zaa.mk (Kd.zbo (zx0 HO154.out) hb); have n1_ := zaa.mk (Kd.zdw ho21 (zao zq0)); have n2_ := zaa.mk (zan zq0 hb); clear HO154; clear HB; have HO154 := n0_; have HO158 := n1_; have HB := n2_; clear n0_ n1_ n2_; clear hb ho21) | ((with_reducible refine zaK (N := 51) rfl ?_); refine Kd.zjM (Kd.int .i64) _ 3 rfl (N := 51) rfl 23 _ _ rfl a3 rfl rfl Try.underlying23 (.int .i64 0) 8 zgL rfl zaR zq8 0 (ok := fun _ => True) (okp := fun _ => True) rfl (fun _ hk => hk) trivial (zod zq5) (Nat.le_trans (Nat.mul_le_mul_right _ (zod zq5 : a3.toNat ≤ 35184372088832)) zq8) (Below.refl _ _) (Nat.le_refl _) ?_; intro v160 w22 ho23 hb hg_ hnew_; clear hg_ hnew_; (first | rw [← Ny159.out] at ho23 | (simp only [Int.reduceToNat] at ho23; rw [← Ny159.out] at ho23)); have n0_ := zaa.mk (Kd.zlT (zx0 HO154.out) (Kd.zoy ho23) hb); have n1_ := zaa.mk (Kd.zbo (zx0 HO158.out) hb); have n2_ := zaa.mk (Kd.zdw (Kd.zox ho23 (Kd.R_lt (zx0 HO154.out))) (zao zq0)); have n3_ := zaa.mk (zan zq0 hb); clear HO154; clear HO158; clear HB; have HO154 := n0_; have HO158 := n1_; have HO161 := n2_; have HB := n3_; clear n0_ n1_ n2_ n3_; clear hb ho23))
   go_loopg [14] kj4 (fun kq v14 w' => ∃ (x12_2 : List Bool) (x13_2 : List Int) (x14_2 : Int), v14 = .int .i64 x14_2 ∧ zaa (zak.l0 kq l0 a1 a2 a3 x12_2 x13_2 x14_2 = some (r1, r2, r3)) ∧ zaa (kq ≤ kj4) ∧ zaa (Kd.R Kd.bool 4 w' w.heap.size (fun _ => True) v157 x12_2) ∧ zaa (Kd.R (Kd.int .i64) 3 w' w.heap.size (fun _ => True) v160 x13_2) ∧ zaa (Below w.heap.size w w'))
   case atStart => exact ⟨(y156), (y159), (0), zq2, H', ⟨Nat.le_refl _⟩, ⟨by (with_reducible repeat (first | apply Kd.zcg | apply Kd.zcm | apply Kd.zcC)); exact HO158.out⟩, ⟨by (with_reducible repeat (first | apply Kd.zcg | apply Kd.zcm | apply Kd.zcC)); exact Kd.zdP HO161.out (fun _ hk => trivial)⟩, ⟨zq0⟩⟩
   case round =>
    clear H'; (try clear c1); (try clear p2); (try clear c6); (try clear c6b0); (try clear c7); (try clear c7b0); (try clear c8); (try clear c8b0); (try clear c9); (try clear c9b0); (try clear c10); (try clear c10b0); (try clear c11); (try clear c14); (try clear c15); (try clear c15b0); (try clear c15b1); (try clear c16); (try clear c16b0); (try clear c16b1); (try clear c17); (try clear c17b0); (try clear c17b1); (try clear p2); obtain ⟨x12_2, x13_2, x14_2, rfl, HA, HK2, HO_12, HO_13, HB⟩ := hrel
    cases gk with
    | zero => exact absurd HA.out (by simp [zak.l0])
    | succ k2 =>
     have H := HA.out; clear HA; simp only [zak.l0] at H; by_cases c24 : x14_2 < (l0.length : Int)
     · rw [if_pos c24] at H; have c24b0 := zdt c24; clear c24; by_cases c25 : 0 ≤ x14_2; rotate_left
       · rw [if_neg c25] at H; exact absurd H (by simp)
       rw [if_pos c25] at H; have c25b0 := zdt c25; clear c25; by_cases c26 : ((zaE l0 x14_2).f0) < a1
       · rw [if_pos c26] at H; have c26b0 := zdt c26; clear c26; have H' := zaa.mk H; clear H; have p162 : 0 ≤ (x14_2 : Int) := zod zq5; have q162 : x14_2 < (l0.length : Int) := zod zq5; obtain ⟨ad162, e162, hx162_0, hx162_1⟩ := zcd HR0.out x14_2 p162 q162
         cases e162
         replace hx162_0 := (HB.out.cell (World.block_lt_of_cell? w _ hx162_0)).trans hx162_0; replace hx162_1 := (HB.out.cell (World.block_lt_of_cell? w _ hx162_1)).trans hx162_1; replace p162 := eq_true p162; replace q162 := eq_true q162; go_wp2; go_roundg k2
         case measure => have := HJ4.out; have := HK2.out; omega
         case rel => exact ⟨(x12_2), (x13_2), (wrap64 (x14_2 + 1)), zq2, H', ⟨by have := HJ4.out; have := HK2.out; omega⟩, ⟨zfS⟩, ⟨zfr⟩, ⟨zq0⟩⟩
       rw [if_neg c26] at H; have c26b0 := zdf c26; clear c26; by_cases c27 : a2 = 0
       · rw [if_pos c27] at H; exact absurd H (by simp)
       rw [if_neg c27] at H; have c27b0 : (a2 == 0) = false := beq_eq_false_iff_ne.mpr c27; have c27b1 : (a2 != 0) = true := bne_iff_ne.mpr c27; by_cases c28 : (wrap64 (Int.tdiv (wrap64 (((zaE l0 x14_2).f0) - a1)) a2)) < a3; rotate_left
       · rw [if_neg c28] at H; have c28b0 : decide ((wrap64 (Int.tdiv (wrap64 (((zaE l0 x14_2).f0) - a1)) a2)) < a3) = false := zdf c28; clear c28; have H' := zaa.mk H; clear H; have p162 : 0 ≤ (x14_2 : Int) := zod zq5; have q162 : x14_2 < (l0.length : Int) := zod zq5; obtain ⟨ad162, e162, hx162_0, hx162_1⟩ := zcd HR0.out x14_2 p162 q162
         cases e162
         replace hx162_0 := (HB.out.cell (World.block_lt_of_cell? w _ hx162_0)).trans hx162_0; replace hx162_1 := (HB.out.cell (World.block_lt_of_cell? w _ hx162_1)).trans hx162_1; replace p162 := eq_true p162; replace q162 := eq_true q162; have p163 : 0 ≤ (x14_2 : Int) := zod zq5; have q163 : x14_2 < (l0.length : Int) := zod zq5; obtain ⟨ad163, e163, hx163_0, hx163_1⟩ := zcd HR0.out x14_2 p163 q163; obtain rfl : ad162 = ad163 := (by injection e163)
         replace hx163_0 := (HB.out.cell (World.block_lt_of_cell? w _ hx163_0)).trans hx163_0; replace hx163_1 := (HB.out.cell (World.block_lt_of_cell? w _ hx163_1)).trans hx163_1; replace p163 := eq_true p163; replace q163 := eq_true q163; go_wp2; go_roundg k2
         case measure => have := HJ4.out; have := HK2.out; omega
         case rel => exact ⟨(x12_2), (x13_2), (wrap64 (x14_2 + 1)), zq2, H', ⟨by have := HJ4.out; have := HK2.out; omega⟩, ⟨zfS⟩, ⟨zfr⟩, ⟨zq0⟩⟩
       rw [if_pos c28] at H; have c28b0 : decide ((wrap64 (Int.tdiv (wrap64 (((zaE l0 x14_2).f0) - a1)) a2)) < a3) = true := zdt c28; clear c28; obtain ⟨ji29, hji29⟩ : ∃ j_ : Int, (wrap64 (Int.tdiv (wrap64 (((zaE l0 x14_2).f0) - a1)) a2)) = j_ := ⟨_, rfl⟩
       replace H : (if 0 ≤ (ji29) then (if (ji29) < (x12_2.length : Int) then (if (ji29) < (x13_2.length : Int) then (zak.l0 k2 l0 a1 a2 a3 (x12_2.set ((ji29) : Int).toNat true) (x13_2.set ((ji29) : Int).toNat ((zaE l0 x14_2).f1)) (wrap64 (x14_2 + 1))) else (none)) else (none)) else (none)) = some (r1, r2, r3) := by first | (rw [hji29] at H; exact H) | (simp only [hji29] at H ⊢; exact H)
       (try rw [hji29] at c28b0)
       have hji29w : (IntKind.i64.wrap (Int.tdiv (wrap64 (((zaE l0 x14_2).f0) - a1)) a2)) = ji29 := (zaF _).trans hji29; by_cases c30 : 0 ≤ (ji29); rotate_left
       · rw [if_neg c30] at H; exact absurd H (by simp)
       rw [if_pos c30] at H; have c30b0 := zdt c30; clear c30; by_cases c31 : (ji29) < (x12_2.length : Int); rotate_left
       · rw [if_neg c31] at H; exact absurd H (by simp)
       rw [if_pos c31] at H; have c31b0 := zdt c31; clear c31; obtain ⟨y164, hy164⟩ : ∃ y_ : List Bool, y_ = (x12_2.set ((ji29) : Int).toNat true) := ⟨_, rfl⟩
       replace H : (if (ji29) < (x13_2.length : Int) then (zak.l0 k2 l0 a1 a2 a3 y164 (x13_2.set ((ji29) : Int).toNat ((zaE l0 x14_2).f1)) (wrap64 (x14_2 + 1))) else (none)) = some (r1, r2, r3) := by first | (rw [hy164]; with_reducible exact H) | (have H2_ := (Option.bind_some _ _).symm.trans H; rw [hy164]; with_reducible exact H2_) | (have H2_ := (Option.bind_some _ _).symm.trans H; with_reducible exact H2_) | with_reducible exact H | (rw [hy164]; exact H) | exact H
       have Ny164 := zaa.mk hy164; clear hy164; by_cases c33 : (ji29) < (x13_2.length : Int); rotate_left
       · rw [if_neg c33] at H; exact absurd H (by simp)
       rw [if_pos c33] at H; have c33b0 := zdt c33; clear c33; obtain ⟨y166, hy166⟩ : ∃ y_ : List Int, y_ = (x13_2.set ((ji29) : Int).toNat ((zaE l0 x14_2).f1)) := ⟨_, rfl⟩
       replace H : (zak.l0 k2 l0 a1 a2 a3 y164 y166 (wrap64 (x14_2 + 1))) = some (r1, r2, r3) := by first | (rw [hy166]; with_reducible exact H) | (have H2_ := (Option.bind_some _ _).symm.trans H; rw [hy166]; with_reducible exact H2_) | (have H2_ := (Option.bind_some _ _).symm.trans H; with_reducible exact H2_) | with_reducible exact H | (rw [hy166]; exact H) | exact H
       have Ny166 := zaa.mk hy166; clear hy166; have H' := zaa.mk H; clear H; have p162 : 0 ≤ (x14_2 : Int) := zod zq5; have q162 : x14_2 < (l0.length : Int) := zod zq5; obtain ⟨ad162, e162, hx162_0, hx162_1⟩ := zcd HR0.out x14_2 p162 q162
       cases e162
       replace hx162_0 := (HB.out.cell (World.block_lt_of_cell? w _ hx162_0)).trans hx162_0; replace hx162_1 := (HB.out.cell (World.block_lt_of_cell? w _ hx162_1)).trans hx162_1; replace p162 := eq_true p162; replace q162 := eq_true q162; have p163 : 0 ≤ (x14_2 : Int) := zod zq5; have q163 : x14_2 < (l0.length : Int) := zod zq5; obtain ⟨ad163, e163, hx163_0, hx163_1⟩ := zcd HR0.out x14_2 p163 q163; obtain rfl : ad162 = ad163 := (by injection e163)
       replace hx163_0 := (HB.out.cell (World.block_lt_of_cell? w _ hx163_0)).trans hx163_0; replace hx163_1 := (HB.out.cell (World.block_lt_of_cell? w _ hx163_1)).trans hx163_1; replace p163 := eq_true p163; replace q163 := eq_true q163; have p32 : 0 ≤ ((ji29) : Int) := zod zq5; have q32 : ((ji29) : Int) < ((x12_2.length : Int) : Int) := zod zq5; obtain ⟨go32, co32, eo32, gb32, gl32, cl32, HG32⟩ := Kd.zfN HO_12.out zq8
       (first | cases eo32 | (injection eo32 with ea_ en_ ec_; (first | subst ea_ | (injection ea_ with ea_; subst ea_)); subst ec_; clear en_))
       have GB32 := zaa.mk gb32; have GG32 := zaa.mk HG32; clear gb32 gl32 HG32; obtain ⟨hx32_0, hf32_0⟩ := Kd.zeF false HO_12.out ((ji29) : Int) p32 q32; replace p32 := eq_true p32; replace q32 := eq_true q32; have HP35 := Kd.zfM HO_12.out ((ji29) : Int) true; go_wp2_with (first | ((with_reducible refine zdV (t := 4) (p := 79) rfl ?_); refine zdy (t := 4) (p := 79) (v := ?vo_w36) (w1 := (wr.setCell ⟨go32, ((ji29) : Int).toNat, none⟩ (.bool true))) ?hg ?ho ?hn ?hr ?_; (case ho => rfl); (case hg => rfl); (case hn => rfl); (case hr => first | (go_simp; done) | (go_simp; rfl)); intro w36 hw; have hg : wr.grownBy w36 (some go32) := (by rw [hw]; exact HP35.2); have hp_ : Kd.R Kd.bool 4 w36 w.heap.size (fun _ => True) (.slice (some ⟨go32, 0, none⟩) x12_2.length co32) y164 := (by rw [hw, Ny164.out]; exact HP35.1); clear HP35; have n0_ := zaa.mk (hp_); have n1_ := zaa.mk (Kd.ziD (v := (.slice (some ⟨go32, 0, none⟩) x12_2.length co32)) (zx0 HO_13.out) (Kd.ziC HO_12.out) zaR hg); have n2_ := zaa.mk ((by rw [hw]; exact zaS (HB.out) GB32.out : Below w.heap.size w w36)); clear HO_12; clear HO_13; clear HB; have HO_12 := n0_; have HO_13 := n1_; have HB := n2_; clear n0_ n1_ n2_; clear hg hw hp_; have p165 : 0 ≤ (x14_2 : Int) := zod zq5; have q165 : x14_2 < (l0.length : Int) := zod zq5; obtain ⟨ad165, e165, hx165_0, hx165_1⟩ := zcd HR0.out x14_2 p165 q165; obtain rfl : ad162 = ad165 := (by injection e165); replace hx165_0 := (HB.out.cell (World.block_lt_of_cell? w _ hx165_0)).trans hx165_0; replace hx165_1 := (HB.out.cell (World.block_lt_of_cell? w _ hx165_1)).trans hx165_1; replace p165 := eq_true p165; replace q165 := eq_true q165; have p34 : 0 ≤ ((ji29) : Int) := zod zq5; have q34 : ((ji29) : Int) < ((x13_2.length : Int) : Int) := zod zq5; obtain ⟨go34, co34, eo34, gb34, gl34, cl34, HG34⟩ := Kd.zfN HO_13.out zq8; (first | cases eo34 | (injection eo34 with ea_ en_ ec_; (first | subst ea_ | (injection ea_ with ea_; subst ea_)); subst ec_; clear en_)); have GB34 := zaa.mk gb34; have GG34 := zaa.mk HG34; clear gb34 gl34 HG34; obtain ⟨hx34_0, hf34_0⟩ := Kd.zeF 0 HO_13.out ((ji29) : Int) p34 q34; replace p34 := eq_true p34; replace q34 := eq_true q34; obtain ⟨hy37_, hz37_⟩ := Kd.zeF 0 HO_13.out ((ji29) : Int) (zod zq5) (zod zq5); have HP37 := Kd.zfM HO_13.out ((ji29) : Int) ((zaE l0 x14_2).f1)) | ((with_reducible refine zdV (t := 3) (p := 87) rfl ?_); refine zdy (t := 3) (p := 87) (v := ?vo_w38) (w1 := (w36.setCell ⟨go34, ((ji29) : Int).toNat, none⟩ (.int .i64 ((zaE l0 x14_2).f1)))) ?hg ?ho ?hn ?hr ?_; (case ho => rfl); (case hg => rfl); (case hn => rfl); (case hr => first | (go_simp; done) | (go_simp; rfl)); intro w38 hw; have hg : w36.grownBy w38 (some go34) := (by rw [hw]; exact HP37.2); have hp_ : Kd.R (Kd.int .i64) 3 w38 w.heap.size (fun _ => True) (.slice (some ⟨go34, 0, none⟩) x13_2.length co34) y166 := (by rw [hw, Ny166.out]; exact HP37.1); clear HP37; have n0_ := zaa.mk (Kd.ziD (v := (.slice (some ⟨go34, 0, none⟩) x13_2.length co34)) (zx0 HO_12.out) (Kd.ziC HO_13.out) zaR hg); have n1_ := zaa.mk (hp_); have n2_ := zaa.mk ((by rw [hw]; exact zaS (HB.out) GB34.out : Below w.heap.size w w38)); clear HO_12; clear HO_13; clear HB; have HO_12 := n0_; have HO_13 := n1_; have HB := n2_; clear n0_ n1_ n2_; clear hg hw hp_))
       go_roundg k2
       case measure => have := HJ4.out; have := HK2.out; omega
       case rel => exact ⟨(y164), (y166), (wrap64 (x14_2 + 1)), zq2, H', ⟨by have := HJ4.out; have := HK2.out; omega⟩, ⟨zfS⟩, ⟨zfr⟩, ⟨zq0⟩⟩
     rw [if_neg c24] at H; have c24b0 := zdf c24; clear c24; have H' := zaa.mk H; clear H; go_wp2; go_loopg [16, 17, 18] k2 (fun kq v16 v17 v18 w' => ∃ (x16_3 : Int) (x17_3 : Int) (x18_3 : Int), v16 = .int .i64 x16_3 ∧ v17 = .int .i64 x17_3 ∧ v18 = .int .i64 x18_3 ∧ zaa (zak.l1 kq a3 x12_2 x13_2 x16_3 x17_3 x18_3 = some (r1, r2, r3)) ∧ zaa (kq ≤ k2) ∧ zaa (Kd.R Kd.bool 4 w' w.heap.size (fun _ => True) v157 x12_2) ∧ zaa (Kd.R (Kd.int .i64) 3 w' w.heap.size (fun _ => True) v160 x13_2) ∧ zaa (Below w.heap.size w w'))
     case atStart => exact ⟨(0), ((-1)), (0), zq2, zq2, zq2, H', ⟨Nat.le_refl _⟩, ⟨zfS⟩, ⟨zfr⟩, ⟨zq0⟩⟩
     case round =>
      clear H'; (try clear c1); (try clear p1); (try clear q1); (try clear hx1); (try clear c2); (try clear p2); (try clear c3); (try clear p3); (try clear q3); (try clear hx3); (try clear c6); (try clear c6b0); (try clear p6); (try clear c7); (try clear c7b0); (try clear c8); (try clear c8b0); (try clear c9); (try clear c9b0); (try clear c10); (try clear c10b0); (try clear c11); (try clear c14); (try clear c15); (try clear c15b0); (try clear c15b1); (try clear c16); (try clear c16b0); (try clear c16b1); (try clear p16); (try clear q16); (try clear hx16); (try clear c17); (try clear c17b0); (try clear c17b1); (try clear c24); (try clear c24b0); (try clear c25); (try clear c25b0); (try clear c26); (try clear c26b0); (try clear c27); (try clear c27b0); (try clear c27b1); (try clear c28); (try clear c28b0); (try clear c30); (try clear c30b0); (try clear c31); (try clear c31b0); (try clear p32); (try clear q32); (try clear hx32); (try clear hf32); (try clear c33); (try clear c33b0); (try clear p34); (try clear q34); (try clear hx34); (try clear hf34); (try clear hx162_0); (try clear hx162_1); (try clear hx163_0); (try clear hx163_1); (try clear hx165_0); (try clear hx165_1); (try clear hx32_0); (try clear hx34_0); (try clear p162); (try clear p163); (try clear p165); (try clear p2); (try clear p32); (try clear p34); (try clear q162); (try clear q163); (try clear q165); (try clear q32); (try clear q34); obtain ⟨x16_3, x17_3, x18_3, rfl, rfl, rfl, HA, HK3, HO_12, HO_13, HB⟩ := hrel
      cases gk with
      | zero => exact absurd HA.out (by simp [zak.l1])
      | succ k3 =>
       have H := HA.out; clear HA; simp only [zak.l1] at H; by_cases c39 : x18_3 < a3
       · rw [if_pos c39] at H; have c39b0 := zdt c39; clear c39; by_cases c40 : 0 ≤ x18_3; rotate_left
         · rw [if_neg c40] at H; exact absurd H (by simp)
         rw [if_pos c40] at H; have c40b0 := zdt c40; clear c40; by_cases c41 : x18_3 < (x12_2.length : Int); rotate_left
         · rw [if_neg c41] at H; exact absurd H (by simp)
         rw [if_pos c41] at H; have c41b0 := zdt c41; clear c41; obtain ⟨bq42, hbq42⟩ : ∃ b_ : Bool, b_ = (zgw false x12_2 x18_3) := ⟨_, rfl⟩
         replace H : (if bq42 = true then (if x17_3 < 0 then (zak.l1 k3 a3 x12_2 x13_2 x16_3 x18_3 (wrap64 (x18_3 + 1))) else (zak.l1 k3 a3 x12_2 x13_2 x16_3 x17_3 (wrap64 (x18_3 + 1)))) else (zak.l1 k3 a3 x12_2 x13_2 (wrap64 (x16_3 + 1)) x17_3 (wrap64 (x18_3 + 1)))) = some (r1, r2, r3) := by rw [← hbq42] at H; exact H
         have Nbq42 := zaa.mk hbq42; clear hbq42; by_cases c43 : bq42 = true; rotate_left
         · replace c43 := Bool.eq_false_iff.mpr c43; subst c43; have H1 : (zak.l1 k3 a3 x12_2 x13_2 (wrap64 (x16_3 + 1)) x17_3 (wrap64 (x18_3 + 1))) = some (r1, r2, r3) := by rw [if_neg (show ¬ (false = true) by decide)] at H; exact H
           clear H; have H := H1; clear H1; have H' := zaa.mk H; clear H; obtain ⟨Ao47, co47, eo47⟩ := Kd.zdd HO_12.out; subst eo47; have p167 : 0 ≤ (x18_3 : Int) := zod zq5; have q167 : x18_3 < (x12_2.length : Int) := zod zq5; obtain ⟨ad167, e167, hx167_0⟩ := Kd.zhl (Kd.zbF HO_12.out).2.2 x18_3 p167 q167
           (try rw [← Nbq42.out] at hx167_0)
           cases e167
           replace p167 := eq_true p167; replace q167 := eq_true q167; go_wp2; go_roundg k3
           case measure => have := HJ4.out; have := HK2.out; have := HK3.out; omega
           case rel => exact ⟨(wrap64 (x16_3 + 1)), (x17_3), (wrap64 (x18_3 + 1)), zq2, zq2, zq2, H', ⟨by have := HJ4.out; have := HK2.out; have := HK3.out; omega⟩, ⟨zfS⟩, ⟨zfr⟩, ⟨zq0⟩⟩
         subst c43; have H1 : (if x17_3 < 0 then (zak.l1 k3 a3 x12_2 x13_2 x16_3 x18_3 (wrap64 (x18_3 + 1))) else (zak.l1 k3 a3 x12_2 x13_2 x16_3 x17_3 (wrap64 (x18_3 + 1)))) = some (r1, r2, r3) := by rw [if_pos rfl] at H; exact H
         clear H; have H := H1; clear H1; by_cases c44 : x17_3 < 0
         · rw [if_pos c44] at H; have c44b0 := zdt c44; clear c44; have H' := zaa.mk H; clear H; obtain ⟨Ao45, co45, eo45⟩ := Kd.zdd HO_12.out; subst eo45; have p167 : 0 ≤ (x18_3 : Int) := zod zq5; have q167 : x18_3 < (x12_2.length : Int) := zod zq5; obtain ⟨ad167, e167, hx167_0⟩ := Kd.zhl (Kd.zbF HO_12.out).2.2 x18_3 p167 q167
           (try rw [← Nbq42.out] at hx167_0)
           cases e167
           replace p167 := eq_true p167; replace q167 := eq_true q167; go_wp2; go_roundg k3
           case measure => have := HJ4.out; have := HK2.out; have := HK3.out; omega
           case rel => exact ⟨(x16_3), (x18_3), (wrap64 (x18_3 + 1)), zq2, zq2, zq2, H', ⟨by have := HJ4.out; have := HK2.out; have := HK3.out; omega⟩, ⟨zfS⟩, ⟨zfr⟩, ⟨zq0⟩⟩
         rw [if_neg c44] at H; have c44b0 := zdf c44; clear c44; have H' := zaa.mk H; clear H; obtain ⟨Ao46, co46, eo46⟩ := Kd.zdd HO_12.out; subst eo46; have p167 : 0 ≤ (x18_3 : Int) := zod zq5; have q167 : x18_3 < (x12_2.length : Int) := zod zq5; obtain ⟨ad167, e167, hx167_0⟩ := Kd.zhl (Kd.zbF HO_12.out).2.2 x18_3 p167 q167
         (try rw [← Nbq42.out] at hx167_0)
         cases e167
         replace p167 := eq_true p167; replace q167 := eq_true q167; go_wp2; go_roundg k3
         case measure => have := HJ4.out; have := HK2.out; have := HK3.out; omega
         case rel => exact ⟨(x16_3), (x17_3), (wrap64 (x18_3 + 1)), zq2, zq2, zq2, H', ⟨by have := HJ4.out; have := HK2.out; have := HK3.out; omega⟩, ⟨zfS⟩, ⟨zfr⟩, ⟨zq0⟩⟩
       rw [if_neg c39] at H; have c39b0 := zdf c39; clear c39; by_cases c48 : x17_3 < 0
       · rw [if_pos c48] at H; have c48b0 := zdt c48; clear c48; simp only [Option.some.injEq, Prod.mk.injEq] at H; obtain ⟨rfl, rfl, rfl⟩ := H; go_wp2; go_ret3
         exact ⟨_, zq4, zjU, zq0⟩
       rw [if_neg c48] at H; have c48b0 := zdf c48; clear c48; have H' := zaa.mk H; clear H; go_wp2; go_loopg [19] k3 (fun kq v19 w' => ∃ (x13_4 : List Int) (x19_4 : Int), v19 = .int .i64 x19_4 ∧ zaa (zak.l2 kq a3 x12_2 x13_4 x16_3 x17_3 x19_4 = some (r1, r2, r3)) ∧ zaa (kq ≤ k3) ∧ zaa (Kd.R Kd.bool 4 w' w.heap.size (fun _ => True) v157 x12_2) ∧ zaa (Kd.R (Kd.int .i64) 3 w' w.heap.size (fun _ => True) v160 x13_4) ∧ zaa (Below w.heap.size w w'))
       case atStart => exact ⟨(x13_2), (0), zq2, H', ⟨Nat.le_refl _⟩, ⟨zfS⟩, ⟨zfr⟩, ⟨zq0⟩⟩
       case round =>
        clear H'; (try clear c1); (try clear p1); (try clear q1); (try clear hx1); (try clear c2); (try clear p2); (try clear c3); (try clear p3); (try clear q3); (try clear hx3); (try clear c4); (try clear q4); (try clear c6); (try clear c6b0); (try clear p6); (try clear c7); (try clear c7b0); (try clear c8); (try clear c8b0); (try clear c9); (try clear c9b0); (try clear c10); (try clear c10b0); (try clear c11); (try clear c14); (try clear c15); (try clear c15b0); (try clear c15b1); (try clear c16); (try clear c16b0); (try clear c16b1); (try clear p16); (try clear q16); (try clear hx16); (try clear c17); (try clear c17b0); (try clear c17b1); (try clear c24); (try clear c24b0); (try clear c25); (try clear c25b0); (try clear c26); (try clear c26b0); (try clear c27); (try clear c27b0); (try clear c27b1); (try clear c28); (try clear c28b0); (try clear c30); (try clear c30b0); (try clear c31); (try clear c31b0); (try clear p32); (try clear q32); (try clear hx32); (try clear hf32); (try clear c33); (try clear c33b0); (try clear p34); (try clear q34); (try clear hx34); (try clear hf34); (try clear c39); (try clear c39b0); (try clear c40); (try clear c40b0); (try clear c41); (try clear c41b0); (try clear q42); (try clear c43); (try clear c44); (try clear c44b0); (try clear c48); (try clear c48b0); (try clear hx162_0); (try clear hx162_1); (try clear hx163_0); (try clear hx163_1); (try clear hx165_0); (try clear hx165_1); (try clear hx167_0); (try clear hx32_0); (try clear hx34_0); (try clear p1)
        (try clear p16); (try clear p162); (try clear p163); (try clear p165); (try clear p167); (try clear p2); (try clear p3); (try clear p32); (try clear p34); (try clear p6); (try clear q1); (try clear q16); (try clear q162); (try clear q163); (try clear q165); (try clear q167); (try clear q3); (try clear q32); (try clear q34); obtain ⟨x13_4, x19_4, rfl, HA, HK4, HO_12, HO_13, HB⟩ := hrel
        cases gk with
        | zero => exact absurd HA.out (by simp [zak.l2])
        | succ k4 =>
         have H := HA.out; clear HA; simp only [zak.l2] at H; by_cases c49 : x19_4 < x17_3
         · rw [if_pos c49] at H; have c49b0 := zdt c49; clear c49; by_cases c50 : 0 ≤ x17_3; rotate_left
           · rw [if_neg c50] at H; exact absurd H (by simp)
           rw [if_pos c50] at H; have c50b0 := zdt c50; clear c50; by_cases c51 : x17_3 < (x13_4.length : Int); rotate_left
           · rw [if_neg c51] at H; exact absurd H (by simp)
           rw [if_pos c51] at H; have c51b0 := zdt c51; clear c51; by_cases c52 : 0 ≤ x19_4; rotate_left
           · rw [if_neg c52] at H; exact absurd H (by simp)
           rw [if_pos c52] at H; have c52b0 := zdt c52; clear c52; by_cases c53 : x19_4 < (x13_4.length : Int); rotate_left
           · rw [if_neg c53] at H; exact absurd H (by simp)
           rw [if_pos c53] at H; have c53b0 := zdt c53; clear c53; obtain ⟨y169, hy169⟩ : ∃ y_ : List Int, y_ = (x13_4.set (x19_4 : Int).toNat (rd x13_4 x17_3)) := ⟨_, rfl⟩
           replace H : (zak.l2 k4 a3 x12_2 y169 x16_3 x17_3 (wrap64 (x19_4 + 1))) = some (r1, r2, r3) := by first | (rw [hy169]; with_reducible exact H) | (have H2_ := (Option.bind_some _ _).symm.trans H; rw [hy169]; with_reducible exact H2_) | (have H2_ := (Option.bind_some _ _).symm.trans H; with_reducible exact H2_) | with_reducible exact H | (rw [hy169]; exact H) | exact H
           have Ny169 := zaa.mk hy169; clear hy169; have H' := zaa.mk H; clear H; obtain ⟨Ao55, co55, eo55⟩ := Kd.zdd HO_13.out; subst eo55; have p168 : 0 ≤ (x17_3 : Int) := zod zq5; have q168 : x17_3 < (x13_4.length : Int) := zod zq5; obtain ⟨ad168, e168, hx168_0⟩ := Kd.zbE (Kd.zbF HO_13.out).2.2 x17_3 p168 q168
           cases e168
           replace p168 := eq_true p168; replace q168 := eq_true q168; have p54 : 0 ≤ (x19_4 : Int) := zod zq5; have q54 : (x19_4 : Int) < ((x13_4.length : Int) : Int) := zod zq5; obtain ⟨go54, co54, eo54, gb54, gl54, cl54, HG54⟩ := Kd.zfN HO_13.out zq8
           (first | cases eo54 | (injection eo54 with ea_ en_ ec_; (first | subst ea_ | (injection ea_ with ea_; subst ea_)); subst ec_; clear en_))
           have GB54 := zaa.mk gb54; have GG54 := zaa.mk HG54; clear gb54 gl54 HG54
           (first | simp only [zgP] at hx168_0 | skip)
           obtain ⟨hx54_0, hf54_0⟩ := Kd.zeF 0 HO_13.out (x19_4 : Int) p54 q54; replace p54 := eq_true p54; replace q54 := eq_true q54; have HP56 := Kd.zfM HO_13.out (x19_4 : Int) (rd x13_4 x17_3); go_wp2_with (first | ((with_reducible refine zdV (t := 3) (p := 117) rfl ?_); refine zdy (t := 3) (p := 117) (v := ?vo_w57) (w1 := (wr.setCell ⟨go54, (x19_4 : Int).toNat, none⟩ (.int .i64 (rd x13_4 x17_3)))) ?hg ?ho ?hn ?hr ?_; (case ho => rfl); (case hg => rfl); (case hn => rfl); (case hr => first | (go_simp; done) | (go_simp; rfl)); intro w57 hw; have hg : wr.grownBy w57 (some go54) := (by rw [hw]; exact HP56.2); have hp_ : Kd.R (Kd.int .i64) 3 w57 w.heap.size (fun _ => True) (.slice (some ⟨go54, 0, none⟩) x13_4.length co55) y169 := (by rw [hw, Ny169.out]; exact HP56.1); clear HP56; have n0_ := zaa.mk (Kd.ziD (v := (.slice (some ⟨go54, 0, none⟩) x13_4.length co55)) (zx0 HO_12.out) (Kd.ziC HO_13.out) zaR hg); have n1_ := zaa.mk (hp_); have n2_ := zaa.mk ((by rw [hw]; exact zaS (HB.out) GB54.out : Below w.heap.size w w57)); clear HO_12; clear HO_13; clear HB; have HO_12 := n0_; have HO_13 := n1_; have HB := n2_; clear n0_ n1_ n2_; clear hg hw hp_))
           go_roundg k4
           case measure => have := HJ4.out; have := HK2.out; have := HK3.out; have := HK4.out; omega
           case rel => exact ⟨(y169), (wrap64 (x19_4 + 1)), zq2, H', ⟨by have := HJ4.out; have := HK2.out; have := HK3.out; have := HK4.out; omega⟩, ⟨zfS⟩, ⟨zfr⟩, ⟨zq0⟩⟩
         rw [if_neg c49] at H; have c49b0 := zdf c49; clear c49; have H' := zaa.mk H; clear H; go_wp2; go_loopg [20] k4 (fun kq v20 w' => ∃ (x13_5 : List Int) (x20_5 : Int), v20 = .int .i64 x20_5 ∧ zaa (zak.l3 kq a3 x12_2 x13_5 x16_3 x20_5 = some (r1, r2, r3)) ∧ zaa (kq ≤ k4) ∧ zaa (Kd.R Kd.bool 4 w' w.heap.size (fun _ => True) v157 x12_2) ∧ zaa (Kd.R (Kd.int .i64) 3 w' w.heap.size (fun _ => True) v160 x13_5) ∧ zaa (Below w.heap.size w w'))
         case atStart => exact ⟨(x13_4), (wrap64 (x17_3 + 1)), zq2, H', ⟨Nat.le_refl _⟩, ⟨zfS⟩, ⟨zfr⟩, ⟨zq0⟩⟩
         case round =>
          clear H'; (try clear c1); (try clear p1); (try clear q1); (try clear hx1); (try clear c2); (try clear p2); (try clear c3); (try clear p3); (try clear q3); (try clear hx3); (try clear c4); (try clear q4); (try clear c5); (try clear p5); (try clear q5); (try clear hx5); (try clear hf5); (try clear c6); (try clear c6b0); (try clear p6); (try clear c7); (try clear c7b0); (try clear c8); (try clear c8b0); (try clear c9); (try clear c9b0); (try clear c10); (try clear c10b0); (try clear c11); (try clear c14); (try clear c15); (try clear c15b0); (try clear c15b1); (try clear c16); (try clear c16b0); (try clear c16b1); (try clear p16); (try clear q16); (try clear hx16); (try clear c17); (try clear c17b0); (try clear c17b1); (try clear c24); (try clear c24b0); (try clear c25); (try clear c25b0); (try clear c26); (try clear c26b0); (try clear c27); (try clear c27b0); (try clear c27b1); (try clear c28); (try clear c28b0); (try clear c30); (try clear c30b0); (try clear c31); (try clear c31b0); (try clear p32); (try clear q32); (try clear hx32); (try clear hf32); (try clear c33); (try clear c33b0); (try clear p34); (try clear q34); (try clear hx34); (try clear hf34); (try clear c39); (try clear c39b0); (try clear c40); (try clear c40b0); (try clear c41); (try clear c41b0); (try clear q42); (try clear c43); (try clear c44); (try clear c44b0); (try clear c48); (try clear c48b0); (try clear c49); (try clear c49b0); (try clear c50); (try clear c50b0); (try clear c51); (try clear c51b0); (try clear c52)
          (try clear c52b0); (try clear c53); (try clear c53b0); (try clear p54); (try clear q54); (try clear hx54); (try clear hf54); (try clear hx162_0); (try clear hx162_1); (try clear hx163_0); (try clear hx163_1); (try clear hx165_0); (try clear hx165_1); (try clear hx167_0); (try clear hx168_0); (try clear hx32_0); (try clear hx34_0); (try clear hx54_0); (try clear p1); (try clear p16); (try clear p162); (try clear p163); (try clear p165); (try clear p167); (try clear p168); (try clear p2); (try clear p3); (try clear p32); (try clear p34); (try clear p54); (try clear p6); (try clear q1); (try clear q16); (try clear q162); (try clear q163); (try clear q165); (try clear q167); (try clear q168); (try clear q3); (try clear q32); (try clear q34); (try clear q4); (try clear q42); (try clear q54); obtain ⟨x13_5, x20_5, rfl, HA, HK5, HO_12, HO_13, HB⟩ := hrel
          cases gk with
          | zero => exact absurd HA.out (by simp [zak.l3])
          | succ k5 =>
           have H := HA.out; clear HA; simp only [zak.l3] at H; by_cases c58 : x20_5 < a3; rotate_left
           · rw [if_neg c58] at H; have c58b0 := zdf c58; clear c58; simp only [Option.some.injEq, Prod.mk.injEq] at H; obtain ⟨rfl, rfl, rfl⟩ := H; go_wp2; go_ret3
             exact ⟨_, zq4, zfr, zq0⟩
           rw [if_pos c58] at H; have c58b0 := zdt c58; clear c58; by_cases c59 : 0 ≤ x20_5; rotate_left
           · rw [if_neg c59] at H; exact absurd H (by simp)
           rw [if_pos c59] at H; have c59b0 := zdt c59; clear c59; by_cases c60 : x20_5 < (x12_2.length : Int); rotate_left
           · rw [if_neg c60] at H; exact absurd H (by simp)
           rw [if_pos c60] at H; have c60b0 := zdt c60; clear c60; obtain ⟨bq61, hbq61⟩ : ∃ b_ : Bool, b_ = (zgw false x12_2 x20_5) := ⟨_, rfl⟩
           replace H : (if bq61 = true then (zak.l3 k5 a3 x12_2 x13_5 x16_3 (wrap64 (x20_5 + 1))) else (if 0 ≤ (wrap64 (x20_5 - 1)) then (if (wrap64 (x20_5 - 1)) < (x13_5.length : Int) then (if x20_5 < (x13_5.length : Int) then (zak.l3 k5 a3 x12_2 (x13_5.set (x20_5 : Int).toNat (rd x13_5 (wrap64 (x20_5 - 1)))) x16_3 (wrap64 (x20_5 + 1))) else (none)) else (none)) else (none))) = some (r1, r2, r3) := by rw [← hbq61] at H; exact H
           have Nbq61 := zaa.mk hbq61; clear hbq61; by_cases c62 : bq61 = true
           · subst c62; have H1 : (zak.l3 k5 a3 x12_2 x13_5 x16_3 (wrap64 (x20_5 + 1))) = some (r1, r2, r3) := by rw [if_pos rfl] at H; exact H
             clear H; have H := H1; clear H1; have H' := zaa.mk H; clear H; obtain ⟨Ao63, co63, eo63⟩ := Kd.zdd HO_12.out; subst eo63; have p170 : 0 ≤ (x20_5 : Int) := zod zq5; have q170 : x20_5 < (x12_2.length : Int) := zod zq5; obtain ⟨ad170, e170, hx170_0⟩ := Kd.zhl (Kd.zbF HO_12.out).2.2 x20_5 p170 q170
             (try rw [← Nbq61.out] at hx170_0)
             cases e170
             replace p170 := eq_true p170; replace q170 := eq_true q170; go_wp2; go_roundg k5
             case measure => have := HJ4.out; have := HK2.out; have := HK3.out; have := HK4.out; have := HK5.out; omega
             case rel => exact ⟨(x13_5), (wrap64 (x20_5 + 1)), zq2, H', ⟨by have := HJ4.out; have := HK2.out; have := HK3.out; have := HK4.out; have := HK5.out; omega⟩, ⟨zfS⟩, ⟨zfr⟩, ⟨zq0⟩⟩
           replace c62 := Bool.eq_false_iff.mpr c62; subst c62; have H1 : (if 0 ≤ (wrap64 (x20_5 - 1)) then (if (wrap64 (x20_5 - 1)) < (x13_5.length : Int) then (if x20_5 < (x13_5.length : Int) then (zak.l3 k5 a3 x12_2 (x13_5.set (x20_5 : Int).toNat (rd x13_5 (wrap64 (x20_5 - 1)))) x16_3 (wrap64 (x20_5 + 1))) else (none)) else (none)) else (none)) = some (r1, r2, r3) := by rw [if_neg (show ¬ (false = true) by decide)] at H; exact H
           clear H; have H := H1; clear H1; obtain ⟨ji64, hji64⟩ : ∃ j_ : Int, (wrap64 (x20_5 - 1)) = j_ := ⟨_, rfl⟩
           replace H : (if 0 ≤ (ji64) then (if (ji64) < (x13_5.length : Int) then (if x20_5 < (x13_5.length : Int) then (zak.l3 k5 a3 x12_2 (x13_5.set (x20_5 : Int).toNat (rd x13_5 (ji64))) x16_3 (wrap64 (x20_5 + 1))) else (none)) else (none)) else (none)) = some (r1, r2, r3) := by first | (rw [hji64] at H; exact H) | (simp only [hji64] at H ⊢; exact H)
           have hji64w : (IntKind.i64.wrap (x20_5 - 1)) = ji64 := (zaF _).trans hji64; by_cases c65 : 0 ≤ (ji64); rotate_left
           · rw [if_neg c65] at H; exact absurd H (by simp)
           rw [if_pos c65] at H; have c65b0 := zdt c65; clear c65; by_cases c66 : (ji64) < (x13_5.length : Int); rotate_left
           · rw [if_neg c66] at H; exact absurd H (by simp)
           rw [if_pos c66] at H; have c66b0 := zdt c66; clear c66; by_cases c67 : x20_5 < (x13_5.length : Int); rotate_left
           · rw [if_neg c67] at H; exact absurd H (by simp)
           rw [if_pos c67] at H; have c67b0 := zdt c67; clear c67; obtain ⟨y172, hy172⟩ : ∃ y_ : List Int, y_ = (x13_5.set (x20_5 : Int).toNat (rd x13_5 (ji64))) := ⟨_, rfl⟩
           replace H : (zak.l3 k5 a3 x12_2 y172 x16_3 (wrap64 (x20_5 + 1))) = some (r1, r2, r3) := by first | (rw [hy172]; with_reducible exact H) | (have H2_ := (Option.bind_some _ _).symm.trans H; rw [hy172]; with_reducible exact H2_) | (have H2_ := (Option.bind_some _ _).symm.trans H; with_reducible exact H2_) | with_reducible exact H | (rw [hy172]; exact H) | exact H
           have Ny172 := zaa.mk hy172; clear hy172; have H' := zaa.mk H; clear H; obtain ⟨Ao69, co69, eo69⟩ := Kd.zdd HO_12.out; subst eo69; have p170 : 0 ≤ (x20_5 : Int) := zod zq5; have q170 : x20_5 < (x12_2.length : Int) := zod zq5; obtain ⟨ad170, e170, hx170_0⟩ := Kd.zhl (Kd.zbF HO_12.out).2.2 x20_5 p170 q170
           (try rw [← Nbq61.out] at hx170_0)
           cases e170
           replace p170 := eq_true p170; replace q170 := eq_true q170; obtain ⟨Ao70, co70, eo70⟩ := Kd.zdd HO_13.out; subst eo70; have p171 : 0 ≤ ((ji64) : Int) := zod zq5; have q171 : (ji64) < (x13_5.length : Int) := zod zq5; obtain ⟨ad171, e171, hx171_0⟩ := Kd.zbE (Kd.zbF HO_13.out).2.2 (ji64) p171 q171
           cases e171
           replace p171 := eq_true p171; replace q171 := eq_true q171; have p68 : 0 ≤ (x20_5 : Int) := zod zq5; have q68 : (x20_5 : Int) < ((x13_5.length : Int) : Int) := zod zq5; obtain ⟨go68, co68, eo68, gb68, gl68, cl68, HG68⟩ := Kd.zfN HO_13.out zq8
           (first | cases eo68 | (injection eo68 with ea_ en_ ec_; (first | subst ea_ | (injection ea_ with ea_; subst ea_)); subst ec_; clear en_))
           have GB68 := zaa.mk gb68; have GG68 := zaa.mk HG68; clear gb68 gl68 HG68
           (first | simp only [zgP] at hx171_0 | skip)
           obtain ⟨hx68_0, hf68_0⟩ := Kd.zeF 0 HO_13.out (x20_5 : Int) p68 q68; replace p68 := eq_true p68; replace q68 := eq_true q68; have HP71 := Kd.zfM HO_13.out (x20_5 : Int) (rd x13_5 (ji64)); go_wp2_with (first | ((with_reducible refine zdV (t := 3) (p := 137) rfl ?_); refine zdy (t := 3) (p := 137) (v := ?vo_w72) (w1 := (wr.setCell ⟨go68, (x20_5 : Int).toNat, none⟩ (.int .i64 (rd x13_5 (ji64))))) ?hg ?ho ?hn ?hr ?_; (case ho => rfl); (case hg => rfl); (case hn => rfl); (case hr => first | (go_simp; done) | (go_simp; rfl)); intro w72 hw; have hg : wr.grownBy w72 (some go68) := (by rw [hw]; exact HP71.2); have hp_ : Kd.R (Kd.int .i64) 3 w72 w.heap.size (fun _ => True) (.slice (some ⟨go68, 0, none⟩) x13_5.length co70) y172 := (by rw [hw, Ny172.out]; exact HP71.1); clear HP71; have n0_ := zaa.mk (Kd.ziD (v := (.slice (some ⟨go68, 0, none⟩) x13_5.length co70)) (zx0 HO_12.out) (Kd.ziC HO_13.out) zaR hg); have n1_ := zaa.mk (hp_); have n2_ := zaa.mk ((by rw [hw]; exact zaS (HB.out) GB68.out : Below w.heap.size w w72)); clear HO_12; clear HO_13; clear HB; have HO_12 := n0_; have HO_13 := n1_; have HB := n2_; clear n0_ n1_ n2_; clear hg hw hp_))
           go_roundg k5
           case measure => have := HJ4.out; have := HK2.out; have := HK3.out; have := HK4.out; have := HK5.out; omega
           case rel => exact ⟨(y172), (wrap64 (x20_5 + 1)), zq2, H', ⟨by have := HJ4.out; have := HK2.out; have := HK3.out; have := HK4.out; have := HK5.out; omega⟩, ⟨zfS⟩, ⟨zfr⟩, ⟨zq0⟩⟩
end Go.Proofs.Ytemnfnbjapobcaa.Pr
end
section
namespace Go.Proofs.Ytemnfnbjapobcaa.RS
open Go.RowKit Go.Proofs.Ytemnfnbjapobcaa.Pr Go.Proofs.ZW.PrintWords Go.Proofs.ZW.PrintLast Go.Proofs.ZW.PrintMore
theorem zaI {n : Int} (h0 : -9223372036854775808 ≤ n) (h1 : n ≤ 9223372036854775807) : wrap64 n = n := by unfold wrap64; omega
theorem zfG {x : Int} (h : (Lit.int .i64 x).wf = true) : -9223372036854775808 ≤ x ∧ x ≤ 9223372036854775807 := by
 have hmin : IntKind.i64.min = -9223372036854775808 := rfl; have hmax : IntKind.i64.max = 9223372036854775807 := rfl; simp only [Lit.wf, Bool.and_eq_true, decide_eq_true_eq] at h; omega
theorem Ev.eq {α : Type} {g f : Nat → Option α} {r : α} (h : g = f) (k : Ev f r) : Ev g r := h ▸ k
theorem Ev.const {α : Type} {x : Option α} {r : α} (h : x = some r) : Ev (fun _ => x) r := ⟨0, fun _ _ => h⟩
theorem Ev.all {α : Type} {g : Nat → Option α} {r : α} (h : ∀ k, g k = some r) : Ev g r := ⟨0, fun k _ => h k⟩
theorem zek (xs : List Int) (i : Nat) : rd xs (i : Int) = xs.getD i 0 := rfl
theorem zhF {α : Type} (xs : List α) (i j : Nat) (v d : α) (hi : i < xs.length) : (xs.set i v).getD j d = if i = j then v else xs.getD j d := by
 simp only [List.getD_eq_getElem?_getD, List.getElem?_set]; split
 · rename_i h; subst h; simp
 · rfl
theorem zlM {xs ys : List Int} (hl : xs.length = ys.length) (h : ∀ j, j < xs.length → xs.getD j 0 = ys.getD j 0) : xs = ys := by
 apply List.ext_getElem hl
 intro j h1 h2; have := h j h1; simpa [List.getD_eq_getElem?_getD, h1, h2] using this
theorem zpp (at_ : List Int) (f : Int → Int) (j : Nat) (hj : j < at_.length) : (at_.map f).getD j 0 = f (at_.getD j 0) := by
 simp [List.getD_eq_getElem?_getD, hj]
theorem zjD (f : Nat → Int) (n j : Nat) (hj : j < n) : ((List.range n).map f).getD j 0 = f j := by
 simp [List.getD_eq_getElem?_getD, hj]
theorem zkm (n : Nat) (v : Int) (j : Nat) (hj : j < n) : (List.replicate n v).getD j 0 = v := by
 simp [List.getD_eq_getElem?_getD, hj]
def tm (l : List S70) (i : Nat) : Int := (l.getD i z70).f0
theorem zlw (l : List S70) (i : Nat) : zaE l (i : Int) = l.getD i z70 := rfl
def okAt (l : List S70) (i : Nat) : Bool := decide (-9007199254740992 ≤ tm l i) && (decide (tm l i ≤ 9007199254740992) && (decide (i = 0) || decide (tm l (i - 1) < tm l i)))
def ris (l : List S70) : Nat → Nat → Bool
 | _, 0 => true
 | i, d + 1 => okAt l i && ris l (i + 1) d
theorem zln (t : Int) : zbC.f t = some (decide (-9007199254740992 ≤ t) && decide (t ≤ 9007199254740992)) := by
 unfold zbC.f; by_cases h : t ≥ -9007199254740992
 · rw [if_pos h, zdt h]; rfl
 rw [if_neg h, zdf h]; rfl
theorem znH (l : List S70) (hl : l.length ≤ 1152921504606846976) (d : Nat) : ∀ i : Nat, i + d = l.length → Ev (fun k => zbi.l0 k l l (l.length : Int) (i : Int)) (if ris l i d then 0 else 21) := by
 induction d with
 | zero =>
  intro i hi; refine Ev.step (f := fun _ => some 0) (fun k => ?_) (Ev.now _); simp only [zbi.l0]; rw [if_neg zq8]
 | succ d ih =>
  intro i hi; refine Ev.step (f := fun k => if okAt l i then zbi.l0 k l l (l.length : Int) ((i + 1 : Nat) : Int) else some 21) (fun k => ?_) ?_
  · simp only [zbi.l0]; have e : wrap64 ((i : Int) + 1) = ((i + 1 : Nat) : Int) := by rw [zaI zq8 zq8]; omega
    rw [if_pos zq8, if_pos zq8, if_pos zq8, zlw, zln, Option.bind_some, e]; unfold okAt tm; by_cases h1 : -9007199254740992 ≤ (l.getD i z70).f0; rotate_left
    · simp only [zdf h1]; simp
    by_cases h2 : (l.getD i z70).f0 ≤ 9007199254740992; rotate_left
    · simp only [zdf h2]; simp
    simp only [zdt h1, zdt h2, Bool.true_and, if_true]; by_cases h3 : i = 0
    · rw [if_neg zq8, zdt h3]; simp
    rw [if_pos zq8, zaI zq8 zq8, if_pos zq8, if_pos zq8]; have e2 : ((i : Int) - 1) = ((i - 1 : Nat) : Int) := by omega
    rw [e2, zlw, zdf h3]; by_cases h4 : (l.getD i z70).f0 ≤ (l.getD (i - 1) z70).f0
    · rw [if_pos h4, zdf zq8]; simp
    rw [if_neg h4, zdt zq8]; simp
  · simp only [ris]; by_cases h : okAt l i = true
    · simp only [h, if_true, Bool.true_and]; exact ih (i + 1) zq8
    simp only [h, Bool.false_eq_true, if_false, Bool.false_and]; exact Ev.now (21 : Int)
theorem zkq (l : List S70) (hl : l.length ≤ 1152921504606846976) : Ev (fun k => zbi.f k l) (if ris l 0 l.length then 0 else 21) := znH l hl l.length 0 zq8
theorem znI (l : List S70) (d : Nat) : ∀ i, ris l i d = true → ∀ j, i ≤ j → j < i + d → okAt l j = true := by
 induction d with
 | zero => intro i _ j h1 h2; omega
 | succ d ih =>
  intro i h j h1 h2; simp only [ris, Bool.and_eq_true] at h; by_cases hj : j = i
  · subst hj; exact h.1
  exact ih (i + 1) h.2 j zq8 zq8
theorem zph {l : List S70} {i : Nat} (h : okAt l i = true) : -9007199254740992 ≤ tm l i ∧ tm l i ≤ 9007199254740992 := by
 unfold okAt at h; simp only [Bool.and_eq_true, decide_eq_true_eq] at h; exact ⟨h.1, h.2.1⟩
def zhs (l : List S70) : Prop := ∀ j, j < l.length → -9007199254740992 ≤ tm l j ∧ tm l j ≤ 9007199254740992
theorem zgU (l : List S70) (h : ris l 0 l.length = true) : zhs l := fun j hj => zph (znI l l.length 0 h j zq8 zq8)
def zgj (from_ step n : Int) : Bool := decide (1 ≤ step) && decide (step ≤ 9007199254740992) && decide (0 ≤ n) && decide (n ≤ 10000) && decide (-9007199254740992 ≤ from_) && decide (from_ ≤ 9007199254740992)
def askS (l : List S70) (from_ step n : Int) : Int := if zgj from_ step n then (if ris l 0 l.length then 0 else 21) else 1
theorem zjK (l : List S70) (hl : l.length ≤ 1152921504606846976) (from_ step n : Int) : Ev (fun k => zcB.f k l from_ step n) (askS l from_ step n) := by
 unfold zcB.f askS zgj; by_cases h1 : step < 1
 · simp only [if_pos h1, zdf (show ¬ 1 ≤ step by omega)]; simpa using Ev.now (1 : Int)
 by_cases h2 : step > 9007199254740992
 · simp only [if_neg h1, if_pos h2, zdf (show ¬ step ≤ 9007199254740992 by omega)]; simpa using Ev.now (1 : Int)
 by_cases h3 : n < 0
 · simp only [if_neg h1, if_neg h2, if_pos h3, zdf (show ¬ 0 ≤ n by omega)]; simpa using Ev.now (1 : Int)
 by_cases h4 : n > 10000
 · simp only [if_neg h1, if_neg h2, if_neg h3, if_pos h4, zdf (show ¬ n ≤ 10000 by omega)]; simpa using Ev.now (1 : Int)
 simp only [if_neg h1, if_neg h2, if_neg h3, if_neg h4, zln, Option.bind_some, zdt (show 1 ≤ step by omega), zdt (show step ≤ 9007199254740992 by omega), zdt (show 0 ≤ n by omega), zdt (show n ≤ 10000 by omega), Bool.true_and]
 cases hc : (decide (-9007199254740992 ≤ from_) && decide (from_ ≤ 9007199254740992))
 · simpa using Ev.now (1 : Int)
 · simp only [if_true]; exact Ev.bind (zkq l hl) (Ev.now _)
def stp (l : List S70) (from_ step : Int) (n : Nat) (out : List Int) (i : Nat) : List Int :=
 if tm l i < from_ then out else if (tm l i - from_) / step < n then out.set ((tm l i - from_) / step).toNat i else out
def plc (l : List S70) (from_ step : Int) (n : Nat) : Nat → Nat → List Int → List Int
 | _, 0, out => out
 | i, d + 1, out => plc l from_ step n (i + 1) d (stp l from_ step n out i)
theorem zgb (l : List S70) (from_ step : Int) (n : Nat) (out : List Int) (i : Nat) : (stp l from_ step n out i).length = out.length := by
 unfold stp; split; rfl; split; simp; rfl
theorem znk (l : List S70) (from_ step : Int) (n : Nat) (d : Nat) : ∀ i out, (plc l from_ step n i d out).length = out.length := by
 induction d with
 | zero => intro i out; rfl
 | succ d ih => intro i out; simp only [plc]; rw [ih, zgb]
theorem zqa (l : List S70) (from_ step : Int) (n : Nat) (P : Nat → List Int → Prop) (hs : ∀ i out, i < l.length → P i out → P (i + 1) (stp l from_ step n out i)) (d : Nat) :
  ∀ i out, i + d = l.length → P i out → P l.length (plc l from_ step n i d out) := by
 induction d with
 | zero => intro i out h hp; simp only [plc]; obtain rfl : i = l.length := zq8; exact hp
 | succ d ih => intro i out h hp; simp only [plc]; exact ih (i + 1) _ zq8 (hs i out zq8 hp)
theorem zjr {t from_ step : Int} (hs : 1 ≤ step) (h : ¬ t < from_) : 0 ≤ (t - from_) / step := Int.ediv_nonneg zq8 zq8
theorem znL {t from_ step : Int} (_hs : 1 ≤ step) (h : ¬ t < from_) : (t - from_) / step ≤ t - from_ := Int.ediv_le_self _ zq8
theorem znO (l : List S70) (hl : l.length ≤ 1152921504606846976) (from_ step : Int) (n : Nat) (hs : 1 ≤ step) (hf : -9007199254740992 ≤ from_ ∧ from_ ≤ 9007199254740992) (ht : zhs l) (d : Nat) :
  ∀ (i : Nat) (out : List Int), i + d = l.length → out.length = n → Ev (fun k => zaN.l1 k from_ step (n : Int) out l (l.length : Int) (i : Int)) (plc l from_ step n i d out) := by
 induction d with
 | zero =>
  intro i out hi ho; refine Ev.step (f := fun _ => some out) (fun k => ?_) (Ev.now _); simp only [zaN.l1]; rw [if_neg zq8]
 | succ d ih =>
  intro i out hi ho; refine Ev.step (f := fun k => zaN.l1 k from_ step (n : Int) (stp l from_ step n out i) l (l.length : Int) ((i + 1 : Nat) : Int)) (fun k => ?_) ?_
  · simp only [zaN.l1]; have e : wrap64 ((i : Int) + 1) = ((i + 1 : Nat) : Int) := by rw [zaI zq8 zq8]; omega
    obtain ⟨t0, t1⟩ := ht i zq8; rw [if_pos zq8, if_pos zq8, if_pos zq8, zlw, e]; show (if tm l i < from_ then _ else _) = _
    unfold stp; by_cases h1 : tm l i < from_
    · rw [if_pos h1, if_pos h1]
    rw [if_neg h1, if_neg h1, if_neg zq8]; have e1 : wrap64 ((l.getD i z70).f0 - from_) = tm l i - from_ := zaI (by unfold tm at *; omega) (by unfold tm at *; omega); have q0 := zjr hs h1; have q1 := znL hs h1; have e2 : wrap64 ((tm l i - from_).tdiv step) = (tm l i - from_) / step := by
     rw [Int.tdiv_eq_ediv_of_nonneg zq8]; exact zaI zq8 zq8
    rw [e1, e2]; by_cases h2 : (tm l i - from_) / step < n
    · rw [if_pos h2, if_pos h2, if_pos q0, if_pos zq8]
    rw [if_neg h2, if_neg h2]
  · exact ih (i + 1) _ zq8 (by rw [zgb]; exact ho)
def none_ (n : Nat) : List Int := List.replicate n (-1)
theorem zpT (i d : Nat) : (List.replicate i (-1 : Int) ++ List.replicate (d + 1) 0).set i (-1) = List.replicate (i + 1) (-1) ++ List.replicate d 0 := by
 rw [List.set_append_right _ _ (by simp), List.replicate_succ (n := d), List.replicate_succ' (n := i)]; simp
theorem znP (l : List S70) (from_ step : Int) (n : Nat) (hn : n ≤ 10000) (r : List Int) (h : Ev (fun k => zaN.l1 k from_ step (n : Int) (none_ n) l (l.length : Int) 0) r) (d : Nat) :
  ∀ i : Nat, i + d = n → Ev (fun k => zaN.l0 k l from_ step (n : Int) (List.replicate i (-1) ++ List.replicate d 0) (n : Int) (i : Int)) r := by
 induction d with
 | zero =>
  intro i hi; refine Ev.step (f := fun k => zaN.l1 k from_ step (n : Int) (none_ n) l (l.length : Int) 0) (fun k => ?_) h; simp only [zaN.l0]; rw [if_neg zq8]; obtain rfl : i = n := by omega
  simp [none_]
 | succ d ih =>
  intro i hi; refine Ev.step (f := fun k => zaN.l0 k l from_ step (n : Int) (List.replicate (i + 1) (-1) ++ List.replicate d 0) (n : Int) ((i + 1 : Nat) : Int)) (fun k => ?_) (ih (i + 1) zq8); simp only [zaN.l0]; have e : wrap64 ((i : Int) + 1) = ((i + 1 : Nat) : Int) := by rw [zaI zq8 zq8]; omega
  rw [if_pos zq8, if_pos zq8, if_pos zeG, e]; have e2 : (i : Int).toNat = i := by omega
  rw [e2, zpT]
def plS (l : List S70) (from_ step : Int) (n : Nat) : List Int := plc l from_ step n 0 l.length (none_ n)
theorem zgd (l : List S70) (from_ step : Int) (n : Nat) : (plS l from_ step n).length = n := by unfold plS; rw [znk]; simp [none_]
theorem zku (l : List S70) (hl : l.length ≤ 1152921504606846976) (from_ step : Int) (n : Nat) (hn : n ≤ 10000) (hs : 1 ≤ step) (hf : -9007199254740992 ≤ from_ ∧ from_ ≤ 9007199254740992) (ht : zhs l) :
  Ev (fun k => zaN.f k l from_ step (n : Int)) (plS l from_ step n) := by
 have h1 := znO l hl from_ step n hs hf ht l.length 0 (none_ n) zq8 (by simp [none_]); have h2 := znP l from_ step n hn _ h1 n 0 zq8; refine Ev.eq ?_ h2
 funext k
 unfold zaN.f; rw [if_pos zq8, if_pos zq8]; simp
def znn (l : List S70) (at_ : List Int) : Prop := ∀ j, j < at_.length → at_.getD j 0 < l.length ∧ -1 ≤ at_.getD j 0
theorem znQ (l : List S70) (from_ step : Int) (n : Nat) (_hs : 1 ≤ step) : znn l (plS l from_ step n) := by
 refine zqa l from_ step n (fun _ out => ∀ j, j < out.length → out.getD j 0 < l.length ∧ -1 ≤ out.getD j 0) ?_ l.length 0 _ zq8 ?_
 · intro i out hi h j hj; rw [zgb] at hj; unfold stp; by_cases h1 : tm l i < from_
   · rw [if_pos h1]; exact h j hj
   rw [if_neg h1]; by_cases h2 : (tm l i - from_) / step < n; rotate_left
   · rw [if_neg h2]; exact h j hj
   rw [if_pos h2]; by_cases h3 : ((tm l i - from_) / step).toNat < out.length
   · rw [zhF _ _ _ _ _ h3]; split
     · omega
     · exact h j hj
   · rw [List.set_eq_of_length_le zq8]; exact h j hj
 · intro j hj; have : (none_ n).getD j 0 = -1 := zkm n (-1) j (by simpa [none_] using hj); rw [this]; omega
def fst (at_ : List Int) : Nat → Nat → Int
 | _, 0 => -1
 | i, d + 1 => if at_.getD i 0 ≥ 0 then at_.getD i 0 else fst at_ (i + 1) d
def pv (l : List S70) (e : Int) : Int := (zaE l e).f1
def fl (l : List S70) (at_ : List Int) (v0 : Int) : Nat → Int
 | 0 => if at_.getD 0 0 ≥ 0 then pv l (at_.getD 0 0) else v0
 | j + 1 => if at_.getD (j + 1) 0 ≥ 0 then pv l (at_.getD (j + 1) 0) else fl l at_ v0 j
def flv (l : List S70) (at_ : List Int) (v0 : Int) (i : Nat) : Int := if i = 0 then v0 else fl l at_ v0 (i - 1)
theorem zhk (l : List S70) (at_ : List Int) (v0 : Int) (i : Nat) : fl l at_ v0 i = if at_.getD i 0 ≥ 0 then pv l (at_.getD i 0) else flv l at_ v0 i := by
 cases i with
 | zero => simp [fl, flv]
 | succ i => simp [fl, flv]
def zdu (l : List S70) (at_ : List Int) (v0 : Int) (n : Nat) : List Int := (List.range n).map (fl l at_ v0)
theorem zqn (l : List S70) (_hl : l.length ≤ 1152921504606846976) (at_ : List Int) (n : Nat) (hn : n ≤ 10000) (ha : at_.length = n) (hk : znn l at_) (v0 : Int) (d : Nat) :
  ∀ (i : Nat) (out : List Int), i + d = n → out.length = n → (∀ j, j < i → out.getD j 0 = fl l at_ v0 j) → Ev (fun k => zaH.l1 k l at_ out (flv l at_ v0 i) (n : Int) (i : Int)) (zdu l at_ v0 n, 0) := by
 induction d with
 | zero =>
  intro i out hi ho hp; refine Ev.step (f := fun _ => some (out, 0)) (fun k => ?_) ?_
  · simp only [zaH.l1]; rw [if_neg zq8]
  · have : out = zdu l at_ v0 n := by
     refine zlM (by simp [zdu, ho]) (fun j hj => ?_); rw [hp j zq8, zdu, zjD _ _ _ zq8]
    rw [this]; exact Ev.now _
 | succ d ih =>
  intro i out hi ho hp; have e : wrap64 ((i : Int) + 1) = ((i + 1 : Nat) : Int) := by rw [zaI zq8 zq8]; omega
  have hst := zhk l at_ v0 i; have next : ∀ v, v = fl l at_ v0 i → Ev (fun k => zaH.l1 k l at_ (out.set i v) v (n : Int) ((i + 1 : Nat) : Int)) (zdu l at_ v0 n, 0) := by
   intro v hv; have := ih (i + 1) (out.set i v) zq8 (by simpa using ho) (fun j hj => by
    rw [zhF _ _ _ _ _ zq8]; split
    · rename_i h; subst h; exact hv
    · exact hp j zq8)
   have e3 : flv l at_ v0 (i + 1) = v := by rw [hv]; simp [flv]
   rw [e3] at this; exact this
  refine Ev.step (f := fun k => zaH.l1 k l at_ (out.set i (fl l at_ v0 i)) (fl l at_ v0 i) (n : Int) ((i + 1 : Nat) : Int)) (fun k => ?_) (next _ rfl); simp only [zaH.l1]; rw [if_pos zq8, if_pos zq8, if_pos zq8, zek, e]; obtain ⟨k1, k2⟩ := hk i zq8; have e2 : (i : Int).toNat = i := by omega
  rw [e2]; by_cases h1 : at_.getD i 0 ≥ 0
  · rw [if_pos h1] at hst; rw [if_pos h1, if_pos h1, if_pos k1, if_pos zq8, hst]; rfl
  · rw [if_neg h1] at hst; rw [if_neg h1, if_pos zq8, hst]
theorem zks (l : List S70) (hl : l.length ≤ 1152921504606846976) (at_ : List Int) (n : Nat) (hn : n ≤ 10000) (ha : at_.length = n) (hk : znn l at_) (e : Int) (he : e < l.length) :
  Ev (fun k => zaH.j1 k l (n : Int) at_ e) (if e < 0 then ([], 0) else (zdu l at_ (pv l e) n, 0)) := by
 by_cases h : e < 0
 · rw [if_pos h]; refine Ev.step (f := fun _ => some ([], 0)) (fun k => ?_) (Ev.now _); simp only [zaH.j1]; rw [if_pos h]
 rw [if_neg h]; have := zqn l hl at_ n hn ha hk (pv l e) n 0 (List.replicate n 0) zq8 (by simp) (fun j hj => by omega); refine Ev.step (f := fun k => zaH.l1 k l at_ (List.replicate n 0) (pv l e) (n : Int) 0) (fun k => ?_) this; simp only [zaH.j1]; rw [if_neg h, if_pos zq8, if_pos zq8, if_pos zq8, if_pos he]; have e2 : (n : Int).toNat = n := by omega
 rw [e2]; rfl
theorem zmE {at_ : List Int} {i d : Nat} (h : at_.getD i 0 ≥ 0) : fst at_ i (d + 1) = at_.getD i 0 := by simp only [fst]; rw [if_pos h]
theorem zog {at_ : List Int} {i d : Nat} (h : ¬ at_.getD i 0 ≥ 0) : fst at_ i (d + 1) = fst at_ (i + 1) d := by simp only [fst]; rw [if_neg h]
theorem znN (l : List S70) (hl : l.length ≤ 1152921504606846976) (at_ : List Int) (n : Nat) (hn : n ≤ 10000) (ha : at_.length = n) (hk : znn l at_) (d : Nat) :
  ∀ i : Nat, i + d = n → Ev (fun k => zaH.l0 k l (n : Int) at_ (-1) at_ (n : Int) (i : Int)) (if fst at_ i d < 0 then ([], 0) else (zdu l at_ (pv l (fst at_ i d)) n, 0)) := by
 induction d with
 | zero =>
  intro i hi; refine Ev.step (f := fun k => zaH.j1 k l (n : Int) at_ (-1)) (fun k => ?_) ?_
  · simp only [zaH.l0]; rw [if_neg zq8]
  · have := zks l hl at_ n hn ha hk (-1) zq8; simpa [fst] using this
 | succ d ih =>
  intro i hi; have e : wrap64 ((i : Int) + 1) = ((i + 1 : Nat) : Int) := by rw [zaI zq8 zq8]; omega
  by_cases h1 : at_.getD i 0 ≥ 0; rotate_left
  · refine Ev.step (f := fun k => zaH.l0 k l (n : Int) at_ (-1) at_ (n : Int) ((i + 1 : Nat) : Int)) (fun k => ?_) ?_
    · simp only [zaH.l0]; rw [if_pos zq8, if_pos zq8, if_pos zq8, zek, if_neg h1, e]
    · rw [zog h1]; exact ih (i + 1) zq8
  refine Ev.step (f := fun k => zaH.j1 k l (n : Int) at_ (at_.getD i 0)) (fun k => ?_) ?_
  · simp only [zaH.l0]; rw [if_pos zq8, if_pos zq8, if_pos zq8, zek, if_pos h1]
  · have := zks l hl at_ n hn ha hk (at_.getD i 0) (hk i zq8).1; rw [zmE h1]; exact this
def ptS (l : List S70) (at_ : List Int) : List Int := if fst at_ 0 at_.length < 0 then [] else zdu l at_ (pv l (fst at_ 0 at_.length)) at_.length
def cnt (at_ : List Int) : Nat → Nat → Int
 | _, 0 => 0
 | i, d + 1 => (if at_.getD i 0 < 0 then 1 else 0) + cnt at_ (i + 1) d
theorem zqm (at_ : List Int) (n : Nat) (hn : n ≤ 10000) (ha : at_.length = n) (d : Nat) :
  ∀ (i : Nat) (g : Int), i + d = n → 0 ≤ g → g ≤ i → Ev (fun k => zbj.l0 k g at_ (n : Int) (i : Int)) (g + cnt at_ i d, 0) := by
 induction d with
 | zero =>
  intro i g hi h0 h1; refine Ev.step (f := fun _ => some (g + cnt at_ i 0, 0)) (fun k => ?_) (Ev.now _); simp only [zbj.l0]; rw [if_neg zq8]; simp [cnt]
 | succ d ih =>
  intro i g hi h0 h1; have e : wrap64 ((i : Int) + 1) = ((i + 1 : Nat) : Int) := by rw [zaI zq8 zq8]; omega
  by_cases h : at_.getD i 0 < 0; rotate_left
  · refine Ev.step (f := fun k => zbj.l0 k g at_ (n : Int) ((i + 1 : Nat) : Int)) (fun k => ?_) ?_
    · simp only [zbj.l0]; rw [if_pos zq8, if_pos zq8, if_pos zq8, zek, if_neg h, e]
    · have := ih (i + 1) g zq8 h0 zq8; simp only [cnt]; rw [if_neg h, Int.zero_add]; exact this
  refine Ev.step (f := fun k => zbj.l0 k (wrap64 (g + 1)) at_ (n : Int) ((i + 1 : Nat) : Int)) (fun k => ?_) ?_
  · simp only [zbj.l0]; rw [if_pos zq8, if_pos zq8, if_pos zq8, zek, if_pos h, e]
  · rw [zaI zq8 zq8]; have := ih (i + 1) (g + 1) zq8 zq8 zq8; simp only [cnt]; rw [if_pos h, ← Int.add_assoc]; exact this
theorem zgc (l : List S70) (hl : l.length ≤ 1152921504606846976) (from_ step n : Int) (h : askS l from_ step n ≠ 0) : Ev (fun k => zaH.f k l from_ step n) ([], askS l from_ step n) := by
 unfold zaH.f; refine Ev.bind (zjK l hl from_ step n) ?_; simp only [if_neg h]; exact Ev.now _
theorem zhG (l : List S70) (hl : l.length ≤ 1152921504606846976) (from_ step n : Int) (h : askS l from_ step n ≠ 0) : Ev (fun k => zbj.f k l from_ step n) (0, askS l from_ step n) := by
 unfold zbj.f; refine Ev.bind (zjK l hl from_ step n) ?_; simp only [if_neg h]; exact Ev.now _
theorem zhm {l : List S70} {from_ step n : Int} (h : askS l from_ step n = 0) : zgj from_ step n = true ∧ ris l 0 l.length = true := by
 unfold askS at h; split at h
 · rename_i h1
   refine ⟨h1, ?_⟩; split at h
   · assumption
   · omega
 · omega
theorem zgG {from_ step n : Int} (h : zgj from_ step n = true) : 1 ≤ step ∧ step ≤ 9007199254740992 ∧ 0 ≤ n ∧ n ≤ 10000 ∧ -9007199254740992 ≤ from_ ∧ from_ ≤ 9007199254740992 := by
 unfold zgj at h; simp only [Bool.and_eq_true, decide_eq_true_eq] at h; omega
theorem zgX (l : List S70) (hl : l.length ≤ 1152921504606846976) (from_ step : Int) (n : Nat) (h : askS l from_ step n = 0) : Ev (fun k => zaH.f k l from_ step n) (ptS l (plS l from_ step n), 0) := by
 obtain ⟨h1, h2⟩ := zhm h; obtain ⟨a1, a2, a3, a4, a5, a6⟩ := zgG h1; unfold zaH.f; refine Ev.bind (h ▸ zjK l hl from_ step n) ?_; simp only [if_true]; refine Ev.bind (zku l hl from_ step n zq8 a1 ⟨a5, a6⟩ (zgU l h2)) ?_; have hlen := zgd l from_ step n; have := znN l hl (plS l from_ step n) n zq8 hlen (znQ l from_ step n a1) n 0 zq8; simp only [hlen]; unfold ptS; rw [hlen]; have e : (if fst (plS l from_ step n) 0 n < 0 then (([], 0) : List Int × Int) else (zdu l (plS l from_ step n) (pv l (fst (plS l from_ step n) 0 n)) n, 0)) = (if fst (plS l from_ step n) 0 n < 0 then [] else zdu l (plS l from_ step n) (pv l (fst (plS l from_ step n) 0 n)) n, 0) := by split <;> rfl
 rw [← e]; exact this
theorem zip (l : List S70) (hl : l.length ≤ 1152921504606846976) (from_ step : Int) (n : Nat) (h : askS l from_ step n = 0) : Ev (fun k => zbj.f k l from_ step n) (cnt (plS l from_ step n) 0 n, 0) := by
 obtain ⟨h1, h2⟩ := zhm h; obtain ⟨a1, a2, a3, a4, a5, a6⟩ := zgG h1; unfold zbj.f; refine Ev.bind (h ▸ zjK l hl from_ step n) ?_; simp only [if_true]; refine Ev.bind (zku l hl from_ step n zq8 a1 ⟨a5, a6⟩ (zgU l h2)) ?_; have hlen := zgd l from_ step n; have := zqm (plS l from_ step n) n zq8 hlen n 0 0 zq8 zq8 zq8; simp only [hlen]; rw [Int.zero_add] at this; exact this
end Go.Proofs.Ytemnfnbjapobcaa.RS
end
section
namespace Go.Proofs.Ytemnfnbjapobcaa.PS
open Go.Proofs.Ytemnfnbjapobcaa.Pr Go.Proofs.Ytemnfnbjapobcaa.RS
def zce (l : List S70) (from_ step n : Int) : List Int × Int := if askS l from_ step n = 0 then (ptS l (plS l from_ step n.toNat), 0) else ([], askS l from_ step n)
def zeV (l : List S70) (from_ step n : Int) : Int × Int := if askS l from_ step n = 0 then (cnt (plS l from_ step n.toNat) 0 n.toNat, 0) else (0, askS l from_ step n)
def zck : List S70 → Int → Nat
 | [], _ => 0
 | x :: l, now => if x.f0 ≤ now then zck l now + 1 else 0
theorem zhr : ∀ (l : List S70) (now : Int), zck l now ≤ l.length
 | [], _ => Nat.le_refl _
 | x :: l, now => by
  have := zhr l now; unfold zck; split <;> simp <;> omega
theorem zia : ∀ (l : List S70) (now : Int) (i : Nat), i < zck l now → (l.getD i z70).f0 ≤ now
 | [], _, i, h => absurd h (Nat.not_lt_zero _)
 | x :: l, now, i, h => by
  unfold zck at h; by_cases c : x.f0 ≤ now
  · rw [if_pos c] at h
    cases i with
    | zero => exact c
    | succ i => exact zia l now i zq8
  · rw [if_neg c] at h; omega
theorem zhq : ∀ (l : List S70) (now : Int), zck l now < l.length → ¬ (l.getD (zck l now) z70).f0 ≤ now
 | [], _, h => absurd h (Nat.not_lt_zero _)
 | x :: l, now, h => by
  by_cases c : x.f0 ≤ now
  · have e : zck (x :: l) now = zck l now + 1 := by rw [zck, if_pos c]
    rw [e] at h ⊢; exact zhq l now (by simpa using h)
  have e : zck (x :: l) now = 0 := by rw [zck, if_neg c]
  rw [e]; exact c
def sIn (l : List S70) : Prop := ∀ x ∈ l, FS.In x.f0 ∧ FS.In x.f1
theorem znr {l : List S70} (h : sIn l) (at_ : List Int) {v0 : Int} (h0 : FS.In v0) : ∀ i, FS.In (fl l at_ v0 i)
 | 0 => by
  rw [zhk]; split
  · exact pv_in _
  · exact h0
 | i + 1 => by
  rw [zhk]; split
  · exact pv_in _
  · exact znr h at_ h0 i
where
 pv_in (e : Int) : FS.In (pv l e) := by
  unfold pv zaE; rw [List.getD_eq_getElem?_getD]
  cases he : l[e.toNat]? with
  | none => exact ⟨zaR, zaR⟩
  | some x => exact (h x (List.mem_of_getElem? he)).2
theorem zrl {l : List S70} (h : sIn l) (at_ : List Int) : HS.AllIn (ptS l at_) := by
 unfold ptS; split
 · intro x hx; cases hx
 · intro x hx; unfold zdu at hx; obtain ⟨i, _, rfl⟩ := List.mem_map.mp hx; exact znr h at_ (znr.pv_in h _) i
theorem zkt {l : List S70} (h : sIn l) (from_ step n : Int) : HS.AllIn (zce l from_ step n).1 := by
 unfold zce; split
 · exact zrl h _
 · intro x hx; cases hx
theorem zju (l : List S70) (from_ step n : Int) (hn : n ≤ 10000) : (zce l from_ step n).1.length ≤ 10000 := by
 unfold zce; split
 · show (ptS l (plS l from_ step n.toNat)).length ≤ 10000
   unfold ptS; split
   · exact Nat.zero_le _
   · unfold zdu; rw [List.length_map, List.length_range, zgd]; omega
 · exact Nat.zero_le _
end Go.Proofs.Ytemnfnbjapobcaa.PS
namespace Go.Proofs.Ytemnfnbjapobcaa.Ho
open Go.RowKit Go.Proofs.ZW.PrintWords Go.Proofs.ZW.PrintLast Go.Proofs.ZW.PrintMore
open Go.Proofs.Ytemnfnbjapobcaa.FS Go.Proofs.Ytemnfnbjapobcaa.HS Go.Proofs.Ytemnfnbjapobcaa.FM Go.Proofs.Ytemnfnbjapobcaa.PS Go.Proofs.Ytemnfnbjapobcaa.Pr
theorem zgy (p : Pol) (load : Int) (hl : FS.In load) (hp : FS.In p.per) (w : World) :
  Calls Try.prog 53 #[zdI p, .int .i64 load] w fun e w' => e = .returned (.int .i64 (floorP p load)) ∧ Below w.heap.size w w' := by
 obtain ⟨mn, mx, per, stale, step, ahead, cool, season⟩ := p; refine Pr.zbD.calls mn mx per stale step ahead cool season load _ w ?_; unfold Pr.zbD.f Pr.zcU.f floorP checkP; rw [Option.bind_some]; by_cases h : okP ⟨mn, mx, per, stale, step, ahead, cool, season⟩; rotate_left
 · rw [if_neg h, if_neg h, if_neg zaR]
 rw [if_pos h, if_pos h, if_pos rfl]; have e1 : Pr.zbV.f load per = some (cdivS load per) := if_pos (by simp [zbO.mpr hl, zbO.mpr hp]); have e2 : Pr.zcp.f (cdivS load per) = some (-(-(cdivS load per) / 4294967296)) := if_pos (zbO.mpr (zlJ _ _)); rw [e1, Option.bind_some, e2, Option.bind_some]; unfold Pr.zcj.f zcV; split
 · rfl
 · split <;> rfl
theorem zly (A : Option Addr) (c : Nat) (l : List S70) (from_ step n : Int) (w : World) (hr : Kd.C k70 w A l.length l) (hc : l.length ≤ c) (hl : l.length ≤ 1152921504606846976) :
  Calls Try.prog 139 #[.slice A l.length c, .int .i64 from_, .int .i64 step, .int .i64 n] w fun e w' => ∃ v0_ : Value, e = .returned (.tuple #[v0_, .int .i64 (zce l from_ step n).2]) ∧ Kd.R (Kd.int .i64) 3 w' w.heap.size (fun _ => True) v0_ (zce l from_ step n).1 ∧ Below w.heap.size w w' := by
 obtain ⟨k, h⟩ : ∃ k, Pr.zaH.f k l from_ step n = some (zce l from_ step n) := by
  unfold zce; by_cases h : RS.askS l from_ step n = 0
  · rw [if_pos h]; obtain ⟨_, _, h0, _⟩ := RS.zgG (RS.zhm h).1; obtain ⟨N, rfl⟩ := Int.eq_ofNat_of_zero_le h0; exact (RS.zgX l hl from_ step N h).rounds
  · rw [if_neg h]; exact (RS.zgc l hl from_ step n h).rounds
 exact Pr.zaH.calls k A c l from_ step n _ _ w hr hc h
theorem znq (A : Option Addr) (c : Nat) (l : List S70) (from_ step n : Int) (w : World) (hr : Kd.C k70 w A l.length l) (hc : l.length ≤ c) (hl : l.length ≤ 1152921504606846976) :
  Calls Try.prog 140 #[.slice A l.length c, .int .i64 from_, .int .i64 step, .int .i64 n] w fun e w' => e = .returned (.tuple #[.int .i64 (zeV l from_ step n).1, .int .i64 (zeV l from_ step n).2]) ∧ Below w.heap.size w w' := by
 obtain ⟨k, h⟩ : ∃ k, Pr.zbj.f k l from_ step n = some (zeV l from_ step n) := by
  unfold zeV; by_cases h : RS.askS l from_ step n = 0
  · rw [if_pos h]; obtain ⟨_, _, h0, _⟩ := RS.zgG (RS.zhm h).1; obtain ⟨N, rfl⟩ := Int.eq_ofNat_of_zero_le h0; exact (RS.zip l hl from_ step N h).rounds
  · rw [if_neg h]; exact (RS.zhG l hl from_ step n h).rounds
 exact Pr.zbj.calls k A c l from_ step n _ _ w hr hc h
theorem zlt (A : Option Addr) (c : Nat) (l : List S70) (w : World) (hr : Kd.C k70 w A l.length l) (hc : l.length ≤ c) (hl : l.length ≤ 1152921504606846976) :
  Calls Try.prog 82 #[.slice A l.length c] w fun e w' => e = .returned (.int .i64 (if RS.ris l 0 l.length then 0 else 21)) ∧ Below w.heap.size w w' := by
 obtain ⟨k, h⟩ := (RS.zkq l hl).rounds; exact Pr.zbi.calls k A c l _ w hr hc h
def timedB (now : Int) : Bool := decide (-4503599627370496 ≤ now) && decide (now ≤ 4503599627370496)
theorem zlx (now : Int) (w : World) : Calls Try.prog 81 #[.int .i64 now] w fun e w' => e = .returned (.bool (timedB now)) ∧ Drawn0 w w' := by
 refine Pr.zfn.calls now _ w ?_; unfold Pr.zfn.f timedB; by_cases h : now ≥ -4503599627370496
 · rw [if_pos h, zdt h, Bool.true_and]
 rw [if_neg h, zdf h, Bool.false_and]
theorem zez (l : List S70) (i : Nat) : zaE l (i : Int) = l.getD i z70 := rfl
theorem zlV (A : Option Addr) (c : Nat) (l : List S70) (now : Int) (w : World) (hr : Kd.C k70 w A l.length l) (hc : l.length ≤ c) (hl : l.length ≤ 1152921504606846976) :
  Calls Try.prog 83 #[.slice A l.length c, .int .i64 now] w fun e w' => e = .returned (.slice A (zck l now) (zck l now)) ∧ Drawn0 w w' := by
 have HR := zaa.mk hr; clear hr; have hle := zhr l now; have hget := zaa.mk (zia l now); have hstop := zaa.mk (zhq l now); obtain ⟨u, hu⟩ : ∃ u, zck l now = u := ⟨_, rfl⟩
 rw [hu] at hle hget hstop ⊢; clear hu; go_enter Try.func83, Try.ntmps83
 go_wp2; go_loopg [5] (l.length + 1) (fun kq v5 W' => ∃ i : Nat, v5 = .int .i64 (i : Int) ∧ zaa (kq + i = l.length + 1 ∧ i ≤ u) ∧ W' = w)
 case atStart => exact ⟨0, rfl, ⟨rfl, Nat.zero_le _⟩, rfl⟩
 case round =>
  obtain ⟨i, rfl, HK, rfl⟩ := hrel; by_cases c1 : i < u
  · have c2 : decide ((i : Int) < (l.length : Int)) = true := zdt zq8; obtain ⟨ad, e, r0, _⟩ := zcd HR.out (i : Int) zq8 zq8
    cases e; have g := hget.out i c1; rw [zez, Int.toNat_natCast] at r0; obtain ⟨x, hx⟩ : ∃ x, (l.getD i z70).f0 = x := ⟨_, rfl⟩
    rw [hx] at r0 g; have c3 : decide (x ≤ now) = true := zdt g; have c4 : i < l.length := by omega
    have c5 : wrap64 ((i : Int) + 1) = (i : Int) + 1 := zaI zq8 zq8; clear hx g
    cases gk with
    | zero => exact absurd HK.out zq8
    | succ k1 =>
     go_wp2; go_roundg k1
     case measure => omega
     case rel => exact ⟨i + 1, zbR, ⟨zdh, zq8⟩, rfl⟩
  obtain ⟨h1, h2⟩ := HK.out; obtain rfl : i = u := by omega
  have stop := hstop.out; by_cases c2 : i < l.length; rotate_left
  · have c3 : decide ((i : Int) < (l.length : Int)) = false := zdf zq8; clear stop h1 h2 c1; have c6 : i ≤ c := by omega
    go_wp2; go_ret; exact ⟨rfl, Drawn0.refl _⟩
  have c3 : decide ((i : Int) < (l.length : Int)) = true := zdt zq8; obtain ⟨ad, e, r0, _⟩ := zcd HR.out (i : Int) zq8 zq8
  cases e; have g := stop c2; rw [zez, Int.toNat_natCast] at r0; obtain ⟨x, hx⟩ : ∃ x, (l.getD i z70).f0 = x := ⟨_, rfl⟩
  rw [hx] at r0 g; have c4 : decide (x ≤ now) = false := zdf zq8; clear hx g stop h1 h2 c1; have c6 : i ≤ c := by omega
  go_wp2; go_ret; exact ⟨rfl, Drawn0.refl _⟩
end Go.Proofs.Ytemnfnbjapobcaa.Ho
end
section
namespace Go.Proofs.Ytemnfnbjapobcaa.PS
open Go.Proofs.Ytemnfnbjapobcaa.Pr Go.Proofs.Ytemnfnbjapobcaa.RS Go.Proofs.Ytemnfnbjapobcaa.HS
def zdz (l : List S70) : S70 := l.getD (l.length - 1) z70
def zeM (d : Dr) (l : List S70) : Int := if 0 < l.length ∧ d.now - d.p.stale < (zdz l).f0 then floorP d.p (zdz l).f1 else if d.some then d.prev.rep else d.p.mn
def zfu (d : Dr) (l : List S70) : List Int × Int := zce l (d.now + 1 - 4 * d.p.season * d.p.step) d.p.step (4 * d.p.season)
def zio (d : Dr) (l : List S70) : Int × Int := zeV l (d.now + 1 - 4 * d.p.season * d.p.step) d.p.step (4 * d.p.season)
def zge (d : Dr) (l : List S70) : Int × Int := zde (zfu d l).1 d.p.season d.p.ahead
def zfA (d : Dr) (l : List S70) : Int :=
 if 4503599627370496 / (4 * d.p.season) < d.p.step then 0
 else if (zfu d l).2 ≠ 0 then 0
 else if (zfu d l).1.length = 0 then 0
 else if (zio d l).2 ≠ 0 then 0
 else if 4 * d.p.season / 2 < (zio d l).1 then 0
 else if (zge d l).2 ≠ 0 then 0
 else floorP d.p (zge d l).1
end Go.Proofs.Ytemnfnbjapobcaa.PS
namespace Go.Proofs.Ytemnfnbjapobcaa.Ho
open Go.RowKit Go.Proofs.ZW.PrintWords Go.Proofs.ZW.PrintLast Go.Proofs.ZW.PrintMore
open Go.Proofs.Ytemnfnbjapobcaa.FS Go.Proofs.Ytemnfnbjapobcaa.HS Go.Proofs.Ytemnfnbjapobcaa.FM Go.Proofs.Ytemnfnbjapobcaa.PS Go.Proofs.Ytemnfnbjapobcaa.Pr
theorem zlN (b : Nat) (d : Dr) (A : Option Addr) (c : Nat) (l : List S70) (w : World) (h : zbY w b d A l.length c) (hr : Kd.C k70 w A l.length l) (hc : l.length ≤ c) (hs : sIn l) (hp : okP d.p) (hper : FS.In d.p.per) (hn0 : -4503599627370496 ≤ d.now) (hn1 : d.now ≤ 4503599627370496) (hl : l.length ≤ 1152921504606846976) :
  Calls Try.prog 118 #[.pointer (some ⟨b, 0, none⟩)] w fun e w' => e = .returned (.int .i64 (zeM d l)) ∧ Below w.heap.size w w' := by
 have d0 := h.at 0 (.int .i64 d.p.mn) rfl; have d1 := h.at 1 (.int .i64 d.p.mx) rfl; have d2 := h.at 2 (.int .i64 d.p.per) rfl; have d3 := h.at 3 (.int .i64 d.p.stale) rfl; have d4 := h.at 4 (.int .i64 d.p.step) rfl; have d5 := h.at 5 (.int .i64 d.p.ahead) rfl; have d6 := h.at 6 (.int .i64 d.p.cool) rfl; have d7 := h.at 7 (.int .i64 d.p.season) rfl; have d8 := h.at 8 (.int .i64 d.now) rfl; have d11 := h.at 11 (.int .i64 d.prev.t) rfl; have d12 := h.at 12 (.int .i64 d.prev.rep) rfl; have d9 := h.at 9 (.slice A l.length c) rfl; have KS := zaa.mk (fun W (h : zbY W b d A l.length c) => zjk b d A l.length c W h); have HD := zaa.mk h; have HR := zaa.mk hr; clear h hr; obtain ⟨f, hf⟩ : ∃ f, zeM d l = f := ⟨_, rfl⟩
 rw [hf]; unfold zeM at hf; by_cases c0 : 0 < l.length; rotate_left
 · have e3 : decide ((0 : Int) < (l.length : Int)) = false := zdf zq8; have e3' : decide (0 < l.length) = false := zdf c0; have cf : ¬ (0 < l.length ∧ d.now - d.p.stale < (zdz l).f0) := fun h => c0 h.1
   have e4 : l.length = 0 := by omega
   by_cases g : d.some
   · rw [if_neg cf, if_pos g] at hf; have KS1 : zaa (∀ W, zbY W b d A l.length c → Calls Try.prog 121 #[.pointer (some ⟨b, 0, none⟩)] W fun e w' => e = .returned (.bool true) ∧ Drawn0 W w') := ⟨fun W h => by
      have := KS.out W h; rwa [zdt g] at this⟩
     obtain ⟨⟨mn, mx, per, stale, step, ahead, cool, season⟩, now, plan, ⟨pt, pr, pf, pp, pc⟩, changed⟩ := d; dsimp only [okP] at d0 d1 d2 d3 d4 d5 d6 d7 d8 d11 d12 hp hper hn0 hn1; dsimp only at hf; subst hf; clear cf c0 g KS hp hper hn0 hn1; go_enter Try.func118, Try.ntmps118
     go_wp2; go_quiet (fail)
     go_wp2_with (go_at_call 121; (with_reducible refine (KS1.out _ (HD.out.below (zaj (Below.refl _ _) _))).mono ?_); rintro e w' ⟨rfl, ⟨nd, rfl⟩⟩)
     go_ret; first | exact ⟨rfl, zaj (Below.refl _ _) _⟩ | exact ⟨rfl, zaj (zaj (Below.refl _ _) _) _⟩ | exact ⟨rfl, zaj (zaj (zaU (Below.refl _ _)) _) _⟩
   rw [if_neg cf, if_neg g] at hf; have KS1 : zaa (∀ W, zbY W b d A l.length c → Calls Try.prog 121 #[.pointer (some ⟨b, 0, none⟩)] W fun e w' => e = .returned (.bool false) ∧ Drawn0 W w') := ⟨fun W h => by
    have := KS.out W h; rwa [zdf g] at this⟩
   obtain ⟨⟨mn, mx, per, stale, step, ahead, cool, season⟩, now, plan, ⟨pt, pr, pf, pp, pc⟩, changed⟩ := d; dsimp only [okP] at d0 d1 d2 d3 d4 d5 d6 d7 d8 d11 d12 hp hper hn0 hn1; dsimp only at hf; subst hf; clear cf c0 g KS hp hper hn0 hn1; go_enter Try.func118, Try.ntmps118
   go_wp2; go_quiet (fail)
   go_wp2_with (go_at_call 121; (with_reducible refine (KS1.out _ (HD.out.below (zaj (Below.refl _ _) _))).mono ?_); rintro e w' ⟨rfl, ⟨nd, rfl⟩⟩)
   go_ret; first | exact ⟨rfl, zaj (Below.refl _ _) _⟩ | exact ⟨rfl, zaj (zaj (Below.refl _ _) _) _⟩ | exact ⟨rfl, zaj (zaj (zaU (Below.refl _ _)) _) _⟩
 obtain ⟨m, hm⟩ : ∃ m, l.length = m + 1 := ⟨l.length - 1, zq8⟩
 have e1 : wrap64 ((l.length : Int) - 1) = (m : Int) := by rw [zaI zq8 zq8]; omega
 have e1' : IntKind.i64.wrap ((l.length : Int) - 1) = (m : Int) := (zaF _).trans e1; have e2 : (l.length : Int) - 1 = (m : Int) := by omega
 have e3 : decide ((0 : Int) < (l.length : Int)) = true := zdt zq8; have e3' : decide (0 < l.length) = true := zdt c0; have e4 : m < l.length := by omega
 obtain ⟨ad, ee, r0, r1⟩ := zcd HR.out (m : Int) zq8 zq8; subst ee; have hla : zdz l = l.getD m z70 := by unfold zdz; rw [hm]; rfl
 rw [zez, Int.toNat_natCast, ← hla] at r0 r1; have hsv : FS.In (zdz l).f1 := by
  have : zdz l ∈ l := by rw [hla, List.getD_eq_getElem?_getD, List.getElem?_eq_getElem e4]; exact List.getElem_mem e4
  exact (hs _ this).2
 obtain ⟨S, hS⟩ : ∃ S, zdz l = S := ⟨_, rfl⟩
 rw [hS] at hf r0 r1 hsv; clear hla hS; obtain ⟨T, V⟩ := S; dsimp only at hf r0 r1 hsv; obtain ⟨y, hy⟩ : ∃ y, d.now - d.p.stale = y := ⟨_, rfl⟩
 have ey : IntKind.i64.wrap (d.now - d.p.stale) = y := by
  obtain ⟨_, _, _, _, ⟨s1, s2⟩, _⟩ := hp; rw [zaF, zaI zq8 zq8]; exact hy
 rw [hy] at hf; by_cases c1 : y < T
 · rw [if_pos ⟨c0, c1⟩] at hf; have e5 := zdt c1; have KF := zaa.mk (fun W => zgy d.p V hsv hper W); rw [hf] at KF; obtain ⟨⟨mn, mx, per, stale, step, ahead, cool, season⟩, now, plan, ⟨pt, pr, pf, pp, pc⟩, changed⟩ := d; dsimp only [okP] at d0 d1 d2 d3 d4 d5 d6 d7 d8 d11 d12 hp hper hn0 hn1 ey hy; dsimp only [zdI] at KF; clear KS hp hper hn0 hn1 hf hy c0 c1 hsv hm; go_enter Try.func118, Try.ntmps118
   go_wp2; go_quiet (fail)
   go_wp2; refine zbU 13 zq6 zq6 rfl ?_; simp only [List.take_succ_cons, List.take_zero, List.drop_succ_cons, List.drop_zero]; repeat (go_big_quiet_step (fail))
   refine wpQuiet_nil ?_; rintro W1 ⟨nq, hnq⟩ K1 hK; have HB0 : zaa (Below w.heap.size w W1) := ⟨hnq ▸ zaj (zaj (Below.refl _ _) _) _⟩
   clear hnq nq; refine zcT Try.func53 zq6 rfl #[.agg #[.int .i64 mn, .int .i64 mx, .int .i64 per, .int .i64 stale, .int .i64 step, .int .i64 ahead, .int .i64 cool, .int .i64 season], .int .i64 V] (by rfl) rfl rfl zdi ?_; refine (KF.out _).mono ?_; rintro e w2 ⟨rfl, hb2⟩; refine ⟨_, rfl, hK _ _ ?_⟩; have HB2 := zaa.mk (HB0.out.trans (hb2.mono HB0.out.size)); clear hK K1 hb2; simp only [Act.put, List.setIfInBounds_toArray, List.set_cons_zero, List.set_cons_succ]; repeat (go_big_quiet_step (fail))
   refine wpQuiet_nil ?_; rintro w3 ⟨n3, rfl⟩; go_wp2; go_ret; exact ⟨rfl, zaj HB2.out _⟩
 have e5 := zdf c1; have cf : ¬ (0 < l.length ∧ y < T) := fun h => c1 h.2
 by_cases g : d.some
 · rw [if_neg cf, if_pos g] at hf; have KS1 : zaa (∀ W, zbY W b d (some ad) l.length c → Calls Try.prog 121 #[.pointer (some ⟨b, 0, none⟩)] W fun e w' => e = .returned (.bool true) ∧ Drawn0 W w') := ⟨fun W h => by
    have := KS.out W h; rwa [zdt g] at this⟩
   obtain ⟨⟨mn, mx, per, stale, step, ahead, cool, season⟩, now, plan, ⟨pt, pr, pf, pp, pc⟩, changed⟩ := d; dsimp only [okP] at d0 d1 d2 d3 d4 d5 d6 d7 d8 d11 d12 hp hper hn0 hn1 ey hy; dsimp only at hf; subst hf; clear hy c0 c1 cf hsv hm g KS hp hper hn0 hn1; go_enter Try.func118, Try.ntmps118
   go_wp2; go_quiet (fail)
   go_wp2_with (go_at_call 121; (with_reducible refine (KS1.out _ (HD.out.below (zaj (Below.refl _ _) _))).mono ?_); rintro e w' ⟨rfl, ⟨nd, rfl⟩⟩)
   go_ret; first | exact ⟨rfl, zaj (Below.refl _ _) _⟩ | exact ⟨rfl, zaj (zaj (Below.refl _ _) _) _⟩ | exact ⟨rfl, zaj (zaj (zaU (Below.refl _ _)) _) _⟩
 rw [if_neg cf, if_neg g] at hf; have KS1 : zaa (∀ W, zbY W b d (some ad) l.length c → Calls Try.prog 121 #[.pointer (some ⟨b, 0, none⟩)] W fun e w' => e = .returned (.bool false) ∧ Drawn0 W w') := ⟨fun W h => by
  have := KS.out W h; rwa [zdf g] at this⟩
 obtain ⟨⟨mn, mx, per, stale, step, ahead, cool, season⟩, now, plan, ⟨pt, pr, pf, pp, pc⟩, changed⟩ := d; dsimp only [okP] at d0 d1 d2 d3 d4 d5 d6 d7 d8 d11 d12 hp hper hn0 hn1 ey hy; dsimp only at hf; subst hf; clear hy c0 c1 cf hsv hm g KS hp hper hn0 hn1; go_enter Try.func118, Try.ntmps118
 go_wp2; go_quiet (fail)
 go_wp2_with (go_at_call 121; (with_reducible refine (KS1.out _ (HD.out.below (zaj (Below.refl _ _) _))).mono ?_); rintro e w' ⟨rfl, ⟨nd, rfl⟩⟩)
 go_ret; first | exact ⟨rfl, zaj (Below.refl _ _) _⟩ | exact ⟨rfl, zaj (zaj (Below.refl _ _) _) _⟩ | exact ⟨rfl, zaj (zaj (zaU (Below.refl _ _)) _) _⟩
end Go.Proofs.Ytemnfnbjapobcaa.Ho
end
