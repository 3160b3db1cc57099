-- Laid together by wip/shake.py out of: Cmx1 Cmx2 CmSpec Ch8 Ch9 Extra2 Pol1 Prx0
import Derived.Test.YtemnfnbjapobcaaPolicyDecidesm9
import Derived.Test.YtemnfnbjapobcaaProg
import Derived.Below
import Derived.Deep.Draws
import Derived.Deep.AppendLies
import Derived.Maps.AppendAt
import Derived.OwnWalk
import Derived.Laws.BytesArg
import Derived.Laws.MakeOwn
import Derived.Laws.OwnMore
import Derived.Deep.OwnRows
import Derived.Tactics
import Derived.Lib.ConvBytes
import Derived.Laws.Slices
import Derived.WalkKit
import Derived.KernelRfl
import Derived.RowKit3
import Derived.Deep.LoopGhost
import Derived.Deep.QuietTactic
import Derived.BigQuiet
import Derived.WideLaws
import Derived.Deep.DeepCutAuto
import Derived.Deep.CutBlock
import Derived.Deep.RegionHeld3
import Derived.Laws.Rows
import Derived.Lib.AppendStr
import Derived.ArgAppend
import Derived.Laws.IdiomCopy
import Derived.OrdersHeld
import Derived.Laws.BitsLemmas
import Derived.RowKit
set_option maxHeartbeats 8000000
set_option maxRecDepth 100000
set_option linter.unusedVariables false
set_option linter.unusedSimpArgs false
namespace Go.Proofs
open Go.RowKit
theorem zfQ {P : Prop} (h : P := by unfold okP; dsimp only; omega) : P := h
theorem zgS {P : Prop} (h : P := by have := HK1.out; omega) : P := h
end Go.Proofs
section
namespace Go.Proofs.Ytemnfnbjapobcaa.Cm
open Go.RowKit Go.Proofs.ZW.PrintWords Go.Proofs.ZW.PrintLast Go.Proofs.ZW.PrintMore
attribute [local go_sem] zcx zcw zcO zcN zco zcn zcJ zcI
def zaW.f (a0 : Int) (a1 : Int) : Option (Int) := if HS.InB a0 && HS.InB a1 then some (HS.addS a0 a1) else none
theorem zaW.calls (a0 : Int) (a1 : Int) (r : Int) (w : World)  (h : zaW.f a0 a1 = some r) :
  Calls Try.prog 55 #[.int .i64 a0, .int .i64 a1] w fun e w' => e = .returned (.int .i64 r) ∧ Drawn0 w w' := by
 unfold zaW.f at h; by_cases c : (HS.InB a0 && HS.InB a1) = true
 · rw [if_pos c] at h; obtain rfl := zoi h; simp only [Bool.and_eq_true, zff, HS.zbO] at c; exact zjb c.1 c.2 w
 · rw [if_neg c] at h; cases h
def zbZ.f (a0 : Int) (a1 : Int) : Option (Int) := if HS.InB a0 && HS.InB a1 then some (HS.distS a0 a1) else none
theorem zbZ.calls (a0 : Int) (a1 : Int) (r : Int) (w : World)  (h : zbZ.f a0 a1 = some r) :
  Calls Try.prog 74 #[.int .i64 a0, .int .i64 a1] w fun e w' => e = .returned (.int .i64 r) ∧ Drawn0 w w' := by
 unfold zbZ.f at h; by_cases c : (HS.InB a0 && HS.InB a1) = true
 · rw [if_pos c] at h; obtain rfl := zoi h; simp only [Bool.and_eq_true, zff, HS.zbO] at c; exact Ho.ziL a0 a1 c.1 c.2 w
 · rw [if_neg c] at h; cases h
mutual
def zaB.j0 : Nat → List Int → Int → Int → Bool → Option (Int × Int)
 | 0, _, _, _, _ => none
 | k + 1, x0, x1, x2, x33 => if x33 = true then (some (0, 1)) else (zaB.l0 k x0 x1 0 (wrap64 ((x0.length : Int) - x2)))
def zaB.l0 : Nat → List Int → Int → Int → Int → Option (Int × Int)
 | 0, _, _, _, _ => none
 | k + 1, x0, x1, x8, x9 => if x9 < (x0.length : Int) then (if 0 ≤ x9 then (if 0 ≤ (wrap64 (x9 - x1)) then (if (wrap64 (x9 - x1)) < (x0.length : Int) then ((zbZ.f (rd x0 x9) (rd x0 (wrap64 (x9 - x1)))).bind fun t103 => ((zaW.f x8 t103).bind fun t104 => (zaB.l0 k x0 x1 t104 (wrap64 (x9 + 1))))) else (none)) else (none)) else (none)) else (some (x8, 0))
end
def zaB.f (k : Nat) (l0 : List Int) (a1 : Int) (a2 : Int) : Option (Int × Int) := if a1 < 1 then (zaB.j0 k l0 a1 a2 true) else (if a1 > 10000 then (zaB.j0 k l0 a1 a2 true) else (if a2 < 1 then (zaB.j0 k l0 a1 a2 true) else (if (l0.length : Int) < a1 then (zaB.j0 k l0 a1 a2 true) else (zaB.j0 k l0 a1 a2 (decide (a2 > (wrap64 ((l0.length : Int) - a1))))))))
theorem zaB.calls (k : Nat) (A0 : Option Addr) (c0 : Nat) (l0 : List Int) (a1 : Int) (a2 : Int) (r1 : Int) (r2 : Int) (w : World) (hr0 : Kd.C (Kd.int .i64) w A0 l0.length l0) (hc0 : l0.length ≤ c0) (h : zaB.f k l0 a1 a2 = some (r1, r2)) :
  Calls Try.prog 76 #[.slice A0 l0.length c0, .int .i64 a1, .int .i64 a2] w fun e w' => e = .returned (.tuple #[.int .i64 r1, .int .i64 r2]) ∧ Drawn0 w w' := by
 have HR0 := zaa.mk hr0; have HC0 := zaa.mk hc0; clear hr0 hc0; have H : (if a1 < 1 then (zaB.j0 k l0 a1 a2 true) else (if a1 > 10000 then (zaB.j0 k l0 a1 a2 true) else (if a2 < 1 then (zaB.j0 k l0 a1 a2 true) else (if (l0.length : Int) < a1 then (zaB.j0 k l0 a1 a2 true) else (zaB.j0 k l0 a1 a2 (decide (a2 > (wrap64 ((l0.length : Int) - a1))))))))) = some (r1, r2) := h; clear h; have HC4 := zaa.mk H; clear H; go_enter Try.func76, Try.ntmps76
 go_upto_region 1 with (fail)
 repeat (go_quiet (fail); go_upto_region 1 with (fail))
 go_cut [33] (fun v33 wc => ∃ (kq : Nat) (x33_3 : Bool), v33 = .bool x33_3 ∧ zaa (zaB.j0 kq l0 a1 a2 x33_3 = some (r1, r2)) ∧ zaa (kq ≤ k) ∧ Drawn0 w wc)
 case first =>
  have H := HC4.out; clear HC4; by_cases c5 : a1 < 1
  · rw [if_pos c5] at H; have c5b0 := zdt c5; clear c5
    (first | rw [c5b0] | (simp only [zaF, zaM]; rw [c5b0]) | skip)
    have H' := zaa.mk H; clear H; go_wp2; repeat (go_quiet (fail); try go_wp2)
    go_meet
    case rel => exact ⟨_, (true), zq2, H', ⟨zdQ⟩, zq3⟩
  rw [if_neg c5] at H; have c5b0 := zdf c5; clear c5
  (first | rw [c5b0] | (simp only [zaF, zaM]; rw [c5b0]) | skip)
  by_cases c6 : a1 > 10000
  · rw [if_pos c6] at H; have c6b0 : decide (10000 < a1) = true := zdt c6; clear c6; have H' := zaa.mk H; clear H; go_wp2; repeat (go_quiet (fail); try go_wp2)
    go_meet
    case rel => exact ⟨_, (true), zq2, H', ⟨zdQ⟩, zq3⟩
  rw [if_neg c6] at H; have c6b0 : decide (10000 < a1) = false := zdf c6; clear c6; by_cases c7 : a2 < 1
  · rw [if_pos c7] at H; have c7b0 := zdt c7; clear c7; have H' := zaa.mk H; clear H; go_wp2; repeat (go_quiet (fail); try go_wp2)
    go_meet
    case rel => exact ⟨_, (true), zq2, H', ⟨zdQ⟩, zq3⟩
  rw [if_neg c7] at H; have c7b0 := zdf c7; clear c7; by_cases c8 : (l0.length : Int) < a1
  · rw [if_pos c8] at H; have c8b0 := zdt c8; clear c8; have H' := zaa.mk H; clear H; go_wp2; repeat (go_quiet (fail); try go_wp2)
    go_meet
    case rel => exact ⟨_, (true), zq2, H', ⟨zdQ⟩, zq3⟩
  rw [if_neg c8] at H; have c8b0 := zdf c8; clear c8; have H' := zaa.mk H; clear H; go_wp2; repeat (go_quiet (fail); try go_wp2)
  go_meet
  case rel => exact ⟨_, (decide (a2 > (wrap64 ((l0.length : Int) - a1)))), zq2, H', ⟨zdQ⟩, zq3⟩
 case rest =>
  clear HC4; (try clear p2); (try clear c5); (try clear c5b0); (try clear c6); (try clear c6b0); (try clear p6); (try clear c7); (try clear c7b0); (try clear c8); (try clear c8b0); obtain ⟨kq, x33_3, rfl, HA, HJ3, ⟨mc3, rfl⟩⟩ := hcut
  cases kq with
  | zero => exact absurd HA.out (by simp [zaB.j0])
  | succ kj3 =>
   have H := HA.out; clear HA; simp only [zaB.j0] at H; by_cases c9 : x33_3 = true
   · subst c9; have H1 : (some (0, 1)) = some (r1, r2) := by rw [if_pos rfl] at H; exact H
     clear H; have H := H1; clear H1; simp only [Option.some.injEq, Prod.mk.injEq] at H; obtain ⟨rfl, rfl⟩ := H; go_wp2; repeat (go_quiet (fail); try go_wp2)
     go_ret2
     exact ⟨zq2, zq3⟩
   replace c9 := Bool.eq_false_iff.mpr c9; subst c9; have H1 : (zaB.l0 kj3 l0 a1 0 (wrap64 ((l0.length : Int) - a2))) = some (r1, r2) := by rw [if_neg (show ¬ (false = true) by decide)] at H; exact H
   clear H; have H := H1; clear H1; have H' := zaa.mk H; clear H; go_wp2; repeat (go_quiet (fail); try go_wp2)
   go_loopg [8, 9] kj3 (fun kq v8 v9 w' => ∃ (x8_2 : Int) (x9_2 : Int), v8 = .int .i64 x8_2 ∧ v9 = .int .i64 x9_2 ∧ zaa (zaB.l0 kq l0 a1 x8_2 x9_2 = some (r1, r2)) ∧ zaa (kq ≤ kj3) ∧ Drawn0 w w')
   case atStart => exact ⟨(0), (wrap64 ((l0.length : Int) - a2)), zq2, zq2, H', ⟨Nat.le_refl _⟩, zq3⟩
   case round =>
    clear H'; (try clear p2); (try clear c3); (try clear c5); (try clear c5b0); (try clear c6); (try clear c6b0); (try clear p6); (try clear c7); (try clear c7b0); (try clear c8); (try clear c8b0); (try clear c9); (try clear p2); (try clear p6); obtain ⟨x8_2, x9_2, rfl, rfl, HA, HK2, ⟨m2, rfl⟩⟩ := hrel
    cases gk with
    | zero => exact absurd HA.out (by simp [zaB.l0])
    | succ k2 =>
     have H := HA.out; clear HA; simp only [zaB.l0] at H; by_cases c10 : x9_2 < (l0.length : Int); rotate_left
     · rw [if_neg c10] at H; have c10b0 := zdf c10; clear c10; simp only [Option.some.injEq, Prod.mk.injEq] at H; obtain ⟨rfl, rfl⟩ := H; go_wp2; repeat (go_quiet (fail); try go_wp2)
       go_ret2
       exact ⟨zq2, zq3⟩
     rw [if_pos c10] at H; have c10b0 := zdt c10; clear c10; by_cases c11 : 0 ≤ x9_2; rotate_left
     · rw [if_neg c11] at H; exact absurd H (by simp)
     rw [if_pos c11] at H; have c11b0 := zdt c11; clear c11; obtain ⟨ji12, hji12⟩ : ∃ j_ : Int, (wrap64 (x9_2 - a1)) = j_ := ⟨_, rfl⟩
     replace H : (if 0 ≤ (ji12) then (if (ji12) < (l0.length : Int) then ((zbZ.f (rd l0 x9_2) (rd l0 (ji12))).bind fun t103 => ((zaW.f x8_2 t103).bind fun t104 => (zaB.l0 k2 l0 a1 t104 (wrap64 (x9_2 + 1))))) else (none)) else (none)) = some (r1, r2) := by first | (rw [hji12] at H; exact H) | (simp only [hji12] at H ⊢; exact H)
     have hji12w : (IntKind.i64.wrap (x9_2 - a1)) = ji12 := (zaF _).trans hji12; by_cases c13 : 0 ≤ (ji12); rotate_left
     · rw [if_neg c13] at H; exact absurd H (by simp)
     rw [if_pos c13] at H; have c13b0 := zdt c13; clear c13; by_cases c14 : (ji12) < (l0.length : Int); rotate_left
     · rw [if_neg c14] at H; exact absurd H (by simp)
     rw [if_pos c14] at H; have c14b0 := zdt c14; clear c14; replace H := zob H; obtain ⟨t103, A150, H⟩ := H; replace H : ((zaW.f x8_2 t103).bind fun t104 => (zaB.l0 k2 l0 a1 t104 (wrap64 (x9_2 + 1)))) = some (r1, r2) := H; have A15 := zaa.mk A150; clear A150; replace H := zob H; obtain ⟨t104, A160, H⟩ := H; replace H : (zaB.l0 k2 l0 a1 t104 (wrap64 (x9_2 + 1))) = some (r1, r2) := H; have A16 := zaa.mk A160; clear A160; have H' := zaa.mk H; clear H; have p101 : 0 ≤ (x9_2 : Int) := zod zq5; have q101 : x9_2 < (l0.length : Int) := zod zq5; obtain ⟨ad101, e101, hx101_0⟩ := Kd.zbE HR0.out x9_2 p101 q101
     cases e101
     replace p101 := eq_true p101; replace q101 := eq_true q101; have p102 : 0 ≤ ((ji12) : Int) := zod zq5; have q102 : (ji12) < (l0.length : Int) := zod zq5; obtain ⟨ad102, e102, hx102_0⟩ := Kd.zbE HR0.out (ji12) p102 q102; obtain rfl : ad101 = ad102 := (by injection e102)
     replace p102 := eq_true p102; replace q102 := eq_true q102; go_wp2_with (first | (go_at_call 74; (with_reducible refine (zbZ.calls (rd l0 x9_2) (rd l0 (ji12)) t103 _ A15.out).mono ?_); rintro e w' ⟨rfl, ⟨nd, rfl⟩⟩; (try first | exact ⟨rfl, _, World.drewN_drewN _ _ _⟩ | exact ⟨rfl, _, Eq.trans (World.drewN_drewN _ _ _) (congrArg (World.drewN _) (Nat.add_assoc _ _ _))⟩)) | (go_at_call 55; (with_reducible refine (zaW.calls x8_2 t103 t104 _ A16.out).mono ?_); rintro e w' ⟨rfl, ⟨nd, rfl⟩⟩; (try first | exact ⟨rfl, _, World.drewN_drewN _ _ _⟩ | exact ⟨rfl, _, Eq.trans (World.drewN_drewN _ _ _) (congrArg (World.drewN _) (Nat.add_assoc _ _ _))⟩)))
     repeat (go_quiet (first | (go_at_call 74; (with_reducible refine (zbZ.calls (rd l0 x9_2) (rd l0 (ji12)) t103 _ A15.out).mono ?_); rintro e w' ⟨rfl, ⟨nd, rfl⟩⟩; (try first | exact ⟨rfl, _, World.drewN_drewN _ _ _⟩ | exact ⟨rfl, _, Eq.trans (World.drewN_drewN _ _ _) (congrArg (World.drewN _) (Nat.add_assoc _ _ _))⟩)) | (go_at_call 55; (with_reducible refine (zaW.calls x8_2 t103 t104 _ A16.out).mono ?_); rintro e w' ⟨rfl, ⟨nd, rfl⟩⟩; (try first | exact ⟨rfl, _, World.drewN_drewN _ _ _⟩ | exact ⟨rfl, _, Eq.trans (World.drewN_drewN _ _ _) (congrArg (World.drewN _) (Nat.add_assoc _ _ _))⟩))); try go_wp2_with (first | (go_at_call 74; (with_reducible refine (zbZ.calls (rd l0 x9_2) (rd l0 (ji12)) t103 _ A15.out).mono ?_); rintro e w' ⟨rfl, ⟨nd, rfl⟩⟩; (try first | exact ⟨rfl, _, World.drewN_drewN _ _ _⟩ | exact ⟨rfl, _, Eq.trans (World.drewN_drewN _ _ _) (congrArg (World.drewN _) (Nat.add_assoc _ _ _))⟩)) | (go_at_call 55; (with_reducible refine (zaW.calls x8_2 t103 t104 _ A16.out).mono ?_); rintro e w' ⟨rfl, ⟨nd, rfl⟩⟩; (try first | exact ⟨rfl, _, World.drewN_drewN _ _ _⟩ | exact ⟨rfl, _, Eq.trans (World.drewN_drewN _ _ _) (congrArg (World.drewN _) (Nat.add_assoc _ _ _))⟩))))
     go_roundg k2
     case measure => have := HJ3.out; have := HK2.out; omega
     case rel => exact ⟨(t104), (wrap64 (x9_2 + 1)), zq2, zq2, H', ⟨by have := HJ3.out; have := HK2.out; omega⟩, zq3⟩
def zdl.f (l0 : List Int) (a1 : Int) (a2 : Int) : Option (Int × Int) := if a1 < 1 then (some (0, 1)) else (if a1 > 10000 then (some (0, 1)) else (if a2 < 1 then (some (0, 1)) else (if a2 > 10000 then (some (0, 1)) else (if (l0.length : Int) < a1 then (some (0, 1)) else (if a1 = 0 then (none) else (if 0 ≤ (wrap64 ((wrap64 ((l0.length : Int) - a1)) + (Int.tmod (wrap64 (a2 - 1)) a1))) then (if (wrap64 ((wrap64 ((l0.length : Int) - a1)) + (Int.tmod (wrap64 (a2 - 1)) a1))) < (l0.length : Int) then (some (rd l0 (wrap64 ((wrap64 ((l0.length : Int) - a1)) + (Int.tmod (wrap64 (a2 - 1)) a1))), 0)) else (none)) else (none)))))))
theorem zdl.calls (A0 : Option Addr) (c0 : Nat) (l0 : List Int) (a1 : Int) (a2 : Int) (r1 : Int) (r2 : Int) (w : World) (hr0 : Kd.C (Kd.int .i64) w A0 l0.length l0) (hc0 : l0.length ≤ c0) (h : zdl.f l0 a1 a2 = some (r1, r2)) :
  Calls Try.prog 79 #[.slice A0 l0.length c0, .int .i64 a1, .int .i64 a2] w fun e w' => e = .returned (.tuple #[.int .i64 r1, .int .i64 r2]) ∧ Drawn0 w w' := by
 have HR0 := zaa.mk hr0; have HC0 := zaa.mk hc0; clear hr0 hc0; have H : (if a1 < 1 then (some (0, 1)) else (if a1 > 10000 then (some (0, 1)) else (if a2 < 1 then (some (0, 1)) else (if a2 > 10000 then (some (0, 1)) else (if (l0.length : Int) < a1 then (some (0, 1)) else (if a1 = 0 then (none) else (if 0 ≤ (wrap64 ((wrap64 ((l0.length : Int) - a1)) + (Int.tmod (wrap64 (a2 - 1)) a1))) then (if (wrap64 ((wrap64 ((l0.length : Int) - a1)) + (Int.tmod (wrap64 (a2 - 1)) a1))) < (l0.length : Int) then (some (rd l0 (wrap64 ((wrap64 ((l0.length : Int) - a1)) + (Int.tmod (wrap64 (a2 - 1)) a1))), 0)) else (none)) else (none)))))))) = some (r1, r2) := h; clear h; by_cases c4 : a1 < 1
 · rw [if_pos c4] at H; have c4b0 := zdt c4; clear c4; simp only [Option.some.injEq, Prod.mk.injEq] at H; obtain ⟨rfl, rfl⟩ := H; go_enter Try.func79, Try.ntmps79
   go_wp2; go_ret2
   exact ⟨zq2, zq3⟩
 rw [if_neg c4] at H; have c4b0 := zdf c4; clear c4; by_cases c5 : a1 > 10000
 · rw [if_pos c5] at H; have c5b0 : decide (10000 < a1) = true := zdt c5; clear c5; simp only [Option.some.injEq, Prod.mk.injEq] at H; obtain ⟨rfl, rfl⟩ := H; go_enter Try.func79, Try.ntmps79
   go_wp2; go_ret2
   exact ⟨zq2, zq3⟩
 rw [if_neg c5] at H; have c5b0 : decide (10000 < a1) = false := zdf c5; clear c5; by_cases c6 : a2 < 1
 · rw [if_pos c6] at H; have c6b0 := zdt c6; clear c6; simp only [Option.some.injEq, Prod.mk.injEq] at H; obtain ⟨rfl, rfl⟩ := H; go_enter Try.func79, Try.ntmps79
   go_wp2; go_ret2
   exact ⟨zq2, zq3⟩
 rw [if_neg c6] at H; have c6b0 := zdf c6; clear c6; by_cases c7 : a2 > 10000
 · rw [if_pos c7] at H; have c7b0 : decide (10000 < a2) = true := zdt c7; clear c7; simp only [Option.some.injEq, Prod.mk.injEq] at H; obtain ⟨rfl, rfl⟩ := H; go_enter Try.func79, Try.ntmps79
   go_wp2; go_ret2
   exact ⟨zq2, zq3⟩
 rw [if_neg c7] at H; have c7b0 : decide (10000 < a2) = false := zdf c7; clear c7; by_cases c8 : (l0.length : Int) < a1
 · rw [if_pos c8] at H; have c8b0 := zdt c8; clear c8; simp only [Option.some.injEq, Prod.mk.injEq] at H; obtain ⟨rfl, rfl⟩ := H; go_enter Try.func79, Try.ntmps79
   go_wp2; go_ret2
   exact ⟨zq2, zq3⟩
 rw [if_neg c8] at H; have c8b0 := zdf c8; clear c8; by_cases c9 : a1 = 0
 · rw [if_pos c9] at H; exact absurd H (by simp)
 rw [if_neg c9] at H; have c9b0 : (a1 == 0) = false := beq_eq_false_iff_ne.mpr c9; have c9b1 : (a1 != 0) = true := bne_iff_ne.mpr c9; obtain ⟨ji10, hji10⟩ : ∃ j_ : Int, (wrap64 ((wrap64 ((l0.length : Int) - a1)) + (Int.tmod (wrap64 (a2 - 1)) a1))) = j_ := ⟨_, rfl⟩
 replace H : (if 0 ≤ (ji10) then (if (ji10) < (l0.length : Int) then (some (rd l0 (ji10), 0)) else (none)) else (none)) = some (r1, r2) := by first | (rw [hji10] at H; exact H) | (simp only [hji10] at H ⊢; exact H)
 have hji10w : (IntKind.i64.wrap ((wrap64 ((l0.length : Int) - a1)) + (Int.tmod (wrap64 (a2 - 1)) a1))) = ji10 := (zaF _).trans hji10; by_cases c11 : 0 ≤ (ji10); rotate_left
 · rw [if_neg c11] at H; exact absurd H (by simp)
 rw [if_pos c11] at H; have c11b0 := zdt c11; clear c11; by_cases c12 : (ji10) < (l0.length : Int); rotate_left
 · rw [if_neg c12] at H; exact absurd H (by simp)
 rw [if_pos c12] at H; have c12b0 := zdt c12; clear c12; simp only [Option.some.injEq, Prod.mk.injEq] at H; obtain ⟨rfl, rfl⟩ := H; have p105 : 0 ≤ ((ji10) : Int) := zod zq5; have q105 : (ji10) < (l0.length : Int) := zod zq5; obtain ⟨ad105, e105, hx105_0⟩ := Kd.zbE HR0.out (ji10) p105 q105
 cases e105
 replace p105 := eq_true p105; replace q105 := eq_true q105; go_enter Try.func79, Try.ntmps79
 go_wp2; go_ret2
 exact ⟨zmW, zq3⟩
def zbQ.f (a0 : Int) (a1 : Int) : Option (Int) := if HS.InB a0 && HS.InB a1 then some (HS.addS a0 a1) else none
theorem zbQ.calls (a0 : Int) (a1 : Int) (r : Int) (w : World)  (h : zbQ.f a0 a1 = some r) :
  Calls Try.prog 67 #[.int .i64 a0, .int .i64 a1] w fun e w' => e = .returned (.int .i64 r) ∧ Drawn0 w w' := by
 unfold zbQ.f at h; by_cases c : (HS.InB a0 && HS.InB a1) = true
 · rw [if_pos c] at h; obtain rfl := zoi h; simp only [Bool.and_eq_true, zff, HS.zbO] at c; exact zhH c.1 c.2 w
 · rw [if_neg c] at h; cases h
def zcz.f (a0 : Int) (a1 : Int) : Option (Int) := if HS.InB a0 && HS.InB a1 then some (HS.distS a0 a1) else none
theorem zcz.calls (a0 : Int) (a1 : Int) (r : Int) (w : World)  (h : zcz.f a0 a1 = some r) :
  Calls Try.prog 73 #[.int .i64 a0, .int .i64 a1] w fun e w' => e = .returned (.int .i64 r) ∧ Drawn0 w w' := by
 unfold zcz.f at h; by_cases c : (HS.InB a0 && HS.InB a1) = true
 · rw [if_pos c] at h; obtain rfl := zoi h; simp only [Bool.and_eq_true, zff, HS.zbO] at c; exact Ho.zjF a0 a1 c.1 c.2 w
 · rw [if_neg c] at h; cases h
def zbn.f (a0 : Int) : Option (Bool) := if a0 ≥ 1 then (some (decide (a0 ≤ 10000))) else (some false)
theorem zbn.calls (a0 : Int) (r : Bool) (w : World) (h : zbn.f a0 = some r) :
  Calls Try.prog 143 #[.int .i64 a0] w fun e w' => e = .returned (.bool r) ∧ Drawn0 w w' := by
 have H : (if a0 ≥ 1 then (some (decide (a0 ≤ 10000))) else (some false)) = some r := h; clear h; by_cases c2 : a0 ≥ 1
 · rw [if_pos c2] at H; have c2b0 : decide (1 ≤ a0) = true := zdt c2; clear c2; obtain rfl := zoi H; go_enter Try.func143, Try.ntmps143
   go_wp2; go_ret; exact ⟨zq2, zq3⟩
 rw [if_neg c2] at H; have c2b0 : decide (1 ≤ a0) = false := zdf c2; clear c2; obtain rfl := zoi H; go_enter Try.func143, Try.ntmps143
 go_wp2; go_ret; exact ⟨zq2, zq3⟩
end Go.Proofs.Ytemnfnbjapobcaa.Cm
end
section
namespace Go.Proofs.Ytemnfnbjapobcaa.Cm
open Go.RowKit Go.Proofs.ZW.PrintWords Go.Proofs.ZW.PrintLast Go.Proofs.ZW.PrintMore
attribute [local go_sem] zcx zcw zcO zcN zco zcn zcJ zcI
def zei.f (k : Nat) (l : List Int) (s : Int) (i : Int) : Option Int := if 0 ≤ i then (if i < (l.length : Int) then (if 0 ≤ (wrap64 (i - s)) then (if (wrap64 (i - s)) < (l.length : Int) then (zcz.f (rd l i) (rd l (wrap64 (i - s)))) else none) else none) else none) else none
def zci.l0 : Nat → List Int → Int → Int → Int → Option (Int × Int)
 | 0, _, _, _, _ => none
 | k + 1, l, s, sum, i => if i < (l.length : Int) then ((zei.f k l s i).bind fun d => ((zbQ.f sum d).bind fun t => (zci.l0 k l s t (wrap64 (i + 1))))) else (some (sum, 0))
def zci.f (k : Nat) (l0 : List Int) (a1 : Int) (a2 : Int) : Option (Int × Int) := (zbn.f a1).bind fun c => (if c = true then (if (l0.length : Int) < a1 then (some (0, 1)) else (if a2 < 1 then (some (0, 1)) else (if a1 > (wrap64 ((l0.length : Int) - a2)) then (some (0, 1)) else (zci.l0 k l0 a1 0 (wrap64 ((l0.length : Int) - a2)))))) else (some (0, 1)))
theorem zcz.quiet (a0 a1 r : Int) (w : World) (h : zcz.f a0 a1 = some r) :
  Calls Try.prog 73 #[.int .i64 a0, .int .i64 a1] w fun e w' => e = .returned (.int .i64 r) ∧ ∃ m, w' = w.drewN m :=
 (zcz.calls a0 a1 r w h).mono fun _ _ ⟨he, hw⟩ => ⟨he, hw.out⟩
theorem zei.calls (k : Nat) (A : Option Addr) (c : Nat) (l : List Int) (s i r : Int) (bl bs : Nat) (w : World) (hl : w.cell? ⟨bl, 0, none⟩ = some (.slice A l.length c)) (hs : w.cell? ⟨bs, 0, none⟩ = some (.int .i64 s)) (hr : Kd.C (Kd.int .i64) w A l.length l) (h : zei.f k l s i = some r) :
  Calls Try.prog 144 #[.int .i64 i, .pointer (some ⟨bl, 0, none⟩), .pointer (some ⟨bs, 0, none⟩)] w fun e w' => e = .returned (.int .i64 r) ∧ Drawn0 w w' := by
 unfold zei.f at h; by_cases h0 : 0 ≤ i; rotate_left
 · rw [if_neg h0] at h; cases h
 by_cases h1 : i < (l.length : Int); rotate_left
 · rw [if_pos h0, if_neg h1] at h; cases h
 obtain ⟨j, hj⟩ : ∃ j, wrap64 (i - s) = j := ⟨_, rfl⟩
 by_cases h2 : 0 ≤ j; rotate_left
 · rw [if_pos h0, if_pos h1, hj, if_neg h2] at h; cases h
 by_cases h3 : j < (l.length : Int); rotate_left
 · rw [if_pos h0, if_pos h1, hj, if_pos h2, if_neg h3] at h; cases h
 rw [if_pos h0, if_pos h1, hj, if_pos h2, if_pos h3] at h; obtain ⟨ad, rfl, c1⟩ := Kd.zbE hr i h0 h1; obtain ⟨ad', e2, c2⟩ := Kd.zbE hr j h2 h3
 cases e2
 have D := zaa.mk h; clear h; have hjw : IntKind.i64.wrap (i - s) = j := (zaF _).trans hj; have g0 := eq_true h0; have g1 := eq_true h1; have g2 := eq_true h2; have g3 := eq_true h3; clear h0 h1 h2 h3; go_enter Try.func144, Try.ntmps144
 go_wp2; go_quiet ((go_at_call 73; exact Calls.quiet_of (zcz.quiet _ _ r _ D.out)))
 go_wp2; go_ret; exact ⟨rfl, zq3⟩
theorem zci.calls (k : Nat) (A0 : Option Addr) (c0 : Nat) (l0 : List Int) (a1 : Int) (a2 : Int) (r1 : Int) (r2 : Int) (w : World) (hr0 : Kd.C (Kd.int .i64) w A0 l0.length l0) (hc0 : l0.length ≤ c0) (h : zci.f k l0 a1 a2 = some (r1, r2)) :
  Calls Try.prog 136 #[.slice A0 l0.length c0, .int .i64 a1, .int .i64 a2] w fun e w' => e = .returned (.tuple #[.int .i64 r1, .int .i64 r2]) ∧ Below w.heap.size w w' := by
 unfold zci.f at h; obtain ⟨c, A1, H⟩ := zob h; have AC := zaa.mk A1; clear A1 h; have bad : ∀ (e : Ending) (w' : World), e = .returned (.tuple #[.int .i64 0, .int .i64 1]) ∧ Below w.heap.size w w' → (some ((0 : Int), (1 : Int)) = some (r1, r2)) → e = .returned (.tuple #[.int .i64 r1, .int .i64 r2]) ∧ Below w.heap.size w w' := by
  intro e w' h1 h2; obtain ⟨rfl, rfl⟩ := Prod.mk.inj (zoi h2); exact h1
 have fin : ∀ n : Nat, Below w.heap.size w (((w.alloc (.cells #[.slice A0 l0.length c0] 23)).alloc (.cells #[.int .i64 a1] 3)).drewN n) := fun n =>
  zaj (zaq (zaq (Below.refl _ _) _) _) n
 cases c
 · rw [if_neg zaR] at H; refine Calls.mono ?_ (fun e w' h1 => bad e w' h1 H); clear H bad; have FIN := zaa.mk fin; clear fin; go_enter Try.func136, Try.ntmps136
   go_wp2_with (go_at_call 143; (with_reducible refine (zbn.calls a1 false _ AC.out).mono ?_); rintro e w' ⟨rfl, ⟨nd, rfl⟩⟩)
   go_ret2
   exact ⟨rfl, FIN.out _⟩
 · rw [if_pos rfl] at H; by_cases h1 : (l0.length : Int) < a1
   · rw [if_pos h1] at H; refine Calls.mono ?_ (fun e w' h1 => bad e w' h1 H); clear H bad; have FIN := zaa.mk fin; clear fin; have g1 := zdt h1; clear h1; go_enter Try.func136, Try.ntmps136
     go_wp2_with (go_at_call 143; (with_reducible refine (zbn.calls a1 true _ AC.out).mono ?_); rintro e w' ⟨rfl, ⟨nd, rfl⟩⟩)
     go_ret2
     exact ⟨rfl, FIN.out _⟩
   rw [if_neg h1] at H; have g1 := zdf h1; clear h1; by_cases h2 : a2 < 1
   · rw [if_pos h2] at H; refine Calls.mono ?_ (fun e w' h1 => bad e w' h1 H); clear H bad; have FIN := zaa.mk fin; clear fin; have g2 := zdt h2; clear h2; go_enter Try.func136, Try.ntmps136
     go_wp2_with (go_at_call 143; (with_reducible refine (zbn.calls a1 true _ AC.out).mono ?_); rintro e w' ⟨rfl, ⟨nd, rfl⟩⟩)
     go_ret2
     exact ⟨rfl, FIN.out _⟩
   rw [if_neg h2] at H; have g2 := zdf h2; clear h2; obtain ⟨j, hj⟩ : ∃ j, wrap64 ((l0.length : Int) - a2) = j := ⟨_, rfl⟩
   rw [hj] at H; have hjw : IntKind.i64.wrap ((l0.length : Int) - a2) = j := (zaF _).trans hj; by_cases h3 : a1 > j
   · rw [if_pos h3] at H; refine Calls.mono ?_ (fun e w' h1 => bad e w' h1 H); clear H bad; have FIN := zaa.mk fin; clear fin; have g3 : decide (j < a1) = true := zdt h3; clear h3; go_enter Try.func136, Try.ntmps136
     go_wp2_with (go_at_call 143; (with_reducible refine (zbn.calls a1 true _ AC.out).mono ?_); rintro e w' ⟨rfl, ⟨nd, rfl⟩⟩)
     go_ret2
     exact ⟨rfl, FIN.out _⟩
   rw [if_neg h3] at H; have g3 : decide (j < a1) = false := zdf h3; clear h3 bad; have FIN := zaa.mk fin; have H' := zaa.mk H; have HB1 : zaa (∀ n : Nat, (((w.alloc (.cells #[.slice A0 l0.length c0] 23)).alloc (.cells #[.int .i64 a1] 3)).drewN n).cell? ⟨w.heap.size, 0, none⟩ = some (.slice A0 l0.length c0)) := ⟨fun n => by go_simp⟩
   have HB2 : zaa (∀ n : Nat, (((w.alloc (.cells #[.slice A0 l0.length c0] 23)).alloc (.cells #[.int .i64 a1] 3)).drewN n).cell? ⟨w.heap.size + 1, 0, none⟩ = some (.int .i64 a1)) := ⟨fun n => by go_simp⟩
   have HB3 : zaa (∀ n : Nat, Kd.C (Kd.int .i64) (((w.alloc (.cells #[.slice A0 l0.length c0] 23)).alloc (.cells #[.int .i64 a1] 3)).drewN n) A0 l0.length l0) := ⟨fun n => Kd.zaL hr0 (fin n)⟩
   clear fin H hr0; go_enter Try.func136, Try.ntmps136
   go_wp2_with (go_at_call 143; (with_reducible refine (zbn.calls a1 true _ AC.out).mono ?_); rintro e w' ⟨rfl, ⟨nd, rfl⟩⟩)
   go_loopg [9, 10] k (fun kq v9 v10 w' => ∃ (sum i : Int) (m : Nat), v9 = .int .i64 sum ∧ v10 = .int .i64 i ∧ zaa (zci.l0 kq l0 a1 sum i = some (r1, r2)) ∧ zaa (kq ≤ k) ∧ w' = ((w.alloc (.cells #[.slice A0 l0.length c0] 23)).alloc (.cells #[.int .i64 a1] 3)).drewN m)
   case atStart => exact ⟨0, j, _, rfl, rfl, H', ⟨Nat.le_refl _⟩, rfl⟩
   case round =>
    clear H'; obtain ⟨sum, i, m, rfl, rfl, HA, HK1, rfl⟩ := hrel
    cases gk with
    | zero => exact absurd HA.out (by simp [zci.l0])
    | succ k1 =>
     have H := HA.out; clear HA; simp only [zci.l0] at H; by_cases c9 : i < (l0.length : Int); rotate_left
     · rw [if_neg c9] at H; have c9b := zdf c9; clear c9; obtain ⟨rfl, rfl⟩ := Prod.mk.inj (zoi H); go_wp2; go_ret2
       exact ⟨rfl, FIN.out _⟩
     rw [if_pos c9] at H; have c9b := zdt c9; clear c9; obtain ⟨d, A2, H⟩ := zob H; have A2 := zaa.mk A2; obtain ⟨t, A3, H⟩ := zob H; have A3 := zaa.mk A3; have H' := zaa.mk H; clear H; go_wp2_with (first | (go_at_call 144; (with_reducible refine (zei.calls k1 A0 c0 l0 a1 i d w.heap.size (w.heap.size + 1) _ (HB1.out _) (HB2.out _) (HB3.out _) A2.out).mono ?_); rintro e w' ⟨rfl, ⟨nd, rfl⟩⟩) | (go_at_call 67; (with_reducible refine (zbQ.calls sum d t _ A3.out).mono ?_); rintro e w' ⟨rfl, ⟨nd, rfl⟩⟩))
     go_roundg k1
     case measure => have := HK1.out; omega
     case rel => exact ⟨t, wrap64 (i + 1), _, rfl, rfl, H', ⟨zgS⟩, rfl⟩
def zeQ.f (l0 : List Int) (a1 : Int) (a2 : Int) : Option (Int × Int) := (zbn.f a1).bind fun t106 => (if t106 = true then ((zbn.f a2).bind fun t107 => (if t107 = true then (if (l0.length : Int) < a1 then (some (0, 1)) else (if a1 = 0 then (none) else (if 0 ≤ (wrap64 ((wrap64 ((l0.length : Int) - a1)) + (Int.tmod (wrap64 (a2 - 1)) a1))) then (if (wrap64 ((wrap64 ((l0.length : Int) - a1)) + (Int.tmod (wrap64 (a2 - 1)) a1))) < (l0.length : Int) then (some (rd l0 (wrap64 ((wrap64 ((l0.length : Int) - a1)) + (Int.tmod (wrap64 (a2 - 1)) a1))), 0)) else (none)) else (none)))) else (some (0, 1)))) else (some (0, 1)))
theorem zeQ.calls (A0 : Option Addr) (c0 : Nat) (l0 : List Int) (a1 : Int) (a2 : Int) (r1 : Int) (r2 : Int) (w : World) (hr0 : Kd.C (Kd.int .i64) w A0 l0.length l0) (hc0 : l0.length ≤ c0) (h : zeQ.f l0 a1 a2 = some (r1, r2)) :
  Calls Try.prog 138 #[.slice A0 l0.length c0, .int .i64 a1, .int .i64 a2] w fun e w' => e = .returned (.tuple #[.int .i64 r1, .int .i64 r2]) ∧ Drawn0 w w' := by
 have HR0 := zaa.mk hr0; have HC0 := zaa.mk hc0; clear hr0 hc0; have H : ((zbn.f a1).bind fun t106 => (if t106 = true then ((zbn.f a2).bind fun t107 => (if t107 = true then (if (l0.length : Int) < a1 then (some (0, 1)) else (if a1 = 0 then (none) else (if 0 ≤ (wrap64 ((wrap64 ((l0.length : Int) - a1)) + (Int.tmod (wrap64 (a2 - 1)) a1))) then (if (wrap64 ((wrap64 ((l0.length : Int) - a1)) + (Int.tmod (wrap64 (a2 - 1)) a1))) < (l0.length : Int) then (some (rd l0 (wrap64 ((wrap64 ((l0.length : Int) - a1)) + (Int.tmod (wrap64 (a2 - 1)) a1))), 0)) else (none)) else (none)))) else (some (0, 1)))) else (some (0, 1)))) = some (r1, r2) := h; clear h; replace H := zob H; obtain ⟨t106, A40, H⟩ := H; replace H : (if t106 = true then ((zbn.f a2).bind fun t107 => (if t107 = true then (if (l0.length : Int) < a1 then (some (0, 1)) else (if a1 = 0 then (none) else (if 0 ≤ (wrap64 ((wrap64 ((l0.length : Int) - a1)) + (Int.tmod (wrap64 (a2 - 1)) a1))) then (if (wrap64 ((wrap64 ((l0.length : Int) - a1)) + (Int.tmod (wrap64 (a2 - 1)) a1))) < (l0.length : Int) then (some (rd l0 (wrap64 ((wrap64 ((l0.length : Int) - a1)) + (Int.tmod (wrap64 (a2 - 1)) a1))), 0)) else (none)) else (none)))) else (some (0, 1)))) else (some (0, 1))) = some (r1, r2) := H; have A4 := zaa.mk A40; clear A40; by_cases c5 : t106 = true; rotate_left
 · replace c5 := Bool.eq_false_iff.mpr c5; subst c5; have H1 : (some (0, 1)) = some (r1, r2) := by rw [if_neg (show ¬ (false = true) by decide)] at H; exact H
   clear H; have H := H1; clear H1; simp only [Option.some.injEq, Prod.mk.injEq] at H; obtain ⟨rfl, rfl⟩ := H; go_enter Try.func138, Try.ntmps138
   go_wp2_with (first | ((with_reducible refine zaf (f := 143) rfl ?_); refine zat (some 9) rfl rfl Try.func143 zq6 rfl #[.int .i64 a1] rfl zq1 ?_; (with_reducible refine (zbn.calls a1 false _ A4.out).mono ?_); rintro e w' ⟨rfl, ⟨nd, rfl⟩⟩; refine ⟨_, rfl, ?_⟩))
   go_ret2
   exact ⟨zq2, zq3⟩
 subst c5; have H1 : ((zbn.f a2).bind fun t107 => (if t107 = true then (if (l0.length : Int) < a1 then (some (0, 1)) else (if a1 = 0 then (none) else (if 0 ≤ (wrap64 ((wrap64 ((l0.length : Int) - a1)) + (Int.tmod (wrap64 (a2 - 1)) a1))) then (if (wrap64 ((wrap64 ((l0.length : Int) - a1)) + (Int.tmod (wrap64 (a2 - 1)) a1))) < (l0.length : Int) then (some (rd l0 (wrap64 ((wrap64 ((l0.length : Int) - a1)) + (Int.tmod (wrap64 (a2 - 1)) a1))), 0)) else (none)) else (none)))) else (some (0, 1)))) = some (r1, r2) := by rw [if_pos rfl] at H; exact H
 clear H; have H := H1; clear H1; replace H := zob H; obtain ⟨t107, A60, H⟩ := H; replace H : (if t107 = true then (if (l0.length : Int) < a1 then (some (0, 1)) else (if a1 = 0 then (none) else (if 0 ≤ (wrap64 ((wrap64 ((l0.length : Int) - a1)) + (Int.tmod (wrap64 (a2 - 1)) a1))) then (if (wrap64 ((wrap64 ((l0.length : Int) - a1)) + (Int.tmod (wrap64 (a2 - 1)) a1))) < (l0.length : Int) then (some (rd l0 (wrap64 ((wrap64 ((l0.length : Int) - a1)) + (Int.tmod (wrap64 (a2 - 1)) a1))), 0)) else (none)) else (none)))) else (some (0, 1))) = some (r1, r2) := H; have A6 := zaa.mk A60; clear A60; by_cases c7 : t107 = true; rotate_left
 · replace c7 := Bool.eq_false_iff.mpr c7; subst c7; have H1 : (some (0, 1)) = some (r1, r2) := by rw [if_neg (show ¬ (false = true) by decide)] at H; exact H
   clear H; have H := H1; clear H1; simp only [Option.some.injEq, Prod.mk.injEq] at H; obtain ⟨rfl, rfl⟩ := H; go_enter Try.func138, Try.ntmps138
   go_wp2_with (first | ((with_reducible refine zaf (f := 143) rfl ?_); refine zat (some 9) rfl rfl Try.func143 zq6 rfl #[.int .i64 a1] rfl zq1 ?_; (with_reducible refine (zbn.calls a1 true _ A4.out).mono ?_); rintro e w' ⟨rfl, ⟨nd, rfl⟩⟩; refine ⟨_, rfl, ?_⟩) | (go_at_call 143; (with_reducible refine (zbn.calls a2 false _ A6.out).mono ?_); rintro e w' ⟨rfl, ⟨nd, rfl⟩⟩))
   go_ret2
   exact ⟨zq2, zq3⟩
 subst c7; have H1 : (if (l0.length : Int) < a1 then (some (0, 1)) else (if a1 = 0 then (none) else (if 0 ≤ (wrap64 ((wrap64 ((l0.length : Int) - a1)) + (Int.tmod (wrap64 (a2 - 1)) a1))) then (if (wrap64 ((wrap64 ((l0.length : Int) - a1)) + (Int.tmod (wrap64 (a2 - 1)) a1))) < (l0.length : Int) then (some (rd l0 (wrap64 ((wrap64 ((l0.length : Int) - a1)) + (Int.tmod (wrap64 (a2 - 1)) a1))), 0)) else (none)) else (none)))) = some (r1, r2) := by rw [if_pos rfl] at H; exact H
 clear H; have H := H1; clear H1; by_cases c8 : (l0.length : Int) < a1
 · rw [if_pos c8] at H; have c8b0 := zdt c8; clear c8; simp only [Option.some.injEq, Prod.mk.injEq] at H; obtain ⟨rfl, rfl⟩ := H; go_enter Try.func138, Try.ntmps138
   go_wp2_with (first | ((with_reducible refine zaf (f := 143) rfl ?_); refine zat (some 9) rfl rfl Try.func143 zq6 rfl #[.int .i64 a1] rfl zq1 ?_; (with_reducible refine (zbn.calls a1 true _ A4.out).mono ?_); rintro e w' ⟨rfl, ⟨nd, rfl⟩⟩; refine ⟨_, rfl, ?_⟩) | (go_at_call 143; (with_reducible refine (zbn.calls a2 true _ A6.out).mono ?_); rintro e w' ⟨rfl, ⟨nd, rfl⟩⟩))
   go_ret2
   exact ⟨zq2, zq3⟩
 rw [if_neg c8] at H; have c8b0 := zdf c8; clear c8; by_cases c9 : a1 = 0
 · rw [if_pos c9] at H; exact absurd H (by simp)
 rw [if_neg c9] at H; have c9b0 : (a1 == 0) = false := beq_eq_false_iff_ne.mpr c9; have c9b1 : (a1 != 0) = true := bne_iff_ne.mpr c9; obtain ⟨ji10, hji10⟩ : ∃ j_ : Int, (wrap64 ((wrap64 ((l0.length : Int) - a1)) + (Int.tmod (wrap64 (a2 - 1)) a1))) = j_ := ⟨_, rfl⟩
 replace H : (if 0 ≤ (ji10) then (if (ji10) < (l0.length : Int) then (some (rd l0 (ji10), 0)) else (none)) else (none)) = some (r1, r2) := by first | (rw [hji10] at H; exact H) | (simp only [hji10] at H ⊢; exact H)
 (try rw [hji10] at A4)
 (try rw [hji10] at A6)
 have hji10w : (IntKind.i64.wrap ((wrap64 ((l0.length : Int) - a1)) + (Int.tmod (wrap64 (a2 - 1)) a1))) = ji10 := (zaF _).trans hji10; by_cases c11 : 0 ≤ (ji10); rotate_left
 · rw [if_neg c11] at H; exact absurd H (by simp)
 rw [if_pos c11] at H; have c11b0 := zdt c11; clear c11; by_cases c12 : (ji10) < (l0.length : Int); rotate_left
 · rw [if_neg c12] at H; exact absurd H (by simp)
 rw [if_pos c12] at H; have c12b0 := zdt c12; clear c12; simp only [Option.some.injEq, Prod.mk.injEq] at H; obtain ⟨rfl, rfl⟩ := H; go_enter Try.func138, Try.ntmps138
 go_wp2_with (first | ((with_reducible refine zaf (f := 143) rfl ?_); refine zat (some 9) rfl rfl Try.func143 zq6 rfl #[.int .i64 a1] rfl zq1 ?_; (with_reducible refine (zbn.calls a1 true _ A4.out).mono ?_); rintro e w' ⟨rfl, ⟨nd, rfl⟩⟩; refine ⟨_, rfl, ?_⟩) | (go_at_call 143; (with_reducible refine (zbn.calls a2 true _ A6.out).mono ?_); rintro e w' ⟨rfl, ⟨nd, rfl⟩⟩; have p108 : 0 ≤ ((ji10) : Int) := zod zq5; have q108 : (ji10) < (l0.length : Int) := zod zq5; obtain ⟨ad108, e108, hx108_0⟩ := Kd.zbE HR0.out (ji10) p108 q108; cases e108; replace p108 := eq_true p108; replace q108 := eq_true q108))
 go_ret2
 exact ⟨zmW, zq3⟩
end Go.Proofs.Ytemnfnbjapobcaa.Cm
end
section
namespace Go.Proofs.Ytemnfnbjapobcaa.Cm
open Go.RowKit Go.Proofs.ZW.PrintWords Go.Proofs.ZW.PrintLast Go.Proofs.ZW.PrintMore
open Go.Proofs.Ytemnfnbjapobcaa.FS Go.Proofs.Ytemnfnbjapobcaa.HS Go.Proofs.Ytemnfnbjapobcaa.FM
theorem zrb {a b : Int} (ha : FS.In a) (hb : FS.In b) : zbQ.f a b = some (addS a b) := by
 unfold zbQ.f; rw [if_pos (by simp [zbO.mpr ha, zbO.mpr hb])]
theorem zpY {a b : Int} (ha : FS.In a) (hb : FS.In b) : zaW.f a b = some (addS a b) := by
 unfold zaW.f; rw [if_pos (by simp [zbO.mpr ha, zbO.mpr hb])]
theorem zqp {a b : Int} (ha : FS.In a) (hb : FS.In b) : zcz.f a b = some (distS a b) := by
 unfold zcz.f; rw [if_pos (by simp [zbO.mpr ha, zbO.mpr hb])]
theorem zpb {a b : Int} (ha : FS.In a) (hb : FS.In b) : zbZ.f a b = some (distS a b) := by
 unfold zbZ.f; rw [if_pos (by simp [zbO.mpr ha, zbO.mpr hb])]
def mis (l : List Int) (s : Nat) (m : Int) (i d : Nat) : Int := (List.range' i d).foldl (fun q j => addS q (distS (l.getD j 0) (l.getD (j - s) 0))) m
theorem zlE (l : List Int) (s : Nat) (m : Int) (i : Nat) : mis l s m i 0 = m := rfl
theorem zlF (l : List Int) (s : Nat) (m : Int) (i d : Nat) : mis l s m i (d + 1) = mis l s (addS m (distS (l.getD i 0) (l.getD (i - s) 0))) (i + 1) d := by
 unfold mis; rw [List.range'_succ, List.foldl_cons]
theorem zek (xs : List Int) (i : Nat) : rd xs (i : Int) = xs.getD i 0 := rfl
theorem zmJ (a b : Int) : FS.In (distS a b) := by unfold distS; split <;> exact zfo _
theorem zqf (l : List Int) (hl : l.length ≤ 1000000000) (hin : AllIn l) (s d : Nat) : ∀ (i : Nat) (m : Int), i + d = l.length → s ≤ i → FS.In m → zci.l0 (d + 1) l (s : Int) m (i : Int) = some (mis l s m i d, 0) := by
 induction d with
 | zero =>
  intro i m hi hs hm; simp only [zci.l0]; rw [if_neg zq8, zlE]
 | succ d ih =>
  intro i m hi hs hm; have e : wrap64 ((i : Int) + 1) = ((i + 1 : Nat) : Int) := by rw [zaI zq8 zq8]; omega
  have e1 : wrap64 ((i : Int) - s) = ((i - s : Nat) : Int) := by rw [zaI zq8 zq8]; omega
  have a1 := zcb hin i; have a2 := zcb hin (i - s); rw [zci.l0, if_pos zq8]; simp only [zei.f]; rw [if_pos zq8, if_pos zq8, e1, if_pos zq8, if_pos zq8, zek, zek, zqp a1 a2, Option.bind_some, zrb hm (zmJ _ _), Option.bind_some, e, zlF]; exact ih (i + 1) _ zq8 zq8 (zee _ _)
theorem zoX (l : List Int) (hl : l.length ≤ 1000000000) (hin : AllIn l) (s d : Nat) : ∀ (i : Nat) (m : Int), i + d = l.length → s ≤ i → FS.In m → zaB.l0 (d + 1) l (s : Int) m (i : Int) = some (mis l s m i d, 0) := by
 induction d with
 | zero =>
  intro i m hi hs hm; simp only [zaB.l0]; rw [if_neg zq8, zlE]
 | succ d ih =>
  intro i m hi hs hm; have e : wrap64 ((i : Int) + 1) = ((i + 1 : Nat) : Int) := by rw [zaI zq8 zq8]; omega
  have e1 : wrap64 ((i : Int) - s) = ((i - s : Nat) : Int) := by rw [zaI zq8 zq8]; omega
  have a1 := zcb hin i; have a2 := zcb hin (i - s); rw [zaB.l0, if_pos zq8, if_pos zq8, e1, if_pos zq8, if_pos zq8, zek, zek, zpb a1 a2, Option.bind_some, zpY hm (zmJ _ _), Option.bind_some, e, zlF]; exact ih (i + 1) _ zq8 zq8 (zee _ _)
theorem zgf (n : Int) : zbn.f n = some (decide (1 ≤ n) && decide (n ≤ 10000)) := by
 unfold zbn.f; by_cases h : n ≥ 1
 · rw [if_pos h, zdt h]; rfl
 rw [if_neg h, zdf h]; rfl
theorem zqg (l : List Int) (hl : l.length ≤ 1000000000) (hin : AllIn l) (s last : Int) (hs : FS.In s) (hla : FS.In last) : ∃ k, zci.f k l s last = some (zcY l s last) := by
 obtain ⟨b0, b1⟩ := hla; by_cases c : s < 1 ∨ s > 10000 ∨ (l.length : Int) < s ∨ last < 1 ∨ s > (l.length : Int) - last; rotate_left
 · obtain ⟨S, rfl⟩ := Int.eq_ofNat_of_zero_le (show 0 ≤ s by omega); obtain ⟨L, rfl⟩ := Int.eq_ofNat_of_zero_le (show 0 ≤ last by omega); refine ⟨L + 1, ?_⟩; have e : wrap64 ((l.length : Int) - (L : Int)) = ((l.length - L : Nat) : Int) := by rw [zaI zq8 zq8]; omega
   unfold zcY; rw [if_neg c]; unfold zci.f; rw [zgf]; simp only [Option.bind_some]; rw [if_pos zeG, if_neg zq8, if_neg zq8, e, if_neg zq8, zqf l hl hin S L (l.length - L) 0 zq8 zq8 ⟨zaR, zaR⟩]; rfl
 refine ⟨1, ?_⟩; unfold zcY; rw [if_pos c]; unfold zci.f; rw [zgf]; simp only [Option.bind_some]; by_cases h1 : 1 ≤ s ∧ s ≤ 10000; rotate_left
 · rw [if_neg zeG]
 rw [if_pos (by simp [h1])]; by_cases h3 : (l.length : Int) < s
 · rw [if_pos h3]
 rw [if_neg h3]; by_cases h4 : last < 1
 · rw [if_pos h4]
 rw [if_neg h4, if_pos (by rw [zaI zq8 zq8]; omega)]
theorem zoY (l : List Int) (hl : l.length ≤ 1000000000) (hin : AllIn l) (s last : Int) (hs : FS.In s) (hla : FS.In last) : ∃ k, zaB.f k l s last = some (zcY l s last) := by
 obtain ⟨b0, b1⟩ := hla; by_cases c : s < 1 ∨ s > 10000 ∨ (l.length : Int) < s ∨ last < 1 ∨ s > (l.length : Int) - last; rotate_left
 · obtain ⟨S, rfl⟩ := Int.eq_ofNat_of_zero_le (show 0 ≤ s by omega); obtain ⟨L, rfl⟩ := Int.eq_ofNat_of_zero_le (show 0 ≤ last by omega); refine ⟨L + 1 + 1, ?_⟩; have e : wrap64 ((l.length : Int) - (L : Int)) = ((l.length - L : Nat) : Int) := by rw [zaI zq8 zq8]; omega
   have e2 : wrap64 ((l.length : Int) - (S : Int)) = ((l.length : Int) - (S : Int)) := zaI zq8 zq8; unfold zcY; rw [if_neg c]; unfold zaB.f; rw [if_neg zq8, if_neg zq8, if_neg zq8, if_neg zq8, e2, zdf zq8, zaB.j0, if_neg zaR, e, zoX l hl hin S L (l.length - L) 0 zq8 zq8 ⟨zaR, zaR⟩]; rfl
 refine ⟨1, ?_⟩; unfold zcY; rw [if_pos c]; have j1 : ∀ b, b = true → zaB.j0 1 l s last b = some (0, 1) := fun b hb => by
  rw [zaB.j0, if_pos hb]
 unfold zaB.f; by_cases h1 : s < 1
 · rw [if_pos h1]; exact j1 _ rfl
 rw [if_neg h1]; by_cases h2 : s > 10000
 · rw [if_pos h2]; exact j1 _ rfl
 rw [if_neg h2]; by_cases h3 : last < 1
 · rw [if_pos h3]; exact j1 _ rfl
 rw [if_neg h3]; by_cases h4 : (l.length : Int) < s
 · rw [if_pos h4]; exact j1 _ rfl
 rw [if_neg h4]; exact j1 _ (zdt (by rw [zaI zq8 zq8]; omega))
theorem zpJ {n s a : Nat} (h1 : 1 ≤ s) (h2 : s ≤ n) (h3 : 1 ≤ a) (hn : n ≤ 1000000000) (ha : a ≤ 10000) : wrap64 (wrap64 ((n : Int) - (s : Int)) + Int.tmod (wrap64 ((a : Int) - 1)) (s : Int)) = ((n - s + (a - 1) % s : Nat) : Int) ∧ n - s + (a - 1) % s < n := by
 have hm : (a - 1) % s < s := Nat.mod_lt _ zq8; have e1 : wrap64 ((a : Int) - 1) = ((a - 1 : Nat) : Int) := by rw [zaI zq8 zq8]; omega
 have e2 : Int.tmod ((a - 1 : Nat) : Int) (s : Int) = (((a - 1) % s : Nat) : Int) := rfl; have e3 : wrap64 ((n : Int) - (s : Int)) = ((n - s : Nat) : Int) := by rw [zaI zq8 zq8]; omega
 refine ⟨?_, zq8⟩; rw [e1, e2, e3, zaI zq8 zq8]; omega
theorem zqs (l : List Int) (hl : l.length ≤ 1000000000) (s ahead : Int) (hs : FS.In s) (ha : FS.In ahead) : zeQ.f l s ahead = some (zdk l s ahead) := by
 unfold zeQ.f zdk; rw [zgf, zgf]; simp only [Option.bind_some]; by_cases h1 : 1 ≤ s ∧ s ≤ 10000; rotate_left
 · rw [if_neg zeG, if_pos zq8]
 rw [if_pos (by simp [h1])]; by_cases h2 : 1 ≤ ahead ∧ ahead ≤ 10000; rotate_left
 · rw [if_neg zeG, if_pos zq8]
 rw [if_pos (by simp [h2])]; by_cases h3 : (l.length : Int) < s
 · rw [if_pos h3, if_pos zq8]
 obtain ⟨S, rfl⟩ := Int.eq_ofNat_of_zero_le (show 0 ≤ s by omega); obtain ⟨L, rfl⟩ := Int.eq_ofNat_of_zero_le (show 0 ≤ ahead by omega); obtain ⟨p1, p2⟩ := zpJ (n := l.length) (s := S) (a := L) zq8 zq8 zq8 hl zq8; rw [if_neg h3, if_neg zq8, p1, if_pos zq8, if_pos zq8, if_neg zq8]; rfl
theorem zpi (l : List Int) (hl : l.length ≤ 1000000000) (s ahead : Int) (hs : FS.In s) (ha : FS.In ahead) : zdl.f l s ahead = some (zdk l s ahead) := by
 unfold zdl.f zdk; by_cases c : s < 1 ∨ s > 10000 ∨ ahead < 1 ∨ ahead > 10000 ∨ (l.length : Int) < s; rotate_left
 · obtain ⟨S, rfl⟩ := Int.eq_ofNat_of_zero_le (show 0 ≤ s by omega); obtain ⟨L, rfl⟩ := Int.eq_ofNat_of_zero_le (show 0 ≤ ahead by omega); obtain ⟨p1, p2⟩ := zpJ (n := l.length) (s := S) (a := L) zq8 zq8 zq8 hl zq8; rw [if_neg c, if_neg zq8, if_neg zq8, if_neg zq8, if_neg zq8, if_neg zq8, if_neg zq8, p1, if_pos zq8, if_pos zq8]; rfl
 rw [if_pos c]; by_cases h1 : s < 1
 · rw [if_pos h1]
 rw [if_neg h1]; by_cases h2 : s > 10000
 · rw [if_pos h2]
 rw [if_neg h2]; by_cases h3 : ahead < 1
 · rw [if_pos h3]
 rw [if_neg h3]; by_cases h4 : ahead > 10000
 · rw [if_pos h4]
 rw [if_neg h4, if_pos zq8]
theorem seasonMiss : Ho.SeasonMiss := fun W A c l s last h hc hin hs hla hll => by
 obtain ⟨k, e⟩ := zqg l hll hin s last hs hla; exact zci.calls k A c l s last _ _ W h hc e
theorem seasonCast : Ho.SeasonCast := fun W A c l s ahead h hc hin hs ha hll => by
 refine (zeQ.calls A c l s ahead _ _ W h hc (zqs l hll s ahead hs ha)).mono ?_; rintro e w' ⟨rfl, hd⟩; obtain ⟨m, rfl⟩ := hd.out; exact ⟨rfl, zaj (Below.refl _ _) _⟩
theorem zls (A : Option Addr) (c : Nat) (l : List Int) (s last : Int) (W : World) (h : Kd.C (Kd.int .i64) W A l.length l) (hc : l.length ≤ c) (hin : AllIn l) (hs : FS.In s) (hla : FS.In last) (hll : l.length ≤ 1000000000) :
  Calls Try.prog 76 #[.slice A l.length c, .int .i64 s, .int .i64 last] W fun e w' => e = .returned (.tuple #[.int .i64 (zcY l s last).1, .int .i64 (zcY l s last).2]) ∧ Below W.heap.size W w' := by
 obtain ⟨k, e⟩ := zoY l hll hin s last hs hla; refine (zaB.calls k A c l s last _ _ W h hc e).mono ?_; rintro e w' ⟨rfl, hd⟩; obtain ⟨m, rfl⟩ := hd.out; exact ⟨rfl, zaj (Below.refl _ _) _⟩
theorem ziO (A : Option Addr) (c : Nat) (l : List Int) (s ahead : Int) (W : World) (h : Kd.C (Kd.int .i64) W A l.length l) (hc : l.length ≤ c) (hs : FS.In s) (ha : FS.In ahead) (hll : l.length ≤ 1000000000) :
  Calls Try.prog 79 #[.slice A l.length c, .int .i64 s, .int .i64 ahead] W fun e w' => e = .returned (.tuple #[.int .i64 (zdk l s ahead).1, .int .i64 (zdk l s ahead).2]) ∧ Below W.heap.size W w' := by
 refine (zdl.calls A c l s ahead _ _ W h hc (zpi l hll s ahead hs ha)).mono ?_; rintro e w' ⟨rfl, hd⟩; obtain ⟨m, rfl⟩ := hd.out; exact ⟨rfl, zaj (Below.refl _ _) _⟩
end Go.Proofs.Ytemnfnbjapobcaa.Cm
end
section
namespace Go.Proofs.Ytemnfnbjapobcaa.Ho
open Go.RowKit Go.Proofs.ZW.PrintWords Go.Proofs.ZW.PrintLast Go.Proofs.ZW.PrintMore
open Go.Proofs.Ytemnfnbjapobcaa.FS Go.Proofs.Ytemnfnbjapobcaa.HS Go.Proofs.Ytemnfnbjapobcaa.FM
theorem zor {l : List Int} (hin : AllIn l) (s : Int) (o : Option Mo) (ahead : Int) : FS.In (zbJ l s o ahead).1 := by
 have z : FS.In 0 := ⟨zaR, zaR⟩
 cases o with
 | none =>
  show FS.In (zdk l s ahead).1
  unfold zdk; split
  · exact z
  · exact zcb hin _
 | some m =>
  show FS.In (zcl (zbG l m) ahead).1
  unfold zcl; split
  · exact z
  · exact zee _ _
theorem ziv {l : List Int} {s : Int} (h : s < 1 ∨ s > 10000 ∨ (l.length : Int) / 3 < s) : zeW l s = (0, 0, 1) := by unfold zeW; rw [if_pos h]
theorem zkf {s : Int} {j : Nat} {m : Mo} (h : (zbt s)[j]? = some m) : zhx (zbt s) (j : Int) = m := by
 unfold zhx; rw [Int.toNat_natCast, List.getD_eq_getElem?_getD, h]; rfl
theorem zgV {s : Int} (h1 : 1 ≤ s) (h2 : s ≤ 10000) (W : World) : Calls Try.prog 42 #[.int .i64 s] W fun e w' => ∃ (B : Option Addr) (d : Nat), e = .returned (.slice B 8 d) ∧ 8 ≤ d ∧ Kd.C kMo w' B 8 (zbt s) ∧ Below W.heap.size W w' := by
 refine (zkJ s W).mono ?_; rintro e w' ⟨v, rfl, hr, hb⟩; have hms : zed s = zbt s := if_neg zq8; rw [hms] at hr; obtain ⟨B, d, rfl, hd, hC⟩ := Kd.zew hr; exact ⟨B, d, rfl, hd, hC, hb⟩
theorem ziM (A : Option Addr) (c : Nat) (l : List Int) (s : Int) (w : World) (hr : Kd.C (Kd.int .i64) w A l.length l) (hc : l.length ≤ c) (hin : AllIn l) (hs : FS.In s) (hll : l.length ≤ 1000000000) :
  Calls Try.prog 39 #[.slice A l.length c, .int .i64 s] w fun e w' => e = .returned (.tuple #[.int .i64 (zeW l s).1, .int .i64 (zeW l s).2.1, .int .i64 (zeW l s).2.2]) ∧ Below w.heap.size w w' := by
 obtain ⟨D, hD⟩ : ∃ D, l.length / 3 = D := ⟨_, rfl⟩
 have hD3 : (l.length : Int) / 3 = (D : Int) := by omega
 have t3 : Int.tdiv (l.length : Int) 3 = (D : Int) := by rw [Int.tdiv_eq_ediv_of_nonneg zq8]; exact hD3
 have t4 : wrap64 (D : Int) = (D : Int) := zaI zq8 zq8; have HR := zaa.mk hr; clear hr; by_cases h1 : s < 1
 · have c1 := zdt h1; have e0 : zeW l s = (0, 0, 1) := by exact ziv zq8
   rw [e0]; clear e0 h1; go_enter Try.func39, Try.ntmps39
   go_wp2; refine bodyPost_ret (v := .tuple #[.int .i64 0, .int .i64 0, .int .i64 1]) (by simp [results, Try.results39, go_sem]) rfl ?_; exact ⟨rfl, Below.refl _ _⟩
 have c1 := zdf h1; by_cases h2 : s > 10000
 · have c2 := zdt h2; have e0 : zeW l s = (0, 0, 1) := by exact ziv zq8
   rw [e0]; clear e0 h1 h2; go_enter Try.func39, Try.ntmps39
   go_wp2; refine bodyPost_ret (v := .tuple #[.int .i64 0, .int .i64 0, .int .i64 1]) (by simp [results, Try.results39, go_sem]) rfl ?_; exact ⟨rfl, Below.refl _ _⟩
 have c2 := zdf h2; by_cases h3 : (D : Int) < s
 · have c3 := zdt h3; have e0 : zeW l s = (0, 0, 1) := by exact ziv zq8
   rw [e0]; clear e0 h1 h2 h3; go_enter Try.func39, Try.ntmps39
   go_wp2; refine bodyPost_ret (v := .tuple #[.int .i64 0, .int .i64 0, .int .i64 1]) (by simp [results, Try.results39, go_sem]) rfl ?_; exact ⟨rfl, Below.refl _ _⟩
 have c3 := zdf h3; obtain ⟨N, rfl⟩ := Int.eq_ofNat_of_zero_le (show 0 ≤ s by omega); have g3 : ¬ D < N := by omega
 have hn : ¬ zcv l (N : Int) := by unfold zcv; omega
 have e0 : zeW l (N : Int) = ((zcs l N 9).1, (zcs l N 9).2, 0) := by unfold zeW; rw [if_neg zq8]; rfl
 rw [e0]; have KN : zaa (∀ W, Kd.C (Kd.int .i64) W A l.length l → Calls Try.prog 76 #[.slice A l.length c, .int .i64 (N : Int), .int .i64 (N : Int)] W fun e w' => e = .returned (.tuple #[.int .i64 (zcY l N N).1, .int .i64 0]) ∧ Below W.heap.size W w') := ⟨fun W h => by
  have := Cm.zls A c l (N : Int) (N : Int) W h hc hin hs hs hll; rwa [zlC hn] at this⟩
 have KM := zaa.mk (fun W => zgV (s := (N : Int)) zq8 zq8 W); have KS : zaa (∀ W m, m ∈ zbt (N : Int) → Kd.C (Kd.int .i64) W A l.length l → Calls Try.prog 36 #[.slice A l.length c, moV m, .int .i64 (N : Int)] W fun e w' => e = .returned (.tuple #[.int .i64 (zcS l m N).1, .int .i64 0]) ∧ Below W.heap.size W w') := ⟨fun W m hm h => by
  have := zlY A c l m (N : Int) W h hc hin (by rw [(zfv (s := (N : Int)) zq8 zq8 hm).1]; exact hs) hs hll; rwa [(zmC hn hm).1] at this⟩
 clear e0 h1 h2 h3 hn hD hD3; go_enter Try.func39, Try.ntmps39
 go_wp2_with (first | (go_at_call 76; (with_reducible refine (KN.out _ HR.out).mono ?_); rintro e w1 ⟨rfl, hb⟩; have HB1 := zaa.mk hb; clear hb) | (go_at_call 42; (with_reducible refine (KM.out _).mono ?_); rintro e w2 ⟨B, d, rfl, hd, hC, hb⟩; have HW := zaa.mk (And.intro hC (HB1.out.trans (hb.mono HB1.out.size))); clear hC hb))
 go_loopg [7, 8, 11] 8 (fun kq v7 v8 v11 W' => ∃ (i : Nat) (q1 q2 : Int), v7 = .int .i64 q1 ∧ v8 = .int .i64 q2 ∧ v11 = .int .i64 (i : Int) ∧ zaa (zcs l (N : Int) (i + 1) = (q1, q2)) ∧ zaa (kq + i = 8) ∧ zaa (Below w2.heap.size w2 W'))
 case atStart => exact ⟨0, 0, _, rfl, rfl, rfl, ⟨rfl⟩, ⟨rfl⟩, ⟨Below.refl _ _⟩⟩
 case round =>
  obtain ⟨i, q1, q2, rfl, rfl, rfl, HQ, HK, HB⟩ := hrel; obtain ⟨U, rfl⟩ : ∃ U : World, U = wr := ⟨_, rfl⟩
  have HBW := zaa.mk (HW.out.2.trans (HB.out.mono HW.out.2.size)); by_cases ci : i < 8; rotate_left
  · have c9 : decide ((i : Int) < 8) = false := zdf zq8; obtain rfl : i = 8 := by have := HK.out; omega
    go_wp2; refine bodyPost_ret (v := .tuple #[.int .i64 q1, .int .i64 q2, .int .i64 0]) (by simp [results, Try.results39, go_sem]) rfl ?_; rw [show zcs l (N : Int) 9 = (q1, q2) from HQ.out]; exact ⟨rfl, HBW.out⟩
  have c9 : decide ((i : Int) < 8) = true := zdt zq8; obtain ⟨m, hmj⟩ : ∃ m, (zbt (N : Int))[i]? = some m := ⟨_, List.getElem?_eq_getElem (show i < (zbt (N : Int)).length by simp [zbt]; omega)⟩
  obtain ⟨ad, e, r0, r1, r2, r3⟩ := zkV (Kd.zaL HW.out.1 HB.out) (i : Int) zq8 zq8
  cases e; rw [zkf hmj, Int.toNat_natCast] at r0 r1 r2 r3; have hnx := ziu (l := l) hmj; rw [show zcs l (N : Int) (i + 1) = (q1, q2) from HQ.out] at hnx; unfold zgO at hnx; have KS1 := zaa.mk (fun W => KS.out W m (List.mem_of_getElem? hmj)); obtain ⟨x, hx⟩ : ∃ x, (zcS l m N).1 = x := ⟨_, rfl⟩
  dsimp only at hnx; rw [hx] at KS1 hnx; have HV := zaa.mk hnx; have c8 : wrap64 ((i : Int) + 1) = (i : Int) + 1 := zaI zq8 zq8; obtain ⟨n, ma, mb, mc⟩ := m; dsimp only [moV] at *; clear hmj hnx hx
  cases gk with
  | zero => exact absurd HK.out zq8
  | succ k1 =>
   by_cases cx : x < q2
   · have c5 := zdt cx; go_wp2_with (go_at_call 36; (with_reducible refine (KS1.out _ (Kd.zaL HR.out HBW.out)).mono ?_); rintro e w3 ⟨rfl, hb⟩; have HB3 := zaa.mk hb; clear hb)
     go_roundg k1
     case measure => omega
     case rel =>
      refine ⟨i + 1, (i : Int) + 1, x, zbR, rfl, zbR, ⟨?_⟩, ⟨zdh⟩, ⟨HB.out.trans (HB3.out.mono HB.out.size)⟩⟩; rw [HV.out, if_pos cx]
   have c5 := zdf cx; go_wp2_with (go_at_call 36; (with_reducible refine (KS1.out _ (Kd.zaL HR.out HBW.out)).mono ?_); rintro e w3 ⟨rfl, hb⟩; have HB3 := zaa.mk hb; clear hb)
   go_roundg k1
   case measure => omega
   case rel =>
    refine ⟨i + 1, q1, q2, rfl, rfl, zbR, ⟨?_⟩, ⟨zdh⟩, ⟨HB.out.trans (HB3.out.mono HB.out.size)⟩⟩; rw [HV.out, if_neg (Int.not_lt.mpr cx)]
theorem zpz {l : List Int} {m : Mo} (h : zcr l m = 0) (a : Int) : zgN l m a = zcl (zbG l m) a := by unfold zgN; rw [if_neg (by rw [h]; decide)]
theorem zpE {j : Nat} (hj : j < 8) : wrap64 ((j : Int) + 1) = (j : Int) + 1 ∧ wrap64 ((j : Int) + 1 - 1) = (j : Int) ∧ (((j : Int) + 1 = 0) = False) ∧ (j : Int) + 1 - 1 = (j : Int) := by
 refine ⟨zaI zq8 zq8, ?_, eq_false zq8, zq8⟩; rw [zaI zq8 zq8]; omega
theorem ziF (l : List Int) (s : Int) : ((zcs l s 9).1 = 0 ∧ zfl s (zcs l s 9).1 = none) ∨ ∃ (j : Nat) (m : Mo), (zcs l s 9).1 = (j : Int) + 1 ∧ (zbt s)[j]? = some m ∧ zfl s (zcs l s 9).1 = some m := by
 rcases zje l s 9 (Nat.le_refl _) with e | ⟨j, m, e, hm⟩
 · exact .inl ⟨e, by rw [e]; rfl⟩
 · refine .inr ⟨j, m, e, hm, ?_⟩; rw [e]; unfold zfl; rw [if_neg zq8, show ((j : Int) + 1 - 1).toNat = j by omega]; exact hm
theorem zlR {l : List Int} {s : Int} (h : ¬ zcv l s) : zeW l s = ((zcs l s 9).1, (zcs l s 9).2, 0) := by
 unfold zcv at h; unfold zeW; rw [if_neg h]; rfl
theorem zlf {l : List Int} {s : Int} (h : ¬ (l.length : Int) / 3 < s) : zcQ l s = zfl s (zcs l s 9).1 := by
 unfold zcQ; rw [if_neg h]; rfl
theorem zkL (A : Option Addr) (c : Nat) (l : List Int) (s ahead : Int) (w : World) (hr : Kd.C (Kd.int .i64) w A l.length l) (hc : l.length ≤ c) (hin : AllIn l) (hs : FS.In s) (ha : FS.In ahead) (hll : l.length ≤ 1000000000) :
  Calls Try.prog 44 #[.slice A l.length c, .int .i64 s, .int .i64 ahead] w fun e w' => e = .returned (.tuple #[.int .i64 (zcP l s ahead).1, .int .i64 (zcP l s ahead).2]) ∧ Below w.heap.size w w' := by
 obtain ⟨D, hD⟩ : ∃ D, l.length / 3 = D := ⟨_, rfl⟩
 have hD3 : (l.length : Int) / 3 = (D : Int) := by omega
 have t3 : Int.tdiv (l.length : Int) 3 = (D : Int) := by rw [Int.tdiv_eq_ediv_of_nonneg zq8]; exact hD3
 have t4 : wrap64 (D : Int) = (D : Int) := zaI zq8 zq8; have HR := zaa.mk hr; clear hr; by_cases h1 : s < 1
 · have c1 := zdt h1; have e0 : zcP l s ahead = (0, 1) := by unfold zcP; rw [if_pos zhR]
   rw [e0]; clear e0 h1; go_enter Try.func44, Try.ntmps44
   go_wp2; go_ret2
   exact ⟨rfl, Below.refl _ _⟩
 have c1 := zdf h1; by_cases h2 : s > 10000
 · have c2 := zdt h2; have e0 : zcP l s ahead = (0, 1) := by unfold zcP; rw [if_pos zhR]
   rw [e0]; clear e0 h1 h2; go_enter Try.func44, Try.ntmps44
   go_wp2; go_ret2
   exact ⟨rfl, Below.refl _ _⟩
 have c2 := zdf h2; by_cases h3 : ahead < 1
 · have c3 := zdt h3; have e0 : zcP l s ahead = (0, 1) := by unfold zcP; rw [if_pos zhR]
   rw [e0]; clear e0 h1 h2 h3; go_enter Try.func44, Try.ntmps44
   go_wp2; go_ret2
   exact ⟨rfl, Below.refl _ _⟩
 have c3 := zdf h3; by_cases h4 : ahead > 10000
 · have c4 := zdt h4; have e0 : zcP l s ahead = (0, 1) := by unfold zcP; rw [if_pos zhR]
   rw [e0]; clear e0 h1 h2 h3 h4; go_enter Try.func44, Try.ntmps44
   go_wp2; go_ret2
   exact ⟨rfl, Below.refl _ _⟩
 have c4 := zdf h4; by_cases h5 : (l.length : Int) < s
 · have c5 := zdt h5; have e0 : zcP l s ahead = (0, 1) := by unfold zcP; rw [if_pos zhR]
   rw [e0]; clear e0 h1 h2 h3 h4 h5; go_enter Try.func44, Try.ntmps44
   go_wp2; go_ret2
   exact ⟨rfl, Below.refl _ _⟩
 have c5 := zdf h5; have hno : ¬ zda l s ahead := by unfold zda; omega
 have e0 : zcP l s ahead = ((zbJ l s (zcQ l s) ahead).1, 0) := by unfold zcP; rw [if_neg hno]
 have e2 := zkD hno; rw [e0]; clear e0; have KF : zaa (∀ W, (zbJ l s none ahead).2 = 0 → Kd.C (Kd.int .i64) W A l.length l → Calls Try.prog 79 #[.slice A l.length c, .int .i64 s, .int .i64 ahead] W fun e w' => e = .returned (.tuple #[.int .i64 (zbJ l s none ahead).1, .int .i64 0]) ∧ Below W.heap.size W w') := ⟨fun W e h => by
  have := Cm.ziO A c l s ahead W h hc hs ha hll; rwa [show (zdk l s ahead).2 = 0 from e] at this⟩
 by_cases h6 : (D : Int) < s
 · have c6 := zdt h6; have ew : zcQ l s = none := by unfold zcQ; rw [if_pos zq8]
   rw [ew] at e2 ⊢; have E2 := zaa.mk e2; clear h1 h2 h3 h4 h5 h6 hno ew e2 hD hD3; go_enter Try.func44, Try.ntmps44
   go_wp2_with (go_at_call 79; (with_reducible refine (KF.out _ E2.out HR.out).mono ?_); rintro e w1 ⟨rfl, hb⟩; have HB1 := zaa.mk hb; clear hb)
   go_ret2
   exact ⟨rfl, HB1.out⟩
 have c6 := zdf h6; have hn : ¬ zcv l s := by unfold zcv; omega
 have KB : zaa (∀ W, Kd.C (Kd.int .i64) W A l.length l → Calls Try.prog 39 #[.slice A l.length c, .int .i64 s] W fun e w' => e = .returned (.tuple #[.int .i64 (zcs l s 9).1, .int .i64 (zcs l s 9).2, .int .i64 0]) ∧ Below W.heap.size W w') := ⟨fun W h => by
  have := ziM A c l s W h hc hin hs hll; rwa [zlR hn] at this⟩
 rw [zlf zq8] at e2 ⊢; obtain ⟨q, hq⟩ : ∃ q, (zcs l s 9).1 = q := ⟨_, rfl⟩
 obtain ⟨q2, hq2⟩ : ∃ q2, (zcs l s 9).2 = q2 := ⟨_, rfl⟩
 have hcs := ziF l s; rw [hq] at e2 KB hcs ⊢; rw [hq2] at KB
 rcases hcs with ⟨rfl, e3⟩ | ⟨j, m, rfl, hm, e3⟩
 · rw [e3] at e2 ⊢; have E2 := zaa.mk e2; clear h1 h2 h3 h4 h5 h6 hno e2 hq hq2 hn e3 hD hD3; go_enter Try.func44, Try.ntmps44
   go_wp2_with (first | (go_at_call 39; (with_reducible refine (KB.out _ HR.out).mono ?_); rintro e w1 ⟨rfl, hb⟩; have HB1 := zaa.mk hb; clear hb) | (go_at_call 79; (with_reducible refine (KF.out _ E2.out (Kd.zaL HR.out HB1.out)).mono ?_); rintro e w2 ⟨rfl, hb⟩; have HB2 := zaa.mk (HB1.out.trans (hb.mono HB1.out.size)); clear hb))
   go_ret2
   exact ⟨rfl, HB2.out⟩
 · have hj : j < 8 := by have := (List.getElem?_eq_some_iff.mp hm).1; simpa [zbt] using this
   have hst : zcr l m = 0 := zhu hn (List.mem_of_getElem? hm); rw [e3] at e2 ⊢; have KM := zaa.mk (fun W => zgV (s := s) zq8 zq8 W); have KH : zaa (∀ W, Kd.C (Kd.int .i64) W A l.length l → Calls Try.prog 34 #[.slice A l.length c, moV m, .int .i64 ahead] W fun e w' => e = .returned (.tuple #[.int .i64 (zbJ l s (some m) ahead).1, .int .i64 0]) ∧ Below W.heap.size W w') := ⟨fun W h => by
    have := zlZ A c l m ahead W h hc hin (by rw [(zfv (s := s) zq8 zq8 (List.mem_of_getElem? hm)).1]; exact hs) ha hll; rw [zpz hst] at this; rwa [show (zcl (zbG l m) ahead).2 = 0 from e2] at this⟩
   obtain ⟨w1, w2, w3, w4⟩ := zpE hj; have RD := zaa.mk (zkf hm); obtain ⟨r, hr⟩ : ∃ r, (zbJ l s (some m) ahead).1 = r := ⟨_, rfl⟩
   rw [hr] at KH ⊢; obtain ⟨n, ma, mb, mc⟩ := m; dsimp only [moV] at *; clear h1 h2 h3 h4 h5 h6 hno e2 hq hq2 hn e3 hD hD3 hm hst hr; go_enter Try.func44, Try.ntmps44
   go_wp2_with (first | (go_at_call 39; (with_reducible refine (KB.out _ HR.out).mono ?_); rintro e w1 ⟨rfl, hb⟩; have HB1 := zaa.mk hb; clear hb) | (go_at_call 42; (with_reducible refine (KM.out _).mono ?_); rintro e w2 ⟨B, d, rfl, hd, hC, hb⟩; obtain ⟨ad, ee, r0, r1, r2, r3⟩ := zkV hC (j : Int) zq8 zq8; cases ee; rw [RD.out, Int.toNat_natCast] at r0 r1 r2 r3; have HB2 := zaa.mk (HB1.out.trans (hb.mono HB1.out.size)); clear hb hC) | (go_at_call 34; (with_reducible refine (KH.out _ (Kd.zaL HR.out HB2.out)).mono ?_); rintro e w3 ⟨rfl, hb⟩; have HB3 := zaa.mk (HB2.out.trans (hb.mono HB2.out.size)); clear hb))
   go_ret2
   exact ⟨rfl, HB3.out⟩
theorem zfd {T P x p : Int} (h : max T P = p) : (p < x → x = max T (max P x)) ∧ (¬ p < x → p = max T (max P x)) := by omega
theorem zik {T : Int} (h : FS.In T) : max T (-9223372036854775808) = T := by have := h.1; omega
theorem zpg {l : List Int} {s : Int} {k : Nat} (h : ¬ zda l s ((k : Int) + 1)) : zde l s ((k : Int) + 1) = (max (zbJ l s (zcQ l s) ((k : Int) + 1)).1 (zcL l s (zcQ l s) k), 0) := by
 unfold zde; rw [if_neg h, show ((k : Int) + 1).toNat = k + 1 by omega]; show (max (zcL l s (zcQ l s) k) (zbJ l s (zcQ l s) ((k : Int) + 1)).1, (0 : Int)) = _
 rw [show ∀ a b : Int, max a b = max b a by intro a b; omega]
theorem zom {l : List Int} {s a : Int} (h : ¬ zda l s a) : zcP l s a = ((zbJ l s (zcQ l s) a).1, 0) := by unfold zcP; rw [if_neg h]
theorem znt {l : List Int} {s a : Int} (h : zda l s a) : zcP l s a = (0, 1) ∧ zde l s a = (0, 1) := by
 unfold zcP zde; exact ⟨if_pos h, if_pos h⟩
theorem zqz (j : Nat) : decide ((j : Int) + 1 > 0) = true := zdt zq8
theorem zna {k N : Nat} (h : k < N) (hN : N ≤ 10000) : wrap64 ((k : Int) + 1 + 1) = (k : Int) + 1 + 1 := zaI zq8 zq8
theorem zlX (A : Option Addr) (c : Nat) (l : List Int) (s ahead : Int) (w : World) (hr : Kd.C (Kd.int .i64) w A l.length l) (hc : l.length ≤ c) (hin : AllIn l) (hs : FS.In s) (ha : FS.In ahead) (hll : l.length ≤ 1000000000) :
  Calls Try.prog 46 #[.slice A l.length c, .int .i64 s, .int .i64 ahead] w fun e w' => e = .returned (.tuple #[.int .i64 (zde l s ahead).1, .int .i64 (zde l s ahead).2]) ∧ Below w.heap.size w w' := by
 obtain ⟨D, hD⟩ : ∃ D, l.length / 3 = D := ⟨_, rfl⟩
 have hD3 : (l.length : Int) / 3 = (D : Int) := by omega
 have t3 : Int.tdiv (l.length : Int) 3 = (D : Int) := by rw [Int.tdiv_eq_ediv_of_nonneg zq8]; exact hD3
 have t4 : wrap64 (D : Int) = (D : Int) := zaI zq8 zq8; have HR := zaa.mk hr; clear hr; have kc : ∀ W, Kd.C (Kd.int .i64) W A l.length l → Calls Try.prog 44 #[.slice A l.length c, .int .i64 s, .int .i64 ahead] W fun e w' => e = .returned (.tuple #[.int .i64 (zcP l s ahead).1, .int .i64 (zcP l s ahead).2]) ∧ Below W.heap.size W w' := fun W h => zkL A c l s ahead W h hc hin hs ha hll
 by_cases hno : zda l s ahead
 · obtain ⟨e1, e2⟩ := znt hno; rw [e1] at kc; rw [e2]; have KC := zaa.mk kc; clear kc e1 e2 hno hD hD3; go_enter Try.func46, Try.ntmps46
   go_wp2_with (go_at_call 44; (with_reducible refine (KC.out _ HR.out).mono ?_); rintro e w1 ⟨rfl, hb⟩; have HB1 := zaa.mk hb; clear hb)
   go_ret2
   exact ⟨rfl, HB1.out⟩
 obtain ⟨K, rfl⟩ : ∃ K : Nat, ahead = (K : Int) + 1 := by
  unfold zda at hno; exact ⟨(ahead - 1).toNat, zq8⟩
 rw [zom hno] at kc; rw [zpg hno]; have hno' := hno; unfold zda at hno'; have HN : zaa (K ≤ 10000) := ⟨zq8⟩
 have kf : ∀ k : Nat, k < K → ∀ W, Kd.C (Kd.int .i64) W A l.length l → Calls Try.prog 79 #[.slice A l.length c, .int .i64 s, .int .i64 ((k : Int) + 1)] W fun e w' => e = .returned (.tuple #[.int .i64 (zbJ l s none ((k : Int) + 1)).1, .int .i64 (zbJ l s none ((k : Int) + 1)).2]) ∧ Below W.heap.size W w' := fun k hk W h => Cm.ziO A c l s ((k : Int) + 1) W h hc hs ⟨zq8, zq8⟩ hll
 have HT0 := zor hin s (zcQ l s) ((K : Int) + 1); by_cases h6 : (D : Int) < s
 · have c6 : decide ((D : Int) ≥ s) = false := zdf zq8; have c7 : decide (s ≤ (D : Int)) = false := c6; have ew : zcQ l s = none := by unfold zcQ; rw [if_pos zq8]
   rw [ew] at kc HT0 ⊢; obtain ⟨T, hT⟩ : ∃ T, (zbJ l s none ((K : Int) + 1)).1 = T := ⟨_, rfl⟩
   rw [hT] at kc HT0 ⊢; have KC := zaa.mk kc; have HT := zaa.mk HT0; have KF := zaa.mk kf; clear kc HT0 kf hno' hno ew hT hD hD3 h6; go_enter Try.func46, Try.ntmps46
   go_wp2_with (go_at_call 44; (with_reducible refine (KC.out _ HR.out).mono ?_); rintro e w1 ⟨rfl, hb⟩; have HB0 := zaa.mk hb; clear hb)
   rw [t4]; go_loopg [8, 12] K (fun kq v8 v12 W' => ∃ (k : Nat) (p : Int), v8 = .int .i64 p ∧ v12 = .int .i64 ((k : Int) + 1) ∧ zaa (max T (zcL l s none k) = p) ∧ zaa (kq + k = K) ∧ zaa (Below w1.heap.size w1 W'))
   case atStart => exact ⟨0, T, rfl, rfl, ⟨zik HT.out⟩, ⟨rfl⟩, ⟨Below.refl _ _⟩⟩
   case round =>
    obtain ⟨k, p, rfl, rfl, HP, HK, HQ⟩ := hrel; obtain ⟨U, rfl⟩ : ∃ U : World, U = wr := ⟨_, rfl⟩
    by_cases ck : k < K; rotate_left
    · have c1 : decide ((k : Int) + 1 < (K : Int) + 1) = false := zdf zq8; have c1' : decide ((k : Int) < (K : Int)) = false := zdf zq8; obtain rfl : k = K := by have := HK.out; omega
      go_wp2; go_ret2
      rw [HP.out]; exact ⟨rfl, HB0.out.trans (HQ.out.mono HB0.out.size)⟩
    have c1 : decide ((k : Int) + 1 < (K : Int) + 1) = true := zdt zq8; have c1' : decide ((k : Int) < (K : Int)) = true := zdt zq8; have c2 := zna ck HN.out; have KFi := zaa.mk (KF.out k ck); obtain ⟨x, hx⟩ : ∃ x, (zbJ l s none ((k : Int) + 1)).1 = x := ⟨_, rfl⟩
    obtain ⟨x2, hx2⟩ : ∃ x, (zbJ l s none ((k : Int) + 1)).2 = x := ⟨_, rfl⟩
    rw [hx, hx2] at KFi; have HX : zaa (zcL l s none (k + 1) = max (zcL l s none k) x) := ⟨by rw [← hx]; rfl⟩
    clear hx hx2
    cases gk with
    | zero => exact absurd HK.out zq8
    | succ k1 =>
     by_cases cx : p < x
     · have c5 : decide (x > p) = true := zdt cx; go_wp2_with (go_at_call 79; (with_reducible refine (KFi.out _ (Kd.zaL HR.out (HB0.out.trans (HQ.out.mono HB0.out.size)))).mono ?_); rintro e w9 ⟨rfl, hb⟩; have HB9 := zaa.mk hb; clear hb)
       go_roundg k1
       case measure => omega
       case rel =>
        refine ⟨k + 1, x, rfl, zbR, ⟨?_⟩, ⟨zdh⟩, ⟨HQ.out.trans (HB9.out.mono HQ.out.size)⟩⟩; rw [HX.out]; exact ((zfd HP.out).1 cx).symm
     have c5 : decide (x > p) = false := zdf cx; go_wp2_with (go_at_call 79; (with_reducible refine (KFi.out _ (Kd.zaL HR.out (HB0.out.trans (HQ.out.mono HB0.out.size)))).mono ?_); rintro e w9 ⟨rfl, hb⟩; have HB9 := zaa.mk hb; clear hb)
     go_roundg k1
     case measure => omega
     case rel =>
      refine ⟨k + 1, p, rfl, zbR, ⟨?_⟩, ⟨zdh⟩, ⟨HQ.out.trans (HB9.out.mono HQ.out.size)⟩⟩; rw [HX.out]; exact ((zfd HP.out).2 (Int.not_lt.mpr cx)).symm
 have c6 : decide ((D : Int) ≥ s) = true := zdt zq8; have c7 : decide (s ≤ (D : Int)) = true := c6; have hn : ¬ zcv l s := by unfold zcv; omega
 have KB : zaa (∀ W, Kd.C (Kd.int .i64) W A l.length l → Calls Try.prog 39 #[.slice A l.length c, .int .i64 s] W fun e w' => e = .returned (.tuple #[.int .i64 (zcs l s 9).1, .int .i64 (zcs l s 9).2, .int .i64 0]) ∧ Below W.heap.size W w') := ⟨fun W h => by
  have := ziM A c l s W h hc hin hs hll; rwa [zlR hn] at this⟩
 rw [zlf zq8] at kc HT0 ⊢; have km := fun W => zgV (s := s) zq8 zq8 W
 have hmo : ∀ m, m ∈ zbt s → m.n = s := fun m hm => (zfv (s := s) zq8 zq8 hm).1
 obtain ⟨q, hq⟩ : ∃ q, (zcs l s 9).1 = q := ⟨_, rfl⟩
 obtain ⟨q2, hq2⟩ : ∃ q2, (zcs l s 9).2 = q2 := ⟨_, rfl⟩
 have hcs := ziF l s; rw [hq] at kc HT0 KB hcs ⊢; rw [hq2] at KB; clear hq hq2
 rcases hcs with ⟨rfl, e3⟩ | ⟨j, m, rfl, hm, e3⟩
 · rw [e3] at kc HT0 ⊢; obtain ⟨T, hT⟩ : ∃ T, (zbJ l s none ((K : Int) + 1)).1 = T := ⟨_, rfl⟩
   rw [hT] at kc HT0 ⊢; have KC := zaa.mk kc; have HT := zaa.mk HT0; have KF := zaa.mk kf; clear kc HT0 kf hno' hno e3 hT hD hD3 h6 km hmo hn; go_enter Try.func46, Try.ntmps46
   go_wp2_with (first | (go_at_call 44; (with_reducible refine (KC.out _ HR.out).mono ?_); rintro e w0 ⟨rfl, hb⟩; have HBa := zaa.mk hb; clear hb) | (go_at_call 39; (with_reducible refine (KB.out _ (Kd.zaL HR.out HBa.out)).mono ?_); rintro e w1 ⟨rfl, hb⟩; have HB0 := zaa.mk (HBa.out.trans (hb.mono HBa.out.size)); clear hb))
   go_loopg [8, 12] K (fun kq v8 v12 W' => ∃ (k : Nat) (p : Int), v8 = .int .i64 p ∧ v12 = .int .i64 ((k : Int) + 1) ∧ zaa (max T (zcL l s none k) = p) ∧ zaa (kq + k = K) ∧ zaa (Below w1.heap.size w1 W'))
   case atStart => exact ⟨0, T, rfl, rfl, ⟨zik HT.out⟩, ⟨rfl⟩, ⟨Below.refl _ _⟩⟩
   case round =>
    obtain ⟨k, p, rfl, rfl, HP, HK, HQ⟩ := hrel; obtain ⟨U, rfl⟩ : ∃ U : World, U = wr := ⟨_, rfl⟩
    by_cases ck : k < K; rotate_left
    · have c1 : decide ((k : Int) + 1 < (K : Int) + 1) = false := zdf zq8; have c1' : decide ((k : Int) < (K : Int)) = false := zdf zq8; obtain rfl : k = K := by have := HK.out; omega
      go_wp2; go_ret2
      rw [HP.out]; exact ⟨rfl, HB0.out.trans (HQ.out.mono HB0.out.size)⟩
    have c1 : decide ((k : Int) + 1 < (K : Int) + 1) = true := zdt zq8; have c1' : decide ((k : Int) < (K : Int)) = true := zdt zq8; have c2 := zna ck HN.out; have KFi := zaa.mk (KF.out k ck); obtain ⟨x, hx⟩ : ∃ x, (zbJ l s none ((k : Int) + 1)).1 = x := ⟨_, rfl⟩
    obtain ⟨x2, hx2⟩ : ∃ x, (zbJ l s none ((k : Int) + 1)).2 = x := ⟨_, rfl⟩
    rw [hx, hx2] at KFi; have HX : zaa (zcL l s none (k + 1) = max (zcL l s none k) x) := ⟨by rw [← hx]; rfl⟩
    clear hx hx2
    cases gk with
    | zero => exact absurd HK.out zq8
    | succ k1 =>
     by_cases cx : p < x
     · have c5 : decide (x > p) = true := zdt cx; go_wp2_with (go_at_call 79; (with_reducible refine (KFi.out _ (Kd.zaL HR.out (HB0.out.trans (HQ.out.mono HB0.out.size)))).mono ?_); rintro e w9 ⟨rfl, hb⟩; have HB9 := zaa.mk hb; clear hb)
       go_roundg k1
       case measure => omega
       case rel =>
        refine ⟨k + 1, x, rfl, zbR, ⟨?_⟩, ⟨zdh⟩, ⟨HQ.out.trans (HB9.out.mono HQ.out.size)⟩⟩; rw [HX.out]; exact ((zfd HP.out).1 cx).symm
     have c5 : decide (x > p) = false := zdf cx; go_wp2_with (go_at_call 79; (with_reducible refine (KFi.out _ (Kd.zaL HR.out (HB0.out.trans (HQ.out.mono HB0.out.size)))).mono ?_); rintro e w9 ⟨rfl, hb⟩; have HB9 := zaa.mk hb; clear hb)
     go_roundg k1
     case measure => omega
     case rel =>
      refine ⟨k + 1, p, rfl, zbR, ⟨?_⟩, ⟨zdh⟩, ⟨HQ.out.trans (HB9.out.mono HQ.out.size)⟩⟩; rw [HX.out]; exact ((zfd HP.out).2 (Int.not_lt.mpr cx)).symm
 · have hj : j < 8 := by have := (List.getElem?_eq_some_iff.mp hm).1; simpa [zbt] using this
   have hst : zcr l m = 0 := zhu hn (List.mem_of_getElem? hm); rw [e3] at kc HT0 ⊢; have KM := zaa.mk km; obtain ⟨n1, n2, n3, n4, s5, s6⟩ := zfC hst; have hmn := hmo m (List.mem_of_getElem? hm); have KS : zaa (∀ W, Kd.C (Kd.int .i64) W A l.length l → Calls Try.prog 25 #[.slice A l.length c, moV m] W fun e w' => ∃ b, e = .returned (.tuple #[.pointer (some ⟨b, 0, none⟩), .int .i64 0]) ∧ zdg w' W.heap.size w'.heap.size b m (zbG l m) ∧ Below W.heap.size W w') := ⟨fun W h => by
    refine (zgu A c l m W h hc hin (by rw [hmn]; exact hs) hll).mono (fun e w' h => ?_); unfold zcW at h; rwa [if_neg (by rw [hst]; decide)] at h⟩
   have KF : zaa (∀ k : Nat, k < K → ∀ b lo hi W, zdg W lo hi b m (zbG l m) → Calls Try.prog 29 #[.pointer (some ⟨b, 0, none⟩), .int .i64 ((k : Int) + 1)] W fun e w' => e = .returned (.tuple #[.int .i64 (zbJ l s (some m) ((k : Int) + 1)).1, .int .i64 (zbJ l s (some m) ((k : Int) + 1)).2]) ∧ Below W.heap.size W w') := ⟨fun k hk b lo hi W h => by
    exact zfW lo hi b m (zbG l m) ((k : Int) + 1) W h (zev l m) ⟨zq8, zq8⟩ zq8 zq8 zq8 zq8⟩
   obtain ⟨w1', w2', w3', w4'⟩ := zpE hj; have w5' := zqz j; have RD := zaa.mk (zkf hm); obtain ⟨T, hT⟩ : ∃ T, (zbJ l s (some m) ((K : Int) + 1)).1 = T := ⟨_, rfl⟩
   rw [hT] at kc HT0 ⊢; have KC := zaa.mk kc; have HT := zaa.mk HT0; obtain ⟨st, hst'⟩ : ∃ st, zbG l m = st := ⟨_, rfl⟩
   rw [hst'] at KS KF; have hK0 : ∃ o, o = some m := ⟨_, rfl⟩
   obtain ⟨o, ho⟩ := hK0; rw [← ho] at KF ⊢; clear ho hst' kc HT0 kf hno' hno e3 hT hD hD3 h6 km hmo hn hm hst n1 n2 n3 n4 s5 s6 hmn; obtain ⟨n, ma, mb, mc⟩ := m; dsimp only [moV] at *; go_enter Try.func46, Try.ntmps46
   go_wp2_with (first | (go_at_call 44; (with_reducible refine (KC.out _ HR.out).mono ?_); rintro e w0 ⟨rfl, hb⟩; have HBa := zaa.mk hb; clear hb) | (go_at_call 39; (with_reducible refine (KB.out _ (Kd.zaL HR.out HBa.out)).mono ?_); rintro e w1 ⟨rfl, hb⟩; have HBb := zaa.mk (HBa.out.trans (hb.mono HBa.out.size)); clear hb) | (go_at_call 42; (with_reducible refine (KM.out _).mono ?_); rintro e w2 ⟨B, d, rfl, hd, hC, hb⟩; obtain ⟨ad, ee, r0, r1, r2, r3⟩ := zkV hC (j : Int) zq8 zq8; cases ee; rw [RD.out, Int.toNat_natCast] at r0 r1 r2 r3; have HBc := zaa.mk (HBb.out.trans (hb.mono HBb.out.size)); clear hb hC) | (go_at_call 25; (with_reducible refine (KS.out _ (Kd.zaL HR.out HBc.out)).mono ?_); rintro e w3 ⟨b, rfl, hst, hb⟩; have HB0 := zaa.mk (HBc.out.trans (hb.mono HBc.out.size)); have HST := zaa.mk hst; clear hb hst))
   clear t3 t4 c6 c7 w1' w2'; go_loopg [8, 12] K (fun kq v8 v12 W' => ∃ (k : Nat) (p : Int), v8 = .int .i64 p ∧ v12 = .int .i64 ((k : Int) + 1) ∧ zaa (max T (zcL l s o k) = p) ∧ zaa (kq + k = K) ∧ zaa (Below w3.heap.size w3 W'))
   case atStart => exact ⟨0, T, rfl, rfl, ⟨zik HT.out⟩, ⟨rfl⟩, ⟨Below.refl _ _⟩⟩
   case round =>
    obtain ⟨k, p, rfl, rfl, HP, HK, HQ⟩ := hrel; obtain ⟨U, rfl⟩ : ∃ U : World, U = wr := ⟨_, rfl⟩
    by_cases ck : k < K; rotate_left
    · have c1 : decide ((k : Int) + 1 < (K : Int) + 1) = false := zdf zq8; have c1' : decide ((k : Int) < (K : Int)) = false := zdf zq8; obtain rfl : k = K := by have := HK.out; omega
      go_wp2; go_ret2
      rw [HP.out]; exact ⟨rfl, HB0.out.trans (HQ.out.mono HB0.out.size)⟩
    have c1 : decide ((k : Int) + 1 < (K : Int) + 1) = true := zdt zq8; have c1' : decide ((k : Int) < (K : Int)) = true := zdt zq8; have c2 := zna ck HN.out; have KFi := zaa.mk (KF.out k ck); obtain ⟨x, hx⟩ : ∃ x, (zbJ l s o ((k : Int) + 1)).1 = x := ⟨_, rfl⟩
    obtain ⟨x2, hx2⟩ : ∃ x, (zbJ l s o ((k : Int) + 1)).2 = x := ⟨_, rfl⟩
    rw [hx, hx2] at KFi; have HX : zaa (zcL l s o (k + 1) = max (zcL l s o k) x) := ⟨by rw [← hx]; rfl⟩
    clear hx hx2
    cases gk with
    | zero => exact absurd HK.out zq8
    | succ k1 =>
     by_cases cx : p < x
     · have c5 : decide (x > p) = true := zdt cx; go_wp2_with (go_at_call 29; (with_reducible refine (KFi.out b w2.heap.size w3.heap.size _ (HST.out.kept (S := fun _ => False) (zbM.of_below HQ.out _) (fun _ _ _ h => h))).mono ?_); rintro e w9 ⟨rfl, hb⟩; have HB9 := zaa.mk hb; clear hb)
       go_roundg k1
       case measure => omega
       case rel =>
        refine ⟨k + 1, x, rfl, zbR, ⟨?_⟩, ⟨zdh⟩, ⟨HQ.out.trans (HB9.out.mono HQ.out.size)⟩⟩; rw [HX.out]; exact ((zfd HP.out).1 cx).symm
     have c5 : decide (x > p) = false := zdf cx; go_wp2_with (go_at_call 29; (with_reducible refine (KFi.out b w2.heap.size w3.heap.size _ (HST.out.kept (S := fun _ => False) (zbM.of_below HQ.out _) (fun _ _ _ h => h))).mono ?_); rintro e w9 ⟨rfl, hb⟩; have HB9 := zaa.mk hb; clear hb)
     go_roundg k1
     case measure => omega
     case rel =>
      refine ⟨k + 1, p, rfl, zbR, ⟨?_⟩, ⟨zdh⟩, ⟨HQ.out.trans (HB9.out.mono HQ.out.size)⟩⟩; rw [HX.out]; exact ((zfd HP.out).2 (Int.not_lt.mpr cx)).symm
end Go.Proofs.Ytemnfnbjapobcaa.Ho
end
section
namespace Go.Proofs.Ytemnfnbjapobcaa
open Go.RowKit Go.Proofs.ZW.PrintWords
theorem zpH : zaa Ho.SeasonMiss := ⟨Cm.seasonMiss⟩
theorem zpI : zaa Ho.SeasonCast := ⟨Cm.seasonCast⟩
end Go.Proofs.Ytemnfnbjapobcaa
end
section
namespace Go.Proofs.Ytemnfnbjapobcaa.PS
structure Pol where
 mn : Int
 mx : Int
 per : Int
 stale : Int
 step : Int
 ahead : Int
 cool : Int
 season : Int
def okP (p : Pol) : Prop := 1 ≤ p.mn ∧ p.mn ≤ p.mx ∧ p.mx ≤ 1048576 ∧ 0 < p.per ∧ (1 ≤ p.stale ∧ p.stale ≤ 9007199254740992) ∧ (1 ≤ p.step ∧ p.step ≤ 9007199254740992) ∧ (0 ≤ p.cool ∧ p.cool ≤ 9007199254740992) ∧ 1 ≤ p.ahead ∧ p.ahead ≤ 100 ∧ 1 ≤ p.season ∧ p.season ≤ 500
instance (p : Pol) : Decidable (okP p) := by unfold okP; infer_instance
def checkP (p : Pol) : Int := if okP p then 0 else 31
end Go.Proofs.Ytemnfnbjapobcaa.PS
namespace Go.Proofs.Ytemnfnbjapobcaa.Ho
open Go.RowKit Go.Proofs.ZW.PrintWords Go.Proofs.ZW.PrintLast Go.Proofs.ZW.PrintMore
open Go.Proofs.Ytemnfnbjapobcaa.FS Go.Proofs.Ytemnfnbjapobcaa.HS Go.Proofs.Ytemnfnbjapobcaa.FM Go.Proofs.Ytemnfnbjapobcaa.PS
def zdI (p : Pol) : Value := .agg #[.int .i64 p.mn, .int .i64 p.mx, .int .i64 p.per, .int .i64 p.stale, .int .i64 p.step, .int .i64 p.ahead, .int .i64 p.cool, .int .i64 p.season]
theorem zic (n least : Int) (w : World) : Calls Try.prog 80 #[.int .i64 n, .int .i64 least] w fun e w' => e = .returned (.bool (decide (least ≤ n ∧ n ≤ 9007199254740992))) ∧ Drawn0 w w' := by
 by_cases h1 : n ≥ least; rotate_left
 · have c1 := zdf h1; have e : decide (least ≤ n ∧ n ≤ 9007199254740992) = false := zdf (fun h => h1 h.1); rw [e]; clear h1 e; go_enter Try.func80, Try.ntmps80
   go_wp2; go_ret; exact ⟨rfl, Drawn0.refl _⟩
 have c1 := zdt h1; by_cases h2 : n ≤ 9007199254740992
 · have c2 := zdt h2; have e : decide (least ≤ n ∧ n ≤ 9007199254740992) = true := zdt ⟨h1, h2⟩; rw [e]; clear h1 h2 e; go_enter Try.func80, Try.ntmps80
   go_wp2; go_ret; exact ⟨rfl, Drawn0.refl _⟩
 have c2 := zdf h2; have e : decide (least ≤ n ∧ n ≤ 9007199254740992) = false := zdf (fun h => h2 h.2); rw [e]; clear h1 h2 e; go_enter Try.func80, Try.ntmps80
 go_wp2; go_ret; exact ⟨rfl, Drawn0.refl _⟩
theorem zht {n least : Int} (h : least ≤ n ∧ n ≤ 9007199254740992) (w : World) : Calls Try.prog 80 #[.int .i64 n, .int .i64 least] w fun e w' => e = .returned (.bool true) ∧ Drawn0 w w' := by
 have := zic n least w; rwa [zdt h] at this
theorem zib {n least : Int} (h : ¬ (least ≤ n ∧ n ≤ 9007199254740992)) (w : World) : Calls Try.prog 80 #[.int .i64 n, .int .i64 least] w fun e w' => e = .returned (.bool false) ∧ Drawn0 w w' := by
 have := zic n least w; rwa [zdf h] at this
theorem zgz (p : Pol) (w : World) :
  Calls Try.prog 48 #[zdI p] w fun e w' => e = .returned (.int .i64 (checkP p)) ∧ Below w.heap.size w w' := by
 obtain ⟨mn, mx, per, stale, step, ahead, cool, season⟩ := p; dsimp only [zdI]; have bad : ¬ okP ⟨mn, mx, per, stale, step, ahead, cool, season⟩ → checkP ⟨mn, mx, per, stale, step, ahead, cool, season⟩ = 31 := fun h => if_neg h
 by_cases h1 : mn ≥ 1
 rotate_left
 · have e := bad zfQ; have c1 := zdf h1; rw [e]; clear e bad h1; go_enter Try.func48, Try.ntmps48
   go_wp2; go_ret; exact ⟨rfl, zaq (Below.refl _ _) _⟩
 have c1 := zdt h1; by_cases h2 : mn ≤ mx
 rotate_left
 · have e := bad zfQ; have c2 := zdf h2; rw [e]; clear e bad h1 h2; go_enter Try.func48, Try.ntmps48
   go_wp2; go_ret; exact ⟨rfl, zaq (Below.refl _ _) _⟩
 have c2 := zdt h2; by_cases h3 : mx ≤ 1048576
 rotate_left
 · have e := bad zfQ; have c3 := zdf h3; rw [e]; clear e bad h1 h2 h3; go_enter Try.func48, Try.ntmps48
   go_wp2; go_ret; exact ⟨rfl, zaq (Below.refl _ _) _⟩
 have c3 := zdt h3; by_cases h4 : per > 0
 rotate_left
 · have e := bad zfQ; have c4 := zdf h4; rw [e]; clear e bad h1 h2 h3 h4; go_enter Try.func48, Try.ntmps48
   go_wp2; go_ret; exact ⟨rfl, zaq (Below.refl _ _) _⟩
 have c4 := zdt h4; by_cases h5 : 1 ≤ stale ∧ stale ≤ 9007199254740992
 rotate_left
 · have e := bad zfQ; have c5 : _ := zaa.mk (zib h5); rw [e]; clear e bad h1 h2 h3 h4 h5; go_enter Try.func48, Try.ntmps48
   go_wp2_with (first | (go_at_call 80; (with_reducible refine (c5.out _).mono ?_); rintro e w' ⟨rfl, ⟨nd, rfl⟩⟩))
   go_ret; exact ⟨rfl, zaj (zaq (Below.refl _ _) _) _⟩
 have c5 : _ := zaa.mk (zht h5); by_cases h6 : 1 ≤ step ∧ step ≤ 9007199254740992
 rotate_left
 · have e := bad zfQ; have c6 : _ := zaa.mk (zib h6); rw [e]; clear e bad h1 h2 h3 h4 h5 h6; go_enter Try.func48, Try.ntmps48
   go_wp2_with (first | (go_at_call 80; (with_reducible refine (c5.out _).mono ?_); rintro e w' ⟨rfl, ⟨nd, rfl⟩⟩) | (go_at_call 80; (with_reducible refine (c6.out _).mono ?_); rintro e w' ⟨rfl, ⟨nd, rfl⟩⟩))
   go_ret; exact ⟨rfl, zaj (zaq (Below.refl _ _) _) _⟩
 have c6 : _ := zaa.mk (zht h6); by_cases h7 : 0 ≤ cool ∧ cool ≤ 9007199254740992
 rotate_left
 · have e := bad zfQ; have c7 : _ := zaa.mk (zib h7); rw [e]; clear e bad h1 h2 h3 h4 h5 h6 h7; go_enter Try.func48, Try.ntmps48
   go_wp2_with (first | (go_at_call 80; (with_reducible refine (c5.out _).mono ?_); rintro e w' ⟨rfl, ⟨nd, rfl⟩⟩) | (go_at_call 80; (with_reducible refine (c6.out _).mono ?_); rintro e w' ⟨rfl, ⟨nd, rfl⟩⟩) | (go_at_call 80; (with_reducible refine (c7.out _).mono ?_); rintro e w' ⟨rfl, ⟨nd, rfl⟩⟩))
   go_ret; exact ⟨rfl, zaj (zaq (Below.refl _ _) _) _⟩
 have c7 : _ := zaa.mk (zht h7); by_cases h8 : ahead ≥ 1
 rotate_left
 · have e := bad zfQ; have c8 := zdf h8; rw [e]; clear e bad h1 h2 h3 h4 h5 h6 h7 h8; go_enter Try.func48, Try.ntmps48
   go_wp2_with (first | (go_at_call 80; (with_reducible refine (c5.out _).mono ?_); rintro e w' ⟨rfl, ⟨nd, rfl⟩⟩) | (go_at_call 80; (with_reducible refine (c6.out _).mono ?_); rintro e w' ⟨rfl, ⟨nd, rfl⟩⟩) | (go_at_call 80; (with_reducible refine (c7.out _).mono ?_); rintro e w' ⟨rfl, ⟨nd, rfl⟩⟩))
   go_ret; exact ⟨rfl, zaj (zaq (Below.refl _ _) _) _⟩
 have c8 := zdt h8; by_cases h9 : ahead ≤ 100
 rotate_left
 · have e := bad zfQ; have c9 := zdf h9; rw [e]; clear e bad h1 h2 h3 h4 h5 h6 h7 h8 h9; go_enter Try.func48, Try.ntmps48
   go_wp2_with (first | (go_at_call 80; (with_reducible refine (c5.out _).mono ?_); rintro e w' ⟨rfl, ⟨nd, rfl⟩⟩) | (go_at_call 80; (with_reducible refine (c6.out _).mono ?_); rintro e w' ⟨rfl, ⟨nd, rfl⟩⟩) | (go_at_call 80; (with_reducible refine (c7.out _).mono ?_); rintro e w' ⟨rfl, ⟨nd, rfl⟩⟩))
   go_ret; exact ⟨rfl, zaj (zaq (Below.refl _ _) _) _⟩
 have c9 := zdt h9; by_cases h10 : season ≥ 1
 rotate_left
 · have e := bad zfQ; have c10 := zdf h10; rw [e]; clear e bad h1 h2 h3 h4 h5 h6 h7 h8 h9 h10; go_enter Try.func48, Try.ntmps48
   go_wp2_with (first | (go_at_call 80; (with_reducible refine (c5.out _).mono ?_); rintro e w' ⟨rfl, ⟨nd, rfl⟩⟩) | (go_at_call 80; (with_reducible refine (c6.out _).mono ?_); rintro e w' ⟨rfl, ⟨nd, rfl⟩⟩) | (go_at_call 80; (with_reducible refine (c7.out _).mono ?_); rintro e w' ⟨rfl, ⟨nd, rfl⟩⟩))
   go_ret; exact ⟨rfl, zaj (zaq (Below.refl _ _) _) _⟩
 have c10 := zdt h10; by_cases h11 : season ≤ 500
 rotate_left
 · have e := bad zfQ; have c11 := zdf h11; rw [e]; clear e bad h1 h2 h3 h4 h5 h6 h7 h8 h9 h10 h11; go_enter Try.func48, Try.ntmps48
   go_wp2_with (first | (go_at_call 80; (with_reducible refine (c5.out _).mono ?_); rintro e w' ⟨rfl, ⟨nd, rfl⟩⟩) | (go_at_call 80; (with_reducible refine (c6.out _).mono ?_); rintro e w' ⟨rfl, ⟨nd, rfl⟩⟩) | (go_at_call 80; (with_reducible refine (c7.out _).mono ?_); rintro e w' ⟨rfl, ⟨nd, rfl⟩⟩))
   go_ret; exact ⟨rfl, zaj (zaq (Below.refl _ _) _) _⟩
 have c11 := zdt h11; have e : checkP ⟨mn, mx, per, stale, step, ahead, cool, season⟩ = 0 := if_pos zfQ; rw [e]; clear e bad h1 h2 h3 h4 h5 h6 h7 h8 h9 h10 h11; go_enter Try.func48, Try.ntmps48
 go_wp2_with (first | (go_at_call 80; (with_reducible refine (c5.out _).mono ?_); rintro e w' ⟨rfl, ⟨nd, rfl⟩⟩) | (go_at_call 80; (with_reducible refine (c6.out _).mono ?_); rintro e w' ⟨rfl, ⟨nd, rfl⟩⟩) | (go_at_call 80; (with_reducible refine (c7.out _).mono ?_); rintro e w' ⟨rfl, ⟨nd, rfl⟩⟩))
 go_ret; exact ⟨rfl, zaj (zaq (Below.refl _ _) _) _⟩
end Go.Proofs.Ytemnfnbjapobcaa.Ho
end
section
namespace Go.Proofs.Ytemnfnbjapobcaa.Pr
open Go.RowKit Go.Proofs.ZW.PrintWords Go.Proofs.ZW.PrintLast Go.Proofs.ZW.PrintMore
attribute [local go_sem] zcx zcw zcO zcN zco zcn zcJ zcI
def zgB : Option Int → Value
 | none => .nilIface
 | some c => .iface 0 (.int .i64 c)
theorem zey : zgB none = .nilIface := rfl
theorem zex (c : Int) : zgB (some c) = .iface 0 (.int .i64 c) := rfl
theorem zgL : (Try.prog.info? 3).map (fun i => (i.zero, i.size, i.bytes)) = some (some (.int .i64 0), 1, 8) := by kernel_rfl
theorem zrq : (Try.prog.info? 4).map (fun i => (i.zero, i.size, i.bytes)) = some (some (.bool false), 1, 1) := by kernel_rfl
structure S70 where
 f0 : Int
 f1 : Int
def z70 : S70 := ⟨(0 : Int), (0 : Int)⟩
def k70 : Kd S70 := Kd.iso (Kd.pair (Kd.int .i64) (Kd.int .i64)) (fun x : S70 => (x.f0, x.f1))
theorem zhE {w : World} {x : S70} {cs : List Value} (h : k70.K w x cs) : cs = [.int .i64 x.f0, .int .i64 x.f1] := by
 obtain ⟨_, _, rfl, rfl, rfl⟩ := h; exact rfl
theorem zof (w : World) (x : S70)  : k70.K w x [.int .i64 x.f0, .int .i64 x.f1] := ⟨[.int .i64 x.f0], [.int .i64 x.f1], rfl, rfl, rfl⟩
theorem zeD (w : World) (base : Nat) (ok : Nat → Prop) (x : S70)  : k70.M w base ok x [.int .i64 x.f0, .int .i64 x.f1] := ⟨[.int .i64 x.f0], [.int .i64 x.f1], rfl, rfl, rfl⟩
def zaE (xs : List S70) (i : Int) : S70 := xs.getD i.toNat z70
theorem zcd {w : World} {A : Option Addr} {n : Nat} {xs : List S70} (h : Kd.C k70 w A n xs) (i : Int) (h0 : 0 ≤ i) (h1 : i < n) : ∃ ad , A = some ad ∧ w.cell? (ad.add (i.toNat * 2)) = some (.int .i64 (zaE xs i).f0) ∧ w.cell? ⟨(ad.add (i.toNat * 2)).block, (ad.add (i.toNat * 2)).off + 1, none⟩ = some (.int .i64 (zaE xs i).f1) := by
 obtain ⟨ad, c, e, _, hK, hc0⟩ := Kd.C_get h z70 i h0 h1; have hc : ∀ j u, c[j]? = some u → w.cell? (ad.add (i.toNat * 2 + j)) = some u := hc0; obtain rfl := zhE hK; exact ⟨ad, e, hc 0 _ rfl, by rw [← zfi _ _ 1 zq8]; exact hc 1 _ rfl⟩
end Go.Proofs.Ytemnfnbjapobcaa.Pr
end
