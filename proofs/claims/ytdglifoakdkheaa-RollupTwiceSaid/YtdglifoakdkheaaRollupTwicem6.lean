-- Laid together by wip/shake.py out of: Rtx0 Rtx1 Rtx2 Rtx3 RolQ PureRollupTwice LawRollupTwice
import Derived.Test.YtdglifoakdkheaaRollupTwicem5
import Derived.Test.YtdglifoakdkheaaProg
import Derived.Below
import Derived.Deep.Draws
import Derived.Deep.AppendLies
import Derived.Maps.AppendAt
import Derived.OwnWalk
import Derived.Laws.BytesArg
import Derived.Laws.MakeOwn
import Derived.Laws.OwnMore
import Derived.Deep.OwnRows
import Derived.Tactics
import Derived.Lib.ConvBytes
import Derived.Laws.Slices
import Derived.WalkKit
import Derived.KernelRfl
import Derived.RowKit3
import Derived.Deep.LoopGhost
import Derived.Deep.QuietTactic
import Derived.BigQuiet
import Derived.WideLaws
import Derived.Deep.DeepCutAuto
import Derived.Deep.CutBlock
import Derived.Deep.RegionHeld3
import Derived.Laws.Rows
import Derived.Lib.AppendStr
import Derived.ArgAppend
import Derived.Laws.IdiomCopy
import Derived.OrdersHeld
import Derived.Laws.BitsLemmas
import Derived.RowKit
import Derived.Test.YtdglifoakdkheaaRows
import Derived.ProofKit
import Derived.OpenShut
import Derived.ShutString
import Derived.ChangeOld
import Derived.SizedLaws
import Derived.Deep.Slices
import Derived.WideShapes
section
namespace Go.Proofs.Ytdglifoakdkheaa.Rt
open Go.RowKit Go.Proofs.YtdglifoakdkheaaW.PrintWords Go.Proofs.YtdglifoakdkheaaW.PrintLast Go.Proofs.YtdglifoakdkheaaW.PrintMore
attribute [local go_sem] max2_int min2_int max_two min_two max_three min_three max_four min_four   -- for this text's walks alone
set_option linter.unusedVariables false
set_option linter.unusedSimpArgs false
def errW : Option Int → Value
  | none => .nilIface
  | some c => .iface 0 (.int .i64 c)
theorem errW_none : errW none = .nilIface := rfl
theorem errW_some (c : Int) : errW (some c) = .iface 0 (.int .i64 c) := rfl
theorem info52 : (Try.prog.info? 52).map (fun i => (i.zero, i.size, i.bytes)) = some (some (.agg #[(.int .i64 0), (.int .i64 0), (.int .i64 0), (.int .i64 0), (.int .i64 0), (.int .i64 0)]), 6, 48) := by kernel_rfl
structure S41 where
  f0 : Int
  f1 : Int
def z41 : S41 := ⟨(0 : Int), (0 : Int)⟩
def k41 : Kd S41 := Kd.iso (Kd.pair (Kd.int .i64) (Kd.int .i64)) (fun x : S41 => (x.f0, x.f1))
theorem k41_open {w : World} {x : S41} {cs : List Value} (h : k41.K w x cs) : cs = [.int .i64 x.f0, .int .i64 x.f1] := by
  obtain ⟨_, _, rfl, rfl, rfl⟩ := h
  exact rfl
theorem k41_mk (w : World) (x : S41)  : k41.K w x [.int .i64 x.f0, .int .i64 x.f1] := ⟨[.int .i64 x.f0], [.int .i64 x.f1], rfl, rfl, rfl⟩
theorem k41_mkM (w : World) (base : Nat) (ok : Nat → Prop) (x : S41)  : k41.M w base ok x [.int .i64 x.f0, .int .i64 x.f1] := ⟨[.int .i64 x.f0], [.int .i64 x.f1], rfl, rfl, rfl⟩
def rd_T41 (xs : List S41) (i : Int) : S41 := xs.getD i.toNat z41
theorem at_T41 {w : World} {A : Option Addr} {n : Nat} {xs : List S41} (h : Kd.C k41 w A n xs) (i : Int) (h0 : 0 ≤ i) (h1 : i < n) : ∃ ad , A = some ad ∧ w.cell? (ad.add (i.toNat * 2)) = some (.int .i64 (rd_T41 xs i).f0) ∧ w.cell? ⟨(ad.add (i.toNat * 2)).block, (ad.add (i.toNat * 2)).off + 1, none⟩ = some (.int .i64 (rd_T41 xs i).f1) := by
  obtain ⟨ad, c, e, _, hK, hc0⟩ := Kd.C_get h z41 i h0 h1
  have hc : ∀ j u, c[j]? = some u → w.cell? (ad.add (i.toNat * 2 + j)) = some u := hc0
  obtain rfl := k41_open hK
  exact ⟨ad, e, hc 0 _ rfl, by rw [← add_field _ _ 1 (by omega)]; exact hc 1 _ rfl⟩
structure S52 where
  f0 : Int
  f1 : Int
  f2 : Int
  f3 : Int
  f4 : Int
  f5 : Int
def z52 : S52 := ⟨(0 : Int), (0 : Int), (0 : Int), (0 : Int), (0 : Int), (0 : Int)⟩
def k52 : Kd S52 := Kd.iso (Kd.pair (Kd.int .i64) (Kd.pair (Kd.int .i64) (Kd.pair (Kd.int .i64) (Kd.pair (Kd.int .i64) (Kd.pair (Kd.int .i64) (Kd.int .i64)))))) (fun x : S52 => (x.f0, x.f1, x.f2, x.f3, x.f4, x.f5))
theorem k52_open {w : World} {x : S52} {cs : List Value} (h : k52.K w x cs) : cs = [.int .i64 x.f0, .int .i64 x.f1, .int .i64 x.f2, .int .i64 x.f3, .int .i64 x.f4, .int .i64 x.f5] := by
  obtain ⟨_, _, rfl, rfl, ⟨_, _, rfl, rfl, ⟨_, _, rfl, rfl, ⟨_, _, rfl, rfl, ⟨_, _, rfl, rfl, rfl⟩⟩⟩⟩⟩ := h
  exact rfl
theorem k52_mkM (w : World) (base : Nat) (ok : Nat → Prop) (x : S52)  : k52.M w base ok x [.int .i64 x.f0, .int .i64 x.f1, .int .i64 x.f2, .int .i64 x.f3, .int .i64 x.f4, .int .i64 x.f5] := ⟨[.int .i64 x.f0], [.int .i64 x.f1, .int .i64 x.f2, .int .i64 x.f3, .int .i64 x.f4, .int .i64 x.f5], rfl, rfl, ⟨[.int .i64 x.f1], [.int .i64 x.f2, .int .i64 x.f3, .int .i64 x.f4, .int .i64 x.f5], rfl, rfl, ⟨[.int .i64 x.f2], [.int .i64 x.f3, .int .i64 x.f4, .int .i64 x.f5], rfl, rfl, ⟨[.int .i64 x.f3], [.int .i64 x.f4, .int .i64 x.f5], rfl, rfl, ⟨[.int .i64 x.f4], [.int .i64 x.f5], rfl, rfl, rfl⟩⟩⟩⟩⟩
def rd_T52 (xs : List S52) (i : Int) : S52 := xs.getD i.toNat z52
theorem at_T52 {w : World} {A : Option Addr} {n : Nat} {xs : List S52} (h : Kd.C k52 w A n xs) (i : Int) (h0 : 0 ≤ i) (h1 : i < n) : ∃ ad , A = some ad ∧ w.cell? (ad.add (i.toNat * 6)) = some (.int .i64 (rd_T52 xs i).f0) ∧ w.cell? ⟨(ad.add (i.toNat * 6)).block, (ad.add (i.toNat * 6)).off + 1, none⟩ = some (.int .i64 (rd_T52 xs i).f1) ∧ w.cell? ⟨(ad.add (i.toNat * 6)).block, (ad.add (i.toNat * 6)).off + 2, none⟩ = some (.int .i64 (rd_T52 xs i).f2) ∧ w.cell? ⟨(ad.add (i.toNat * 6)).block, (ad.add (i.toNat * 6)).off + 3, none⟩ = some (.int .i64 (rd_T52 xs i).f3) ∧ w.cell? ⟨(ad.add (i.toNat * 6)).block, (ad.add (i.toNat * 6)).off + 4, none⟩ = some (.int .i64 (rd_T52 xs i).f4) ∧ w.cell? ⟨(ad.add (i.toNat * 6)).block, (ad.add (i.toNat * 6)).off + 5, none⟩ = some (.int .i64 (rd_T52 xs i).f5) := by
  obtain ⟨ad, c, e, _, hK, hc0⟩ := Kd.C_get h z52 i h0 h1
  have hc : ∀ j u, c[j]? = some u → w.cell? (ad.add (i.toNat * 6 + j)) = some u := hc0
  obtain rfl := k52_open hK
  exact ⟨ad, e, hc 0 _ rfl, by rw [← add_field _ _ 1 (by omega)]; exact hc 1 _ rfl, by rw [← add_field _ _ 2 (by omega)]; exact hc 2 _ rfl, by rw [← add_field _ _ 3 (by omega)]; exact hc 3 _ rfl, by rw [← add_field _ _ 4 (by omega)]; exact hc 4 _ rfl, by rw [← add_field _ _ 5 (by omega)]; exact hc 5 _ rfl⟩
end Go.Proofs.Ytdglifoakdkheaa.Rt
end
section
namespace Go.Proofs.Ytdglifoakdkheaa.Rt
open Go.RowKit Go.Proofs.YtdglifoakdkheaaW.PrintWords Go.Proofs.YtdglifoakdkheaaW.PrintLast Go.Proofs.YtdglifoakdkheaaW.PrintMore
attribute [local go_sem] max2_int min2_int max_two min_two max_three min_three max_four min_four   -- for this text's walks alone
set_option linter.unusedVariables false
set_option linter.unusedSimpArgs false
theorem eqA52 (d : Nat) (w : World) (x0 y0 : Int) (x1 y1 : Int) (x2 y2 : Int) (x3 y3 : Int) (x4 y4 : Int) (x5 y5 : Int) :
    (Op.equalIn (d + 2) 52 (.agg #[.int .i64 x0, .int .i64 x1, .int .i64 x2, .int .i64 x3, .int .i64 x4, .int .i64 x5]) (.agg #[.int .i64 y0, .int .i64 y1, .int .i64 y2, .int .i64 y3, .int .i64 y4, .int .i64 y5])).run Try.prog w = .ok (x0 == y0 && (x1 == y1 && (x2 == y2 && (x3 == y3 && (x4 == y4 && (x5 == y5)))))) w := by
  refine eqA_of Try.underlying52 (by kernel_rfl) ?_
  refine eqf_cons (by rfl) (by go_simp; rfl) (by go_simp; rfl) (by go_simp) ?_
  refine eqf_cons (by rfl) (by go_simp; rfl) (by go_simp; rfl) (by go_simp) ?_
  refine eqf_cons (by rfl) (by go_simp; rfl) (by go_simp; rfl) (by go_simp) ?_
  refine eqf_cons (by rfl) (by go_simp; rfl) (by go_simp; rfl) (by go_simp) ?_
  refine eqf_cons (by rfl) (by go_simp; rfl) (by go_simp; rfl) (by go_simp) ?_
  exact eqf_last (by rfl) (by go_simp; rfl) (by go_simp; rfl) (by go_simp)
end Go.Proofs.Ytdglifoakdkheaa.Rt
end
section
namespace Go.Proofs.Ytdglifoakdkheaa.Rt
open Go.RowKit Go.Proofs.YtdglifoakdkheaaW.PrintWords Go.Proofs.YtdglifoakdkheaaW.PrintLast Go.Proofs.YtdglifoakdkheaaW.PrintMore
attribute [local go_sem] max2_int min2_int max_two min_two max_three min_three max_four min_four   -- for this text's walks alone
set_option linter.unusedVariables false
set_option linter.unusedSimpArgs false
attribute [local go_sem high] eqA52
def rollup_Buckets.to (x : S41) : Roll.S41 := ⟨x.f0, x.f1⟩
def rollup_Buckets.fr (x : Roll.S52) : S52 := ⟨x.f0, x.f1, x.f2, x.f3, x.f4, x.f5⟩
def rollup_Buckets.f (l0 : List S41) (a1 : Int) : Option (List S52 × Int) := if Roll.inB l0.length (l0.map rollup_Buckets.to) a1 then some ((Roll.bucketsS (l0.map rollup_Buckets.to) a1).1.map rollup_Buckets.fr, (Roll.bucketsS (l0.map rollup_Buckets.to) a1).2) else none
theorem rollup_Buckets.calls (A0 : Option Addr) (c0 : Nat) (l0 : List (S41)) (a1 : Int) (r1 : List S52) (r2 : Int) (w : World) (hr0 : Kd.C k41 w A0 l0.length l0) (hc0 : l0.length ≤ c0) (h : rollup_Buckets.f l0 a1 = some (r1, r2)) :
    Calls Try.prog 25 #[.slice A0 l0.length c0, .int .i64 a1] w fun e w' => ∃ v0_ : Value, e = .returned (.tuple #[v0_, .int .i64 r2]) ∧ Kd.R k52 52 w' w.heap.size (fun _ => True) v0_ r1 ∧ Below w.heap.size w w' := by
  unfold rollup_Buckets.f at h
  by_cases c : Roll.inB l0.length (l0.map rollup_Buckets.to) a1 = true
  · rw [if_pos c] at h
    obtain ⟨rfl, rfl⟩ := Prod.mk.inj (Option.some.inj h)
    obtain ⟨k1, k2, k3⟩ := Roll.inB_iff.1 c
    have hC : Kd.C Roll.k41 w A0 (l0.map rollup_Buckets.to).length (l0.map rollup_Buckets.to) := by
      rw [List.length_map]
      exact C_map (f' := fun x : Roll.S41 => (x.f0, x.f1)) (g := rollup_Buckets.to) (fun x => rfl) hr0
    have K := Roll.buckets_calls A0 c0 (l0.map rollup_Buckets.to) a1 w hC (by rw [List.length_map]; exact hc0) k2 k3 (by rw [List.length_map]; exact k1)
    rw [List.length_map] at K
    refine K.mono ?_
    rintro e w' ⟨v, rfl, hR, hB⟩
    exact ⟨v, rfl, R_map (f' := fun x : S52 => (x.f0, x.f1, x.f2, x.f3, x.f4, x.f5)) (g := rollup_Buckets.fr) (fun x => rfl) hR, hB⟩
  · rw [if_neg c] at h; cases h
def lysimeterlaw19_num.f (a0 : Int) : Option (Int) := some a0
set_option maxHeartbeats 8000000 in
set_option maxRecDepth 100000 in
theorem lysimeterlaw19_num.calls (a0 : Int) (r : Int) (w : World) (h : lysimeterlaw19_num.f a0 = some r) :
    Calls Try.prog 27 #[.int .i64 a0] w fun e w' => e = .returned (.int .i64 r) ∧ Drawn0 w w' := by
  have H : (some a0) = some r := h
  clear h
  obtain rfl := Option.some.inj H
  go_enter Try.func27, Try.ntmps27
  go_wp2
  go_ret
  exact ⟨by first | rfl | (simp; done) | (simp [*]; done), by repeat (first | exact Drawn0.refl _ | apply Drawn0.step)⟩
def lysimeterlaw19_alive.f  : Option (Bool) := (rollup_Buckets.f (([(⟨1, 5⟩ : S41), (⟨2, 3⟩ : S41), (⟨11, 1⟩ : S41)] : List (S41))) 10).bind fun bt104 => ((lysimeterlaw19_num.f bt104.2).bind fun t108 => (if t108 = 0 then (if (bt104.1.length : Int) = 2 then (if 0 < (bt104.1.length : Int) then (if (((rd_T52 bt104.1 0).f0) == 0 && (((rd_T52 bt104.1 0).f1) == 2 && (((rd_T52 bt104.1 0).f2) == 8 && (((rd_T52 bt104.1 0).f3) == 3 && (((rd_T52 bt104.1 0).f4) == 5 && (((rd_T52 bt104.1 0).f5) == 3)))))) = true then (if 1 < (bt104.1.length : Int) then (some (((rd_T52 bt104.1 1).f0) == 10 && (((rd_T52 bt104.1 1).f1) == 1 && (((rd_T52 bt104.1 1).f2) == 1 && (((rd_T52 bt104.1 1).f3) == 1 && (((rd_T52 bt104.1 1).f4) == 1 && (((rd_T52 bt104.1 1).f5) == 1))))))) else (none)) else (some false)) else (none)) else (some false)) else (some false)))
set_option maxHeartbeats 8000000 in
set_option maxRecDepth 100000 in
theorem lysimeterlaw19_alive.calls  (r : Bool) (w : World) (h : lysimeterlaw19_alive.f  = some r) :
    Calls Try.prog 24 #[] w fun e w' => e = .returned (.bool r) ∧ Below w.heap.size w w' := by
  have hu41 := Try.underlying41
  have hu52 := Try.underlying52
  have HB := Aside0.mk (Below.refl w.heap.size w)
  have H : ((rollup_Buckets.f (([(⟨1, 5⟩ : S41), (⟨2, 3⟩ : S41), (⟨11, 1⟩ : S41)] : List (S41))) 10).bind fun bt104 => ((lysimeterlaw19_num.f bt104.2).bind fun t108 => (if t108 = 0 then (if (bt104.1.length : Int) = 2 then (if 0 < (bt104.1.length : Int) then (if (((rd_T52 bt104.1 0).f0) == 0 && (((rd_T52 bt104.1 0).f1) == 2 && (((rd_T52 bt104.1 0).f2) == 8 && (((rd_T52 bt104.1 0).f3) == 3 && (((rd_T52 bt104.1 0).f4) == 5 && (((rd_T52 bt104.1 0).f5) == 3)))))) = true then (if 1 < (bt104.1.length : Int) then (some (((rd_T52 bt104.1 1).f0) == 10 && (((rd_T52 bt104.1 1).f1) == 1 && (((rd_T52 bt104.1 1).f2) == 1 && (((rd_T52 bt104.1 1).f3) == 1 && (((rd_T52 bt104.1 1).f4) == 1 && (((rd_T52 bt104.1 1).f5) == 1))))))) else (none)) else (some false)) else (none)) else (some false)) else (some false)))) = some r := h
  clear h
  obtain ⟨y101, hy101⟩ : ∃ y_ : List (S41), y_ = (([(⟨1, 5⟩ : S41), (⟨2, 3⟩ : S41), (⟨11, 1⟩ : S41)] : List (S41))) := ⟨_, rfl⟩
  replace H : ((rollup_Buckets.f y101 10).bind fun bt104 => ((lysimeterlaw19_num.f bt104.2).bind fun t108 => (if t108 = 0 then (if (bt104.1.length : Int) = 2 then (if 0 < (bt104.1.length : Int) then (if (((rd_T52 bt104.1 0).f0) == 0 && (((rd_T52 bt104.1 0).f1) == 2 && (((rd_T52 bt104.1 0).f2) == 8 && (((rd_T52 bt104.1 0).f3) == 3 && (((rd_T52 bt104.1 0).f4) == 5 && (((rd_T52 bt104.1 0).f5) == 3)))))) = true then (if 1 < (bt104.1.length : Int) then (some (((rd_T52 bt104.1 1).f0) == 10 && (((rd_T52 bt104.1 1).f1) == 1 && (((rd_T52 bt104.1 1).f2) == 1 && (((rd_T52 bt104.1 1).f3) == 1 && (((rd_T52 bt104.1 1).f4) == 1 && (((rd_T52 bt104.1 1).f5) == 1))))))) else (none)) else (some false)) else (none)) else (some false)) else (some false)))) = some r := by first | (rw [hy101]; with_reducible exact H) | (have H2_ := (Option.bind_some _ _).symm.trans H; rw [hy101]; with_reducible exact H2_) | (have H2_ := (Option.bind_some _ _).symm.trans H; with_reducible exact H2_) | with_reducible exact H | (rw [hy101]; exact H) | exact H
  have Ny101 := Aside0.mk hy101
  clear hy101
  replace H := Option.bind_eq_some_iff.mp H
  obtain ⟨⟨t104, t105⟩, A10, H⟩ := H
  replace H : ((lysimeterlaw19_num.f t105).bind fun t108 => (if t108 = 0 then (if (t104.length : Int) = 2 then (if 0 < (t104.length : Int) then (if (((rd_T52 t104 0).f0) == 0 && (((rd_T52 t104 0).f1) == 2 && (((rd_T52 t104 0).f2) == 8 && (((rd_T52 t104 0).f3) == 3 && (((rd_T52 t104 0).f4) == 5 && (((rd_T52 t104 0).f5) == 3)))))) = true then (if 1 < (t104.length : Int) then (some (((rd_T52 t104 1).f0) == 10 && (((rd_T52 t104 1).f1) == 1 && (((rd_T52 t104 1).f2) == 1 && (((rd_T52 t104 1).f3) == 1 && (((rd_T52 t104 1).f4) == 1 && (((rd_T52 t104 1).f5) == 1))))))) else (none)) else (some false)) else (none)) else (some false)) else (some false))) = some r := H
  have A1 := Aside0.mk A10
  clear A10
  replace H := Option.bind_eq_some_iff.mp H
  obtain ⟨t108, A20, H⟩ := H
  replace H : (if t108 = 0 then (if (t104.length : Int) = 2 then (if 0 < (t104.length : Int) then (if (((rd_T52 t104 0).f0) == 0 && (((rd_T52 t104 0).f1) == 2 && (((rd_T52 t104 0).f2) == 8 && (((rd_T52 t104 0).f3) == 3 && (((rd_T52 t104 0).f4) == 5 && (((rd_T52 t104 0).f5) == 3)))))) = true then (if 1 < (t104.length : Int) then (some (((rd_T52 t104 1).f0) == 10 && (((rd_T52 t104 1).f1) == 1 && (((rd_T52 t104 1).f2) == 1 && (((rd_T52 t104 1).f3) == 1 && (((rd_T52 t104 1).f4) == 1 && (((rd_T52 t104 1).f5) == 1))))))) else (none)) else (some false)) else (none)) else (some false)) else (some false)) = some r := H
  have A2 := Aside0.mk A20
  clear A20
  by_cases c3 : t108 = 0
  · rw [if_pos c3] at H
    have c3b0 : (t108 == 0) = true := beq_iff_eq.mpr c3
    have c3b1 : (t108 != 0) = false := bne_eq_false_iff_eq.mpr c3
    clear c3
    by_cases c4 : (t104.length : Int) = 2
    · rw [if_pos c4] at H
      have c4b0 : ((t104.length : Int) == 2) = true := beq_iff_eq.mpr c4
      have c4b1 : ((t104.length : Int) != 2) = false := bne_eq_false_iff_eq.mpr c4
      clear c4
      by_cases c5 : 0 < (t104.length : Int)
      · rw [if_pos c5] at H
        have c5b0 : decide (0 < (t104.length : Int)) = true := decide_eq_true c5
        have c5b1 : decide (0 < t104.length) = true := decide_eq_true (by omega)
        clear c5
        by_cases c6 : (((rd_T52 t104 0).f0) == 0 && (((rd_T52 t104 0).f1) == 2 && (((rd_T52 t104 0).f2) == 8 && (((rd_T52 t104 0).f3) == 3 && (((rd_T52 t104 0).f4) == 5 && (((rd_T52 t104 0).f5) == 3)))))) = true
        · rw [if_pos c6] at H
          have c6b0 : (((rd_T52 t104 0).f0) == 0 && (((rd_T52 t104 0).f1) == 2 && (((rd_T52 t104 0).f2) == 8 && (((rd_T52 t104 0).f3) == 3 && (((rd_T52 t104 0).f4) == 5 && (((rd_T52 t104 0).f5) == 3)))))) = true := c6
          (try (have c6b1 : decide (((rd_T52 t104 0).f0) = 0 && (((rd_T52 t104 0).f1) == 2 && (((rd_T52 t104 0).f2) == 8 && (((rd_T52 t104 0).f3) == 3 && (((rd_T52 t104 0).f4) == 5 && (((rd_T52 t104 0).f5) == 3)))))) = true := by simpa using c6))
          (try (have c6b2 : (((rd_T52 t104 0).f0) == 0 && (((rd_T52 t104 0).f1) == 2 && (((rd_T52 t104 0).f2) == 8 && (((rd_T52 t104 0).f3) == 3 && (((rd_T52 t104 0).f4) == 5 && (((rd_T52 t104 0).f5) == 3)))))) = true := by simpa using c6))
          clear c6
          by_cases c7 : 1 < (t104.length : Int)
          · rw [if_pos c7] at H
            have c7b0 : decide (1 < (t104.length : Int)) = true := decide_eq_true c7
            have c7b1 : decide (1 < t104.length) = true := decide_eq_true (by omega)
            clear c7
            obtain rfl := Option.some.inj H
            go_enter Try.func24, Try.ntmps24
            go_wp2_with (first | ((with_reducible refine gate_dst (N := 7) rfl ?_); (try (refine gate_guard (by rfl) ?_; dsimp only)); refine Kd.R_lit k41 _ 41 ?hg (N := 7) ?hd (xs := ([(⟨1, 5⟩ : S41), (⟨2, 3⟩ : S41), (⟨11, 1⟩ : S41)] : List (S41))) (inner := [.int .i64 1, .int .i64 5, .int .i64 2, .int .i64 3, .int .i64 11, .int .i64 1]) (ok := fun _ => True) (okp := fun _ => True) ?hr ?hp (fun _ hk => hk) trivial (Below.refl _ _) (Nat.le_refl _) (by simp) ?_; (case hd => rfl); (case hg => rfl); (case hr => first | (go_simp; done) | (go_simp; rfl)); (case hp => exact (Reps.c2 (show Kd.M k41 _ _ _ (⟨1, 5⟩ : S41) [.int .i64 1, .int .i64 5] from (k41_mkM _ _ _ (⟨1, 5⟩ : S41) )) (Reps.c2 (show Kd.M k41 _ _ _ (⟨2, 3⟩ : S41) [.int .i64 2, .int .i64 3] from (k41_mkM _ _ _ (⟨2, 3⟩ : S41) )) (Reps.c2 (show Kd.M k41 _ _ _ (⟨11, 1⟩ : S41) [.int .i64 11, .int .i64 1] from (k41_mkM _ _ _ (⟨11, 1⟩ : S41) )) (Reps.none _ _))))); intro v102 w8 ho9 hb hg_ hnew_; clear hg_ hnew_; (first | rw [← Ny101.out] at ho9 | (simp only [Int.reduceToNat] at ho9; rw [← Ny101.out] at ho9)); have n0_ := Aside0.mk (Kd.R_lower ho9 (below_size (by repeat (first | (with_reducible first | exact HB.out | apply below_alloc | apply pw_below_drewN | apply below_drew1) | exact HB.out)))); have n1_ := Aside0.mk (below_step (by repeat (first | (with_reducible first | exact HB.out | apply below_alloc | apply pw_below_drewN | apply below_drew1) | exact HB.out)) hb); clear HB; have HO103 := n0_; have HB := n1_; clear n0_ n1_; clear hb ho9; obtain ⟨Ao10, co10, eo10⟩ := Kd.R_slice HO103.out; subst eo10) | ((with_reducible refine gate_callee (f := 25) rfl ?_); refine goesL_ (some 8) rfl rfl Try.func25 (by kernel_rfl) rfl #[.slice Ao10 y101.length co10, .int .i64 10] rfl (by (try simp only [List.map_toArray, List.map_cons, List.map_nil]); first | done | rfl | (simp only [List.length_drop, List.length_take]; rfl)) ?_; (with_reducible refine (rollup_Buckets.calls _ _ y101 10 t104 t105 _ ?side1 ?side2 A1.out).mono ?_); (case side1 => repeat (first | exact (Kd.R_reads' HO103.out).2.2 | (with_reducible refine Kd.C_alloc ?_ _) | (with_reducible refine Kd.C_drewN ?_ _) | (with_reducible refine Kd.C_drew ?_))); (case side2 => exact (Kd.R_reads' HO103.out).2.1); rintro e w11 ⟨v106, rfl, ho0, hb⟩; refine ⟨_, rfl, ?_⟩; have n0_ := Aside0.mk (Kd.R_below (by (with_reducible repeat (first | apply Kd.R_alloc | apply Kd.R_drewN | apply Kd.R_drew)); exact HO103.out) hb); have n1_ := Aside0.mk (Kd.R_lower ho0 (below_size (by repeat (first | (with_reducible first | exact HB.out | apply below_alloc | apply pw_below_drewN | apply below_drew1) | exact HB.out)))); have n2_ := Aside0.mk (below_step (by repeat (first | (with_reducible first | exact HB.out | apply below_alloc | apply pw_below_drewN | apply below_drew1) | exact HB.out)) hb); clear HO103; clear HB; have HO103 := n0_; have HO107 := n1_; have HB := n2_; clear n0_ n1_ n2_; (try clear hb); (try clear hb2); (try clear hk); (try clear hi); (try clear ho0)) | ((with_reducible refine gate_callee (f := 27) rfl ?_); refine goesL_ (some 12) rfl rfl Try.func27 (by kernel_rfl) rfl #[.int .i64 t105] rfl (by (try simp only [List.map_toArray, List.map_cons, List.map_nil]); first | done | rfl | (simp only [List.length_drop, List.length_take]; rfl)) ?_; (with_reducible refine (lysimeterlaw19_num.calls t105 t108 _ A2.out).mono ?_); rintro e w' ⟨rfl, ⟨nd, rfl⟩⟩; refine ⟨_, rfl, ?_⟩; obtain ⟨Ao12, co12, eo12⟩ := Kd.R_slice HO107.out; subst eo12; have p109 : 0 ≤ (0 : Int) := (by omega); have q109 : 0 < (t104.length : Int) := of_decide_eq_true (by first | (with_reducible assumption) | assumption); obtain ⟨ad109, e109, hx109_0, hx109_1, hx109_2, hx109_3, hx109_4, hx109_5⟩ := at_T52 (Kd.R_reads' HO107.out).2.2 0 p109 q109; cases e109; have qi109 : (0 < t104.length) = True := eq_true (by omega); (try rw [show ((0 : Int)).toNat = 0 from rfl] at hx109_0); (try rw [show 0 * 6 = 0 from rfl] at hx109_0); (try rw [Addr.add_zero'] at hx109_0); (try rw [show ((0 : Int)).toNat = 0 from rfl] at hx109_1); (try rw [show 0 * 6 = 0 from rfl] at hx109_1); (try rw [Addr.add_zero'] at hx109_1); (try rw [show ((0 : Int)).toNat = 0 from rfl] at hx109_2); (try rw [show 0 * 6 = 0 from rfl] at hx109_2); (try rw [Addr.add_zero'] at hx109_2); (try rw [show ((0 : Int)).toNat = 0 from rfl] at hx109_3); (try rw [show 0 * 6 = 0 from rfl] at hx109_3); (try rw [Addr.add_zero'] at hx109_3); (try rw [show ((0 : Int)).toNat = 0 from rfl] at hx109_4); (try rw [show 0 * 6 = 0 from rfl] at hx109_4); (try rw [Addr.add_zero'] at hx109_4); (try rw [show ((0 : Int)).toNat = 0 from rfl] at hx109_5); (try rw [show 0 * 6 = 0 from rfl] at hx109_5); (try rw [Addr.add_zero'] at hx109_5); replace p109 := eq_true p109; replace q109 := eq_true q109; have p110 : 0 ≤ (1 : Int) := (by omega); have q110 : 1 < (t104.length : Int) := of_decide_eq_true (by first | (with_reducible assumption) | assumption); obtain ⟨ad110, e110, hx110_0, hx110_1, hx110_2, hx110_3, hx110_4, hx110_5⟩ := at_T52 (Kd.R_reads' HO107.out).2.2 1 p110 q110; obtain rfl : ad109 = ad110 := (by injection e110); (try simp only [show (1 : Int).toNat = 1 from rfl, Nat.reduceMul, Nat.reduceEqDiff, Go.Addr.add, ↓reduceIte] at hx110_0); (try simp only [show (1 : Int).toNat = 1 from rfl, Nat.reduceMul, Nat.reduceEqDiff, Go.Addr.add, ↓reduceIte] at hx110_1); (try simp only [show (1 : Int).toNat = 1 from rfl, Nat.reduceMul, Nat.reduceEqDiff, Go.Addr.add, ↓reduceIte] at hx110_2); (try simp only [show (1 : Int).toNat = 1 from rfl, Nat.reduceMul, Nat.reduceEqDiff, Go.Addr.add, ↓reduceIte] at hx110_3); (try simp only [show (1 : Int).toNat = 1 from rfl, Nat.reduceMul, Nat.reduceEqDiff, Go.Addr.add, ↓reduceIte] at hx110_4); (try simp only [show (1 : Int).toNat = 1 from rfl, Nat.reduceMul, Nat.reduceEqDiff, Go.Addr.add, ↓reduceIte] at hx110_5); have qi110 : (1 < t104.length) = True := eq_true (by omega); (try rw [show ((1 : Int)).toNat = 1 from rfl] at hx110_0); (try rw [show 1 * 6 = 6 from rfl] at hx110_0); (try rw [show ((1 : Int)).toNat = 1 from rfl] at hx110_1); (try rw [show 1 * 6 = 6 from rfl] at hx110_1); (try rw [show ((1 : Int)).toNat = 1 from rfl] at hx110_2); (try rw [show 1 * 6 = 6 from rfl] at hx110_2); (try rw [show ((1 : Int)).toNat = 1 from rfl] at hx110_3); (try rw [show 1 * 6 = 6 from rfl] at hx110_3); (try rw [show ((1 : Int)).toNat = 1 from rfl] at hx110_4); (try rw [show 1 * 6 = 6 from rfl] at hx110_4); (try rw [show ((1 : Int)).toNat = 1 from rfl] at hx110_5); (try rw [show 1 * 6 = 6 from rfl] at hx110_5); replace p110 := eq_true p110; replace q110 := eq_true q110))
            go_ret
            exact ⟨by first | rfl | (simp [errW_none, errW_some] <;> rfl) | (simp [*, errW_none, errW_some] <;> rfl), by repeat (first | (with_reducible first | exact HB.out | apply below_alloc | apply pw_below_drewN | apply below_drew1) | exact HB.out)⟩
          · rw [if_neg c7] at H
            exact absurd H (by simp)
        · rw [if_neg c6] at H
          have c6b0 : (((rd_T52 t104 0).f0) == 0 && (((rd_T52 t104 0).f1) == 2 && (((rd_T52 t104 0).f2) == 8 && (((rd_T52 t104 0).f3) == 3 && (((rd_T52 t104 0).f4) == 5 && (((rd_T52 t104 0).f5) == 3)))))) = false := by simpa using c6
          (try (have c6b1 : decide (((rd_T52 t104 0).f0) = 0 && (((rd_T52 t104 0).f1) == 2 && (((rd_T52 t104 0).f2) == 8 && (((rd_T52 t104 0).f3) == 3 && (((rd_T52 t104 0).f4) == 5 && (((rd_T52 t104 0).f5) == 3)))))) = false := by simpa using c6))
          (try (have c6b2 : (((rd_T52 t104 0).f0) == 0 && (((rd_T52 t104 0).f1) == 2 && (((rd_T52 t104 0).f2) == 8 && (((rd_T52 t104 0).f3) == 3 && (((rd_T52 t104 0).f4) == 5 && (((rd_T52 t104 0).f5) == 3)))))) = false := by simpa using c6))
          (try (have c6b3 : ¬ (((rd_T52 t104 0).f0) = 0 && (((rd_T52 t104 0).f1) == 2 && (((rd_T52 t104 0).f2) == 8 && (((rd_T52 t104 0).f3) == 3 && (((rd_T52 t104 0).f4) == 5 && (((rd_T52 t104 0).f5) == 3)))))) := by simpa using c6))
          clear c6
          obtain rfl := Option.some.inj H
          go_enter Try.func24, Try.ntmps24
          go_wp2_with (first | ((with_reducible refine gate_dst (N := 7) rfl ?_); (try (refine gate_guard (by rfl) ?_; dsimp only)); refine Kd.R_lit k41 _ 41 ?hg (N := 7) ?hd (xs := ([(⟨1, 5⟩ : S41), (⟨2, 3⟩ : S41), (⟨11, 1⟩ : S41)] : List (S41))) (inner := [.int .i64 1, .int .i64 5, .int .i64 2, .int .i64 3, .int .i64 11, .int .i64 1]) (ok := fun _ => True) (okp := fun _ => True) ?hr ?hp (fun _ hk => hk) trivial (Below.refl _ _) (Nat.le_refl _) (by simp) ?_; (case hd => rfl); (case hg => rfl); (case hr => first | (go_simp; done) | (go_simp; rfl)); (case hp => exact (Reps.c2 (show Kd.M k41 _ _ _ (⟨1, 5⟩ : S41) [.int .i64 1, .int .i64 5] from (k41_mkM _ _ _ (⟨1, 5⟩ : S41) )) (Reps.c2 (show Kd.M k41 _ _ _ (⟨2, 3⟩ : S41) [.int .i64 2, .int .i64 3] from (k41_mkM _ _ _ (⟨2, 3⟩ : S41) )) (Reps.c2 (show Kd.M k41 _ _ _ (⟨11, 1⟩ : S41) [.int .i64 11, .int .i64 1] from (k41_mkM _ _ _ (⟨11, 1⟩ : S41) )) (Reps.none _ _))))); intro v102 w13 ho14 hb hg_ hnew_; clear hg_ hnew_; (first | rw [← Ny101.out] at ho14 | (simp only [Int.reduceToNat] at ho14; rw [← Ny101.out] at ho14)); have n0_ := Aside0.mk (Kd.R_lower ho14 (below_size (by repeat (first | (with_reducible first | exact HB.out | apply below_alloc | apply pw_below_drewN | apply below_drew1) | exact HB.out)))); have n1_ := Aside0.mk (below_step (by repeat (first | (with_reducible first | exact HB.out | apply below_alloc | apply pw_below_drewN | apply below_drew1) | exact HB.out)) hb); clear HB; have HO103 := n0_; have HB := n1_; clear n0_ n1_; clear hb ho14; obtain ⟨Ao15, co15, eo15⟩ := Kd.R_slice HO103.out; subst eo15) | ((with_reducible refine gate_callee (f := 25) rfl ?_); refine goesL_ (some 8) rfl rfl Try.func25 (by kernel_rfl) rfl #[.slice Ao15 y101.length co15, .int .i64 10] rfl (by (try simp only [List.map_toArray, List.map_cons, List.map_nil]); first | done | rfl | (simp only [List.length_drop, List.length_take]; rfl)) ?_; (with_reducible refine (rollup_Buckets.calls _ _ y101 10 t104 t105 _ ?side1 ?side2 A1.out).mono ?_); (case side1 => repeat (first | exact (Kd.R_reads' HO103.out).2.2 | (with_reducible refine Kd.C_alloc ?_ _) | (with_reducible refine Kd.C_drewN ?_ _) | (with_reducible refine Kd.C_drew ?_))); (case side2 => exact (Kd.R_reads' HO103.out).2.1); rintro e w16 ⟨v106, rfl, ho0, hb⟩; refine ⟨_, rfl, ?_⟩; have n0_ := Aside0.mk (Kd.R_below (by (with_reducible repeat (first | apply Kd.R_alloc | apply Kd.R_drewN | apply Kd.R_drew)); exact HO103.out) hb); have n1_ := Aside0.mk (Kd.R_lower ho0 (below_size (by repeat (first | (with_reducible first | exact HB.out | apply below_alloc | apply pw_below_drewN | apply below_drew1) | exact HB.out)))); have n2_ := Aside0.mk (below_step (by repeat (first | (with_reducible first | exact HB.out | apply below_alloc | apply pw_below_drewN | apply below_drew1) | exact HB.out)) hb); clear HO103; clear HB; have HO103 := n0_; have HO107 := n1_; have HB := n2_; clear n0_ n1_ n2_; (try clear hb); (try clear hb2); (try clear hk); (try clear hi); (try clear ho0)) | ((with_reducible refine gate_callee (f := 27) rfl ?_); refine goesL_ (some 12) rfl rfl Try.func27 (by kernel_rfl) rfl #[.int .i64 t105] rfl (by (try simp only [List.map_toArray, List.map_cons, List.map_nil]); first | done | rfl | (simp only [List.length_drop, List.length_take]; rfl)) ?_; (with_reducible refine (lysimeterlaw19_num.calls t105 t108 _ A2.out).mono ?_); rintro e w' ⟨rfl, ⟨nd, rfl⟩⟩; refine ⟨_, rfl, ?_⟩; obtain ⟨Ao17, co17, eo17⟩ := Kd.R_slice HO107.out; subst eo17; have p109 : 0 ≤ (0 : Int) := (by omega); have q109 : 0 < (t104.length : Int) := of_decide_eq_true (by first | (with_reducible assumption) | assumption); obtain ⟨ad109, e109, hx109_0, hx109_1, hx109_2, hx109_3, hx109_4, hx109_5⟩ := at_T52 (Kd.R_reads' HO107.out).2.2 0 p109 q109; cases e109; have qi109 : (0 < t104.length) = True := eq_true (by omega); (try rw [show ((0 : Int)).toNat = 0 from rfl] at hx109_0); (try rw [show 0 * 6 = 0 from rfl] at hx109_0); (try rw [Addr.add_zero'] at hx109_0); (try rw [show ((0 : Int)).toNat = 0 from rfl] at hx109_1); (try rw [show 0 * 6 = 0 from rfl] at hx109_1); (try rw [Addr.add_zero'] at hx109_1); (try rw [show ((0 : Int)).toNat = 0 from rfl] at hx109_2); (try rw [show 0 * 6 = 0 from rfl] at hx109_2); (try rw [Addr.add_zero'] at hx109_2); (try rw [show ((0 : Int)).toNat = 0 from rfl] at hx109_3); (try rw [show 0 * 6 = 0 from rfl] at hx109_3); (try rw [Addr.add_zero'] at hx109_3); (try rw [show ((0 : Int)).toNat = 0 from rfl] at hx109_4); (try rw [show 0 * 6 = 0 from rfl] at hx109_4); (try rw [Addr.add_zero'] at hx109_4); (try rw [show ((0 : Int)).toNat = 0 from rfl] at hx109_5); (try rw [show 0 * 6 = 0 from rfl] at hx109_5); (try rw [Addr.add_zero'] at hx109_5); replace p109 := eq_true p109; replace q109 := eq_true q109))
          go_ret
          exact ⟨by first | rfl | (simp [errW_none, errW_some] <;> rfl) | (simp [*, errW_none, errW_some] <;> rfl), by repeat (first | (with_reducible first | exact HB.out | apply below_alloc | apply pw_below_drewN | apply below_drew1) | exact HB.out)⟩
      · rw [if_neg c5] at H
        exact absurd H (by simp)
    · rw [if_neg c4] at H
      have c4b0 : ((t104.length : Int) == 2) = false := beq_eq_false_iff_ne.mpr c4
      have c4b1 : ((t104.length : Int) != 2) = true := bne_iff_ne.mpr c4
      obtain rfl := Option.some.inj H
      go_enter Try.func24, Try.ntmps24
      go_wp2_with (first | ((with_reducible refine gate_dst (N := 7) rfl ?_); (try (refine gate_guard (by rfl) ?_; dsimp only)); refine Kd.R_lit k41 _ 41 ?hg (N := 7) ?hd (xs := ([(⟨1, 5⟩ : S41), (⟨2, 3⟩ : S41), (⟨11, 1⟩ : S41)] : List (S41))) (inner := [.int .i64 1, .int .i64 5, .int .i64 2, .int .i64 3, .int .i64 11, .int .i64 1]) (ok := fun _ => True) (okp := fun _ => True) ?hr ?hp (fun _ hk => hk) trivial (Below.refl _ _) (Nat.le_refl _) (by simp) ?_; (case hd => rfl); (case hg => rfl); (case hr => first | (go_simp; done) | (go_simp; rfl)); (case hp => exact (Reps.c2 (show Kd.M k41 _ _ _ (⟨1, 5⟩ : S41) [.int .i64 1, .int .i64 5] from (k41_mkM _ _ _ (⟨1, 5⟩ : S41) )) (Reps.c2 (show Kd.M k41 _ _ _ (⟨2, 3⟩ : S41) [.int .i64 2, .int .i64 3] from (k41_mkM _ _ _ (⟨2, 3⟩ : S41) )) (Reps.c2 (show Kd.M k41 _ _ _ (⟨11, 1⟩ : S41) [.int .i64 11, .int .i64 1] from (k41_mkM _ _ _ (⟨11, 1⟩ : S41) )) (Reps.none _ _))))); intro v102 w18 ho19 hb hg_ hnew_; clear hg_ hnew_; (first | rw [← Ny101.out] at ho19 | (simp only [Int.reduceToNat] at ho19; rw [← Ny101.out] at ho19)); have n0_ := Aside0.mk (Kd.R_lower ho19 (below_size (by repeat (first | (with_reducible first | exact HB.out | apply below_alloc | apply pw_below_drewN | apply below_drew1) | exact HB.out)))); have n1_ := Aside0.mk (below_step (by repeat (first | (with_reducible first | exact HB.out | apply below_alloc | apply pw_below_drewN | apply below_drew1) | exact HB.out)) hb); clear HB; have HO103 := n0_; have HB := n1_; clear n0_ n1_; clear hb ho19; obtain ⟨Ao20, co20, eo20⟩ := Kd.R_slice HO103.out; subst eo20) | ((with_reducible refine gate_callee (f := 25) rfl ?_); refine goesL_ (some 8) rfl rfl Try.func25 (by kernel_rfl) rfl #[.slice Ao20 y101.length co20, .int .i64 10] rfl (by (try simp only [List.map_toArray, List.map_cons, List.map_nil]); first | done | rfl | (simp only [List.length_drop, List.length_take]; rfl)) ?_; (with_reducible refine (rollup_Buckets.calls _ _ y101 10 t104 t105 _ ?side1 ?side2 A1.out).mono ?_); (case side1 => repeat (first | exact (Kd.R_reads' HO103.out).2.2 | (with_reducible refine Kd.C_alloc ?_ _) | (with_reducible refine Kd.C_drewN ?_ _) | (with_reducible refine Kd.C_drew ?_))); (case side2 => exact (Kd.R_reads' HO103.out).2.1); rintro e w21 ⟨v106, rfl, ho0, hb⟩; refine ⟨_, rfl, ?_⟩; have n0_ := Aside0.mk (Kd.R_below (by (with_reducible repeat (first | apply Kd.R_alloc | apply Kd.R_drewN | apply Kd.R_drew)); exact HO103.out) hb); have n1_ := Aside0.mk (Kd.R_lower ho0 (below_size (by repeat (first | (with_reducible first | exact HB.out | apply below_alloc | apply pw_below_drewN | apply below_drew1) | exact HB.out)))); have n2_ := Aside0.mk (below_step (by repeat (first | (with_reducible first | exact HB.out | apply below_alloc | apply pw_below_drewN | apply below_drew1) | exact HB.out)) hb); clear HO103; clear HB; have HO103 := n0_; have HO107 := n1_; have HB := n2_; clear n0_ n1_ n2_; (try clear hb); (try clear hb2); (try clear hk); (try clear hi); (try clear ho0)) | ((with_reducible refine gate_callee (f := 27) rfl ?_); refine goesL_ (some 12) rfl rfl Try.func27 (by kernel_rfl) rfl #[.int .i64 t105] rfl (by (try simp only [List.map_toArray, List.map_cons, List.map_nil]); first | done | rfl | (simp only [List.length_drop, List.length_take]; rfl)) ?_; (with_reducible refine (lysimeterlaw19_num.calls t105 t108 _ A2.out).mono ?_); rintro e w' ⟨rfl, ⟨nd, rfl⟩⟩; refine ⟨_, rfl, ?_⟩; obtain ⟨Ao22, co22, eo22⟩ := Kd.R_slice HO107.out; subst eo22))
      go_ret
      exact ⟨by first | rfl | (simp [errW_none, errW_some] <;> rfl) | (simp [*, errW_none, errW_some] <;> rfl), by repeat (first | (with_reducible first | exact HB.out | apply below_alloc | apply pw_below_drewN | apply below_drew1) | exact HB.out)⟩
  · rw [if_neg c3] at H
    have c3b0 : (t108 == 0) = false := beq_eq_false_iff_ne.mpr c3
    have c3b1 : (t108 != 0) = true := bne_iff_ne.mpr c3
    obtain rfl := Option.some.inj H
    go_enter Try.func24, Try.ntmps24
    go_wp2_with (first | ((with_reducible refine gate_dst (N := 7) rfl ?_); (try (refine gate_guard (by rfl) ?_; dsimp only)); refine Kd.R_lit k41 _ 41 ?hg (N := 7) ?hd (xs := ([(⟨1, 5⟩ : S41), (⟨2, 3⟩ : S41), (⟨11, 1⟩ : S41)] : List (S41))) (inner := [.int .i64 1, .int .i64 5, .int .i64 2, .int .i64 3, .int .i64 11, .int .i64 1]) (ok := fun _ => True) (okp := fun _ => True) ?hr ?hp (fun _ hk => hk) trivial (Below.refl _ _) (Nat.le_refl _) (by simp) ?_; (case hd => rfl); (case hg => rfl); (case hr => first | (go_simp; done) | (go_simp; rfl)); (case hp => exact (Reps.c2 (show Kd.M k41 _ _ _ (⟨1, 5⟩ : S41) [.int .i64 1, .int .i64 5] from (k41_mkM _ _ _ (⟨1, 5⟩ : S41) )) (Reps.c2 (show Kd.M k41 _ _ _ (⟨2, 3⟩ : S41) [.int .i64 2, .int .i64 3] from (k41_mkM _ _ _ (⟨2, 3⟩ : S41) )) (Reps.c2 (show Kd.M k41 _ _ _ (⟨11, 1⟩ : S41) [.int .i64 11, .int .i64 1] from (k41_mkM _ _ _ (⟨11, 1⟩ : S41) )) (Reps.none _ _))))); intro v102 w23 ho24 hb hg_ hnew_; clear hg_ hnew_; (first | rw [← Ny101.out] at ho24 | (simp only [Int.reduceToNat] at ho24; rw [← Ny101.out] at ho24)); have n0_ := Aside0.mk (Kd.R_lower ho24 (below_size (by repeat (first | (with_reducible first | exact HB.out | apply below_alloc | apply pw_below_drewN | apply below_drew1) | exact HB.out)))); have n1_ := Aside0.mk (below_step (by repeat (first | (with_reducible first | exact HB.out | apply below_alloc | apply pw_below_drewN | apply below_drew1) | exact HB.out)) hb); clear HB; have HO103 := n0_; have HB := n1_; clear n0_ n1_; clear hb ho24; obtain ⟨Ao25, co25, eo25⟩ := Kd.R_slice HO103.out; subst eo25) | ((with_reducible refine gate_callee (f := 25) rfl ?_); refine goesL_ (some 8) rfl rfl Try.func25 (by kernel_rfl) rfl #[.slice Ao25 y101.length co25, .int .i64 10] rfl (by (try simp only [List.map_toArray, List.map_cons, List.map_nil]); first | done | rfl | (simp only [List.length_drop, List.length_take]; rfl)) ?_; (with_reducible refine (rollup_Buckets.calls _ _ y101 10 t104 t105 _ ?side1 ?side2 A1.out).mono ?_); (case side1 => repeat (first | exact (Kd.R_reads' HO103.out).2.2 | (with_reducible refine Kd.C_alloc ?_ _) | (with_reducible refine Kd.C_drewN ?_ _) | (with_reducible refine Kd.C_drew ?_))); (case side2 => exact (Kd.R_reads' HO103.out).2.1); rintro e w26 ⟨v106, rfl, ho0, hb⟩; refine ⟨_, rfl, ?_⟩; have n0_ := Aside0.mk (Kd.R_below (by (with_reducible repeat (first | apply Kd.R_alloc | apply Kd.R_drewN | apply Kd.R_drew)); exact HO103.out) hb); have n1_ := Aside0.mk (Kd.R_lower ho0 (below_size (by repeat (first | (with_reducible first | exact HB.out | apply below_alloc | apply pw_below_drewN | apply below_drew1) | exact HB.out)))); have n2_ := Aside0.mk (below_step (by repeat (first | (with_reducible first | exact HB.out | apply below_alloc | apply pw_below_drewN | apply below_drew1) | exact HB.out)) hb); clear HO103; clear HB; have HO103 := n0_; have HO107 := n1_; have HB := n2_; clear n0_ n1_ n2_; (try clear hb); (try clear hb2); (try clear hk); (try clear hi); (try clear ho0)) | ((with_reducible refine gate_callee (f := 27) rfl ?_); refine goesL_ (some 12) rfl rfl Try.func27 (by kernel_rfl) rfl #[.int .i64 t105] rfl (by (try simp only [List.map_toArray, List.map_cons, List.map_nil]); first | done | rfl | (simp only [List.length_drop, List.length_take]; rfl)) ?_; (with_reducible refine (lysimeterlaw19_num.calls t105 t108 _ A2.out).mono ?_); rintro e w' ⟨rfl, ⟨nd, rfl⟩⟩; refine ⟨_, rfl, ?_⟩))
    go_ret
    exact ⟨by first | rfl | (simp [errW_none, errW_some] <;> rfl) | (simp [*, errW_none, errW_some] <;> rfl), by repeat (first | (with_reducible first | exact HB.out | apply below_alloc | apply pw_below_drewN | apply below_drew1) | exact HB.out)⟩
def lysimeterlaw19_Same.l0 : Nat → List (S52) → List (S52) → Int → Option (Bool)
  | 0, _, _, _ => none
  | k + 1, x0, x1, x5 => if x5 < (x0.length : Int) then (if 0 ≤ x5 then (if x5 < (x1.length : Int) then (if (!(((rd_T52 x0 x5).f0) == ((rd_T52 x1 x5).f0)) || (!(((rd_T52 x0 x5).f1) == ((rd_T52 x1 x5).f1)) || (!(((rd_T52 x0 x5).f2) == ((rd_T52 x1 x5).f2)) || (!(((rd_T52 x0 x5).f3) == ((rd_T52 x1 x5).f3)) || (!(((rd_T52 x0 x5).f4) == ((rd_T52 x1 x5).f4)) || (!(((rd_T52 x0 x5).f5) == ((rd_T52 x1 x5).f5)))))))) = true then (some false) else (lysimeterlaw19_Same.l0 k x0 x1 (wrap64 (x5 + 1)))) else (none)) else (none)) else (some true)
def lysimeterlaw19_Same.f (k : Nat) (l0 : List (S52)) (l1 : List (S52)) : Option (Bool) := if (l0.length : Int) = (l1.length : Int) then (lysimeterlaw19_Same.l0 k l0 l1 0) else (some false)
set_option maxHeartbeats 8000000 in
set_option maxRecDepth 100000 in
theorem lysimeterlaw19_Same.calls (k : Nat) (A0 : Option Addr) (c0 : Nat) (l0 : List (S52)) (A1 : Option Addr) (c1 : Nat) (l1 : List (S52)) (r : Bool) (w : World) (hr0 : Kd.C k52 w A0 l0.length l0) (hc0 : l0.length ≤ c0) (hr1 : Kd.C k52 w A1 l1.length l1) (hc1 : l1.length ≤ c1) (h : lysimeterlaw19_Same.f k l0 l1 = some r) :
    Calls Try.prog 28 #[.slice A0 l0.length c0, .slice A1 l1.length c1] w fun e w' => e = .returned (.bool r) ∧ Drawn0 w w' := by
  have hu52 := Try.underlying52
  have HR0 := Aside0.mk hr0
  have HC0 := Aside0.mk hc0
  clear hr0 hc0
  have HR1 := Aside0.mk hr1
  have HC1 := Aside0.mk hc1
  clear hr1 hc1
  have H : (if (l0.length : Int) = (l1.length : Int) then (lysimeterlaw19_Same.l0 k l0 l1 0) else (some false)) = some r := h
  clear h
  by_cases c3 : (l0.length : Int) = (l1.length : Int)
  · rw [if_pos c3] at H
    have c3b0 : ((l0.length : Int) == (l1.length : Int)) = true := beq_iff_eq.mpr c3
    have c3b1 : ((l0.length : Int) != (l1.length : Int)) = false := bne_eq_false_iff_eq.mpr c3
    have c3b2 : (l0.length == l1.length) = true := by first | simpa using c3 | (simp at c3 ⊢; omega)
    clear c3
    have H' := Aside0.mk H
    clear H
    go_enter Try.func28, Try.ntmps28
    go_wp2
    repeat (go_quiet (fail); try go_wp2)
    go_loopg [5] k (fun kq v5 w' => ∃ (x5_1 : Int), v5 = .int .i64 x5_1 ∧ Aside0 (lysimeterlaw19_Same.l0 kq l0 l1 x5_1 = some r) ∧ Aside0 (kq ≤ k) ∧ Drawn0 w w')
    case atStart => exact ⟨(0), (by first | rfl | (simp; done) | (simp [*]; done)), H', ⟨Nat.le_refl _⟩, by repeat (first | exact Drawn0.refl _ | apply Drawn0.step)⟩
    case round =>
      clear H'
      try clear c1
      try clear c2
      try clear p2
      try clear c3
      try clear c3b0
      try clear c3b1
      try clear c3b2
      obtain ⟨x5_1, rfl, HA, HK1, ⟨m1, rfl⟩⟩ := hrel
      cases gk with
      | zero => exact absurd HA.out (by simp [lysimeterlaw19_Same.l0])
      | succ k1 =>
        have H := HA.out
        clear HA
        simp only [lysimeterlaw19_Same.l0] at H
        by_cases c4 : x5_1 < (l0.length : Int)
        · rw [if_pos c4] at H
          have c4b0 : decide (x5_1 < (l0.length : Int)) = true := decide_eq_true c4
          clear c4
          by_cases c5 : 0 ≤ x5_1
          · rw [if_pos c5] at H
            have c5b0 : decide (0 ≤ x5_1) = true := decide_eq_true c5
            clear c5
            by_cases c6 : x5_1 < (l1.length : Int)
            · rw [if_pos c6] at H
              have c6b0 : decide (x5_1 < (l1.length : Int)) = true := decide_eq_true c6
              clear c6
              by_cases c7 : (!(((rd_T52 l0 x5_1).f0) == ((rd_T52 l1 x5_1).f0)) || (!(((rd_T52 l0 x5_1).f1) == ((rd_T52 l1 x5_1).f1)) || (!(((rd_T52 l0 x5_1).f2) == ((rd_T52 l1 x5_1).f2)) || (!(((rd_T52 l0 x5_1).f3) == ((rd_T52 l1 x5_1).f3)) || (!(((rd_T52 l0 x5_1).f4) == ((rd_T52 l1 x5_1).f4)) || (!(((rd_T52 l0 x5_1).f5) == ((rd_T52 l1 x5_1).f5)))))))) = true
              · rw [if_pos c7] at H
                have c7b0 : (!(((rd_T52 l0 x5_1).f0) == ((rd_T52 l1 x5_1).f0)) || (!(((rd_T52 l0 x5_1).f1) == ((rd_T52 l1 x5_1).f1)) || (!(((rd_T52 l0 x5_1).f2) == ((rd_T52 l1 x5_1).f2)) || (!(((rd_T52 l0 x5_1).f3) == ((rd_T52 l1 x5_1).f3)) || (!(((rd_T52 l0 x5_1).f4) == ((rd_T52 l1 x5_1).f4)) || (!(((rd_T52 l0 x5_1).f5) == ((rd_T52 l1 x5_1).f5)))))))) = true := c7
                clear c7
                obtain rfl := Option.some.inj H
                have p111 : 0 ≤ (x5_1 : Int) := of_decide_eq_true (by first | (with_reducible assumption) | assumption)
                have q111 : x5_1 < (l0.length : Int) := of_decide_eq_true (by first | (with_reducible assumption) | assumption)
                obtain ⟨ad111, e111, hx111_0, hx111_1, hx111_2, hx111_3, hx111_4, hx111_5⟩ := at_T52 HR0.out x5_1 p111 q111
                cases e111
                replace p111 := eq_true p111
                replace q111 := eq_true q111
                have p112 : 0 ≤ (x5_1 : Int) := of_decide_eq_true (by first | (with_reducible assumption) | assumption)
                have q112 : x5_1 < (l1.length : Int) := of_decide_eq_true (by first | (with_reducible assumption) | assumption)
                obtain ⟨ad112, e112, hx112_0, hx112_1, hx112_2, hx112_3, hx112_4, hx112_5⟩ := at_T52 HR1.out x5_1 p112 q112
                cases e112
                replace p112 := eq_true p112
                replace q112 := eq_true q112
                go_wp2
                repeat (go_quiet (fail); try go_wp2)
                go_ret
                exact ⟨by first | rfl | (simp; done) | (simp [*]; done), by repeat (first | exact Drawn0.refl _ | apply Drawn0.step)⟩
              · rw [if_neg c7] at H
                have c7b0 : (!(((rd_T52 l0 x5_1).f0) == ((rd_T52 l1 x5_1).f0)) || (!(((rd_T52 l0 x5_1).f1) == ((rd_T52 l1 x5_1).f1)) || (!(((rd_T52 l0 x5_1).f2) == ((rd_T52 l1 x5_1).f2)) || (!(((rd_T52 l0 x5_1).f3) == ((rd_T52 l1 x5_1).f3)) || (!(((rd_T52 l0 x5_1).f4) == ((rd_T52 l1 x5_1).f4)) || (!(((rd_T52 l0 x5_1).f5) == ((rd_T52 l1 x5_1).f5)))))))) = false := by simpa using c7
                clear c7
                have H' := Aside0.mk H
                clear H
                have p111 : 0 ≤ (x5_1 : Int) := of_decide_eq_true (by first | (with_reducible assumption) | assumption)
                have q111 : x5_1 < (l0.length : Int) := of_decide_eq_true (by first | (with_reducible assumption) | assumption)
                obtain ⟨ad111, e111, hx111_0, hx111_1, hx111_2, hx111_3, hx111_4, hx111_5⟩ := at_T52 HR0.out x5_1 p111 q111
                cases e111
                replace p111 := eq_true p111
                replace q111 := eq_true q111
                have p112 : 0 ≤ (x5_1 : Int) := of_decide_eq_true (by first | (with_reducible assumption) | assumption)
                have q112 : x5_1 < (l1.length : Int) := of_decide_eq_true (by first | (with_reducible assumption) | assumption)
                obtain ⟨ad112, e112, hx112_0, hx112_1, hx112_2, hx112_3, hx112_4, hx112_5⟩ := at_T52 HR1.out x5_1 p112 q112
                cases e112
                replace p112 := eq_true p112
                replace q112 := eq_true q112
                go_wp2
                repeat (go_quiet (fail); try go_wp2)
                go_roundg k1
                case measure => have := HK1.out; omega
                case rel => exact ⟨(wrap64 (x5_1 + 1)), (by first | rfl | (simp; done) | (simp [*]; done)), H', ⟨by have := HK1.out; omega⟩, by repeat (first | exact Drawn0.refl _ | apply Drawn0.step)⟩
            · rw [if_neg c6] at H
              exact absurd H (by simp)
          · rw [if_neg c5] at H
            exact absurd H (by simp)
        · rw [if_neg c4] at H
          have c4b0 : decide (x5_1 < (l0.length : Int)) = false := decide_eq_false c4
          clear c4
          obtain rfl := Option.some.inj H
          go_wp2
          repeat (go_quiet (fail); try go_wp2)
          go_ret
          exact ⟨by first | rfl | (simp; done) | (simp [*]; done), by repeat (first | exact Drawn0.refl _ | apply Drawn0.step)⟩
  · rw [if_neg c3] at H
    have c3b0 : ((l0.length : Int) == (l1.length : Int)) = false := beq_eq_false_iff_ne.mpr c3
    have c3b1 : ((l0.length : Int) != (l1.length : Int)) = true := bne_iff_ne.mpr c3
    have c3b2 : (l0.length == l1.length) = false := by first | simpa using c3 | (simp at c3 ⊢; omega)
    obtain rfl := Option.some.inj H
    go_enter Try.func28, Try.ntmps28
    go_wp2
    repeat (go_quiet (fail); try go_wp2)
    go_ret
    exact ⟨by first | rfl | (simp; done) | (simp [*]; done), by repeat (first | exact Drawn0.refl _ | apply Drawn0.step)⟩
def rollup_Wider.to (x : S52) : Roll.S52 := ⟨x.f0, x.f1, x.f2, x.f3, x.f4, x.f5⟩
def rollup_Wider.f (l0 : List S52) (a1 : Int) : Option (List S52 × Int) := if Roll.WidOK (l0.map rollup_Wider.to) a1 then (some ((Roll.outS (Roll.stepsS a1 (l0.map rollup_Wider.to) ([], none))).map rollup_Buckets.fr, 0)) else none
theorem rollup_Wider.calls (A0 : Option Addr) (c0 : Nat) (l0 : List (S52)) (a1 : Int) (r1 : List S52) (r2 : Int) (w : World) (hr0 : Kd.C k52 w A0 l0.length l0) (hc0 : l0.length ≤ c0) (h : rollup_Wider.f l0 a1 = some (r1, r2)) :
    Calls Try.prog 31 #[.slice A0 l0.length c0, .int .i64 a1] w fun e w' => ∃ v0_ : Value, e = .returned (.tuple #[v0_, .int .i64 r2]) ∧ Kd.R k52 52 w' w.heap.size (fun _ => True) v0_ r1 ∧ Below w.heap.size w w' := by
  unfold rollup_Wider.f at h
  by_cases c : Roll.WidOK (l0.map rollup_Wider.to) a1
  · rw [if_pos c] at h
    obtain ⟨rfl, rfl⟩ := Prod.mk.inj (Option.some.inj h)
    obtain ⟨k1, k2, k3, k4, k5, k6⟩ := c
    have hC : Kd.C Roll.k52 w A0 (l0.map rollup_Wider.to).length (l0.map rollup_Wider.to) := by
      rw [List.length_map]
      exact C_map (f' := fun x : Roll.S52 => (x.f0, x.f1, x.f2, x.f3, x.f4, x.f5)) (g := rollup_Wider.to) (fun x => rfl) hr0
    have K := Roll.wider_calls A0 c0 (l0.map rollup_Wider.to) a1 w hC (by rw [List.length_map]; exact hc0) k2 k3 k1 k4 (fun i hi => k5 i (by omega)) k6
    rw [List.length_map] at K
    refine K.mono ?_
    rintro e w' ⟨v, rfl, hR, hB⟩
    exact ⟨v, rfl, R_map (f' := fun x : S52 => (x.f0, x.f1, x.f2, x.f3, x.f4, x.f5)) (g := rollup_Buckets.fr) (fun x => rfl) hR, hB⟩
  · rw [if_neg c] at h; cases h
end Go.Proofs.Ytdglifoakdkheaa.Rt
end
section
namespace Go.Proofs.Ytdglifoakdkheaa.Rt
open Go.RowKit Go.Proofs.YtdglifoakdkheaaW.PrintWords Go.Proofs.YtdglifoakdkheaaW.PrintLast Go.Proofs.YtdglifoakdkheaaW.PrintMore
attribute [local go_sem] max2_int min2_int max_two min_two max_three min_three max_four min_four   -- for this text's walks alone
set_option linter.unusedVariables false
set_option linter.unusedSimpArgs false
mutual
def lysimeterlaw19_RollupTwice.j0 : Nat → List (S41) → Int → Int → Bool → Bool → Option (Bool)
  | 0, _, _, _, _, _ => none
  | k + 1, x0, x1, x2, x7, x38 => if x38 = true then (some x7) else (lysimeterlaw19_RollupTwice.l0 k x0 x1 x2 0)
def lysimeterlaw19_RollupTwice.l0 : Nat → List (S41) → Int → Int → Int → Option (Bool)
  | 0, _, _, _, _ => none
  | k + 1, x0, x1, x2, x8 => if x8 < (x0.length : Int) then (if 0 ≤ x8 then (if ((rd_T41 x0 x8).f1) > 1125899906842624 then (some true) else (if ((rd_T41 x0 x8).f1) < (-1125899906842624) then (some true) else (lysimeterlaw19_RollupTwice.l0 k x0 x1 x2 (wrap64 (x8 + 1))))) else (none)) else ((rollup_Buckets.f x0 x1).bind fun bt116 => ((lysimeterlaw19_num.f bt116.2).bind fun t120 => (if t120 = 0 then (if (bt116.1.length : Int) > 0 then (if 0 < (bt116.1.length : Int) then (lysimeterlaw19_RollupTwice.j2 k x0 x1 x2 bt116.1 (decide (((rd_T52 bt116.1 0).f0) < (-9007199254740992)))) else (none)) else (lysimeterlaw19_RollupTwice.j2 k x0 x1 x2 bt116.1 false)) else (lysimeterlaw19_RollupTwice.j2 k x0 x1 x2 bt116.1 true))))
def lysimeterlaw19_RollupTwice.j2 : Nat → List (S41) → Int → Int → List (S52) → Bool → Option (Bool)
  | 0, _, _, _, _, _ => none
  | k + 1, x0, x1, x2, x9, x80 => if x80 = true then (some true) else ((rollup_Wider.f x9 (wrap64 (x1 * x2))).bind fun bt122 => ((rollup_Buckets.f x0 (wrap64 (x1 * x2))).bind fun bt126 => ((lysimeterlaw19_num.f bt122.2).bind fun t130 => ((lysimeterlaw19_num.f bt126.2).bind fun t131 => (if (wrap64 (t130 + t131)) = 0 then ((lysimeterlaw19_Same.f k bt122.1 bt126.1).bind fun t132 => (some t132)) else (some false))))))
end
def lysimeterlaw19_RollupTwice.f (k : Nat) (l0 : List (S41)) (a1 : Int) (a2 : Int) : Option (Bool) := (lysimeterlaw19_alive.f).bind fun t113 => (if t113 = true then (if (l0.length : Int) > 500 then (lysimeterlaw19_RollupTwice.j0 k l0 a1 a2 t113 true) else (if a1 < 1 then (lysimeterlaw19_RollupTwice.j0 k l0 a1 a2 t113 true) else (if a1 > 1048576 then (lysimeterlaw19_RollupTwice.j0 k l0 a1 a2 t113 true) else (if a2 < 1 then (lysimeterlaw19_RollupTwice.j0 k l0 a1 a2 t113 true) else (lysimeterlaw19_RollupTwice.j0 k l0 a1 a2 t113 (decide (a2 > 1048576))))))) else (lysimeterlaw19_RollupTwice.j0 k l0 a1 a2 t113 true))
set_option maxHeartbeats 8000000 in
set_option maxRecDepth 100000 in
theorem lysimeterlaw19_RollupTwice.calls (k : Nat) (A0 : Option Addr) (c0 : Nat) (l0 : List (S41)) (a1 : Int) (a2 : Int) (r : Bool) (w : World) (hr0 : Kd.C k41 w A0 l0.length l0) (hc0 : l0.length ≤ c0) (h : lysimeterlaw19_RollupTwice.f k l0 a1 a2 = some r) :
    Calls Try.prog 11 #[.slice A0 l0.length c0, .int .i64 a1, .int .i64 a2] w fun e w' => e = .returned (.bool r) ∧ Below w.heap.size w w' := by
  have HR0 := Aside0.mk hr0
  have HC0 := Aside0.mk hc0
  clear hr0 hc0
  have HB := Aside0.mk (Below.refl w.heap.size w)
  have H : ((lysimeterlaw19_alive.f).bind fun t113 => (if t113 = true then (if (l0.length : Int) > 500 then (lysimeterlaw19_RollupTwice.j0 k l0 a1 a2 t113 true) else (if a1 < 1 then (lysimeterlaw19_RollupTwice.j0 k l0 a1 a2 t113 true) else (if a1 > 1048576 then (lysimeterlaw19_RollupTwice.j0 k l0 a1 a2 t113 true) else (if a2 < 1 then (lysimeterlaw19_RollupTwice.j0 k l0 a1 a2 t113 true) else (lysimeterlaw19_RollupTwice.j0 k l0 a1 a2 t113 (decide (a2 > 1048576))))))) else (lysimeterlaw19_RollupTwice.j0 k l0 a1 a2 t113 true))) = some r := h
  clear h
  replace H := Option.bind_eq_some_iff.mp H
  obtain ⟨t113, A40, H⟩ := H
  replace H : (if t113 = true then (if (l0.length : Int) > 500 then (lysimeterlaw19_RollupTwice.j0 k l0 a1 a2 t113 true) else (if a1 < 1 then (lysimeterlaw19_RollupTwice.j0 k l0 a1 a2 t113 true) else (if a1 > 1048576 then (lysimeterlaw19_RollupTwice.j0 k l0 a1 a2 t113 true) else (if a2 < 1 then (lysimeterlaw19_RollupTwice.j0 k l0 a1 a2 t113 true) else (lysimeterlaw19_RollupTwice.j0 k l0 a1 a2 t113 (decide (a2 > 1048576))))))) else (lysimeterlaw19_RollupTwice.j0 k l0 a1 a2 t113 true)) = some r := H
  have A4 := Aside0.mk A40
  clear A40
  have HC5 := Aside0.mk H
  clear H
  go_enter Try.func11, Try.ntmps11
  go_upto_region 2 with (first | ((with_reducible refine gate_callee (f := 24) rfl ?_); refine goesL_ (some 15) rfl rfl Try.func24 (by kernel_rfl) rfl #[] rfl (by (try simp only [List.map_toArray, List.map_cons, List.map_nil]); first | done | rfl | (simp only [List.length_drop, List.length_take]; rfl)) ?_; (with_reducible refine (lysimeterlaw19_alive.calls  t113 _ A4.out).mono ?_); rintro e w6 ⟨rfl, hb⟩; refine ⟨_, rfl, ?_⟩; have n0_ := Aside0.mk (below_step (by repeat (first | (with_reducible first | exact HB.out | apply below_alloc | apply pw_below_drewN | apply below_drew1) | exact HB.out)) hb); clear HB; have HB := n0_; clear n0_; (try clear hb); (try clear hb2); (try clear hk); (try clear hi)))
  (try simp only [Act.put, List.setIfInBounds_toArray, List.set_cons_zero, List.set_cons_succ])
  go_cut [38] (fun v38 wc => ∃ (kq : Nat) (x38_4 : Bool), v38 = .bool x38_4 ∧ Aside0 (lysimeterlaw19_RollupTwice.j0 kq l0 a1 a2 t113 x38_4 = some r) ∧ Aside0 (kq ≤ k) ∧ Aside0 (Below w.heap.size w wc))
  case first =>
    have H := HC5.out
    clear HC5
    by_cases c7 : t113 = true
    · subst c7
      have H1 : (if (l0.length : Int) > 500 then (lysimeterlaw19_RollupTwice.j0 k l0 a1 a2 true true) else (if a1 < 1 then (lysimeterlaw19_RollupTwice.j0 k l0 a1 a2 true true) else (if a1 > 1048576 then (lysimeterlaw19_RollupTwice.j0 k l0 a1 a2 true true) else (if a2 < 1 then (lysimeterlaw19_RollupTwice.j0 k l0 a1 a2 true true) else (lysimeterlaw19_RollupTwice.j0 k l0 a1 a2 true (decide (a2 > 1048576))))))) = some r := by rw [if_pos rfl] at H; exact H
      clear H
      have H := H1
      clear H1
      by_cases c8 : (l0.length : Int) > 500
      · rw [if_pos c8] at H
        have c8b0 : decide (500 < (l0.length : Int)) = true := decide_eq_true c8
        have c8b1 : decide (500 < l0.length) = true := decide_eq_true (by omega)
        clear c8
        (first | rw [c8b0] | (simp only [i64_w, i32_w]; rw [c8b0]) | skip)
        have H' := Aside0.mk H
        clear H
        go_wp2
        go_meet
        case rel => exact ⟨_, (true), (by first | rfl | (simp; done) | (simp [*]; done)), H', ⟨by first | omega | exact Nat.le_refl _⟩, ⟨by repeat (first | (with_reducible first | exact HB.out | apply below_alloc | apply pw_below_drewN | apply below_drew1) | exact HB.out)⟩⟩
      · rw [if_neg c8] at H
        have c8b0 : decide (500 < (l0.length : Int)) = false := decide_eq_false c8
        have c8b1 : decide (500 < l0.length) = false := decide_eq_false (by omega)
        clear c8
        (first | rw [c8b0] | (simp only [i64_w, i32_w]; rw [c8b0]) | skip)
        by_cases c9 : a1 < 1
        · rw [if_pos c9] at H
          have c9b0 : decide (a1 < 1) = true := decide_eq_true c9
          clear c9
          have H' := Aside0.mk H
          clear H
          go_wp2
          go_meet
          case rel => exact ⟨_, (true), (by first | rfl | (simp; done) | (simp [*]; done)), H', ⟨by first | omega | exact Nat.le_refl _⟩, ⟨by repeat (first | (with_reducible first | exact HB.out | apply below_alloc | apply pw_below_drewN | apply below_drew1) | exact HB.out)⟩⟩
        · rw [if_neg c9] at H
          have c9b0 : decide (a1 < 1) = false := decide_eq_false c9
          clear c9
          by_cases c10 : a1 > 1048576
          · rw [if_pos c10] at H
            have c10b0 : decide (1048576 < a1) = true := decide_eq_true c10
            clear c10
            have H' := Aside0.mk H
            clear H
            go_wp2
            go_meet
            case rel => exact ⟨_, (true), (by first | rfl | (simp; done) | (simp [*]; done)), H', ⟨by first | omega | exact Nat.le_refl _⟩, ⟨by repeat (first | (with_reducible first | exact HB.out | apply below_alloc | apply pw_below_drewN | apply below_drew1) | exact HB.out)⟩⟩
          · rw [if_neg c10] at H
            have c10b0 : decide (1048576 < a1) = false := decide_eq_false c10
            clear c10
            by_cases c11 : a2 < 1
            · rw [if_pos c11] at H
              have c11b0 : decide (a2 < 1) = true := decide_eq_true c11
              clear c11
              have H' := Aside0.mk H
              clear H
              go_wp2
              go_meet
              case rel => exact ⟨_, (true), (by first | rfl | (simp; done) | (simp [*]; done)), H', ⟨by first | omega | exact Nat.le_refl _⟩, ⟨by repeat (first | (with_reducible first | exact HB.out | apply below_alloc | apply pw_below_drewN | apply below_drew1) | exact HB.out)⟩⟩
            · rw [if_neg c11] at H
              have c11b0 : decide (a2 < 1) = false := decide_eq_false c11
              clear c11
              have H' := Aside0.mk H
              clear H
              go_wp2
              go_meet
              case rel => exact ⟨_, (decide (a2 > 1048576)), (by first | rfl | (simp; done) | (simp [*]; done)), H', ⟨by first | omega | exact Nat.le_refl _⟩, ⟨by repeat (first | (with_reducible first | exact HB.out | apply below_alloc | apply pw_below_drewN | apply below_drew1) | exact HB.out)⟩⟩
    · replace c7 := Bool.eq_false_iff.mpr c7
      subst c7
      have H1 : (lysimeterlaw19_RollupTwice.j0 k l0 a1 a2 false true) = some r := by rw [if_neg (show ¬ (false = true) by decide)] at H; exact H
      clear H
      have H := H1
      clear H1
      have H' := Aside0.mk H
      clear H
      go_wp2
      go_meet
      case rel => exact ⟨_, (true), (by first | rfl | (simp; done) | (simp [*]; done)), H', ⟨by first | omega | exact Nat.le_refl _⟩, ⟨by repeat (first | (with_reducible first | exact HB.out | apply below_alloc | apply pw_below_drewN | apply below_drew1) | exact HB.out)⟩⟩
  case rest =>
    clear HC5
    try clear c1
    try clear c2
    try clear p2
    try clear c7
    try clear c8
    try clear c8b0
    try clear c8b1
    try clear c9
    try clear c9b0
    try clear c10
    try clear c10b0
    try clear c11
    try clear c11b0
    obtain ⟨kq, x38_4, rfl, HA, HJ4, HB⟩ := hcut
    cases kq with
    | zero => exact absurd HA.out (by simp [lysimeterlaw19_RollupTwice.j0])
    | succ kj4 =>
      have H := HA.out
      clear HA
      simp only [lysimeterlaw19_RollupTwice.j0] at H
      by_cases c12 : x38_4 = true
      · subst c12
        have H1 : (some t113) = some r := by rw [if_pos rfl] at H; exact H
        clear H
        have H := H1
        clear H1
        obtain rfl := Option.some.inj H
        go_wp2
        go_ret
        exact ⟨by first | rfl | (simp [errW_none, errW_some] <;> rfl) | (simp [*, errW_none, errW_some] <;> rfl), by repeat (first | (with_reducible first | exact HB.out | apply below_alloc | apply pw_below_drewN | apply below_drew1) | exact HB.out)⟩
      · replace c12 := Bool.eq_false_iff.mpr c12
        subst c12
        have H1 : (lysimeterlaw19_RollupTwice.l0 kj4 l0 a1 a2 0) = some r := by rw [if_neg (show ¬ (false = true) by decide)] at H; exact H
        clear H
        have H := H1
        clear H1
        have H' := Aside0.mk H
        clear H
        go_wp2
        go_loopg [8] kj4 (fun kq v8 w' => ∃ (x8_2 : Int), v8 = .int .i64 x8_2 ∧ Aside0 (lysimeterlaw19_RollupTwice.l0 kq l0 a1 a2 x8_2 = some r) ∧ Aside0 (kq ≤ kj4) ∧ Aside0 (Below w.heap.size w w'))
        case atStart => exact ⟨(0), (by first | rfl | (simp; done) | (simp [*]; done)), H', ⟨Nat.le_refl _⟩, ⟨by repeat (first | (with_reducible first | exact HB.out | apply below_alloc | apply pw_below_drewN | apply below_drew1) | exact HB.out)⟩⟩
        case round =>
          clear H'
          try clear c1
          try clear c2
          try clear p2
          try clear c7
          try clear c8
          try clear c8b0
          try clear c8b1
          try clear c9
          try clear c9b0
          try clear c10
          try clear c10b0
          try clear c11
          try clear c11b0
          try clear c12
          try clear p2
          obtain ⟨x8_2, rfl, HA, HK2, HB⟩ := hrel
          cases gk with
          | zero => exact absurd HA.out (by simp [lysimeterlaw19_RollupTwice.l0])
          | succ k2 =>
            have H := HA.out
            clear HA
            simp only [lysimeterlaw19_RollupTwice.l0] at H
            by_cases c13 : x8_2 < (l0.length : Int)
            · rw [if_pos c13] at H
              have c13b0 : decide (x8_2 < (l0.length : Int)) = true := decide_eq_true c13
              clear c13
              by_cases c14 : 0 ≤ x8_2
              · rw [if_pos c14] at H
                have c14b0 : decide (0 ≤ x8_2) = true := decide_eq_true c14
                clear c14
                by_cases c15 : ((rd_T41 l0 x8_2).f1) > 1125899906842624
                · rw [if_pos c15] at H
                  have c15b0 : decide (1125899906842624 < ((rd_T41 l0 x8_2).f1)) = true := decide_eq_true c15
                  clear c15
                  obtain rfl := Option.some.inj H
                  have p114 : 0 ≤ (x8_2 : Int) := of_decide_eq_true (by first | (with_reducible assumption) | assumption)
                  have q114 : x8_2 < (l0.length : Int) := of_decide_eq_true (by first | (with_reducible assumption) | assumption)
                  obtain ⟨ad114, e114, hx114_0, hx114_1⟩ := at_T41 HR0.out x8_2 p114 q114
                  cases e114
                  replace hx114_0 := (HB.out.cell (World.block_lt_of_cell? w _ hx114_0)).trans hx114_0
                  replace hx114_1 := (HB.out.cell (World.block_lt_of_cell? w _ hx114_1)).trans hx114_1
                  replace p114 := eq_true p114
                  replace q114 := eq_true q114
                  go_wp2
                  go_ret
                  exact ⟨by first | rfl | (simp [errW_none, errW_some] <;> rfl) | (simp [*, errW_none, errW_some] <;> rfl), by repeat (first | (with_reducible first | exact HB.out | apply below_alloc | apply pw_below_drewN | apply below_drew1) | exact HB.out)⟩
                · rw [if_neg c15] at H
                  have c15b0 : decide (1125899906842624 < ((rd_T41 l0 x8_2).f1)) = false := decide_eq_false c15
                  clear c15
                  by_cases c16 : ((rd_T41 l0 x8_2).f1) < (-1125899906842624)
                  · rw [if_pos c16] at H
                    have c16b0 : decide (((rd_T41 l0 x8_2).f1) < (-1125899906842624)) = true := decide_eq_true c16
                    clear c16
                    obtain rfl := Option.some.inj H
                    have p114 : 0 ≤ (x8_2 : Int) := of_decide_eq_true (by first | (with_reducible assumption) | assumption)
                    have q114 : x8_2 < (l0.length : Int) := of_decide_eq_true (by first | (with_reducible assumption) | assumption)
                    obtain ⟨ad114, e114, hx114_0, hx114_1⟩ := at_T41 HR0.out x8_2 p114 q114
                    cases e114
                    replace hx114_0 := (HB.out.cell (World.block_lt_of_cell? w _ hx114_0)).trans hx114_0
                    replace hx114_1 := (HB.out.cell (World.block_lt_of_cell? w _ hx114_1)).trans hx114_1
                    replace p114 := eq_true p114
                    replace q114 := eq_true q114
                    have p115 : 0 ≤ (x8_2 : Int) := of_decide_eq_true (by first | (with_reducible assumption) | assumption)
                    have q115 : x8_2 < (l0.length : Int) := of_decide_eq_true (by first | (with_reducible assumption) | assumption)
                    obtain ⟨ad115, e115, hx115_0, hx115_1⟩ := at_T41 HR0.out x8_2 p115 q115
                    obtain rfl : ad114 = ad115 := (by injection e115)
                    replace hx115_0 := (HB.out.cell (World.block_lt_of_cell? w _ hx115_0)).trans hx115_0
                    replace hx115_1 := (HB.out.cell (World.block_lt_of_cell? w _ hx115_1)).trans hx115_1
                    replace p115 := eq_true p115
                    replace q115 := eq_true q115
                    go_wp2
                    go_ret
                    exact ⟨by first | rfl | (simp [errW_none, errW_some] <;> rfl) | (simp [*, errW_none, errW_some] <;> rfl), by repeat (first | (with_reducible first | exact HB.out | apply below_alloc | apply pw_below_drewN | apply below_drew1) | exact HB.out)⟩
                  · rw [if_neg c16] at H
                    have c16b0 : decide (((rd_T41 l0 x8_2).f1) < (-1125899906842624)) = false := decide_eq_false c16
                    clear c16
                    have H' := Aside0.mk H
                    clear H
                    have p114 : 0 ≤ (x8_2 : Int) := of_decide_eq_true (by first | (with_reducible assumption) | assumption)
                    have q114 : x8_2 < (l0.length : Int) := of_decide_eq_true (by first | (with_reducible assumption) | assumption)
                    obtain ⟨ad114, e114, hx114_0, hx114_1⟩ := at_T41 HR0.out x8_2 p114 q114
                    cases e114
                    replace hx114_0 := (HB.out.cell (World.block_lt_of_cell? w _ hx114_0)).trans hx114_0
                    replace hx114_1 := (HB.out.cell (World.block_lt_of_cell? w _ hx114_1)).trans hx114_1
                    replace p114 := eq_true p114
                    replace q114 := eq_true q114
                    have p115 : 0 ≤ (x8_2 : Int) := of_decide_eq_true (by first | (with_reducible assumption) | assumption)
                    have q115 : x8_2 < (l0.length : Int) := of_decide_eq_true (by first | (with_reducible assumption) | assumption)
                    obtain ⟨ad115, e115, hx115_0, hx115_1⟩ := at_T41 HR0.out x8_2 p115 q115
                    obtain rfl : ad114 = ad115 := (by injection e115)
                    replace hx115_0 := (HB.out.cell (World.block_lt_of_cell? w _ hx115_0)).trans hx115_0
                    replace hx115_1 := (HB.out.cell (World.block_lt_of_cell? w _ hx115_1)).trans hx115_1
                    replace p115 := eq_true p115
                    replace q115 := eq_true q115
                    go_wp2
                    go_roundg k2
                    case measure => have := HJ4.out; have := HK2.out; omega
                    case rel => exact ⟨(wrap64 (x8_2 + 1)), (by first | rfl | (simp; done) | (simp [*]; done)), H', ⟨by have := HJ4.out; have := HK2.out; omega⟩, ⟨by repeat (first | (with_reducible first | exact HB.out | apply below_alloc | apply pw_below_drewN | apply below_drew1) | exact HB.out)⟩⟩
              · rw [if_neg c14] at H
                exact absurd H (by simp)
            · rw [if_neg c13] at H
              have c13b0 : decide (x8_2 < (l0.length : Int)) = false := decide_eq_false c13
              clear c13
              replace H := Option.bind_eq_some_iff.mp H
              obtain ⟨⟨t116, t117⟩, A170, H⟩ := H
              replace H : ((lysimeterlaw19_num.f t117).bind fun t120 => (if t120 = 0 then (if (t116.length : Int) > 0 then (if 0 < (t116.length : Int) then (lysimeterlaw19_RollupTwice.j2 k2 l0 a1 a2 t116 (decide (((rd_T52 t116 0).f0) < (-9007199254740992)))) else (none)) else (lysimeterlaw19_RollupTwice.j2 k2 l0 a1 a2 t116 false)) else (lysimeterlaw19_RollupTwice.j2 k2 l0 a1 a2 t116 true))) = some r := H
              have A17 := Aside0.mk A170
              clear A170
              have HC18 := Aside0.mk H
              clear H
              go_upto_region 10 with (first | ((with_reducible refine gate_callee (f := 25) rfl ?_); refine goesL_ (some 63) rfl rfl Try.func25 (by kernel_rfl) rfl #[.slice A0 l0.length c0, .int .i64 a1] rfl (by (try simp only [List.map_toArray, List.map_cons, List.map_nil]); first | done | rfl | (simp only [List.length_drop, List.length_take]; rfl)) ?_; (with_reducible refine (rollup_Buckets.calls _ _ l0 a1 t116 t117 _ ?side1 ?side2 A17.out).mono ?_); (case side1 => repeat (first | exact (Kd.C_below HR0.out HB.out) | (with_reducible refine Kd.C_alloc ?_ _) | (with_reducible refine Kd.C_drewN ?_ _) | (with_reducible refine Kd.C_drew ?_))); (case side2 => exact HC0.out); rintro e w19 ⟨v118, rfl, ho0, hb⟩; refine ⟨_, rfl, ?_⟩; have n0_ := Aside0.mk (Kd.R_lower ho0 (below_size (by repeat (first | (with_reducible first | exact HB.out | apply below_alloc | apply pw_below_drewN | apply below_drew1) | exact HB.out)))); have n1_ := Aside0.mk (below_step (by repeat (first | (with_reducible first | exact HB.out | apply below_alloc | apply pw_below_drewN | apply below_drew1) | exact HB.out)) hb); clear HB; have HO119 := n0_; have HB := n1_; clear n0_ n1_; (try clear hb); (try clear hb2); (try clear hk); (try clear hi); (try clear ho0)))
              (try simp only [Act.put, List.setIfInBounds_toArray, List.set_cons_zero, List.set_cons_succ])
              go_cut [80] (fun v80 wc => ∃ (kq : Nat) (x80_17 : Bool), v80 = .bool x80_17 ∧ Aside0 (lysimeterlaw19_RollupTwice.j2 kq l0 a1 a2 t116 x80_17 = some r) ∧ Aside0 (kq ≤ k2) ∧ Aside0 (Kd.R k52 52 wc w.heap.size (fun _ => True) v118 t116) ∧ Aside0 (Below w.heap.size w wc))
              case first =>
                have H := HC18.out
                clear HC18
                replace H := Option.bind_eq_some_iff.mp H
                obtain ⟨t120, A200, H⟩ := H
                replace H : (if t120 = 0 then (if (t116.length : Int) > 0 then (if 0 < (t116.length : Int) then (lysimeterlaw19_RollupTwice.j2 k2 l0 a1 a2 t116 (decide (((rd_T52 t116 0).f0) < (-9007199254740992)))) else (none)) else (lysimeterlaw19_RollupTwice.j2 k2 l0 a1 a2 t116 false)) else (lysimeterlaw19_RollupTwice.j2 k2 l0 a1 a2 t116 true)) = some r := H
                have A20 := Aside0.mk A200
                clear A200
                by_cases c21 : t120 = 0
                · rw [if_pos c21] at H
                  have c21b0 : (t120 == 0) = true := beq_iff_eq.mpr c21
                  have c21b1 : (t120 != 0) = false := bne_eq_false_iff_eq.mpr c21
                  clear c21
                  (first | rw [c21b0] | (simp only [i64_w, i32_w]; rw [c21b0]) | skip)
                  by_cases c22 : (t116.length : Int) > 0
                  · rw [if_pos c22] at H
                    have c22b0 : decide (0 < (t116.length : Int)) = true := decide_eq_true c22
                    have c22b1 : decide (0 < t116.length) = true := decide_eq_true (by omega)
                    clear c22
                    by_cases c23 : 0 < (t116.length : Int)
                    · rw [if_pos c23] at H
                      have c23b0 : decide (0 < (t116.length : Int)) = true := decide_eq_true c23
                      have c23b1 : decide (0 < t116.length) = true := decide_eq_true (by omega)
                      clear c23
                      have H' := Aside0.mk H
                      clear H
                      go_wp2_with (first | ((with_reducible refine gate_callee (f := 27) rfl ?_); refine goesL_ (some 67) rfl rfl Try.func27 (by kernel_rfl) rfl #[.int .i64 t117] rfl (by (try simp only [List.map_toArray, List.map_cons, List.map_nil]); first | done | rfl | (simp only [List.length_drop, List.length_take]; rfl)) ?_; (with_reducible refine (lysimeterlaw19_num.calls t117 t120 _ A20.out).mono ?_); rintro e w' ⟨rfl, ⟨nd, rfl⟩⟩; refine ⟨_, rfl, ?_⟩; obtain ⟨Ao24, co24, eo24⟩ := Kd.R_slice HO119.out; subst eo24; have p121 : 0 ≤ (0 : Int) := (by omega); have q121 : 0 < (t116.length : Int) := of_decide_eq_true (by first | (with_reducible assumption) | assumption); obtain ⟨ad121, e121, hx121_0, hx121_1, hx121_2, hx121_3, hx121_4, hx121_5⟩ := at_T52 (Kd.R_reads' HO119.out).2.2 0 p121 q121; cases e121; have qi121 : (0 < t116.length) = True := eq_true (by omega); (try rw [show ((0 : Int)).toNat = 0 from rfl] at hx121_0); (try rw [show 0 * 6 = 0 from rfl] at hx121_0); (try rw [Addr.add_zero'] at hx121_0); (try rw [show ((0 : Int)).toNat = 0 from rfl] at hx121_1); (try rw [show 0 * 6 = 0 from rfl] at hx121_1); (try rw [Addr.add_zero'] at hx121_1); (try rw [show ((0 : Int)).toNat = 0 from rfl] at hx121_2); (try rw [show 0 * 6 = 0 from rfl] at hx121_2); (try rw [Addr.add_zero'] at hx121_2); (try rw [show ((0 : Int)).toNat = 0 from rfl] at hx121_3); (try rw [show 0 * 6 = 0 from rfl] at hx121_3); (try rw [Addr.add_zero'] at hx121_3); (try rw [show ((0 : Int)).toNat = 0 from rfl] at hx121_4); (try rw [show 0 * 6 = 0 from rfl] at hx121_4); (try rw [Addr.add_zero'] at hx121_4); (try rw [show ((0 : Int)).toNat = 0 from rfl] at hx121_5); (try rw [show 0 * 6 = 0 from rfl] at hx121_5); (try rw [Addr.add_zero'] at hx121_5); replace p121 := eq_true p121; replace q121 := eq_true q121))
                      go_meet
                      case rel => exact ⟨_, (decide (((rd_T52 t116 0).f0) < (-9007199254740992))), (by first | rfl | (simp; done) | (simp [*]; done)), H', ⟨by have := HJ4.out; have := HK2.out; first | omega | exact Nat.le_refl _⟩, ⟨by (with_reducible repeat (first | apply Kd.R_alloc | apply Kd.R_drewN | apply Kd.R_drew)); exact HO119.out⟩, ⟨by repeat (first | (with_reducible first | exact HB.out | apply below_alloc | apply pw_below_drewN | apply below_drew1) | exact HB.out)⟩⟩
                    · rw [if_neg c23] at H
                      exact absurd H (by simp)
                  · rw [if_neg c22] at H
                    have c22b0 : decide (0 < (t116.length : Int)) = false := decide_eq_false c22
                    have c22b1 : decide (0 < t116.length) = false := decide_eq_false (by omega)
                    clear c22
                    have H' := Aside0.mk H
                    clear H
                    go_wp2_with (first | ((with_reducible refine gate_callee (f := 27) rfl ?_); refine goesL_ (some 67) rfl rfl Try.func27 (by kernel_rfl) rfl #[.int .i64 t117] rfl (by (try simp only [List.map_toArray, List.map_cons, List.map_nil]); first | done | rfl | (simp only [List.length_drop, List.length_take]; rfl)) ?_; (with_reducible refine (lysimeterlaw19_num.calls t117 t120 _ A20.out).mono ?_); rintro e w' ⟨rfl, ⟨nd, rfl⟩⟩; refine ⟨_, rfl, ?_⟩; obtain ⟨Ao25, co25, eo25⟩ := Kd.R_slice HO119.out; subst eo25))
                    go_meet
                    case rel => exact ⟨_, (false), (by first | rfl | (simp; done) | (simp [*]; done)), H', ⟨by have := HJ4.out; have := HK2.out; first | omega | exact Nat.le_refl _⟩, ⟨by (with_reducible repeat (first | apply Kd.R_alloc | apply Kd.R_drewN | apply Kd.R_drew)); exact HO119.out⟩, ⟨by repeat (first | (with_reducible first | exact HB.out | apply below_alloc | apply pw_below_drewN | apply below_drew1) | exact HB.out)⟩⟩
                · rw [if_neg c21] at H
                  have c21b0 : (t120 == 0) = false := beq_eq_false_iff_ne.mpr c21
                  have c21b1 : (t120 != 0) = true := bne_iff_ne.mpr c21
                  (first | rw [c21b0] | (simp only [i64_w, i32_w]; rw [c21b0]) | skip)
                  have H' := Aside0.mk H
                  clear H
                  go_wp2_with (first | ((with_reducible refine gate_callee (f := 27) rfl ?_); refine goesL_ (some 67) rfl rfl Try.func27 (by kernel_rfl) rfl #[.int .i64 t117] rfl (by (try simp only [List.map_toArray, List.map_cons, List.map_nil]); first | done | rfl | (simp only [List.length_drop, List.length_take]; rfl)) ?_; (with_reducible refine (lysimeterlaw19_num.calls t117 t120 _ A20.out).mono ?_); rintro e w' ⟨rfl, ⟨nd, rfl⟩⟩; refine ⟨_, rfl, ?_⟩))
                  go_meet
                  case rel => exact ⟨_, (true), (by first | rfl | (simp; done) | (simp [*]; done)), H', ⟨by have := HJ4.out; have := HK2.out; first | omega | exact Nat.le_refl _⟩, ⟨by (with_reducible repeat (first | apply Kd.R_alloc | apply Kd.R_drewN | apply Kd.R_drew)); exact HO119.out⟩, ⟨by repeat (first | (with_reducible first | exact HB.out | apply below_alloc | apply pw_below_drewN | apply below_drew1) | exact HB.out)⟩⟩
              case rest =>
                clear HC18
                try clear c1
                try clear p1
                try clear q1
                try clear hx1
                try clear qi1
                try clear c2
                try clear p2
                try clear p6
                try clear c7
                try clear c8
                try clear c8b0
                try clear c8b1
                try clear c9
                try clear c9b0
                try clear c10
                try clear c10b0
                try clear c11
                try clear c11b0
                try clear p11
                try clear q11
                try clear hx11
                try clear c12
                try clear p12
                try clear q12
                try clear hx12
                try clear qi12
                try clear c13
                try clear c13b0
                try clear c14
                try clear c14b0
                try clear c15
                try clear c15b0
                try clear c16
                try clear c16b0
                try clear c21
                try clear c21b0
                try clear c21b1
                try clear c22
                try clear c22b0
                try clear c22b1
                try clear c23
                try clear c23b0
                try clear c23b1
                try clear c24
                try clear c25
                try clear hx114_0
                try clear hx114_1
                try clear hx115_0
                try clear hx115_1
                try clear hx121_0
                try clear hx121_1
                try clear hx121_2
                try clear hx121_3
                try clear hx121_4
                try clear hx121_5
                try clear p114
                try clear p115
                try clear p121
                try clear p2
                try clear q114
                try clear q115
                try clear q121
                obtain ⟨kq, x80_17, rfl, HA, HJ17, HO_9, HB⟩ := hcut
                cases kq with
                | zero => exact absurd HA.out (by simp [lysimeterlaw19_RollupTwice.j2])
                | succ kj17 =>
                  have H := HA.out
                  clear HA
                  simp only [lysimeterlaw19_RollupTwice.j2] at H
                  by_cases c26 : x80_17 = true
                  · subst c26
                    have H1 : (some true) = some r := by rw [if_pos rfl] at H; exact H
                    clear H
                    have H := H1
                    clear H1
                    obtain rfl := Option.some.inj H
                    go_wp2
                    go_ret
                    exact ⟨by first | rfl | (simp [errW_none, errW_some] <;> rfl) | (simp [*, errW_none, errW_some] <;> rfl), by repeat (first | (with_reducible first | exact HB.out | apply below_alloc | apply pw_below_drewN | apply below_drew1) | exact HB.out)⟩
                  · replace c26 := Bool.eq_false_iff.mpr c26
                    subst c26
                    have H1 : ((rollup_Wider.f t116 (wrap64 (a1 * a2))).bind fun bt122 => ((rollup_Buckets.f l0 (wrap64 (a1 * a2))).bind fun bt126 => ((lysimeterlaw19_num.f bt122.2).bind fun t130 => ((lysimeterlaw19_num.f bt126.2).bind fun t131 => (if (wrap64 (t130 + t131)) = 0 then ((lysimeterlaw19_Same.f kj17 bt122.1 bt126.1).bind fun t132 => (some t132)) else (some false)))))) = some r := by rw [if_neg (show ¬ (false = true) by decide)] at H; exact H
                    clear H
                    have H := H1
                    clear H1
                    replace H := Option.bind_eq_some_iff.mp H
                    obtain ⟨⟨t122, t123⟩, A270, H⟩ := H
                    replace H : ((rollup_Buckets.f l0 (wrap64 (a1 * a2))).bind fun bt126 => ((lysimeterlaw19_num.f t123).bind fun t130 => ((lysimeterlaw19_num.f bt126.2).bind fun t131 => (if (wrap64 (t130 + t131)) = 0 then ((lysimeterlaw19_Same.f kj17 t122 bt126.1).bind fun t132 => (some t132)) else (some false))))) = some r := H
                    have A27 := Aside0.mk A270
                    clear A270
                    replace H := Option.bind_eq_some_iff.mp H
                    obtain ⟨⟨t126, t127⟩, A280, H⟩ := H
                    replace H : ((lysimeterlaw19_num.f t123).bind fun t130 => ((lysimeterlaw19_num.f t127).bind fun t131 => (if (wrap64 (t130 + t131)) = 0 then ((lysimeterlaw19_Same.f kj17 t122 t126).bind fun t132 => (some t132)) else (some false)))) = some r := H
                    have A28 := Aside0.mk A280
                    clear A280
                    replace H := Option.bind_eq_some_iff.mp H
                    obtain ⟨t130, A290, H⟩ := H
                    replace H : ((lysimeterlaw19_num.f t127).bind fun t131 => (if (wrap64 (t130 + t131)) = 0 then ((lysimeterlaw19_Same.f kj17 t122 t126).bind fun t132 => (some t132)) else (some false))) = some r := H
                    have A29 := Aside0.mk A290
                    clear A290
                    replace H := Option.bind_eq_some_iff.mp H
                    obtain ⟨t131, A300, H⟩ := H
                    replace H : (if (wrap64 (t130 + t131)) = 0 then ((lysimeterlaw19_Same.f kj17 t122 t126).bind fun t132 => (some t132)) else (some false)) = some r := H
                    have A30 := Aside0.mk A300
                    clear A300
                    by_cases c31 : (wrap64 (t130 + t131)) = 0
                    · rw [if_pos c31] at H
                      have c31b0 : ((wrap64 (t130 + t131)) == 0) = true := beq_iff_eq.mpr c31
                      have c31b1 : ((wrap64 (t130 + t131)) != 0) = false := bne_eq_false_iff_eq.mpr c31
                      clear c31
                      replace H := Option.bind_eq_some_iff.mp H
                      obtain ⟨t132, A320, H⟩ := H
                      replace H : (some t132) = some r := H
                      have A32 := Aside0.mk A320
                      clear A320
                      obtain rfl := Option.some.inj H
                      obtain ⟨Ao33, co33, eo33⟩ := Kd.R_slice HO_9.out
                      subst eo33
                      go_wp2_with (first | ((with_reducible refine gate_callee (f := 31) rfl ?_); refine goesL_ (some 86) rfl rfl Try.func31 (by kernel_rfl) rfl #[.slice Ao33 t116.length co33, .int .i64 (wrap64 (a1 * a2))] rfl (by (try simp only [List.map_toArray, List.map_cons, List.map_nil]); first | done | rfl | (simp only [List.length_drop, List.length_take]; rfl)) ?_; (with_reducible refine (rollup_Wider.calls _ _ t116 (wrap64 (a1 * a2)) t122 t123 _ ?side1 ?side2 A27.out).mono ?_); (case side1 => repeat (first | exact (Kd.R_reads' HO_9.out).2.2 | (with_reducible refine Kd.C_alloc ?_ _) | (with_reducible refine Kd.C_drewN ?_ _) | (with_reducible refine Kd.C_drew ?_))); (case side2 => exact (Kd.R_reads' HO_9.out).2.1); rintro e w34 ⟨v124, rfl, ho0, hb⟩; refine ⟨_, rfl, ?_⟩; have n0_ := Aside0.mk (Kd.R_elder' (by (with_reducible repeat (first | apply Kd.R_alloc | apply Kd.R_drewN | apply Kd.R_drew)); exact HO_9.out) (Kd.R_base ho0) hb); have n1_ := Aside0.mk (Kd.R_lower (Kd.R_new' ho0 (Kd.R_lt (by (with_reducible repeat (first | apply Kd.R_alloc | apply Kd.R_drewN | apply Kd.R_drew)); exact HO_9.out))) (below_size (by repeat (first | (with_reducible first | exact HB.out | apply below_alloc | apply pw_below_drewN | apply below_drew1) | exact HB.out)))); have n2_ := Aside0.mk (below_step (by repeat (first | (with_reducible first | exact HB.out | apply below_alloc | apply pw_below_drewN | apply below_drew1) | exact HB.out)) hb); clear HO_9; clear HB; have HO_9 := n0_; have HO125 := n1_; have HB := n2_; clear n0_ n1_ n2_; (try clear hb); (try clear hb2); (try clear hk); (try clear hi); (try clear ho0)) | ((with_reducible refine gate_callee (f := 25) rfl ?_); refine goesL_ (some 94) rfl rfl Try.func25 (by kernel_rfl) rfl #[.slice A0 l0.length c0, .int .i64 (wrap64 (a1 * a2))] rfl (by (try simp only [List.map_toArray, List.map_cons, List.map_nil]); first | done | rfl | (simp only [List.length_drop, List.length_take]; rfl)) ?_; (with_reducible refine (rollup_Buckets.calls _ _ l0 (wrap64 (a1 * a2)) t126 t127 _ ?side1 ?side2 A28.out).mono ?_); (case side1 => repeat (first | exact (Kd.C_below HR0.out HB.out) | (with_reducible refine Kd.C_alloc ?_ _) | (with_reducible refine Kd.C_drewN ?_ _) | (with_reducible refine Kd.C_drew ?_))); (case side2 => exact HC0.out); rintro e w35 ⟨v128, rfl, ho0, hb⟩; refine ⟨_, rfl, ?_⟩; have n0_ := Aside0.mk (Kd.R_elder' (by (with_reducible repeat (first | apply Kd.R_alloc | apply Kd.R_drewN | apply Kd.R_drew)); exact HO_9.out) (Kd.R_base ho0) hb); have n1_ := Aside0.mk (Kd.R_elder' (by (with_reducible repeat (first | apply Kd.R_alloc | apply Kd.R_drewN | apply Kd.R_drew)); exact HO125.out) (Kd.R_base ho0) hb); have n2_ := Aside0.mk (Kd.R_lower (Kd.R_new' (Kd.R_new' ho0 (Kd.R_lt (by (with_reducible repeat (first | apply Kd.R_alloc | apply Kd.R_drewN | apply Kd.R_drew)); exact HO_9.out))) (Kd.R_lt (by (with_reducible repeat (first | apply Kd.R_alloc | apply Kd.R_drewN | apply Kd.R_drew)); exact HO125.out))) (below_size (by repeat (first | (with_reducible first | exact HB.out | apply below_alloc | apply pw_below_drewN | apply below_drew1) | exact HB.out)))); have n3_ := Aside0.mk (below_step (by repeat (first | (with_reducible first | exact HB.out | apply below_alloc | apply pw_below_drewN | apply below_drew1) | exact HB.out)) hb); clear HO_9; clear HO125; clear HB; have HO_9 := n0_; have HO125 := n1_; have HO129 := n2_; have HB := n3_; clear n0_ n1_ n2_ n3_; (try clear hb); (try clear hb2); (try clear hk); (try clear hi); (try clear ho0)) | ((with_reducible refine gate_callee (f := 27) rfl ?_); refine goesL_ (some 98) rfl rfl Try.func27 (by kernel_rfl) rfl #[.int .i64 t123] rfl (by (try simp only [List.map_toArray, List.map_cons, List.map_nil]); first | done | rfl | (simp only [List.length_drop, List.length_take]; rfl)) ?_; (with_reducible refine (lysimeterlaw19_num.calls t123 t130 _ A29.out).mono ?_); rintro e w' ⟨rfl, ⟨nd, rfl⟩⟩; refine ⟨_, rfl, ?_⟩) | ((with_reducible refine gate_callee (f := 27) rfl ?_); refine goesL_ (some 100) rfl rfl Try.func27 (by kernel_rfl) rfl #[.int .i64 t127] rfl (by (try simp only [List.map_toArray, List.map_cons, List.map_nil]); first | done | rfl | (simp only [List.length_drop, List.length_take]; rfl)) ?_; (with_reducible refine (lysimeterlaw19_num.calls t127 t131 _ A30.out).mono ?_); rintro e w' ⟨rfl, ⟨nd, rfl⟩⟩; refine ⟨_, rfl, ?_⟩; obtain ⟨Ao36, co36, eo36⟩ := Kd.R_slice HO125.out; subst eo36; obtain ⟨Ao37, co37, eo37⟩ := Kd.R_slice HO129.out; subst eo37) | (go_at_call 28; (with_reducible refine (lysimeterlaw19_Same.calls kj17 _ _ t122 _ _ t126 t132 _ ?side1 ?side2 ?side3 ?side4 A32.out).mono ?_); (case side1 => repeat (first | exact (Kd.R_reads' HO125.out).2.2 | (with_reducible refine Kd.C_alloc ?_ _) | (with_reducible refine Kd.C_drewN ?_ _) | (with_reducible refine Kd.C_drew ?_))); (case side2 => exact (Kd.R_reads' HO125.out).2.1); (case side3 => repeat (first | exact (Kd.R_reads' HO129.out).2.2 | (with_reducible refine Kd.C_alloc ?_ _) | (with_reducible refine Kd.C_drewN ?_ _) | (with_reducible refine Kd.C_drew ?_))); (case side4 => exact (Kd.R_reads' HO129.out).2.1); rintro e w' ⟨rfl, ⟨nd, rfl⟩⟩))
                      go_ret
                      exact ⟨by first | rfl | (simp [errW_none, errW_some] <;> rfl) | (simp [*, errW_none, errW_some] <;> rfl), by repeat (first | (with_reducible first | exact HB.out | apply below_alloc | apply pw_below_drewN | apply below_drew1) | exact HB.out)⟩
                    · rw [if_neg c31] at H
                      have c31b0 : ((wrap64 (t130 + t131)) == 0) = false := beq_eq_false_iff_ne.mpr c31
                      have c31b1 : ((wrap64 (t130 + t131)) != 0) = true := bne_iff_ne.mpr c31
                      obtain rfl := Option.some.inj H
                      obtain ⟨Ao38, co38, eo38⟩ := Kd.R_slice HO_9.out
                      subst eo38
                      go_wp2_with (first | ((with_reducible refine gate_callee (f := 31) rfl ?_); refine goesL_ (some 86) rfl rfl Try.func31 (by kernel_rfl) rfl #[.slice Ao38 t116.length co38, .int .i64 (wrap64 (a1 * a2))] rfl (by (try simp only [List.map_toArray, List.map_cons, List.map_nil]); first | done | rfl | (simp only [List.length_drop, List.length_take]; rfl)) ?_; (with_reducible refine (rollup_Wider.calls _ _ t116 (wrap64 (a1 * a2)) t122 t123 _ ?side1 ?side2 A27.out).mono ?_); (case side1 => repeat (first | exact (Kd.R_reads' HO_9.out).2.2 | (with_reducible refine Kd.C_alloc ?_ _) | (with_reducible refine Kd.C_drewN ?_ _) | (with_reducible refine Kd.C_drew ?_))); (case side2 => exact (Kd.R_reads' HO_9.out).2.1); rintro e w39 ⟨v124, rfl, ho0, hb⟩; refine ⟨_, rfl, ?_⟩; have n0_ := Aside0.mk (Kd.R_elder' (by (with_reducible repeat (first | apply Kd.R_alloc | apply Kd.R_drewN | apply Kd.R_drew)); exact HO_9.out) (Kd.R_base ho0) hb); have n1_ := Aside0.mk (Kd.R_lower (Kd.R_new' ho0 (Kd.R_lt (by (with_reducible repeat (first | apply Kd.R_alloc | apply Kd.R_drewN | apply Kd.R_drew)); exact HO_9.out))) (below_size (by repeat (first | (with_reducible first | exact HB.out | apply below_alloc | apply pw_below_drewN | apply below_drew1) | exact HB.out)))); have n2_ := Aside0.mk (below_step (by repeat (first | (with_reducible first | exact HB.out | apply below_alloc | apply pw_below_drewN | apply below_drew1) | exact HB.out)) hb); clear HO_9; clear HB; have HO_9 := n0_; have HO125 := n1_; have HB := n2_; clear n0_ n1_ n2_; (try clear hb); (try clear hb2); (try clear hk); (try clear hi); (try clear ho0)) | ((with_reducible refine gate_callee (f := 25) rfl ?_); refine goesL_ (some 94) rfl rfl Try.func25 (by kernel_rfl) rfl #[.slice A0 l0.length c0, .int .i64 (wrap64 (a1 * a2))] rfl (by (try simp only [List.map_toArray, List.map_cons, List.map_nil]); first | done | rfl | (simp only [List.length_drop, List.length_take]; rfl)) ?_; (with_reducible refine (rollup_Buckets.calls _ _ l0 (wrap64 (a1 * a2)) t126 t127 _ ?side1 ?side2 A28.out).mono ?_); (case side1 => repeat (first | exact (Kd.C_below HR0.out HB.out) | (with_reducible refine Kd.C_alloc ?_ _) | (with_reducible refine Kd.C_drewN ?_ _) | (with_reducible refine Kd.C_drew ?_))); (case side2 => exact HC0.out); rintro e w40 ⟨v128, rfl, ho0, hb⟩; refine ⟨_, rfl, ?_⟩; have n0_ := Aside0.mk (Kd.R_elder' (by (with_reducible repeat (first | apply Kd.R_alloc | apply Kd.R_drewN | apply Kd.R_drew)); exact HO_9.out) (Kd.R_base ho0) hb); have n1_ := Aside0.mk (Kd.R_elder' (by (with_reducible repeat (first | apply Kd.R_alloc | apply Kd.R_drewN | apply Kd.R_drew)); exact HO125.out) (Kd.R_base ho0) hb); have n2_ := Aside0.mk (Kd.R_lower (Kd.R_new' (Kd.R_new' ho0 (Kd.R_lt (by (with_reducible repeat (first | apply Kd.R_alloc | apply Kd.R_drewN | apply Kd.R_drew)); exact HO_9.out))) (Kd.R_lt (by (with_reducible repeat (first | apply Kd.R_alloc | apply Kd.R_drewN | apply Kd.R_drew)); exact HO125.out))) (below_size (by repeat (first | (with_reducible first | exact HB.out | apply below_alloc | apply pw_below_drewN | apply below_drew1) | exact HB.out)))); have n3_ := Aside0.mk (below_step (by repeat (first | (with_reducible first | exact HB.out | apply below_alloc | apply pw_below_drewN | apply below_drew1) | exact HB.out)) hb); clear HO_9; clear HO125; clear HB; have HO_9 := n0_; have HO125 := n1_; have HO129 := n2_; have HB := n3_; clear n0_ n1_ n2_ n3_; (try clear hb); (try clear hb2); (try clear hk); (try clear hi); (try clear ho0)) | ((with_reducible refine gate_callee (f := 27) rfl ?_); refine goesL_ (some 98) rfl rfl Try.func27 (by kernel_rfl) rfl #[.int .i64 t123] rfl (by (try simp only [List.map_toArray, List.map_cons, List.map_nil]); first | done | rfl | (simp only [List.length_drop, List.length_take]; rfl)) ?_; (with_reducible refine (lysimeterlaw19_num.calls t123 t130 _ A29.out).mono ?_); rintro e w' ⟨rfl, ⟨nd, rfl⟩⟩; refine ⟨_, rfl, ?_⟩) | ((with_reducible refine gate_callee (f := 27) rfl ?_); refine goesL_ (some 100) rfl rfl Try.func27 (by kernel_rfl) rfl #[.int .i64 t127] rfl (by (try simp only [List.map_toArray, List.map_cons, List.map_nil]); first | done | rfl | (simp only [List.length_drop, List.length_take]; rfl)) ?_; (with_reducible refine (lysimeterlaw19_num.calls t127 t131 _ A30.out).mono ?_); rintro e w' ⟨rfl, ⟨nd, rfl⟩⟩; refine ⟨_, rfl, ?_⟩))
                      go_ret
                      exact ⟨by first | rfl | (simp [errW_none, errW_some] <;> rfl) | (simp [*, errW_none, errW_some] <;> rfl), by repeat (first | (with_reducible first | exact HB.out | apply below_alloc | apply pw_below_drewN | apply below_drew1) | exact HB.out)⟩
def lysimeterlaw19_RollupTwice.Pure : Prop := ∀ (l0 : List (S41)) (a1 : Int) (a2 : Int), l0.length ≤ maxLen → l0.length * 16 ≤ 140737488351232 → (∀ x ∈ l0, (Lit.int .i64 x.f0).wf = true ∧ (Lit.int .i64 x.f1).wf = true) → (Lit.int .i64 a1).wf = true → (Lit.int .i64 a2).wf = true → ∃ k, lysimeterlaw19_RollupTwice.f k l0 a1 a2 = some true
end Go.Proofs.Ytdglifoakdkheaa.Rt
end
section
namespace Go.Proofs.Ytdglifoakdkheaa.Roll
open Go.RowKit Go.Proofs.YtdglifoakdkheaaW.PrintWords
theorem ris_all (l : List S41) : ∀ (d i : Nat), ris l i d = true → ∀ j, i ≤ j → j < i + d → okAt l j = true := by
  intro d
  induction d with
  | zero => intro i _ j h1 h2; omega
  | succ d ih =>
    intro i h j h1 h2
    unfold ris at h
    rw [Bool.and_eq_true] at h
    by_cases e : i = j
    · rw [← e]; exact h.1
    · exact ih (i + 1) h.2 j (by omega) (by omega)
theorem okAt_parts {l : List S41} {i : Nat} (h : okAt l i = true) : -9007199254740992 ≤ tm l i ∧ tm l i ≤ 9007199254740992 ∧ (0 < i → tm l (i - 1) < tm l i) := by
  unfold okAt at h
  simp only [Bool.and_eq_true, Bool.or_eq_true, decide_eq_true_eq] at h
  refine ⟨h.1, h.2.1, fun h0 => ?_⟩
  rcases h.2.2 with e | e
  · omega
  · exact e
theorem ris_timed {l : List S41} (h : ris l 0 l.length = true) : ∀ s ∈ l, -9007199254740992 ≤ s.f0 ∧ s.f0 ≤ 9007199254740992 := by
  intro s hs
  obtain ⟨i, hi, rfl⟩ := List.getElem_of_mem hs
  have := okAt_parts (ris_all l _ _ h i (by omega) (by omega))
  have e : tm l i = l[i].f0 := by unfold tm; rw [List.getD_eq_getElem?_getD, List.getElem?_eq_getElem hi]; rfl
  rw [e] at this
  exact ⟨this.1, this.2.1⟩
theorem ris_pair {l : List S41} (h : ris l 0 l.length = true) : l.Pairwise (fun a b => a.f0 < b.f0) := by
  have key : ∀ (k j : Nat), j < k → k < l.length → tm l j < tm l k := by
    intro k
    induction k with
    | zero => intro j h1; omega
    | succ k ih =>
      intro j h1 h2
      have h3 := (okAt_parts (ris_all l _ _ h (k + 1) (by omega) (by omega))).2.2 (by omega)
      have h3 : tm l k < tm l (k + 1) := h3
      by_cases e : j = k
      · rw [e]; exact h3
      · exact Int.lt_trans (ih j (by omega) (by omega)) h3
  rw [List.pairwise_iff_getElem]
  intro i j hi hj hij
  have := key j i hij hj
  unfold tm at this
  rwa [List.getD_eq_getElem?_getD, List.getElem?_eq_getElem hi, List.getD_eq_getElem?_getD, List.getElem?_eq_getElem hj] at this
theorem row_in {t T w : Int} (hw : 1 ≤ w) (ht : -9007199254740992 ≤ t) (ht2 : t ≤ 9007199254740992) (hw2 : w ≤ 1099511627776) (h : floorS t w = T) : T ≤ t ∧ t - T < w ∧ -9008298766368768 ≤ T ∧ (w ∣ T) := by
  have h1 := floor_mul t w hw
  have h4 := Int.mul_ediv_add_emod t w
  have h5 := Int.emod_nonneg t (show w ≠ 0 by omega)
  have h6 := Int.emod_lt_of_pos t (show 0 < w by omega)
  rw [h] at h1
  rw [if_neg (by omega)] at h1
  refine ⟨by omega, by omega, by omega, ?_⟩
  rw [h1]
  exact Int.dvd_mul_right _ _
end Go.Proofs.Ytdglifoakdkheaa.Roll
end
section
namespace Go.Proofs.Ytdglifoakdkheaa.Pure
open Go.RowKit Go.Proofs.Ytdglifoakdkheaa.Rt Go.Proofs.YtdglifoakdkheaaW.PrintWords Go.Proofs.YtdglifoakdkheaaW.PrintLast
set_option linter.unusedVariables false
theorem t_alive_buckets : rollup_Buckets.f [⟨1, 5⟩, ⟨2, 3⟩, ⟨11, 1⟩] 10 = some ([⟨0, 2, 8, 3, 5, 3⟩, ⟨10, 1, 1, 1, 1, 1⟩], 0) := by
  kernel_rfl
theorem t_alive_eq : lysimeterlaw19_alive.f = some true := by
  unfold lysimeterlaw19_alive.f
  rw [t_alive_buckets]
  kernel_rfl
theorem t_same_l0 (a : List S52) (hl : a.length ≤ 100000) : ∀ d i : Nat, i + d = a.length → Ev (fun k => lysimeterlaw19_Same.l0 k a a (i : Int)) true := by
  intro d
  induction d with
  | zero =>
    intro i hi
    refine Ev.step (f := fun _ => some true) (fun k => ?_) (Ev.now _)
    simp only [lysimeterlaw19_Same.l0]
    rw [if_neg (by omega)]
  | succ d ih =>
    intro i hi
    refine Ev.step (fun k => ?_) (ih (i + 1) (by omega))
    simp only [lysimeterlaw19_Same.l0]
    have e : wrap64 ((i : Int) + 1) = ((i + 1 : Nat) : Int) := by rw [Roll.wrap64_id (by omega) (by omega)]; omega
    rw [if_pos (by omega), if_pos (by omega), if_pos (by omega), if_neg (by simp), e]
theorem t_same_ev (a : List S52) (hl : a.length ≤ 100000) : Ev (fun k => lysimeterlaw19_Same.f k a a) true := by
  refine Ev.congr (fun k => ?_) (t_same_l0 a hl a.length 0 (by omega))
  unfold lysimeterlaw19_Same.f
  rw [if_pos rfl]
  rfl
def t_end (k : Nat) (x0 : List S41) (x1 x2 : Int) : Option Bool := (rollup_Buckets.f x0 x1).bind fun bt116 => ((lysimeterlaw19_num.f bt116.2).bind fun t120 => (if t120 = 0 then (if (bt116.1.length : Int) > 0 then (if 0 < (bt116.1.length : Int) then (lysimeterlaw19_RollupTwice.j2 k x0 x1 x2 bt116.1 (decide (((rd_T52 bt116.1 0).f0) < (-9007199254740992)))) else (none)) else (lysimeterlaw19_RollupTwice.j2 k x0 x1 x2 bt116.1 false)) else (lysimeterlaw19_RollupTwice.j2 k x0 x1 x2 bt116.1 true)))
def t_small (s : S41) : Prop := -1125899906842624 ≤ s.f1 ∧ s.f1 ≤ 1125899906842624
theorem t_loop (l : List S41) (hl : l.length ≤ 500) (w k2 : Int) (H : (∀ s ∈ l, t_small s) → Ev (fun k => t_end k l w k2) true) : ∀ d i : Nat, i + d = l.length → (∀ s ∈ l.take i, t_small s) → Ev (fun k => lysimeterlaw19_RollupTwice.l0 k l w k2 (i : Int)) true := by
  intro d
  induction d with
  | zero =>
    intro i hi hs
    rw [List.take_of_length_le (by omega)] at hs
    refine Ev.step (fun k => ?_) (H hs)
    simp only [lysimeterlaw19_RollupTwice.l0]
    rw [if_neg (by omega)]
    rfl
  | succ d ih =>
    intro i hi hs
    have hlt : i < l.length := by omega
    have e0 : rd_T41 l (i : Int) = l[i] := by
      unfold rd_T41
      rw [Int.toNat_natCast, List.getD_eq_getElem?_getD, List.getElem?_eq_getElem hlt]
      rfl
    have e : wrap64 ((i : Int) + 1) = ((i + 1 : Nat) : Int) := by rw [Roll.wrap64_id (by omega) (by omega)]; omega
    by_cases c1 : l[i].f1 > 1125899906842624
    · refine Ev.step (f := fun _ => some true) (fun k => ?_) (Ev.now _)
      simp only [lysimeterlaw19_RollupTwice.l0]
      rw [if_pos (by omega), if_pos (by omega), e0, if_pos c1]
    · by_cases c2 : l[i].f1 < -1125899906842624
      · refine Ev.step (f := fun _ => some true) (fun k => ?_) (Ev.now _)
        simp only [lysimeterlaw19_RollupTwice.l0]
        rw [if_pos (by omega), if_pos (by omega), e0, if_neg c1, if_pos c2]
      · refine Ev.step (fun k => ?_) (ih (i + 1) (by omega) ?_)
        · simp only [lysimeterlaw19_RollupTwice.l0]
          rw [if_pos (by omega), if_pos (by omega), e0, if_neg c1, if_neg c2, e]
        · intro s hs'
          rw [List.take_succ_eq_append_getElem hlt] at hs'
          rcases List.mem_append.mp hs' with h | h
          · exact hs s h
          · rw [List.mem_singleton] at h
            rw [h]
            exact ⟨by omega, by omega⟩
theorem t_bk {l : List S41} {w : Int} (hl : l.length ≤ 500) (hin : ∀ x ∈ l, Roll.In x.f0 ∧ Roll.In x.f1) (hw : Roll.In w) : rollup_Buckets.f l w = some ((Roll.bucketsS (l.map rollup_Buckets.to) w).1.map rollup_Buckets.fr, (Roll.bucketsS (l.map rollup_Buckets.to) w).2) := by
  unfold rollup_Buckets.f
  rw [if_pos]
  refine Roll.inB_iff.2 ⟨by omega, fun s hs => ?_, hw⟩
  obtain ⟨y, hy, rfl⟩ := List.mem_map.mp hs
  exact hin y hy
theorem t_rd {G : List (Int × List Roll.S41)} {i : Nat} (h : i < G.length) : Roll.rd_T52 (G.map (fun p => Roll.aggS p.1 p.2)) (i : Int) = Roll.aggS G[i].1 G[i].2 := by
  unfold Roll.rd_T52
  rw [Int.toNat_natCast, List.getD_eq_getElem?_getD, List.getElem?_map, List.getElem?_eq_getElem h]
  rfl
theorem t_final (l : List S41) (hl : l.length ≤ 500) (w k2 : Int) (hw : 1 ≤ w) (hw2 : w ≤ 1048576) (hk : 1 ≤ k2) (hk2 : k2 ≤ 1048576) (hin : ∀ x ∈ l, Roll.In x.f0 ∧ Roll.In x.f1) (hs : ∀ s ∈ l, t_small s) : Ev (fun k => t_end k l w k2) true := by
  obtain ⟨W, hW⟩ : ∃ W, w * k2 = W := ⟨_, rfl⟩
  have hW1 : 1 ≤ W := by
    have := Int.mul_le_mul hw hk (by omega) (by omega)
    omega
  have hW2 : W ≤ 1099511627776 := by
    have := Int.mul_le_mul hw2 hk2 (by omega) (by omega)
    omega
  have hwr : wrap64 (w * k2) = W := by rw [hW, Roll.wrap64_id (by omega) (by omega)]
  have hB := t_bk (w := w) hl hin ⟨by omega, by omega⟩
  have hBW := t_bk (w := W) hl hin ⟨by omega, by omega⟩
  by_cases c4 : Roll.ris (l.map rollup_Buckets.to) 0 (l.map rollup_Buckets.to).length = true
  · obtain ⟨G, hR, hO, _, hP⟩ := Roll.rows_steps w (l.map rollup_Buckets.to) (Roll.ris_pair c4)
    have hT := Roll.ris_timed c4
    have hsm : Roll.small (l.map rollup_Buckets.to) := by
      intro s h
      obtain ⟨y, hy, rfl⟩ := List.mem_map.mp h
      exact hs y hy
    have eB : Roll.bucketsS (l.map rollup_Buckets.to) w = (G.map (fun p => Roll.aggS p.1 p.2), 0) := by
      unfold Roll.bucketsS
      rw [if_neg (by omega), if_pos c4, hO]
    have eW : Roll.bucketsS (l.map rollup_Buckets.to) W = (Roll.outS (Roll.stepsS W ((l.map rollup_Buckets.to).map Roll.oneS) ([], none)), 0) := by
      unfold Roll.bucketsS
      rw [if_neg (by omega), if_pos c4]
    rw [eB] at hB
    have hGl : G.length ≤ 500 := by
      have h1 := Roll.steps_len w ((l.map rollup_Buckets.to).map Roll.oneS) ([], none)
      rw [hO] at h1
      simp only [List.length_map] at h1
      have : (Roll.outS (([], none) : List Roll.S52 × Option Roll.S52)).length = 0 := rfl
      omega
    have hWl : (Roll.outS (Roll.stepsS W ((l.map rollup_Buckets.to).map Roll.oneS) ([], none))).length ≤ 500 := by
      have h1 := Roll.steps_len W ((l.map rollup_Buckets.to).map Roll.oneS) ([], none)
      simp only [List.length_map] at h1
      have : (Roll.outS (([], none) : List Roll.S52 × Option Roll.S52)).length = 0 := rfl
      omega
    have htw : Roll.stepsS W (G.map (fun p => Roll.aggS p.1 p.2)) ([], none) = Roll.stepsS W ((l.map rollup_Buckets.to).map Roll.oneS) ([], none) := by
      have := Roll.twice w k2 hw hk (l.map rollup_Buckets.to) (by rw [List.length_map]; omega) hsm (fun s h => by
        have h1 := hT s h
        have h4 := Int.mul_ediv_add_emod s.f0 w
        have h5 := Int.emod_lt_of_pos s.f0 (show 0 < w by omega)
        omega) G hR
      rwa [hW] at this
    -- each row
    have hrow : ∀ p ∈ G, p.2 ≠ [] ∧ p.2.length ≤ 500 ∧ Roll.small p.2 ∧ -9008298766368768 ≤ p.1 ∧ p.1 ≤ 9007199254740992 := by
      intro p hp
      obtain ⟨hne, hfl⟩ := hR.each p hp
      have hsub : ∀ s ∈ p.2, s ∈ l.map rollup_Buckets.to := by
        intro s h
        rw [← hR.all, List.mem_flatten]
        exact ⟨p.2, List.mem_map.mpr ⟨p, hp, rfl⟩, h⟩
      have hlen : p.2.length ≤ 500 := by
        have h1 : p.2.length ≤ (G.map (·.2)).flatten.length := (List.sublist_flatten_of_mem (List.mem_map.mpr ⟨p, hp, rfl⟩)).length_le
        rw [hR.all, List.length_map] at h1
        omega
      obtain ⟨s, h⟩ := List.exists_mem_of_ne_nil p.2 hne
      have h1 := hT s (hsub s h)
      have h2 := Roll.row_in hw h1.1 h1.2 (by omega) (hfl s h)
      exact ⟨hne, hlen, fun s h => hsm s (hsub s h), h2.2.2.1, by omega⟩
    have hj2 : (∀ i : Nat, i < G.length → -9007199254740992 ≤ (Roll.aggS G[0]!.1 G[0]!.2).f0) → Ev (fun k => lysimeterlaw19_RollupTwice.j2 k l w k2 ((G.map (fun p => Roll.aggS p.1 p.2)).map rollup_Buckets.fr) false) true := by
      intro hlow
      have hid : ((G.map (fun p => Roll.aggS p.1 p.2)).map rollup_Buckets.fr).map rollup_Wider.to = G.map (fun p => Roll.aggS p.1 p.2) := by
        rw [List.map_map]
        exact List.map_id' _
      have hOK : Roll.WidOK (((G.map (fun p => Roll.aggS p.1 p.2)).map rollup_Buckets.fr).map rollup_Wider.to) W := by
        rw [hid]
        refine ⟨by rw [List.length_map]; omega, ?_, ⟨hW1, by omega⟩, ?_, ?_, ?_⟩
        · intro b hb
          obtain ⟨p, hp, rfl⟩ := List.mem_map.mp hb
          obtain ⟨h1, h2, h3, h4, h5⟩ := hrow p hp
          have h6 := Roll.agg_sum p.1 p.2.length p.2 rfl (by omega) h3
          have h7 := Roll.aggS_t p.1 p.2
          refine ⟨⟨by rw [h7]; omega, by rw [h7]; omega⟩, ⟨by omega, by omega⟩⟩
        · intro i hi
          rw [List.length_map] at hi
          rw [t_rd hi, Roll.aggS_t]
          have h5 := hrow G[i] (List.getElem_mem hi)
          refine ⟨?_, h5.2.2.2.2⟩
          have h6 := hlow i hi
          have e0 : G[0]! = G[0] := by rw [getElem!_pos]
          rw [e0, Roll.aggS_t] at h6
          by_cases hz : i = 0
          · subst hz; exact h6
          · have := List.pairwise_iff_getElem.mp hP 0 i (by omega) hi (by omega)
            omega
        · intro i hi
          rw [List.length_map] at hi
          rw [t_rd (by omega), t_rd (by omega), Roll.aggS_t, Roll.aggS_t]
          exact List.pairwise_iff_getElem.mp hP i (i + 1) (by omega) (by omega) (by omega)
        · intro i hi
          rw [List.length_map] at hi
          rw [t_rd hi]
          obtain ⟨h1, h2, h3, h4, h5⟩ := hrow G[i] (List.getElem_mem hi)
          have h6 := (Roll.agg_cons G[i].1 G[i].2.length G[i].2 rfl (by omega) h1).1
          have : 0 < G[i].2.length := List.length_pos_iff.mpr h1
          omega
      have hWd : rollup_Wider.f ((G.map (fun p => Roll.aggS p.1 p.2)).map rollup_Buckets.fr) W = some ((Roll.outS (Roll.stepsS W ((l.map rollup_Buckets.to).map Roll.oneS) ([], none))).map rollup_Buckets.fr, 0) := by
        unfold rollup_Wider.f
        rw [if_pos hOK, hid, htw]
      rw [eW] at hBW
      obtain ⟨R, hRR⟩ : ∃ R, (Roll.outS (Roll.stepsS W ((l.map rollup_Buckets.to).map Roll.oneS) ([], none))).map rollup_Buckets.fr = R := ⟨_, rfl⟩
      have hRl : R.length ≤ 100000 := by rw [← hRR, List.length_map]; omega
      rw [hRR] at hWd hBW
      refine Ev.step (fun k => ?_) (t_same_ev R hRl)
      simp only [lysimeterlaw19_RollupTwice.j2]
      rw [if_neg (by simp), hwr, hWd, Option.bind_some, hBW, Option.bind_some]
      simp only [lysimeterlaw19_num.f, Option.bind_some]
      rw [if_pos (show wrap64 (0 + 0) = 0 from Roll.wrap64_id (by decide) (by decide))]
      cases lysimeterlaw19_Same.f k R R <;> rfl
    have hBB : ∀ k, t_end k l w k2 = if (((G.map (fun p => Roll.aggS p.1 p.2)).map rollup_Buckets.fr).length : Int) > 0 then lysimeterlaw19_RollupTwice.j2 k l w k2 ((G.map (fun p => Roll.aggS p.1 p.2)).map rollup_Buckets.fr) (decide (((rd_T52 ((G.map (fun p => Roll.aggS p.1 p.2)).map rollup_Buckets.fr) 0).f0) < -9007199254740992)) else lysimeterlaw19_RollupTwice.j2 k l w k2 ((G.map (fun p => Roll.aggS p.1 p.2)).map rollup_Buckets.fr) false := by
      intro k
      unfold t_end
      rw [hB, Option.bind_some]
      simp only [lysimeterlaw19_num.f, Option.bind_some, if_true]
      split <;> rfl
    refine Ev.congr hBB ?_
    by_cases c : (((G.map (fun p => Roll.aggS p.1 p.2)).map rollup_Buckets.fr).length : Int) > 0
    · simp only [if_pos c]
      have h0 : 0 < G.length := by simpa using c
      have e0 : (rd_T52 ((G.map (fun p => Roll.aggS p.1 p.2)).map rollup_Buckets.fr) 0).f0 = (Roll.aggS G[0]!.1 G[0]!.2).f0 := by
        have e1 : G[0]! = G[0] := by rw [getElem!_pos]
        rw [e1]
        unfold rd_T52
        rw [show (0 : Int).toNat = 0 from rfl, List.getD_eq_getElem?_getD, List.getElem?_map, List.getElem?_map, List.getElem?_eq_getElem h0]
        rfl
      rw [e0]
      by_cases d : (Roll.aggS G[0]!.1 G[0]!.2).f0 < -9007199254740992
      · rw [decide_eq_true d]
        refine Ev.step (f := fun _ => some true) (fun k => ?_) (Ev.now _)
        simp only [lysimeterlaw19_RollupTwice.j2]
        rfl
      · rw [decide_eq_false d]
        exact hj2 (fun _ _ => by omega)
    · simp only [if_neg c]
      exact hj2 (fun i hi => absurd (show (((G.map (fun p => Roll.aggS p.1 p.2)).map rollup_Buckets.fr).length : Int) > 0 by simp; omega) c)
  · have eB : Roll.bucketsS (l.map rollup_Buckets.to) w = ([], 21) := by
      unfold Roll.bucketsS
      rw [if_neg (by omega), if_neg c4]
    rw [eB] at hB
    have hBB : ∀ k, t_end k l w k2 = lysimeterlaw19_RollupTwice.j2 k l w k2 [] true := by
      intro k
      unfold t_end
      rw [hB, Option.bind_some]
      rfl
    refine Ev.congr hBB ?_
    refine Ev.step (f := fun _ => some true) (fun k => ?_) (Ev.now _)
    simp only [lysimeterlaw19_RollupTwice.j2]
    rfl
theorem RollupTwice : lysimeterlaw19_RollupTwice.Pure := by
  intro l w k2 hml hbl hwf hww hwk
  have hw := Roll.i64_of_wf hww
  have hk := Roll.i64_of_wf hwk
  have hin : ∀ x ∈ l, Roll.In x.f0 ∧ Roll.In x.f1 := fun x hx => ⟨Roll.i64_of_wf (hwf x hx).1, Roll.i64_of_wf (hwf x hx).2⟩
  unfold lysimeterlaw19_RollupTwice.f
  rw [t_alive_eq]
  simp only [Option.bind_some, if_true]
  by_cases c1 : (l.length : Int) > 500
  · exact ⟨1, by rw [if_pos c1]; rfl⟩
  · simp only [if_neg c1]
    by_cases c2 : w < 1
    · exact ⟨1, by rw [if_pos c2]; rfl⟩
    · simp only [if_neg c2]
      by_cases c3 : w > 1048576
      · exact ⟨1, by rw [if_pos c3]; rfl⟩
      · simp only [if_neg c3]
        by_cases c4 : k2 < 1
        · exact ⟨1, by rw [if_pos c4]; rfl⟩
        · simp only [if_neg c4]
          by_cases c5 : k2 > 1048576
          · exact ⟨1, by rw [decide_eq_true c5]; rfl⟩
          · rw [decide_eq_false c5]
            refine Ev.rounds ?_
            refine Ev.step (fun k => ?_) (t_loop l (by omega) w k2 (fun hs => t_final l (by omega) w k2 (by omega) (by omega) (by omega) (by omega) hin hs) l.length 0 (by omega) (fun s h => by simp at h))
            simp only [lysimeterlaw19_RollupTwice.j0]
            rw [if_neg (by simp)]
            rfl
end Go.Proofs.Ytdglifoakdkheaa.Pure
end
section
namespace Go.Proofs.Ytdglifoakdkheaa.rollupTwice
open Go.ChangeShapes Go.WideShapes Go.ChangeAt Go.RowKit Go.Proofs.Ytdglifoakdkheaa.Rt
open Go.Proofs.YtdglifoakdkheaaW.PrintWords Go.Proofs.YtdglifoakdkheaaW.PrintLast
open Go.ChangeMaps (open_string shut_string)
set_option linter.unusedVariables false
theorem own : ownKnob Try.prog.godebug = none := by kernel_rfl
theorem laidOut : laidOutB Try.prog = true := by kernel_rfl
def IsRow (k : IntKind) (w : World) (a : Option Addr) (len cap : Nat) (zs : List Int) : Prop :=
  (a = none ∧ len = 0 ∧ cap = 0 ∧ zs = []) ∨
  ∃ x, a = some x ∧ len ≤ cap ∧ cap ≤ maxLen ∧ zs.length = cap ∧ (∀ i, i < zs.length → w.cell? (x.add i) = some (.int k (zs.getD i 0))) ∧ ∀ n ∈ zs, (Lit.int k n).wf = true
theorem cells41 : Try.prog.cellsOf 41 = 2 := by kernel_rfl
theorem cellsF41_3 : Try.prog.cellsOf 3 = 1 := by kernel_rfl
theorem bytes41 : Try.prog.bytesOf 41 = 16 := by kernel_rfl
theorem open_sl41 {H : Type} {enc : TypeId × Value → H} {W : World} {base : Nat} {spare : Nat → Bool} {held : Bool} {a : Option Addr} {len cap fuel : Nat} {x : DataW H × List MemPlace}
    (h : DataW.trod enc Try.prog W base spare held fuel 32 [.slice a len cap] = some x) :
    ∃ l : List S41, len = l.length ∧ Kd.C k41 W a l.length l ∧ l.length ≤ maxLen ∧ l.length ≤ cap ∧ (∀ y ∈ l, (Lit.int .i64 y.f0).wf = true ∧ (Lit.int .i64 y.f1).wf = true) ∧ (∃ D R, x.1 = .slice D R ∧ l.length ≤ D.length + R.length ∨ l = []) := by
  rcases Deep.open_slice Try.underlying32 h with ⟨hcs, _⟩ | ⟨x, l, c, m, n, D, Pl, hcs, _, hl, hm, hmm, hx0, hx⟩
  · simp only [List.cons.injEq, Value.slice.injEq, and_true] at hcs
    obtain ⟨rfl, rfl, rfl⟩ := hcs
    exact ⟨[], rfl, Kd.C_nil _ _, by simp, by simp, by simp, [], [], .inr rfl⟩
  · simp only [List.cons.injEq, Value.slice.injEq, and_true] at hcs
    obtain ⟨rfl, rfl, rfl⟩ := hcs
    have hlm : len ≤ m := by rw [hmm]; split <;> omega
    have key : ∀ i, i < len → ∃ y : S41, ((Lit.int .i64 y.f0).wf = true ∧ (Lit.int .i64 y.f1).wf = true) ∧ ∀ j u, [Value.int .i64 y.f0, Value.int .i64 y.f1][j]? = some u → W.cell? (x.add (i * 2 + j)) = some u := by
      intro i hi
      obtain ⟨cs', h1, h2⟩ := hx i (by omega)
      rw [cells41] at h1
      obtain ⟨xs, n', _, _, hlen, hxl, hf⟩ := DataW.trod_struct Try.underlying41 h2
      rw [cells41] at hlen
      obtain ⟨_, _, hcell⟩ := World.cells?_some h1
      match cs', hlen with
      | [c0, c1], _ =>
        have g0 := hf 0 _ rfl
        obtain ⟨n0, e0, _, w0⟩ := DataW.trod_int Try.underlying3 (g0.trans (List.getElem?_eq_getElem (by rw [hxl]; decide)))
        obtain rfl : c0 = .int .i64 n0 := by simpa [cellsF41_3] using e0
        have g1 := hf 1 _ rfl
        obtain ⟨n1, e1, _, w1⟩ := DataW.trod_int Try.underlying3 (g1.trans (List.getElem?_eq_getElem (by rw [hxl]; decide)))
        obtain rfl : c1 = .int .i64 n1 := by simpa [cellsF41_3] using e1
        refine ⟨⟨n0, n1⟩, ⟨w0, w1⟩, ?_⟩
        intro j u hu
        have hj : j < 2 := by obtain ⟨z, _⟩ := List.getElem?_eq_some_iff.1 hu; simpa using z
        have z := hcell j hj
        rw [Deep.add_add] at z
        rw [z]; exact hu
    obtain ⟨f, hf⟩ : ∃ f : Nat → S41, ∀ i, i < len → ((Lit.int .i64 (f i).f0).wf = true ∧ (Lit.int .i64 (f i).f1).wf = true) ∧ ∀ j u, [Value.int .i64 (f i).f0, Value.int .i64 (f i).f1][j]? = some u → W.cell? (x.add (i * 2 + j)) = some u := by
      haveI : Inhabited S41 := ⟨z41⟩
      exact Deep.choose_lt key
    refine ⟨(List.range len).map f, by simp, ⟨rfl, by simp only [List.length_map, List.length_range]; unfold maxLen at hm; omega, fun hn => ⟨x, rfl, fun j p hp => ?_⟩⟩, by simp only [List.length_map, List.length_range]; omega, by simpa using hl, ?_, ?_⟩
    · obtain ⟨hj, rfl⟩ := List.getElem?_eq_some_iff.1 hp
      simp only [List.length_map, List.length_range] at hj
      simp only [List.getElem_map, List.getElem_range]
      refine ⟨[Value.int .i64 (f j).f0, Value.int .i64 (f j).f1], rfl, k41_mk W (f j), fun i u hu => ?_⟩
      exact (hf j hj).2 i u hu
    · intro y hy
      simp only [List.mem_map, List.mem_range] at hy
      obtain ⟨i, hi, rfl⟩ := hy
      exact (hf i hi).1
    · refine ⟨_, _, .inl ⟨by rw [hx0], ?_⟩⟩
      simp only [List.length_map, List.length_range]
      omega
set_option maxRecDepth 100000 in
theorem lifted (os : Os) (started : os.Started) (H : Type) (enc : TypeId × Value → H) :
    ReturnsInHanded {} Try.checked os 11 .any (Rows.rollupTwiceSpec.pre6 enc Try.prog Try.f11 Rows.rollupTwiceRow.domain false) (Rows.rollupTwiceSpec.post enc Try.prog Try.f11 false true false false) := by
  refine returnsInHanded_of_change_sized (C := Try.checked) own started (by kernel_rfl) Try.func11
    (ChangeSpec.witness6 (enc := enc) (C := Try.checked) false ⟨#[], #[.slice none 0 0, .int .i64 0, .int .i64 0], []⟩ 8 (by kernel_rfl) (by kernel_rfl) (by kernel_rfl) (by kernel_rfl)) ?_
  intro W base args ds gs before hval0 hW hcnd hsz0 _
  have hsz : (DataW.weightsEach Try.prog (Try.f11.params.toList ++ Rows.rollupTwiceSpec.plain.varTypes Try.prog) (ds ++ gs)).all (· ≤ reachBytes) = true := hsz0
  have hval : ∀ (j : Nat) t v, Try.f11.params[j]? = some t → args[j]? = some v → Value.okWide Try.prog W .any base t v := hval0
  have hW' := hW
  obtain ⟨p, q, hA0, hV, rfl, hfz, hnd⟩ := hW
  have hA : DataW.TrodAll enc Try.prog W 0 (fun _ => true) true Try.f11.params.toList args.toList ds p := hA0
  rw [Try.params11] at hA hval hsz
  obtain ⟨v0, vs0, d0, ds0, p0, q0, hargs, rfl, rfl, h0, r0⟩ := trodAll_cons hA
  obtain ⟨v1, vs1, d1, ds1, p1, q1, rfl, rfl, rfl, h1, r1⟩ := trodAll_cons r0
  obtain ⟨v2, vs2, d2, ds2, p2, q2, rfl, rfl, rfl, h2, r2⟩ := trodAll_cons r1
  obtain ⟨rfl, rfl, rfl⟩ := trodAll_nil r2
  obtain rfl : args = #[v0, v1, v2] := by cases args; simp_all
  obtain ⟨rfl, rfl⟩ := trodVars_none hV
  obtain ⟨a0, len0, cap0, rfl⟩ := okWide_slice Try.underlying32 (hval 0 32 v0 rfl rfl)
  have k0 := h0
  have lt0 : ∀ x ∈ p0, x.block < W.heap.size := by obtain ⟨m, hm⟩ := k0; exact DataW.trod_lt m _ _ _ hm
  obtain ⟨l0, rfl, hr0, hm0, hc0, hw0, y0⟩ : ∃ l : List S41, len0 = l.length ∧ Kd.C k41 W a0 l.length l ∧ l.length ≤ maxLen ∧ l.length ≤ cap0 ∧ (∀ y ∈ l, (Lit.int .i64 y.f0).wf = true ∧ (Lit.int .i64 y.f1).wf = true) ∧ l.length * 16 ≤ 140737488351232 := by
    obtain ⟨fuel, hf⟩ := h0
    obtain ⟨l, e1, e2, e3, e4, e5, D, R, e6⟩ := open_sl41 (by simpa [Value.cells] using hf)
    refine ⟨l, e1, e2, e3, e4, e5, ?_⟩
    rcases e6 with ⟨e6, e7⟩ | rfl
    · have e6' : d0 = .slice D R := e6
      subst e6'
      have z := sized_slice hsz (j := 0) (t := 32) (e := 41) rfl rfl Try.underlying32
      rw [bytes41] at z
      unfold reachBytes at z
      have z1 := Nat.mul_le_mul_right 16 e7
      omega
    · simp
  obtain ⟨a1, rfl, rfl, rfl, w1⟩ := open_int Try.underlying3 (hval 1 3 v1 rfl rfl) h1
  obtain ⟨a2, rfl, rfl, rfl, w2⟩ := open_int Try.underlying3 (hval 2 3 v2 rfl rfl) h2
  clear hA0 hval0 hsz0 hsz
  obtain ⟨k, hk⟩ := Pure.RollupTwice l0 a1 a2 hm0 y0 hw0 w1 w2
  refine (lysimeterlaw19_RollupTwice.calls k _ _ l0 a1 a2 true W hr0 hc0 hk).mono ?_
  rintro e W' ⟨rfl, bel0⟩
  have bel : Below W.heap.size W W' := bel0
  exact ⟨_, rfl, _, _, _, [], _, [], hW', trodAll_mk1 (shut_bool Try.underlying4 _), (trodAll_cons_mk (Below.trod laidOut (by kernel_rfl) (of_decide_eq_true (by kernel_rfl)) k0 bel lt0) (trodAll_cons_mk (shut_int Try.underlying3 w1) (trodAll_cons_mk (shut_int Try.underlying3 w2) trodAll_mk0))), rfl, bel.frame _, fun h => by cases h⟩
theorem over : Rows.rollupTwiceRow.holds Try.pinned (OpenSpec.ofChange Rows.rollupTwiceSpec) :=
  OpenClaim.holds_of_wide 11 Try.f11 rfl rfl rfl rfl rfl rfl rfl ⟨rfl, rfl, rfl, rfl, rfl⟩ rfl rfl rfl rfl rfl (by kernel_rfl) Try.func11 (by kernel_rfl)
    (of_decide_eq_true (by kernel_rfl)) (by unfold Func.isWrapper; first | (rw [if_pos (by decide +kernel)]; kernel_rfl) | (rw [if_neg (by decide +kernel)]; exact ⟨rfl, rfl⟩))
    (fun os started H enc _ => lifted os started H enc)
theorem proved : Rows.RollupTwiceSaid := over
#print axioms proved
end Go.Proofs.Ytdglifoakdkheaa.rollupTwice
namespace Go.Proofs.Ytdglifoakdkheaa
theorem rollupTwice_holds : Rows.RollupTwiceSaid := rollupTwice.proved
end Go.Proofs.Ytdglifoakdkheaa
end
