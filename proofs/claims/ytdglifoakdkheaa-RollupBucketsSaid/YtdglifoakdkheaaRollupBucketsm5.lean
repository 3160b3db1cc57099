-- Laid together by wip/shake.py out of: RJ Rkx0 Rkx1
import Derived.Test.YtdglifoakdkheaaRollupBucketsm4
import Derived.Deep.DeepCutAuto
import Derived.Test.YtdglifoakdkheaaProg
import Derived.Below
import Derived.Deep.Draws
import Derived.Deep.AppendLies
import Derived.Maps.AppendAt
import Derived.OwnWalk
import Derived.Laws.BytesArg
import Derived.Laws.MakeOwn
import Derived.Laws.OwnMore
import Derived.Deep.OwnRows
import Derived.Tactics
import Derived.Lib.ConvBytes
import Derived.Laws.Slices
import Derived.WalkKit
import Derived.KernelRfl
import Derived.RowKit3
import Derived.Deep.LoopGhost
import Derived.Deep.QuietTactic
import Derived.BigQuiet
import Derived.WideLaws
import Derived.Deep.CutBlock
import Derived.Deep.RegionHeld3
import Derived.Laws.Rows
import Derived.Lib.AppendStr
import Derived.ArgAppend
import Derived.Laws.IdiomCopy
import Derived.OrdersHeld
import Derived.Laws.BitsLemmas
import Derived.RowKit
section
namespace Go.Proofs.Ytdglifoakdkheaa.Rj
open Go.RowKit Go.Proofs.YtdglifoakdkheaaW.PrintWords Go.Proofs.YtdglifoakdkheaaW.PrintLast Go.Proofs.YtdglifoakdkheaaW.PrintMore
set_option linter.unusedVariables false
set_option linter.unusedSimpArgs false
theorem held_alloc {W : World} {p : Addr} {v : Value} (h : W.cell? p = some v) (o : Obj) : (W.alloc o).cell? p = some v := (Below.cell (below_alloc (Below.refl _ _) o) (World.block_lt_of_cell? _ _ h)).trans h
theorem drawn_below {W W' : World} (h : Drawn0 W W') : ∃ m, W' = W.drewN m := h.out
set_option maxRecDepth 100000 in
set_option maxHeartbeats 8000000 in
theorem join_both (a0 a1 a2 a3 a4 a5 b0 b1 b2 b3 b4 b5 s : Int) (w : World) (c3 : b1 ≠ 0) (c13 : a1 ≠ 0) (v3 v4 : Int) (hv3 : (if b3 < a3 then b3 else a3) = v3) (hv4 : (if a4 < b4 then b4 else a4) = v4) (KA : Aside0 (∀ W, Calls Try.prog 36 #[.int .i64 a2, .int .i64 b2] W fun e w' => e = .returned (.int .i64 s) ∧ Drawn0 W w')) :
    Calls Try.prog 47 #[.agg #[.int .i64 a0, .int .i64 a1, .int .i64 a2, .int .i64 a3, .int .i64 a4, .int .i64 a5], .agg #[.int .i64 b0, .int .i64 b1, .int .i64 b2, .int .i64 b3, .int .i64 b4, .int .i64 b5]] w fun e w' => e = .returned (.agg #[.int .i64 a0, .int .i64 (wrap64 (a1 + b1)), .int .i64 s, .int .i64 v3, .int .i64 v4, .int .i64 b5]) ∧ Below w.heap.size w w' := by
  have c3b : (b1 == 0) = false := by simpa using c3
  have c13b : (a1 == 0) = false := by simpa using c13
  have HV3 := Aside0.mk hv3
  have HV4 := Aside0.mk hv4
  clear c3 c13 hv3 hv4
  go_enter Try.func47, Try.ntmps47
  go_upto_region 6 with (fail)
  obtain ⟨W0, hW0⟩ : ∃ W0, ((w.alloc (.cells #[.int .i64 a0, .int .i64 a1, .int .i64 a2, .int .i64 a3, .int .i64 a4, .int .i64 a5] 52)).alloc (.cells #[.int .i64 b0, .int .i64 b1, .int .i64 b2, .int .i64 b3, .int .i64 b4, .int .i64 b5] 52)).alloc (.cells #[.int .i64 0, .int .i64 0, .int .i64 0, .int .i64 0, .int .i64 0, .int .i64 0] 52) = W0 := ⟨_, rfl⟩
  have hb0 : Below w.heap.size w W0 := hW0 ▸ below_alloc (below_alloc (below_alloc (Below.refl _ _) _) _) _
  have hA : W0.heap[w.heap.size]? = some (.cells #[.int .i64 a0, .int .i64 a1, .int .i64 a2, .int .i64 a3, .int .i64 a4, .int .i64 a5] 52 (0, 0)) := hW0 ▸ blk_alloc (blk_alloc (blk_new _ _) _) _
  have hB : W0.heap[w.heap.size + 1]? = some (.cells #[.int .i64 b0, .int .i64 b1, .int .i64 b2, .int .i64 b3, .int .i64 b4, .int .i64 b5] 52 (0, 0)) := by
    rw [← hW0]
    refine blk_alloc ?_ _
    have h1 := blk_new (w.alloc (.cells #[.int .i64 a0, .int .i64 a1, .int .i64 a2, .int .i64 a3, .int .i64 a4, .int .i64 a5] 52)) (.cells #[.int .i64 b0, .int .i64 b1, .int .i64 b2, .int .i64 b3, .int .i64 b4, .int .i64 b5] 52)
    rwa [World.size_alloc] at h1
  have hZ : W0.heap[w.heap.size + 2]? = some (.cells #[.int .i64 0, .int .i64 0, .int .i64 0, .int .i64 0, .int .i64 0, .int .i64 0] 52 (0, 0)) := by
    rw [← hW0]
    have h1 := blk_new ((w.alloc (.cells #[.int .i64 a0, .int .i64 a1, .int .i64 a2, .int .i64 a3, .int .i64 a4, .int .i64 a5] 52)).alloc (.cells #[.int .i64 b0, .int .i64 b1, .int .i64 b2, .int .i64 b3, .int .i64 b4, .int .i64 b5] 52)) (.cells #[.int .i64 0, .int .i64 0, .int .i64 0, .int .i64 0, .int .i64 0, .int .i64 0] 52)
    rwa [World.size_alloc, World.size_alloc] at h1
  have hs0 : W0.heap.size = w.heap.size + 3 := by rw [← hW0, World.size_alloc, World.size_alloc, World.size_alloc]
  rw [hW0]
  clear hW0
  obtain ⟨bk, hh⟩ : ∃ bk, w.heap.size = bk := ⟨_, rfl⟩
  rw [hh] at hA hB hZ hs0 hb0 ⊢
  rw [show bk + 2 = bk + 1 + 1 from rfl] at hZ
  have HB0 := Aside0.mk hb0
  have HA := Aside0.mk hA
  have HBB := Aside0.mk hB
  have HZ := Aside0.mk hZ
  have HS0 := Aside0.mk hs0
  have HH := Aside0.mk hh
  clear hb0 hZ hs0 hh
  go_cut [5] (fun s5 wc => ∃ G, s5 = .pointer (some ⟨G, 0, none⟩) ∧ Aside0 (Below W0.heap.size W0 wc ∧ W0.heap.size ≤ G ∧ wc.heap[G]? = some (.cells #[.int .i64 a0, .int .i64 (wrap64 (a1 + b1)), .int .i64 s, .int .i64 a3, .int .i64 a4, .int .i64 b5] 52 (0, 0))))
  case first =>
    refine start_ (n := 21) (S := (fun w' => w'.cell? ⟨bk, 0, none⟩ = some (.int .i64 a0) ∧ w'.cell? ⟨bk, 1, none⟩ = some (.int .i64 a1) ∧ w'.cell? ⟨bk, 2, none⟩ = some (.int .i64 a2) ∧ w'.cell? ⟨bk, 3, none⟩ = some (.int .i64 a3) ∧ w'.cell? ⟨bk, 4, none⟩ = some (.int .i64 a4) ∧ w'.cell? ⟨bk, 5, none⟩ = some (.int .i64 a5) ∧ w'.cell? ⟨bk + 1, 0, none⟩ = some (.int .i64 b0) ∧ w'.cell? ⟨bk + 1, 1, none⟩ = some (.int .i64 b1) ∧ w'.cell? ⟨bk + 1, 2, none⟩ = some (.int .i64 b2) ∧ w'.cell? ⟨bk + 1, 3, none⟩ = some (.int .i64 b3) ∧ w'.cell? ⟨bk + 1, 4, none⟩ = some (.int .i64 b4) ∧ w'.cell? ⟨bk + 1, 5, none⟩ = some (.int .i64 b5))) (ds := [20]) #[false, false, false, false, false, false, false, false, false, false, false, false, false, false, false, false, false, false, false, false, false] (by kernel_rfl) rfl rfl ⟨(blk_cell (blk_drew hA) 0).trans rfl, (blk_cell (blk_drew hA) 1).trans rfl, (blk_cell (blk_drew hA) 2).trans rfl, (blk_cell (blk_drew hA) 3).trans rfl, (blk_cell (blk_drew hA) 4).trans rfl, (blk_cell (blk_drew hA) 5).trans rfl, (blk_cell (blk_drew hB) 0).trans rfl, (blk_cell (blk_drew hB) 1).trans rfl, (blk_cell (blk_drew hB) 2).trans rfl, (blk_cell (blk_drew hB) 3).trans rfl, (blk_cell (blk_drew hB) 4).trans rfl, (blk_cell (blk_drew hB) 5).trans rfl⟩ (fun hHeld => ?_)
    refine pure_ (i := 0) (N := some 17) (v := ?_) (a' := ?_) #[true, false, false, false, false, false, false, false, false, false, false, false, false, false, false, false, false, false, false, false, false] rfl rfl (by kernel_rfl) (fun _ _ _ h => h) (Or.inl ⟨by rfl, ?_⟩) ?_ ?_
    rotate_left
    · intro w'
      go_simp
      with_reducible rfl
    rotate_left
    · simp only [Act.put, List.setIfInBounds_toArray, List.set_cons_zero, List.set_cons_succ, i64_w]
      rfl
    refine pure_ (i := 2) (N := some 19) (v := ?_) (a' := ?_) #[true, false, true, false, false, false, false, false, false, false, false, false, false, false, false, false, false, false, false, false, false] rfl rfl (by kernel_rfl) (fun _ _ _ h => h) (Or.inl ⟨by rfl, ?_⟩) ?_ ?_
    rotate_left
    · intro w'
      go_simp
      with_reducible rfl
    rotate_left
    · simp only [Act.put, List.setIfInBounds_toArray, List.set_cons_zero, List.set_cons_succ, i64_w]
      rfl
    refine pure_ (i := 4) (N := some 21) (v := ?_) (a' := ?_) #[true, false, true, false, true, false, false, false, false, false, false, false, false, false, false, false, false, false, false, false, false] rfl rfl (by kernel_rfl) (fun _ _ _ h => h) (Or.inl ⟨by rfl, ?_⟩) ?_ ?_
    rotate_left
    · intro w'
      go_simp
      with_reducible rfl
    rotate_left
    · simp only [Act.put, List.setIfInBounds_toArray, List.set_cons_zero, List.set_cons_succ, i64_w]
      rfl
    refine pure_ (i := 7) (N := some 24) (v := ?_) (a' := ?_) #[true, false, true, false, true, false, false, true, false, false, false, false, false, false, false, false, false, false, false, false, false] rfl rfl (by kernel_rfl) (fun _ _ _ h => h) (Or.inl ⟨by rfl, ?_⟩) ?_ ?_
    rotate_left
    · intro w'
      go_simp
      with_reducible rfl
    rotate_left
    · simp only [Act.put, List.setIfInBounds_toArray, List.set_cons_zero, List.set_cons_succ, i64_w]
      rfl
    refine pure_ (i := 9) (N := some 26) (v := ?_) (a' := ?_) #[true, false, true, false, true, false, false, true, false, true, false, false, false, false, false, false, false, false, false, false, false] rfl rfl (by kernel_rfl) (fun _ _ _ h => h) (Or.inl ⟨by rfl, ?_⟩) ?_ ?_
    rotate_left
    · intro w'
      go_simp
      with_reducible rfl
    rotate_left
    · simp only [Act.put, List.setIfInBounds_toArray, List.set_cons_zero, List.set_cons_succ, i64_w]
      rfl
    refine pure_ (i := 12) (N := some 29) (v := ?_) (a' := ?_) #[true, false, true, false, true, false, false, true, false, true, false, false, true, false, false, false, false, false, false, false, false] rfl rfl (by kernel_rfl) (fun _ _ _ h => h) (Or.inl ⟨by rfl, ?_⟩) ?_ ?_
    rotate_left
    · intro w'
      go_simp
      with_reducible rfl
    rotate_left
    · simp only [Act.put, List.setIfInBounds_toArray, List.set_cons_zero, List.set_cons_succ, i64_w]
      rfl
    refine pure_ (i := 14) (N := some 31) (v := ?_) (a' := ?_) #[true, false, true, false, true, false, false, true, false, true, false, false, true, false, true, false, false, false, false, false, false] rfl rfl (by kernel_rfl) (fun _ _ _ h => h) (Or.inl ⟨by rfl, ?_⟩) ?_ ?_
    rotate_left
    · intro w'
      go_simp
      with_reducible rfl
    rotate_left
    · simp only [Act.put, List.setIfInBounds_toArray, List.set_cons_zero, List.set_cons_succ, i64_w]
      rfl
    refine pure_ (i := 16) (N := some 33) (v := ?_) (a' := ?_) #[true, false, true, false, true, false, false, true, false, true, false, false, true, false, true, false, true, false, false, false, false] rfl rfl (by kernel_rfl) (fun _ _ _ h => h) (Or.inl ⟨by rfl, ?_⟩) ?_ ?_
    rotate_left
    · intro w'
      go_simp
      with_reducible rfl
    rotate_left
    · simp only [Act.put, List.setIfInBounds_toArray, List.set_cons_zero, List.set_cons_succ, i64_w]
      rfl
    refine take_ (i := 1) (N := some 18) (v := ?_) (a' := ?_) #[true, true, true, false, true, false, false, true, false, true, false, false, true, false, true, false, true, false, false, false, false] rfl rfl (by kernel_rfl) (fun _ _ _ h => h) (Or.inl ⟨by rfl, ?_⟩) hHeld ?_ ?_
    rotate_left
    · rintro w' ⟨s0, s1, s2, s3, s4, s5, s6, s7, s8, s9, s10, s11⟩
      go_simp
      with_reducible rfl
    rotate_left
    · simp only [Act.put, List.setIfInBounds_toArray, List.set_cons_zero, List.set_cons_succ, i64_w]
      rfl
    refine take_ (i := 3) (N := some 20) (v := ?_) (a' := ?_) #[true, true, true, true, true, false, false, true, false, true, false, false, true, false, true, false, true, false, false, false, false] rfl rfl (by kernel_rfl) (fun _ _ _ h => h) (Or.inl ⟨by rfl, ?_⟩) hHeld ?_ ?_
    rotate_left
    · rintro w' ⟨s0, s1, s2, s3, s4, s5, s6, s7, s8, s9, s10, s11⟩
      go_simp
      with_reducible rfl
    rotate_left
    · simp only [Act.put, List.setIfInBounds_toArray, List.set_cons_zero, List.set_cons_succ, i64_w]
      rfl
    refine take_ (i := 5) (N := some 22) (v := ?_) (a' := ?_) #[true, true, true, true, true, true, false, true, false, true, false, false, true, false, true, false, true, false, false, false, false] rfl rfl (by kernel_rfl) (fun _ _ _ h => h) (Or.inl ⟨by rfl, ?_⟩) hHeld ?_ ?_
    rotate_left
    · rintro w' ⟨s0, s1, s2, s3, s4, s5, s6, s7, s8, s9, s10, s11⟩
      go_simp
      with_reducible rfl
    rotate_left
    · simp only [Act.put, List.setIfInBounds_toArray, List.set_cons_zero, List.set_cons_succ, i64_w]
      rfl
    refine take_ (i := 8) (N := some 25) (v := ?_) (a' := ?_) #[true, true, true, true, true, true, false, true, true, true, false, false, true, false, true, false, true, false, false, false, false] rfl rfl (by kernel_rfl) (fun _ _ _ h => h) (Or.inl ⟨by rfl, ?_⟩) hHeld ?_ ?_
    rotate_left
    · rintro w' ⟨s0, s1, s2, s3, s4, s5, s6, s7, s8, s9, s10, s11⟩
      go_simp
      with_reducible rfl
    rotate_left
    · simp only [Act.put, List.setIfInBounds_toArray, List.set_cons_zero, List.set_cons_succ, i64_w]
      rfl
    refine take_ (i := 10) (N := some 27) (v := ?_) (a' := ?_) #[true, true, true, true, true, true, false, true, true, true, true, false, true, false, true, false, true, false, false, false, false] rfl rfl (by kernel_rfl) (fun _ _ _ h => h) (Or.inl ⟨by rfl, ?_⟩) hHeld ?_ ?_
    rotate_left
    · rintro w' ⟨s0, s1, s2, s3, s4, s5, s6, s7, s8, s9, s10, s11⟩
      go_simp
      with_reducible rfl
    rotate_left
    · simp only [Act.put, List.setIfInBounds_toArray, List.set_cons_zero, List.set_cons_succ, i64_w]
      rfl
    refine take_ (i := 13) (N := some 30) (v := ?_) (a' := ?_) #[true, true, true, true, true, true, false, true, true, true, true, false, true, true, true, false, true, false, false, false, false] rfl rfl (by kernel_rfl) (fun _ _ _ h => h) (Or.inl ⟨by rfl, ?_⟩) hHeld ?_ ?_
    rotate_left
    · rintro w' ⟨s0, s1, s2, s3, s4, s5, s6, s7, s8, s9, s10, s11⟩
      go_simp
      with_reducible rfl
    rotate_left
    · simp only [Act.put, List.setIfInBounds_toArray, List.set_cons_zero, List.set_cons_succ, i64_w]
      rfl
    refine take_ (i := 15) (N := some 32) (v := ?_) (a' := ?_) #[true, true, true, true, true, true, false, true, true, true, true, false, true, true, true, true, true, false, false, false, false] rfl rfl (by kernel_rfl) (fun _ _ _ h => h) (Or.inl ⟨by rfl, ?_⟩) hHeld ?_ ?_
    rotate_left
    · rintro w' ⟨s0, s1, s2, s3, s4, s5, s6, s7, s8, s9, s10, s11⟩
      go_simp
      with_reducible rfl
    rotate_left
    · simp only [Act.put, List.setIfInBounds_toArray, List.set_cons_zero, List.set_cons_succ, i64_w]
      rfl
    refine take_ (i := 17) (N := some 34) (v := ?_) (a' := ?_) #[true, true, true, true, true, true, false, true, true, true, true, false, true, true, true, true, true, true, false, false, false] rfl rfl (by kernel_rfl) (fun _ _ _ h => h) (Or.inl ⟨by rfl, ?_⟩) hHeld ?_ ?_
    rotate_left
    · rintro w' ⟨s0, s1, s2, s3, s4, s5, s6, s7, s8, s9, s10, s11⟩
      go_simp
      with_reducible rfl
    rotate_left
    · simp only [Act.put, List.setIfInBounds_toArray, List.set_cons_zero, List.set_cons_succ, i64_w]
      rfl
    refine pure_ (i := 6) (N := some 23) (v := ?_) (a' := ?_) #[true, true, true, true, true, true, true, true, true, true, true, false, true, true, true, true, true, true, false, false, false] rfl rfl (by kernel_rfl) (fun _ _ _ h => h) (Or.inl ⟨by rfl, ?_⟩) ?_ ?_
    rotate_left
    · intro w'
      go_simp
      with_reducible rfl
    rotate_left
    · simp only [Act.put, List.setIfInBounds_toArray, List.set_cons_zero, List.set_cons_succ, i64_w]
      rfl
    refine join_ (σ := Nat) 1 #[true, true, true, true, true, true, true, true, true, true, true, true, true, true, true, true, true, true, true, true, false] (fun G => [(28, .int .i64 s), (35, .agg #[.int .i64 a0, .int .i64 (wrap64 (a1 + b1)), .int .i64 s, .int .i64 a3, .int .i64 a4, .int .i64 b5]), (5, .pointer (some ⟨G, 0, none⟩))]) (fun G w' => (fun w' => w'.cell? ⟨bk, 0, none⟩ = some (.int .i64 a0) ∧ w'.cell? ⟨bk, 1, none⟩ = some (.int .i64 a1) ∧ w'.cell? ⟨bk, 2, none⟩ = some (.int .i64 a2) ∧ w'.cell? ⟨bk, 3, none⟩ = some (.int .i64 a3) ∧ w'.cell? ⟨bk, 4, none⟩ = some (.int .i64 a4) ∧ w'.cell? ⟨bk, 5, none⟩ = some (.int .i64 a5) ∧ w'.cell? ⟨bk + 1, 0, none⟩ = some (.int .i64 b0) ∧ w'.cell? ⟨bk + 1, 1, none⟩ = some (.int .i64 b1) ∧ w'.cell? ⟨bk + 1, 2, none⟩ = some (.int .i64 b2) ∧ w'.cell? ⟨bk + 1, 3, none⟩ = some (.int .i64 b3) ∧ w'.cell? ⟨bk + 1, 4, none⟩ = some (.int .i64 b4) ∧ w'.cell? ⟨bk + 1, 5, none⟩ = some (.int .i64 b5)) w' ∧ Aside0 (Below W0.heap.size W0 w' ∧ W0.heap.size ≤ G ∧ w'.heap[G]? = some (.cells #[.int .i64 0, .int .i64 0, .int .i64 0, .int .i64 0, .int .i64 0, .int .i64 0] 52 (0, 0)))) ?cont ?main
    case main =>
      intro HJ0
      have HJ := Aside0.mk HJ0
      clear HJ0
      have q0 : Below W0.heap.size W0 W0.drew := below_drew (Below.refl _ _)
      refine two_ (i := 11) (j := 19) (Ni := some 28) (Nj := some 5) #[true, true, true, true, true, true, true, true, true, true, true, true, true, true, true, true, true, true, false, false, false] #[true, true, true, true, true, true, true, true, true, true, true, false, true, true, true, true, true, true, false, true, false] rfl rfl rfl rfl (by kernel_rfl) (by decide) (by decide) (fun K hK => ?_) (fun K hK => ?_)
      · refine goes_ Try.func36 (by kernel_rfl) rfl #[.int .i64 a2, .int .i64 b2] (by rfl) rfl rfl (by simp [Act.eval]) ?_
        refine (KA.out _).mono ?_
        rintro e u1 ⟨rfl, hd1⟩
        obtain ⟨m1, rfl⟩ := drawn_below hd1
        have q1 := pw_below_drewN q0 m1
        refine ⟨_, rfl, hK.out _ _ hHeld (fun hHeld => ?_)⟩
        clear hK K
        refine norm_ (by simp only [Act.put, List.setIfInBounds_toArray, List.set_cons_zero, List.set_cons_succ, i64_w]; rfl) ?_
        refine pure_ (i := 18) (N := some 35) (v := ?_) (a' := ?_) #[true, true, true, true, true, true, true, true, true, true, true, true, true, true, true, true, true, true, true, false, false] rfl rfl (by kernel_rfl) (fun _ _ _ h => h) (Or.inl ⟨by rfl, ?_⟩) ?_ ?_
        rotate_left
        · intro w'
          go_simp
          with_reducible rfl
        rotate_left
        · simp only [Act.put, List.setIfInBounds_toArray, List.set_cons_zero, List.set_cons_succ, i64_w]
          rfl
        refine one_ (i := 19) (N := some 5) #[true, true, true, true, true, true, true, true, true, true, true, true, true, true, true, true, true, true, true, true, false] rfl rfl (by kernel_rfl) (by decide) (fun K hK => ?_)
        refine value_ (w1 := (W0.drew.drewN m1).alloc (.cells #[.int .i64 0, .int .i64 0, .int .i64 0, .int .i64 0, .int .i64 0, .int .i64 0] 52)) (v := .pointer (some ⟨(W0.drew.drewN m1).heap.size, 0, none⟩)) (by rfl) rfl (by go_simp) ?_
        have q2 : Below W0.heap.size W0 ((W0.drew.drewN m1).alloc (.cells #[.int .i64 0, .int .i64 0, .int .i64 0, .int .i64 0, .int .i64 0, .int .i64 0] 52)) := below_alloc q1 _
        have z2 : ((W0.drew.drewN m1).alloc (.cells #[.int .i64 0, .int .i64 0, .int .i64 0, .int .i64 0, .int .i64 0, .int .i64 0] 52)).heap[(W0.drew.drewN m1).heap.size]? = some (.cells #[.int .i64 0, .int .i64 0, .int .i64 0, .int .i64 0, .int .i64 0, .int .i64 0] 52 (0, 0)) := blk_new _ _
        have y2 : W0.heap.size ≤ (W0.drew.drewN m1).heap.size := q1.size
        refine hK.out _ _ ⟨held_alloc hHeld.1 _, held_alloc hHeld.2.1 _, held_alloc hHeld.2.2.1 _, held_alloc hHeld.2.2.2.1 _, held_alloc hHeld.2.2.2.2.1 _, held_alloc hHeld.2.2.2.2.2.1 _, held_alloc hHeld.2.2.2.2.2.2.1 _, held_alloc hHeld.2.2.2.2.2.2.2.1 _, held_alloc hHeld.2.2.2.2.2.2.2.2.1 _, held_alloc hHeld.2.2.2.2.2.2.2.2.2.1 _, held_alloc hHeld.2.2.2.2.2.2.2.2.2.2.1 _, held_alloc hHeld.2.2.2.2.2.2.2.2.2.2.2 _⟩ (fun hHeld => ?_)
        clear hK K
        refine norm_ (by simp only [Act.put, List.setIfInBounds_toArray, List.set_cons_zero, List.set_cons_succ, i64_w]; rfl) ?_
        refine norm_ (by simp only [putAll, Act.put, List.setIfInBounds_toArray, List.set_cons_zero, List.set_cons_succ] <;> rfl) (HJ.out ((W0.drew.drewN m1).heap.size) _ ⟨hHeld, ⟨q2, y2, z2⟩⟩)
      · refine value_ (w1 := (W0.drew).alloc (.cells #[.int .i64 0, .int .i64 0, .int .i64 0, .int .i64 0, .int .i64 0, .int .i64 0] 52)) (v := .pointer (some ⟨(W0.drew).heap.size, 0, none⟩)) (by rfl) rfl (by go_simp) ?_
        have q1 : Below W0.heap.size W0 ((W0.drew).alloc (.cells #[.int .i64 0, .int .i64 0, .int .i64 0, .int .i64 0, .int .i64 0, .int .i64 0] 52)) := below_alloc q0 _
        have z1 : ((W0.drew).alloc (.cells #[.int .i64 0, .int .i64 0, .int .i64 0, .int .i64 0, .int .i64 0, .int .i64 0] 52)).heap[(W0.drew).heap.size]? = some (.cells #[.int .i64 0, .int .i64 0, .int .i64 0, .int .i64 0, .int .i64 0, .int .i64 0] 52 (0, 0)) := blk_new _ _
        have y1 : W0.heap.size ≤ (W0.drew).heap.size := q0.size
        refine hK.out _ _ ⟨held_alloc hHeld.1 _, held_alloc hHeld.2.1 _, held_alloc hHeld.2.2.1 _, held_alloc hHeld.2.2.2.1 _, held_alloc hHeld.2.2.2.2.1 _, held_alloc hHeld.2.2.2.2.2.1 _, held_alloc hHeld.2.2.2.2.2.2.1 _, held_alloc hHeld.2.2.2.2.2.2.2.1 _, held_alloc hHeld.2.2.2.2.2.2.2.2.1 _, held_alloc hHeld.2.2.2.2.2.2.2.2.2.1 _, held_alloc hHeld.2.2.2.2.2.2.2.2.2.2.1 _, held_alloc hHeld.2.2.2.2.2.2.2.2.2.2.2 _⟩ (fun hHeld => ?_)
        clear hK K
        refine norm_ (by simp only [Act.put, List.setIfInBounds_toArray, List.set_cons_zero, List.set_cons_succ, i64_w]; rfl) ?_
        refine one_ (i := 11) (N := some 28) #[true, true, true, true, true, true, true, true, true, true, true, true, true, true, true, true, true, true, false, true, false] rfl rfl (by kernel_rfl) (by decide) (fun K hK => ?_)
        refine goes_ Try.func36 (by kernel_rfl) rfl #[.int .i64 a2, .int .i64 b2] (by rfl) rfl rfl (by simp [Act.eval]) ?_
        refine (KA.out _).mono ?_
        rintro e u2 ⟨rfl, hd2⟩
        obtain ⟨m2, rfl⟩ := drawn_below hd2
        have q2 := pw_below_drewN q1 m2
        refine ⟨_, rfl, hK.out _ _ hHeld (fun hHeld => ?_)⟩
        clear hK K
        refine norm_ (by simp only [Act.put, List.setIfInBounds_toArray, List.set_cons_zero, List.set_cons_succ, i64_w]; rfl) ?_
        refine pure_ (i := 18) (N := some 35) (v := ?_) (a' := ?_) #[true, true, true, true, true, true, true, true, true, true, true, true, true, true, true, true, true, true, true, true, false] rfl rfl (by kernel_rfl) (fun _ _ _ h => h) (Or.inl ⟨by rfl, ?_⟩) ?_ ?_
        rotate_left
        · intro w'
          go_simp
          with_reducible rfl
        rotate_left
        · simp only [Act.put, List.setIfInBounds_toArray, List.set_cons_zero, List.set_cons_succ, i64_w]
          rfl
        refine norm_ (by simp only [putAll, Act.put, List.setIfInBounds_toArray, List.set_cons_zero, List.set_cons_succ] <;> rfl) (HJ.out (W0.drew.heap.size) _ ⟨hHeld, ⟨q2, y1, (blk_drewN z1 _)⟩⟩)
    case cont =>
      rintro G V0 ⟨hHeld, HG⟩
      refine norm_ (by simp only [putAll, Act.put, List.setIfInBounds_toArray, List.set_cons_zero, List.set_cons_succ]; rfl) ?_
      obtain ⟨hb1, hG, hzG⟩ := HG.out
      have e0 : V0.cell? ⟨G, 0, none⟩ = some (.int .i64 0) := (blk_cell hzG 0).trans rfl
      have e1 : V0.cell? ⟨G, 1, none⟩ = some (.int .i64 0) := (blk_cell hzG 1).trans rfl
      have e2 : V0.cell? ⟨G, 2, none⟩ = some (.int .i64 0) := (blk_cell hzG 2).trans rfl
      have e3 : V0.cell? ⟨G, 3, none⟩ = some (.int .i64 0) := (blk_cell hzG 3).trans rfl
      have e4 : V0.cell? ⟨G, 4, none⟩ = some (.int .i64 0) := (blk_cell hzG 4).trans rfl
      have e5 : V0.cell? ⟨G, 5, none⟩ = some (.int .i64 0) := (blk_cell hzG 5).trans rfl
      have z0 := blk_frozen hzG 0
      have z1 := blk_frozen hzG 1
      have z2 := blk_frozen hzG 2
      have z3 := blk_frozen hzG 3
      have z4 := blk_frozen hzG 4
      have z5 := blk_frozen hzG 5
      refine last_ (i := 20) (N := none) #[true, true, true, true, true, true, true, true, true, true, true, true, true, true, true, true, true, true, true, true, true] rfl rfl (by kernel_rfl) (by decide) (fun K hK => ?_)
      refine skip_ (w1 := ((((((V0).setCell ⟨G, 0, none⟩ (.int .i64 a0)).setCell ⟨G, 1, none⟩ (.int .i64 (wrap64 (a1 + b1)))).setCell ⟨G, 2, none⟩ (.int .i64 s)).setCell ⟨G, 3, none⟩ (.int .i64 a3)).setCell ⟨G, 4, none⟩ (.int .i64 a4)).setCell ⟨G, 5, none⟩ (.int .i64 b5)) (by rfl) rfl (by go_simp) ?_
      refine hK.out _ _ ?_
      clear hK K
      refine done_ (by kernel_rfl) ?_
      have hfin : (((((((V0).setCell ⟨G, 0, none⟩ (.int .i64 a0)).setCell ⟨G, 1, none⟩ (.int .i64 (wrap64 (a1 + b1)))).setCell ⟨G, 2, none⟩ (.int .i64 s)).setCell ⟨G, 3, none⟩ (.int .i64 a3)).setCell ⟨G, 4, none⟩ (.int .i64 a4)).setCell ⟨G, 5, none⟩ (.int .i64 b5)).heap[G]? = some (.cells #[.int .i64 a0, .int .i64 (wrap64 (a1 + b1)), .int .i64 s, .int .i64 a3, .int .i64 a4, .int .i64 b5] 52 (0, 0)) := blk_put (blk_put (blk_put (blk_put (blk_put (blk_put (hzG) 0 _ rfl) 1 _ rfl) 2 _ rfl) 3 _ rfl) 4 _ rfl) 5 _ rfl
      have hbf : Below W0.heap.size W0 (((((((V0).setCell ⟨G, 0, none⟩ (.int .i64 a0)).setCell ⟨G, 1, none⟩ (.int .i64 (wrap64 (a1 + b1)))).setCell ⟨G, 2, none⟩ (.int .i64 s)).setCell ⟨G, 3, none⟩ (.int .i64 a3)).setCell ⟨G, 4, none⟩ (.int .i64 a4)).setCell ⟨G, 5, none⟩ (.int .i64 b5)) := ((((((hb1).setCell hG _).setCell hG _).setCell hG _).setCell hG _).setCell hG _).setCell hG _
      go_wp2
      go_meet
      case rel => exact ⟨G, rfl, ⟨hbf, hG, hfin⟩⟩
  case rest =>
    obtain ⟨G, rfl, HG⟩ := hcut
    obtain ⟨hb1, hG, hGc⟩ := HG.out
    have hA1 := blk_below HA.out hb1
    have hB1 := blk_below HBB.out hb1
    have hZ1 := blk_below HZ.out hb1
    have n1 : bk ≠ G := by have := HS0.out; omega
    have n2 : bk + 1 ≠ G := by have := HS0.out; omega
    have n3 : bk + 1 + 1 ≠ G := by have := HS0.out; omega
    have n4 : G ≠ bk + 1 + 1 := by omega
    have p3 : wc.cell? ⟨bk, 3, none⟩ = some (.int .i64 a3) := (blk_cell hA1 3).trans rfl
    have p4 : wc.cell? ⟨bk, 4, none⟩ = some (.int .i64 a4) := (blk_cell hA1 4).trans rfl
    have q3 : wc.cell? ⟨bk + 1, 3, none⟩ = some (.int .i64 b3) := (blk_cell hB1 3).trans rfl
    have q4 : wc.cell? ⟨bk + 1, 4, none⟩ = some (.int .i64 b4) := (blk_cell hB1 4).trans rfl
    have g0 : wc.cell? ⟨G, 0, none⟩ = some (.int .i64 a0) := (blk_cell hGc 0).trans rfl
    have g1 : wc.cell? ⟨G, 1, none⟩ = some (.int .i64 (wrap64 (a1 + b1))) := (blk_cell hGc 1).trans rfl
    have g2 : wc.cell? ⟨G, 2, none⟩ = some (.int .i64 s) := (blk_cell hGc 2).trans rfl
    have g3 : wc.cell? ⟨G, 3, none⟩ = some (.int .i64 a3) := (blk_cell hGc 3).trans rfl
    have g4 : wc.cell? ⟨G, 4, none⟩ = some (.int .i64 a4) := (blk_cell hGc 4).trans rfl
    have g5 : wc.cell? ⟨G, 5, none⟩ = some (.int .i64 b5) := (blk_cell hGc 5).trans rfl
    have r0 : wc.cell? ⟨bk + 1 + 1, 0, none⟩ = some (.int .i64 0) := (blk_cell hZ1 0).trans rfl
    have r1 : wc.cell? ⟨bk + 1 + 1, 1, none⟩ = some (.int .i64 0) := (blk_cell hZ1 1).trans rfl
    have r2 : wc.cell? ⟨bk + 1 + 1, 2, none⟩ = some (.int .i64 0) := (blk_cell hZ1 2).trans rfl
    have r3 : wc.cell? ⟨bk + 1 + 1, 3, none⟩ = some (.int .i64 0) := (blk_cell hZ1 3).trans rfl
    have r4 : wc.cell? ⟨bk + 1 + 1, 4, none⟩ = some (.int .i64 0) := (blk_cell hZ1 4).trans rfl
    have r5 : wc.cell? ⟨bk + 1 + 1, 5, none⟩ = some (.int .i64 0) := (blk_cell hZ1 5).trans rfl
    have f3 := blk_frozen hGc 3
    have f4 := blk_frozen hGc 4
    have k0 := blk_frozen hZ1 0
    have k1 := blk_frozen hZ1 1
    have k2 := blk_frozen hZ1 2
    have k3 := blk_frozen hZ1 3
    have k4 := blk_frozen hZ1 4
    have k5 := blk_frozen hZ1 5
    have HF := Aside0.mk (And.intro hb1 (And.intro hG (And.intro hGc hZ1)))
    clear hb1 hG hGc hA1 hB1 hZ1 HG hA hB
    by_cases c24 : b3 < a3
    · by_cases c25 : a4 < b4
      · have c24b : decide (b3 < a3) = true := decide_eq_true c24
        have c25b : decide (a4 < b4) = true := decide_eq_true c25
        obtain rfl : b3 = v3 := (HV3.out.symm.trans (if_pos c24)).symm
        obtain rfl : b4 = v4 := (HV4.out.symm.trans (if_pos c25)).symm
        clear c24 c25 HV3 HV4
        go_wp2
        have k0_ : Below w.heap.size w wc := by rw [HH.out]; exact HB0.out.trans (HF.out.1.mono (by rw [HS0.out]; omega))
        have hgB : w.heap.size ≤ G := by have h1 := HS0.out; have h2 := HF.out.2.1; have h3 := HH.out; omega
        have hrB : w.heap.size ≤ bk + 1 + 1 := by have h3 := HH.out; omega
        have hfin : (((((((((wc).setCell ⟨G, 3, none⟩ (.int .i64 b3)).setCell ⟨G, 4, none⟩ (.int .i64 b4)).setCell ⟨bk + 1 + 1, 0, none⟩ (.int .i64 a0)).setCell ⟨bk + 1 + 1, 1, none⟩ (.int .i64 (wrap64 (a1 + b1)))).setCell ⟨bk + 1 + 1, 2, none⟩ (.int .i64 s)).setCell ⟨bk + 1 + 1, 3, none⟩ (.int .i64 b3)).setCell ⟨bk + 1 + 1, 4, none⟩ (.int .i64 b4)).setCell ⟨bk + 1 + 1, 5, none⟩ (.int .i64 b5)).heap[bk + 1 + 1]? = some (.cells #[.int .i64 a0, .int .i64 (wrap64 (a1 + b1)), .int .i64 s, .int .i64 b3, .int .i64 b4, .int .i64 b5] 52 (0, 0)) := blk_put (blk_put (blk_put (blk_put (blk_put (blk_put (blk_far (blk_far (HF.out.2.2.2) n3 _) n3 _) 0 _ rfl) 1 _ rfl) 2 _ rfl) 3 _ rfl) 4 _ rfl) 5 _ rfl
        have hbf : Below w.heap.size w (((((((((wc).setCell ⟨G, 3, none⟩ (.int .i64 b3)).setCell ⟨G, 4, none⟩ (.int .i64 b4)).setCell ⟨bk + 1 + 1, 0, none⟩ (.int .i64 a0)).setCell ⟨bk + 1 + 1, 1, none⟩ (.int .i64 (wrap64 (a1 + b1)))).setCell ⟨bk + 1 + 1, 2, none⟩ (.int .i64 s)).setCell ⟨bk + 1 + 1, 3, none⟩ (.int .i64 b3)).setCell ⟨bk + 1 + 1, 4, none⟩ (.int .i64 b4)).setCell ⟨bk + 1 + 1, 5, none⟩ (.int .i64 b5)) := ((((((((k0_).setCell (hgB) _).setCell (hgB) _).setCell (hrB) _).setCell (hrB) _).setCell (hrB) _).setCell (hrB) _).setCell (hrB) _).setCell (hrB) _
        obtain ⟨Z, hZ⟩ : ∃ Z, (((((((((wc).setCell ⟨G, 3, none⟩ (.int .i64 b3)).setCell ⟨G, 4, none⟩ (.int .i64 b4)).setCell ⟨bk + 1 + 1, 0, none⟩ (.int .i64 a0)).setCell ⟨bk + 1 + 1, 1, none⟩ (.int .i64 (wrap64 (a1 + b1)))).setCell ⟨bk + 1 + 1, 2, none⟩ (.int .i64 s)).setCell ⟨bk + 1 + 1, 3, none⟩ (.int .i64 b3)).setCell ⟨bk + 1 + 1, 4, none⟩ (.int .i64 b4)).setCell ⟨bk + 1 + 1, 5, none⟩ (.int .i64 b5)) = Z := ⟨_, rfl⟩
        rw [hZ] at hfin hbf ⊢
        have t0 : Z.cell? ⟨bk + 1 + 1, 0, none⟩ = some (.int .i64 a0) := (blk_cell hfin 0).trans rfl
        have t1 : Z.cell? ⟨bk + 1 + 1, 1, none⟩ = some (.int .i64 (wrap64 (a1 + b1))) := (blk_cell hfin 1).trans rfl
        have t2 : Z.cell? ⟨bk + 1 + 1, 2, none⟩ = some (.int .i64 s) := (blk_cell hfin 2).trans rfl
        have t3 : Z.cell? ⟨bk + 1 + 1, 3, none⟩ = some (.int .i64 b3) := (blk_cell hfin 3).trans rfl
        have t4 : Z.cell? ⟨bk + 1 + 1, 4, none⟩ = some (.int .i64 b4) := (blk_cell hfin 4).trans rfl
        have t5 : Z.cell? ⟨bk + 1 + 1, 5, none⟩ = some (.int .i64 b5) := (blk_cell hfin 5).trans rfl
        refine bodyPost_ret (v := .agg #[.int .i64 a0, .int .i64 (wrap64 (a1 + b1)), .int .i64 s, .int .i64 b3, .int .i64 b4, .int .i64 b5]) (by simp [results, Try.results47, go_sem, t0, t1, t2, t3, t4, t5]) rfl ?_
        exact ⟨rfl, hbf⟩
      · have c24b : decide (b3 < a3) = true := decide_eq_true c24
        have c25b : decide (a4 < b4) = false := decide_eq_false c25
        obtain rfl : b3 = v3 := (HV3.out.symm.trans (if_pos c24)).symm
        obtain rfl : a4 = v4 := (HV4.out.symm.trans (if_neg c25)).symm
        clear c24 c25 HV3 HV4
        go_wp2
        have k0_ : Below w.heap.size w wc := by rw [HH.out]; exact HB0.out.trans (HF.out.1.mono (by rw [HS0.out]; omega))
        have hgB : w.heap.size ≤ G := by have h1 := HS0.out; have h2 := HF.out.2.1; have h3 := HH.out; omega
        have hrB : w.heap.size ≤ bk + 1 + 1 := by have h3 := HH.out; omega
        have hfin : ((((((((wc).setCell ⟨G, 3, none⟩ (.int .i64 b3)).setCell ⟨bk + 1 + 1, 0, none⟩ (.int .i64 a0)).setCell ⟨bk + 1 + 1, 1, none⟩ (.int .i64 (wrap64 (a1 + b1)))).setCell ⟨bk + 1 + 1, 2, none⟩ (.int .i64 s)).setCell ⟨bk + 1 + 1, 3, none⟩ (.int .i64 b3)).setCell ⟨bk + 1 + 1, 4, none⟩ (.int .i64 a4)).setCell ⟨bk + 1 + 1, 5, none⟩ (.int .i64 b5)).heap[bk + 1 + 1]? = some (.cells #[.int .i64 a0, .int .i64 (wrap64 (a1 + b1)), .int .i64 s, .int .i64 b3, .int .i64 a4, .int .i64 b5] 52 (0, 0)) := blk_put (blk_put (blk_put (blk_put (blk_put (blk_put (blk_far (HF.out.2.2.2) n3 _) 0 _ rfl) 1 _ rfl) 2 _ rfl) 3 _ rfl) 4 _ rfl) 5 _ rfl
        have hbf : Below w.heap.size w ((((((((wc).setCell ⟨G, 3, none⟩ (.int .i64 b3)).setCell ⟨bk + 1 + 1, 0, none⟩ (.int .i64 a0)).setCell ⟨bk + 1 + 1, 1, none⟩ (.int .i64 (wrap64 (a1 + b1)))).setCell ⟨bk + 1 + 1, 2, none⟩ (.int .i64 s)).setCell ⟨bk + 1 + 1, 3, none⟩ (.int .i64 b3)).setCell ⟨bk + 1 + 1, 4, none⟩ (.int .i64 a4)).setCell ⟨bk + 1 + 1, 5, none⟩ (.int .i64 b5)) := (((((((k0_).setCell (hgB) _).setCell (hrB) _).setCell (hrB) _).setCell (hrB) _).setCell (hrB) _).setCell (hrB) _).setCell (hrB) _
        obtain ⟨Z, hZ⟩ : ∃ Z, ((((((((wc).setCell ⟨G, 3, none⟩ (.int .i64 b3)).setCell ⟨bk + 1 + 1, 0, none⟩ (.int .i64 a0)).setCell ⟨bk + 1 + 1, 1, none⟩ (.int .i64 (wrap64 (a1 + b1)))).setCell ⟨bk + 1 + 1, 2, none⟩ (.int .i64 s)).setCell ⟨bk + 1 + 1, 3, none⟩ (.int .i64 b3)).setCell ⟨bk + 1 + 1, 4, none⟩ (.int .i64 a4)).setCell ⟨bk + 1 + 1, 5, none⟩ (.int .i64 b5)) = Z := ⟨_, rfl⟩
        rw [hZ] at hfin hbf ⊢
        have t0 : Z.cell? ⟨bk + 1 + 1, 0, none⟩ = some (.int .i64 a0) := (blk_cell hfin 0).trans rfl
        have t1 : Z.cell? ⟨bk + 1 + 1, 1, none⟩ = some (.int .i64 (wrap64 (a1 + b1))) := (blk_cell hfin 1).trans rfl
        have t2 : Z.cell? ⟨bk + 1 + 1, 2, none⟩ = some (.int .i64 s) := (blk_cell hfin 2).trans rfl
        have t3 : Z.cell? ⟨bk + 1 + 1, 3, none⟩ = some (.int .i64 b3) := (blk_cell hfin 3).trans rfl
        have t4 : Z.cell? ⟨bk + 1 + 1, 4, none⟩ = some (.int .i64 a4) := (blk_cell hfin 4).trans rfl
        have t5 : Z.cell? ⟨bk + 1 + 1, 5, none⟩ = some (.int .i64 b5) := (blk_cell hfin 5).trans rfl
        refine bodyPost_ret (v := .agg #[.int .i64 a0, .int .i64 (wrap64 (a1 + b1)), .int .i64 s, .int .i64 b3, .int .i64 a4, .int .i64 b5]) (by simp [results, Try.results47, go_sem, t0, t1, t2, t3, t4, t5]) rfl ?_
        exact ⟨rfl, hbf⟩
    · by_cases c25 : a4 < b4
      · have c24b : decide (b3 < a3) = false := decide_eq_false c24
        have c25b : decide (a4 < b4) = true := decide_eq_true c25
        obtain rfl : a3 = v3 := (HV3.out.symm.trans (if_neg c24)).symm
        obtain rfl : b4 = v4 := (HV4.out.symm.trans (if_pos c25)).symm
        clear c24 c25 HV3 HV4
        go_wp2
        have k0_ : Below w.heap.size w wc := by rw [HH.out]; exact HB0.out.trans (HF.out.1.mono (by rw [HS0.out]; omega))
        have hgB : w.heap.size ≤ G := by have h1 := HS0.out; have h2 := HF.out.2.1; have h3 := HH.out; omega
        have hrB : w.heap.size ≤ bk + 1 + 1 := by have h3 := HH.out; omega
        have hfin : ((((((((wc).setCell ⟨G, 4, none⟩ (.int .i64 b4)).setCell ⟨bk + 1 + 1, 0, none⟩ (.int .i64 a0)).setCell ⟨bk + 1 + 1, 1, none⟩ (.int .i64 (wrap64 (a1 + b1)))).setCell ⟨bk + 1 + 1, 2, none⟩ (.int .i64 s)).setCell ⟨bk + 1 + 1, 3, none⟩ (.int .i64 a3)).setCell ⟨bk + 1 + 1, 4, none⟩ (.int .i64 b4)).setCell ⟨bk + 1 + 1, 5, none⟩ (.int .i64 b5)).heap[bk + 1 + 1]? = some (.cells #[.int .i64 a0, .int .i64 (wrap64 (a1 + b1)), .int .i64 s, .int .i64 a3, .int .i64 b4, .int .i64 b5] 52 (0, 0)) := blk_put (blk_put (blk_put (blk_put (blk_put (blk_put (blk_far (HF.out.2.2.2) n3 _) 0 _ rfl) 1 _ rfl) 2 _ rfl) 3 _ rfl) 4 _ rfl) 5 _ rfl
        have hbf : Below w.heap.size w ((((((((wc).setCell ⟨G, 4, none⟩ (.int .i64 b4)).setCell ⟨bk + 1 + 1, 0, none⟩ (.int .i64 a0)).setCell ⟨bk + 1 + 1, 1, none⟩ (.int .i64 (wrap64 (a1 + b1)))).setCell ⟨bk + 1 + 1, 2, none⟩ (.int .i64 s)).setCell ⟨bk + 1 + 1, 3, none⟩ (.int .i64 a3)).setCell ⟨bk + 1 + 1, 4, none⟩ (.int .i64 b4)).setCell ⟨bk + 1 + 1, 5, none⟩ (.int .i64 b5)) := (((((((k0_).setCell (hgB) _).setCell (hrB) _).setCell (hrB) _).setCell (hrB) _).setCell (hrB) _).setCell (hrB) _).setCell (hrB) _
        obtain ⟨Z, hZ⟩ : ∃ Z, ((((((((wc).setCell ⟨G, 4, none⟩ (.int .i64 b4)).setCell ⟨bk + 1 + 1, 0, none⟩ (.int .i64 a0)).setCell ⟨bk + 1 + 1, 1, none⟩ (.int .i64 (wrap64 (a1 + b1)))).setCell ⟨bk + 1 + 1, 2, none⟩ (.int .i64 s)).setCell ⟨bk + 1 + 1, 3, none⟩ (.int .i64 a3)).setCell ⟨bk + 1 + 1, 4, none⟩ (.int .i64 b4)).setCell ⟨bk + 1 + 1, 5, none⟩ (.int .i64 b5)) = Z := ⟨_, rfl⟩
        rw [hZ] at hfin hbf ⊢
        have t0 : Z.cell? ⟨bk + 1 + 1, 0, none⟩ = some (.int .i64 a0) := (blk_cell hfin 0).trans rfl
        have t1 : Z.cell? ⟨bk + 1 + 1, 1, none⟩ = some (.int .i64 (wrap64 (a1 + b1))) := (blk_cell hfin 1).trans rfl
        have t2 : Z.cell? ⟨bk + 1 + 1, 2, none⟩ = some (.int .i64 s) := (blk_cell hfin 2).trans rfl
        have t3 : Z.cell? ⟨bk + 1 + 1, 3, none⟩ = some (.int .i64 a3) := (blk_cell hfin 3).trans rfl
        have t4 : Z.cell? ⟨bk + 1 + 1, 4, none⟩ = some (.int .i64 b4) := (blk_cell hfin 4).trans rfl
        have t5 : Z.cell? ⟨bk + 1 + 1, 5, none⟩ = some (.int .i64 b5) := (blk_cell hfin 5).trans rfl
        refine bodyPost_ret (v := .agg #[.int .i64 a0, .int .i64 (wrap64 (a1 + b1)), .int .i64 s, .int .i64 a3, .int .i64 b4, .int .i64 b5]) (by simp [results, Try.results47, go_sem, t0, t1, t2, t3, t4, t5]) rfl ?_
        exact ⟨rfl, hbf⟩
      · have c24b : decide (b3 < a3) = false := decide_eq_false c24
        have c25b : decide (a4 < b4) = false := decide_eq_false c25
        obtain rfl : a3 = v3 := (HV3.out.symm.trans (if_neg c24)).symm
        obtain rfl : a4 = v4 := (HV4.out.symm.trans (if_neg c25)).symm
        clear c24 c25 HV3 HV4
        go_wp2
        have k0_ : Below w.heap.size w wc := by rw [HH.out]; exact HB0.out.trans (HF.out.1.mono (by rw [HS0.out]; omega))
        have hgB : w.heap.size ≤ G := by have h1 := HS0.out; have h2 := HF.out.2.1; have h3 := HH.out; omega
        have hrB : w.heap.size ≤ bk + 1 + 1 := by have h3 := HH.out; omega
        have hfin : (((((((wc).setCell ⟨bk + 1 + 1, 0, none⟩ (.int .i64 a0)).setCell ⟨bk + 1 + 1, 1, none⟩ (.int .i64 (wrap64 (a1 + b1)))).setCell ⟨bk + 1 + 1, 2, none⟩ (.int .i64 s)).setCell ⟨bk + 1 + 1, 3, none⟩ (.int .i64 a3)).setCell ⟨bk + 1 + 1, 4, none⟩ (.int .i64 a4)).setCell ⟨bk + 1 + 1, 5, none⟩ (.int .i64 b5)).heap[bk + 1 + 1]? = some (.cells #[.int .i64 a0, .int .i64 (wrap64 (a1 + b1)), .int .i64 s, .int .i64 a3, .int .i64 a4, .int .i64 b5] 52 (0, 0)) := blk_put (blk_put (blk_put (blk_put (blk_put (blk_put (HF.out.2.2.2) 0 _ rfl) 1 _ rfl) 2 _ rfl) 3 _ rfl) 4 _ rfl) 5 _ rfl
        have hbf : Below w.heap.size w (((((((wc).setCell ⟨bk + 1 + 1, 0, none⟩ (.int .i64 a0)).setCell ⟨bk + 1 + 1, 1, none⟩ (.int .i64 (wrap64 (a1 + b1)))).setCell ⟨bk + 1 + 1, 2, none⟩ (.int .i64 s)).setCell ⟨bk + 1 + 1, 3, none⟩ (.int .i64 a3)).setCell ⟨bk + 1 + 1, 4, none⟩ (.int .i64 a4)).setCell ⟨bk + 1 + 1, 5, none⟩ (.int .i64 b5)) := ((((((k0_).setCell (hrB) _).setCell (hrB) _).setCell (hrB) _).setCell (hrB) _).setCell (hrB) _).setCell (hrB) _
        obtain ⟨Z, hZ⟩ : ∃ Z, (((((((wc).setCell ⟨bk + 1 + 1, 0, none⟩ (.int .i64 a0)).setCell ⟨bk + 1 + 1, 1, none⟩ (.int .i64 (wrap64 (a1 + b1)))).setCell ⟨bk + 1 + 1, 2, none⟩ (.int .i64 s)).setCell ⟨bk + 1 + 1, 3, none⟩ (.int .i64 a3)).setCell ⟨bk + 1 + 1, 4, none⟩ (.int .i64 a4)).setCell ⟨bk + 1 + 1, 5, none⟩ (.int .i64 b5)) = Z := ⟨_, rfl⟩
        rw [hZ] at hfin hbf ⊢
        have t0 : Z.cell? ⟨bk + 1 + 1, 0, none⟩ = some (.int .i64 a0) := (blk_cell hfin 0).trans rfl
        have t1 : Z.cell? ⟨bk + 1 + 1, 1, none⟩ = some (.int .i64 (wrap64 (a1 + b1))) := (blk_cell hfin 1).trans rfl
        have t2 : Z.cell? ⟨bk + 1 + 1, 2, none⟩ = some (.int .i64 s) := (blk_cell hfin 2).trans rfl
        have t3 : Z.cell? ⟨bk + 1 + 1, 3, none⟩ = some (.int .i64 a3) := (blk_cell hfin 3).trans rfl
        have t4 : Z.cell? ⟨bk + 1 + 1, 4, none⟩ = some (.int .i64 a4) := (blk_cell hfin 4).trans rfl
        have t5 : Z.cell? ⟨bk + 1 + 1, 5, none⟩ = some (.int .i64 b5) := (blk_cell hfin 5).trans rfl
        refine bodyPost_ret (v := .agg #[.int .i64 a0, .int .i64 (wrap64 (a1 + b1)), .int .i64 s, .int .i64 a3, .int .i64 a4, .int .i64 b5]) (by simp [results, Try.results47, go_sem, t0, t1, t2, t3, t4, t5]) rfl ?_
        exact ⟨rfl, hbf⟩
end Go.Proofs.Ytdglifoakdkheaa.Rj
namespace Go.Proofs.Ytdglifoakdkheaa.Roll
def rjoinS (a b : S52) : S52 := if b.f1 = 0 then a else joinS a b
end Go.Proofs.Ytdglifoakdkheaa.Roll
namespace Go.Proofs.Ytdglifoakdkheaa.Rj
open Go.RowKit Go.Proofs.YtdglifoakdkheaaW.PrintWords Go.Proofs.YtdglifoakdkheaaW.PrintLast Go.Proofs.YtdglifoakdkheaaW.PrintMore
set_option maxRecDepth 100000 in
set_option maxHeartbeats 4000000 in
theorem join_none (a0 a1 a2 a3 a4 a5 b0 b1 b2 b3 b4 b5 : Int) (w : World) (c3 : b1 = 0) : Calls Try.prog 47 #[.agg #[.int .i64 a0, .int .i64 a1, .int .i64 a2, .int .i64 a3, .int .i64 a4, .int .i64 a5], .agg #[.int .i64 b0, .int .i64 b1, .int .i64 b2, .int .i64 b3, .int .i64 b4, .int .i64 b5]] w fun e w' => e = .returned (.agg #[.int .i64 a0, .int .i64 a1, .int .i64 a2, .int .i64 a3, .int .i64 a4, .int .i64 a5]) ∧ Below w.heap.size w w' := by
  have c3b : (b1 == 0) = true := by simpa using c3
  clear c3
  go_enter Try.func47, Try.ntmps47
  go_wp2
  have hfin : (((w.alloc (.cells #[.int .i64 a0, .int .i64 a1, .int .i64 a2, .int .i64 a3, .int .i64 a4, .int .i64 a5] 52)).alloc (.cells #[.int .i64 b0, .int .i64 b1, .int .i64 b2, .int .i64 b3, .int .i64 b4, .int .i64 b5] 52)).alloc (.cells #[.int .i64 a0, .int .i64 a1, .int .i64 a2, .int .i64 a3, .int .i64 a4, .int .i64 a5] 52)).heap[w.heap.size + 1 + 1]? = some (.cells #[.int .i64 a0, .int .i64 a1, .int .i64 a2, .int .i64 a3, .int .i64 a4, .int .i64 a5] 52 (0, 0)) := by
    have h1 := blk_new ((w.alloc (.cells #[.int .i64 a0, .int .i64 a1, .int .i64 a2, .int .i64 a3, .int .i64 a4, .int .i64 a5] 52)).alloc (.cells #[.int .i64 b0, .int .i64 b1, .int .i64 b2, .int .i64 b3, .int .i64 b4, .int .i64 b5] 52)) (.cells #[.int .i64 a0, .int .i64 a1, .int .i64 a2, .int .i64 a3, .int .i64 a4, .int .i64 a5] 52)
    rwa [World.size_alloc, World.size_alloc] at h1
  have hbf : Below w.heap.size w (((w.alloc (.cells #[.int .i64 a0, .int .i64 a1, .int .i64 a2, .int .i64 a3, .int .i64 a4, .int .i64 a5] 52)).alloc (.cells #[.int .i64 b0, .int .i64 b1, .int .i64 b2, .int .i64 b3, .int .i64 b4, .int .i64 b5] 52)).alloc (.cells #[.int .i64 a0, .int .i64 a1, .int .i64 a2, .int .i64 a3, .int .i64 a4, .int .i64 a5] 52)) := below_alloc (below_alloc (below_alloc (Below.refl _ _) _) _) _
  obtain ⟨Z, hZ⟩ : ∃ Z, (((w.alloc (.cells #[.int .i64 a0, .int .i64 a1, .int .i64 a2, .int .i64 a3, .int .i64 a4, .int .i64 a5] 52)).alloc (.cells #[.int .i64 b0, .int .i64 b1, .int .i64 b2, .int .i64 b3, .int .i64 b4, .int .i64 b5] 52)).alloc (.cells #[.int .i64 a0, .int .i64 a1, .int .i64 a2, .int .i64 a3, .int .i64 a4, .int .i64 a5] 52)) = Z := ⟨_, rfl⟩
  rw [hZ] at hfin hbf ⊢
  have t0 : Z.cell? ⟨w.heap.size + 1 + 1, 0, none⟩ = some (.int .i64 a0) := (blk_cell hfin 0).trans rfl
  have t1 : Z.cell? ⟨w.heap.size + 1 + 1, 1, none⟩ = some (.int .i64 a1) := (blk_cell hfin 1).trans rfl
  have t2 : Z.cell? ⟨w.heap.size + 1 + 1, 2, none⟩ = some (.int .i64 a2) := (blk_cell hfin 2).trans rfl
  have t3 : Z.cell? ⟨w.heap.size + 1 + 1, 3, none⟩ = some (.int .i64 a3) := (blk_cell hfin 3).trans rfl
  have t4 : Z.cell? ⟨w.heap.size + 1 + 1, 4, none⟩ = some (.int .i64 a4) := (blk_cell hfin 4).trans rfl
  have t5 : Z.cell? ⟨w.heap.size + 1 + 1, 5, none⟩ = some (.int .i64 a5) := (blk_cell hfin 5).trans rfl
  refine bodyPost_ret (v := .agg #[.int .i64 a0, .int .i64 a1, .int .i64 a2, .int .i64 a3, .int .i64 a4, .int .i64 a5]) (by simp [results, Try.results47, go_sem, t0, t1, t2, t3, t4, t5]) rfl ?_
  exact ⟨rfl, hbf⟩
set_option maxRecDepth 100000 in
set_option maxHeartbeats 4000000 in
theorem join_first (a0 a1 a2 a3 a4 a5 b0 b1 b2 b3 b4 b5 : Int) (w : World) (c3 : b1 ≠ 0) (c13 : a1 = 0) : Calls Try.prog 47 #[.agg #[.int .i64 a0, .int .i64 a1, .int .i64 a2, .int .i64 a3, .int .i64 a4, .int .i64 a5], .agg #[.int .i64 b0, .int .i64 b1, .int .i64 b2, .int .i64 b3, .int .i64 b4, .int .i64 b5]] w fun e w' => e = .returned (.agg #[.int .i64 a0, .int .i64 b1, .int .i64 b2, .int .i64 b3, .int .i64 b4, .int .i64 b5]) ∧ Below w.heap.size w w' := by
  have c3b : (b1 == 0) = false := by simpa using c3
  have c13b : (a1 == 0) = true := by simpa using c13
  clear c3 c13
  go_enter Try.func47, Try.ntmps47
  go_wp2
  have hfin : (((w.alloc (.cells #[.int .i64 a0, .int .i64 a1, .int .i64 a2, .int .i64 a3, .int .i64 a4, .int .i64 a5] 52)).alloc (.cells #[.int .i64 a0, .int .i64 b1, .int .i64 b2, .int .i64 b3, .int .i64 b4, .int .i64 b5] 52)).alloc (.cells #[.int .i64 a0, .int .i64 b1, .int .i64 b2, .int .i64 b3, .int .i64 b4, .int .i64 b5] 52)).heap[w.heap.size + 1 + 1]? = some (.cells #[.int .i64 a0, .int .i64 b1, .int .i64 b2, .int .i64 b3, .int .i64 b4, .int .i64 b5] 52 (0, 0)) := by
    have h1 := blk_new ((w.alloc (.cells #[.int .i64 a0, .int .i64 a1, .int .i64 a2, .int .i64 a3, .int .i64 a4, .int .i64 a5] 52)).alloc (.cells #[.int .i64 a0, .int .i64 b1, .int .i64 b2, .int .i64 b3, .int .i64 b4, .int .i64 b5] 52)) (.cells #[.int .i64 a0, .int .i64 b1, .int .i64 b2, .int .i64 b3, .int .i64 b4, .int .i64 b5] 52)
    rwa [World.size_alloc, World.size_alloc] at h1
  have hbf : Below w.heap.size w (((w.alloc (.cells #[.int .i64 a0, .int .i64 a1, .int .i64 a2, .int .i64 a3, .int .i64 a4, .int .i64 a5] 52)).alloc (.cells #[.int .i64 a0, .int .i64 b1, .int .i64 b2, .int .i64 b3, .int .i64 b4, .int .i64 b5] 52)).alloc (.cells #[.int .i64 a0, .int .i64 b1, .int .i64 b2, .int .i64 b3, .int .i64 b4, .int .i64 b5] 52)) := below_alloc (below_alloc (below_alloc (Below.refl _ _) _) _) _
  obtain ⟨Z, hZ⟩ : ∃ Z, (((w.alloc (.cells #[.int .i64 a0, .int .i64 a1, .int .i64 a2, .int .i64 a3, .int .i64 a4, .int .i64 a5] 52)).alloc (.cells #[.int .i64 a0, .int .i64 b1, .int .i64 b2, .int .i64 b3, .int .i64 b4, .int .i64 b5] 52)).alloc (.cells #[.int .i64 a0, .int .i64 b1, .int .i64 b2, .int .i64 b3, .int .i64 b4, .int .i64 b5] 52)) = Z := ⟨_, rfl⟩
  rw [hZ] at hfin hbf ⊢
  have t0 : Z.cell? ⟨w.heap.size + 1 + 1, 0, none⟩ = some (.int .i64 a0) := (blk_cell hfin 0).trans rfl
  have t1 : Z.cell? ⟨w.heap.size + 1 + 1, 1, none⟩ = some (.int .i64 b1) := (blk_cell hfin 1).trans rfl
  have t2 : Z.cell? ⟨w.heap.size + 1 + 1, 2, none⟩ = some (.int .i64 b2) := (blk_cell hfin 2).trans rfl
  have t3 : Z.cell? ⟨w.heap.size + 1 + 1, 3, none⟩ = some (.int .i64 b3) := (blk_cell hfin 3).trans rfl
  have t4 : Z.cell? ⟨w.heap.size + 1 + 1, 4, none⟩ = some (.int .i64 b4) := (blk_cell hfin 4).trans rfl
  have t5 : Z.cell? ⟨w.heap.size + 1 + 1, 5, none⟩ = some (.int .i64 b5) := (blk_cell hfin 5).trans rfl
  refine bodyPost_ret (v := .agg #[.int .i64 a0, .int .i64 b1, .int .i64 b2, .int .i64 b3, .int .i64 b4, .int .i64 b5]) (by simp [results, Try.results47, go_sem, t0, t1, t2, t3, t4, t5]) rfl ?_
  exact ⟨rfl, hbf⟩
theorem rjoin_calls (a0 a1 a2 a3 a4 a5 b0 b1 b2 b3 b4 b5 : Int) (h2 : Roll.In a2) (k2 : Roll.In b2) (w : World) : Calls Try.prog 47 #[.agg #[.int .i64 a0, .int .i64 a1, .int .i64 a2, .int .i64 a3, .int .i64 a4, .int .i64 a5], .agg #[.int .i64 b0, .int .i64 b1, .int .i64 b2, .int .i64 b3, .int .i64 b4, .int .i64 b5]] w fun e w' => e = .returned (.agg #[.int .i64 (Roll.rjoinS ⟨a0, a1, a2, a3, a4, a5⟩ ⟨b0, b1, b2, b3, b4, b5⟩).f0, .int .i64 (Roll.rjoinS ⟨a0, a1, a2, a3, a4, a5⟩ ⟨b0, b1, b2, b3, b4, b5⟩).f1, .int .i64 (Roll.rjoinS ⟨a0, a1, a2, a3, a4, a5⟩ ⟨b0, b1, b2, b3, b4, b5⟩).f2, .int .i64 (Roll.rjoinS ⟨a0, a1, a2, a3, a4, a5⟩ ⟨b0, b1, b2, b3, b4, b5⟩).f3, .int .i64 (Roll.rjoinS ⟨a0, a1, a2, a3, a4, a5⟩ ⟨b0, b1, b2, b3, b4, b5⟩).f4, .int .i64 (Roll.rjoinS ⟨a0, a1, a2, a3, a4, a5⟩ ⟨b0, b1, b2, b3, b4, b5⟩).f5]) ∧ Below w.heap.size w w' := by
  unfold Roll.rjoinS Roll.joinS
  by_cases c3 : b1 = 0
  · rw [if_pos c3]
    exact join_none a0 a1 a2 a3 a4 a5 b0 b1 b2 b3 b4 b5 w c3
  · rw [if_neg c3]
    by_cases c13 : a1 = 0
    · rw [if_pos c13]
      exact join_first a0 a1 a2 a3 a4 a5 b0 b1 b2 b3 b4 b5 w c3 c13
    · rw [if_neg c13, if_neg c3]
      have KA : Aside0 (∀ W, Calls Try.prog 36 #[.int .i64 a2, .int .i64 b2] W fun e w' => e = .returned (.int .i64 (Roll.addS a2 b2)) ∧ Drawn0 W w') := ⟨fun W => Roll.lysimeterref1_Add.calls 400 a2 b2 _ W (Roll.radd_eq (Nat.le_refl _) h2 k2)⟩
      exact join_both a0 a1 a2 a3 a4 a5 b0 b1 b2 b3 b4 b5 (Roll.addS a2 b2) w c3 c13 (min a3 b3) (max a4 b4) (by split <;> omega) (by split <;> omega) KA
end Go.Proofs.Ytdglifoakdkheaa.Rj
end
section
namespace Go.Proofs.Ytdglifoakdkheaa.Rk
open Go.RowKit Go.Proofs.YtdglifoakdkheaaW.PrintWords Go.Proofs.YtdglifoakdkheaaW.PrintLast Go.Proofs.YtdglifoakdkheaaW.PrintMore
attribute [local go_sem] max2_int min2_int max_two min_two max_three min_three max_four min_four   -- for this text's walks alone
set_option linter.unusedVariables false
set_option linter.unusedSimpArgs false
def errW : Option Int → Value
  | none => .nilIface
  | some c => .iface 0 (.int .i64 c)
theorem errW_none : errW none = .nilIface := rfl
theorem errW_some (c : Int) : errW (some c) = .iface 0 (.int .i64 c) := rfl
theorem info3 : (Try.prog.info? 3).map (fun i => (i.zero, i.size, i.bytes)) = some (some (.int .i64 0), 1, 8) := by kernel_rfl
theorem info52 : (Try.prog.info? 52).map (fun i => (i.zero, i.size, i.bytes)) = some (some (.agg #[(.int .i64 0), (.int .i64 0), (.int .i64 0), (.int .i64 0), (.int .i64 0), (.int .i64 0)]), 6, 48) := by kernel_rfl
structure S41 where
  f0 : Int
  f1 : Int
def z41 : S41 := ⟨(0 : Int), (0 : Int)⟩
def k41 : Kd S41 := Kd.iso (Kd.pair (Kd.int .i64) (Kd.int .i64)) (fun x : S41 => (x.f0, x.f1))
theorem k41_open {w : World} {x : S41} {cs : List Value} (h : k41.K w x cs) : cs = [.int .i64 x.f0, .int .i64 x.f1] := by
  obtain ⟨_, _, rfl, rfl, rfl⟩ := h
  exact rfl
theorem k41_mk (w : World) (x : S41)  : k41.K w x [.int .i64 x.f0, .int .i64 x.f1] := ⟨[.int .i64 x.f0], [.int .i64 x.f1], rfl, rfl, rfl⟩
theorem k41_mkM (w : World) (base : Nat) (ok : Nat → Prop) (x : S41)  : k41.M w base ok x [.int .i64 x.f0, .int .i64 x.f1] := ⟨[.int .i64 x.f0], [.int .i64 x.f1], rfl, rfl, rfl⟩
def rd_T41 (xs : List S41) (i : Int) : S41 := xs.getD i.toNat z41
theorem at_T41 {w : World} {A : Option Addr} {n : Nat} {xs : List S41} (h : Kd.C k41 w A n xs) (i : Int) (h0 : 0 ≤ i) (h1 : i < n) : ∃ ad , A = some ad ∧ w.cell? (ad.add (i.toNat * 2)) = some (.int .i64 (rd_T41 xs i).f0) ∧ w.cell? ⟨(ad.add (i.toNat * 2)).block, (ad.add (i.toNat * 2)).off + 1, none⟩ = some (.int .i64 (rd_T41 xs i).f1) := by
  obtain ⟨ad, c, e, _, hK, hc0⟩ := Kd.C_get h z41 i h0 h1
  have hc : ∀ j u, c[j]? = some u → w.cell? (ad.add (i.toNat * 2 + j)) = some u := hc0
  obtain rfl := k41_open hK
  exact ⟨ad, e, hc 0 _ rfl, by rw [← add_field _ _ 1 (by omega)]; exact hc 1 _ rfl⟩
structure S52 where
  f0 : Int
  f1 : Int
  f2 : Int
  f3 : Int
  f4 : Int
  f5 : Int
def z52 : S52 := ⟨(0 : Int), (0 : Int), (0 : Int), (0 : Int), (0 : Int), (0 : Int)⟩
def k52 : Kd S52 := Kd.iso (Kd.pair (Kd.int .i64) (Kd.pair (Kd.int .i64) (Kd.pair (Kd.int .i64) (Kd.pair (Kd.int .i64) (Kd.pair (Kd.int .i64) (Kd.int .i64)))))) (fun x : S52 => (x.f0, x.f1, x.f2, x.f3, x.f4, x.f5))
theorem k52_open {w : World} {x : S52} {cs : List Value} (h : k52.K w x cs) : cs = [.int .i64 x.f0, .int .i64 x.f1, .int .i64 x.f2, .int .i64 x.f3, .int .i64 x.f4, .int .i64 x.f5] := by
  obtain ⟨_, _, rfl, rfl, ⟨_, _, rfl, rfl, ⟨_, _, rfl, rfl, ⟨_, _, rfl, rfl, ⟨_, _, rfl, rfl, rfl⟩⟩⟩⟩⟩ := h
  exact rfl
theorem k52_openM {w : World} {base : Nat} {ok : Nat → Prop} {x : S52} {cs : List Value} (h : k52.M w base ok x cs) : cs = [.int .i64 x.f0, .int .i64 x.f1, .int .i64 x.f2, .int .i64 x.f3, .int .i64 x.f4, .int .i64 x.f5] := by
  obtain ⟨_, _, rfl, rfl, ⟨_, _, rfl, rfl, ⟨_, _, rfl, rfl, ⟨_, _, rfl, rfl, ⟨_, _, rfl, rfl, rfl⟩⟩⟩⟩⟩ := h
  exact rfl
theorem k52_mkM (w : World) (base : Nat) (ok : Nat → Prop) (x : S52)  : k52.M w base ok x [.int .i64 x.f0, .int .i64 x.f1, .int .i64 x.f2, .int .i64 x.f3, .int .i64 x.f4, .int .i64 x.f5] := ⟨[.int .i64 x.f0], [.int .i64 x.f1, .int .i64 x.f2, .int .i64 x.f3, .int .i64 x.f4, .int .i64 x.f5], rfl, rfl, ⟨[.int .i64 x.f1], [.int .i64 x.f2, .int .i64 x.f3, .int .i64 x.f4, .int .i64 x.f5], rfl, rfl, ⟨[.int .i64 x.f2], [.int .i64 x.f3, .int .i64 x.f4, .int .i64 x.f5], rfl, rfl, ⟨[.int .i64 x.f3], [.int .i64 x.f4, .int .i64 x.f5], rfl, rfl, ⟨[.int .i64 x.f4], [.int .i64 x.f5], rfl, rfl, rfl⟩⟩⟩⟩⟩
def rd_T52 (xs : List S52) (i : Int) : S52 := xs.getD i.toNat z52
theorem at_T52 {w : World} {A : Option Addr} {n : Nat} {xs : List S52} (h : Kd.C k52 w A n xs) (i : Int) (h0 : 0 ≤ i) (h1 : i < n) : ∃ ad , A = some ad ∧ w.cell? (ad.add (i.toNat * 6)) = some (.int .i64 (rd_T52 xs i).f0) ∧ w.cell? ⟨(ad.add (i.toNat * 6)).block, (ad.add (i.toNat * 6)).off + 1, none⟩ = some (.int .i64 (rd_T52 xs i).f1) ∧ w.cell? ⟨(ad.add (i.toNat * 6)).block, (ad.add (i.toNat * 6)).off + 2, none⟩ = some (.int .i64 (rd_T52 xs i).f2) ∧ w.cell? ⟨(ad.add (i.toNat * 6)).block, (ad.add (i.toNat * 6)).off + 3, none⟩ = some (.int .i64 (rd_T52 xs i).f3) ∧ w.cell? ⟨(ad.add (i.toNat * 6)).block, (ad.add (i.toNat * 6)).off + 4, none⟩ = some (.int .i64 (rd_T52 xs i).f4) ∧ w.cell? ⟨(ad.add (i.toNat * 6)).block, (ad.add (i.toNat * 6)).off + 5, none⟩ = some (.int .i64 (rd_T52 xs i).f5) := by
  obtain ⟨ad, c, e, _, hK, hc0⟩ := Kd.C_get h z52 i h0 h1
  have hc : ∀ j u, c[j]? = some u → w.cell? (ad.add (i.toNat * 6 + j)) = some u := hc0
  obtain rfl := k52_open hK
  exact ⟨ad, e, hc 0 _ rfl, by rw [← add_field _ _ 1 (by omega)]; exact hc 1 _ rfl, by rw [← add_field _ _ 2 (by omega)]; exact hc 2 _ rfl, by rw [← add_field _ _ 3 (by omega)]; exact hc 3 _ rfl, by rw [← add_field _ _ 4 (by omega)]; exact hc 4 _ rfl, by rw [← add_field _ _ 5 (by omega)]; exact hc 5 _ rfl⟩
end Go.Proofs.Ytdglifoakdkheaa.Rk
end
section
namespace Go.Proofs.Ytdglifoakdkheaa.Rk
open Go.RowKit Go.Proofs.YtdglifoakdkheaaW.PrintWords Go.Proofs.YtdglifoakdkheaaW.PrintLast Go.Proofs.YtdglifoakdkheaaW.PrintMore
attribute [local go_sem] max2_int min2_int max_two min_two max_three min_three max_four min_four   -- for this text's walks alone
set_option linter.unusedVariables false
set_option linter.unusedSimpArgs false
def lysimeterref16_Floor.f (a0 : Int) (a1 : Int) : Option (Int) := if Roll.InB a0 && Roll.InB a1 then some (Roll.floorS a0 a1) else none
theorem lysimeterref16_Floor.calls (a0 : Int) (a1 : Int) (r : Int) (w : World) (h : lysimeterref16_Floor.f a0 a1 = some r) :
    Calls Try.prog 30 #[.int .i64 a0, .int .i64 a1] w fun e w' => e = .returned (.int .i64 r) ∧ Drawn0 w w' := by
  unfold lysimeterref16_Floor.f at h
  by_cases c : (Roll.InB a0 && Roll.InB a1) = true
  · rw [if_pos c] at h
    rw [Bool.and_eq_true, Roll.inb_iff, Roll.inb_iff] at c
    exact Roll.lysimeterref16_Floor.calls a0 a1 r w ((Roll.rfloor_eq c.1 c.2).trans h)
  · rw [if_neg c] at h; cases h
def lysimeterref4_Rising.mk (t : Int) : Roll.S41 := ⟨t, 0⟩
def lysimeterref4_Rising.f (l0 : List Int) : Option (Bool) := if l0.length ≤ 100000 then some (Roll.ris (l0.map lysimeterref4_Rising.mk) 0 l0.length) else none
theorem lysimeterref4_Rising.calls (A0 : Option Addr) (c0 : Nat) (l0 : List Int) (r : Bool) (w : World) (hr0 : Kd.C (Kd.int .i64) w A0 l0.length l0) (hc0 : l0.length ≤ c0) (h : lysimeterref4_Rising.f l0 = some r) :
    Calls Try.prog 40 #[.slice A0 l0.length c0] w fun e w' => e = .returned (.bool r) ∧ Drawn0 w w' := by
  unfold lysimeterref4_Rising.f at h
  by_cases c : l0.length ≤ 100000
  · rw [if_pos c] at h
    obtain rfl := Option.some.inj h
    obtain ⟨K, hK⟩ := Roll.rrising_ev (l0.map lysimeterref4_Rising.mk) (by rw [List.length_map]; omega)
    have e : Roll.tms (l0.map lysimeterref4_Rising.mk) = l0 := by unfold Roll.tms; rw [List.map_map]; exact List.map_id l0
    have hk := hK K (Nat.le_refl _)
    rw [e, List.length_map] at hk
    exact Roll.lysimeterref4_Rising.calls K A0 c0 l0 _ w hr0 hc0 hk
  · rw [if_neg c] at h; cases h
def lysimeterref16_Times.to (x : S41) : Roll.S41 := ⟨x.f0, x.f1⟩
def lysimeterref16_Times.f (l0 : List (S41)) : Option (List Int) := if l0.length ≤ 100000 then some (l0.map (·.f0)) else none
theorem lysimeterref16_Times.calls (A0 : Option Addr) (c0 : Nat) (l0 : List (S41)) (r : List Int) (w : World) (hr0 : Kd.C k41 w A0 l0.length l0) (hc0 : l0.length ≤ c0) (h : lysimeterref16_Times.f l0 = some r) :
    Calls Try.prog 41 #[.slice A0 l0.length c0] w fun e w' => ∃ v0_ : Value, e = .returned (v0_) ∧ Kd.R (Kd.int .i64) 3 w' w.heap.size (fun _ => True) v0_ r ∧ Below w.heap.size w w' := by
  unfold lysimeterref16_Times.f at h
  by_cases c : l0.length ≤ 100000
  · rw [if_pos c] at h
    obtain rfl := Option.some.inj h
    have hC : Kd.C Roll.k41 w A0 (l0.map lysimeterref16_Times.to).length (l0.map lysimeterref16_Times.to) := by
      rw [List.length_map]
      exact C_map (f' := fun x : Roll.S41 => (x.f0, x.f1)) (g := lysimeterref16_Times.to) (fun x => rfl) hr0
    obtain ⟨K, hK⟩ := Roll.times_ev (l0.map lysimeterref16_Times.to) (by rw [List.length_map]; omega)
    have e : Roll.tms (l0.map lysimeterref16_Times.to) = l0.map (·.f0) := by unfold Roll.tms; rw [List.map_map]; rfl
    have R := Roll.lysimeterref16_Times.calls K A0 c0 (l0.map lysimeterref16_Times.to) _ w hC (by rw [List.length_map]; exact hc0) (hK K (Nat.le_refl _))
    rwa [List.length_map, e] at R
  · rw [if_neg c] at h; cases h
def lysimeterref16_Join.flat (x : Roll.S52) : Int × Int × Int × Int × Int × Int := (x.f0, x.f1, x.f2, x.f3, x.f4, x.f5)
def lysimeterref16_Join.f (a0_0 : Int) (a0_1 : Int) (a0_2 : Int) (a0_3 : Int) (a0_4 : Int) (a0_5 : Int) (a1_0 : Int) (a1_1 : Int) (a1_2 : Int) (a1_3 : Int) (a1_4 : Int) (a1_5 : Int) : Option (Int × Int × Int × Int × Int × Int) := if Roll.InB a0_2 && Roll.InB a1_2 then some (lysimeterref16_Join.flat (Roll.rjoinS ⟨a0_0, a0_1, a0_2, a0_3, a0_4, a0_5⟩ ⟨a1_0, a1_1, a1_2, a1_3, a1_4, a1_5⟩)) else none
theorem lysimeterref16_Join.calls (a0_0 : Int) (a0_1 : Int) (a0_2 : Int) (a0_3 : Int) (a0_4 : Int) (a0_5 : Int) (a1_0 : Int) (a1_1 : Int) (a1_2 : Int) (a1_3 : Int) (a1_4 : Int) (a1_5 : Int) (r1 : Int) (r2 : Int) (r3 : Int) (r4 : Int) (r5 : Int) (r6 : Int) (w : World) (h : lysimeterref16_Join.f a0_0 a0_1 a0_2 a0_3 a0_4 a0_5 a1_0 a1_1 a1_2 a1_3 a1_4 a1_5 = some (r1, r2, r3, r4, r5, r6)) :
    Calls Try.prog 47 #[.agg #[.int .i64 a0_0, .int .i64 a0_1, .int .i64 a0_2, .int .i64 a0_3, .int .i64 a0_4, .int .i64 a0_5], .agg #[.int .i64 a1_0, .int .i64 a1_1, .int .i64 a1_2, .int .i64 a1_3, .int .i64 a1_4, .int .i64 a1_5]] w fun e w' => e = .returned (.agg #[.int .i64 r1, .int .i64 r2, .int .i64 r3, .int .i64 r4, .int .i64 r5, .int .i64 r6]) ∧ Below w.heap.size w w' := by
  unfold lysimeterref16_Join.f at h
  by_cases c : (Roll.InB a0_2 && Roll.InB a1_2) = true
  · rw [if_pos c] at h
    rw [Bool.and_eq_true, Roll.inb_iff, Roll.inb_iff] at c
    have R := Rj.rjoin_calls a0_0 a0_1 a0_2 a0_3 a0_4 a0_5 a1_0 a1_1 a1_2 a1_3 a1_4 a1_5 c.1 c.2 w
    unfold lysimeterref16_Join.flat at h
    simp only [Option.some.injEq, Prod.mk.injEq] at h
    obtain ⟨rfl, rfl, rfl, rfl, rfl, rfl⟩ := h
    exact R
  · rw [if_neg c] at h; cases h
end Go.Proofs.Ytdglifoakdkheaa.Rk
end
