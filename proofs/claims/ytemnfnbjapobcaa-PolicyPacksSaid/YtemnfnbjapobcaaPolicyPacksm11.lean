-- Laid together by wip/shake.py out of: RdPol Packs1 Ppx0
import Derived.Test.YtemnfnbjapobcaaPolicyPacksm10
import Derived.Deep.DeepCutAuto
import Derived.Test.YtemnfnbjapobcaaProg
import Derived.Below
import Derived.Deep.Draws
import Derived.Deep.AppendLies
import Derived.Maps.AppendAt
import Derived.OwnWalk
import Derived.Laws.BytesArg
import Derived.Laws.MakeOwn
import Derived.Laws.OwnMore
import Derived.Deep.OwnRows
import Derived.Tactics
import Derived.Lib.ConvBytes
import Derived.Laws.Slices
import Derived.WalkKit
import Derived.KernelRfl
import Derived.RowKit3
import Derived.Deep.LoopGhost
import Derived.Deep.QuietTactic
import Derived.BigQuiet
import Derived.WideLaws
import Derived.Deep.CutBlock
import Derived.Deep.RegionHeld3
import Derived.Laws.Rows
import Derived.Lib.AppendStr
import Derived.ArgAppend
import Derived.Laws.IdiomCopy
import Derived.OrdersHeld
import Derived.Laws.BitsLemmas
import Derived.RowKit
section
namespace Go.Proofs.Ytemnfnbjapobcaa.VS
open Go.RowKit Go.Proofs.YtemnfnbjapobcaaW.PrintWords Go.Proofs.YtemnfnbjapobcaaW.PrintLast Go.Proofs.YtemnfnbjapobcaaW.PrintMore Go.Proofs.Ytemnfnbjapobcaa.Pk
set_option linter.unusedVariables false
set_option linter.unusedSimpArgs false
theorem rget_calls (l : List Int) (hb : ∀ x ∈ l, 0 ≤ x ∧ x < 256) (hl : l.length ≤ 1000000) (A : Option Addr) (c : Nat) (w : World) (hr : Kd.C (Kd.int .u8) w A l.length l) (hc : l.length ≤ c) : Calls Try.prog 99 #[.slice A l.length c] w fun e w' => e = .returned (.tuple #[.int .i64 (getS l).1, .int .i64 (getS l).2.1, .int .i64 (getS l).2.2]) ∧ Drawn0 w w' := by
  obtain ⟨k, hk⟩ := (rgetSigned_ev l hb hl).rounds
  exact lysimeterref4_GetSigned.calls k A c l _ _ _ w hr hc hk
theorem rinfo3 : (Try.prog.info? 3).map (fun i => (i.zero, i.size, i.bytes)) = some (some (.int .i64 0), 1, 8) := by kernel_rfl
theorem cut_slice (A : Option Addr) (n c o : Nat) (ho : o ≤ n) (hc : n ≤ c) (W : World) : (Instr.slice 88 (.slice A n c) (some (.int .i64 (o : Int))) none none).run Try.prog W = .ok (.slice (if c = o then A else A.map (·.add o)) (n - o) (c - o)) W := by
  go_simp
theorem rd_cell {W : World} {ad : Addr} {n : Nat} {xs : List Int} (h : Kd.C (Kd.int .i64) W (some ad) n xs) (j : Nat) (hj : j < n) : W.cell? (ad.add j) = some (.int .i64 (xs.getD j 0)) := by
  obtain ⟨ad', e, hc⟩ := Kd.at_int h (j : Int) (by omega) (by omega)
  obtain rfl := Option.some.inj e
  rw [Int.toNat_natCast] at hc
  exact hc
def RdAt (s : Nat) (W : World) : Prop := W.heap[s]? = some (.cells (cells8 []) 65 (0, 0))
theorem RdAt.below {s : Nat} {W W' : World} (h : RdAt s W) (hb : Below W.heap.size W W') : RdAt s W' := blk_below h hb
theorem od_bounds {o d N : Nat} (h : o + d ≤ N) (hN : N ≤ 1000000) : (o : Int) ≤ 1000000 ∧ (d : Int) ≤ 1000000 := by omega
theorem unpT_succ (m : Nat) (l : List Int) : unpT (m + 1) l = if (getS l).2.2 = 0 then (unpT m (l.drop (getS l).2.1.toNat)).map (fun t => ((getS l).1 :: t.1, t.2)) else none := rfl
theorem unp_more (m : Nat) (b l vs : List Int) (h0 : (getS l).2.2 = 0) (h : unpT 8 b = (unpT (m + 1) l).map (fun t => (vs ++ t.1, t.2))) : unpT 8 b = (unpT m (l.drop (getS l).2.1.toNat)).map (fun t => (vs ++ [(getS l).1] ++ t.1, t.2)) := by
  rw [h, unpT_succ, if_pos h0]
  cases unpT m (l.drop (getS l).2.1.toNat) <;> simp
theorem unp_none (m : Nat) (b l vs : List Int) (h0 : ¬ (getS l).2.2 = 0) (h : unpT 8 b = (unpT (m + 1) l).map (fun t => (vs ++ t.1, t.2))) : readS b = ([0, 0, 0, 0, 0, 0, 0, 0], 5) := by
  rw [unpT_succ m l, if_neg h0] at h
  unfold readS
  rw [h]
  rfl
theorem unp_end (b l vs : List Int) (h : unpT 8 b = (unpT 0 l).map (fun t => (vs ++ t.1, t.2))) : readS b = if l = [] then (vs, 0) else ([0, 0, 0, 0, 0, 0, 0, 0], 5) := by
  have e : unpT 8 b = some (vs, l) := by rw [h]; simp [unpT]
  unfold readS
  rw [e]
  cases l <;> rfl
set_option maxRecDepth 100000 in
set_option maxHeartbeats 8000000 in
theorem rread_calls (b : List Int) (hb : ∀ x ∈ b, 0 ≤ x ∧ x < 256) (hl : b.length ≤ 1000000) (A : Option Addr) (c : Nat) (w : World) (hr : Kd.C (Kd.int .u8) w A b.length b) (hc : b.length ≤ c) :
    Calls Try.prog 60 #[.slice A b.length c] w fun e w' => e = .returned (.tuple #[agg8 (readS b).1, .int .i64 (readS b).2]) ∧ Below w.heap.size w w' := by
  have HR := Aside0.mk hr
  have HC := Aside0.mk (And.intro hc (And.intro hl hb))
  obtain ⟨N, hN⟩ : ∃ N, b.length = N := ⟨_, rfl⟩
  have HN := Aside0.mk hN
  obtain ⟨RS, hRS⟩ : ∃ RS, readS b = RS := ⟨_, rfl⟩
  rw [hRS]
  have HRS := Aside0.mk hRS
  have E0 : Aside0 (RdAt w.heap.size (w.alloc (.cells #[.int .i64 0, .int .i64 0, .int .i64 0, .int .i64 0, .int .i64 0, .int .i64 0, .int .i64 0, .int .i64 0] 65))) := ⟨blk_new w _⟩
  have HB0 : Aside0 (Below w.heap.size w (w.alloc (.cells #[.int .i64 0, .int .i64 0, .int .i64 0, .int .i64 0, .int .i64 0, .int .i64 0, .int .i64 0, .int .i64 0] 65))) := ⟨below_alloc (Below.refl _ _) _⟩
  have hN6 : N ≤ 1000000 := by omega
  rw [hN]
  clear hr hc hl hb hN hRS
  go_enter Try.func60, Try.ntmps60
  obtain ⟨W0, hW0⟩ : ∃ W0, w.alloc (.cells #[.int .i64 0, .int .i64 0, .int .i64 0, .int .i64 0, .int .i64 0, .int .i64 0, .int .i64 0, .int .i64 0] 65) = W0 := ⟨_, rfl⟩
  rw [hW0] at E0 HB0
  go_wp2
  try rw [hW0]
  clear hW0
  go_loopg [4, 5, 6] 9 (fun kq v4 v5 v6 W' => ∃ (i o : Nat) (vs : List Int), v6 = .int .i64 (i : Int) ∧ v5 = .int .i64 (o : Int) ∧ Aside0 (kq + i = 9 ∧ i ≤ 8 ∧ vs.length = i ∧ o ≤ N) ∧ Aside0 (Kd.R (Kd.int .i64) 3 W' W0.heap.size (fun _ => True) v4 vs) ∧ Aside0 (unpT 8 b = (unpT (8 - i) (b.drop o)).map (fun t => (vs ++ t.1, t.2))) ∧ Aside0 (Below W0.heap.size W0 W'))
  case atStart => exact ⟨0, 0, [], rfl, rfl, ⟨rfl, Nat.zero_le _, rfl, Nat.zero_le _⟩, ⟨Kd.R_nil _ _ _ _ _⟩, ⟨by show unpT 8 b = (unpT 8 b).map _; cases unpT 8 b <;> rfl⟩, ⟨Below.refl _ _⟩⟩
  case round =>
    obtain ⟨i, o, vs, rfl, rfl, HK, HO, HU, HB⟩ := hrel
    have HBW := Aside0.mk (HB0.out.trans (HB.out.mono HB0.out.size))
    have EW := Aside0.mk (RdAt.below E0.out HB.out)
    by_cases h : i < 8
    · have c1 : decide ((i : Int) < 8) = true := decide_eq_true (by omega)
      obtain ⟨m, hm⟩ : ∃ m, 8 - i = m + 1 := ⟨7 - i, by omega⟩
      have ho := HK.out.2.2.2
      have hcN : N ≤ c := by have := HC.out.1; rw [HN.out] at this; exact this
      have hsl := fun W => cut_slice A N c o ho hcN W
      have hC := Kd.C_drop (c := c) HR.out (by rw [HN.out]; exact ho) (by rw [HN.out]; exact hcN)
      rw [show o * (Kd.int .u8).sz = o from Nat.mul_one o] at hC
      have hU := HU.out
      rw [hm] at hU
      have hbl : ∀ x ∈ b.drop o, 0 ≤ x ∧ x < 256 := fun x hx => HC.out.2.2 x (List.mem_of_mem_drop hx)
      obtain ⟨l, hl⟩ : ∃ l, b.drop o = l := ⟨_, rfl⟩
      have hll : l.length = N - o := by rw [← hl, List.length_drop, HN.out]
      obtain ⟨A5, hA5⟩ : ∃ A5, (if c = o then A else A.map (·.add o)) = A5 := ⟨_, rfl⟩
      rw [hl] at hC hU hbl
      rw [hA5] at hC
      have hsl2 : ∀ W, (Instr.slice 88 (.slice A N c) (some (.int .i64 (o : Int))) none none).run Try.prog W = .ok (.slice A5 l.length (c - o)) W := fun W => by rw [hll, ← hA5]; exact hsl W
      have KG0 := fun W (hW : Below w.heap.size w W) => rget_calls l hbl (by omega) A5 (c - o) W (Kd.C_below hC hW) (by omega)
      have hH8 := HK.out.2.1
      obtain ⟨r, hg⟩ : ∃ r, getS l = r := ⟨_, rfl⟩
      by_cases h0 : (getS l).2.2 = 0
      · obtain ⟨g1, g2, g3, g4⟩ := getS_ok hbl h0
        clear g3 g4
        have hU2 := unp_more m b l vs h0 hU
        rw [hg] at h0 g1 g2 hU2 KG0
        obtain ⟨r1, r2, r3⟩ := r
        dsimp only at h0 g1 g2 hU2 KG0
        subst h0
        obtain ⟨d, rfl⟩ : ∃ d : Nat, r2 = (d : Int) := ⟨r2.toNat, by omega⟩
        rw [Int.toNat_natCast, ← hl, List.drop_drop] at hU2
        have KG := Aside0.mk KG0
        have HU2 : Aside0 (unpT 8 b = (unpT (8 - (i + 1)) (b.drop (o + d))).map (fun t => (vs ++ [r1] ++ t.1, t.2))) := ⟨by rw [show 8 - (i + 1) = m by omega]; exact hU2⟩
        have H8 := Aside0.mk (And.intro h (show o + d ≤ N by omega))
        have hvs := HK.out.2.2.1
        have HV : Aside0 ((vs.length + 1) * 8 ≤ 140737488355328) := ⟨by omega⟩
        have c5 : wrap64 ((i : Int) + 1) = (i : Int) + 1 := wrap64_id (by omega) (by omega)
        obtain ⟨ho6, hd6⟩ := od_bounds H8.out.2 hN6
        have hi8 : (i : Int) < 8 := Int.ofNat_lt.mpr h
        clear hsl hC hU hbl hl hll hA5 KG0 hg g1 g2 hU2 hm hvs ho hcN
        go_upto_region 9 with (go_at_call 99; (with_reducible refine (KG.out _ HBW.out).mono ?_); rintro e w3 ⟨rfl, hb⟩; obtain ⟨nd, rfl⟩ := hb.out; clear hsl2)
        go_wp2_with (at_builtin; refine Kd.R_append (Kd.int .i64) (w0 := W0) W0.heap.size rfl (.tmp 28) (.tmp 30) 23 3 (.int .i64 0) 8 rfl Try.underlying23 rinfo3 rfl (by decide) (by omega) _ vs r1 [.int .i64 r1] (fun _ => True) (fun _ => False) rfl rfl ?aP (fun _ hk => hk.elim) ?aF ?aO ?aB ?aS ?aL ?_; (case aP => exact rfl); (case aF => exact (fun _ _ => trivial)); (case aO => exact (by (with_reducible repeat (first | apply Kd.R_alloc | apply Kd.R_drewN | apply Kd.R_drew)); exact HO.out)); (case aB => exact pw_below_drewN HB.out _); (case aS => exact (pw_below_drewN HB.out _).size); (case aL => exact HV.out); intro v4 w5 ho5 hb5 _ _; have HO5 := Aside0.mk ho5; have HB5 := Aside0.mk hb5; clear ho5 hb5)
        cases gk with
        | zero => exact absurd HK.out.1 (by have := H8.out.1; omega)
        | succ k1 =>
          go_roundg k1
          case measure => omega
          case rel => exact ⟨i + 1, o + d, vs ++ [r1], by go_num, by go_num, ⟨by have := HK.out; omega, by have := H8.out.1; omega, by rw [List.length_append, HK.out.2.2.1]; rfl, H8.out.2⟩, HO5, HU2, HB5⟩
      · have hS0 := unp_none m b l vs h0 hU
        rw [hg] at h0 KG0
        obtain ⟨r1, r2, r3⟩ := r
        dsimp only at h0 KG0
        have KG := Aside0.mk KG0
        have c2 : (r3 != 0) = true := by simp [h0]
        have c2' : (r3 = 0) = False := eq_false h0
        have HZ : Aside0 (RS = ([0, 0, 0, 0, 0, 0, 0, 0], 5)) := ⟨by rw [← HRS.out]; exact hS0⟩
        clear hsl hC hU hbl hl hll hA5 KG0 hg hm ho hcN h0 hS0 h
        go_upto_region 8 with (go_at_call 99; (with_reducible refine (KG.out _ HBW.out).mono ?_); rintro e w3 ⟨rfl, hb⟩; obtain ⟨nd, rfl⟩ := hb.out; clear hsl2 hb)
        obtain ⟨w3, hw3⟩ : ∃ w3, wr.drewN nd = w3 := ⟨_, rfl⟩
        have hb3 : Below w.heap.size w w3 := hw3 ▸ pw_below_drewN HBW.out nd
        have hE3 : RdAt w.heap.size w3 := hw3 ▸ EW.out.below (pw_below_drewN (Below.refl _ _) nd)
        rw [hw3]
        have HB3 := Aside0.mk hb3
        have HE3 := Aside0.mk hE3
        clear hw3 hb3 hE3 c2 c2'
        have z0 := blk_cell HE3.out 0
        have z1 := blk_cell HE3.out 1
        have z2 := blk_cell HE3.out 2
        have z3 := blk_cell HE3.out 3
        have z4 := blk_cell HE3.out 4
        have z5 := blk_cell HE3.out 5
        have z6 := blk_cell HE3.out 6
        have z7 := blk_cell HE3.out 7
        simp only [cells8, List.nil_append, List.length_nil, Nat.sub_zero, List.replicate, List.map_cons, List.map_nil, List.getElem?_toArray, List.getElem?_cons_zero, List.getElem?_cons_succ] at z0 z1 z2 z3 z4 z5 z6 z7
        have f0 := blk_frozen HE3.out 0
        have f1 := blk_frozen HE3.out 1
        have f2 := blk_frozen HE3.out 2
        have f3 := blk_frozen HE3.out 3
        have f4 := blk_frozen HE3.out 4
        have f5 := blk_frozen HE3.out 5
        have f6 := blk_frozen HE3.out 6
        have f7 := blk_frozen HE3.out 7
        go_wp2
        refine bodyPost_ret (v := .tuple #[agg8 [0, 0, 0, 0, 0, 0, 0, 0], .int .i64 5]) (by simp [results, Try.results60, go_sem, agg8, z0, z1, z2, z3, z4, z5, z6, z7]) rfl ?_
        exact ⟨by rw [HZ.out], ((((((((HB3.out).setCell (Nat.le_refl _) _).setCell (Nat.le_refl _) _).setCell (Nat.le_refl _) _).setCell (Nat.le_refl _) _).setCell (Nat.le_refl _) _).setCell (Nat.le_refl _) _).setCell (Nat.le_refl _) _).setCell (Nat.le_refl _) _⟩
    · obtain rfl : i = 8 := by have := HK.out; omega
      have hU := unp_end b (b.drop o) vs HU.out
      have hv8 := HK.out.2.2.1
      have hoN := HK.out.2.2.2
      obtain ⟨a0, a1, a2, a3, a4, a5, a6, a7, rfl⟩ := list8 vs hv8
      rw [show ((8 : Nat) : Int) = 8 from rfl]
      by_cases e : o = N
      · have hz : b.drop o = [] := List.drop_of_length_le (by rw [HN.out]; omega)
        rw [if_pos hz, HRS.out] at hU
        have HZ := Aside0.mk hU
        obtain ⟨B, cB, hv, hcB, hC⟩ := Kd.R_reads HO.out
        rw [show [a0, a1, a2, a3, a4, a5, a6, a7].length = 8 from rfl] at hv hcB hC
        subst hv
        obtain ⟨ad, hB, _⟩ := Kd.at_int hC 0 (by decide) (by decide)
        subst hB
        have q1 : ((o : Int) != (N : Int)) = false := by rw [e]; simp
        have q2 : (o != N) = false := by rw [e]; simp
        have q3 : (o == N) = true := by rw [e]; simp
        have HC8 := Aside0.mk hC
        clear hz hU hv8 hoN e hC HO h
        go_upto_region 13 with (fail)
        refine start_ (n := 27) (S := fun w' => Kd.C (Kd.int .i64) w' (some ad) 8 [a0, a1, a2, a3, a4, a5, a6, a7]) (ds := [25]) #[false, false, false, false, false, false, false, false, false, false, false, false, false, false, false, false, false, false, false, false, false, false, false, false, false, false, false] (by kernel_rfl) rfl rfl (Kd.C_below HC8.out (below_drew (Below.refl _ _))) (fun hHeld => ?_)
        have hE4 : RdAt w.heap.size wr.drew := EW.out.below (below_drew (Below.refl _ _))
        have hb4 : Below w.heap.size w wr.drew := below_drew HBW.out
        obtain ⟨V4, hV4⟩ : ∃ V, wr.drew = V := ⟨_, rfl⟩
        rw [hV4] at hE4 hb4 hHeld ⊢
        have HE4 := Aside0.mk hE4
        have Hb4 := Aside0.mk hb4
        clear hV4 hE4 hb4
        refine pure_ (i := 0) (N := some 37) (v := ?_) (a' := ?_) #[true, false, false, false, false, false, false, false, false, false, false, false, false, false, false, false, false, false, false, false, false, false, false, false, false, false, false] rfl rfl (by kernel_rfl) (fun _ _ _ h => h) (Or.inl ⟨by rfl, ?_⟩) ?_ ?_
        rotate_left
        · intro w'
          go_simp
          with_reducible rfl
        rotate_left
        · simp only [Act.put, List.setIfInBounds_toArray, List.set_cons_zero, List.set_cons_succ, i64_w, i32_w]
          rfl
        refine pure_ (i := 1) (N := some 38) (v := ?_) (a' := ?_) #[true, true, false, false, false, false, false, false, false, false, false, false, false, false, false, false, false, false, false, false, false, false, false, false, false, false, false] rfl rfl (by kernel_rfl) (fun _ _ _ h => h) (Or.inl ⟨by rfl, ?_⟩) ?_ ?_
        rotate_left
        · intro w'
          go_simp
          with_reducible rfl
        rotate_left
        · simp only [Act.put, List.setIfInBounds_toArray, List.set_cons_zero, List.set_cons_succ, i64_w, i32_w]
          rfl
        refine take_ (i := 2) (N := some 39) (v := ?_) (a' := ?_) #[true, true, true, false, false, false, false, false, false, false, false, false, false, false, false, false, false, false, false, false, false, false, false, false, false, false, false] rfl rfl (by kernel_rfl) (fun _ _ _ h => h) (Or.inl ⟨by rfl, ?_⟩) hHeld ?_ ?_
        rotate_left
        · intro w' hS
          have s0 : w'.cell? ad = some (.int .i64 a0) := rd_cell hS 0 (by decide)
          clear hS
          go_simp
          with_reducible rfl
        rotate_left
        · simp only [Act.put, List.setIfInBounds_toArray, List.set_cons_zero, List.set_cons_succ, i64_w, i32_w]
          rfl
        refine pure_ (i := 3) (N := some 40) (v := ?_) (a' := ?_) #[true, true, true, true, false, false, false, false, false, false, false, false, false, false, false, false, false, false, false, false, false, false, false, false, false, false, false] rfl rfl (by kernel_rfl) (fun _ _ _ h => h) (Or.inl ⟨by rfl, ?_⟩) ?_ ?_
        rotate_left
        · intro w'
          go_simp
          with_reducible rfl
        rotate_left
        · simp only [Act.put, List.setIfInBounds_toArray, List.set_cons_zero, List.set_cons_succ, i64_w, i32_w]
          rfl
        refine pure_ (i := 4) (N := some 41) (v := ?_) (a' := ?_) #[true, true, true, true, true, false, false, false, false, false, false, false, false, false, false, false, false, false, false, false, false, false, false, false, false, false, false] rfl rfl (by kernel_rfl) (fun _ _ _ h => h) (Or.inl ⟨by rfl, ?_⟩) ?_ ?_
        rotate_left
        · intro w'
          go_simp
          with_reducible rfl
        rotate_left
        · simp only [Act.put, List.setIfInBounds_toArray, List.set_cons_zero, List.set_cons_succ, i64_w, i32_w]
          rfl
        refine take_ (i := 5) (N := some 42) (v := ?_) (a' := ?_) #[true, true, true, true, true, true, false, false, false, false, false, false, false, false, false, false, false, false, false, false, false, false, false, false, false, false, false] rfl rfl (by kernel_rfl) (fun _ _ _ h => h) (Or.inl ⟨by rfl, ?_⟩) hHeld ?_ ?_
        rotate_left
        · intro w' hS
          have s0 : w'.cell? ⟨ad.block, ad.off + 1, none⟩ = some (.int .i64 a1) := rd_cell hS 1 (by decide)
          clear hS
          go_simp
          with_reducible rfl
        rotate_left
        · simp only [Act.put, List.setIfInBounds_toArray, List.set_cons_zero, List.set_cons_succ, i64_w, i32_w]
          rfl
        refine pure_ (i := 6) (N := some 43) (v := ?_) (a' := ?_) #[true, true, true, true, true, true, true, false, false, false, false, false, false, false, false, false, false, false, false, false, false, false, false, false, false, false, false] rfl rfl (by kernel_rfl) (fun _ _ _ h => h) (Or.inl ⟨by rfl, ?_⟩) ?_ ?_
        rotate_left
        · intro w'
          go_simp
          with_reducible rfl
        rotate_left
        · simp only [Act.put, List.setIfInBounds_toArray, List.set_cons_zero, List.set_cons_succ, i64_w, i32_w]
          rfl
        refine pure_ (i := 7) (N := some 44) (v := ?_) (a' := ?_) #[true, true, true, true, true, true, true, true, false, false, false, false, false, false, false, false, false, false, false, false, false, false, false, false, false, false, false] rfl rfl (by kernel_rfl) (fun _ _ _ h => h) (Or.inl ⟨by rfl, ?_⟩) ?_ ?_
        rotate_left
        · intro w'
          go_simp
          with_reducible rfl
        rotate_left
        · simp only [Act.put, List.setIfInBounds_toArray, List.set_cons_zero, List.set_cons_succ, i64_w, i32_w]
          rfl
        refine take_ (i := 8) (N := some 45) (v := ?_) (a' := ?_) #[true, true, true, true, true, true, true, true, true, false, false, false, false, false, false, false, false, false, false, false, false, false, false, false, false, false, false] rfl rfl (by kernel_rfl) (fun _ _ _ h => h) (Or.inl ⟨by rfl, ?_⟩) hHeld ?_ ?_
        rotate_left
        · intro w' hS
          have s0 : w'.cell? ⟨ad.block, ad.off + 2, none⟩ = some (.int .i64 a2) := rd_cell hS 2 (by decide)
          clear hS
          go_simp
          with_reducible rfl
        rotate_left
        · simp only [Act.put, List.setIfInBounds_toArray, List.set_cons_zero, List.set_cons_succ, i64_w, i32_w]
          rfl
        refine pure_ (i := 9) (N := some 46) (v := ?_) (a' := ?_) #[true, true, true, true, true, true, true, true, true, true, false, false, false, false, false, false, false, false, false, false, false, false, false, false, false, false, false] rfl rfl (by kernel_rfl) (fun _ _ _ h => h) (Or.inl ⟨by rfl, ?_⟩) ?_ ?_
        rotate_left
        · intro w'
          go_simp
          with_reducible rfl
        rotate_left
        · simp only [Act.put, List.setIfInBounds_toArray, List.set_cons_zero, List.set_cons_succ, i64_w, i32_w]
          rfl
        refine pure_ (i := 10) (N := some 47) (v := ?_) (a' := ?_) #[true, true, true, true, true, true, true, true, true, true, true, false, false, false, false, false, false, false, false, false, false, false, false, false, false, false, false] rfl rfl (by kernel_rfl) (fun _ _ _ h => h) (Or.inl ⟨by rfl, ?_⟩) ?_ ?_
        rotate_left
        · intro w'
          go_simp
          with_reducible rfl
        rotate_left
        · simp only [Act.put, List.setIfInBounds_toArray, List.set_cons_zero, List.set_cons_succ, i64_w, i32_w]
          rfl
        refine take_ (i := 11) (N := some 48) (v := ?_) (a' := ?_) #[true, true, true, true, true, true, true, true, true, true, true, true, false, false, false, false, false, false, false, false, false, false, false, false, false, false, false] rfl rfl (by kernel_rfl) (fun _ _ _ h => h) (Or.inl ⟨by rfl, ?_⟩) hHeld ?_ ?_
        rotate_left
        · intro w' hS
          have s0 : w'.cell? ⟨ad.block, ad.off + 3, none⟩ = some (.int .i64 a3) := rd_cell hS 3 (by decide)
          clear hS
          go_simp
          with_reducible rfl
        rotate_left
        · simp only [Act.put, List.setIfInBounds_toArray, List.set_cons_zero, List.set_cons_succ, i64_w, i32_w]
          rfl
        refine pure_ (i := 12) (N := some 49) (v := ?_) (a' := ?_) #[true, true, true, true, true, true, true, true, true, true, true, true, true, false, false, false, false, false, false, false, false, false, false, false, false, false, false] rfl rfl (by kernel_rfl) (fun _ _ _ h => h) (Or.inl ⟨by rfl, ?_⟩) ?_ ?_
        rotate_left
        · intro w'
          go_simp
          with_reducible rfl
        rotate_left
        · simp only [Act.put, List.setIfInBounds_toArray, List.set_cons_zero, List.set_cons_succ, i64_w, i32_w]
          rfl
        refine pure_ (i := 13) (N := some 50) (v := ?_) (a' := ?_) #[true, true, true, true, true, true, true, true, true, true, true, true, true, true, false, false, false, false, false, false, false, false, false, false, false, false, false] rfl rfl (by kernel_rfl) (fun _ _ _ h => h) (Or.inl ⟨by rfl, ?_⟩) ?_ ?_
        rotate_left
        · intro w'
          go_simp
          with_reducible rfl
        rotate_left
        · simp only [Act.put, List.setIfInBounds_toArray, List.set_cons_zero, List.set_cons_succ, i64_w, i32_w]
          rfl
        refine take_ (i := 14) (N := some 51) (v := ?_) (a' := ?_) #[true, true, true, true, true, true, true, true, true, true, true, true, true, true, true, false, false, false, false, false, false, false, false, false, false, false, false] rfl rfl (by kernel_rfl) (fun _ _ _ h => h) (Or.inl ⟨by rfl, ?_⟩) hHeld ?_ ?_
        rotate_left
        · intro w' hS
          have s0 : w'.cell? ⟨ad.block, ad.off + 4, none⟩ = some (.int .i64 a4) := rd_cell hS 4 (by decide)
          clear hS
          go_simp
          with_reducible rfl
        rotate_left
        · simp only [Act.put, List.setIfInBounds_toArray, List.set_cons_zero, List.set_cons_succ, i64_w, i32_w]
          rfl
        refine pure_ (i := 15) (N := some 52) (v := ?_) (a' := ?_) #[true, true, true, true, true, true, true, true, true, true, true, true, true, true, true, true, false, false, false, false, false, false, false, false, false, false, false] rfl rfl (by kernel_rfl) (fun _ _ _ h => h) (Or.inl ⟨by rfl, ?_⟩) ?_ ?_
        rotate_left
        · intro w'
          go_simp
          with_reducible rfl
        rotate_left
        · simp only [Act.put, List.setIfInBounds_toArray, List.set_cons_zero, List.set_cons_succ, i64_w, i32_w]
          rfl
        refine pure_ (i := 16) (N := some 53) (v := ?_) (a' := ?_) #[true, true, true, true, true, true, true, true, true, true, true, true, true, true, true, true, true, false, false, false, false, false, false, false, false, false, false] rfl rfl (by kernel_rfl) (fun _ _ _ h => h) (Or.inl ⟨by rfl, ?_⟩) ?_ ?_
        rotate_left
        · intro w'
          go_simp
          with_reducible rfl
        rotate_left
        · simp only [Act.put, List.setIfInBounds_toArray, List.set_cons_zero, List.set_cons_succ, i64_w, i32_w]
          rfl
        refine take_ (i := 17) (N := some 54) (v := ?_) (a' := ?_) #[true, true, true, true, true, true, true, true, true, true, true, true, true, true, true, true, true, true, false, false, false, false, false, false, false, false, false] rfl rfl (by kernel_rfl) (fun _ _ _ h => h) (Or.inl ⟨by rfl, ?_⟩) hHeld ?_ ?_
        rotate_left
        · intro w' hS
          have s0 : w'.cell? ⟨ad.block, ad.off + 5, none⟩ = some (.int .i64 a5) := rd_cell hS 5 (by decide)
          clear hS
          go_simp
          with_reducible rfl
        rotate_left
        · simp only [Act.put, List.setIfInBounds_toArray, List.set_cons_zero, List.set_cons_succ, i64_w, i32_w]
          rfl
        refine pure_ (i := 18) (N := some 55) (v := ?_) (a' := ?_) #[true, true, true, true, true, true, true, true, true, true, true, true, true, true, true, true, true, true, true, false, false, false, false, false, false, false, false] rfl rfl (by kernel_rfl) (fun _ _ _ h => h) (Or.inl ⟨by rfl, ?_⟩) ?_ ?_
        rotate_left
        · intro w'
          go_simp
          with_reducible rfl
        rotate_left
        · simp only [Act.put, List.setIfInBounds_toArray, List.set_cons_zero, List.set_cons_succ, i64_w, i32_w]
          rfl
        refine pure_ (i := 19) (N := some 56) (v := ?_) (a' := ?_) #[true, true, true, true, true, true, true, true, true, true, true, true, true, true, true, true, true, true, true, true, false, false, false, false, false, false, false] rfl rfl (by kernel_rfl) (fun _ _ _ h => h) (Or.inl ⟨by rfl, ?_⟩) ?_ ?_
        rotate_left
        · intro w'
          go_simp
          with_reducible rfl
        rotate_left
        · simp only [Act.put, List.setIfInBounds_toArray, List.set_cons_zero, List.set_cons_succ, i64_w, i32_w]
          rfl
        refine take_ (i := 20) (N := some 57) (v := ?_) (a' := ?_) #[true, true, true, true, true, true, true, true, true, true, true, true, true, true, true, true, true, true, true, true, true, false, false, false, false, false, false] rfl rfl (by kernel_rfl) (fun _ _ _ h => h) (Or.inl ⟨by rfl, ?_⟩) hHeld ?_ ?_
        rotate_left
        · intro w' hS
          have s0 : w'.cell? ⟨ad.block, ad.off + 6, none⟩ = some (.int .i64 a6) := rd_cell hS 6 (by decide)
          clear hS
          go_simp
          with_reducible rfl
        rotate_left
        · simp only [Act.put, List.setIfInBounds_toArray, List.set_cons_zero, List.set_cons_succ, i64_w, i32_w]
          rfl
        refine pure_ (i := 21) (N := some 58) (v := ?_) (a' := ?_) #[true, true, true, true, true, true, true, true, true, true, true, true, true, true, true, true, true, true, true, true, true, true, false, false, false, false, false] rfl rfl (by kernel_rfl) (fun _ _ _ h => h) (Or.inl ⟨by rfl, ?_⟩) ?_ ?_
        rotate_left
        · intro w'
          go_simp
          with_reducible rfl
        rotate_left
        · simp only [Act.put, List.setIfInBounds_toArray, List.set_cons_zero, List.set_cons_succ, i64_w, i32_w]
          rfl
        refine pure_ (i := 22) (N := some 59) (v := ?_) (a' := ?_) #[true, true, true, true, true, true, true, true, true, true, true, true, true, true, true, true, true, true, true, true, true, true, true, false, false, false, false] rfl rfl (by kernel_rfl) (fun _ _ _ h => h) (Or.inl ⟨by rfl, ?_⟩) ?_ ?_
        rotate_left
        · intro w'
          go_simp
          with_reducible rfl
        rotate_left
        · simp only [Act.put, List.setIfInBounds_toArray, List.set_cons_zero, List.set_cons_succ, i64_w, i32_w]
          rfl
        refine take_ (i := 23) (N := some 60) (v := ?_) (a' := ?_) #[true, true, true, true, true, true, true, true, true, true, true, true, true, true, true, true, true, true, true, true, true, true, true, true, false, false, false] rfl rfl (by kernel_rfl) (fun _ _ _ h => h) (Or.inl ⟨by rfl, ?_⟩) hHeld ?_ ?_
        rotate_left
        · intro w' hS
          have s0 : w'.cell? ⟨ad.block, ad.off + 7, none⟩ = some (.int .i64 a7) := rd_cell hS 7 (by decide)
          clear hS
          go_simp
          with_reducible rfl
        rotate_left
        · simp only [Act.put, List.setIfInBounds_toArray, List.set_cons_zero, List.set_cons_succ, i64_w, i32_w]
          rfl
        refine pure_ (i := 24) (N := some 61) (v := ?_) (a' := ?_) #[true, true, true, true, true, true, true, true, true, true, true, true, true, true, true, true, true, true, true, true, true, true, true, true, true, false, false] rfl rfl (by kernel_rfl) (fun _ _ _ h => h) (Or.inl ⟨by rfl, ?_⟩) ?_ ?_
        rotate_left
        · intro w'
          go_simp
          with_reducible rfl
        rotate_left
        · simp only [Act.put, List.setIfInBounds_toArray, List.set_cons_zero, List.set_cons_succ, i64_w, i32_w]
          rfl
        have z0 := blk_cell HE4.out 0
        have z1 := blk_cell HE4.out 1
        have z2 := blk_cell HE4.out 2
        have z3 := blk_cell HE4.out 3
        have z4 := blk_cell HE4.out 4
        have z5 := blk_cell HE4.out 5
        have z6 := blk_cell HE4.out 6
        have z7 := blk_cell HE4.out 7
        simp only [cells8, List.nil_append, List.length_nil, Nat.sub_zero, List.replicate, List.map_cons, List.map_nil, List.getElem?_toArray, List.getElem?_cons_zero, List.getElem?_cons_succ] at z0 z1 z2 z3 z4 z5 z6 z7
        have f0 := blk_frozen HE4.out 0
        have f1 := blk_frozen HE4.out 1
        have f2 := blk_frozen HE4.out 2
        have f3 := blk_frozen HE4.out 3
        have f4 := blk_frozen HE4.out 4
        have f5 := blk_frozen HE4.out 5
        have f6 := blk_frozen HE4.out 6
        have f7 := blk_frozen HE4.out 7
        refine last_ (i := 25) (N := none) #[true, true, true, true, true, true, true, true, true, true, true, true, true, true, true, true, true, true, true, true, true, true, true, true, true, true, false] rfl rfl (by kernel_rfl) (by decide) (fun K hK => ?_)
        have hE5 : V4.heap[w.heap.size]? = some (.cells #[.int .i64 0, .int .i64 0, .int .i64 0, .int .i64 0, .int .i64 0, .int .i64 0, .int .i64 0, .int .i64 0] 65 (0, 0)) := HE4.out
        refine skip_ (w1 := ((((((((V4).setCell ⟨w.heap.size, 0, none⟩ (.int .i64 a0)).setCell ⟨w.heap.size, 1, none⟩ (.int .i64 a1)).setCell ⟨w.heap.size, 2, none⟩ (.int .i64 a2)).setCell ⟨w.heap.size, 3, none⟩ (.int .i64 a3)).setCell ⟨w.heap.size, 4, none⟩ (.int .i64 a4)).setCell ⟨w.heap.size, 5, none⟩ (.int .i64 a5)).setCell ⟨w.heap.size, 6, none⟩ (.int .i64 a6)).setCell ⟨w.heap.size, 7, none⟩ (.int .i64 a7)) (by rfl) rfl (by go_simp) ?_
        refine hK.out _ _ ?_
        clear hK K
        refine pure_ (i := 26) (N := some 3) (v := ?_) (a' := ?_) #[true, true, true, true, true, true, true, true, true, true, true, true, true, true, true, true, true, true, true, true, true, true, true, true, true, true, true] rfl rfl (by kernel_rfl) (fun _ _ _ h => h) (Or.inl ⟨by rfl, ?_⟩) ?_ ?_
        rotate_left
        · intro w'
          go_simp
          with_reducible rfl
        rotate_left
        · simp only [Act.put, List.setIfInBounds_toArray, List.set_cons_zero, List.set_cons_succ, i64_w, i32_w]
          rfl
        refine done_ (by kernel_rfl) ?_
        have hF : (((((((((V4).setCell ⟨w.heap.size, 0, none⟩ (.int .i64 a0)).setCell ⟨w.heap.size, 1, none⟩ (.int .i64 a1)).setCell ⟨w.heap.size, 2, none⟩ (.int .i64 a2)).setCell ⟨w.heap.size, 3, none⟩ (.int .i64 a3)).setCell ⟨w.heap.size, 4, none⟩ (.int .i64 a4)).setCell ⟨w.heap.size, 5, none⟩ (.int .i64 a5)).setCell ⟨w.heap.size, 6, none⟩ (.int .i64 a6)).setCell ⟨w.heap.size, 7, none⟩ (.int .i64 a7)).heap[w.heap.size]? = some (.cells #[.int .i64 a0, .int .i64 a1, .int .i64 a2, .int .i64 a3, .int .i64 a4, .int .i64 a5, .int .i64 a6, .int .i64 a7] 65 (0, 0)) := blk_put (blk_put (blk_put (blk_put (blk_put (blk_put (blk_put (blk_put (hE5) 0 _ rfl) 1 _ rfl) 2 _ rfl) 3 _ rfl) 4 _ rfl) 5 _ rfl) 6 _ rfl) 7 _ rfl
        have hbF : Below w.heap.size w (((((((((V4).setCell ⟨w.heap.size, 0, none⟩ (.int .i64 a0)).setCell ⟨w.heap.size, 1, none⟩ (.int .i64 a1)).setCell ⟨w.heap.size, 2, none⟩ (.int .i64 a2)).setCell ⟨w.heap.size, 3, none⟩ (.int .i64 a3)).setCell ⟨w.heap.size, 4, none⟩ (.int .i64 a4)).setCell ⟨w.heap.size, 5, none⟩ (.int .i64 a5)).setCell ⟨w.heap.size, 6, none⟩ (.int .i64 a6)).setCell ⟨w.heap.size, 7, none⟩ (.int .i64 a7)) := ((((((((Hb4.out).setCell (Nat.le_refl _) _).setCell (Nat.le_refl _) _).setCell (Nat.le_refl _) _).setCell (Nat.le_refl _) _).setCell (Nat.le_refl _) _).setCell (Nat.le_refl _) _).setCell (Nat.le_refl _) _).setCell (Nat.le_refl _) _
        obtain ⟨V, hV⟩ : ∃ V, (((((((((V4).setCell ⟨w.heap.size, 0, none⟩ (.int .i64 a0)).setCell ⟨w.heap.size, 1, none⟩ (.int .i64 a1)).setCell ⟨w.heap.size, 2, none⟩ (.int .i64 a2)).setCell ⟨w.heap.size, 3, none⟩ (.int .i64 a3)).setCell ⟨w.heap.size, 4, none⟩ (.int .i64 a4)).setCell ⟨w.heap.size, 5, none⟩ (.int .i64 a5)).setCell ⟨w.heap.size, 6, none⟩ (.int .i64 a6)).setCell ⟨w.heap.size, 7, none⟩ (.int .i64 a7)) = V := ⟨_, rfl⟩
        rw [hV] at hF hbF ⊢
        have t0 : V.cell? ⟨w.heap.size, 0, none⟩ = some (.int .i64 a0) := (blk_cell hF 0).trans rfl
        have t1 : V.cell? ⟨w.heap.size, 1, none⟩ = some (.int .i64 a1) := (blk_cell hF 1).trans rfl
        have t2 : V.cell? ⟨w.heap.size, 2, none⟩ = some (.int .i64 a2) := (blk_cell hF 2).trans rfl
        have t3 : V.cell? ⟨w.heap.size, 3, none⟩ = some (.int .i64 a3) := (blk_cell hF 3).trans rfl
        have t4 : V.cell? ⟨w.heap.size, 4, none⟩ = some (.int .i64 a4) := (blk_cell hF 4).trans rfl
        have t5 : V.cell? ⟨w.heap.size, 5, none⟩ = some (.int .i64 a5) := (blk_cell hF 5).trans rfl
        have t6 : V.cell? ⟨w.heap.size, 6, none⟩ = some (.int .i64 a6) := (blk_cell hF 6).trans rfl
        have t7 : V.cell? ⟨w.heap.size, 7, none⟩ = some (.int .i64 a7) := (blk_cell hF 7).trans rfl
        clear hV
        go_wp2
        refine bodyPost_ret (v := .tuple #[agg8 [a0, a1, a2, a3, a4, a5, a6, a7], .int .i64 0]) (by simp [results, Try.results60, go_sem, agg8, t0, t1, t2, t3, t4, t5, t6, t7]) rfl ?_
        exact ⟨by rw [HZ.out], hbF⟩
      · have hz : ¬ b.drop o = [] := by intro z; have := congrArg List.length z; rw [List.length_drop, HN.out] at this; simp at this; omega
        rw [if_neg hz, HRS.out] at hU
        have HZ := Aside0.mk hU
        have q1 : ((o : Int) != (N : Int)) = true := by simpa using fun z => e (by omega)
        have q2 : (o != N) = true := by simpa using e
        have q3 : (o == N) = false := by simpa using e
        have HB3 := HBW
        have z0 := blk_cell EW.out 0
        have z1 := blk_cell EW.out 1
        have z2 := blk_cell EW.out 2
        have z3 := blk_cell EW.out 3
        have z4 := blk_cell EW.out 4
        have z5 := blk_cell EW.out 5
        have z6 := blk_cell EW.out 6
        have z7 := blk_cell EW.out 7
        simp only [cells8, List.nil_append, List.length_nil, Nat.sub_zero, List.replicate, List.map_cons, List.map_nil, List.getElem?_toArray, List.getElem?_cons_zero, List.getElem?_cons_succ] at z0 z1 z2 z3 z4 z5 z6 z7
        have f0 := blk_frozen EW.out 0
        have f1 := blk_frozen EW.out 1
        have f2 := blk_frozen EW.out 2
        have f3 := blk_frozen EW.out 3
        have f4 := blk_frozen EW.out 4
        have f5 := blk_frozen EW.out 5
        have f6 := blk_frozen EW.out 6
        have f7 := blk_frozen EW.out 7
        clear hz hU hv8 hoN e h
        go_wp2
        refine bodyPost_ret (v := .tuple #[agg8 [0, 0, 0, 0, 0, 0, 0, 0], .int .i64 5]) (by simp [results, Try.results60, go_sem, agg8, z0, z1, z2, z3, z4, z5, z6, z7]) rfl ?_
        exact ⟨by rw [HZ.out], ((((((((HB3.out).setCell (Nat.le_refl _) _).setCell (Nat.le_refl _) _).setCell (Nat.le_refl _) _).setCell (Nat.le_refl _) _).setCell (Nat.le_refl _) _).setCell (Nat.le_refl _) _).setCell (Nat.le_refl _) _).setCell (Nat.le_refl _) _⟩
end Go.Proofs.Ytemnfnbjapobcaa.VS
end
section
namespace Go.Proofs.Ytemnfnbjapobcaa.VS
open Go.RowKit Go.Proofs.YtemnfnbjapobcaaW.PrintWords Go.Proofs.YtemnfnbjapobcaaW.PrintLast Go.Proofs.YtemnfnbjapobcaaW.PrintMore Go.Proofs.Ytemnfnbjapobcaa.Pk
set_option linter.unusedVariables false
set_option linter.unusedSimpArgs false
abbrev AliveP : Prop := ∀ W : World, Calls Try.prog 47 #[] W fun e w' => e = .returned (.bool true) ∧ Below W.heap.size W w'
theorem numP_calls (x : Int) (w : World) : Calls Try.prog 51 #[.int .i64 x] w fun e w' => e = .returned (.int .i64 x) ∧ Drawn0 w w' := by
  go_enter Try.func51, Try.ntmps51
  go_wp2
  go_ret
  exact ⟨rfl, Drawn0.refl _⟩
def EnvP (s q7 q9 q11 : Nat) (a0 a1 a2 a3 a4 a5 a6 a7 x0 x1 x2 x3 x4 x5 x6 x7 : Int) (D : Option Addr) (F : List Int) (W : World) : Prop := W.heap[s]? = some (.cells #[.int .i64 a0, .int .i64 a1, .int .i64 a2, .int .i64 a3, .int .i64 a4, .int .i64 a5, .int .i64 a6, .int .i64 a7] 65 (0, 0)) ∧ W.heap[q7]? = some (.cells #[.int .i64 a0, .int .i64 a1, .int .i64 a2, .int .i64 a3, .int .i64 a4, .int .i64 a5, .int .i64 a6, .int .i64 a7] 65 (0, 0)) ∧ W.heap[q9]? = some (.cells #[.int .i64 x0, .int .i64 x1, .int .i64 x2, .int .i64 x3, .int .i64 x4, .int .i64 x5, .int .i64 x6, .int .i64 x7] 65 (0, 0)) ∧ W.heap[q11]? = some (.cells #[.int .i64 x0, .int .i64 x1, .int .i64 x2, .int .i64 x3, .int .i64 x4, .int .i64 x5, .int .i64 x6, .int .i64 x7] 65 (0, 0)) ∧ Kd.C (Kd.int .u8) W D F.length F
theorem EnvP.below {s q7 q9 q11 : Nat} {a0 a1 a2 a3 a4 a5 a6 a7 x0 x1 x2 x3 x4 x5 x6 x7 : Int} {D : Option Addr} {F : List Int} {W W' : World} (h : EnvP s q7 q9 q11 a0 a1 a2 a3 a4 a5 a6 a7 x0 x1 x2 x3 x4 x5 x6 x7 D F W) (hb : Below W.heap.size W W') : EnvP s q7 q9 q11 a0 a1 a2 a3 a4 a5 a6 a7 x0 x1 x2 x3 x4 x5 x6 x7 D F W' := ⟨blk_below h.1 hb, blk_below h.2.1 hb, blk_below h.2.2.1 hb, blk_below h.2.2.2.1 hb, Kd.C_below h.2.2.2.2 hb⟩
theorem pack_bytes (l : List Int) : ∀ x ∈ packS l, 0 ≤ x ∧ x < 256 := by
  intro x hx
  unfold packS at hx
  obtain ⟨y, hy, hx⟩ := List.mem_flatten.mp hx
  obtain ⟨z, _, rfl⟩ := List.mem_map.mp hy
  exact putN_byte _ x hx
theorem rpack_all (a0 a1 a2 a3 a4 a5 a6 a7 : Int) (h : ∀ x ∈ [a0, a1, a2, a3, a4, a5, a6, a7], I64 x) (w : World) : Calls Try.prog 61 #[.agg #[.int .i64 a0, .int .i64 a1, .int .i64 a2, .int .i64 a3, .int .i64 a4, .int .i64 a5, .int .i64 a6, .int .i64 a7]] w fun e w' => ∃ v0_ : Value, e = .returned (v0_) ∧ Kd.R (Kd.int .u8) 5 w' w.heap.size (fun _ => True) v0_ (packS [a0, a1, a2, a3, a4, a5, a6, a7]) ∧ Below w.heap.size w w' := by
  obtain ⟨k, hk⟩ := (rpack_ev [a0, a1, a2, a3, a4, a5, a6, a7] rfl h 8 0 rfl (by decide)).rounds
  exact lysimeterref21_PackPolicy.calls k a0 a1 a2 a3 a4 a5 a6 a7 _ w hk
set_option maxRecDepth 100000 in
set_option maxHeartbeats 8000000 in
theorem packs_long (HA : Aside0 AliveP) (a0 a1 a2 a3 a4 a5 a6 a7 : Int) (A : Option Addr) (c n : Nat) (hn : 1000 < n) (w : World) :
    Calls Try.prog 19 #[.agg #[.int .i64 a0, .int .i64 a1, .int .i64 a2, .int .i64 a3, .int .i64 a4, .int .i64 a5, .int .i64 a6, .int .i64 a7], .slice A n c] w fun e w' => e = .returned (.bool true) ∧ Below w.heap.size w w' := by
  have c1 : decide ((n : Int) > 1000) = true := decide_eq_true (by omega)
  have c2 : decide (1000 < n) = true := decide_eq_true hn
  have HB0 : Aside0 (Below w.heap.size w (w.alloc (.cells #[.int .i64 a0, .int .i64 a1, .int .i64 a2, .int .i64 a3, .int .i64 a4, .int .i64 a5, .int .i64 a6, .int .i64 a7] 65))) := ⟨below_alloc (Below.refl _ _) _⟩
  clear hn
  go_enter Try.func19, Try.ntmps19
  go_wp2_with (go_at_call 47; (with_reducible refine (HA.out _).mono ?_); rintro e w1 ⟨rfl, hb⟩; have HB1 := Aside0.mk (HB0.out.trans (hb.mono HB0.out.size)); clear hb)
  go_ret
  exact ⟨rfl, HB1.out⟩
set_option maxRecDepth 100000 in
set_option maxHeartbeats 8000000 in
theorem packs_short (HA : Aside0 AliveP) (a0 a1 a2 a3 a4 a5 a6 a7 : Int) (ha : ∀ x ∈ [a0, a1, a2, a3, a4, a5, a6, a7], I64 x) (b : List Int) (hb : ∀ x ∈ b, 0 ≤ x ∧ x < 256) (A : Option Addr) (c : Nat) (w : World) (hr : Kd.C (Kd.int .u8) w A b.length b) (hc : b.length ≤ c) (hn : b.length ≤ 1000) :
    Calls Try.prog 19 #[.agg #[.int .i64 a0, .int .i64 a1, .int .i64 a2, .int .i64 a3, .int .i64 a4, .int .i64 a5, .int .i64 a6, .int .i64 a7], .slice A b.length c] w fun e w' => e = .returned (.bool true) ∧ Below w.heap.size w w' := by
  have c1 : decide ((b.length : Int) > 1000) = false := decide_eq_false (by omega)
  have c2 : decide (1000 < b.length) = false := decide_eq_false (by omega)
  have HB0 : Aside0 (Below w.heap.size w (w.alloc (.cells #[.int .i64 a0, .int .i64 a1, .int .i64 a2, .int .i64 a3, .int .i64 a4, .int .i64 a5, .int .i64 a6, .int .i64 a7] 65))) := ⟨below_alloc (Below.refl _ _) _⟩
  have E0 : Aside0 ((w.alloc (.cells #[.int .i64 a0, .int .i64 a1, .int .i64 a2, .int .i64 a3, .int .i64 a4, .int .i64 a5, .int .i64 a6, .int .i64 a7] 65)).heap[w.heap.size]? = some (.cells #[.int .i64 a0, .int .i64 a1, .int .i64 a2, .int .i64 a3, .int .i64 a4, .int .i64 a5, .int .i64 a6, .int .i64 a7] 65 (0, 0))) := ⟨blk_new _ _⟩
  have hpl := pack_len [a0, a1, a2, a3, a4, a5, a6, a7] ha
  obtain ⟨F, hF⟩ : ∃ F, packS [a0, a1, a2, a3, a4, a5, a6, a7] = F := ⟨_, rfl⟩
  have hFb : ∀ x ∈ F, 0 ≤ x ∧ x < 256 := hF ▸ pack_bytes [a0, a1, a2, a3, a4, a5, a6, a7]
  have hrp := read_pack [a0, a1, a2, a3, a4, a5, a6, a7] rfl ha
  rw [hF] at hpl hrp
  have hFl : F.length ≤ 80 := hpl
  have KP := Aside0.mk (fun W => pack_all a0 a1 a2 a3 a4 a5 a6 a7 ha W)
  have KPP := Aside0.mk (fun W => rpack_all a0 a1 a2 a3 a4 a5 a6 a7 ha W)
  rw [hF] at KP KPP
  have KU1 : Aside0 (∀ (D : Option Addr) (dd : Nat) W, Kd.C (Kd.int .u8) W D F.length F → F.length ≤ dd → Calls Try.prog 59 #[.slice D F.length dd] W fun e w' => e = .returned (.tuple #[.agg #[.int .i64 a0, .int .i64 a1, .int .i64 a2, .int .i64 a3, .int .i64 a4, .int .i64 a5, .int .i64 a6, .int .i64 a7], .int .i64 0]) ∧ Below W.heap.size W w') := ⟨fun D dd W h1 h2 => by
    have := unpack_all F hFb (by omega) D dd W h1 h2
    rw [hrp] at this
    exact this⟩
  obtain ⟨X, hX⟩ : ∃ X, readS b = X := ⟨_, rfl⟩
  obtain ⟨x0, hx0⟩ : ∃ x, X.1.getD 0 0 = x := ⟨_, rfl⟩
  obtain ⟨x1, hx1⟩ : ∃ x, X.1.getD 1 0 = x := ⟨_, rfl⟩
  obtain ⟨x2, hx2⟩ : ∃ x, X.1.getD 2 0 = x := ⟨_, rfl⟩
  obtain ⟨x3, hx3⟩ : ∃ x, X.1.getD 3 0 = x := ⟨_, rfl⟩
  obtain ⟨x4, hx4⟩ : ∃ x, X.1.getD 4 0 = x := ⟨_, rfl⟩
  obtain ⟨x5, hx5⟩ : ∃ x, X.1.getD 5 0 = x := ⟨_, rfl⟩
  obtain ⟨x6, hx6⟩ : ∃ x, X.1.getD 6 0 = x := ⟨_, rfl⟩
  obtain ⟨x7, hx7⟩ : ∃ x, X.1.getD 7 0 = x := ⟨_, rfl⟩
  obtain ⟨er, her⟩ : ∃ er, X.2 = er := ⟨_, rfl⟩
  have hag : agg8 (readS b).1 = .agg #[.int .i64 x0, .int .i64 x1, .int .i64 x2, .int .i64 x3, .int .i64 x4, .int .i64 x5, .int .i64 x6, .int .i64 x7] := by rw [hX]; unfold agg8; rw [hx0, hx1, hx2, hx3, hx4, hx5, hx6, hx7]
  have her2 : (readS b).2 = er := by rw [hX]; exact her
  have HR := Aside0.mk hr
  have KU2 : Aside0 (∀ W, Below w.heap.size w W → Calls Try.prog 59 #[.slice A b.length c] W fun e w' => e = .returned (.tuple #[.agg #[.int .i64 x0, .int .i64 x1, .int .i64 x2, .int .i64 x3, .int .i64 x4, .int .i64 x5, .int .i64 x6, .int .i64 x7], .int .i64 er]) ∧ Below W.heap.size W w') := ⟨fun W h => by
    have := unpack_all b hb (by omega) A c W (Kd.C_below hr h) hc
    rw [hag, her2] at this
    exact this⟩
  have KR : Aside0 (∀ W, Below w.heap.size w W → Calls Try.prog 60 #[.slice A b.length c] W fun e w' => e = .returned (.tuple #[.agg #[.int .i64 x0, .int .i64 x1, .int .i64 x2, .int .i64 x3, .int .i64 x4, .int .i64 x5, .int .i64 x6, .int .i64 x7], .int .i64 er]) ∧ Below W.heap.size W w') := ⟨fun W h => by
    have := rread_calls b hb (by omega) A c W (Kd.C_below hr h) hc
    rw [hag, her2] at this
    exact this⟩
  obtain ⟨S1, hS1⟩ : ∃ S1, strOfNums F = S1 := ⟨_, rfl⟩
  have HS1 := Aside0.mk hS1
  obtain ⟨N, hN⟩ : ∃ N, b.length = N := ⟨_, rfl⟩
  rw [hN] at KU2 KR c1 c2 ⊢
  clear ha hb hr hc hn hpl hFb hrp hFl hF hX her hag her2 hS1 hN hx0 hx1 hx2 hx3 hx4 hx5 hx6 hx7
  go_enter Try.func19, Try.ntmps19
  go_upto_region 4 with (go_at_call 47; (with_reducible refine (HA.out _).mono ?_); rintro e w1 ⟨rfl, hb⟩; have HB1 := Aside0.mk (HB0.out.trans (hb.mono HB0.out.size)); have E1 := Aside0.mk (blk_below E0.out hb); clear hb)
  obtain ⟨s, hs⟩ : ∃ s, w.heap.size = s := ⟨_, rfl⟩
  rw [hs] at E1 ⊢
  have HS := Aside0.mk hs
  clear hs
  have y0 := blk_cell E1.out 0
  have y1 := blk_cell E1.out 1
  have y2 := blk_cell E1.out 2
  have y3 := blk_cell E1.out 3
  have y4 := blk_cell E1.out 4
  have y5 := blk_cell E1.out 5
  have y6 := blk_cell E1.out 6
  have y7 := blk_cell E1.out 7
  simp only [List.getElem?_toArray, List.getElem?_cons_zero, List.getElem?_cons_succ] at y0 y1 y2 y3 y4 y5 y6 y7
  go_upto_region 5 with (go_at_call 58; (with_reducible refine (KP.out _).mono ?_); rintro e w2 ⟨v, rfl, hv, hb⟩; obtain ⟨D, dd, hvv, hd, hC⟩ := Kd.R_reads hv; subst hvv; have HD := Aside0.mk (And.intro hd hC); have HB2 := Aside0.mk (HB1.out.trans (hb.mono HB1.out.size)); have E2 := Aside0.mk (blk_below E1.out hb); clear hv hb hd hC)
  clear y0 y1 y2 y3 y4 y5 y6 y7
  go_upto_region 6 with (go_at_call 59; (with_reducible refine (KU1.out _ _ _ HD.out.2 HD.out.1).mono ?_); rintro e w3 ⟨rfl, hb⟩; have HB3 := Aside0.mk (HB2.out.trans (hb.mono HB2.out.size)); have E3 := Aside0.mk (And.intro (blk_below E2.out hb) (Kd.C_below HD.out.2 hb)); clear hb)
  obtain ⟨q7, hq7⟩ : ∃ q, w3.heap.size = q := ⟨_, rfl⟩
  have hb7 := blk_new w3 (.cells #[.int .i64 a0, .int .i64 a1, .int .i64 a2, .int .i64 a3, .int .i64 a4, .int .i64 a5, .int .i64 a6, .int .i64 a7] 65)
  have hw7 := below_alloc (Below.refl w3.heap.size w3) (.cells #[.int .i64 a0, .int .i64 a1, .int .i64 a2, .int .i64 a3, .int .i64 a4, .int .i64 a5, .int .i64 a6, .int .i64 a7] 65)
  obtain ⟨W3, hW3⟩ : ∃ V, w3.alloc (.cells #[.int .i64 a0, .int .i64 a1, .int .i64 a2, .int .i64 a3, .int .i64 a4, .int .i64 a5, .int .i64 a6, .int .i64 a7] 65) = V := ⟨_, rfl⟩
  rw [hW3] at hb7 hw7 ⊢
  rw [hq7] at hb7 ⊢
  have HB4 := Aside0.mk (HB3.out.trans (hw7.mono HB3.out.size))
  have E4 := Aside0.mk (And.intro (blk_below E3.out.1 hw7) (And.intro hb7 (Kd.C_below E3.out.2 hw7)))
  clear hb7 hw7 hW3 hq7
  go_upto_region 7 with (go_at_call 59; (with_reducible refine (KU2.out _ HB4.out).mono ?_); rintro e w5 ⟨rfl, hb⟩; have HB5 := Aside0.mk (HB4.out.trans (hb.mono HB4.out.size)); have E5 := Aside0.mk (And.intro (blk_below E4.out.1 hb) (And.intro (blk_below E4.out.2.1 hb) (Kd.C_below E4.out.2.2 hb))); clear hb)
  obtain ⟨q9, hq9⟩ : ∃ q, w5.heap.size = q := ⟨_, rfl⟩
  have hb9 := blk_new w5 (.cells #[.int .i64 x0, .int .i64 x1, .int .i64 x2, .int .i64 x3, .int .i64 x4, .int .i64 x5, .int .i64 x6, .int .i64 x7] 65)
  have hw9 := below_alloc (Below.refl w5.heap.size w5) (.cells #[.int .i64 x0, .int .i64 x1, .int .i64 x2, .int .i64 x3, .int .i64 x4, .int .i64 x5, .int .i64 x6, .int .i64 x7] 65)
  obtain ⟨W5, hW5⟩ : ∃ V, w5.alloc (.cells #[.int .i64 x0, .int .i64 x1, .int .i64 x2, .int .i64 x3, .int .i64 x4, .int .i64 x5, .int .i64 x6, .int .i64 x7] 65) = V := ⟨_, rfl⟩
  rw [hW5] at hb9 hw9 ⊢
  rw [hq9] at hb9 ⊢
  have HB6 := Aside0.mk (HB5.out.trans (hw9.mono HB5.out.size))
  have E6 := Aside0.mk (And.intro (blk_below E5.out.1 hw9) (And.intro (blk_below E5.out.2.1 hw9) (And.intro hb9 (Kd.C_below E5.out.2.2 hw9))))
  clear hb9 hw9 hW5 hq9
  go_upto_region 8 with (go_at_call 60; (with_reducible refine (KR.out _ HB6.out).mono ?_); rintro e w7 ⟨rfl, hb⟩; have HB7 := Aside0.mk (HB6.out.trans (hb.mono HB6.out.size)); have E7 := Aside0.mk (And.intro (blk_below E6.out.1 hb) (And.intro (blk_below E6.out.2.1 hb) (And.intro (blk_below E6.out.2.2.1 hb) (Kd.C_below E6.out.2.2.2 hb)))); clear hb)
  obtain ⟨q11, hq11⟩ : ∃ q, w7.heap.size = q := ⟨_, rfl⟩
  have hb11 := blk_new w7 (.cells #[.int .i64 x0, .int .i64 x1, .int .i64 x2, .int .i64 x3, .int .i64 x4, .int .i64 x5, .int .i64 x6, .int .i64 x7] 65)
  have hw11 := below_alloc (Below.refl w7.heap.size w7) (.cells #[.int .i64 x0, .int .i64 x1, .int .i64 x2, .int .i64 x3, .int .i64 x4, .int .i64 x5, .int .i64 x6, .int .i64 x7] 65)
  obtain ⟨W7, hW7⟩ : ∃ V, w7.alloc (.cells #[.int .i64 x0, .int .i64 x1, .int .i64 x2, .int .i64 x3, .int .i64 x4, .int .i64 x5, .int .i64 x6, .int .i64 x7] 65) = V := ⟨_, rfl⟩
  rw [hW7] at hb11 hw11 ⊢
  rw [hq11] at hb11 ⊢
  have HB8 := Aside0.mk (HB7.out.trans (hw11.mono HB7.out.size))
  have HE : Aside0 (EnvP s q7 q9 q11 a0 a1 a2 a3 a4 a5 a6 a7 x0 x1 x2 x3 x4 x5 x6 x7 D F W7) := ⟨⟨blk_below E7.out.1 hw11, blk_below E7.out.2.1 hw11, blk_below E7.out.2.2.1 hw11, hb11, Kd.C_below E7.out.2.2.2 hw11⟩⟩
  have q0 : Below W7.heap.size W7 W7.drew := below_drew (Below.refl _ _)
  clear hb11 hw11 hW7 hq11 E7 E6 E5 E4 E3 E2 E1 KU1 KU2 KR KP HA
  refine start_ (n := 28) (S := fun w' => EnvP s q7 q9 q11 a0 a1 a2 a3 a4 a5 a6 a7 x0 x1 x2 x3 x4 x5 x6 x7 D F w') (ds := []) #[false, false, false, false, false, false, false, false, false, false, false, false, false, false, false, false, false, false, false, false, false, false, false, false, false, false, false, false] (by kernel_rfl) rfl rfl (EnvP.below HE.out (below_drew (Below.refl _ _))) (fun hHeld => ?_)
  refine pure_ (i := 0) (N := some 39) (v := ?_) (a' := ?_) #[true, false, false, false, false, false, false, false, false, false, false, false, false, false, false, false, false, false, false, false, false, false, false, false, false, false, false, false] rfl rfl (by kernel_rfl) (fun _ _ _ h => h) (Or.inl ⟨by rfl, ?_⟩) ?_ ?_
  rotate_left
  · intro w'
    go_simp
    with_reducible rfl
  rotate_left
  · simp only [Act.put, List.setIfInBounds_toArray, List.set_cons_zero, List.set_cons_succ, i64_w, i32_w]
    rfl
  refine take_ (i := 1) (N := some 40) (v := ?_) (a' := ?_) #[true, true, false, false, false, false, false, false, false, false, false, false, false, false, false, false, false, false, false, false, false, false, false, false, false, false, false, false] rfl rfl (by kernel_rfl) (fun _ _ _ h => h) (Or.inl ⟨by rfl, ?_⟩) hHeld ?_ ?_
  rotate_left
  · intro w' hS
    have hcv := Kd.C_string (dst := 9) (c := dd) Try.underlying88 Try.underlying5 Try.underlying9 hS.2.2.2.2
    rw [HS1.out] at hcv
    clear hS
    go_simp
    with_reducible rfl
  rotate_left
  · simp only [Act.put, List.setIfInBounds_toArray, List.set_cons_zero, List.set_cons_succ, i64_w, i32_w]
    rfl
  refine take_ (i := 2) (N := some 41) (v := ?_) (a' := ?_) #[true, true, true, false, false, false, false, false, false, false, false, false, false, false, false, false, false, false, false, false, false, false, false, false, false, false, false, false] rfl rfl (by kernel_rfl) (fun _ _ _ h => h) (Or.inl ⟨by rfl, ?_⟩) hHeld ?_ ?_
  rotate_left
  · intro w' hS
    have y0 := blk_cell hS.1 0
    have y1 := blk_cell hS.1 1
    have y2 := blk_cell hS.1 2
    have y3 := blk_cell hS.1 3
    have y4 := blk_cell hS.1 4
    have y5 := blk_cell hS.1 5
    have y6 := blk_cell hS.1 6
    have y7 := blk_cell hS.1 7
    simp only [List.getElem?_toArray, List.getElem?_cons_zero, List.getElem?_cons_succ] at y0 y1 y2 y3 y4 y5 y6 y7
    clear hS
    go_simp
    with_reducible rfl
  rotate_left
  · simp only [Act.put, List.setIfInBounds_toArray, List.set_cons_zero, List.set_cons_succ, i64_w, i32_w]
    rfl
  refine one_ (i := 3) (N := some 42) #[true, true, true, true, false, false, false, false, false, false, false, false, false, false, false, false, false, false, false, false, false, false, false, false, false, false, false, false] rfl rfl (by kernel_rfl) (by decide) (fun K hK => ?_)
  refine goes_ Try.func61 (by kernel_rfl) rfl #[.agg #[.int .i64 a0, .int .i64 a1, .int .i64 a2, .int .i64 a3, .int .i64 a4, .int .i64 a5, .int .i64 a6, .int .i64 a7]] (by rfl) rfl rfl (by simp [Act.eval]) ?_
  refine (KPP.out _).mono ?_
  rintro e u1 ⟨v, rfl, hv, hb⟩
  obtain ⟨D2, d2, hvv, hd2, hC2⟩ := Kd.R_reads hv
  subst hvv
  have q1 := q0.trans (hb.mono q0.size)
  refine ⟨_, rfl, hK.out _ _ (EnvP.below hHeld hb) (fun hHeld => ?_)⟩
  clear hK K hv hb
  refine norm_ (by simp only [Act.put, List.setIfInBounds_toArray, List.set_cons_zero, List.set_cons_succ, i64_w, i32_w]; rfl) ?_
  refine one_ (i := 4) (N := some 43) #[true, true, true, true, true, false, false, false, false, false, false, false, false, false, false, false, false, false, false, false, false, false, false, false, false, false, false, false] rfl rfl (by kernel_rfl) (by decide) (fun K hK => ?_)
  have hcv := Kd.C_string (dst := 9) (c := d2) Try.underlying88 Try.underlying5 Try.underlying9 hC2
  rw [HS1.out] at hcv
  refine value_ (w1 := u1) (v := .string S1) (by rfl) rfl (by go_simp) ?_
  clear hcv hC2 hd2
  refine hK.out _ _ hHeld (fun hHeld => ?_)
  clear hK K
  refine norm_ (by simp only [Act.put, List.setIfInBounds_toArray, List.set_cons_zero, List.set_cons_succ, i64_w, i32_w]; rfl) ?_
  refine pure_ (i := 5) (N := some 44) (v := ?_) (a' := ?_) #[true, true, true, true, true, true, false, false, false, false, false, false, false, false, false, false, false, false, false, false, false, false, false, false, false, false, false, false] rfl rfl (by kernel_rfl) (fun _ _ _ h => h) (Or.inl ⟨by rfl, ?_⟩) ?_ ?_
  rotate_left
  · intro w'
    go_simp
    first | with_reducible rfl | (rw [beq_self_eq_true])
  rotate_left
  · simp only [Act.put, List.setIfInBounds_toArray, List.set_cons_zero, List.set_cons_succ, i64_w, i32_w]
    rfl
  refine pure_ (i := 6) (N := some 45) (v := ?_) (a' := ?_) #[true, true, true, true, true, true, true, false, false, false, false, false, false, false, false, false, false, false, false, false, false, false, false, false, false, false, false, false] rfl rfl (by kernel_rfl) (fun _ _ _ h => h) (Or.inl ⟨by rfl, ?_⟩) ?_ ?_
  rotate_left
  · intro w'
    go_simp
    with_reducible rfl
  rotate_left
  · simp only [Act.put, List.setIfInBounds_toArray, List.set_cons_zero, List.set_cons_succ, i64_w, i32_w]
    rfl
  refine pure_ (i := 7) (N := some 46) (v := ?_) (a' := ?_) #[true, true, true, true, true, true, true, true, false, false, false, false, false, false, false, false, false, false, false, false, false, false, false, false, false, false, false, false] rfl rfl (by kernel_rfl) (fun _ _ _ h => h) (Or.inl ⟨by rfl, ?_⟩) ?_ ?_
  rotate_left
  · intro w'
    go_simp
    with_reducible rfl
  rotate_left
  · simp only [Act.put, List.setIfInBounds_toArray, List.set_cons_zero, List.set_cons_succ, i64_w, i32_w]
    rfl
  refine one_ (i := 8) (N := some 47) #[true, true, true, true, true, true, true, true, true, false, false, false, false, false, false, false, false, false, false, false, false, false, false, false, false, false, false, false] rfl rfl (by kernel_rfl) (by decide) (fun K hK => ?_)
  refine goes_ Try.func51 (by kernel_rfl) rfl #[.int .i64 0] (by rfl) rfl rfl (by simp [Act.eval]) ?_
  refine (numP_calls _ _).mono ?_
  rintro e u2 ⟨rfl, hd2⟩
  obtain ⟨m2, rfl⟩ := hd2.out
  have q2 := pw_below_drewN q1 m2
  refine ⟨_, rfl, hK.out _ _ hHeld (fun hHeld => ?_)⟩
  clear hK K
  refine norm_ (by simp only [Act.put, List.setIfInBounds_toArray, List.set_cons_zero, List.set_cons_succ, i64_w, i32_w]; rfl) ?_
  refine pure_ (i := 9) (N := some 48) (v := ?_) (a' := ?_) #[true, true, true, true, true, true, true, true, true, true, false, false, false, false, false, false, false, false, false, false, false, false, false, false, false, false, false, false] rfl rfl (by kernel_rfl) (fun _ _ _ h => h) (Or.inl ⟨by rfl, ?_⟩) ?_ ?_
  rotate_left
  · intro w'
    go_simp
    with_reducible rfl
  rotate_left
  · simp only [Act.put, List.setIfInBounds_toArray, List.set_cons_zero, List.set_cons_succ, i64_w, i32_w]
    rfl
  refine pure_ (i := 10) (N := some 49) (v := ?_) (a' := ?_) #[true, true, true, true, true, true, true, true, true, true, true, false, false, false, false, false, false, false, false, false, false, false, false, false, false, false, false, false] rfl rfl (by kernel_rfl) (fun _ _ _ h => h) (Or.inl ⟨by rfl, ?_⟩) ?_ ?_
  rotate_left
  · intro w'
    go_simp
    with_reducible rfl
  rotate_left
  · simp only [Act.put, List.setIfInBounds_toArray, List.set_cons_zero, List.set_cons_succ, i64_w, i32_w]
    rfl
  refine pure_ (i := 11) (N := some 50) (v := ?_) (a' := ?_) #[true, true, true, true, true, true, true, true, true, true, true, true, false, false, false, false, false, false, false, false, false, false, false, false, false, false, false, false] rfl rfl (by kernel_rfl) (fun _ _ _ h => h) (Or.inl ⟨by rfl, ?_⟩) ?_ ?_
  rotate_left
  · intro w'
    go_simp
    with_reducible rfl
  rotate_left
  · simp only [Act.put, List.setIfInBounds_toArray, List.set_cons_zero, List.set_cons_succ, i64_w, i32_w]
    rfl
  refine take_ (i := 12) (N := some 51) (v := ?_) (a' := ?_) #[true, true, true, true, true, true, true, true, true, true, true, true, true, false, false, false, false, false, false, false, false, false, false, false, false, false, false, false] rfl rfl (by kernel_rfl) (fun _ _ _ h => h) (Or.inl ⟨by rfl, ?_⟩) hHeld ?_ ?_
  rotate_left
  · intro w' hS
    have y0 := blk_cell hS.2.1 0
    have y1 := blk_cell hS.2.1 1
    have y2 := blk_cell hS.2.1 2
    have y3 := blk_cell hS.2.1 3
    have y4 := blk_cell hS.2.1 4
    have y5 := blk_cell hS.2.1 5
    have y6 := blk_cell hS.2.1 6
    have y7 := blk_cell hS.2.1 7
    simp only [List.getElem?_toArray, List.getElem?_cons_zero, List.getElem?_cons_succ] at y0 y1 y2 y3 y4 y5 y6 y7
    clear hS
    go_simp
    with_reducible rfl
  rotate_left
  · simp only [Act.put, List.setIfInBounds_toArray, List.set_cons_zero, List.set_cons_succ, i64_w, i32_w]
    rfl
  refine take_ (i := 13) (N := some 52) (v := ?_) (a' := ?_) #[true, true, true, true, true, true, true, true, true, true, true, true, true, true, false, false, false, false, false, false, false, false, false, false, false, false, false, false] rfl rfl (by kernel_rfl) (fun _ _ _ h => h) (Or.inl ⟨by rfl, ?_⟩) hHeld ?_ ?_
  rotate_left
  · intro w' hS
    have y0 := blk_cell hS.1 0
    have y1 := blk_cell hS.1 1
    have y2 := blk_cell hS.1 2
    have y3 := blk_cell hS.1 3
    have y4 := blk_cell hS.1 4
    have y5 := blk_cell hS.1 5
    have y6 := blk_cell hS.1 6
    have y7 := blk_cell hS.1 7
    simp only [List.getElem?_toArray, List.getElem?_cons_zero, List.getElem?_cons_succ] at y0 y1 y2 y3 y4 y5 y6 y7
    clear hS
    go_simp
    with_reducible rfl
  rotate_left
  · simp only [Act.put, List.setIfInBounds_toArray, List.set_cons_zero, List.set_cons_succ, i64_w, i32_w]
    rfl
  refine pure_ (i := 14) (N := some 53) (v := ?_) (a' := ?_) #[true, true, true, true, true, true, true, true, true, true, true, true, true, true, true, false, false, false, false, false, false, false, false, false, false, false, false, false] rfl rfl (by kernel_rfl) (fun _ _ _ h => h) (Or.inl ⟨by rfl, ?_⟩) ?_ ?_
  rotate_left
  · intro w'
    go_simp
    first | with_reducible rfl | simp
  rotate_left
  · simp only [Act.put, List.setIfInBounds_toArray, List.set_cons_zero, List.set_cons_succ, i64_w, i32_w]
    rfl
  refine pure_ (i := 15) (N := some 54) (v := ?_) (a' := ?_) #[true, true, true, true, true, true, true, true, true, true, true, true, true, true, true, true, false, false, false, false, false, false, false, false, false, false, false, false] rfl rfl (by kernel_rfl) (fun _ _ _ h => h) (Or.inl ⟨by rfl, ?_⟩) ?_ ?_
  rotate_left
  · intro w'
    go_simp
    with_reducible rfl
  rotate_left
  · simp only [Act.put, List.setIfInBounds_toArray, List.set_cons_zero, List.set_cons_succ, i64_w, i32_w]
    rfl
  refine pure_ (i := 16) (N := some 55) (v := ?_) (a' := ?_) #[true, true, true, true, true, true, true, true, true, true, true, true, true, true, true, true, true, false, false, false, false, false, false, false, false, false, false, false] rfl rfl (by kernel_rfl) (fun _ _ _ h => h) (Or.inl ⟨by rfl, ?_⟩) ?_ ?_
  rotate_left
  · intro w'
    go_simp
    with_reducible rfl
  rotate_left
  · simp only [Act.put, List.setIfInBounds_toArray, List.set_cons_zero, List.set_cons_succ, i64_w, i32_w]
    rfl
  refine pure_ (i := 17) (N := some 56) (v := ?_) (a' := ?_) #[true, true, true, true, true, true, true, true, true, true, true, true, true, true, true, true, true, true, false, false, false, false, false, false, false, false, false, false] rfl rfl (by kernel_rfl) (fun _ _ _ h => h) (Or.inl ⟨by rfl, ?_⟩) ?_ ?_
  rotate_left
  · intro w'
    go_simp
    with_reducible rfl
  rotate_left
  · simp only [Act.put, List.setIfInBounds_toArray, List.set_cons_zero, List.set_cons_succ, i64_w, i32_w]
    rfl
  refine pure_ (i := 19) (N := some 58) (v := ?_) (a' := ?_) #[true, true, true, true, true, true, true, true, true, true, true, true, true, true, true, true, true, true, false, true, false, false, false, false, false, false, false, false] rfl rfl (by kernel_rfl) (fun _ _ _ h => h) (Or.inl ⟨by rfl, ?_⟩) ?_ ?_
  rotate_left
  · intro w'
    go_simp
    with_reducible rfl
  rotate_left
  · simp only [Act.put, List.setIfInBounds_toArray, List.set_cons_zero, List.set_cons_succ, i64_w, i32_w]
    rfl
  refine one_ (i := 18) (N := some 57) #[true, true, true, true, true, true, true, true, true, true, true, true, true, true, true, true, true, true, true, true, false, false, false, false, false, false, false, false] rfl rfl (by kernel_rfl) (by decide) (fun K hK => ?_)
  refine goes_ Try.func51 (by kernel_rfl) rfl #[.int .i64 er] (by rfl) rfl rfl (by simp [Act.eval]) ?_
  refine (numP_calls _ _).mono ?_
  rintro e u3 ⟨rfl, hd3⟩
  obtain ⟨m3, rfl⟩ := hd3.out
  have q3 := pw_below_drewN q2 m3
  refine ⟨_, rfl, hK.out _ _ hHeld (fun hHeld => ?_)⟩
  clear hK K
  refine norm_ (by simp only [Act.put, List.setIfInBounds_toArray, List.set_cons_zero, List.set_cons_succ, i64_w, i32_w]; rfl) ?_
  refine pure_ (i := 20) (N := some 59) (v := ?_) (a' := ?_) #[true, true, true, true, true, true, true, true, true, true, true, true, true, true, true, true, true, true, true, true, true, false, false, false, false, false, false, false] rfl rfl (by kernel_rfl) (fun _ _ _ h => h) (Or.inl ⟨by rfl, ?_⟩) ?_ ?_
  rotate_left
  · intro w'
    go_simp
    first | with_reducible rfl | simp
  rotate_left
  · simp only [Act.put, List.setIfInBounds_toArray, List.set_cons_zero, List.set_cons_succ, i64_w, i32_w]
    rfl
  refine pure_ (i := 21) (N := some 60) (v := ?_) (a' := ?_) #[true, true, true, true, true, true, true, true, true, true, true, true, true, true, true, true, true, true, true, true, true, true, false, false, false, false, false, false] rfl rfl (by kernel_rfl) (fun _ _ _ h => h) (Or.inl ⟨by rfl, ?_⟩) ?_ ?_
  rotate_left
  · intro w'
    go_simp
    with_reducible rfl
  rotate_left
  · simp only [Act.put, List.setIfInBounds_toArray, List.set_cons_zero, List.set_cons_succ, i64_w, i32_w]
    rfl
  refine pure_ (i := 22) (N := some 61) (v := ?_) (a' := ?_) #[true, true, true, true, true, true, true, true, true, true, true, true, true, true, true, true, true, true, true, true, true, true, true, false, false, false, false, false] rfl rfl (by kernel_rfl) (fun _ _ _ h => h) (Or.inl ⟨by rfl, ?_⟩) ?_ ?_
  rotate_left
  · intro w'
    go_simp
    with_reducible rfl
  rotate_left
  · simp only [Act.put, List.setIfInBounds_toArray, List.set_cons_zero, List.set_cons_succ, i64_w, i32_w]
    rfl
  refine take_ (i := 23) (N := some 62) (v := ?_) (a' := ?_) #[true, true, true, true, true, true, true, true, true, true, true, true, true, true, true, true, true, true, true, true, true, true, true, true, false, false, false, false] rfl rfl (by kernel_rfl) (fun _ _ _ h => h) (Or.inl ⟨by rfl, ?_⟩) hHeld ?_ ?_
  rotate_left
  · intro w' hS
    have y0 := blk_cell hS.2.2.1 0
    have y1 := blk_cell hS.2.2.1 1
    have y2 := blk_cell hS.2.2.1 2
    have y3 := blk_cell hS.2.2.1 3
    have y4 := blk_cell hS.2.2.1 4
    have y5 := blk_cell hS.2.2.1 5
    have y6 := blk_cell hS.2.2.1 6
    have y7 := blk_cell hS.2.2.1 7
    simp only [List.getElem?_toArray, List.getElem?_cons_zero, List.getElem?_cons_succ] at y0 y1 y2 y3 y4 y5 y6 y7
    clear hS
    go_simp
    with_reducible rfl
  rotate_left
  · simp only [Act.put, List.setIfInBounds_toArray, List.set_cons_zero, List.set_cons_succ, i64_w, i32_w]
    rfl
  refine take_ (i := 24) (N := some 63) (v := ?_) (a' := ?_) #[true, true, true, true, true, true, true, true, true, true, true, true, true, true, true, true, true, true, true, true, true, true, true, true, true, false, false, false] rfl rfl (by kernel_rfl) (fun _ _ _ h => h) (Or.inl ⟨by rfl, ?_⟩) hHeld ?_ ?_
  rotate_left
  · intro w' hS
    have y0 := blk_cell hS.2.2.2.1 0
    have y1 := blk_cell hS.2.2.2.1 1
    have y2 := blk_cell hS.2.2.2.1 2
    have y3 := blk_cell hS.2.2.2.1 3
    have y4 := blk_cell hS.2.2.2.1 4
    have y5 := blk_cell hS.2.2.2.1 5
    have y6 := blk_cell hS.2.2.2.1 6
    have y7 := blk_cell hS.2.2.2.1 7
    simp only [List.getElem?_toArray, List.getElem?_cons_zero, List.getElem?_cons_succ] at y0 y1 y2 y3 y4 y5 y6 y7
    clear hS
    go_simp
    with_reducible rfl
  rotate_left
  · simp only [Act.put, List.setIfInBounds_toArray, List.set_cons_zero, List.set_cons_succ, i64_w, i32_w]
    rfl
  refine pure_ (i := 25) (N := some 64) (v := ?_) (a' := ?_) #[true, true, true, true, true, true, true, true, true, true, true, true, true, true, true, true, true, true, true, true, true, true, true, true, true, true, false, false] rfl rfl (by kernel_rfl) (fun _ _ _ h => h) (Or.inl ⟨by rfl, ?_⟩) ?_ ?_
  rotate_left
  · intro w'
    go_simp
    first | with_reducible rfl | simp
  rotate_left
  · simp only [Act.put, List.setIfInBounds_toArray, List.set_cons_zero, List.set_cons_succ, i64_w, i32_w]
    rfl
  refine pure_ (i := 26) (N := some 65) (v := ?_) (a' := ?_) #[true, true, true, true, true, true, true, true, true, true, true, true, true, true, true, true, true, true, true, true, true, true, true, true, true, true, true, false] rfl rfl (by kernel_rfl) (fun _ _ _ h => h) (Or.inl ⟨by rfl, ?_⟩) ?_ ?_
  rotate_left
  · intro w'
    go_simp
    with_reducible rfl
  rotate_left
  · simp only [Act.put, List.setIfInBounds_toArray, List.set_cons_zero, List.set_cons_succ, i64_w, i32_w]
    rfl
  refine pure_ (i := 27) (N := some 4) (v := ?_) (a' := ?_) #[true, true, true, true, true, true, true, true, true, true, true, true, true, true, true, true, true, true, true, true, true, true, true, true, true, true, true, true] rfl rfl (by kernel_rfl) (fun _ _ _ h => h) (Or.inl ⟨by rfl, ?_⟩) ?_ ?_
  rotate_left
  · intro w'
    go_simp
    with_reducible rfl
  rotate_left
  · simp only [Act.put, List.setIfInBounds_toArray, List.set_cons_zero, List.set_cons_succ, i64_w, i32_w]
    rfl
  refine done_ (by kernel_rfl) ?_
  go_wp2
  go_ret
  exact ⟨rfl, HB8.out.trans (q3.mono HB8.out.size)⟩
theorem packs_calls (HA : Aside0 AliveP) (a0 a1 a2 a3 a4 a5 a6 a7 : Int) (ha : ∀ x ∈ [a0, a1, a2, a3, a4, a5, a6, a7], I64 x) (b : List Int) (hb : ∀ x ∈ b, 0 ≤ x ∧ x < 256) (A : Option Addr) (c : Nat) (w : World) (hr : Kd.C (Kd.int .u8) w A b.length b) (hc : b.length ≤ c) :
    Calls Try.prog 19 #[.agg #[.int .i64 a0, .int .i64 a1, .int .i64 a2, .int .i64 a3, .int .i64 a4, .int .i64 a5, .int .i64 a6, .int .i64 a7], .slice A b.length c] w fun e w' => e = .returned (.bool true) ∧ Below w.heap.size w w' := by
  by_cases hn : b.length ≤ 1000
  · exact packs_short HA a0 a1 a2 a3 a4 a5 a6 a7 ha b hb A c w hr hc hn
  · exact packs_long HA a0 a1 a2 a3 a4 a5 a6 a7 A c b.length (by omega) w
end Go.Proofs.Ytemnfnbjapobcaa.VS
end
section
namespace Go.Proofs.Ytemnfnbjapobcaa.Pp
open Go.RowKit Go.Proofs.YtemnfnbjapobcaaW.PrintWords Go.Proofs.YtemnfnbjapobcaaW.PrintLast Go.Proofs.YtemnfnbjapobcaaW.PrintMore
attribute [local go_sem] max2_int min2_int max_two min_two max_three min_three max_four min_four   -- for this text's walks alone
set_option linter.unusedVariables false
set_option linter.unusedSimpArgs false
def errW : Option Int → Value
  | none => .nilIface
  | some c => .iface 0 (.int .i64 c)
theorem errW_none : errW none = .nilIface := rfl
theorem errW_some (c : Int) : errW (some c) = .iface 0 (.int .i64 c) := rfl
theorem info5 : (Try.prog.info? 5).map (fun i => (i.zero, i.size, i.bytes)) = some (some (.int .u8 0), 1, 1) := by kernel_rfl
structure S70 where
  f0 : Int
  f1 : Int
def z70 : S70 := ⟨(0 : Int), (0 : Int)⟩
def k70 : Kd S70 := Kd.iso (Kd.pair (Kd.int .i64) (Kd.int .i64)) (fun x : S70 => (x.f0, x.f1))
theorem k70_open {w : World} {x : S70} {cs : List Value} (h : k70.K w x cs) : cs = [.int .i64 x.f0, .int .i64 x.f1] := by
  obtain ⟨_, _, rfl, rfl, rfl⟩ := h
  exact rfl
theorem k70_mkM (w : World) (base : Nat) (ok : Nat → Prop) (x : S70)  : k70.M w base ok x [.int .i64 x.f0, .int .i64 x.f1] := ⟨[.int .i64 x.f0], [.int .i64 x.f1], rfl, rfl, rfl⟩
def rd_T70 (xs : List S70) (i : Int) : S70 := xs.getD i.toNat z70
theorem at_T70 {w : World} {A : Option Addr} {n : Nat} {xs : List S70} (h : Kd.C k70 w A n xs) (i : Int) (h0 : 0 ≤ i) (h1 : i < n) : ∃ ad , A = some ad ∧ w.cell? (ad.add (i.toNat * 2)) = some (.int .i64 (rd_T70 xs i).f0) ∧ w.cell? ⟨(ad.add (i.toNat * 2)).block, (ad.add (i.toNat * 2)).off + 1, none⟩ = some (.int .i64 (rd_T70 xs i).f1) := by
  obtain ⟨ad, c, e, _, hK, hc0⟩ := Kd.C_get h z70 i h0 h1
  have hc : ∀ j u, c[j]? = some u → w.cell? (ad.add (i.toNat * 2 + j)) = some u := hc0
  obtain rfl := k70_open hK
  exact ⟨ad, e, hc 0 _ rfl, by rw [← add_field _ _ 1 (by omega)]; exact hc 1 _ rfl⟩
end Go.Proofs.Ytemnfnbjapobcaa.Pp
end
