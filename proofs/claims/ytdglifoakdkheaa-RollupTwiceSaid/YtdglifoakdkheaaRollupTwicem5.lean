-- Laid together by wip/shake.py out of: WidC WidX
import Derived.Test.YtdglifoakdkheaaRollupTwicem4
import Derived.Deep.QuietTactic
import Derived.BigQuiet
section
namespace Go.Proofs.Ytdglifoakdkheaa.Roll
open Go.RowKit Go.Shelf Go.Proofs.YtdglifoakdkheaaW.PrintWords Go.Proofs.YtdglifoakdkheaaW.PrintLast Go.Proofs.YtdglifoakdkheaaW.PrintMore
attribute [local go_sem] Oper.semAt_some
set_option linter.unusedVariables false
theorem take_more52 (l0 : List S52) (k : Nat) (h : k < l0.length) : l0.take (k + 1) = l0.take k ++ [rd_T52 l0 (k : Int)] := by
  rw [List.take_succ_eq_append_getElem h]
  simp [rd_T52, List.getD_eq_getElem?_getD, List.getElem?_eq_getElem h]
set_option maxHeartbeats 4000000 in
set_option maxRecDepth 100000 in
theorem each_seq (n : Nat) (hn : 1 ≤ n) (bs : Nat) (A0 : Option Addr) (c0 : Nat) (l0 : List S52) (w : World) (hb : w.cell? ⟨bs, 0, none⟩ = some (.slice A0 l0.length c0)) (hr0 : Kd.C k52 w A0 l0.length l0) (hlen : l0.length ≤ 100000) :
    SeqJ Fence.wide n Try.prog 49 #[.pointer (some ⟨bs, 0, none⟩)] (fun x => #[v52 x]) 0 l0 w := by
  intro l J W hW hJ hY h0
  refine callsIn_of_wp Try.func49 rfl trivial ?_ rfl
  simp only [Try.ntmps49, List.size_toArray, List.length_cons, List.length_nil, Nat.reduceAdd, Nat.reduceSub, Array.replicate_succ, Array.replicate_zero, List.push_toArray, List.append_toArray, List.nil_append, List.cons_append]
  have hb' : W.cell? ⟨bs, 0, none⟩ = some (.slice A0 l0.length c0) := (hW.cell (p := ⟨bs, 0, none⟩) (World.block_lt_of_cell? _ _ hb)).trans hb
  gi_wp2
  gi_loopw [7] (fun v wr => ∃ k K : Nat, v = .int .i64 (k : Int) ∧ k ≤ l0.length ∧ K ≤ wr.heap.size ∧ J (l0.take k) K wr ∧ Below w.heap.size w wr ∧ W.heap.size ≤ wr.heap.size)
    (fun v wr => l0.length - (intOf v).toNat)
  case atStart => exact ⟨0, _, rfl, Nat.zero_le _, Nat.le_refl _, by simpa using h0, hW, Nat.le_refl _⟩
  case round =>
    obtain ⟨k, K, rfl, hk, hKw, hJs, hB, hsz⟩ := hrel
    by_cases c : k < l0.length
    · have c1 : decide ((k : Int) < (l0.length : Int)) = true := decide_eq_true (by omega)
      obtain ⟨ad, rfl, r0, r1, r2, r3, r4, r5⟩ := at_T52 (Kd.C_below hr0 hB) (k : Int) (by omega) (by omega)
      rw [Int.toNat_natCast] at r0 r1 r2 r3 r4 r5
      obtain ⟨fn, tmps, assign, body, hy, hR⟩ := hY (l0.take k) (rd_T52 l0 (k : Int)) K (wr.alloc (.cells #[.int .i64 (rd_T52 l0 (k : Int)).f0, .int .i64 (rd_T52 l0 (k : Int)).f1, .int .i64 (rd_T52 l0 (k : Int)).f2, .int .i64 (rd_T52 l0 (k : Int)).f3, .int .i64 (rd_T52 l0 (k : Int)).f4, .int .i64 (rd_T52 l0 (k : Int)).f5] 52))
        (hJ _ _ _ _ none hJs (World.grownBy_alloc _ _ none) (by simp)) (by simp; omega) (by simp; omega) (by rw [← take_more52 l0 k c]; exact List.take_prefix _ _)
      dsimp only [v52] at hy
      gi_wp2
      refine hR.mono ?_
      rintro e W' ⟨rfl, hJ', hK⟩
      gi_wp2
      go_roundw
      case rel =>
        refine ⟨k + 1, W'.heap.size, ?_, by omega, Nat.le_refl _, ?_, ?_, ?_⟩
        · simp
        · rw [take_more52 l0 k c]; exact hJ'
        · exact (hB.alloc hB.size _).trans hK.below
        · have := hK.below.size
          simp at this
          omega
      case measure =>
        simp [intOf]
        omega
    · have c1 : decide ((k : Int) < (l0.length : Int)) = false := decide_eq_false (by omega)
      gi_wp2
      go_end0
      refine ⟨⟨_, rfl⟩, ?_⟩
      have hk' : k = l0.length := by omega
      subst hk'
      rw [List.take_length] at hJs
      exact ⟨_, hKw, hJs⟩
def WidAt (w : World) (A0 : Option Addr) (n c0 : Nat) (wr : World) : Prop := Below w.heap.size w wr ∧ wr.heap[w.heap.size]? = some (.cells #[.slice A0 n c0] 42 (0, 0)) ∧ w.heap.size + 1 ≤ wr.heap.size
theorem WidAt.grow {w wr wr' : World} {A0 : Option Addr} {n c0 : Nat} (h : WidAt w A0 n c0 wr) (hB : Below wr.heap.size wr wr') : WidAt w A0 n c0 wr' :=
  ⟨h.1.trans (hB.mono h.1.size), blk_below h.2.1 hB, Nat.le_trans h.2.2 hB.size⟩
theorem timed_true (t : Int) (h : -9007199254740992 ≤ t ∧ t ≤ 9007199254740992) (w : World) : Calls Try.prog 48 #[.int .i64 t] w fun e w' => e = .returned (.bool true) ∧ ∃ m, w' = w.drewN m := by
  have e : rollup_Timed.f t = some true := by
    unfold rollup_Timed.f
    rw [if_pos (by omega), decide_eq_true h.2]
  exact (rollup_Timed.calls t true w e).mono fun _ _ ⟨he, hw⟩ => ⟨he, hw.out⟩
theorem enters49 : ∀ args w, (callFunc 49 args).run Try.prog w = .ok (.enter 49 args) w := enters_of Try.func49 rfl rfl
set_option maxHeartbeats 4000000 in
set_option maxRecDepth 100000 in
theorem wider_calls (A0 : Option Addr) (c0 : Nat) (l0 : List S52) (a1 : Int) (w : World) (hr0 : Kd.C k52 w A0 l0.length l0) (hc0 : l0.length ≤ c0) (hin : ∀ b ∈ l0, In b.f0 ∧ In b.f2) (h1 : 1 ≤ a1 ∧ a1 ≤ 9007199254740992) (hlen : l0.length ≤ 100000)
    (hT : ∀ i : Nat, i < l0.length → -9007199254740992 ≤ (rd_T52 l0 (i : Int)).f0 ∧ (rd_T52 l0 (i : Int)).f0 ≤ 9007199254740992) (hP : ∀ i : Nat, i + 1 < l0.length → (rd_T52 l0 (i : Int)).f0 < (rd_T52 l0 ((i + 1 : Nat) : Int)).f0) (hN : ∀ i : Nat, i < l0.length → 1 ≤ (rd_T52 l0 (i : Int)).f1) :
    Calls Try.prog 31 #[.slice A0 l0.length c0, .int .i64 a1] w fun e w' => ∃ v, e = .returned (.tuple #[v, .int .i64 0]) ∧ Kd.R k52 52 w' w.heap.size (fun _ => True) v (outS (stepsS a1 l0 ([], none))) ∧ Below w.heap.size w w' := by
  have AC := Aside0.mk (ask_eq a1)
  rw [if_neg (by omega)] at AC
  have HR := Aside0.mk hr0
  have HIN := Aside0.mk hin
  have HW : Aside0 (In a1) := ⟨⟨by omega, by omega⟩⟩
  have HL := Aside0.mk hlen
  have HC := Aside0.mk hc0
  have HT := Aside0.mk hT
  have HP := Aside0.mk hP
  have HN := Aside0.mk hN
  have HA0 : Aside0 (∀ n : Nat, WidAt w A0 l0.length c0 ((w.alloc (.cells #[.slice A0 l0.length c0] 42)).drewN n)) := ⟨fun n => ⟨pw_below_drewN (below_alloc (Below.refl _ _) _) n, blk_drewN (World.alloc_heap_new w _) n, by simp⟩⟩
  clear hr0 hin h1 hlen hc0 hT hP hN
  go_enter Try.func31, Try.ntmps31
  go_wp2_with (go_at_call 42; (with_reducible refine (rollup_ask.calls a1 0 _ AC.out).mono ?_); rintro e w' ⟨rfl, ⟨nd, rfl⟩⟩)
  have HA := Aside0.mk (HA0.out nd)
  clear HA0
  obtain ⟨W1, hW1⟩ : ∃ W1, (w.alloc (.cells #[.slice A0 l0.length c0] 42)).drewN nd = W1 := ⟨_, rfl⟩
  rw [hW1] at HA ⊢
  clear hW1
  go_loopw [19] (fun v wr => ∃ k : Nat, v = .int .i64 (k : Int) ∧ k ≤ l0.length ∧ Aside0 (WidAt w A0 l0.length c0 wr)) (fun v wr => l0.length - (intOf v).toNat)
  case atStart => exact ⟨0, rfl, Nat.zero_le _, HA⟩
  case round =>
    clear HA
    obtain ⟨k, rfl, hk, HA⟩ := hrel
    by_cases c : k < l0.length
    · have c1 : decide ((k : Int) < (l0.length : Int)) = true := decide_eq_true (by omega)
      obtain ⟨ad, rfl, r0, r1, r2, r3, r4, r5⟩ := at_T52 (Kd.C_below HR.out HA.out.1) (k : Int) (by omega) (by omega)
      rw [Int.toNat_natCast] at r0 r1 r2 r3 r4 r5
      have hb0 := blk_cell HA.out.2.1 0
      go_wp2
      obtain ⟨W2, hW2⟩ : ∃ W2, wr.alloc (.cells #[.int .i64 (rd_T52 l0 (k : Int)).f0, .int .i64 (rd_T52 l0 (k : Int)).f1, .int .i64 (rd_T52 l0 (k : Int)).f2, .int .i64 (rd_T52 l0 (k : Int)).f3, .int .i64 (rd_T52 l0 (k : Int)).f4, .int .i64 (rd_T52 l0 (k : Int)).f5] 52) = W2 := ⟨_, rfl⟩
      rw [hW2]
      have hA2 : WidAt w (some ad) l0.length c0 W2 := by rw [← hW2]; exact HA.out.grow (below_alloc (Below.refl _ _) _)
      have nb : W2.heap[wr.heap.size]? = some (.cells (cs52 (rd_T52 l0 (k : Int))).toArray 52 (0, 0)) := by rw [← hW2]; exact World.alloc_heap_new wr _
      have HA2 := Aside0.mk hA2
      have hT := HT.out k c
      have HTT := Aside0.mk hT
      clear hW2 hA2 r0 r1 r2 r3 r4 r5 hb0 hT HA
      obtain ⟨y0, y1, y2, y3, y4, y5⟩ := cells_at nb
      have hb0 := blk_cell HA2.out.2.1 0
      by_cases hz : k = 0
      · subst hz
        go_quiet ((go_at_call 48; exact Calls.quiet_of (timed_true _ HTT.out _)))
        go_wp2
        exact ⟨⟨1, rfl, by omega, ⟨HA2.out.grow (pw_below_drewN (Below.refl _ _) _)⟩⟩, by simp [intOf]; omega⟩
      · obtain ⟨j, hj⟩ : ∃ j, k = j + 1 := ⟨k - 1, by omega⟩
        obtain ⟨ad', e2, r0, _⟩ := at_T52 (Kd.C_below HR.out HA2.out.1) (j : Int) (by omega) (by omega)
        cases e2
        rw [Int.toNat_natCast] at r0
        have g1 : decide ((0 : Int) < (k : Int)) = true := decide_eq_true (by omega)
        have g1' : decide (0 < k) = true := decide_eq_true (by omega)
        have g2 : IntKind.i64.wrap ((k : Int) - 1) = (j : Int) := by have := HL.out; rw [i64_w, wrap64_id (by omega) (by omega)]; omega
        have g3 : decide ((rd_T52 l0 (k : Int)).f0 ≤ (rd_T52 l0 (j : Int)).f0) = false := by rw [hj]; exact decide_eq_false (by have := HP.out j (by omega); omega)
        have g4 : j < l0.length := by omega
        have g5 : k < 100001 := by have := HL.out; omega
        have HJ := Aside0.mk hj
        clear hj hz
        go_quiet ((go_at_call 48; exact Calls.quiet_of (timed_true _ HTT.out _)))
        go_wp2
        exact ⟨⟨k + 1, by go_num, by omega, ⟨HA2.out.grow (pw_below_drewN (Below.refl _ _) _)⟩⟩, by simp [intOf]; omega⟩
    · have c1 : decide ((k : Int) < (l0.length : Int)) = false := decide_eq_false (by omega)
      have hb0 := blk_cell HA.out.2.1 0
      go_wp2
      clear hb0 c c1
      go_loopw [46] (fun v wr => ∃ k : Nat, v = .int .i64 (k : Int) ∧ k ≤ l0.length ∧ Aside0 (WidAt w A0 l0.length c0 wr)) (fun v wr => l0.length - (intOf v).toNat)
      case atStart => exact ⟨0, rfl, Nat.zero_le _, HA⟩
      case round =>
        clear HA hk
        obtain ⟨k, rfl, hk, HA⟩ := hrel
        by_cases c : k < l0.length
        · have c1 : decide ((k : Int) < (l0.length : Int)) = true := decide_eq_true (by omega)
          obtain ⟨ad, rfl, r0, r1, r2, r3, r4, r5⟩ := at_T52 (Kd.C_below HR.out HA.out.1) (k : Int) (by omega) (by omega)
          rw [Int.toNat_natCast] at r0 r1 r2 r3 r4 r5
          have c2 : decide ((rd_T52 l0 (k : Int)).f1 < 1) = false := decide_eq_false (by have := HN.out k c; omega)
          have g5 : k < 100001 := by have := HL.out; omega
          go_wp2
          go_roundw
          case rel => exact ⟨k + 1, by go_num, by omega, ⟨HA.out.grow (below_alloc (Below.refl _ _) _)⟩⟩
          case measure => simp [intOf]; omega
        · have c1 : decide ((k : Int) < (l0.length : Int)) = false := decide_eq_false (by omega)
          go_wp2_with (go_at_call 46; (with_reducible refine (joined_calls 49 _ a1 _).mono ?_); rintro e w' ⟨rfl, rfl⟩)
          rename_i w1
          have g1 := blk_alloc (blk_alloc HA.out.2.1 (.cells #[.func (.func 49) #[] #[.pointer (some ⟨w.heap.size, 0, none⟩)]] 67)) (.cells #[.int .i64 a1] 3)
          have hB2 := below_alloc (below_alloc HA.out.1 (.cells #[.func (.func 49) #[] #[.pointer (some ⟨w.heap.size, 0, none⟩)]] 67)) (.cells #[.int .i64 a1] 3)
          refine (gather_joined a1 49 _ l0 HIN.out HW.out HL.out _ _ _ enters49 (by go_simp) (by go_simp) (each_seq 8 (by decide) w.heap.size A0 c0 l0 _ (blk_cell g1 0) (Kd.C_below HR.out hB2) HL.out)).mono ?_
          rintro e w' ⟨v, rfl, hRR, hb⟩
          have HRR := Aside0.mk (Kd.R_lower hRR hB2.size)
          have HBB := Aside0.mk (hB2.trans (hb.mono hB2.size))
          clear hRR hb hB2 g1
          go_wp2
          go_ret2
          exact ⟨_, rfl, HRR.out, HBB.out⟩
end Go.Proofs.Ytdglifoakdkheaa.Roll
end
section
namespace Go.Proofs.Ytdglifoakdkheaa.Roll
open Go.RowKit Go.Proofs.YtdglifoakdkheaaW.PrintWords
def WidOK (l : List S52) (a1 : Int) : Prop := l.length ≤ 100000 ∧ (∀ b ∈ l, In b.f0 ∧ In b.f2) ∧ (1 ≤ a1 ∧ a1 ≤ 9007199254740992) ∧ (∀ i : Nat, i < l.length → -9007199254740992 ≤ (rd_T52 l (i : Int)).f0 ∧ (rd_T52 l (i : Int)).f0 ≤ 9007199254740992) ∧ (∀ i : Nat, i < l.length - 1 → (rd_T52 l (i : Int)).f0 < (rd_T52 l ((i + 1 : Nat) : Int)).f0) ∧ (∀ i : Nat, i < l.length → 1 ≤ (rd_T52 l (i : Int)).f1)
instance (x : Int) : Decidable (In x) := by unfold In; infer_instance
instance (l : List S52) (a1 : Int) : Decidable (WidOK l a1) := by unfold WidOK; infer_instance
end Go.Proofs.Ytdglifoakdkheaa.Roll
end
