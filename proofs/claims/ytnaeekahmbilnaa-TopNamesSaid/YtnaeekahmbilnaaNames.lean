/- What package api's numbers are compared with: each pair holds one number twice. -/
import Derived.Test.YtnaeekahmbilnaaProg
import Derived.Below
import Derived.Deep.Draws
import Derived.Deep.AppendLies
import Derived.Maps.AppendAt
import Derived.OwnWalk
import Derived.Laws.BytesArg
import Derived.Laws.MakeOwn
import Derived.Laws.OwnMore
import Derived.Deep.OwnRows
import Derived.Tactics
import Derived.Lib.ConvBytes
import Derived.Laws.Slices
import Derived.WalkKit
import Derived.KernelRfl
import Derived.RowKit3
import Derived.Deep.LoopGhost
import Derived.Deep.QuietTactic
import Derived.BigQuiet
import Derived.WideLaws
import Derived.Deep.DeepCutAuto
import Derived.Deep.CutBlock
import Derived.Deep.RegionHeld3
import Derived.Laws.Rows
import Derived.Lib.AppendStr
import Derived.ArgAppend
import Derived.Laws.IdiomCopy
import Derived.OrdersHeld
import Derived.Laws.BitsLemmas
import Derived.RowKit
import Derived.Test.YtnaeekahmbilnaaShelf
import Derived.Test.YtnaeekahmbilnaaWWords
import Derived.Test.YtnaeekahmbilnaaWLast
import Derived.Test.YtnaeekahmbilnaaWTab
import Derived.Test.YtnaeekahmbilnaaWFour
import Derived.Test.YtnaeekahmbilnaaWQPut
import Derived.Test.YtnaeekahmbilnaaWApart
import Derived.Test.YtnaeekahmbilnaaWArr
import Derived.Test.YtnaeekahmbilnaaWZeros
import Derived.Test.YtnaeekahmbilnaaWFoot
import Derived.Test.YtnaeekahmbilnaaWKept
import Derived.Test.YtnaeekahmbilnaaWShare
import Derived.Test.YtnaeekahmbilnaaWN
import Derived.Test.YtnaeekahmbilnaaWFootNe
import Derived.Test.YtnaeekahmbilnaaWAt
import Derived.Test.YtnaeekahmbilnaaWEqStruct
import Derived.Test.YtnaeekahmbilnaaWRepsOne
import Derived.Test.YtnaeekahmbilnaaWInv
import Derived.Test.YtnaeekahmbilnaaWInvWords
import Derived.Test.YtnaeekahmbilnaaWGuard
import Derived.Test.YtnaeekahmbilnaaWNEv
import Derived.Test.YtnaeekahmbilnaaWMore
namespace Go.Proofs.Ytnaeekahmbilnaa.Nam
open Go.RowKit Go.Proofs.YtnaeekahmbilnaaW.PrintWords Go.Proofs.YtnaeekahmbilnaaW.PrintLast Go.Proofs.YtnaeekahmbilnaaW.PrintMore
set_option maxHeartbeats 2000000 in
set_option maxRecDepth 100000 in
theorem are_any (b n c : Nat) (hn : n ≤ 1000) (w : World) (V : Nat → Int)
    (h0 : ∀ i, i < n → w.cell? ⟨b, i * 2, none⟩ = some (.int .i64 (V i))) (h1 : ∀ i, i < n → w.cell? ⟨b, i * 2 + 1, none⟩ = some (.int .i64 (V i))) :
    Calls Try.prog 45 #[.slice (some ⟨b, 0, none⟩) n c] w fun e w' => e = .returned (.bool true) ∧ Drawn0 w w' := by
  have H0 := Aside0.mk h0
  have H1 := Aside0.mk h1
  clear h0 h1
  go_enter Try.func45, Try.ntmps45
  go_wp2
  go_loopw [3] (fun v3 w' => ∃ (i m : Nat), i ≤ n ∧ v3 = .int .i64 i ∧ w' = w.drewN m) (fun v3 _ => n - (intOf v3).toNat)
  case atStart => exact ⟨0, 0, Nat.zero_le _, rfl, rfl⟩
  case round =>
    obtain ⟨i, m, hi, rfl, rfl⟩ := hrel
    by_cases hlt : i < n
    · have g0 := H0.out i hlt
      have g1 := H1.out i hlt
      go_wp2
      go_quiet (fail)
      go_wp2
      go_roundw
      case rel => exact ⟨i + 1, _, by omega, by go_num, rfl⟩
      case measure => simp [intOf]; omega
    · go_wp2
      go_ret
      exact ⟨rfl, by repeat (first | exact Drawn0.refl _ | apply Drawn0.step)⟩
/-! ### first, second -/
def first_c : Array Value := #[.int .i64 0, .int .i64 0, .int .i64 1, .int .i64 1, .int .i64 2, .int .i64 2, .int .i64 3, .int .i64 3, .int .i64 4, .int .i64 4, .int .i64 5, .int .i64 5, .int .i64 6, .int .i64 6, .int .i64 7, .int .i64 7, .int .i64 10, .int .i64 10, .int .i64 11, .int .i64 11, .int .i64 12, .int .i64 12, .int .i64 13, .int .i64 13, .int .i64 20, .int .i64 20, .int .i64 21, .int .i64 21, .int .i64 22, .int .i64 22, .int .i64 30, .int .i64 30, .int .i64 31, .int .i64 31, .int .i64 32, .int .i64 32, .int .i64 512, .int .i64 512, .int .i64 60, .int .i64 60, .int .i64 16777216, .int .i64 16777216, .int .i64 67108864, .int .i64 67108864, .int .i64 9007199254740992, .int .i64 9007199254740992, .int .i64 120, .int .i64 120, .int .i64 1048576, .int .i64 1048576]
def first_v : Nat → Int := (fun i => ([0, 1, 2, 3, 4, 5, 6, 7, 10, 11, 12, 13, 20, 21, 22, 30, 31, 32, 512, 60, 16777216, 67108864, 9007199254740992, 120, 1048576] : List Int).getD i 0)
theorem first_0 (w : World) : ∀ i, i < 25 → (w.alloc (.cells first_c 44)).cell? ⟨w.heap.size, i * 2, none⟩ = some (.int .i64 (first_v i)) := by
  intro i hi
  rw [World.cell?_alloc_new]
  have h : i = 0 ∨ i = 1 ∨ i = 2 ∨ i = 3 ∨ i = 4 ∨ i = 5 ∨ i = 6 ∨ i = 7 ∨ i = 8 ∨ i = 9 ∨ i = 10 ∨ i = 11 ∨ i = 12 ∨ i = 13 ∨ i = 14 ∨ i = 15 ∨ i = 16 ∨ i = 17 ∨ i = 18 ∨ i = 19 ∨ i = 20 ∨ i = 21 ∨ i = 22 ∨ i = 23 ∨ i = 24 := by omega
  rcases h with rfl | rfl | rfl | rfl | rfl | rfl | rfl | rfl | rfl | rfl | rfl | rfl | rfl | rfl | rfl | rfl | rfl | rfl | rfl | rfl | rfl | rfl | rfl | rfl | rfl <;> rfl
theorem first_1 (w : World) : ∀ i, i < 25 → (w.alloc (.cells first_c 44)).cell? ⟨w.heap.size, i * 2 + 1, none⟩ = some (.int .i64 (first_v i)) := by
  intro i hi
  rw [World.cell?_alloc_new]
  have h : i = 0 ∨ i = 1 ∨ i = 2 ∨ i = 3 ∨ i = 4 ∨ i = 5 ∨ i = 6 ∨ i = 7 ∨ i = 8 ∨ i = 9 ∨ i = 10 ∨ i = 11 ∨ i = 12 ∨ i = 13 ∨ i = 14 ∨ i = 15 ∨ i = 16 ∨ i = 17 ∨ i = 18 ∨ i = 19 ∨ i = 20 ∨ i = 21 ∨ i = 22 ∨ i = 23 ∨ i = 24 := by omega
  rcases h with rfl | rfl | rfl | rfl | rfl | rfl | rfl | rfl | rfl | rfl | rfl | rfl | rfl | rfl | rfl | rfl | rfl | rfl | rfl | rfl | rfl | rfl | rfl | rfl | rfl <;> rfl
set_option maxHeartbeats 2000000 in
set_option maxRecDepth 100000 in
theorem first_any (w : World) : Calls Try.prog 23 #[] w fun e w' => e = .returned (.bool true) ∧ Below w.heap.size w w' := by
  have A := Aside0.mk (are_any w.heap.size 25 25 (by decide) (w.alloc (.cells first_c 44)) first_v (first_0 w) (first_1 w))
  unfold first_c at A
  have FIN : Aside0 (∀ n : Nat, Below w.heap.size w ((w.alloc (.cells #[.int .i64 0, .int .i64 0, .int .i64 1, .int .i64 1, .int .i64 2, .int .i64 2, .int .i64 3, .int .i64 3, .int .i64 4, .int .i64 4, .int .i64 5, .int .i64 5, .int .i64 6, .int .i64 6, .int .i64 7, .int .i64 7, .int .i64 10, .int .i64 10, .int .i64 11, .int .i64 11, .int .i64 12, .int .i64 12, .int .i64 13, .int .i64 13, .int .i64 20, .int .i64 20, .int .i64 21, .int .i64 21, .int .i64 22, .int .i64 22, .int .i64 30, .int .i64 30, .int .i64 31, .int .i64 31, .int .i64 32, .int .i64 32, .int .i64 512, .int .i64 512, .int .i64 60, .int .i64 60, .int .i64 16777216, .int .i64 16777216, .int .i64 67108864, .int .i64 67108864, .int .i64 9007199254740992, .int .i64 9007199254740992, .int .i64 120, .int .i64 120, .int .i64 1048576, .int .i64 1048576] 44)).drewN n)) := ⟨fun n => pw_below_drewN (below_alloc (Below.refl _ _) _) n⟩
  go_enter Try.func23, Try.ntmps23
  go_wp2_with (go_at_call 45; refine A.out.mono ?_; rintro e w' ⟨rfl, ⟨nd, rfl⟩⟩)
  go_ret
  exact ⟨rfl, FIN.out _⟩
def second_c : Array Value := #[.int .i64 16, .int .i64 16, .int .i64 64, .int .i64 64, .int .i64 1000, .int .i64 1000, .int .i64 200, .int .i64 200, .int .i64 10000, .int .i64 10000, .int .i64 8, .int .i64 8, .int .i64 10000, .int .i64 10000, .int .i64 200, .int .i64 200, .int .i64 100, .int .i64 100, .int .i64 1048576, .int .i64 1048576, .int .i64 262144, .int .i64 262144, .int .i64 8000, .int .i64 8000, .int .i64 4294967296, .int .i64 4294967296, .int .i64 9223372036854775807, .int .i64 9223372036854775807, .int .i64 (-9223372036854775808), .int .i64 (-9223372036854775808), .int .i64 1, .int .i64 1, .int .i64 2, .int .i64 2, .int .i64 3, .int .i64 3, .int .i64 4, .int .i64 4, .int .i64 1, .int .i64 1, .int .i64 2, .int .i64 2, .int .i64 3, .int .i64 3, .int .i64 4, .int .i64 4, .int .i64 5, .int .i64 5]
def second_v : Nat → Int := (fun i => ([16, 64, 1000, 200, 10000, 8, 10000, 200, 100, 1048576, 262144, 8000, 4294967296, 9223372036854775807, (-9223372036854775808), 1, 2, 3, 4, 1, 2, 3, 4, 5] : List Int).getD i 0)
theorem second_0 (w : World) : ∀ i, i < 24 → (w.alloc (.cells second_c 44)).cell? ⟨w.heap.size, i * 2, none⟩ = some (.int .i64 (second_v i)) := by
  intro i hi
  rw [World.cell?_alloc_new]
  have h : i = 0 ∨ i = 1 ∨ i = 2 ∨ i = 3 ∨ i = 4 ∨ i = 5 ∨ i = 6 ∨ i = 7 ∨ i = 8 ∨ i = 9 ∨ i = 10 ∨ i = 11 ∨ i = 12 ∨ i = 13 ∨ i = 14 ∨ i = 15 ∨ i = 16 ∨ i = 17 ∨ i = 18 ∨ i = 19 ∨ i = 20 ∨ i = 21 ∨ i = 22 ∨ i = 23 := by omega
  rcases h with rfl | rfl | rfl | rfl | rfl | rfl | rfl | rfl | rfl | rfl | rfl | rfl | rfl | rfl | rfl | rfl | rfl | rfl | rfl | rfl | rfl | rfl | rfl | rfl <;> rfl
theorem second_1 (w : World) : ∀ i, i < 24 → (w.alloc (.cells second_c 44)).cell? ⟨w.heap.size, i * 2 + 1, none⟩ = some (.int .i64 (second_v i)) := by
  intro i hi
  rw [World.cell?_alloc_new]
  have h : i = 0 ∨ i = 1 ∨ i = 2 ∨ i = 3 ∨ i = 4 ∨ i = 5 ∨ i = 6 ∨ i = 7 ∨ i = 8 ∨ i = 9 ∨ i = 10 ∨ i = 11 ∨ i = 12 ∨ i = 13 ∨ i = 14 ∨ i = 15 ∨ i = 16 ∨ i = 17 ∨ i = 18 ∨ i = 19 ∨ i = 20 ∨ i = 21 ∨ i = 22 ∨ i = 23 := by omega
  rcases h with rfl | rfl | rfl | rfl | rfl | rfl | rfl | rfl | rfl | rfl | rfl | rfl | rfl | rfl | rfl | rfl | rfl | rfl | rfl | rfl | rfl | rfl | rfl | rfl <;> rfl
set_option maxHeartbeats 2000000 in
set_option maxRecDepth 100000 in
theorem second_any (w : World) : Calls Try.prog 24 #[] w fun e w' => e = .returned (.bool true) ∧ Below w.heap.size w w' := by
  have A := Aside0.mk (are_any w.heap.size 24 24 (by decide) (w.alloc (.cells second_c 44)) second_v (second_0 w) (second_1 w))
  unfold second_c at A
  have FIN : Aside0 (∀ n : Nat, Below w.heap.size w ((w.alloc (.cells #[.int .i64 16, .int .i64 16, .int .i64 64, .int .i64 64, .int .i64 1000, .int .i64 1000, .int .i64 200, .int .i64 200, .int .i64 10000, .int .i64 10000, .int .i64 8, .int .i64 8, .int .i64 10000, .int .i64 10000, .int .i64 200, .int .i64 200, .int .i64 100, .int .i64 100, .int .i64 1048576, .int .i64 1048576, .int .i64 262144, .int .i64 262144, .int .i64 8000, .int .i64 8000, .int .i64 4294967296, .int .i64 4294967296, .int .i64 9223372036854775807, .int .i64 9223372036854775807, .int .i64 (-9223372036854775808), .int .i64 (-9223372036854775808), .int .i64 1, .int .i64 1, .int .i64 2, .int .i64 2, .int .i64 3, .int .i64 3, .int .i64 4, .int .i64 4, .int .i64 1, .int .i64 1, .int .i64 2, .int .i64 2, .int .i64 3, .int .i64 3, .int .i64 4, .int .i64 4, .int .i64 5, .int .i64 5] 44)).drewN n)) := ⟨fun n => pw_below_drewN (below_alloc (Below.refl _ _) _) n⟩
  go_enter Try.func24, Try.ntmps24
  go_wp2_with (go_at_call 45; refine A.out.mono ?_; rintro e w' ⟨rfl, ⟨nd, rfl⟩⟩)
  go_ret
  exact ⟨rfl, FIN.out _⟩
set_option maxHeartbeats 2000000 in
set_option maxRecDepth 100000 in
theorem names_any (w : World) : Calls Try.prog 5 #[] w fun e w' => e = .returned (.bool true) ∧ Below w.heap.size w w' := by
  have HB := Aside0.mk (Below.refl w.heap.size w)
  go_enter Try.func5, Try.ntmps5
  go_wp2_with (first | (go_at_call 23; refine (first_any _).mono ?_; rintro e w1 ⟨rfl, hb⟩; have HB1 := Aside0.mk hb; clear hb) | (go_at_call 24; refine (second_any _).mono ?_; rintro e w2 ⟨rfl, hb⟩; have HB2 := Aside0.mk (below_step HB1.out hb); clear hb))
  go_ret
  exact ⟨rfl, HB2.out⟩
end Go.Proofs.Ytnaeekahmbilnaa.Nam
