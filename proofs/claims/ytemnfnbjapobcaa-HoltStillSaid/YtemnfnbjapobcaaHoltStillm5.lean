-- Laid together by wip/shake.py out of: Holt5 Ref1 Holt6 Holt7 Extra Hpx0 Hpx1 Hpx4 PureHoltStill Over LawHoltStill
import Derived.Test.YtemnfnbjapobcaaHoltStillm4
import Derived.Test.YtemnfnbjapobcaaProg
import Derived.Below
import Derived.Deep.Draws
import Derived.Deep.AppendLies
import Derived.Maps.AppendAt
import Derived.OwnWalk
import Derived.Laws.BytesArg
import Derived.Laws.MakeOwn
import Derived.Laws.OwnMore
import Derived.Deep.OwnRows
import Derived.Tactics
import Derived.Lib.ConvBytes
import Derived.Laws.Slices
import Derived.WalkKit
import Derived.KernelRfl
import Derived.RowKit3
import Derived.Deep.LoopGhost
import Derived.Deep.QuietTactic
import Derived.BigQuiet
import Derived.WideLaws
import Derived.Deep.DeepCutAuto
import Derived.Deep.CutBlock
import Derived.Deep.RegionHeld3
import Derived.Laws.Rows
import Derived.Lib.AppendStr
import Derived.ArgAppend
import Derived.Laws.IdiomCopy
import Derived.OrdersHeld
import Derived.Laws.BitsLemmas
import Derived.RowKit
import Derived.Test.YtemnfnbjapobcaaRows
import Derived.ProofKit
import Derived.JoinedOf
import Derived.OpenShut
import Derived.ShutString
import Derived.ChangeOld
import Derived.SizedLaws
section
namespace Go.Proofs.Ytemnfnbjapobcaa.Ho
open Go.RowKit Go.Proofs.YtemnfnbjapobcaaW.PrintWords Go.Proofs.YtemnfnbjapobcaaW.PrintLast Go.Proofs.YtemnfnbjapobcaaW.PrintMore
open Go.Proofs.Ytemnfnbjapobcaa.FS Go.Proofs.Ytemnfnbjapobcaa.HS
set_option linter.unusedVariables false
set_option linter.unusedSimpArgs false
theorem mean_n (A : Option Addr) (n c : Nat) (l : List Int) (w : World) (e : l.length = n) (hr : Kd.C (Kd.int .i64) w A n l) (hl : n ≤ 1000000000000) (hin : AllIn l) :
    Calls Try.prog 101 #[.slice A n c] w fun e w' => e = .returned (.int .i64 (meanS l)) ∧ Drawn0 w w' := by
  subst e
  exact mean_calls A c l w hr hl hin
theorem allIn_take {l : List Int} (h : AllIn l) (n : Nat) : AllIn (l.take n) := fun x hx => h x (List.mem_of_mem_take hx)
theorem allIn_drop {l : List Int} (h : AllIn l) (n : Nat) : AllIn (l.drop n) := fun x hx => h x (List.mem_of_mem_drop hx)
theorem cell_made {w w' : World} {n : Nat} {p : Addr} {v : Value} (h : Made w w' n) (hc : w.cell? p = some v) : w'.cell? p = some v := (h.below.cell (World.block_lt_of_cell? _ _ hc)).trans hc
theorem weighed_x (wt : Int) (hwt : FS.In wt) (w : World) :
    Calls Try.prog 103 #[.int .i64 wt] w fun e w' => e = .returned (.func (.func 135) #[] #[.pointer (some ⟨w.heap.size, 0, none⟩), .pointer (some ⟨w.heap.size + 1, 0, none⟩)]) ∧ MixAt w' w.heap.size wt ∧ Made w w' 2 := weighed_calls wt hwt w
theorem below_alloc_ {n : Nat} {w W : World} (h : Below n w W) (hn : n ≤ W.heap.size) (o : Obj) : Below n w (W.alloc o) := h.alloc hn o
theorem cell_alloc {w : World} {p : Addr} {v : Value} (hc : w.cell? p = some v) (o : Obj) : (w.alloc o).cell? p = some v := by
  rw [World.cell?_alloc_lt _ _ _ (World.block_lt_of_cell? _ _ hc)]; exact hc
theorem cell_of_alloc {w : World} {p : Addr} {v : Value} {o : Obj} (hc : (w.alloc o).cell? p = some v) (hp : p.block < w.heap.size) : w.cell? p = some v := by
  rwa [World.cell?_alloc_lt _ _ _ hp] at hc
theorem parts_len (l : List Int) (av : Int) {k N : Nat} (h : k ≤ N) (hN : N ≤ l.length) : (((l.take N).take k).map (fun x => subS x av)).length = k := by simp; omega
theorem parts_snoc (l : List Int) (av : Int) {k N : Nat} (h : k < N) (hN : N ≤ l.length) : ((l.take N).take (k + 1)).map (fun x => subS x av) = ((l.take N).take k).map (fun x => subS x av) ++ [subS (rd l (k : Int)) av] := by
  have e : rd l (k : Int) = l[k]'(by omega) := by
    show l.getD k 0 = _
    simp [List.getD_eq_getElem?_getD, List.getElem?_eq_getElem (show k < l.length by omega)]
  rw [List.take_succ_eq_append_getElem (by simp; omega), List.map_append, e]
  simp
structure Lay (V W : World) (lo b : Nat) (cs : Value → Array Value) (v : Value) (l : List Int) : Prop where
  blk : W.heap[b]? = some (.cells (cs v) 99 (0, 0))
  row : W.ownsRow (b + 1) 3 1 v l.length (nums .i64 l)
  kept : Kept V W (· = b)
  below : Below lo V W
def moV (m : Mo) : Value := .agg #[.int .i64 m.n, .int .i64 m.a, .int .i64 m.b, .int .i64 m.c]
set_option maxRecDepth 100000 in
set_option maxHeartbeats 4000000 in
theorem begin_calls (A : Option Addr) (c : Nat) (l : List Int) (m : Mo) (w : World) (hr : Kd.C (Kd.int .i64) w A l.length l) (hc : l.length ≤ c) (hin : AllIn l) (hm : Mo.wIn m) (hn : 1 ≤ m.n) (hl : 2 * m.n ≤ (l.length : Int)) (hll : l.length ≤ 1000000000) :
    Calls Try.prog 64 #[.slice A l.length c, moV m] w fun e w' => ∃ b, e = .returned (.pointer (some ⟨b, 0, none⟩)) ∧ StAt w' w.heap.size w'.heap.size b m (beginS l m.n.toNat) ∧ Below w.heap.size w w' := by
  obtain ⟨n, ma, mb, mc⟩ := m
  dsimp only at hn hl
  obtain ⟨N, rfl⟩ := Int.eq_ofNat_of_zero_le (show 0 ≤ n by omega)
  rw [Int.toNat_natCast]
  dsimp only [moV]
  obtain ⟨ad, rfl, _⟩ := Kd.at_int hr 0 (by omega) (by omega)
  obtain ⟨M, hM⟩ : ∃ M, 2 * N = M := ⟨_, rfl⟩
  have e2 : IntKind.i64.wrap (2 * (N : Int)) = (M : Int) := by rw [i64_wrap_id (by omega) (by omega)]; omega
  have b1 : N ≤ M := by omega
  have b2 : M ≤ c := by omega
  have b3 : N ≤ c := by omega
  have b4 : ¬ M = N := by omega
  have b5 : M - N = N := by omega
  have b6 : ¬ N = 0 := by omega
  have m1 : Kd.C (Kd.int .i64) w (some ad) N (l.take N) := by
    have h := Kd.C_take hr (m := N) (by omega)
    rwa [List.length_take, Nat.min_eq_left (by omega)] at h
  have m2 : Kd.C (Kd.int .i64) w (some (ad.add N)) N ((l.drop N).take N) := by
    have h := Kd.C_mid hr (lo := N) (hi := M) (c := c) b1 (by omega) hc
    rw [List.drop_take, b5, if_neg (by omega)] at h
    have e : ((l.drop N).take N).length = N := by simp; omega
    rw [e] at h
    simpa [show (Kd.int .i64).sz = 1 from rfl] using h
  have i1 : FS.In (meanS (l.take N)) := in_divS _ _
  have i2 : FS.In (meanS ((l.drop N).take N)) := in_divS _ _
  have i3 := in_subS (meanS ((l.drop N).take N)) (meanS (l.take N))
  have i4 : FS.In (N : Int) := ⟨by omega, by omega⟩
  have i5 := in_ofS (N : Int)
  obtain ⟨i6, i7, i8⟩ := hm
  dsimp only at i6 i7 i8
  have t1 : (l.take N).length = N := by simp; omega
  have t2 : ((l.drop N).take N).length = N := by simp; omega
  have HH := Aside0.mk (And.intro hr (And.intro hM (And.intro hin (And.intro m1 (And.intro m2 (And.intro t1 t2))))))
  clear hr hM hin m1 m2 t1 t2
  go_enter Try.func64, Try.ntmps64
  go_wp2
  go_quiet ((go_at_call 101; first | exact q0 (mean_n _ _ _ (l.take N) _ HH.out.2.2.2.2.2.1 (Kd.C_drewN (Kd.C_alloc HH.out.2.2.2.1 _) _) (by omega) (allIn_take HH.out.2.2.1 _)) | exact q0 (mean_n _ _ _ ((l.drop N).take N) _ HH.out.2.2.2.2.2.2 (Kd.C_drewN (Kd.C_alloc HH.out.2.2.2.2.1 _) _) (by omega) (allIn_take (allIn_drop HH.out.2.2.1 _) _))))
  revert nq
  intro n1
  go_wp2
  obtain ⟨W, hW⟩ : ∃ W, (w.alloc (.cells #[.int .i64 (N : Int), .int .i64 ma, .int .i64 mb, .int .i64 mc] 29)).drewN n1 = W := ⟨_, rfl⟩
  rw [hW]
  have hb : W.heap[w.heap.size]? = some (.cells #[.int .i64 (N : Int), .int .i64 ma, .int .i64 mb, .int .i64 mc] 29 (0, 0)) := hW ▸ blk_drewN (blk_new w _) n1
  have hs : W.heap.size = w.heap.size + 1 := by rw [← hW]; simp
  have hB : Below w.heap.size w W := hW ▸ pw_below_drewN (below_alloc (Below.refl _ _) _) n1
  have d1 := blk_cell hb 1
  have d2 := blk_cell hb 2
  have d3 := blk_cell hb 3
  simp only [List.getElem?_toArray, List.getElem?_cons_zero, List.getElem?_cons_succ] at d1 d2 d3
  have HW := Aside0.mk (And.intro hW (And.intro hb (And.intro hs hB)))
  clear hW hb hs hB
  go_region_held3 (fun w' => w'.cell? ⟨w.heap.size, 1, none⟩ = some (.int .i64 ma) ∧ w'.cell? ⟨w.heap.size, 2, none⟩ = some (.int .i64 mb) ∧ w'.cell? ⟨w.heap.size, 3, none⟩ = some (.int .i64 mc)) (first | go_keep | (go_split_ands; exact ⟨cell_made hmade (by assumption), cell_made hmade (by assumption), cell_made hmade (by assumption)⟩)) (first | (go_at_call 71; (with_reducible refine (fSub (by assumption) (by assumption) _).mono ?_); rintro e w' ⟨rfl, ⟨nd, rfl⟩⟩) | (go_at_call 69; (with_reducible refine (fOf (by assumption) _).mono ?_); rintro e w' ⟨rfl, ⟨nd, rfl⟩⟩) | (go_at_call 102; (with_reducible refine (fDiv (by assumption) (by assumption) _).mono ?_); rintro e w' ⟨rfl, ⟨nd, rfl⟩⟩) | (go_at_call 103; (with_reducible refine (weighed_x _ (by assumption) _).mono ?_); rintro e w' ⟨rfl, hmix, hmade⟩))
  rename_i w1 hx1 hd1 w2 hx2 hd2 hheld
  clear hheld
  obtain ⟨hW, hb, hs, hB⟩ := HW.out
  have z1 : w1.heap.size = w.heap.size + 3 := by have := hd1.size; simp at this; omega
  have z2 : w2.heap.size = w.heap.size + 5 := by have := hd2.size; omega
  have z3 : w'.heap.size = w.heap.size + 7 := by have := hmade.size; omega
  obtain ⟨tr, htr⟩ : ∃ tr, divS (subS (meanS ((l.drop N).take N)) (meanS (l.take N))) (ofS (N : Int)) = tr := ⟨_, rfl⟩
  rw [htr]
  obtain ⟨av, hav⟩ : ∃ av, meanS (l.take N) = av := ⟨_, rfl⟩
  rw [hav] at i1 ⊢
  obtain ⟨V, hV⟩ : ∃ V, w'.alloc (.cells #[.int .i64 av, .int .i64 tr, .slice none 0 0, .int .i64 0, mixV W.heap.size, mixV w1.heap.size, mixV w2.heap.size] 99) = V := ⟨_, rfl⟩
  dsimp only [mixV] at hV
  rw [hV]
  obtain ⟨B, hBz⟩ : ∃ B, w'.heap.size = B := ⟨_, rfl⟩
  obtain ⟨M1, hM1⟩ : ∃ M1, W.heap.size = M1 := ⟨_, rfl⟩
  obtain ⟨M2, hM2⟩ : ∃ M2, w1.heap.size = M2 := ⟨_, rfl⟩
  obtain ⟨M3, hM3⟩ : ∃ M3, w2.heap.size = M3 := ⟨_, rfl⟩
  rw [hBz, hM1, hM2, hM3]
  rw [hM1, hM2, hM3] at hV
  have y1 : MixAt V M1 ma := by
    rw [← hV, ← hM1]
    have h1 : cell1 w1 W.heap.size ma ∧ cell1 w1 (W.heap.size + 1) (subS 4294967296 ma) := hx1
    exact ⟨blk_alloc (blk_below (blk_below h1.1 hd2.below) hmade.below) _, blk_alloc (blk_below (blk_below h1.2 hd2.below) hmade.below) _⟩
  have y2 : MixAt V M2 mb := by
    rw [← hV, ← hM2]
    exact ⟨blk_alloc (blk_below hx2.1 hmade.below) _, blk_alloc (blk_below hx2.2 hmade.below) _⟩
  have y3 : MixAt V M3 mc := by
    rw [← hV, ← hM3]
    exact ⟨blk_alloc hmix.1 _, blk_alloc hmix.2 _⟩
  have BV : Below w.heap.size w V := by
    rw [← hV]
    refine below_alloc_ (((hB.trans ((pw_below_drewN (Below.refl _ _) _).trans (hd1.below.mono ?_))).trans (hd2.below.mono ?_)).trans (hmade.below.mono ?_)) ?_ _ <;> first | omega | (simp; omega)
  have hbV : V.heap[B]? = some (.cells #[.int .i64 av, .int .i64 tr, .slice none 0 0, .int .i64 0, mixV M1, mixV M2, mixV M3] 99 (0, 0)) := by
    rw [← hV, ← hBz]
    exact blk_new w' _
  have hVz : V.heap.size = B + 1 := by rw [← hV, ← hBz]; simp
  have L0 : Lay V V w.heap.size B (fun v => #[.int .i64 av, .int .i64 tr, v, .int .i64 0, mixV M1, mixV M2, mixV M3]) (.slice none 0 0) [] :=
    ⟨hbV, own_nil _ _ _ _, Kept.refl _ _, Below.refl _ _⟩
  have lB : w.heap.size + 7 = B := by omega
  have lM : M1 = w.heap.size + 1 ∧ M2 = w.heap.size + 3 ∧ M3 = w.heap.size + 5 := by omega
  have G := Aside0.mk (And.intro y1 (And.intro y2 (And.intro y3 (And.intro BV (And.intro hVz (And.intro lB (And.intro lM (And.intro htr hav))))))))
  have GL := Aside0.mk L0
  clear hbV hVz BV y1 y2 y3 hV L0 hM1 hM2 hM3 hBz z1 z2 z3 hW hb hs hB hx1 hd1 hx2 hd2 hmix hmade d1 d2 d3 HW lB lM htr hav
  go_wp2
  go_loopg [49] N (fun kq v49 W' => ∃ (k : Nat) (v : Value), v49 = .int .i64 (k : Int) ∧ Aside0 (kq + k = N) ∧ Aside0 (Lay V W' w.heap.size B (fun v => #[.int .i64 av, .int .i64 tr, v, .int .i64 0, mixV M1, mixV M2, mixV M3]) v (((l.take N).take k).map (fun x => subS x av))))
  case atStart => exact ⟨0, _, rfl, ⟨rfl⟩, by simpa using GL⟩
  case round =>
    obtain ⟨k, v, rfl, HK, HL⟩ := hrel
    by_cases ck : k < N
    · have c1 : decide ((k : Int) < (N : Int)) = true := decide_eq_true (by omega)
      obtain ⟨ad', e, r0⟩ := Kd.at_int (Kd.C_below HH.out.1 (G.out.2.2.2.1.trans HL.out.below)) (k : Int) (by omega) (by omega)
      cases e
      rw [Int.toNat_natCast] at r0
      have j1 : FS.In (rd l (k : Int)) := allIn_getD HH.out.2.2.1 k
      have u2 := blk_cell HL.out.blk 2
      simp only [List.getElem?_toArray, List.getElem?_cons_zero, List.getElem?_cons_succ] at u2
      have f2 := blk_frozen HL.out.blk 2
      have kN : k < N := ck
      clear ck
      go_wp2
      refine start_ (n := 13) (S := fun w' => w'.cell? ⟨B, 2, none⟩ = some v) (ds := [12]) #[false, false, false, false, false, false, false, false, false, false, false, false, false] (by kernel_rfl) rfl rfl u2 (fun hHeld => ?_)
      refine pure_ (i := 0) (N := some 53) (v := ?_) (a' := ?_) #[true, false, false, false, false, false, false, false, false, false, false, false, false] rfl rfl (by kernel_rfl) (fun _ _ _ h => h) (Or.inl ⟨by rfl, ?_⟩) ?_ ?_
      rotate_left
      · intro w'
        go_simp
        with_reducible rfl
      rotate_left
      · simp only [Act.put, List.setIfInBounds_toArray, List.set_cons_zero, List.set_cons_succ, i64_w, i32_w]
        rfl
      refine pure_ (i := 1) (N := some 54) (v := ?_) (a' := ?_) #[true, true, false, false, false, false, false, false, false, false, false, false, false] rfl rfl (by kernel_rfl) (fun _ _ _ h => h) (Or.inl ⟨by rfl, ?_⟩) ?_ ?_
      rotate_left
      · intro w'
        go_simp
        with_reducible rfl
      rotate_left
      · simp only [Act.put, List.setIfInBounds_toArray, List.set_cons_zero, List.set_cons_succ, i64_w, i32_w]
        rfl
      refine pure_ (i := 2) (N := some 55) (v := ?_) (a' := ?_) #[true, true, true, false, false, false, false, false, false, false, false, false, false] rfl rfl (by kernel_rfl) (fun _ _ _ h => h) (Or.inl ⟨by rfl, ?_⟩) ?_ ?_
      rotate_left
      · intro w'
        go_simp
        with_reducible rfl
      rotate_left
      · simp only [Act.put, List.setIfInBounds_toArray, List.set_cons_zero, List.set_cons_succ, i64_w, i32_w]
        rfl
      refine pure_ (i := 3) (N := some 56) (v := ?_) (a' := ?_) #[true, true, true, true, false, false, false, false, false, false, false, false, false] rfl rfl (by kernel_rfl) (fun _ _ _ h => h) (Or.inl ⟨by rfl, ?_⟩) ?_ ?_
      rotate_left
      · intro w'
        go_simp
        with_reducible rfl
      rotate_left
      · simp only [Act.put, List.setIfInBounds_toArray, List.set_cons_zero, List.set_cons_succ, i64_w, i32_w]
        rfl
      refine pure_ (i := 5) (N := some 58) (v := ?_) (a' := ?_) #[true, true, true, true, false, true, false, false, false, false, false, false, false] rfl rfl (by kernel_rfl) (fun _ _ _ h => h) (Or.inl ⟨by rfl, ?_⟩) ?_ ?_
      rotate_left
      · intro w'
        go_simp
        with_reducible rfl
      rotate_left
      · simp only [Act.put, List.setIfInBounds_toArray, List.set_cons_zero, List.set_cons_succ, i64_w, i32_w]
        rfl
      refine pure_ (i := 6) (N := some 59) (v := ?_) (a' := ?_) #[true, true, true, true, false, true, true, false, false, false, false, false, false] rfl rfl (by kernel_rfl) (fun _ _ _ h => h) (Or.inl ⟨by rfl, ?_⟩) ?_ ?_
      rotate_left
      · intro w'
        go_simp
        with_reducible rfl
      rotate_left
      · simp only [Act.put, List.setIfInBounds_toArray, List.set_cons_zero, List.set_cons_succ, i64_w, i32_w]
        rfl
      refine take_ (i := 4) (N := some 57) (v := ?_) (a' := ?_) #[true, true, true, true, true, true, true, false, false, false, false, false, false] rfl rfl (by kernel_rfl) (fun _ _ _ h => h) (Or.inl ⟨by rfl, ?_⟩) hHeld ?_ ?_
      rotate_left
      · rintro w' s0
        go_simp
        with_reducible rfl
      rotate_left
      · simp only [Act.put, List.setIfInBounds_toArray, List.set_cons_zero, List.set_cons_succ, i64_w, i32_w]
        rfl
      refine one_ (i := 7) (N := some 60) #[true, true, true, true, true, true, true, true, false, false, false, false, false] rfl rfl (by kernel_rfl) (by decide) (fun K hK => ?_)
      refine goes_ Try.func71 (by kernel_rfl) rfl #[.int .i64 (rd l (k : Int)), .int .i64 av] (by rfl) rfl rfl (by simp [Act.eval]) ?_
      refine (fSub j1 i1 _).mono ?_
      rintro e w' ⟨rfl, ⟨nd, rfl⟩⟩
      refine ⟨_, rfl, hK.out _ _ hHeld (fun hHeld => ?_)⟩
      clear hK K
      refine norm_ (by simp only [Act.put, List.setIfInBounds_toArray, List.set_cons_zero, List.set_cons_succ, i64_w, i32_w]; rfl) ?_
      refine one_ (i := 8) (N := some 61) #[true, true, true, true, true, true, true, true, true, false, false, false, false] rfl rfl (by kernel_rfl) (by decide) (fun K hK => ?_)
      refine value_ (w1 := (wr.drew.drewN nd).alloc (.cells #[.int .i64 (subS (rd l (k : Int)) av)] 3)) (v := .slice (some ⟨wr.heap.size, 0, none⟩) 1 1) (by rfl) rfl (by go_simp) ?_
      refine hK.out _ _ (cell_alloc hHeld _) (fun hHeld => ?_)
      clear hK K
      refine norm_ (by simp only [Act.put, List.setIfInBounds_toArray, List.set_cons_zero, List.set_cons_succ, i64_w, i32_w]; rfl) ?_
      refine one_ (i := 9) (N := some 62) #[true, true, true, true, true, true, true, true, true, true, false, false, false] rfl rfl (by kernel_rfl) (by decide) (fun K hK => ?_)
      have hlk := parts_len l av (show k ≤ N by omega) (show N ≤ l.length by omega)
      obtain ⟨gB, gz⟩ : w.heap.size + 7 = B ∧ V.heap.size = B + 1 := ⟨G.out.2.2.2.2.2.1, G.out.2.2.2.2.1⟩
      have gz2 := HL.out.kept.1
      refine step_append_cells (w0 := wr.drew.drewN nd) (W := wr.drew.drewN nd) (B + 1) (by rfl) (.tmp 57) (.tmp 61) 23 3 (.int .i64 0) 1 8 rfl Try.underlying23 info3 rfl (by decide) (by decide) v _ _ [.int .i64 (subS (rd l (k : Int)) av)] (by simp [Act.eval]) (by simp [Act.eval]) rfl (by intro u hu; simp at hu; subst hu; rfl) (pw_own_drewN (own_drew HL.out.row) nd) (Below.refl _ _) (by simp; omega) (by rw [hlk]; omega) ?_
      intro v1 w1 hown hbel hgr hat
      have hHeld2 := (hbel.cell (p := ⟨B, 2, none⟩) (by simp)).trans (cell_of_alloc hHeld (by simp; omega))
      refine hK.out _ _ hHeld2 (fun hHeld => ?_)
      clear hK K
      refine norm_ (by simp only [Act.put, List.setIfInBounds_toArray, List.set_cons_zero, List.set_cons_succ, i64_w, i32_w]; rfl) ?_
      refine pure_ (i := 10) (N := some 63) (v := ?_) (a' := ?_) #[true, true, true, true, true, true, true, true, true, true, true, false, false] rfl rfl (by kernel_rfl) (fun _ _ _ h => h) (Or.inl ⟨by rfl, ?_⟩) ?_ ?_
      rotate_left
      · intro w'
        go_simp
        with_reducible rfl
      rotate_left
      · simp only [Act.put, List.setIfInBounds_toArray, List.set_cons_zero, List.set_cons_succ, i64_w, i32_w]
        rfl
      refine pure_ (i := 11) (N := some 64) (v := ?_) (a' := ?_) #[true, true, true, true, true, true, true, true, true, true, true, true, false] rfl rfl (by kernel_rfl) (fun _ _ _ h => h) (Or.inl ⟨by rfl, ?_⟩) ?_ ?_
      rotate_left
      · intro w'
        go_simp
        with_reducible rfl
      rotate_left
      · simp only [Act.put, List.setIfInBounds_toArray, List.set_cons_zero, List.set_cons_succ, i64_w, i32_w]
        rfl
      refine last_ (i := 12) (N := none) #[true, true, true, true, true, true, true, true, true, true, true, true, true] rfl rfl (by kernel_rfl) (by decide) (fun K hK => ?_)
      have hn1 := parts_snoc l av (show k < N by omega) (show N ≤ l.length by omega)
      have hb1 : w1.heap[B]? = some (.cells #[.int .i64 av, .int .i64 tr, v, .int .i64 0, mixV M1, mixV M2, mixV M3] 99 (0, 0)) := (hbel.block B (by omega)).trans HL.out.blk
      have fz := blk_frozen hb1 2
      have hown2 : w1.ownsRow (B + 1) 3 1 v1 (((l.take N).take (k + 1)).map (fun x => subS x av)).length (nums .i64 (((l.take N).take (k + 1)).map (fun x => subS x av))) := by
        rw [hn1]
        simpa [nums] using hown
      have hlk2 := parts_len l av (show k + 1 ≤ N by omega) (show N ≤ l.length by omega)
      obtain ⟨g, cap, hv1, hg1, hg2⟩ := row_form hown2 (by omega)
      rw [hlk2] at hv1
      subst hv1
      have HZ := Aside0.mk (And.intro hown2 (And.intro hb1 (And.intro hbel (And.intro hgr hn1))))
      clear hown2 hown hb1 hbel hgr hn1 hlk hlk2 hat
      refine skip_ (w1 := w1.setCell ⟨B, 2, none⟩ (.slice (some ⟨g, 0, none⟩) (k + 1) cap)) (by rfl) rfl (by go_simp) ?_
      refine hK.out _ _ ?_
      clear hK K
      refine done_ (by kernel_rfl) ?_
      cases gk with
      | zero => exact absurd HK.out (by omega)
      | succ k1 =>
        go_wp2
        go_roundg k1
        case measure => omega
        case rel =>
          obtain ⟨hown2, hb1, hbel, hgr, hn1⟩ := HZ.out
          refine ⟨k + 1, _, by go_num, ⟨by have := HK.out; omega⟩, ⟨⟨blk_put hb1 2 _ rfl, own_setCell (p := ⟨B, 2, none⟩) hown2 (by simp [Value.ownBlock]; omega) _, ?_, ?_⟩⟩⟩
          · refine ((HL.out.kept.drew.drewN nd).of_grown hgr (fun j hj => ?_)).setCell (.inl rfl) _
            exact .inr (by have := own_base (pw_own_drewN (own_drew HL.out.row) nd) j hj; omega)
          · exact ((HL.out.below.trans ((pw_below_drewN (below_drew1 (Below.refl _ _)) nd).trans (hbel.mono (by omega)))).setCell (by simp; omega) _)
    · have c1 : decide ((k : Int) < (N : Int)) = false := decide_eq_false (by omega)
      obtain rfl : k = N := by have := HK.out; omega
      go_wp2
      go_ret
      obtain ⟨y1, y2, y3, BV, hVz, lB, lM, htr, hav⟩ := G.out
      have hL := HL.out
      have hlk := parts_len l av (Nat.le_refl k) (show k ≤ l.length by omega)
      obtain ⟨g, cap, rfl, hg1, hg2⟩ := row_form hL.row (by omega)
      have hsz := hL.kept.1
      refine ⟨B, rfl, ⟨g, cap, M1, M2, M3, ?_⟩, BV.trans hL.below⟩
      have ebeg : beginS l k = ⟨av, tr, (((l.take k).take k).map (fun x => subS x av)), 0⟩ := by
        rw [← htr, ← hav, List.take_take, Nat.min_self]
        rfl
      rw [ebeg]
      exact ⟨hL.blk, own_less hL.row (by omega), ⟨(hL.kept.2 _ (by omega) (by omega)).trans y1.1, (hL.kept.2 _ (by omega) (by omega)).trans y1.2⟩, ⟨(hL.kept.2 _ (by omega) (by omega)).trans y2.1, (hL.kept.2 _ (by omega) (by omega)).trans y2.2⟩, ⟨(hL.kept.2 _ (by omega) (by omega)).trans y3.1, (hL.kept.2 _ (by omega) (by omega)).trans y3.2⟩, by omega, by omega, by omega, by omega, by omega, by omega, Nat.le_refl _⟩
end Go.Proofs.Ytemnfnbjapobcaa.Ho
end
section
namespace Go.Proofs.Ytemnfnbjapobcaa.Ho
open Go.RowKit Go.Proofs.YtemnfnbjapobcaaW.PrintWords Go.Proofs.YtemnfnbjapobcaaW.PrintLast Go.Proofs.YtemnfnbjapobcaaW.PrintMore
open Go.Proofs.Ytemnfnbjapobcaa.FS Go.Proofs.Ytemnfnbjapobcaa.HS Go.Proofs.Ytemnfnbjapobcaa.FM
set_option linter.unusedVariables false
set_option linter.unusedSimpArgs false
def rCells (m : Mo) (s : St) (v : Value) : Array Value := #[.int .i64 m.n, .int .i64 m.a, .int .i64 m.b, .int .i64 m.c, .int .i64 s.level, .int .i64 s.trend, v, .int .i64 (s.k : Int)]
structure RStIn (W : World) (lo hi b g cap : Nat) (m : Mo) (s : St) : Prop where
  blk : W.heap[b]? = some (.cells (rCells m s (sl g s.parts.length cap)) 41 (0, 0))
  row : row3 W lo g cap s.parts
  inb : lo ≤ b ∧ b < hi
  ing : lo ≤ g ∧ g < hi
  top : hi ≤ W.heap.size
def RStAt (W : World) (lo hi b : Nat) (m : Mo) (s : St) : Prop := ∃ g cap, RStIn W lo hi b g cap m s
theorem RStAt.kept {W W' : World} {lo hi b : Nat} {m : Mo} {s : St} {S : Nat → Prop} (h : RStAt W lo hi b m s) (hk : Kept W W' S) (hS : ∀ k, lo ≤ k → k < hi → ¬ S k) : RStAt W' lo hi b m s := by
  obtain ⟨g, cap, h⟩ := h
  exact ⟨g, cap, (hk.2 _ (by have := h.top; have := h.inb; omega) (hS _ h.inb.1 h.inb.2)).trans h.blk, own_move h.row (fun k hk' => by
    have e : g = k := by simpa [Value.ownBlock] using hk'
    subst e
    exact hk.2 _ (by have := h.top; have := h.ing; omega) (hS _ h.ing.1 h.ing.2)), h.inb, h.ing, Nat.le_trans h.top hk.1⟩
theorem RStAt.wide {W : World} {lo hi lo' hi' b : Nat} {m : Mo} {s : St} (h : RStAt W lo hi b m s) (h1 : lo' ≤ lo) (h2 : hi ≤ hi') (h3 : hi' ≤ W.heap.size) : RStAt W lo' hi' b m s := by
  obtain ⟨g, cap, a, c, d, e, f⟩ := h
  exact ⟨g, cap, a, own_less c h1, by omega, by omega, h3⟩
end Go.Proofs.Ytemnfnbjapobcaa.Ho
end
section
namespace Go.Proofs.Ytemnfnbjapobcaa.Ho
open Go.RowKit Go.Proofs.YtemnfnbjapobcaaW.PrintWords Go.Proofs.YtemnfnbjapobcaaW.PrintLast Go.Proofs.YtemnfnbjapobcaaW.PrintMore
open Go.Proofs.Ytemnfnbjapobcaa.FS Go.Proofs.Ytemnfnbjapobcaa.HS Go.Proofs.Ytemnfnbjapobcaa.FM
set_option linter.unusedVariables false
set_option linter.unusedSimpArgs false
theorem StAt.wide {W : World} {lo hi lo' hi' b : Nat} {m : Mo} {s : St} (h : StAt W lo hi b m s) (h1 : lo' ≤ lo) (h2 : hi ≤ hi') (h3 : hi' ≤ W.heap.size) : StAt W lo' hi' b m s := by
  obtain ⟨g, cap, m1, m2, m3, h⟩ := h
  obtain ⟨a, b, c, d, e, f, g', i, j, k, l, n⟩ := h
  exact ⟨g, cap, m1, m2, m3, a, own_less b h1, c, d, e, by omega, by omega, by omega, by omega, by omega, l, h3⟩
def StartPost (w : World) (l : List Int) (m : Mo) (e : Ending) (w' : World) : Prop :=
  if startE l m ≠ 0 then e = .returned (.tuple #[.pointer none, .int .i64 1]) ∧ Below w.heap.size w w'
  else ∃ b, e = .returned (.tuple #[.pointer (some ⟨b, 0, none⟩), .int .i64 0]) ∧ StAt w' w.heap.size w'.heap.size b m (startS l m) ∧ Below w.heap.size w w'
theorem check_01 (m : Mo) : checkS m = 0 ∨ checkS m = 1 := by unfold checkS; split; exact .inr rfl; split; exact .inl rfl; exact .inr rfl
theorem okW_iff {x : Int} : okW x = true ↔ 0 ≤ x ∧ x ≤ 4294967296 := by unfold okW; simp
theorem check_ok {m : Mo} (h : checkS m = 0) : (1 ≤ m.n ∧ m.n ≤ 10000) ∧ Mo.wIn m := by
  unfold checkS at h
  split at h
  · cases h
  · split at h
    · rename_i h1 h2
      simp only [Bool.and_eq_true, okW_iff] at h2
      refine ⟨by omega, ⟨by omega, by omega⟩, ⟨by omega, by omega⟩, ⟨by omega, by omega⟩⟩
    · cases h
theorem fold_snoc (m : Mo) (l : List Int) (s : St) (k : Nat) (h : k < l.length) : (l.take (k + 1)).foldl (stepS m) s = stepS m ((l.take k).foldl (stepS m) s) (rd l (k : Int)) := by
  have e : rd l (k : Int) = l[k] := by
    show l.getD k 0 = _
    simp [List.getD_eq_getElem?_getD, List.getElem?_eq_getElem h]
  rw [List.take_succ_eq_append_getElem h, List.foldl_append, e]
  rfl
set_option maxHeartbeats 4000000 in
theorem start_calls (A : Option Addr) (c : Nat) (l : List Int) (m : Mo) (w : World) (hr : Kd.C (Kd.int .i64) w A l.length l) (hc : l.length ≤ c) (hin : AllIn l) (hm : FS.In m.n) (hll : l.length ≤ 1000000000) :
    Calls Try.prog 24 #[.slice A l.length c, moV m] w (StartPost w l m) := by
  have kc := check_calls m
  have kb := begin_calls A c l m
  obtain ⟨n, ma, mb, mc⟩ := m
  dsimp only [moV] at kb ⊢
  dsimp only at kc hm
  by_cases h1 : checkS ⟨n, ma, mb, mc⟩ = 0
  · obtain ⟨hn, hw⟩ := check_ok h1
    dsimp only at hn
    obtain ⟨N, rfl⟩ := Int.eq_ofNat_of_zero_le (show 0 ≤ n by omega)
    obtain ⟨M, hM⟩ : ∃ M, 2 * N = M := ⟨_, rfl⟩
    have e2 : wrap64 (2 * (N : Int)) = (M : Int) := by rw [wrap64_id (by omega) (by omega)]; omega
    have e3 : (2 * (N : Int)) = (M : Int) := by omega
    have b0 : (N : Int) ≤ 10000 := hn.2
    rw [h1] at kc
    have KC := Aside0.mk kc
    by_cases h3 : (l.length : Int) < 2 * (N : Int)
    · have g4 : l.length < M := by omega
      have hp : ∀ e w', e = .returned (.tuple #[.pointer none, .int .i64 1]) ∧ Below w.heap.size w w' → StartPost w l ⟨N, ma, mb, mc⟩ e w' := fun e w' h => by
        unfold StartPost
        rw [if_pos (by unfold startE; rw [if_neg (by rw [h1]; decide), if_pos h3]; decide)]
        exact h
      refine Calls.mono ?_ (fun e w' h => hp e w' h)
      clear kc kb h1 hp h3 hM hn
      go_enter Try.func24, Try.ntmps24
      go_wp2_with fail
      (with_reducible refine (KC.out _).mono ?_)
      rintro e w1 ⟨rfl, hb⟩
      have mb1 := blk_below (blk_new w _) hb
      have d0 := blk_cell mb1 0
      have d1 := blk_cell mb1 1
      have d2 := blk_cell mb1 2
      have d3 := blk_cell mb1 3
      simp only [List.getElem?_toArray, List.getElem?_cons_zero, List.getElem?_cons_succ] at d0 d1 d2 d3
      have HB1 := Aside0.mk (And.intro mb1 hb)
      clear mb1 hb
      go_wp2
      go_ret2
      exact ⟨rfl, (below_alloc (Below.refl _ _) _).trans (HB1.out.2.mono (by simp))⟩
    · have g4 : ¬ l.length < M := by omega
      have g5 : ¬ c = N := by omega
      have hl : 2 * (N : Int) ≤ (l.length : Int) := by omega
      have h0 : startE l ⟨N, ma, mb, mc⟩ = 0 := by unfold startE; rw [if_neg (by rw [h1]; decide), if_neg h3]
      have hp : ∀ e w', (∃ b, e = .returned (.tuple #[.pointer (some ⟨b, 0, none⟩), .int .i64 0]) ∧ StAt w' w.heap.size w'.heap.size b ⟨N, ma, mb, mc⟩ (startS l ⟨N, ma, mb, mc⟩) ∧ Below w.heap.size w w') → StartPost w l ⟨N, ma, mb, mc⟩ e w' := fun e w' h => by
        unfold StartPost
        rw [if_neg (by rw [h0]; decide)]
        exact h
      refine Calls.mono ?_ (fun e w' h => hp e w' h)
      have KB := Aside0.mk (fun W (h : Kd.C (Kd.int .i64) W A l.length l) => kb W h hc hin hw hn.1 hl hll)
      have HR := Aside0.mk hr
      have HN := Aside0.mk (And.intro hn (And.intro hM hl))
      have nM : N ≤ l.length := by omega
      obtain ⟨D, hD⟩ : ∃ D, l.length - N = D := ⟨_, rfl⟩
      obtain ⟨ad, rfl, _⟩ := Kd.at_int hr 0 (by omega) (by omega)
      have hd : Kd.C (Kd.int .i64) w (some (ad.add N)) D (l.drop N) := by
        have h := Kd.C_drop hr (m := N) nM hc
        rw [List.length_drop, if_neg g5, hD] at h
        simpa [show (Kd.int .i64).sz = 1 from rfl] using h
      have HD := Aside0.mk hd
      clear hd
      clear kc kb h1 hp h3 hM hn hr h0 hl
      go_enter Try.func24, Try.ntmps24
      go_wp2_with fail
      (with_reducible refine (KC.out _).mono ?_)
      rintro e w1 ⟨rfl, hb⟩
      have mb1 := blk_below (blk_new w _) hb
      have d0 := blk_cell mb1 0
      have d1 := blk_cell mb1 1
      have d2 := blk_cell mb1 2
      have d3 := blk_cell mb1 3
      simp only [List.getElem?_toArray, List.getElem?_cons_zero, List.getElem?_cons_succ] at d0 d1 d2 d3
      have HB1 := Aside0.mk (And.intro mb1 hb)
      clear mb1 hb
      go_wp2_with (go_at_call 64; (with_reducible refine (KB.out _ (Kd.C_below HR.out ((below_alloc (Below.refl _ _) _).trans (HB1.out.2.mono (by simp))))).mono ?_); rintro e w2 ⟨b, rfl, hst, hb2⟩; clear d0 d1 d2 d3; have mb2 := blk_below HB1.out.1 hb2; have d0 := blk_cell mb2 0; simp only [List.getElem?_toArray, List.getElem?_cons_zero] at d0; have HB2 := Aside0.mk (And.intro hst hb2); clear hst hb2 mb2)
      have HX : Aside0 (Below w.heap.size w w2) := ⟨((below_alloc (Below.refl _ _) _).trans (HB1.out.2.mono (by simp))).trans (HB2.out.2.mono (by have := HB1.out.2.size; simp at this; omega))⟩
      have HL : Aside0 (w.heap.size ≤ w1.heap.size) := ⟨by have := HB1.out.2.size; simp at this; omega⟩
      go_loopg [32] D (fun kq v32 W' => ∃ k : Nat, v32 = .int .i64 (k : Int) ∧ Aside0 (kq + k = D) ∧ Aside0 (StAt W' w1.heap.size w2.heap.size b ⟨N, ma, mb, mc⟩ (((l.drop N).take k).foldl (stepS ⟨N, ma, mb, mc⟩) (beginS l N)) ∧ Below w1.heap.size w2 W'))
      case atStart => exact ⟨0, rfl, ⟨rfl⟩, ⟨by simpa using HB2.out.1, Below.refl _ _⟩⟩
      case round =>
        obtain ⟨k, rfl, HK, HS⟩ := hrel
        by_cases ck : k < D
        · have c1 : decide ((k : Int) < (D : Int)) = true := decide_eq_true (by omega)
          obtain ⟨ad', e, r0⟩ := Kd.at_int (Kd.C_below HD.out (HX.out.trans (HS.out.2.mono HL.out))) (k : Int) (by omega) (by omega)
          cases e
          rw [Int.toNat_natCast] at r0
          have j1 : FS.In (rd (l.drop N) (k : Int)) := allIn_getD (allIn_drop hin N) k
          have hS1 : (((l.drop N).take k).foldl (stepS ⟨N, ma, mb, mc⟩) (beginS l N)).In := fold_in _ _ _ (begin_in l N)
          have hS2 : (((l.drop N).take k).foldl (stepS ⟨N, ma, mb, mc⟩) (beginS l N)).parts.length = N := (fold_len _ _ _).trans (begin_len l N nM)
          have hS3 : (((l.drop N).take k).foldl (stepS ⟨N, ma, mb, mc⟩) (beginS l N)).k = k := by
            rw [fold_k, List.length_take, List.length_drop, hD, Nat.min_eq_left (by omega)]
            simp [beginS]
          have SC := Aside0.mk (step_calls w1.heap.size w2.heap.size b ⟨N, ma, mb, mc⟩ _ (rd (l.drop N) (k : Int)) wr HS.out.1 hS1 j1 hw (by rw [hS3]; omega) (by rw [hS2]; have := HN.out.1.1; omega) (by rw [hS2]; omega))
          have hck := Aside0.mk ck
          clear hS1 hS2 hS3
          cases gk with
          | zero => exact absurd HK.out (by have := hck.out; omega)
          | succ k1 =>
            go_wp2_with (go_at_call 30; (with_reducible refine SC.out.mono ?_); rintro e w' ⟨⟨v, rfl⟩, hst, hb, hkp⟩; have HQ := Aside0.mk (And.intro hst hb); clear hst hb hkp)
            go_roundg k1
            case measure => omega
            case rel =>
              refine ⟨k + 1, by go_num, ⟨by have := HK.out; omega⟩, ⟨?_, HS.out.2.trans HQ.out.2⟩⟩
              rw [fold_snoc _ _ _ _ (by rw [List.length_drop, hD]; exact hck.out)]
              exact HQ.out.1
        · have c1 : decide ((k : Int) < (D : Int)) = false := decide_eq_false (by omega)
          have hS2 : (((l.drop N).take k).foldl (stepS ⟨N, ma, mb, mc⟩) (beginS l N)) = startS l ⟨N, ma, mb, mc⟩ := by
            rw [List.take_of_length_le (by rw [List.length_drop, hD]; omega)]
            simp [startS]
          have HQ := Aside0.mk hS2
          clear hS2
          go_wp2
          go_ret2
          have hsz := HS.out.2.size
          refine ⟨b, rfl, ?_, HX.out.trans (HS.out.2.mono HL.out)⟩
          rw [← HQ.out]
          exact HS.out.1.wide HL.out hsz (Nat.le_refl _)
  · have h2 : checkS ⟨n, ma, mb, mc⟩ = 1 := (check_01 _).resolve_left h1
    have hp : ∀ e w', e = .returned (.tuple #[.pointer none, .int .i64 1]) ∧ Below w.heap.size w w' → StartPost w l ⟨n, ma, mb, mc⟩ e w' := fun e w' h => by
      unfold StartPost
      rw [if_pos (by unfold startE; rw [if_pos h1]; decide)]
      exact h
    rw [h2] at kc
    have KC := Aside0.mk kc
    refine Calls.mono ?_ (fun e w' h => hp e w' h)
    clear kc kb h1 h2 hp
    go_enter Try.func24, Try.ntmps24
    go_wp2_with (go_at_call 33; (with_reducible refine (KC.out _).mono ?_); rintro e w' ⟨rfl, hb⟩)
    go_ret2
    exact ⟨rfl, (below_alloc (Below.refl _ _) _).trans (hb.mono (by simp))⟩
end Go.Proofs.Ytemnfnbjapobcaa.Ho
end
section
namespace Go.Proofs.Ytemnfnbjapobcaa.Ho
open Go.RowKit Go.Proofs.YtemnfnbjapobcaaW.PrintWords Go.Proofs.YtemnfnbjapobcaaW.PrintLast Go.Proofs.YtemnfnbjapobcaaW.PrintMore
open Go.Proofs.Ytemnfnbjapobcaa.FS Go.Proofs.Ytemnfnbjapobcaa.HS Go.Proofs.Ytemnfnbjapobcaa.FM
attribute [local go_sem] max2_int min2_int max_two min_two max_three min_three max_four min_four
set_option linter.unusedVariables false
set_option linter.unusedSimpArgs false
theorem startE_01 (l : List Int) (m : Mo) : startE l m = 0 ∨ startE l m = 1 := by unfold startE; split; exact .inr rfl; split; exact .inr rfl; exact .inl rfl
theorem begin_start_in (l : List Int) (m : Mo) : (startS l m).In := fold_in _ _ _ (begin_in _ _)
theorem start_len {l : List Int} {m : Mo} (h : startE l m = 0) : 1 ≤ m.n ∧ m.n ≤ 10000 ∧ Mo.wIn m ∧ 2 * m.n ≤ (l.length : Int) ∧ (startS l m).parts.length = m.n.toNat ∧ (startS l m).k = l.length - m.n.toNat := by
  unfold startE at h
  split at h
  · cases h
  · rename_i h1
    split at h
    · cases h
    · rename_i h2
      obtain ⟨h3, h4⟩ := check_ok (Decidable.not_not.1 h1)
      refine ⟨h3.1, h3.2, h4, by omega, (fold_len _ _ _).trans (begin_len _ _ (by omega)), ?_⟩
      unfold startS
      rw [fold_k, List.length_drop]
      simp [beginS]
set_option maxHeartbeats 1000000 in
theorem cast_calls (A : Option Addr) (c : Nat) (l : List Int) (m : Mo) (ahead : Int) (w : World) (hr : Kd.C (Kd.int .i64) w A l.length l) (hc : l.length ≤ c) (hin : AllIn l) (hm : FS.In m.n) (ha : FS.In ahead) (hll : l.length ≤ 1000000000) :
    Calls Try.prog 22 #[.slice A l.length c, moV m, .int .i64 ahead] w fun e w' => e = .returned (.tuple #[.int .i64 (castS l m ahead).1, .int .i64 (castS l m ahead).2]) ∧ Below w.heap.size w w' := by
  have ks : ∀ W, Kd.C (Kd.int .i64) W A l.length l → Calls Try.prog 24 #[.slice A l.length c, moV m] W (StartPost W l m) := fun W h => start_calls A c l m W h hc hin hm hll
  have HR := Aside0.mk hr
  clear hr
  rcases startE_01 l m with h0 | h0
  · obtain ⟨n1, n2, n3, n4, n5, n6⟩ := start_len h0
    have ks' : ∀ W, Kd.C (Kd.int .i64) W A l.length l → Calls Try.prog 24 #[.slice A l.length c, moV m] W fun e w' => ∃ b, e = .returned (.tuple #[.pointer (some ⟨b, 0, none⟩), .int .i64 0]) ∧ StAt w' W.heap.size w'.heap.size b m (startS l m) ∧ Below W.heap.size W w' := fun W h => by
      refine (ks W h).mono (fun e w' h => ?_)
      unfold StartPost at h
      rw [if_neg (by rw [h0]; decide)] at h
      exact h
    have ec : castS l m ahead = castOf (startS l m) ahead := by unfold castS; rw [if_neg (by rw [h0]; decide)]
    rw [ec]
    have KC := Aside0.mk (fun lo hi b W (h : StAt W lo hi b m (startS l m)) => castOf_calls lo hi b m (startS l m) ahead W h (begin_start_in l m) ha (by rw [n6]; omega) (by rw [n5]; omega) (by rw [n5]; omega))
    have KS := Aside0.mk ks'
    clear ks ks' ec h0 n1 n2 n3 n4 n5 n6
    obtain ⟨n, ma, mb, mc⟩ := m
    obtain ⟨r1, r2⟩ : ∃ r, castOf (startS l ⟨n, ma, mb, mc⟩) ahead = r := ⟨_, rfl⟩
    obtain ⟨r1, r3⟩ := r1
    rw [r2] at KC ⊢
    have R2 := Aside0.mk r2
    clear r2
    dsimp only [moV] at KS ⊢
    go_enter Try.func22, Try.ntmps22
    go_wp2_with (first | (go_at_call 24; (with_reducible refine (KS.out _ (Kd.C_alloc HR.out _)).mono ?_); rintro e w1 ⟨b, rfl, hst, hb⟩; have HS := Aside0.mk (And.intro hst hb); clear hst hb) | (go_at_call 28; (with_reducible refine (KC.out _ _ _ _ HS.out.1).mono ?_); rintro e w' ⟨rfl, ⟨nd, rfl⟩⟩))
    go_ret2
    exact ⟨rfl, pw_below_drewN ((below_alloc (Below.refl _ _) _).trans (HS.out.2.mono (by simp))) _⟩
  · have ks' : ∀ W, Kd.C (Kd.int .i64) W A l.length l → Calls Try.prog 24 #[.slice A l.length c, moV m] W fun e w' => e = .returned (.tuple #[.pointer none, .int .i64 1]) ∧ Below W.heap.size W w' := fun W h => by
      refine (ks W h).mono (fun e w' h => ?_)
      unfold StartPost at h
      rw [if_pos (by rw [h0]; decide)] at h
      exact h
    have ec : castS l m ahead = (0, 1) := by unfold castS; rw [if_pos (by rw [h0]; decide)]
    rw [ec]
    have KS := Aside0.mk ks'
    clear ks ks' ec h0
    obtain ⟨n, ma, mb, mc⟩ := m
    dsimp only [moV] at KS ⊢
    go_enter Try.func22, Try.ntmps22
    go_wp2_with (go_at_call 24; (with_reducible refine (KS.out _ (Kd.C_alloc HR.out _)).mono ?_); rintro e w1 ⟨rfl, hb⟩)
    go_ret2
    exact ⟨rfl, (below_alloc (Below.refl _ _) _).trans (hb.mono (by simp))⟩
end Go.Proofs.Ytemnfnbjapobcaa.Ho
end
section
namespace Go.Proofs.Ytemnfnbjapobcaa
open Go.Proofs.Ytemnfnbjapobcaa.HS
def okL (l : List Int) : Bool := allInB l && decide (l.length ≤ 1000000000)
theorem okL_iff {l : List Int} : okL l = true ↔ AllIn l ∧ l.length ≤ 1000000000 := by unfold okL; simp [allInB_iff]
end Go.Proofs.Ytemnfnbjapobcaa
end
section
namespace Go.Proofs.Ytemnfnbjapobcaa.Hp
open Go.RowKit Go.Proofs.YtemnfnbjapobcaaW.PrintWords Go.Proofs.YtemnfnbjapobcaaW.PrintLast Go.Proofs.YtemnfnbjapobcaaW.PrintMore
attribute [local go_sem] max2_int min2_int max_two min_two max_three min_three max_four min_four   -- for this text's walks alone
set_option linter.unusedVariables false
set_option linter.unusedSimpArgs false
def errW : Option Int → Value
  | none => .nilIface
  | some c => .iface 0 (.int .i64 c)
theorem errW_none : errW none = .nilIface := rfl
theorem errW_some (c : Int) : errW (some c) = .iface 0 (.int .i64 c) := rfl
theorem info3 : (Try.prog.info? 3).map (fun i => (i.zero, i.size, i.bytes)) = some (some (.int .i64 0), 1, 8) := by kernel_rfl
end Go.Proofs.Ytemnfnbjapobcaa.Hp
end
section
namespace Go.Proofs.Ytemnfnbjapobcaa.Hp
open Go.RowKit Go.Proofs.YtemnfnbjapobcaaW.PrintWords Go.Proofs.YtemnfnbjapobcaaW.PrintLast Go.Proofs.YtemnfnbjapobcaaW.PrintMore
attribute [local go_sem] max2_int min2_int max_two min_two max_three min_three max_four min_four   -- for this text's walks alone
set_option linter.unusedVariables false
set_option linter.unusedSimpArgs false
def lysimeterref1_Of.f (a0 : Int) : Option (Int) := if HS.InB a0 then some (HS.ofS a0) else none
theorem lysimeterref1_Of.calls (a0 : Int) (r : Int) (w : World)  (h : lysimeterref1_Of.f a0 = some r) :
    Calls Try.prog 21 #[.int .i64 a0] w fun e w' => e = .returned (.int .i64 r) ∧ Drawn0 w w' := by
  unfold lysimeterref1_Of.f at h
  by_cases c : (HS.InB a0) = true
  · rw [if_pos c] at h
    obtain rfl := Option.some.inj h
    simp only [Bool.and_eq_true, okL_iff, HS.inB_iff] at c
    exact rOf c w
  · rw [if_neg c] at h; cases h
def holt_Cast.f (l0 : List Int) (a1_0 a1_1 a1_2 a1_3 : Int) (a2 : Int) : Option (Int × Int) := if okL l0 && HS.InB a1_0 && HS.InB a2 then some (HS.castS l0 ⟨a1_0, a1_1, a1_2, a1_3⟩ a2) else none
theorem holt_Cast.calls (A0 : Option Addr) (c0 : Nat) (l0 : List Int) (a1_0 a1_1 a1_2 a1_3 : Int) (a2 : Int) (r1 : Int) (r2 : Int) (w : World) (hr0 : Kd.C (Kd.int .i64) w A0 l0.length l0) (hc0 : l0.length ≤ c0) (h : holt_Cast.f l0 a1_0 a1_1 a1_2 a1_3 a2 = some (r1, r2)) :
    Calls Try.prog 22 #[.slice A0 l0.length c0, .agg #[.int .i64 a1_0, .int .i64 a1_1, .int .i64 a1_2, .int .i64 a1_3], .int .i64 a2] w fun e w' => e = .returned (.tuple #[.int .i64 r1, .int .i64 r2]) ∧ Below w.heap.size w w' := by
  unfold holt_Cast.f at h
  by_cases c : (okL l0 && HS.InB a1_0 && HS.InB a2) = true
  · rw [if_pos c] at h
    have e := Option.some.inj h
    obtain ⟨rfl, rfl⟩ : (HS.castS l0 ⟨a1_0, a1_1, a1_2, a1_3⟩ a2).1 = r1 ∧ (HS.castS l0 ⟨a1_0, a1_1, a1_2, a1_3⟩ a2).2 = r2 := by rw [e]; exact ⟨rfl, rfl⟩
    simp only [Bool.and_eq_true, okL_iff, HS.inB_iff] at c
    exact Ho.cast_calls A0 c0 l0 ⟨a1_0, a1_1, a1_2, a1_3⟩ a2 w hr0 hc0 c.1.1.1 c.1.2 c.2 c.1.1.2
  · rw [if_neg c] at h; cases h
def lysimeterlaw23_num.f (a0 : Int) : Option (Int) := some a0
set_option maxHeartbeats 8000000 in
set_option maxRecDepth 100000 in
theorem lysimeterlaw23_num.calls (a0 : Int) (r : Int) (w : World) (h : lysimeterlaw23_num.f a0 = some r) :
    Calls Try.prog 23 #[.int .i64 a0] w fun e w' => e = .returned (.int .i64 r) ∧ Drawn0 w w' := by
  have H : (some a0) = some r := h
  clear h
  obtain rfl := Option.some.inj H
  go_enter Try.func23, Try.ntmps23
  go_wp2
  go_ret
  exact ⟨by first | rfl | (simp; done) | (simp [*]; done), by repeat (first | exact Drawn0.refl _ | apply Drawn0.step)⟩
def lysimeterlaw23_Line.l0 : Nat → Int → Int → Int → List Int → Int → Option (List Int)
  | 0, _, _, _, _, _ => none
  | k + 1, x0, x1, x2, x7, x8 => if x8 < x2 then ((lysimeterref1_Of.f (wrap64 (x0 + (wrap64 (x8 * x1))))).bind fun t101 => (if x7.length < 17592186044416 then (lysimeterlaw23_Line.l0 k x0 x1 x2 (x7 ++ [t101]) (wrap64 (x8 + 1))) else (none))) else (some x7)
def lysimeterlaw23_Line.f (k : Nat) (a0 : Int) (a1 : Int) (a2 : Int) : Option (List Int) := lysimeterlaw23_Line.l0 k a0 a1 a2 ([] : List Int) 0
theorem lysimeterlaw23_Line.mono_l : ∀ k, (∀ y0 y1 y2 y3 y4, LeO (lysimeterlaw23_Line.l0 k y0 y1 y2 y3 y4) (lysimeterlaw23_Line.l0 (k + 1) y0 y1 y2 y3 y4))
  | 0 => fun _ _ _ _ _ r h => by simp [lysimeterlaw23_Line.l0] at h
  | k + 1 => by
    have ih0 := lysimeterlaw23_Line.mono_l k
    · intro y0 y1 y2 y3 y4
      unfold lysimeterlaw23_Line.l0
      repeat' first
      | (with_reducible exact ih0 _ _ _ _ _)
      | (with_reducible exact LeO.refl _)
      | (with_reducible exact LeO.none _)
      | (with_reducible refine LeO.ite ?_ ?_)
      | (with_reducible refine LeO.bind ?_ (fun _ => ?_))
      | exact ih0 _ _ _ _ _
      | exact LeO.none _
      | refine LeO.ite ?_ ?_
      | refine LeO.bind ?_ (fun _ => ?_)
theorem lysimeterlaw23_Line.mono : ∀ a0 a1 a2 k, LeO (lysimeterlaw23_Line.f k a0 a1 a2) (lysimeterlaw23_Line.f (k + 1) a0 a1 a2) := by
  intro a0 a1 a2 k
  have ih0 := lysimeterlaw23_Line.mono_l k
  unfold lysimeterlaw23_Line.f
  repeat' first
      | (with_reducible exact ih0 _ _ _ _ _)
      | (with_reducible exact LeO.refl _)
      | (with_reducible exact LeO.none _)
      | (with_reducible refine LeO.ite ?_ ?_)
      | (with_reducible refine LeO.bind ?_ (fun _ => ?_))
      | exact ih0 _ _ _ _ _
      | exact LeO.none _
      | refine LeO.ite ?_ ?_
      | refine LeO.bind ?_ (fun _ => ?_)
set_option maxHeartbeats 8000000 in
set_option maxRecDepth 100000 in
theorem lysimeterlaw23_Line.calls (k : Nat) (a0 : Int) (a1 : Int) (a2 : Int) (r : List Int) (w : World) (h : lysimeterlaw23_Line.f k a0 a1 a2 = some r) :
    Calls Try.prog 62 #[.int .i64 a0, .int .i64 a1, .int .i64 a2] w fun e w' => ∃ v0_ : Value, e = .returned (v0_) ∧ Kd.R (Kd.int .i64) 3 w' w.heap.size (fun _ => True) v0_ r ∧ Below w.heap.size w w' := by
  have HB := Aside0.mk (Below.refl w.heap.size w)
  have H : (lysimeterlaw23_Line.l0 k a0 a1 a2 ([] : List Int) 0) = some r := h
  clear h
  have H' := Aside0.mk H
  clear H
  go_enter Try.func62, Try.ntmps62
  go_wp2
  go_loopg [7, 8] k (fun kq v7 v8 w' => ∃ (x7_1 : List Int) (x8_1 : Int), v8 = .int .i64 x8_1 ∧ Aside0 (lysimeterlaw23_Line.l0 kq a0 a1 a2 x7_1 x8_1 = some r) ∧ Aside0 (kq ≤ k) ∧ Aside0 (Kd.R (Kd.int .i64) 3 w' w.heap.size (fun _ => True) v7 x7_1) ∧ Aside0 (Below w.heap.size w w'))
  case atStart => exact ⟨(([] : List Int)), (0), (by first | rfl | (simp; done) | (simp [*]; done)), H', ⟨Nat.le_refl _⟩, ⟨by first | exact Kd.R_nil _ _ _ _ _ | exact Kd.N_nil _ _ _ _ _ | exact Kd.V_nil _ _ _ _ _ | exact Kd.Q_nil _ _ _ _ _ | exact Kd.S_nil _ _ _ _ _⟩, ⟨by repeat (first | (with_reducible first | exact HB.out | apply below_alloc | apply pw_below_drewN | apply below_drew1) | exact HB.out)⟩⟩
  case round =>
    clear H'
    try clear p2
    obtain ⟨x7_1, x8_1, rfl, HA, HK1, HO_7, HB⟩ := hrel
    cases gk with
    | zero => exact absurd HA.out (by simp [lysimeterlaw23_Line.l0])
    | succ k1 =>
      have H := HA.out
      clear HA
      simp only [lysimeterlaw23_Line.l0] at H
      by_cases c4 : x8_1 < a2
      · rw [if_pos c4] at H
        have c4b0 : decide (x8_1 < a2) = true := decide_eq_true c4
        clear c4
        replace H := Option.bind_eq_some_iff.mp H
        obtain ⟨t101, A50, H⟩ := H
        replace H : (if x7_1.length < 17592186044416 then (lysimeterlaw23_Line.l0 k1 a0 a1 a2 (x7_1 ++ [t101]) (wrap64 (x8_1 + 1))) else (none)) = some r := H
        have A5 := Aside0.mk A50
        clear A50
        by_cases c6 : x7_1.length < 17592186044416
        · rw [if_pos c6] at H
          have LMc6 := Aside0.mk c6
          clear c6
          obtain ⟨y102, hy102⟩ : ∃ y_ : List Int, y_ = (x7_1 ++ [t101]) := ⟨_, rfl⟩
          replace H : (lysimeterlaw23_Line.l0 k1 a0 a1 a2 y102 (wrap64 (x8_1 + 1))) = some r := by first | (rw [hy102]; with_reducible exact H) | (have H2_ := (Option.bind_some _ _).symm.trans H; rw [hy102]; with_reducible exact H2_) | (have H2_ := (Option.bind_some _ _).symm.trans H; with_reducible exact H2_) | with_reducible exact H | (rw [hy102]; exact H) | exact H
          have Ny102 := Aside0.mk hy102
          clear hy102
          have H' := Aside0.mk H
          clear H
          go_wp2_with (first | ((with_reducible refine gate_callee (f := 21) rfl ?_); refine goesL_ (some 20) rfl rfl Try.func21 (by kernel_rfl) rfl #[.int .i64 (wrap64 (a0 + (wrap64 (x8_1 * a1))))] rfl (by (try simp only [List.map_toArray, List.map_cons, List.map_nil]); first | done | rfl | (simp only [List.length_drop, List.length_take]; rfl)) ?_; (with_reducible refine (lysimeterref1_Of.calls (wrap64 (a0 + (wrap64 (x8_1 * a1)))) t101 _ A5.out).mono ?_); rintro e w' ⟨rfl, ⟨nd, rfl⟩⟩; refine ⟨_, rfl, ?_⟩) | ((with_reducible refine gate_builtin (b := .append) (xs := #[.tmp 14, .tmp 21]) rfl ?_); at_builtin; refine Kd.R_append (Kd.int .i64) (w0 := w) w.heap.size rfl (.tmp 14) (.tmp 21) 23 3 (.int .i64 0) 8 rfl Try.underlying23 info3 rfl (by decide) (by omega) u7 x7_1 t101 [.int .i64 t101] (fun _ => True) (fun _ => False) rfl rfl ?aP (fun _ hk => hk.elim) ?aF ?aO ?aB ?aS ?aL ?_; (case aP => exact rfl); (case aB => exact (by repeat (first | (with_reducible first | exact HB.out | apply below_alloc | apply pw_below_drewN | apply below_drew1) | exact HB.out))); (case aF => exact (fun _ _ => trivial)); (case aO => exact (by (with_reducible repeat (first | apply Kd.R_alloc | apply Kd.R_drewN | apply Kd.R_drew)); exact HO_7.out)); (case aS => exact (below_size (by repeat (first | (with_reducible first | exact HB.out | apply below_alloc | apply pw_below_drewN | apply below_drew1) | exact HB.out)))); (case aL => have := LMc6.out; omega); intro v103 w7 ho hb hg hat; rw [← Ny102.out] at ho; have n0_ := Aside0.mk (hb); have n1_ := Aside0.mk (ho); clear HB; clear HO_7; have HB := n0_; have HO104 := n1_; clear n0_ n1_; clear ho hb hg hat))
          go_roundg k1
          case measure => have := HK1.out; omega
          case rel => exact ⟨(y102), (wrap64 (x8_1 + 1)), (by first | rfl | (simp; done) | (simp [*]; done)), H', ⟨by have := HK1.out; omega⟩, ⟨by (with_reducible repeat (first | apply Kd.R_alloc | apply Kd.R_drewN | apply Kd.R_drew)); exact HO104.out⟩, ⟨by repeat (first | (with_reducible first | exact HB.out | apply below_alloc | apply pw_below_drewN | apply below_drew1) | exact HB.out)⟩⟩
        · rw [if_neg c6] at H
          exact absurd H (by simp)
      · rw [if_neg c4] at H
        have c4b0 : decide (x8_1 < a2) = false := decide_eq_false c4
        clear c4
        obtain rfl := Option.some.inj H
        go_wp2
        go_ret
        exact ⟨_, by first | rfl | (simp [errW_none, errW_some] <;> rfl) | (simp [*, errW_none, errW_some] <;> rfl), by (with_reducible repeat (first | apply Kd.R_alloc | apply Kd.R_drewN | apply Kd.R_drew)); exact HO_7.out, by repeat (first | (with_reducible first | exact HB.out | apply below_alloc | apply pw_below_drewN | apply below_drew1) | exact HB.out)⟩
def lysimeterref1_Sub.f (a0 : Int) (a1 : Int) : Option (Int) := if HS.InB a0 && HS.InB a1 then some (HS.subS a0 a1) else none
theorem lysimeterref1_Sub.calls (a0 : Int) (a1 : Int) (r : Int) (w : World)  (h : lysimeterref1_Sub.f a0 a1 = some r) :
    Calls Try.prog 63 #[.int .i64 a0, .int .i64 a1] w fun e w' => e = .returned (.int .i64 r) ∧ Drawn0 w w' := by
  unfold lysimeterref1_Sub.f at h
  by_cases c : (HS.InB a0 && HS.InB a1) = true
  · rw [if_pos c] at h
    obtain rfl := Option.some.inj h
    simp only [Bool.and_eq_true, okL_iff, HS.inB_iff] at c
    exact rSub c.1 c.2 w
  · rw [if_neg c] at h; cases h
def lysimeterlaw23_alive.f (k : Nat)  : Option (Bool) := (lysimeterlaw23_Line.f k 10 2 40).bind fun t106 => ((holt_Cast.f t106 2 2147483648 2147483648 2147483648 1).bind fun bt109 => ((lysimeterref1_Of.f 90).bind fun t111 => ((lysimeterref1_Sub.f bt109.1 t111).bind fun t112 => ((lysimeterlaw23_num.f bt109.2).bind fun t113 => (if t113 = 0 then (if t112 < 4294967296 then (some (decide (t112 > (-4294967296)))) else (some false)) else (some false))))))
theorem lysimeterlaw23_alive.mono : ∀ k, LeO (lysimeterlaw23_alive.f k ) (lysimeterlaw23_alive.f (k + 1) ) := by
  intro  k
  unfold lysimeterlaw23_alive.f
  repeat' first
      | (with_reducible exact lysimeterlaw23_Line.mono _ _ _ _)
      | (with_reducible exact LeO.refl _)
      | (with_reducible exact LeO.none _)
      | (with_reducible refine LeO.ite ?_ ?_)
      | (with_reducible refine LeO.bind ?_ (fun _ => ?_))
      | exact lysimeterlaw23_Line.mono _ _ _ _
      | exact LeO.none _
      | refine LeO.ite ?_ ?_
      | refine LeO.bind ?_ (fun _ => ?_)
def lysimeterlaw23_alive.T2 : Bool × List (List Nat × List Nat) := (true, [([], []), ([], []), ([0, 1, 0], [0, 1]), ([2], [2]), ([3], [3]), ([3], [3]), ([4, 2, 0, 1, 2, 3, 4], [4]), ([5, 6, 0, 1, 2, 3, 4, 5, 6], [5])])
def lysimeterlaw23_alive.B2 : List Nat := [0, 0, 3, 7, 15, 15, 31, 127]
theorem lysimeterlaw23_alive.tab2 : rtab .any (opsOf Try.f20 2) = lysimeterlaw23_alive.T2 := by kernel_rfl
theorem lysimeterlaw23_alive.bits2 : waitsOk lysimeterlaw23_alive.T2.2 lysimeterlaw23_alive.B2 = true := by kernel_rfl
set_option maxHeartbeats 8000000 in
set_option maxRecDepth 100000 in
theorem lysimeterlaw23_alive.calls (k : Nat)  (r : Bool) (w : World) (h : lysimeterlaw23_alive.f k  = some r) :
    Calls Try.prog 20 #[] w fun e w' => e = .returned (.bool r) ∧ Below w.heap.size w w' := by
  have hu29 := Try.underlying29
  have HB := Aside0.mk (Below.refl w.heap.size w)
  have H : ((lysimeterlaw23_Line.f k 10 2 40).bind fun t106 => ((holt_Cast.f t106 2 2147483648 2147483648 2147483648 1).bind fun bt109 => ((lysimeterref1_Of.f 90).bind fun t111 => ((lysimeterref1_Sub.f bt109.1 t111).bind fun t112 => ((lysimeterlaw23_num.f bt109.2).bind fun t113 => (if t113 = 0 then (if t112 < 4294967296 then (some (decide (t112 > (-4294967296)))) else (some false)) else (some false))))))) = some r := h
  clear h
  replace H := Option.bind_eq_some_iff.mp H
  obtain ⟨t106, A10, H⟩ := H
  replace H : ((holt_Cast.f t106 2 2147483648 2147483648 2147483648 1).bind fun bt109 => ((lysimeterref1_Of.f 90).bind fun t111 => ((lysimeterref1_Sub.f bt109.1 t111).bind fun t112 => ((lysimeterlaw23_num.f bt109.2).bind fun t113 => (if t113 = 0 then (if t112 < 4294967296 then (some (decide (t112 > (-4294967296)))) else (some false)) else (some false)))))) = some r := H
  have A1 := Aside0.mk A10
  clear A10
  replace H := Option.bind_eq_some_iff.mp H
  obtain ⟨⟨t109, t110⟩, A20, H⟩ := H
  replace H : ((lysimeterref1_Of.f 90).bind fun t111 => ((lysimeterref1_Sub.f t109 t111).bind fun t112 => ((lysimeterlaw23_num.f t110).bind fun t113 => (if t113 = 0 then (if t112 < 4294967296 then (some (decide (t112 > (-4294967296)))) else (some false)) else (some false))))) = some r := H
  have A2 := Aside0.mk A20
  clear A20
  replace H := Option.bind_eq_some_iff.mp H
  obtain ⟨t111, A30, H⟩ := H
  replace H : ((lysimeterref1_Sub.f t109 t111).bind fun t112 => ((lysimeterlaw23_num.f t110).bind fun t113 => (if t113 = 0 then (if t112 < 4294967296 then (some (decide (t112 > (-4294967296)))) else (some false)) else (some false)))) = some r := H
  have A3 := Aside0.mk A30
  clear A30
  replace H := Option.bind_eq_some_iff.mp H
  obtain ⟨t112, A40, H⟩ := H
  replace H : ((lysimeterlaw23_num.f t110).bind fun t113 => (if t113 = 0 then (if t112 < 4294967296 then (some (decide (t112 > (-4294967296)))) else (some false)) else (some false))) = some r := H
  have A4 := Aside0.mk A40
  clear A40
  replace H := Option.bind_eq_some_iff.mp H
  obtain ⟨t113, A50, H⟩ := H
  replace H : (if t113 = 0 then (if t112 < 4294967296 then (some (decide (t112 > (-4294967296)))) else (some false)) else (some false)) = some r := H
  have A5 := Aside0.mk A50
  clear A50
  by_cases c6 : t113 = 0
  · rw [if_pos c6] at H
    have c6b0 : (t113 == 0) = true := beq_iff_eq.mpr c6
    have c6b1 : (t113 != 0) = false := bne_eq_false_iff_eq.mpr c6
    clear c6
    by_cases c7 : t112 < 4294967296
    · rw [if_pos c7] at H
      have c7b0 : decide (t112 < 4294967296) = true := decide_eq_true c7
      clear c7
      obtain rfl := Option.some.inj H
      go_enter Try.func20, Try.ntmps20
      try go_wp2_with (first | ((with_reducible refine gate_dst (N := 1) rfl ?_); refine box_event ?hg (N := 1) ?hd (cs := #[.int .i64 0, .int .i64 0, .int .i64 0, .int .i64 0]) (t := 29) ?hr ?_; (case hd => rfl); (case hg => rfl); (case hr => first | (go_simp; done) | (go_simp; rfl)); intro gb105 hg w8 hbox hb; have n0_ := Aside0.mk (below_step (by repeat (first | (with_reducible first | exact HB.out | apply below_alloc | apply pw_below_drewN | apply below_drew1) | exact HB.out)) hb); have n1_ := Aside0.mk (hbox); have n2_ := Aside0.mk ((by rw [hg]; exact (below_size (by repeat (first | (with_reducible first | exact HB.out | apply below_alloc | apply pw_below_drewN | apply below_drew1) | exact HB.out))) : w.heap.size ≤ gb105)); have n3_ := Aside0.mk ((by rw [hg]; exact (below_size (by repeat (first | (with_reducible first | exact HB.out | apply below_alloc | apply pw_below_drewN | apply below_drew1) | exact HB.out))) : w.heap.size ≤ gb105)); clear HB; have HB := n0_; have BK105 := n1_; have GW105 := n2_; have GE105 := n3_; clear n0_ n1_ n2_ n3_; clear hb hbox hg; have hcz9_0 : w8.cell? ⟨gb105, 0, none⟩ = some (.int .i64 0) := (blk_cell BK105.out 0).trans rfl; have hcz9_1 : w8.cell? ⟨gb105, 1, none⟩ = some (.int .i64 0) := (blk_cell BK105.out 1).trans rfl; have hcz9_2 : w8.cell? ⟨gb105, 2, none⟩ = some (.int .i64 0) := (blk_cell BK105.out 2).trans rfl; have hcz9_3 : w8.cell? ⟨gb105, 3, none⟩ = some (.int .i64 0) := (blk_cell BK105.out 3).trans rfl; have hfz9_0 := blk_frozen BK105.out 0; have hfz9_1 := blk_frozen BK105.out 1; have hfz9_2 := blk_frozen BK105.out 2; have hfz9_3 := blk_frozen BK105.out 3))
      have n0_ : Aside0 (((((w8.setCell ⟨gb105, 0, none⟩ (.int .i64 2)).setCell ⟨gb105, 1, none⟩ (.int .i64 2147483648)).setCell ⟨gb105, 2, none⟩ (.int .i64 2147483648)).setCell ⟨gb105, 3, none⟩ (.int .i64 2147483648)).heap[gb105]? = some (.cells #[.int .i64 2, .int .i64 2147483648, .int .i64 2147483648, .int .i64 2147483648] 29 (0, 0))) := ⟨by (with_reducible repeat (first | refine blk_drewN ?_ _ | refine blk_drew ?_ | refine blk_alloc ?_ _)); refine blk_put (cs := #[.int .i64 2, .int .i64 2147483648, .int .i64 2147483648, .int .i64 0]) ?_ 3 _ rfl; (with_reducible repeat (first | refine blk_drewN ?_ _ | refine blk_drew ?_ | refine blk_alloc ?_ _)); refine blk_put (cs := #[.int .i64 2, .int .i64 2147483648, .int .i64 0, .int .i64 0]) ?_ 2 _ rfl; (with_reducible repeat (first | refine blk_drewN ?_ _ | refine blk_drew ?_ | refine blk_alloc ?_ _)); refine blk_put (cs := #[.int .i64 2, .int .i64 0, .int .i64 0, .int .i64 0]) ?_ 1 _ rfl; (with_reducible repeat (first | refine blk_drewN ?_ _ | refine blk_drew ?_ | refine blk_alloc ?_ _)); refine blk_put (cs := #[.int .i64 0, .int .i64 0, .int .i64 0, .int .i64 0]) ?_ 0 _ rfl; (with_reducible repeat (first | refine blk_drewN ?_ _ | refine blk_drew ?_ | refine blk_alloc ?_ _)); exact BK105.out⟩
      have n1_ : Aside0 (Below w.heap.size w ((((w8.setCell ⟨gb105, 0, none⟩ (.int .i64 2)).setCell ⟨gb105, 1, none⟩ (.int .i64 2147483648)).setCell ⟨gb105, 2, none⟩ (.int .i64 2147483648)).setCell ⟨gb105, 3, none⟩ (.int .i64 2147483648))) := ⟨by repeat (first | (with_reducible first | exact HB.out | apply below_alloc | apply pw_below_drewN | apply below_drew1 | refine below_set ?_ GE105.out) | exact HB.out)⟩
      (try clear BK105)
      (try clear HB)
      generalize ((((w8.setCell ⟨gb105, 0, none⟩ (.int .i64 2)).setCell ⟨gb105, 1, none⟩ (.int .i64 2147483648)).setCell ⟨gb105, 2, none⟩ (.int .i64 2147483648)).setCell ⟨gb105, 3, none⟩ (.int .i64 2147483648)) = w10 at n0_ n1_ ⊢
      have BK105 := n0_
      have HB := n1_
      clear n0_ n1_
      have n0_ := Aside0.mk (blk_drew BK105.out)
      have n1_ := Aside0.mk (below_drew1 HB.out)
      clear BK105
      clear HB
      have BK105 := n0_
      have HB := n1_
      clear n0_ n1_
      refine start_ (n := 8) (S := fun w' => w'.cell? ⟨gb105, 0, none⟩ = some (.int .i64 2) ∧ w'.cell? ⟨gb105, 1, none⟩ = some (.int .i64 2147483648) ∧ w'.cell? ⟨gb105, 2, none⟩ = some (.int .i64 2147483648) ∧ w'.cell? ⟨gb105, 3, none⟩ = some (.int .i64 2147483648)) (ds := []) #[false, false, false, false, false, false, false, false] (by kernel_rfl) rfl rfl ⟨(blk_cell BK105.out 0).trans rfl, (blk_cell BK105.out 1).trans rfl, (blk_cell BK105.out 2).trans rfl, (blk_cell BK105.out 3).trans rfl⟩ (fun hHeld => ?_); refine with_tabW lysimeterlaw23_alive.tab2 lysimeterlaw23_alive.bits2 (fun HT_ HW_ => ?_)
      generalize w10.drew = w11 at BK105 HB hHeld ⊢
      refine take_ (i := 1) (N := some 8) (v := ?_) (a' := ?_) #[false, true, false, false, false, false, false, false] rfl rfl (take_ofW HT_.out HW_.out (by kernel_rfl)) (fun _ _ _ h => h) (Or.inl ⟨by rfl, ?_⟩) hHeld ?_ ?_
      rotate_left
      · rintro w' ⟨s0, s1, s2, s3⟩
        go_simp
        with_reducible rfl
      rotate_left
      · simp only [Act.put, List.setIfInBounds_toArray, List.set_cons_zero, List.set_cons_succ, i64_w, i32_w]
        rfl
      refine one_ (i := 0) (N := some 7) #[true, true, false, false, false, false, false, false] rfl rfl (one_of HT_.out (by kernel_rfl)) (by decide) (fun K hK => ?_)
      refine goes_ Try.func62 (by kernel_rfl) rfl #[.int .i64 10, .int .i64 2, .int .i64 40] (by rfl) rfl rfl (by (try simp only [List.map_toArray, List.map_cons, List.map_nil]); first | done | rfl | (simp only [List.length_drop, List.length_take]; rfl)) ?_
      with_reducible refine (lysimeterlaw23_Line.calls k 10 2 40 t106 _ A1.out).mono ?_
      rintro e w12 ⟨v107, rfl, ho0, hb⟩
      refine ⟨_, rfl, ?_⟩
      have n0_ := Aside0.mk (Kd.R_lower ho0 (below_size (by repeat (first | (with_reducible first | exact HB.out | apply below_alloc | apply pw_below_drewN | apply below_drew1 | refine below_set ?_ GE105.out) | exact HB.out))))
      have n1_ := Aside0.mk (blk_below (g := gb105) (o := .cells #[.int .i64 2, .int .i64 2147483648, .int .i64 2147483648, .int .i64 2147483648] 29 (0, 0)) (by (with_reducible repeat (first | refine blk_drewN ?_ _ | refine blk_drew ?_ | refine blk_alloc ?_ _)); exact BK105.out) hb)
      have n2_ := Aside0.mk (below_step (by repeat (first | (with_reducible first | exact HB.out | apply below_alloc | apply pw_below_drewN | apply below_drew1 | refine below_set ?_ GE105.out) | exact HB.out)) hb)
      clear BK105
      clear HB
      have HO108 := n0_
      have BK105 := n1_
      have HB := n2_
      clear n0_ n1_ n2_
      (try clear hb)
      (try clear hb2)
      (try clear hk)
      (try clear hi)
      (try clear ho0)
      obtain ⟨Ao13, co13, eo13⟩ := Kd.R_slice HO108.out
      (first | subst eo13 | (injection eo13 with f1_ f2_ f3_; have f4_ := f1_.symm; have f5_ := f3_.symm; clear f1_ f2_ f3_; subst f4_; subst f5_))
      refine hK.out _ _ ⟨(blk_cell BK105.out 0).trans rfl, (blk_cell BK105.out 1).trans rfl, (blk_cell BK105.out 2).trans rfl, (blk_cell BK105.out 3).trans rfl⟩ (fun hHeld => ?_)
      clear hK K
      refine norm_ (a' := ?_) ?_ ?_
      rotate_left
      · show Act.put _ (some 7) _ = _
        simp only [Act.put, List.setIfInBounds_toArray, List.set_cons_zero, List.set_cons_succ, i64_w, i32_w]
        rfl
      refine one_ (i := 2) (N := some 9) #[true, true, true, false, false, false, false, false] rfl rfl (one_of HT_.out (by kernel_rfl)) (by decide) (fun K hK => ?_)
      refine goes_ Try.func22 (by kernel_rfl) rfl #[.slice Ao13 t106.length co13, .agg #[.int .i64 2, .int .i64 2147483648, .int .i64 2147483648, .int .i64 2147483648], .int .i64 1] (by rfl) rfl rfl (by (try simp only [List.map_toArray, List.map_cons, List.map_nil]); first | done | rfl | (simp only [List.length_drop, List.length_take]; rfl)) ?_
      with_reducible refine (holt_Cast.calls _ _ t106 2 2147483648 2147483648 2147483648 1 t109 t110 _ ?side1 ?side2 A2.out).mono ?_
      (case side1 => repeat (first | exact (Kd.R_reads' HO108.out).2.2 | (with_reducible refine Kd.C_alloc ?_ _) | (with_reducible refine Kd.C_drewN ?_ _) | (with_reducible refine Kd.C_drew ?_)))
      (case side2 => exact (Kd.R_reads' HO108.out).2.1)
      rintro e w14 ⟨rfl, hb⟩
      refine ⟨_, rfl, ?_⟩
      have n0_ := Aside0.mk (Kd.R_below (by (with_reducible repeat (first | apply Kd.R_alloc | apply Kd.R_drewN | apply Kd.R_drew)); exact HO108.out) hb)
      have n1_ := Aside0.mk (blk_below (g := gb105) (o := .cells #[.int .i64 2, .int .i64 2147483648, .int .i64 2147483648, .int .i64 2147483648] 29 (0, 0)) (by (with_reducible repeat (first | refine blk_drewN ?_ _ | refine blk_drew ?_ | refine blk_alloc ?_ _)); exact BK105.out) hb)
      have n2_ := Aside0.mk (below_step (by repeat (first | (with_reducible first | exact HB.out | apply below_alloc | apply pw_below_drewN | apply below_drew1 | refine below_set ?_ GE105.out) | exact HB.out)) hb)
      clear HO108
      clear BK105
      clear HB
      have HO108 := n0_
      have BK105 := n1_
      have HB := n2_
      clear n0_ n1_ n2_
      (try clear hb)
      (try clear hb2)
      (try clear hk)
      (try clear hi)
      refine hK.out _ _ ⟨(blk_cell BK105.out 0).trans rfl, (blk_cell BK105.out 1).trans rfl, (blk_cell BK105.out 2).trans rfl, (blk_cell BK105.out 3).trans rfl⟩ (fun hHeld => ?_)
      clear hK K
      refine norm_ (a' := ?_) ?_ ?_
      rotate_left
      · show Act.put _ (some 9) _ = _
        simp only [Act.put, List.setIfInBounds_toArray, List.set_cons_zero, List.set_cons_succ, i64_w, i32_w]
        rfl
      refine pure_ (i := 3) (N := some 6) (v := ?_) (a' := ?_) #[true, true, true, true, false, false, false, false] rfl rfl (any_of HT_.out (by kernel_rfl)) (fun _ _ _ h => h) (Or.inl ⟨by rfl, ?_⟩) ?_ ?_
      rotate_left
      · intro w'
        go_simp
        with_reducible rfl
      rotate_left
      · simp only [Act.put, List.setIfInBounds_toArray, List.set_cons_zero, List.set_cons_succ, i64_w, i32_w]
        rfl
      refine pure_ (i := 4) (N := some 10) (v := ?_) (a' := ?_) #[true, true, true, true, true, false, false, false] rfl rfl (any_of HT_.out (by kernel_rfl)) (fun _ _ _ h => h) (Or.inl ⟨by rfl, ?_⟩) ?_ ?_
      rotate_left
      · intro w'
        go_simp
        with_reducible rfl
      rotate_left
      · simp only [Act.put, List.setIfInBounds_toArray, List.set_cons_zero, List.set_cons_succ, i64_w, i32_w]
        rfl
      refine pure_ (i := 5) (N := some 11) (v := ?_) (a' := ?_) #[true, true, true, true, true, true, false, false] rfl rfl (any_of HT_.out (by kernel_rfl)) (fun _ _ _ h => h) (Or.inl ⟨by rfl, ?_⟩) ?_ ?_
      rotate_left
      · intro w'
        go_simp
        with_reducible rfl
      rotate_left
      · simp only [Act.put, List.setIfInBounds_toArray, List.set_cons_zero, List.set_cons_succ, i64_w, i32_w]
        rfl
      refine pure_ (i := 6) (N := some 2) (v := ?_) (a' := ?_) #[true, true, true, true, true, true, true, false] rfl rfl (any_of HT_.out (by kernel_rfl)) (fun _ _ _ h => h) (Or.inl ⟨by rfl, ?_⟩) ?_ ?_
      rotate_left
      · intro w'
        go_simp
        with_reducible rfl
      rotate_left
      · simp only [Act.put, List.setIfInBounds_toArray, List.set_cons_zero, List.set_cons_succ, i64_w, i32_w]
        rfl
      refine pure_ (i := 7) (N := some 3) (v := ?_) (a' := ?_) #[true, true, true, true, true, true, true, true] rfl rfl (any_of HT_.out (by kernel_rfl)) (fun _ _ _ h => h) (Or.inl ⟨by rfl, ?_⟩) ?_ ?_
      rotate_left
      · intro w'
        go_simp
        with_reducible rfl
      rotate_left
      · simp only [Act.put, List.setIfInBounds_toArray, List.set_cons_zero, List.set_cons_succ, i64_w, i32_w]
        rfl
      refine done_ (done_of HT_.out (by kernel_rfl)) ?_
      try go_wp2_with (first | ((with_reducible refine gate_callee (f := 21) rfl ?_); refine goesL_ (some 13) rfl rfl Try.func21 (by kernel_rfl) rfl #[.int .i64 90] rfl (by (try simp only [List.map_toArray, List.map_cons, List.map_nil]); first | done | rfl | (simp only [List.length_drop, List.length_take]; rfl)) ?_; (with_reducible refine (lysimeterref1_Of.calls 90 t111 _ A3.out).mono ?_); rintro e w' ⟨rfl, ⟨nd, rfl⟩⟩; refine ⟨_, rfl, ?_⟩) | ((with_reducible refine gate_callee (f := 63) rfl ?_); refine goesL_ (some 14) rfl rfl Try.func63 (by kernel_rfl) rfl #[.int .i64 t109, .int .i64 t111] rfl (by (try simp only [List.map_toArray, List.map_cons, List.map_nil]); first | done | rfl | (simp only [List.length_drop, List.length_take]; rfl)) ?_; (with_reducible refine (lysimeterref1_Sub.calls t109 t111 t112 _ A4.out).mono ?_); rintro e w' ⟨rfl, ⟨nd, rfl⟩⟩; refine ⟨_, rfl, ?_⟩) | ((with_reducible refine gate_callee (f := 23) rfl ?_); refine goesL_ (some 16) rfl rfl Try.func23 (by kernel_rfl) rfl #[.int .i64 t110] rfl (by (try simp only [List.map_toArray, List.map_cons, List.map_nil]); first | done | rfl | (simp only [List.length_drop, List.length_take]; rfl)) ?_; (with_reducible refine (lysimeterlaw23_num.calls t110 t113 _ A5.out).mono ?_); rintro e w' ⟨rfl, ⟨nd, rfl⟩⟩; refine ⟨_, rfl, ?_⟩))
      go_ret
      exact ⟨by first | rfl | (simp [errW_none, errW_some] <;> rfl) | (simp [*, errW_none, errW_some] <;> rfl), by repeat (first | (with_reducible first | exact HB.out | apply below_alloc | apply pw_below_drewN | apply below_drew1 | refine below_set ?_ GE105.out) | exact HB.out)⟩
    · rw [if_neg c7] at H
      have c7b0 : decide (t112 < 4294967296) = false := decide_eq_false c7
      clear c7
      obtain rfl := Option.some.inj H
      go_enter Try.func20, Try.ntmps20
      try go_wp2_with (first | ((with_reducible refine gate_dst (N := 1) rfl ?_); refine box_event ?hg (N := 1) ?hd (cs := #[.int .i64 0, .int .i64 0, .int .i64 0, .int .i64 0]) (t := 29) ?hr ?_; (case hd => rfl); (case hg => rfl); (case hr => first | (go_simp; done) | (go_simp; rfl)); intro gb105 hg w15 hbox hb; have n0_ := Aside0.mk (below_step (by repeat (first | (with_reducible first | exact HB.out | apply below_alloc | apply pw_below_drewN | apply below_drew1) | exact HB.out)) hb); have n1_ := Aside0.mk (hbox); have n2_ := Aside0.mk ((by rw [hg]; exact (below_size (by repeat (first | (with_reducible first | exact HB.out | apply below_alloc | apply pw_below_drewN | apply below_drew1) | exact HB.out))) : w.heap.size ≤ gb105)); have n3_ := Aside0.mk ((by rw [hg]; exact (below_size (by repeat (first | (with_reducible first | exact HB.out | apply below_alloc | apply pw_below_drewN | apply below_drew1) | exact HB.out))) : w.heap.size ≤ gb105)); clear HB; have HB := n0_; have BK105 := n1_; have GW105 := n2_; have GE105 := n3_; clear n0_ n1_ n2_ n3_; clear hb hbox hg; have hcz16_0 : w15.cell? ⟨gb105, 0, none⟩ = some (.int .i64 0) := (blk_cell BK105.out 0).trans rfl; have hcz16_1 : w15.cell? ⟨gb105, 1, none⟩ = some (.int .i64 0) := (blk_cell BK105.out 1).trans rfl; have hcz16_2 : w15.cell? ⟨gb105, 2, none⟩ = some (.int .i64 0) := (blk_cell BK105.out 2).trans rfl; have hcz16_3 : w15.cell? ⟨gb105, 3, none⟩ = some (.int .i64 0) := (blk_cell BK105.out 3).trans rfl; have hfz16_0 := blk_frozen BK105.out 0; have hfz16_1 := blk_frozen BK105.out 1; have hfz16_2 := blk_frozen BK105.out 2; have hfz16_3 := blk_frozen BK105.out 3))
      have n0_ : Aside0 (((((w15.setCell ⟨gb105, 0, none⟩ (.int .i64 2)).setCell ⟨gb105, 1, none⟩ (.int .i64 2147483648)).setCell ⟨gb105, 2, none⟩ (.int .i64 2147483648)).setCell ⟨gb105, 3, none⟩ (.int .i64 2147483648)).heap[gb105]? = some (.cells #[.int .i64 2, .int .i64 2147483648, .int .i64 2147483648, .int .i64 2147483648] 29 (0, 0))) := ⟨by (with_reducible repeat (first | refine blk_drewN ?_ _ | refine blk_drew ?_ | refine blk_alloc ?_ _)); refine blk_put (cs := #[.int .i64 2, .int .i64 2147483648, .int .i64 2147483648, .int .i64 0]) ?_ 3 _ rfl; (with_reducible repeat (first | refine blk_drewN ?_ _ | refine blk_drew ?_ | refine blk_alloc ?_ _)); refine blk_put (cs := #[.int .i64 2, .int .i64 2147483648, .int .i64 0, .int .i64 0]) ?_ 2 _ rfl; (with_reducible repeat (first | refine blk_drewN ?_ _ | refine blk_drew ?_ | refine blk_alloc ?_ _)); refine blk_put (cs := #[.int .i64 2, .int .i64 0, .int .i64 0, .int .i64 0]) ?_ 1 _ rfl; (with_reducible repeat (first | refine blk_drewN ?_ _ | refine blk_drew ?_ | refine blk_alloc ?_ _)); refine blk_put (cs := #[.int .i64 0, .int .i64 0, .int .i64 0, .int .i64 0]) ?_ 0 _ rfl; (with_reducible repeat (first | refine blk_drewN ?_ _ | refine blk_drew ?_ | refine blk_alloc ?_ _)); exact BK105.out⟩
      have n1_ : Aside0 (Below w.heap.size w ((((w15.setCell ⟨gb105, 0, none⟩ (.int .i64 2)).setCell ⟨gb105, 1, none⟩ (.int .i64 2147483648)).setCell ⟨gb105, 2, none⟩ (.int .i64 2147483648)).setCell ⟨gb105, 3, none⟩ (.int .i64 2147483648))) := ⟨by repeat (first | (with_reducible first | exact HB.out | apply below_alloc | apply pw_below_drewN | apply below_drew1 | refine below_set ?_ GE105.out) | exact HB.out)⟩
      (try clear BK105)
      (try clear HB)
      generalize ((((w15.setCell ⟨gb105, 0, none⟩ (.int .i64 2)).setCell ⟨gb105, 1, none⟩ (.int .i64 2147483648)).setCell ⟨gb105, 2, none⟩ (.int .i64 2147483648)).setCell ⟨gb105, 3, none⟩ (.int .i64 2147483648)) = w17 at n0_ n1_ ⊢
      have BK105 := n0_
      have HB := n1_
      clear n0_ n1_
      have n0_ := Aside0.mk (blk_drew BK105.out)
      have n1_ := Aside0.mk (below_drew1 HB.out)
      clear BK105
      clear HB
      have BK105 := n0_
      have HB := n1_
      clear n0_ n1_
      refine start_ (n := 8) (S := fun w' => w'.cell? ⟨gb105, 0, none⟩ = some (.int .i64 2) ∧ w'.cell? ⟨gb105, 1, none⟩ = some (.int .i64 2147483648) ∧ w'.cell? ⟨gb105, 2, none⟩ = some (.int .i64 2147483648) ∧ w'.cell? ⟨gb105, 3, none⟩ = some (.int .i64 2147483648)) (ds := []) #[false, false, false, false, false, false, false, false] (by kernel_rfl) rfl rfl ⟨(blk_cell BK105.out 0).trans rfl, (blk_cell BK105.out 1).trans rfl, (blk_cell BK105.out 2).trans rfl, (blk_cell BK105.out 3).trans rfl⟩ (fun hHeld => ?_); refine with_tabW lysimeterlaw23_alive.tab2 lysimeterlaw23_alive.bits2 (fun HT_ HW_ => ?_)
      generalize w17.drew = w18 at BK105 HB hHeld ⊢
      refine take_ (i := 1) (N := some 8) (v := ?_) (a' := ?_) #[false, true, false, false, false, false, false, false] rfl rfl (take_ofW HT_.out HW_.out (by kernel_rfl)) (fun _ _ _ h => h) (Or.inl ⟨by rfl, ?_⟩) hHeld ?_ ?_
      rotate_left
      · rintro w' ⟨s0, s1, s2, s3⟩
        go_simp
        with_reducible rfl
      rotate_left
      · simp only [Act.put, List.setIfInBounds_toArray, List.set_cons_zero, List.set_cons_succ, i64_w, i32_w]
        rfl
      refine one_ (i := 0) (N := some 7) #[true, true, false, false, false, false, false, false] rfl rfl (one_of HT_.out (by kernel_rfl)) (by decide) (fun K hK => ?_)
      refine goes_ Try.func62 (by kernel_rfl) rfl #[.int .i64 10, .int .i64 2, .int .i64 40] (by rfl) rfl rfl (by (try simp only [List.map_toArray, List.map_cons, List.map_nil]); first | done | rfl | (simp only [List.length_drop, List.length_take]; rfl)) ?_
      with_reducible refine (lysimeterlaw23_Line.calls k 10 2 40 t106 _ A1.out).mono ?_
      rintro e w19 ⟨v107, rfl, ho0, hb⟩
      refine ⟨_, rfl, ?_⟩
      have n0_ := Aside0.mk (Kd.R_lower ho0 (below_size (by repeat (first | (with_reducible first | exact HB.out | apply below_alloc | apply pw_below_drewN | apply below_drew1 | refine below_set ?_ GE105.out) | exact HB.out))))
      have n1_ := Aside0.mk (blk_below (g := gb105) (o := .cells #[.int .i64 2, .int .i64 2147483648, .int .i64 2147483648, .int .i64 2147483648] 29 (0, 0)) (by (with_reducible repeat (first | refine blk_drewN ?_ _ | refine blk_drew ?_ | refine blk_alloc ?_ _)); exact BK105.out) hb)
      have n2_ := Aside0.mk (below_step (by repeat (first | (with_reducible first | exact HB.out | apply below_alloc | apply pw_below_drewN | apply below_drew1 | refine below_set ?_ GE105.out) | exact HB.out)) hb)
      clear BK105
      clear HB
      have HO108 := n0_
      have BK105 := n1_
      have HB := n2_
      clear n0_ n1_ n2_
      (try clear hb)
      (try clear hb2)
      (try clear hk)
      (try clear hi)
      (try clear ho0)
      obtain ⟨Ao20, co20, eo20⟩ := Kd.R_slice HO108.out
      (first | subst eo20 | (injection eo20 with f1_ f2_ f3_; have f4_ := f1_.symm; have f5_ := f3_.symm; clear f1_ f2_ f3_; subst f4_; subst f5_))
      refine hK.out _ _ ⟨(blk_cell BK105.out 0).trans rfl, (blk_cell BK105.out 1).trans rfl, (blk_cell BK105.out 2).trans rfl, (blk_cell BK105.out 3).trans rfl⟩ (fun hHeld => ?_)
      clear hK K
      refine norm_ (a' := ?_) ?_ ?_
      rotate_left
      · show Act.put _ (some 7) _ = _
        simp only [Act.put, List.setIfInBounds_toArray, List.set_cons_zero, List.set_cons_succ, i64_w, i32_w]
        rfl
      refine one_ (i := 2) (N := some 9) #[true, true, true, false, false, false, false, false] rfl rfl (one_of HT_.out (by kernel_rfl)) (by decide) (fun K hK => ?_)
      refine goes_ Try.func22 (by kernel_rfl) rfl #[.slice Ao20 t106.length co20, .agg #[.int .i64 2, .int .i64 2147483648, .int .i64 2147483648, .int .i64 2147483648], .int .i64 1] (by rfl) rfl rfl (by (try simp only [List.map_toArray, List.map_cons, List.map_nil]); first | done | rfl | (simp only [List.length_drop, List.length_take]; rfl)) ?_
      with_reducible refine (holt_Cast.calls _ _ t106 2 2147483648 2147483648 2147483648 1 t109 t110 _ ?side1 ?side2 A2.out).mono ?_
      (case side1 => repeat (first | exact (Kd.R_reads' HO108.out).2.2 | (with_reducible refine Kd.C_alloc ?_ _) | (with_reducible refine Kd.C_drewN ?_ _) | (with_reducible refine Kd.C_drew ?_)))
      (case side2 => exact (Kd.R_reads' HO108.out).2.1)
      rintro e w21 ⟨rfl, hb⟩
      refine ⟨_, rfl, ?_⟩
      have n0_ := Aside0.mk (Kd.R_below (by (with_reducible repeat (first | apply Kd.R_alloc | apply Kd.R_drewN | apply Kd.R_drew)); exact HO108.out) hb)
      have n1_ := Aside0.mk (blk_below (g := gb105) (o := .cells #[.int .i64 2, .int .i64 2147483648, .int .i64 2147483648, .int .i64 2147483648] 29 (0, 0)) (by (with_reducible repeat (first | refine blk_drewN ?_ _ | refine blk_drew ?_ | refine blk_alloc ?_ _)); exact BK105.out) hb)
      have n2_ := Aside0.mk (below_step (by repeat (first | (with_reducible first | exact HB.out | apply below_alloc | apply pw_below_drewN | apply below_drew1 | refine below_set ?_ GE105.out) | exact HB.out)) hb)
      clear HO108
      clear BK105
      clear HB
      have HO108 := n0_
      have BK105 := n1_
      have HB := n2_
      clear n0_ n1_ n2_
      (try clear hb)
      (try clear hb2)
      (try clear hk)
      (try clear hi)
      refine hK.out _ _ ⟨(blk_cell BK105.out 0).trans rfl, (blk_cell BK105.out 1).trans rfl, (blk_cell BK105.out 2).trans rfl, (blk_cell BK105.out 3).trans rfl⟩ (fun hHeld => ?_)
      clear hK K
      refine norm_ (a' := ?_) ?_ ?_
      rotate_left
      · show Act.put _ (some 9) _ = _
        simp only [Act.put, List.setIfInBounds_toArray, List.set_cons_zero, List.set_cons_succ, i64_w, i32_w]
        rfl
      refine pure_ (i := 3) (N := some 6) (v := ?_) (a' := ?_) #[true, true, true, true, false, false, false, false] rfl rfl (any_of HT_.out (by kernel_rfl)) (fun _ _ _ h => h) (Or.inl ⟨by rfl, ?_⟩) ?_ ?_
      rotate_left
      · intro w'
        go_simp
        with_reducible rfl
      rotate_left
      · simp only [Act.put, List.setIfInBounds_toArray, List.set_cons_zero, List.set_cons_succ, i64_w, i32_w]
        rfl
      refine pure_ (i := 4) (N := some 10) (v := ?_) (a' := ?_) #[true, true, true, true, true, false, false, false] rfl rfl (any_of HT_.out (by kernel_rfl)) (fun _ _ _ h => h) (Or.inl ⟨by rfl, ?_⟩) ?_ ?_
      rotate_left
      · intro w'
        go_simp
        with_reducible rfl
      rotate_left
      · simp only [Act.put, List.setIfInBounds_toArray, List.set_cons_zero, List.set_cons_succ, i64_w, i32_w]
        rfl
      refine pure_ (i := 5) (N := some 11) (v := ?_) (a' := ?_) #[true, true, true, true, true, true, false, false] rfl rfl (any_of HT_.out (by kernel_rfl)) (fun _ _ _ h => h) (Or.inl ⟨by rfl, ?_⟩) ?_ ?_
      rotate_left
      · intro w'
        go_simp
        with_reducible rfl
      rotate_left
      · simp only [Act.put, List.setIfInBounds_toArray, List.set_cons_zero, List.set_cons_succ, i64_w, i32_w]
        rfl
      refine pure_ (i := 6) (N := some 2) (v := ?_) (a' := ?_) #[true, true, true, true, true, true, true, false] rfl rfl (any_of HT_.out (by kernel_rfl)) (fun _ _ _ h => h) (Or.inl ⟨by rfl, ?_⟩) ?_ ?_
      rotate_left
      · intro w'
        go_simp
        with_reducible rfl
      rotate_left
      · simp only [Act.put, List.setIfInBounds_toArray, List.set_cons_zero, List.set_cons_succ, i64_w, i32_w]
        rfl
      refine pure_ (i := 7) (N := some 3) (v := ?_) (a' := ?_) #[true, true, true, true, true, true, true, true] rfl rfl (any_of HT_.out (by kernel_rfl)) (fun _ _ _ h => h) (Or.inl ⟨by rfl, ?_⟩) ?_ ?_
      rotate_left
      · intro w'
        go_simp
        with_reducible rfl
      rotate_left
      · simp only [Act.put, List.setIfInBounds_toArray, List.set_cons_zero, List.set_cons_succ, i64_w, i32_w]
        rfl
      refine done_ (done_of HT_.out (by kernel_rfl)) ?_
      try go_wp2_with (first | ((with_reducible refine gate_callee (f := 21) rfl ?_); refine goesL_ (some 13) rfl rfl Try.func21 (by kernel_rfl) rfl #[.int .i64 90] rfl (by (try simp only [List.map_toArray, List.map_cons, List.map_nil]); first | done | rfl | (simp only [List.length_drop, List.length_take]; rfl)) ?_; (with_reducible refine (lysimeterref1_Of.calls 90 t111 _ A3.out).mono ?_); rintro e w' ⟨rfl, ⟨nd, rfl⟩⟩; refine ⟨_, rfl, ?_⟩) | ((with_reducible refine gate_callee (f := 63) rfl ?_); refine goesL_ (some 14) rfl rfl Try.func63 (by kernel_rfl) rfl #[.int .i64 t109, .int .i64 t111] rfl (by (try simp only [List.map_toArray, List.map_cons, List.map_nil]); first | done | rfl | (simp only [List.length_drop, List.length_take]; rfl)) ?_; (with_reducible refine (lysimeterref1_Sub.calls t109 t111 t112 _ A4.out).mono ?_); rintro e w' ⟨rfl, ⟨nd, rfl⟩⟩; refine ⟨_, rfl, ?_⟩) | ((with_reducible refine gate_callee (f := 23) rfl ?_); refine goesL_ (some 16) rfl rfl Try.func23 (by kernel_rfl) rfl #[.int .i64 t110] rfl (by (try simp only [List.map_toArray, List.map_cons, List.map_nil]); first | done | rfl | (simp only [List.length_drop, List.length_take]; rfl)) ?_; (with_reducible refine (lysimeterlaw23_num.calls t110 t113 _ A5.out).mono ?_); rintro e w' ⟨rfl, ⟨nd, rfl⟩⟩; refine ⟨_, rfl, ?_⟩))
      go_ret
      exact ⟨by first | rfl | (simp [errW_none, errW_some] <;> rfl) | (simp [*, errW_none, errW_some] <;> rfl), by repeat (first | (with_reducible first | exact HB.out | apply below_alloc | apply pw_below_drewN | apply below_drew1 | refine below_set ?_ GE105.out) | exact HB.out)⟩
  · rw [if_neg c6] at H
    have c6b0 : (t113 == 0) = false := beq_eq_false_iff_ne.mpr c6
    have c6b1 : (t113 != 0) = true := bne_iff_ne.mpr c6
    obtain rfl := Option.some.inj H
    go_enter Try.func20, Try.ntmps20
    try go_wp2_with (first | ((with_reducible refine gate_dst (N := 1) rfl ?_); refine box_event ?hg (N := 1) ?hd (cs := #[.int .i64 0, .int .i64 0, .int .i64 0, .int .i64 0]) (t := 29) ?hr ?_; (case hd => rfl); (case hg => rfl); (case hr => first | (go_simp; done) | (go_simp; rfl)); intro gb105 hg w22 hbox hb; have n0_ := Aside0.mk (below_step (by repeat (first | (with_reducible first | exact HB.out | apply below_alloc | apply pw_below_drewN | apply below_drew1) | exact HB.out)) hb); have n1_ := Aside0.mk (hbox); have n2_ := Aside0.mk ((by rw [hg]; exact (below_size (by repeat (first | (with_reducible first | exact HB.out | apply below_alloc | apply pw_below_drewN | apply below_drew1) | exact HB.out))) : w.heap.size ≤ gb105)); have n3_ := Aside0.mk ((by rw [hg]; exact (below_size (by repeat (first | (with_reducible first | exact HB.out | apply below_alloc | apply pw_below_drewN | apply below_drew1) | exact HB.out))) : w.heap.size ≤ gb105)); clear HB; have HB := n0_; have BK105 := n1_; have GW105 := n2_; have GE105 := n3_; clear n0_ n1_ n2_ n3_; clear hb hbox hg; have hcz23_0 : w22.cell? ⟨gb105, 0, none⟩ = some (.int .i64 0) := (blk_cell BK105.out 0).trans rfl; have hcz23_1 : w22.cell? ⟨gb105, 1, none⟩ = some (.int .i64 0) := (blk_cell BK105.out 1).trans rfl; have hcz23_2 : w22.cell? ⟨gb105, 2, none⟩ = some (.int .i64 0) := (blk_cell BK105.out 2).trans rfl; have hcz23_3 : w22.cell? ⟨gb105, 3, none⟩ = some (.int .i64 0) := (blk_cell BK105.out 3).trans rfl; have hfz23_0 := blk_frozen BK105.out 0; have hfz23_1 := blk_frozen BK105.out 1; have hfz23_2 := blk_frozen BK105.out 2; have hfz23_3 := blk_frozen BK105.out 3))
    have n0_ : Aside0 (((((w22.setCell ⟨gb105, 0, none⟩ (.int .i64 2)).setCell ⟨gb105, 1, none⟩ (.int .i64 2147483648)).setCell ⟨gb105, 2, none⟩ (.int .i64 2147483648)).setCell ⟨gb105, 3, none⟩ (.int .i64 2147483648)).heap[gb105]? = some (.cells #[.int .i64 2, .int .i64 2147483648, .int .i64 2147483648, .int .i64 2147483648] 29 (0, 0))) := ⟨by (with_reducible repeat (first | refine blk_drewN ?_ _ | refine blk_drew ?_ | refine blk_alloc ?_ _)); refine blk_put (cs := #[.int .i64 2, .int .i64 2147483648, .int .i64 2147483648, .int .i64 0]) ?_ 3 _ rfl; (with_reducible repeat (first | refine blk_drewN ?_ _ | refine blk_drew ?_ | refine blk_alloc ?_ _)); refine blk_put (cs := #[.int .i64 2, .int .i64 2147483648, .int .i64 0, .int .i64 0]) ?_ 2 _ rfl; (with_reducible repeat (first | refine blk_drewN ?_ _ | refine blk_drew ?_ | refine blk_alloc ?_ _)); refine blk_put (cs := #[.int .i64 2, .int .i64 0, .int .i64 0, .int .i64 0]) ?_ 1 _ rfl; (with_reducible repeat (first | refine blk_drewN ?_ _ | refine blk_drew ?_ | refine blk_alloc ?_ _)); refine blk_put (cs := #[.int .i64 0, .int .i64 0, .int .i64 0, .int .i64 0]) ?_ 0 _ rfl; (with_reducible repeat (first | refine blk_drewN ?_ _ | refine blk_drew ?_ | refine blk_alloc ?_ _)); exact BK105.out⟩
    have n1_ : Aside0 (Below w.heap.size w ((((w22.setCell ⟨gb105, 0, none⟩ (.int .i64 2)).setCell ⟨gb105, 1, none⟩ (.int .i64 2147483648)).setCell ⟨gb105, 2, none⟩ (.int .i64 2147483648)).setCell ⟨gb105, 3, none⟩ (.int .i64 2147483648))) := ⟨by repeat (first | (with_reducible first | exact HB.out | apply below_alloc | apply pw_below_drewN | apply below_drew1 | refine below_set ?_ GE105.out) | exact HB.out)⟩
    (try clear BK105)
    (try clear HB)
    generalize ((((w22.setCell ⟨gb105, 0, none⟩ (.int .i64 2)).setCell ⟨gb105, 1, none⟩ (.int .i64 2147483648)).setCell ⟨gb105, 2, none⟩ (.int .i64 2147483648)).setCell ⟨gb105, 3, none⟩ (.int .i64 2147483648)) = w24 at n0_ n1_ ⊢
    have BK105 := n0_
    have HB := n1_
    clear n0_ n1_
    have n0_ := Aside0.mk (blk_drew BK105.out)
    have n1_ := Aside0.mk (below_drew1 HB.out)
    clear BK105
    clear HB
    have BK105 := n0_
    have HB := n1_
    clear n0_ n1_
    refine start_ (n := 8) (S := fun w' => w'.cell? ⟨gb105, 0, none⟩ = some (.int .i64 2) ∧ w'.cell? ⟨gb105, 1, none⟩ = some (.int .i64 2147483648) ∧ w'.cell? ⟨gb105, 2, none⟩ = some (.int .i64 2147483648) ∧ w'.cell? ⟨gb105, 3, none⟩ = some (.int .i64 2147483648)) (ds := []) #[false, false, false, false, false, false, false, false] (by kernel_rfl) rfl rfl ⟨(blk_cell BK105.out 0).trans rfl, (blk_cell BK105.out 1).trans rfl, (blk_cell BK105.out 2).trans rfl, (blk_cell BK105.out 3).trans rfl⟩ (fun hHeld => ?_); refine with_tabW lysimeterlaw23_alive.tab2 lysimeterlaw23_alive.bits2 (fun HT_ HW_ => ?_)
    generalize w24.drew = w25 at BK105 HB hHeld ⊢
    refine take_ (i := 1) (N := some 8) (v := ?_) (a' := ?_) #[false, true, false, false, false, false, false, false] rfl rfl (take_ofW HT_.out HW_.out (by kernel_rfl)) (fun _ _ _ h => h) (Or.inl ⟨by rfl, ?_⟩) hHeld ?_ ?_
    rotate_left
    · rintro w' ⟨s0, s1, s2, s3⟩
      go_simp
      with_reducible rfl
    rotate_left
    · simp only [Act.put, List.setIfInBounds_toArray, List.set_cons_zero, List.set_cons_succ, i64_w, i32_w]
      rfl
    refine one_ (i := 0) (N := some 7) #[true, true, false, false, false, false, false, false] rfl rfl (one_of HT_.out (by kernel_rfl)) (by decide) (fun K hK => ?_)
    refine goes_ Try.func62 (by kernel_rfl) rfl #[.int .i64 10, .int .i64 2, .int .i64 40] (by rfl) rfl rfl (by (try simp only [List.map_toArray, List.map_cons, List.map_nil]); first | done | rfl | (simp only [List.length_drop, List.length_take]; rfl)) ?_
    with_reducible refine (lysimeterlaw23_Line.calls k 10 2 40 t106 _ A1.out).mono ?_
    rintro e w26 ⟨v107, rfl, ho0, hb⟩
    refine ⟨_, rfl, ?_⟩
    have n0_ := Aside0.mk (Kd.R_lower ho0 (below_size (by repeat (first | (with_reducible first | exact HB.out | apply below_alloc | apply pw_below_drewN | apply below_drew1 | refine below_set ?_ GE105.out) | exact HB.out))))
    have n1_ := Aside0.mk (blk_below (g := gb105) (o := .cells #[.int .i64 2, .int .i64 2147483648, .int .i64 2147483648, .int .i64 2147483648] 29 (0, 0)) (by (with_reducible repeat (first | refine blk_drewN ?_ _ | refine blk_drew ?_ | refine blk_alloc ?_ _)); exact BK105.out) hb)
    have n2_ := Aside0.mk (below_step (by repeat (first | (with_reducible first | exact HB.out | apply below_alloc | apply pw_below_drewN | apply below_drew1 | refine below_set ?_ GE105.out) | exact HB.out)) hb)
    clear BK105
    clear HB
    have HO108 := n0_
    have BK105 := n1_
    have HB := n2_
    clear n0_ n1_ n2_
    (try clear hb)
    (try clear hb2)
    (try clear hk)
    (try clear hi)
    (try clear ho0)
    obtain ⟨Ao27, co27, eo27⟩ := Kd.R_slice HO108.out
    (first | subst eo27 | (injection eo27 with f1_ f2_ f3_; have f4_ := f1_.symm; have f5_ := f3_.symm; clear f1_ f2_ f3_; subst f4_; subst f5_))
    refine hK.out _ _ ⟨(blk_cell BK105.out 0).trans rfl, (blk_cell BK105.out 1).trans rfl, (blk_cell BK105.out 2).trans rfl, (blk_cell BK105.out 3).trans rfl⟩ (fun hHeld => ?_)
    clear hK K
    refine norm_ (a' := ?_) ?_ ?_
    rotate_left
    · show Act.put _ (some 7) _ = _
      simp only [Act.put, List.setIfInBounds_toArray, List.set_cons_zero, List.set_cons_succ, i64_w, i32_w]
      rfl
    refine one_ (i := 2) (N := some 9) #[true, true, true, false, false, false, false, false] rfl rfl (one_of HT_.out (by kernel_rfl)) (by decide) (fun K hK => ?_)
    refine goes_ Try.func22 (by kernel_rfl) rfl #[.slice Ao27 t106.length co27, .agg #[.int .i64 2, .int .i64 2147483648, .int .i64 2147483648, .int .i64 2147483648], .int .i64 1] (by rfl) rfl rfl (by (try simp only [List.map_toArray, List.map_cons, List.map_nil]); first | done | rfl | (simp only [List.length_drop, List.length_take]; rfl)) ?_
    with_reducible refine (holt_Cast.calls _ _ t106 2 2147483648 2147483648 2147483648 1 t109 t110 _ ?side1 ?side2 A2.out).mono ?_
    (case side1 => repeat (first | exact (Kd.R_reads' HO108.out).2.2 | (with_reducible refine Kd.C_alloc ?_ _) | (with_reducible refine Kd.C_drewN ?_ _) | (with_reducible refine Kd.C_drew ?_)))
    (case side2 => exact (Kd.R_reads' HO108.out).2.1)
    rintro e w28 ⟨rfl, hb⟩
    refine ⟨_, rfl, ?_⟩
    have n0_ := Aside0.mk (Kd.R_below (by (with_reducible repeat (first | apply Kd.R_alloc | apply Kd.R_drewN | apply Kd.R_drew)); exact HO108.out) hb)
    have n1_ := Aside0.mk (blk_below (g := gb105) (o := .cells #[.int .i64 2, .int .i64 2147483648, .int .i64 2147483648, .int .i64 2147483648] 29 (0, 0)) (by (with_reducible repeat (first | refine blk_drewN ?_ _ | refine blk_drew ?_ | refine blk_alloc ?_ _)); exact BK105.out) hb)
    have n2_ := Aside0.mk (below_step (by repeat (first | (with_reducible first | exact HB.out | apply below_alloc | apply pw_below_drewN | apply below_drew1 | refine below_set ?_ GE105.out) | exact HB.out)) hb)
    clear HO108
    clear BK105
    clear HB
    have HO108 := n0_
    have BK105 := n1_
    have HB := n2_
    clear n0_ n1_ n2_
    (try clear hb)
    (try clear hb2)
    (try clear hk)
    (try clear hi)
    refine hK.out _ _ ⟨(blk_cell BK105.out 0).trans rfl, (blk_cell BK105.out 1).trans rfl, (blk_cell BK105.out 2).trans rfl, (blk_cell BK105.out 3).trans rfl⟩ (fun hHeld => ?_)
    clear hK K
    refine norm_ (a' := ?_) ?_ ?_
    rotate_left
    · show Act.put _ (some 9) _ = _
      simp only [Act.put, List.setIfInBounds_toArray, List.set_cons_zero, List.set_cons_succ, i64_w, i32_w]
      rfl
    refine pure_ (i := 3) (N := some 6) (v := ?_) (a' := ?_) #[true, true, true, true, false, false, false, false] rfl rfl (any_of HT_.out (by kernel_rfl)) (fun _ _ _ h => h) (Or.inl ⟨by rfl, ?_⟩) ?_ ?_
    rotate_left
    · intro w'
      go_simp
      with_reducible rfl
    rotate_left
    · simp only [Act.put, List.setIfInBounds_toArray, List.set_cons_zero, List.set_cons_succ, i64_w, i32_w]
      rfl
    refine pure_ (i := 4) (N := some 10) (v := ?_) (a' := ?_) #[true, true, true, true, true, false, false, false] rfl rfl (any_of HT_.out (by kernel_rfl)) (fun _ _ _ h => h) (Or.inl ⟨by rfl, ?_⟩) ?_ ?_
    rotate_left
    · intro w'
      go_simp
      with_reducible rfl
    rotate_left
    · simp only [Act.put, List.setIfInBounds_toArray, List.set_cons_zero, List.set_cons_succ, i64_w, i32_w]
      rfl
    refine pure_ (i := 5) (N := some 11) (v := ?_) (a' := ?_) #[true, true, true, true, true, true, false, false] rfl rfl (any_of HT_.out (by kernel_rfl)) (fun _ _ _ h => h) (Or.inl ⟨by rfl, ?_⟩) ?_ ?_
    rotate_left
    · intro w'
      go_simp
      with_reducible rfl
    rotate_left
    · simp only [Act.put, List.setIfInBounds_toArray, List.set_cons_zero, List.set_cons_succ, i64_w, i32_w]
      rfl
    refine pure_ (i := 6) (N := some 2) (v := ?_) (a' := ?_) #[true, true, true, true, true, true, true, false] rfl rfl (any_of HT_.out (by kernel_rfl)) (fun _ _ _ h => h) (Or.inl ⟨by rfl, ?_⟩) ?_ ?_
    rotate_left
    · intro w'
      go_simp
      with_reducible rfl
    rotate_left
    · simp only [Act.put, List.setIfInBounds_toArray, List.set_cons_zero, List.set_cons_succ, i64_w, i32_w]
      rfl
    refine pure_ (i := 7) (N := some 3) (v := ?_) (a' := ?_) #[true, true, true, true, true, true, true, true] rfl rfl (any_of HT_.out (by kernel_rfl)) (fun _ _ _ h => h) (Or.inl ⟨by rfl, ?_⟩) ?_ ?_
    rotate_left
    · intro w'
      go_simp
      with_reducible rfl
    rotate_left
    · simp only [Act.put, List.setIfInBounds_toArray, List.set_cons_zero, List.set_cons_succ, i64_w, i32_w]
      rfl
    refine done_ (done_of HT_.out (by kernel_rfl)) ?_
    try go_wp2_with (first | ((with_reducible refine gate_callee (f := 21) rfl ?_); refine goesL_ (some 13) rfl rfl Try.func21 (by kernel_rfl) rfl #[.int .i64 90] rfl (by (try simp only [List.map_toArray, List.map_cons, List.map_nil]); first | done | rfl | (simp only [List.length_drop, List.length_take]; rfl)) ?_; (with_reducible refine (lysimeterref1_Of.calls 90 t111 _ A3.out).mono ?_); rintro e w' ⟨rfl, ⟨nd, rfl⟩⟩; refine ⟨_, rfl, ?_⟩) | ((with_reducible refine gate_callee (f := 63) rfl ?_); refine goesL_ (some 14) rfl rfl Try.func63 (by kernel_rfl) rfl #[.int .i64 t109, .int .i64 t111] rfl (by (try simp only [List.map_toArray, List.map_cons, List.map_nil]); first | done | rfl | (simp only [List.length_drop, List.length_take]; rfl)) ?_; (with_reducible refine (lysimeterref1_Sub.calls t109 t111 t112 _ A4.out).mono ?_); rintro e w' ⟨rfl, ⟨nd, rfl⟩⟩; refine ⟨_, rfl, ?_⟩) | ((with_reducible refine gate_callee (f := 23) rfl ?_); refine goesL_ (some 16) rfl rfl Try.func23 (by kernel_rfl) rfl #[.int .i64 t110] rfl (by (try simp only [List.map_toArray, List.map_cons, List.map_nil]); first | done | rfl | (simp only [List.length_drop, List.length_take]; rfl)) ?_; (with_reducible refine (lysimeterlaw23_num.calls t110 t113 _ A5.out).mono ?_); rintro e w' ⟨rfl, ⟨nd, rfl⟩⟩; refine ⟨_, rfl, ?_⟩))
    go_ret
    exact ⟨by first | rfl | (simp [errW_none, errW_some] <;> rfl) | (simp [*, errW_none, errW_some] <;> rfl), by repeat (first | (with_reducible first | exact HB.out | apply below_alloc | apply pw_below_drewN | apply below_drew1 | refine below_set ?_ GE105.out) | exact HB.out)⟩
end Go.Proofs.Ytemnfnbjapobcaa.Hp
end
section
namespace Go.Proofs.Ytemnfnbjapobcaa.Hp
open Go.RowKit Go.Proofs.YtemnfnbjapobcaaW.PrintWords Go.Proofs.YtemnfnbjapobcaaW.PrintLast Go.Proofs.YtemnfnbjapobcaaW.PrintMore
attribute [local go_sem] max2_int min2_int max_two min_two max_three min_three max_four min_four   -- for this text's walks alone
set_option linter.unusedVariables false
set_option linter.unusedSimpArgs false
mutual
def lysimeterlaw23_HoltStill.j0 : Nat → Int → Int → Int → Int → Bool → Bool → Bool → Option (Bool)
  | 0, _, _, _, _, _, _, _ => none
  | k + 1, x0, x1, x2, x3, x4, x11, x53 => if x53 = true then (some x11) else (if x4 = true then (lysimeterlaw23_HoltStill.j1 k x0 x1 x2 x3 ((4294967296 : Int) / 2)) else (lysimeterlaw23_HoltStill.j1 k x0 x1 x2 x3 4294967296))
def lysimeterlaw23_HoltStill.j1 : Nat → Int → Int → Int → Int → Int → Option (Bool)
  | 0, _, _, _, _, _ => none
  | k + 1, x0, x1, x2, x3, x12 => lysimeterlaw23_HoltStill.l0 k x0 x1 x2 x3 x12 ([] : List Int) 0
def lysimeterlaw23_HoltStill.l0 : Nat → Int → Int → Int → Int → Int → List Int → Int → Option (Bool)
  | 0, _, _, _, _, _, _, _ => none
  | k + 1, x0, x1, x2, x3, x12, x13, x14 => if x14 < x1 then ((lysimeterref1_Of.f x0).bind fun t130 => (if x13.length < 17592186044416 then (lysimeterlaw23_HoltStill.l0 k x0 x1 x2 x3 x12 (x13 ++ [t130]) (wrap64 (x14 + 1))) else (none))) else ((holt_Cast.f x13 x2 x12 x12 x12 x3).bind fun bt134 => ((lysimeterlaw23_num.f bt134.2).bind fun t136 => (if t136 = 0 then ((lysimeterref1_Of.f x0).bind fun t137 => (some (bt134.1 == t137))) else (some false))))
end
def lysimeterlaw23_HoltStill.f (k : Nat) (a0 : Int) (a1 : Int) (a2 : Int) (a3 : Int) (a4 : Bool) : Option (Bool) := (lysimeterlaw23_alive.f k).bind fun t129 => (if t129 = true then (if a0 < (-1000000) then (lysimeterlaw23_HoltStill.j0 k a0 a1 a2 a3 a4 t129 true) else (if a0 > 1000000 then (lysimeterlaw23_HoltStill.j0 k a0 a1 a2 a3 a4 t129 true) else (if a2 < 1 then (lysimeterlaw23_HoltStill.j0 k a0 a1 a2 a3 a4 t129 true) else (if a2 > 20 then (lysimeterlaw23_HoltStill.j0 k a0 a1 a2 a3 a4 t129 true) else (if a1 < (wrap64 (2 * a2)) then (lysimeterlaw23_HoltStill.j0 k a0 a1 a2 a3 a4 t129 true) else (if a1 > 200 then (lysimeterlaw23_HoltStill.j0 k a0 a1 a2 a3 a4 t129 true) else (if a3 < 1 then (lysimeterlaw23_HoltStill.j0 k a0 a1 a2 a3 a4 t129 true) else (lysimeterlaw23_HoltStill.j0 k a0 a1 a2 a3 a4 t129 (decide (a3 > 1000)))))))))) else (lysimeterlaw23_HoltStill.j0 k a0 a1 a2 a3 a4 t129 true))
theorem lysimeterlaw23_HoltStill.mono_l : ∀ k, (∀ y0 y1 y2 y3 y4 y5 y6, LeO (lysimeterlaw23_HoltStill.j0 k y0 y1 y2 y3 y4 y5 y6) (lysimeterlaw23_HoltStill.j0 (k + 1) y0 y1 y2 y3 y4 y5 y6)) ∧ (∀ y0 y1 y2 y3 y4, LeO (lysimeterlaw23_HoltStill.j1 k y0 y1 y2 y3 y4) (lysimeterlaw23_HoltStill.j1 (k + 1) y0 y1 y2 y3 y4)) ∧ (∀ y0 y1 y2 y3 y4 y5 y6, LeO (lysimeterlaw23_HoltStill.l0 k y0 y1 y2 y3 y4 y5 y6) (lysimeterlaw23_HoltStill.l0 (k + 1) y0 y1 y2 y3 y4 y5 y6))
  | 0 => ⟨fun _ _ _ _ _ _ _ r h => by simp [lysimeterlaw23_HoltStill.j0] at h, fun _ _ _ _ _ r h => by simp [lysimeterlaw23_HoltStill.j1] at h, fun _ _ _ _ _ _ _ r h => by simp [lysimeterlaw23_HoltStill.l0] at h⟩
  | k + 1 => by
    obtain ⟨ih0, ih1, ih2⟩ := lysimeterlaw23_HoltStill.mono_l k
    refine ⟨?_, ?_, ?_⟩
    · intro y0 y1 y2 y3 y4 y5 y6
      unfold lysimeterlaw23_HoltStill.j0
      repeat' first
      | (with_reducible exact ih0 _ _ _ _ _ _ _)
      | (with_reducible exact ih1 _ _ _ _ _)
      | (with_reducible exact ih2 _ _ _ _ _ _ _)
      | (with_reducible exact lysimeterlaw23_alive.mono _)
      | (with_reducible exact LeO.refl _)
      | (with_reducible exact LeO.none _)
      | (with_reducible refine LeO.ite ?_ ?_)
      | (with_reducible refine LeO.bind ?_ (fun _ => ?_))
      | exact ih0 _ _ _ _ _ _ _
      | exact ih1 _ _ _ _ _
      | exact ih2 _ _ _ _ _ _ _
      | exact lysimeterlaw23_alive.mono _
      | exact LeO.none _
      | refine LeO.ite ?_ ?_
      | refine LeO.bind ?_ (fun _ => ?_)
    · intro y0 y1 y2 y3 y4
      unfold lysimeterlaw23_HoltStill.j1
      repeat' first
      | (with_reducible exact ih0 _ _ _ _ _ _ _)
      | (with_reducible exact ih1 _ _ _ _ _)
      | (with_reducible exact ih2 _ _ _ _ _ _ _)
      | (with_reducible exact lysimeterlaw23_alive.mono _)
      | (with_reducible exact LeO.refl _)
      | (with_reducible exact LeO.none _)
      | (with_reducible refine LeO.ite ?_ ?_)
      | (with_reducible refine LeO.bind ?_ (fun _ => ?_))
      | exact ih0 _ _ _ _ _ _ _
      | exact ih1 _ _ _ _ _
      | exact ih2 _ _ _ _ _ _ _
      | exact lysimeterlaw23_alive.mono _
      | exact LeO.none _
      | refine LeO.ite ?_ ?_
      | refine LeO.bind ?_ (fun _ => ?_)
    · intro y0 y1 y2 y3 y4 y5 y6
      unfold lysimeterlaw23_HoltStill.l0
      repeat' first
      | (with_reducible exact ih0 _ _ _ _ _ _ _)
      | (with_reducible exact ih1 _ _ _ _ _)
      | (with_reducible exact ih2 _ _ _ _ _ _ _)
      | (with_reducible exact lysimeterlaw23_alive.mono _)
      | (with_reducible exact LeO.refl _)
      | (with_reducible exact LeO.none _)
      | (with_reducible refine LeO.ite ?_ ?_)
      | (with_reducible refine LeO.bind ?_ (fun _ => ?_))
      | exact ih0 _ _ _ _ _ _ _
      | exact ih1 _ _ _ _ _
      | exact ih2 _ _ _ _ _ _ _
      | exact lysimeterlaw23_alive.mono _
      | exact LeO.none _
      | refine LeO.ite ?_ ?_
      | refine LeO.bind ?_ (fun _ => ?_)
set_option maxHeartbeats 8000000 in
set_option maxRecDepth 100000 in
theorem lysimeterlaw23_HoltStill.calls (k : Nat) (a0 : Int) (a1 : Int) (a2 : Int) (a3 : Int) (a4 : Bool) (r : Bool) (w : World) (h : lysimeterlaw23_HoltStill.f k a0 a1 a2 a3 a4 = some r) :
    Calls Try.prog 3 #[.int .i64 a0, .int .i64 a1, .int .i64 a2, .int .i64 a3, .bool a4] w fun e w' => e = .returned (.bool r) ∧ Below w.heap.size w w' := by
  have hu29 := Try.underlying29
  have HB := Aside0.mk (Below.refl w.heap.size w)
  have H : ((lysimeterlaw23_alive.f k).bind fun t129 => (if t129 = true then (if a0 < (-1000000) then (lysimeterlaw23_HoltStill.j0 k a0 a1 a2 a3 a4 t129 true) else (if a0 > 1000000 then (lysimeterlaw23_HoltStill.j0 k a0 a1 a2 a3 a4 t129 true) else (if a2 < 1 then (lysimeterlaw23_HoltStill.j0 k a0 a1 a2 a3 a4 t129 true) else (if a2 > 20 then (lysimeterlaw23_HoltStill.j0 k a0 a1 a2 a3 a4 t129 true) else (if a1 < (wrap64 (2 * a2)) then (lysimeterlaw23_HoltStill.j0 k a0 a1 a2 a3 a4 t129 true) else (if a1 > 200 then (lysimeterlaw23_HoltStill.j0 k a0 a1 a2 a3 a4 t129 true) else (if a3 < 1 then (lysimeterlaw23_HoltStill.j0 k a0 a1 a2 a3 a4 t129 true) else (lysimeterlaw23_HoltStill.j0 k a0 a1 a2 a3 a4 t129 (decide (a3 > 1000)))))))))) else (lysimeterlaw23_HoltStill.j0 k a0 a1 a2 a3 a4 t129 true))) = some r := h
  clear h
  replace H := Option.bind_eq_some_iff.mp H
  obtain ⟨t129, A60, H⟩ := H
  replace H : (if t129 = true then (if a0 < (-1000000) then (lysimeterlaw23_HoltStill.j0 k a0 a1 a2 a3 a4 t129 true) else (if a0 > 1000000 then (lysimeterlaw23_HoltStill.j0 k a0 a1 a2 a3 a4 t129 true) else (if a2 < 1 then (lysimeterlaw23_HoltStill.j0 k a0 a1 a2 a3 a4 t129 true) else (if a2 > 20 then (lysimeterlaw23_HoltStill.j0 k a0 a1 a2 a3 a4 t129 true) else (if a1 < (wrap64 (2 * a2)) then (lysimeterlaw23_HoltStill.j0 k a0 a1 a2 a3 a4 t129 true) else (if a1 > 200 then (lysimeterlaw23_HoltStill.j0 k a0 a1 a2 a3 a4 t129 true) else (if a3 < 1 then (lysimeterlaw23_HoltStill.j0 k a0 a1 a2 a3 a4 t129 true) else (lysimeterlaw23_HoltStill.j0 k a0 a1 a2 a3 a4 t129 (decide (a3 > 1000)))))))))) else (lysimeterlaw23_HoltStill.j0 k a0 a1 a2 a3 a4 t129 true)) = some r := H
  have A6 := Aside0.mk A60
  clear A60
  have HC7 := Aside0.mk H
  clear H
  go_enter Try.func3, Try.ntmps3
  go_upto_region 2 with (first | ((with_reducible refine gate_callee (f := 20) rfl ?_); refine goesL_ (some 17) rfl rfl Try.func20 (by kernel_rfl) rfl #[] rfl (by (try simp only [List.map_toArray, List.map_cons, List.map_nil]); first | done | rfl | (simp only [List.length_drop, List.length_take]; rfl)) ?_; (with_reducible refine (lysimeterlaw23_alive.calls k  t129 _ A6.out).mono ?_); rintro e w8 ⟨rfl, hb⟩; refine ⟨_, rfl, ?_⟩; have n0_ := Aside0.mk (below_step (by repeat (first | (with_reducible first | exact HB.out | apply below_alloc | apply pw_below_drewN | apply below_drew1) | exact HB.out)) hb); clear HB; have HB := n0_; clear n0_; (try clear hb); (try clear hb2); (try clear hk); (try clear hi)))
  (try simp only [Act.put, List.setIfInBounds_toArray, List.set_cons_zero, List.set_cons_succ])
  go_cut [53] (fun v53 wc => ∃ (kq : Nat) (x53_6 : Bool), v53 = .bool x53_6 ∧ Aside0 (lysimeterlaw23_HoltStill.j0 kq a0 a1 a2 a3 a4 t129 x53_6 = some r) ∧ Aside0 (kq ≤ k) ∧ Aside0 (Below w.heap.size w wc))
  case first =>
    have H := HC7.out
    clear HC7
    by_cases c9 : t129 = true
    · subst c9
      have H1 : (if a0 < (-1000000) then (lysimeterlaw23_HoltStill.j0 k a0 a1 a2 a3 a4 true true) else (if a0 > 1000000 then (lysimeterlaw23_HoltStill.j0 k a0 a1 a2 a3 a4 true true) else (if a2 < 1 then (lysimeterlaw23_HoltStill.j0 k a0 a1 a2 a3 a4 true true) else (if a2 > 20 then (lysimeterlaw23_HoltStill.j0 k a0 a1 a2 a3 a4 true true) else (if a1 < (wrap64 (2 * a2)) then (lysimeterlaw23_HoltStill.j0 k a0 a1 a2 a3 a4 true true) else (if a1 > 200 then (lysimeterlaw23_HoltStill.j0 k a0 a1 a2 a3 a4 true true) else (if a3 < 1 then (lysimeterlaw23_HoltStill.j0 k a0 a1 a2 a3 a4 true true) else (lysimeterlaw23_HoltStill.j0 k a0 a1 a2 a3 a4 true (decide (a3 > 1000)))))))))) = some r := by rw [if_pos rfl] at H; exact H
      clear H
      have H := H1
      clear H1
      by_cases c10 : a0 < (-1000000)
      · rw [if_pos c10] at H
        have c10b0 : decide (a0 < (-1000000)) = true := decide_eq_true c10
        clear c10
        (first | rw [c10b0] | (simp only [i64_w, i32_w]; rw [c10b0]) | skip)
        have H' := Aside0.mk H
        clear H
        go_wp2
        go_meet
        case rel => exact ⟨_, (true), (by first | rfl | (simp; done) | (simp [*]; done)), H', ⟨by first | omega | exact Nat.le_refl _⟩, ⟨by repeat (first | (with_reducible first | exact HB.out | apply below_alloc | apply pw_below_drewN | apply below_drew1) | exact HB.out)⟩⟩
      · rw [if_neg c10] at H
        have c10b0 : decide (a0 < (-1000000)) = false := decide_eq_false c10
        clear c10
        (first | rw [c10b0] | (simp only [i64_w, i32_w]; rw [c10b0]) | skip)
        by_cases c11 : a0 > 1000000
        · rw [if_pos c11] at H
          have c11b0 : decide (1000000 < a0) = true := decide_eq_true c11
          clear c11
          have H' := Aside0.mk H
          clear H
          go_wp2
          go_meet
          case rel => exact ⟨_, (true), (by first | rfl | (simp; done) | (simp [*]; done)), H', ⟨by first | omega | exact Nat.le_refl _⟩, ⟨by repeat (first | (with_reducible first | exact HB.out | apply below_alloc | apply pw_below_drewN | apply below_drew1) | exact HB.out)⟩⟩
        · rw [if_neg c11] at H
          have c11b0 : decide (1000000 < a0) = false := decide_eq_false c11
          clear c11
          by_cases c12 : a2 < 1
          · rw [if_pos c12] at H
            have c12b0 : decide (a2 < 1) = true := decide_eq_true c12
            clear c12
            have H' := Aside0.mk H
            clear H
            go_wp2
            go_meet
            case rel => exact ⟨_, (true), (by first | rfl | (simp; done) | (simp [*]; done)), H', ⟨by first | omega | exact Nat.le_refl _⟩, ⟨by repeat (first | (with_reducible first | exact HB.out | apply below_alloc | apply pw_below_drewN | apply below_drew1) | exact HB.out)⟩⟩
          · rw [if_neg c12] at H
            have c12b0 : decide (a2 < 1) = false := decide_eq_false c12
            clear c12
            by_cases c13 : a2 > 20
            · rw [if_pos c13] at H
              have c13b0 : decide (20 < a2) = true := decide_eq_true c13
              clear c13
              have H' := Aside0.mk H
              clear H
              go_wp2
              go_meet
              case rel => exact ⟨_, (true), (by first | rfl | (simp; done) | (simp [*]; done)), H', ⟨by first | omega | exact Nat.le_refl _⟩, ⟨by repeat (first | (with_reducible first | exact HB.out | apply below_alloc | apply pw_below_drewN | apply below_drew1) | exact HB.out)⟩⟩
            · rw [if_neg c13] at H
              have c13b0 : decide (20 < a2) = false := decide_eq_false c13
              clear c13
              by_cases c14 : a1 < (wrap64 (2 * a2))
              · rw [if_pos c14] at H
                have c14b0 : decide (a1 < (wrap64 (2 * a2))) = true := decide_eq_true c14
                clear c14
                have H' := Aside0.mk H
                clear H
                go_wp2
                go_meet
                case rel => exact ⟨_, (true), (by first | rfl | (simp; done) | (simp [*]; done)), H', ⟨by first | omega | exact Nat.le_refl _⟩, ⟨by repeat (first | (with_reducible first | exact HB.out | apply below_alloc | apply pw_below_drewN | apply below_drew1) | exact HB.out)⟩⟩
              · rw [if_neg c14] at H
                have c14b0 : decide (a1 < (wrap64 (2 * a2))) = false := decide_eq_false c14
                clear c14
                by_cases c15 : a1 > 200
                · rw [if_pos c15] at H
                  have c15b0 : decide (200 < a1) = true := decide_eq_true c15
                  clear c15
                  have H' := Aside0.mk H
                  clear H
                  go_wp2
                  go_meet
                  case rel => exact ⟨_, (true), (by first | rfl | (simp; done) | (simp [*]; done)), H', ⟨by first | omega | exact Nat.le_refl _⟩, ⟨by repeat (first | (with_reducible first | exact HB.out | apply below_alloc | apply pw_below_drewN | apply below_drew1) | exact HB.out)⟩⟩
                · rw [if_neg c15] at H
                  have c15b0 : decide (200 < a1) = false := decide_eq_false c15
                  clear c15
                  by_cases c16 : a3 < 1
                  · rw [if_pos c16] at H
                    have c16b0 : decide (a3 < 1) = true := decide_eq_true c16
                    clear c16
                    have H' := Aside0.mk H
                    clear H
                    go_wp2
                    go_meet
                    case rel => exact ⟨_, (true), (by first | rfl | (simp; done) | (simp [*]; done)), H', ⟨by first | omega | exact Nat.le_refl _⟩, ⟨by repeat (first | (with_reducible first | exact HB.out | apply below_alloc | apply pw_below_drewN | apply below_drew1) | exact HB.out)⟩⟩
                  · rw [if_neg c16] at H
                    have c16b0 : decide (a3 < 1) = false := decide_eq_false c16
                    clear c16
                    have H' := Aside0.mk H
                    clear H
                    go_wp2
                    go_meet
                    case rel => exact ⟨_, (decide (a3 > 1000)), (by first | rfl | (simp; done) | (simp [*]; done)), H', ⟨by first | omega | exact Nat.le_refl _⟩, ⟨by repeat (first | (with_reducible first | exact HB.out | apply below_alloc | apply pw_below_drewN | apply below_drew1) | exact HB.out)⟩⟩
    · replace c9 := Bool.eq_false_iff.mpr c9
      subst c9
      have H1 : (lysimeterlaw23_HoltStill.j0 k a0 a1 a2 a3 a4 false true) = some r := by rw [if_neg (show ¬ (false = true) by decide)] at H; exact H
      clear H
      have H := H1
      clear H1
      have H' := Aside0.mk H
      clear H
      go_wp2
      go_meet
      case rel => exact ⟨_, (true), (by first | rfl | (simp; done) | (simp [*]; done)), H', ⟨by first | omega | exact Nat.le_refl _⟩, ⟨by repeat (first | (with_reducible first | exact HB.out | apply below_alloc | apply pw_below_drewN | apply below_drew1) | exact HB.out)⟩⟩
  case rest =>
    clear HC7
    try clear c1
    try clear c2
    try clear p2
    try clear c3
    try clear p6
    try clear c9
    try clear c10
    try clear c10b0
    try clear c11
    try clear c11b0
    try clear c12
    try clear c12b0
    try clear c13
    try clear c13b0
    try clear c14
    try clear c14b0
    try clear c15
    try clear c15b0
    try clear c16
    try clear c16b0
    obtain ⟨kq, x53_6, rfl, HA, HJ6, HB⟩ := hcut
    cases kq with
    | zero => exact absurd HA.out (by simp [lysimeterlaw23_HoltStill.j0])
    | succ kj6 =>
      have H := HA.out
      clear HA
      simp only [lysimeterlaw23_HoltStill.j0] at H
      by_cases c17 : x53_6 = true
      · subst c17
        have H1 : (some t129) = some r := by rw [if_pos rfl] at H; exact H
        clear H
        have H := H1
        clear H1
        obtain rfl := Option.some.inj H
        go_wp2
        go_ret
        exact ⟨by first | rfl | (simp [errW_none, errW_some] <;> rfl) | (simp [*, errW_none, errW_some] <;> rfl), by repeat (first | (with_reducible first | exact HB.out | apply below_alloc | apply pw_below_drewN | apply below_drew1) | exact HB.out)⟩
      · replace c17 := Bool.eq_false_iff.mpr c17
        subst c17
        have H1 : (if a4 = true then (lysimeterlaw23_HoltStill.j1 kj6 a0 a1 a2 a3 ((4294967296 : Int) / 2)) else (lysimeterlaw23_HoltStill.j1 kj6 a0 a1 a2 a3 4294967296)) = some r := by rw [if_neg (show ¬ (false = true) by decide)] at H; exact H
        clear H
        have H := H1
        clear H1
        have HC18 := Aside0.mk H
        clear H
        go_upto_if 55 with (fail)
        go_cut [12] (fun v12 wc => ∃ (kq : Nat) (x12_17 : Int), v12 = .int .i64 x12_17 ∧ Aside0 (lysimeterlaw23_HoltStill.j1 kq a0 a1 a2 a3 x12_17 = some r) ∧ Aside0 (kq ≤ kj6) ∧ Aside0 (Below w.heap.size w wc))
        case first =>
          have H := HC18.out
          clear HC18
          by_cases c19 : a4 = true
          · subst c19
            have H1 : (lysimeterlaw23_HoltStill.j1 kj6 a0 a1 a2 a3 ((4294967296 : Int) / 2)) = some r := by rw [if_pos rfl] at H; exact H
            clear H
            have H := H1
            clear H1
            have H' := Aside0.mk H
            clear H
            go_wp2
            go_meet
            case rel => exact ⟨_, ((4294967296 : Int) / 2), (by first | rfl | (simp; done) | (simp [*]; done)), H', ⟨by have := HJ6.out; first | omega | exact Nat.le_refl _⟩, ⟨by repeat (first | (with_reducible first | exact HB.out | apply below_alloc | apply pw_below_drewN | apply below_drew1) | exact HB.out)⟩⟩
          · replace c19 := Bool.eq_false_iff.mpr c19
            subst c19
            have H1 : (lysimeterlaw23_HoltStill.j1 kj6 a0 a1 a2 a3 4294967296) = some r := by rw [if_neg (show ¬ (false = true) by decide)] at H; exact H
            clear H
            have H := H1
            clear H1
            have H' := Aside0.mk H
            clear H
            go_wp2
            go_meet
            case rel => exact ⟨_, (4294967296), (by first | rfl | (simp; done) | (simp [*]; done)), H', ⟨by have := HJ6.out; first | omega | exact Nat.le_refl _⟩, ⟨by repeat (first | (with_reducible first | exact HB.out | apply below_alloc | apply pw_below_drewN | apply below_drew1) | exact HB.out)⟩⟩
        case rest =>
          clear HC18
          try clear c1
          try clear c2
          try clear p2
          try clear c3
          try clear p6
          try clear c9
          try clear c10
          try clear c10b0
          try clear c11
          try clear c11b0
          try clear c12
          try clear c12b0
          try clear c13
          try clear c13b0
          try clear c14
          try clear c14b0
          try clear c15
          try clear c15b0
          try clear c16
          try clear c16b0
          try clear c17
          try clear c19
          try clear p2
          try clear p6
          obtain ⟨kq, x12_17, rfl, HA, HJ17, HB⟩ := hcut
          cases kq with
          | zero => exact absurd HA.out (by simp [lysimeterlaw23_HoltStill.j1])
          | succ kj17 =>
            have H := HA.out
            clear HA
            simp only [lysimeterlaw23_HoltStill.j1] at H
            have H' := Aside0.mk H
            clear H
            go_wp2
            go_loopg [13, 14] kj17 (fun kq v13 v14 w' => ∃ (x13_3 : List Int) (x14_3 : Int), v14 = .int .i64 x14_3 ∧ Aside0 (lysimeterlaw23_HoltStill.l0 kq a0 a1 a2 a3 x12_17 x13_3 x14_3 = some r) ∧ Aside0 (kq ≤ kj17) ∧ Aside0 (Kd.R (Kd.int .i64) 3 w' w.heap.size (fun _ => True) v13 x13_3) ∧ Aside0 (Below w.heap.size w w'))
            case atStart => exact ⟨(([] : List Int)), (0), (by first | rfl | (simp; done) | (simp [*]; done)), H', ⟨Nat.le_refl _⟩, ⟨by first | exact Kd.R_nil _ _ _ _ _ | exact Kd.N_nil _ _ _ _ _ | exact Kd.V_nil _ _ _ _ _ | exact Kd.Q_nil _ _ _ _ _ | exact Kd.S_nil _ _ _ _ _⟩, ⟨by repeat (first | (with_reducible first | exact HB.out | apply below_alloc | apply pw_below_drewN | apply below_drew1) | exact HB.out)⟩⟩
            case round =>
              clear H'
              try clear c1
              try clear c2
              try clear p2
              try clear c3
              try clear p6
              try clear c9
              try clear c10
              try clear c10b0
              try clear c11
              try clear c11b0
              try clear c12
              try clear c12b0
              try clear c13
              try clear c13b0
              try clear c14
              try clear c14b0
              try clear c15
              try clear c15b0
              try clear c16
              try clear c16b0
              try clear c17
              try clear c19
              try clear p2
              try clear p6
              obtain ⟨x13_3, x14_3, rfl, HA, HK3, HO_13, HB⟩ := hrel
              cases gk with
              | zero => exact absurd HA.out (by simp [lysimeterlaw23_HoltStill.l0])
              | succ k3 =>
                have H := HA.out
                clear HA
                simp only [lysimeterlaw23_HoltStill.l0] at H
                by_cases c20 : x14_3 < a1
                · rw [if_pos c20] at H
                  have c20b0 : decide (x14_3 < a1) = true := decide_eq_true c20
                  clear c20
                  replace H := Option.bind_eq_some_iff.mp H
                  obtain ⟨t130, A210, H⟩ := H
                  replace H : (if x13_3.length < 17592186044416 then (lysimeterlaw23_HoltStill.l0 k3 a0 a1 a2 a3 x12_17 (x13_3 ++ [t130]) (wrap64 (x14_3 + 1))) else (none)) = some r := H
                  have A21 := Aside0.mk A210
                  clear A210
                  by_cases c22 : x13_3.length < 17592186044416
                  · rw [if_pos c22] at H
                    have LMc22 := Aside0.mk c22
                    clear c22
                    obtain ⟨y131, hy131⟩ : ∃ y_ : List Int, y_ = (x13_3 ++ [t130]) := ⟨_, rfl⟩
                    replace H : (lysimeterlaw23_HoltStill.l0 k3 a0 a1 a2 a3 x12_17 y131 (wrap64 (x14_3 + 1))) = some r := by first | (rw [hy131]; with_reducible exact H) | (have H2_ := (Option.bind_some _ _).symm.trans H; rw [hy131]; with_reducible exact H2_) | (have H2_ := (Option.bind_some _ _).symm.trans H; with_reducible exact H2_) | with_reducible exact H | (rw [hy131]; exact H) | exact H
                    have Ny131 := Aside0.mk hy131
                    clear hy131
                    have H' := Aside0.mk H
                    clear H
                    go_wp2_with (first | ((with_reducible refine gate_callee (f := 21) rfl ?_); refine goesL_ (some 65) rfl rfl Try.func21 (by kernel_rfl) rfl #[.int .i64 a0] rfl (by (try simp only [List.map_toArray, List.map_cons, List.map_nil]); first | done | rfl | (simp only [List.length_drop, List.length_take]; rfl)) ?_; (with_reducible refine (lysimeterref1_Of.calls a0 t130 _ A21.out).mono ?_); rintro e w' ⟨rfl, ⟨nd, rfl⟩⟩; refine ⟨_, rfl, ?_⟩) | ((with_reducible refine gate_builtin (b := .append) (xs := #[.tmp 63, .tmp 66]) rfl ?_); at_builtin; refine Kd.R_append (Kd.int .i64) (w0 := w) w.heap.size rfl (.tmp 63) (.tmp 66) 23 3 (.int .i64 0) 8 rfl Try.underlying23 info3 rfl (by decide) (by omega) u13 x13_3 t130 [.int .i64 t130] (fun _ => True) (fun _ => False) rfl rfl ?aP (fun _ hk => hk.elim) ?aF ?aO ?aB ?aS ?aL ?_; (case aP => exact rfl); (case aB => exact (by repeat (first | (with_reducible first | exact HB.out | apply below_alloc | apply pw_below_drewN | apply below_drew1) | exact HB.out))); (case aF => exact (fun _ _ => trivial)); (case aO => exact (by (with_reducible repeat (first | apply Kd.R_alloc | apply Kd.R_drewN | apply Kd.R_drew)); exact HO_13.out)); (case aS => exact (below_size (by repeat (first | (with_reducible first | exact HB.out | apply below_alloc | apply pw_below_drewN | apply below_drew1) | exact HB.out)))); (case aL => have := LMc22.out; omega); intro v132 w23 ho hb hg hat; rw [← Ny131.out] at ho; have n0_ := Aside0.mk (hb); have n1_ := Aside0.mk (ho); clear HB; clear HO_13; have HB := n0_; have HO133 := n1_; clear n0_ n1_; clear ho hb hg hat))
                    go_roundg k3
                    case measure => have := HJ6.out; have := HJ17.out; have := HK3.out; omega
                    case rel => exact ⟨(y131), (wrap64 (x14_3 + 1)), (by first | rfl | (simp; done) | (simp [*]; done)), H', ⟨by have := HJ6.out; have := HJ17.out; have := HK3.out; omega⟩, ⟨by (with_reducible repeat (first | apply Kd.R_alloc | apply Kd.R_drewN | apply Kd.R_drew)); exact HO133.out⟩, ⟨by repeat (first | (with_reducible first | exact HB.out | apply below_alloc | apply pw_below_drewN | apply below_drew1) | exact HB.out)⟩⟩
                  · rw [if_neg c22] at H
                    exact absurd H (by simp)
                · rw [if_neg c20] at H
                  have c20b0 : decide (x14_3 < a1) = false := decide_eq_false c20
                  clear c20
                  replace H := Option.bind_eq_some_iff.mp H
                  obtain ⟨⟨t134, t135⟩, A240, H⟩ := H
                  replace H : ((lysimeterlaw23_num.f t135).bind fun t136 => (if t136 = 0 then ((lysimeterref1_Of.f a0).bind fun t137 => (some (t134 == t137))) else (some false))) = some r := H
                  have A24 := Aside0.mk A240
                  clear A240
                  replace H := Option.bind_eq_some_iff.mp H
                  obtain ⟨t136, A250, H⟩ := H
                  replace H : (if t136 = 0 then ((lysimeterref1_Of.f a0).bind fun t137 => (some (t134 == t137))) else (some false)) = some r := H
                  have A25 := Aside0.mk A250
                  clear A250
                  by_cases c26 : t136 = 0
                  · rw [if_pos c26] at H
                    have c26b0 : (t136 == 0) = true := beq_iff_eq.mpr c26
                    have c26b1 : (t136 != 0) = false := bne_eq_false_iff_eq.mpr c26
                    clear c26
                    replace H := Option.bind_eq_some_iff.mp H
                    obtain ⟨t137, A270, H⟩ := H
                    replace H : (some (t134 == t137)) = some r := H
                    have A27 := Aside0.mk A270
                    clear A270
                    obtain rfl := Option.some.inj H
                    obtain ⟨Ao28, co28, eo28⟩ := Kd.R_slice HO_13.out
                    subst eo28
                    go_wp2_with (first | ((with_reducible refine gate_callee (f := 22) rfl ?_); refine goesL_ (some 76) rfl rfl Try.func22 (by kernel_rfl) rfl #[.slice Ao28 x13_3.length co28, .agg #[.int .i64 a2, .int .i64 x12_17, .int .i64 x12_17, .int .i64 x12_17], .int .i64 a3] rfl (by (try simp only [List.map_toArray, List.map_cons, List.map_nil]); first | done | rfl | (simp only [List.length_drop, List.length_take]; rfl)) ?_; (with_reducible refine (holt_Cast.calls _ _ x13_3 a2 x12_17 x12_17 x12_17 a3 t134 t135 _ ?side1 ?side2 A24.out).mono ?_); (case side1 => repeat (first | exact (Kd.R_reads' HO_13.out).2.2 | (with_reducible refine Kd.C_alloc ?_ _) | (with_reducible refine Kd.C_drewN ?_ _) | (with_reducible refine Kd.C_drew ?_))); (case side2 => exact (Kd.R_reads' HO_13.out).2.1); rintro e w29 ⟨rfl, hb⟩; refine ⟨_, rfl, ?_⟩; have n0_ := Aside0.mk (Kd.R_below (by (with_reducible repeat (first | apply Kd.R_alloc | apply Kd.R_drewN | apply Kd.R_drew)); exact HO_13.out) hb); have n1_ := Aside0.mk (below_step (by repeat (first | (with_reducible first | exact HB.out | apply below_alloc | apply pw_below_drewN | apply below_drew1) | exact HB.out)) hb); clear HO_13; clear HB; have HO_13 := n0_; have HB := n1_; clear n0_ n1_; (try clear hb); (try clear hb2); (try clear hk); (try clear hi)) | ((with_reducible refine gate_callee (f := 23) rfl ?_); refine goesL_ (some 80) rfl rfl Try.func23 (by kernel_rfl) rfl #[.int .i64 t135] rfl (by (try simp only [List.map_toArray, List.map_cons, List.map_nil]); first | done | rfl | (simp only [List.length_drop, List.length_take]; rfl)) ?_; (with_reducible refine (lysimeterlaw23_num.calls t135 t136 _ A25.out).mono ?_); rintro e w' ⟨rfl, ⟨nd, rfl⟩⟩; refine ⟨_, rfl, ?_⟩) | (go_at_call 21; (with_reducible refine (lysimeterref1_Of.calls a0 t137 _ A27.out).mono ?_); rintro e w' ⟨rfl, ⟨nd, rfl⟩⟩))
                    go_ret
                    exact ⟨by first | rfl | (simp [errW_none, errW_some] <;> rfl) | (simp [*, errW_none, errW_some] <;> rfl), by repeat (first | (with_reducible first | exact HB.out | apply below_alloc | apply pw_below_drewN | apply below_drew1) | exact HB.out)⟩
                  · rw [if_neg c26] at H
                    have c26b0 : (t136 == 0) = false := beq_eq_false_iff_ne.mpr c26
                    have c26b1 : (t136 != 0) = true := bne_iff_ne.mpr c26
                    obtain rfl := Option.some.inj H
                    obtain ⟨Ao30, co30, eo30⟩ := Kd.R_slice HO_13.out
                    subst eo30
                    go_wp2_with (first | ((with_reducible refine gate_callee (f := 22) rfl ?_); refine goesL_ (some 76) rfl rfl Try.func22 (by kernel_rfl) rfl #[.slice Ao30 x13_3.length co30, .agg #[.int .i64 a2, .int .i64 x12_17, .int .i64 x12_17, .int .i64 x12_17], .int .i64 a3] rfl (by (try simp only [List.map_toArray, List.map_cons, List.map_nil]); first | done | rfl | (simp only [List.length_drop, List.length_take]; rfl)) ?_; (with_reducible refine (holt_Cast.calls _ _ x13_3 a2 x12_17 x12_17 x12_17 a3 t134 t135 _ ?side1 ?side2 A24.out).mono ?_); (case side1 => repeat (first | exact (Kd.R_reads' HO_13.out).2.2 | (with_reducible refine Kd.C_alloc ?_ _) | (with_reducible refine Kd.C_drewN ?_ _) | (with_reducible refine Kd.C_drew ?_))); (case side2 => exact (Kd.R_reads' HO_13.out).2.1); rintro e w31 ⟨rfl, hb⟩; refine ⟨_, rfl, ?_⟩; have n0_ := Aside0.mk (Kd.R_below (by (with_reducible repeat (first | apply Kd.R_alloc | apply Kd.R_drewN | apply Kd.R_drew)); exact HO_13.out) hb); have n1_ := Aside0.mk (below_step (by repeat (first | (with_reducible first | exact HB.out | apply below_alloc | apply pw_below_drewN | apply below_drew1) | exact HB.out)) hb); clear HO_13; clear HB; have HO_13 := n0_; have HB := n1_; clear n0_ n1_; (try clear hb); (try clear hb2); (try clear hk); (try clear hi)) | ((with_reducible refine gate_callee (f := 23) rfl ?_); refine goesL_ (some 80) rfl rfl Try.func23 (by kernel_rfl) rfl #[.int .i64 t135] rfl (by (try simp only [List.map_toArray, List.map_cons, List.map_nil]); first | done | rfl | (simp only [List.length_drop, List.length_take]; rfl)) ?_; (with_reducible refine (lysimeterlaw23_num.calls t135 t136 _ A25.out).mono ?_); rintro e w' ⟨rfl, ⟨nd, rfl⟩⟩; refine ⟨_, rfl, ?_⟩))
                    go_ret
                    exact ⟨by first | rfl | (simp [errW_none, errW_some] <;> rfl) | (simp [*, errW_none, errW_some] <;> rfl), by repeat (first | (with_reducible first | exact HB.out | apply below_alloc | apply pw_below_drewN | apply below_drew1) | exact HB.out)⟩
def lysimeterlaw23_HoltStill.Pure : Prop := ∀ (a0 : Int) (a1 : Int) (a2 : Int) (a3 : Int) (a4 : Bool), (Lit.int .i64 a0).wf = true → (Lit.int .i64 a1).wf = true → (Lit.int .i64 a2).wf = true → (Lit.int .i64 a3).wf = true → ∃ k, lysimeterlaw23_HoltStill.f k a0 a1 a2 a3 a4 = some true
theorem lysimeterlaw23_HoltStill.walk (P : lysimeterlaw23_HoltStill.Pure) (a0 : Int) (a1 : Int) (a2 : Int) (a3 : Int) (a4 : Bool) (w : World) (w0 : (Lit.int .i64 a0).wf = true) (w1 : (Lit.int .i64 a1).wf = true) (w2 : (Lit.int .i64 a2).wf = true) (w3 : (Lit.int .i64 a3).wf = true) :
    Calls Try.prog 3 #[.int .i64 a0, .int .i64 a1, .int .i64 a2, .int .i64 a3, .bool a4] w fun e w' => e = .returned (.bool true) ∧ Below w.heap.size w w' := by
  obtain ⟨k, h⟩ := P a0 a1 a2 a3 a4 w0 w1 w2 w3
  refine (lysimeterlaw23_HoltStill.calls k a0 a1 a2 a3 a4 true w h).mono ?_
  rintro e w' ⟨rfl, hd⟩
  exact ⟨rfl, hd⟩
end Go.Proofs.Ytemnfnbjapobcaa.Hp
end
section
namespace Go.Proofs.Ytemnfnbjapobcaa.Pure
open Go.RowKit Go.Proofs.Ytemnfnbjapobcaa.Hp Go.Proofs.YtemnfnbjapobcaaW.PrintWords Go.Proofs.YtemnfnbjapobcaaW.PrintLast
open Go.Proofs.Ytemnfnbjapobcaa.HS Go.Proofs.Ytemnfnbjapobcaa.FM Go.Proofs.Ytemnfnbjapobcaa.FS
set_option linter.unusedVariables false
theorem still_alive : lysimeterlaw23_alive.f (50 + 1) = some true := by decide +kernel
def Sm (V : Int) : Prop := ∃ v : Int, V = v * 4294967296 ∧ -1000000 ≤ v ∧ v ≤ 1000000
def Wt (w : Int) : Prop := w = 4294967296 ∨ w = 2147483648
theorem add_same {V : Int} (h : Sm V) : addS V 0 = V := by obtain ⟨v, rfl, h1, h2⟩ := h; unfold addS; rw [sat_id (by omega) (by omega)]; omega
theorem sub_same {V : Int} : subS V V = 0 := by unfold subS; rw [sat_id (by omega) (by omega)]; omega
theorem sub_zero {V : Int} (h : Sm V) : subS V 0 = V := by obtain ⟨v, rfl, h1, h2⟩ := h; unfold subS; rw [sat_id (by omega) (by omega)]; omega
theorem mul_zero (w : Int) : mulS w 0 = 0 := by unfold mulS; rw [Int.mul_zero]; decide
theorem mix_zero (w : Int) : mixS w 0 0 = 0 := by unfold mixS; rw [mul_zero, mul_zero]; decide
theorem mix_same {w V : Int} (hw : Wt w) (h : Sm V) : mixS w V V = V := by
  obtain ⟨v, rfl, h1, h2⟩ := h
  unfold mixS mulS subS addS
  rcases hw with rfl | rfl
  · rw [show (4294967296 : Int) * (v * 4294967296) / 4294967296 = v * 4294967296 by omega, sat_id (z := v * 4294967296) (by omega) (by omega), show sat ((4294967296 : Int) - 4294967296) = 0 by decide, Int.zero_mul, show sat ((0 : Int) / 4294967296) = 0 by decide, sat_id (by omega) (by omega)]; omega
  · rw [show (2147483648 : Int) * (v * 4294967296) / 4294967296 = v * 2147483648 by omega, sat_id (z := v * 2147483648) (by omega) (by omega), show sat ((4294967296 : Int) - 2147483648) = 2147483648 by decide, show (2147483648 : Int) * (v * 4294967296) / 4294967296 = v * 2147483648 by omega, sat_id (z := v * 2147483648) (by omega) (by omega), sat_id (by omega) (by omega)]; omega
theorem fold_add {V : Int} (v : Int) (hV : V = v * 4294967296) (h1 : -1000000 ≤ v) (h2 : v ≤ 1000000) : ∀ (n i : Nat), n + i ≤ 20 → (List.replicate n V).foldl addS (i * V) = (n + i : Nat) * V
  | 0, i, _ => by simp
  | n + 1, i, h => by
    simp only [List.replicate_succ, List.foldl_cons]
    have e : addS (i * V) V = ((i + 1 : Nat) : Int) * V := by
      have b : -(20000000 : Int) ≤ ((i : Int) + 1) * v ∧ ((i : Int) + 1) * v ≤ 20000000 := by
        constructor
        · have := Int.mul_le_mul_of_nonneg_left h1 (show (0 : Int) ≤ (i : Int) + 1 by omega); omega
        · have := Int.mul_le_mul_of_nonneg_left h2 (show (0 : Int) ≤ (i : Int) + 1 by omega); omega
      have e2 : (i : Int) * V + V = ((i : Int) + 1) * v * 4294967296 := by rw [hV, Int.mul_assoc, Int.add_mul, Int.one_mul]
      unfold addS
      rw [e2, sat_id (by omega) (by omega), hV, Int.mul_assoc]; rfl
    rw [e, fold_add v hV h1 h2 n (i + 1) (by omega)]
    congr 2; omega
theorem mean_same {V : Int} (h : Sm V) (n : Nat) (hn : 1 ≤ n) (hn' : n ≤ 20) : meanS (List.replicate n V) = V := by
  obtain ⟨v, hV, h1, h2⟩ := h
  have e := fold_add v hV h1 h2 n 0 (by omega)
  unfold meanS sumS
  rw [show (0 : Int) = ((0 : Nat) : Int) * V by simp, e, List.length_replicate]
  unfold ofS
  rw [sat_id (z := (n : Int) * 4294967296) (by omega) (by omega), divS_pos (by omega), Nat.add_zero]
  have : (n : Int) * V * 4294967296 / ((n : Int) * 4294967296) = V := by
    rw [Int.mul_right_comm]
    exact Int.mul_ediv_cancel_left _ (by omega)
  rw [this, sat_id (by omega) (by omega)]
def Quiet (V : Int) (s : St) : Prop := s.level = V ∧ s.trend = 0 ∧ ∀ x ∈ s.parts, x = 0
theorem getD_zero {l : List Int} (h : ∀ x ∈ l, x = 0) (i : Nat) : l.getD i 0 = 0 := by
  rw [List.getD_eq_getElem?_getD]
  cases e : l[i]? with
  | none => rfl
  | some x => exact h x (List.mem_of_getElem? e)
theorem step_quiet {w V : Int} {n : Int} (hw : Wt w) (h : Sm V) {s : St} (hs : Quiet V s) : Quiet V (stepS ⟨n, w, w, w⟩ s V) := by
  obtain ⟨a, b, c⟩ := hs
  unfold stepS
  simp only [a, b, getD_zero c, add_same h, sub_zero h, mix_same hw h, sub_same, mix_zero]
  exact ⟨rfl, rfl, fun x hx => by
    rcases List.mem_or_eq_of_mem_set hx with h1 | h1
    · exact c x h1
    · exact h1⟩
theorem fold_quiet {w V : Int} {n : Int} (hw : Wt w) (h : Sm V) : ∀ (k : Nat) (s : St), Quiet V s → Quiet V ((List.replicate k V).foldl (stepS ⟨n, w, w, w⟩) s)
  | 0, _, hs => hs
  | k + 1, s, hs => fold_quiet hw h k _ (step_quiet hw h hs)
theorem begin_quiet {V : Int} (h : Sm V) (m n : Nat) (h1 : 1 ≤ n) (h2 : n ≤ 20) (h3 : 2 * n ≤ m) : Quiet V (beginS (List.replicate m V) n) := by
  unfold beginS
  have e1 : (List.replicate m V).take n = List.replicate n V := by rw [List.take_replicate, Nat.min_eq_left (by omega)]
  have e2 : ((List.replicate m V).drop n).take n = List.replicate n V := by rw [List.drop_replicate, List.take_replicate, Nat.min_eq_left (by omega)]
  rw [e1, e2, mean_same h n h1 h2]
  refine ⟨rfl, ?_, ?_⟩
  · show divS (subS V V) _ = 0
    rw [sub_same]; unfold ofS; rw [sat_id (z := (n : Int) * 4294967296) (by omega) (by omega), divS_pos (by omega), Int.zero_mul, Int.zero_ediv]; decide
  · intro x hx
    obtain ⟨y, hy, rfl⟩ := List.mem_map.mp hx
    rw [(List.mem_replicate.mp hy).2, sub_same]
theorem cast_still {w V : Int} (hw : Wt w) (h : Sm V) (m : Nat) (n : Int) (ahead : Int) (h1 : 1 ≤ n) (h2 : n ≤ 20) (h3 : 2 * n ≤ (m : Int)) (ha : 1 ≤ ahead) (hb : ahead ≤ 10000) :
    castS (List.replicate m V) ⟨n, w, w, w⟩ ahead = (V, 0) := by
  have ec : checkS ⟨n, w, w, w⟩ = 0 := by
    unfold checkS okW
    rw [if_neg (by simp only; omega)]
    rcases hw with rfl | rfl <;> simp
  have es : startE (List.replicate m V) ⟨n, w, w, w⟩ = 0 := by
    unfold startE
    rw [ec, if_neg (by decide), List.length_replicate, if_neg (by simp only; omega)]
  obtain ⟨a, b, c⟩ : Quiet V (startS (List.replicate m V) ⟨n, w, w, w⟩) := by
    unfold startS
    rw [List.drop_replicate]
    exact fold_quiet hw h _ _ (begin_quiet h m n.toNat (by omega) (by omega) (by omega))
  unfold castS
  rw [if_neg (by rw [es]; decide)]
  unfold castOf
  rw [if_neg (by omega), a, b, getD_zero c, mul_zero, add_same h, add_same h]
theorem still_loop (v n s a w V : Int) (hV : ofS v = V) (hin : In v) (hIn : In V) (hs : In s) (ha : In a) (r : Bool) : ∀ (d : Nat) (i : Nat), n = (i + d : Nat) → n ≤ 200 → (holt_Cast.f (List.replicate (i + d) V) s w w w a).bind (fun bt134 => ((lysimeterlaw23_num.f bt134.2).bind fun t136 => (if t136 = 0 then ((lysimeterref1_Of.f v).bind fun t137 => (some (bt134.1 == t137))) else (some false)))) = some r →
    lysimeterlaw23_HoltStill.l0 (d + 1) v n s a w (List.replicate i V) (i : Int) = some r
  | 0, i, e, hn, h => by
    simp only [lysimeterlaw23_HoltStill.l0]
    rw [if_neg (by omega)]
    exact h
  | d + 1, i, e, hn, h => by
    rw [lysimeterlaw23_HoltStill.l0]
    rw [if_pos (by omega)]
    have : lysimeterref1_Of.f v = some V := by unfold lysimeterref1_Of.f; rw [if_pos (inB_iff.mpr hin), hV]
    rw [this, Option.bind_some, List.length_replicate, if_pos (by omega)]
    have e1 : List.replicate i V ++ [V] = List.replicate (i + 1) V := (List.replicate_succ' ..).symm
    have e2 : wrap64 ((i : Int) + 1) = ((i + 1 : Nat) : Int) := by rw [wrap64_id (by omega) (by omega)]; rfl
    rw [e1, e2]
    exact still_loop v n s a w V hV hin hIn hs ha r d (i + 1) (by omega) hn (by rw [show i + 1 + d = i + (d + 1) by omega]; exact h)
theorem HoltStill : lysimeterlaw23_HoltStill.Pure := by
  intro v n s a half w0 w1 w2 w3
  have iv := FM.i64_of_wf w0
  have is' := FM.i64_of_wf w2
  have ia := FM.i64_of_wf w3
  have inn := FM.i64_of_wf w1
  by_cases g : v < -1000000 ∨ v > 1000000 ∨ s < 1 ∨ s > 20 ∨ n < 2 * s ∨ n > 200 ∨ a < 1 ∨ a > 1000
  · refine ⟨50 + 1, ?_⟩
    unfold lysimeterlaw23_HoltStill.f
    rw [still_alive]
    simp only [Option.bind_some, if_true]
    have J : ∀ d : Bool, lysimeterlaw23_HoltStill.j0 (50 + 1) v n s a half true true = some true := fun _ => by rw [lysimeterlaw23_HoltStill.j0, if_pos rfl]
    rw [J true]
    by_cases c1 : v < -1000000
    · rw [if_pos c1]
    rw [if_neg c1]
    by_cases c2 : v > 1000000
    · rw [if_pos c2]
    rw [if_neg c2]
    by_cases c3 : s < 1
    · rw [if_pos c3]
    rw [if_neg c3]
    by_cases c4 : s > 20
    · rw [if_pos c4]
    rw [if_neg c4]
    have e2 : wrap64 (2 * s) = 2 * s := wrap64_id (by omega) (by omega)
    rw [e2]
    by_cases c5 : n < 2 * s
    · rw [if_pos c5]
    rw [if_neg c5]
    by_cases c6 : n > 200
    · rw [if_pos c6]
    rw [if_neg c6]
    by_cases c7 : a < 1
    · rw [if_pos c7]
    rw [if_neg c7]
    rw [decide_eq_true (show a > 1000 by omega)]
    exact J true
  · have e2 : wrap64 (2 * s) = 2 * s := wrap64_id (by omega) (by omega)
    refine ⟨400 + 1 + 1 + 1, ?_⟩
    have hal : lysimeterlaw23_alive.f (400 + 1 + 1 + 1) = some true := by
      have M : ∀ d, lysimeterlaw23_alive.f (50 + 1 + d) = some true := by
        intro d
        induction d with
        | zero => exact still_alive
        | succ d ih => exact lysimeterlaw23_alive.mono _ _ ih
      exact M 352
    unfold lysimeterlaw23_HoltStill.f
    rw [hal]
    simp only [Option.bind_some, if_true]
    rw [e2, if_neg (by omega), if_neg (by omega), if_neg (by omega), if_neg (by omega), if_neg (by omega), if_neg (by omega), if_neg (by omega), decide_eq_false (by omega)]
    have hV : ofS v = v * 4294967296 := sat_id (by omega) (by omega)
    have hSm : Sm (v * 4294967296) := ⟨v, rfl, by omega, by omega⟩
    have main : ∀ w : Int, Wt w → lysimeterlaw23_HoltStill.j1 (400 + 1 + 1) v n s a w = some true := by
      intro w hw
      rw [lysimeterlaw23_HoltStill.j1]
      have h := still_loop v n s a w (v * 4294967296) hV iv ⟨by omega, by omega⟩ is' ia true n.toNat 0 (by omega) (by omega) (by
        rw [Nat.zero_add]
        unfold holt_Cast.f
        rw [if_pos (by
          simp only [Bool.and_eq_true, okL_iff, inB_iff, List.length_replicate]
          refine ⟨⟨⟨fun x hx => ?_, by omega⟩, is'⟩, ia⟩
          rw [(List.mem_replicate.mp hx).2]; exact ⟨by omega, by omega⟩)]
        rw [cast_still hw hSm n.toNat s a (by omega) (by omega) (by omega) (by omega) (by omega)]
        simp only [Option.bind_some, lysimeterlaw23_num.f, if_true, lysimeterref1_Of.f, inB_iff.mpr iv, hV, beq_self_eq_true])
      have M : ∀ d, lysimeterlaw23_HoltStill.l0 (n.toNat + 1 + d) v n s a w [] 0 = some true := by
        intro d
        induction d with
        | zero => exact h
        | succ d ih => exact (lysimeterlaw23_HoltStill.mono_l _).2.2 _ _ _ _ _ _ _ _ ih
      have := M (400 - n.toNat)
      rw [show n.toNat + 1 + (400 - n.toNat) = 400 + 1 by omega] at this
      exact this
    rw [lysimeterlaw23_HoltStill.j0, if_neg (by decide)]
    cases half
    · rw [if_neg (by decide)]; exact main _ (Or.inl rfl)
    · rw [if_pos rfl]; exact main _ (Or.inr (by decide))
end Go.Proofs.Ytemnfnbjapobcaa.Pure
end
section
namespace Go.Proofs.Ytemnfnbjapobcaa.Over
open Go.RowKit
def rest (P : Program) (f : FuncId) (fn : Func) (s : ChangeSpec) (c : OpenClaim) : Bool :=
  c.wf (OpenSpec.ofChange s) && laidOutB P && mapsRowed P &&
  fn.params.all (P.readableRec ·) && namedTie P c.named s.vars &&
  (c.stops == []) && (P.stops == []) && (c.knobs == []) && (P.stopKnobs == []) &&
  (c.inPlace == P.inPlace f) && (c.unfollowed == P.unfollowed f) && (c.recurses == P.recurses f) && (c.named == P.varsNamed f) &&
  (c.maps == (fn.params.toList ++ s.plain.varTypes P).any (P.mapsRec ·)) && (c.ifaces == (fn.params.toList ++ s.plain.varTypes P).any (P.ifacesRec ·)) && (c.mapsOut == P.mapsAmong fn.resultTypes.toList) &&
  (c.loops == (fn.params.toList ++ s.plain.varTypes P).any (P.loopsFrom ·)) && (c.wideKeys == (fn.params.toList ++ s.plain.varTypes P ++ fn.resultTypes.toList).any (P.wideKeysFrom ·)) &&
  s.vars.all (P.varReadable ·) && fn.resultTypes.all (fun t => P.readableRec t && decide (t < P.types.size)) && (c.ifacesOut == fn.resultTypes.toList.any (P.ifacesRec ·)) && (c.loopsOut == fn.resultTypes.toList.any (P.loopsFrom ·)) && (c.plainKeys == P.plainKeys) && c.shortTexts.isNone && P.stopsHeard && true && true && true && (c.kinds == (if c.domain.isEmpty then [] else fn.params.toList.map fun t => match P.underlying t with | some (.int k) => some k | _ => none)) && (c.pinned == c.pinnedBy) &&
  (c.veiled == (fn.params.toList ++ s.plain.varTypes P ++ fn.resultTypes.toList).any (P.veiledRec ·)) && c.veiledFits P fn.params.toList (fn.params.toList ++ s.plain.varTypes P ++ fn.resultTypes.toList)
theorem joined_ {P : Program} {f : FuncId} {fn : Func} {s : ChangeSpec} {c : OpenClaim} (w : (P.mayEnter && (false == P.liftsFinal) && (P.make == some .cut)) = true) (h : rest P f fn s c = true) (e1 : c.lifted = false) (e2 : c.make = .cut) : joinedFacts P f fn s c = true := by
  simp only [Bool.and_eq_true] at w
  obtain ⟨⟨w1, w2⟩, w3⟩ := w
  unfold rest at h
  unfold joinedFacts
  rw [w1, e1, w2, e2, w3]
  exact h
theorem words : (Try.pinned.checked.prog.mayEnter && (false == Try.pinned.checked.prog.liftsFinal) && (Try.pinned.checked.prog.make == some .cut)) = true := by kernel_rfl
theorem joined {f : FuncId} {fn : Func} {s : ChangeSpec} {c : OpenClaim} (h : rest Try.pinned.checked.prog f fn s c = true) (e1 : c.lifted = false) (e2 : c.make = .cut) : joinedFacts Try.pinned.checked.prog f fn s c = true := joined_ words h e1 e2
end Go.Proofs.Ytemnfnbjapobcaa.Over
end
section
namespace Go.Proofs.Ytemnfnbjapobcaa.holtStill
open Go.ChangeShapes Go.WideShapes Go.ChangeAt Go.RowKit
open Go.ChangeMaps (open_string shut_string)
set_option linter.unusedVariables false
set_option maxRecDepth 100000
theorem own : ownKnob Try.prog.godebug = none := by kernel_rfl
set_option maxRecDepth 100000 in
theorem lifted (os : Os) (started : os.Started) (H : Type) (enc : TypeId × Value → H) :
    ReturnsInHanded {} Try.checked os 3 .any (Rows.holtStillSpec.pre6 enc Try.prog Try.f3 Rows.holtStillRow.domain false) (Rows.holtStillSpec.post enc Try.prog Try.f3 false true false false) := by
  refine returnsInHanded_of_change_sized (C := Try.checked) own started (by kernel_rfl) Try.func3
    (ChangeSpec.witness6 (enc := enc) (C := Try.checked) false ⟨#[], #[.int .i64 0, .int .i64 0, .int .i64 0, .int .i64 0, .bool false], []⟩ 8 (by kernel_rfl) (by kernel_rfl) (by kernel_rfl) (by kernel_rfl)) ?_
  intro W base args ds gs before hval0 hW hcnd hsz0 _
  have hsz : (DataW.weightsEach Try.prog (Try.f3.params.toList ++ Rows.holtStillSpec.plain.varTypes Try.prog) (ds ++ gs)).all (· ≤ reachBytes) = true := hsz0
  have hval : ∀ (j : Nat) t v, Try.f3.params[j]? = some t → args[j]? = some v → Value.okWide Try.prog W .any base t v := hval0
  have hW' := hW
  obtain ⟨p, q, hA0, hV, rfl, hfz, hnd⟩ := hW
  have hA : DataW.TrodAll enc Try.prog W 0 (fun _ => true) true Try.f3.params.toList args.toList ds p := hA0
  rw [Try.params3] at hA hval hsz
  obtain ⟨v0, vs0, d0, ds0, p0, q0, hargs, rfl, rfl, h0, r0⟩ := trodAll_cons hA
  obtain ⟨v1, vs1, d1, ds1, p1, q1, rfl, rfl, rfl, h1, r1⟩ := trodAll_cons r0
  obtain ⟨v2, vs2, d2, ds2, p2, q2, rfl, rfl, rfl, h2, r2⟩ := trodAll_cons r1
  obtain ⟨v3, vs3, d3, ds3, p3, q3, rfl, rfl, rfl, h3, r3⟩ := trodAll_cons r2
  obtain ⟨v4, vs4, d4, ds4, p4, q4, rfl, rfl, rfl, h4, r4⟩ := trodAll_cons r3
  obtain ⟨rfl, rfl, rfl⟩ := trodAll_nil r4
  obtain rfl : args = #[v0, v1, v2, v3, v4] := by cases args; simp_all
  obtain ⟨rfl, rfl⟩ := trodVars_none hV
  obtain ⟨a0, rfl, rfl, rfl, w0⟩ := open_int Try.underlying3 (hval 0 3 v0 rfl rfl) h0
  obtain ⟨a1, rfl, rfl, rfl, w1⟩ := open_int Try.underlying3 (hval 1 3 v1 rfl rfl) h1
  obtain ⟨a2, rfl, rfl, rfl, w2⟩ := open_int Try.underlying3 (hval 2 3 v2 rfl rfl) h2
  obtain ⟨a3, rfl, rfl, rfl, w3⟩ := open_int Try.underlying3 (hval 3 3 v3 rfl rfl) h3
  obtain ⟨a4, rfl, rfl, rfl⟩ := open_bool Try.underlying4 (hval 4 4 v4 rfl rfl) h4
  clear hA0 hval0 hsz0 hsz
  refine (Hp.lysimeterlaw23_HoltStill.walk Pure.HoltStill a0 a1 a2 a3 a4 W w0 w1 w2 w3).mono fun e W' ⟨he, bel⟩ => ?_
  subst he
  exact ⟨_, rfl, _, _, _, [], _, [], hW', trodAll_mk1 (shut_bool Try.underlying4 _), (trodAll_cons_mk (shut_int Try.underlying3 w0) (trodAll_cons_mk (shut_int Try.underlying3 w1) (trodAll_cons_mk (shut_int Try.underlying3 w2) (trodAll_cons_mk (shut_int Try.underlying3 w3) (trodAll_cons_mk (shut_bool Try.underlying4 _) trodAll_mk0))))), rfl, bel.frame _, fun h => by cases h⟩
theorem over : Rows.holtStillRow.holds Try.pinned (OpenSpec.ofChange Rows.holtStillSpec) :=
  OpenClaim.holds_of_wide 3 Try.f3 rfl rfl rfl rfl rfl rfl rfl ⟨rfl, rfl, rfl, rfl, rfl⟩ rfl rfl rfl rfl rfl (by kernel_rfl) Try.func3 (Over.joined (by kernel_rfl) rfl rfl)
    (of_decide_eq_true (by kernel_rfl)) (by unfold Func.isWrapper; first | (rw [if_pos (by decide +kernel)]; kernel_rfl) | (rw [if_neg (by decide +kernel)]; exact ⟨rfl, rfl⟩))
    (fun os started H enc _ => lifted os started H enc)
theorem proved : Rows.HoltStillSaid := over
#print axioms proved
end Go.Proofs.Ytemnfnbjapobcaa.holtStill
namespace Go.Proofs.Ytemnfnbjapobcaa
theorem holtStill_holds : Rows.HoltStillSaid := holtStill.proved
end Go.Proofs.Ytemnfnbjapobcaa
end
