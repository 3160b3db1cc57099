-- Laid together by wip/shake.py out of: Holt5 Ref1 Holt6 Holt7 Holt8 Extra Ch1 Ch2 Ch3 Ch4 Ch5 Ch6 Cmx0 Cmx1
import Derived.Test.YtemnfnbjapobcaaChoosePeakm4
import Derived.Test.YtemnfnbjapobcaaProg
import Derived.Below
import Derived.Deep.Draws
import Derived.Deep.AppendLies
import Derived.Maps.AppendAt
import Derived.OwnWalk
import Derived.Laws.BytesArg
import Derived.Laws.MakeOwn
import Derived.Laws.OwnMore
import Derived.Deep.OwnRows
import Derived.Tactics
import Derived.Lib.ConvBytes
import Derived.Laws.Slices
import Derived.WalkKit
import Derived.KernelRfl
import Derived.RowKit3
import Derived.Deep.LoopGhost
import Derived.Deep.QuietTactic
import Derived.BigQuiet
import Derived.WideLaws
import Derived.Deep.DeepCutAuto
import Derived.Deep.CutBlock
import Derived.Deep.RegionHeld3
import Derived.Laws.Rows
import Derived.Lib.AppendStr
import Derived.ArgAppend
import Derived.Laws.IdiomCopy
import Derived.OrdersHeld
import Derived.Laws.BitsLemmas
import Derived.RowKit
section
namespace Go.Proofs.Ytemnfnbjapobcaa.Ho
open Go.RowKit Go.Proofs.YtemnfnbjapobcaaW.PrintWords Go.Proofs.YtemnfnbjapobcaaW.PrintLast Go.Proofs.YtemnfnbjapobcaaW.PrintMore
open Go.Proofs.Ytemnfnbjapobcaa.FS Go.Proofs.Ytemnfnbjapobcaa.HS
set_option linter.unusedVariables false
set_option linter.unusedSimpArgs false
theorem mean_n (A : Option Addr) (n c : Nat) (l : List Int) (w : World) (e : l.length = n) (hr : Kd.C (Kd.int .i64) w A n l) (hl : n ≤ 1000000000000) (hin : AllIn l) :
    Calls Try.prog 101 #[.slice A n c] w fun e w' => e = .returned (.int .i64 (meanS l)) ∧ Drawn0 w w' := by
  subst e
  exact mean_calls A c l w hr hl hin
theorem allIn_take {l : List Int} (h : AllIn l) (n : Nat) : AllIn (l.take n) := fun x hx => h x (List.mem_of_mem_take hx)
theorem allIn_drop {l : List Int} (h : AllIn l) (n : Nat) : AllIn (l.drop n) := fun x hx => h x (List.mem_of_mem_drop hx)
theorem cell_made {w w' : World} {n : Nat} {p : Addr} {v : Value} (h : Made w w' n) (hc : w.cell? p = some v) : w'.cell? p = some v := (h.below.cell (World.block_lt_of_cell? _ _ hc)).trans hc
theorem weighed_x (wt : Int) (hwt : FS.In wt) (w : World) :
    Calls Try.prog 103 #[.int .i64 wt] w fun e w' => e = .returned (.func (.func 135) #[] #[.pointer (some ⟨w.heap.size, 0, none⟩), .pointer (some ⟨w.heap.size + 1, 0, none⟩)]) ∧ MixAt w' w.heap.size wt ∧ Made w w' 2 := weighed_calls wt hwt w
theorem below_alloc_ {n : Nat} {w W : World} (h : Below n w W) (hn : n ≤ W.heap.size) (o : Obj) : Below n w (W.alloc o) := h.alloc hn o
theorem cell_alloc {w : World} {p : Addr} {v : Value} (hc : w.cell? p = some v) (o : Obj) : (w.alloc o).cell? p = some v := by
  rw [World.cell?_alloc_lt _ _ _ (World.block_lt_of_cell? _ _ hc)]; exact hc
theorem cell_of_alloc {w : World} {p : Addr} {v : Value} {o : Obj} (hc : (w.alloc o).cell? p = some v) (hp : p.block < w.heap.size) : w.cell? p = some v := by
  rwa [World.cell?_alloc_lt _ _ _ hp] at hc
theorem parts_len (l : List Int) (av : Int) {k N : Nat} (h : k ≤ N) (hN : N ≤ l.length) : (((l.take N).take k).map (fun x => subS x av)).length = k := by simp; omega
theorem parts_snoc (l : List Int) (av : Int) {k N : Nat} (h : k < N) (hN : N ≤ l.length) : ((l.take N).take (k + 1)).map (fun x => subS x av) = ((l.take N).take k).map (fun x => subS x av) ++ [subS (rd l (k : Int)) av] := by
  have e : rd l (k : Int) = l[k]'(by omega) := by
    show l.getD k 0 = _
    simp [List.getD_eq_getElem?_getD, List.getElem?_eq_getElem (show k < l.length by omega)]
  rw [List.take_succ_eq_append_getElem (by simp; omega), List.map_append, e]
  simp
structure Lay (V W : World) (lo b : Nat) (cs : Value → Array Value) (v : Value) (l : List Int) : Prop where
  blk : W.heap[b]? = some (.cells (cs v) 99 (0, 0))
  row : W.ownsRow (b + 1) 3 1 v l.length (nums .i64 l)
  kept : Kept V W (· = b)
  below : Below lo V W
def moV (m : Mo) : Value := .agg #[.int .i64 m.n, .int .i64 m.a, .int .i64 m.b, .int .i64 m.c]
set_option maxRecDepth 100000 in
set_option maxHeartbeats 4000000 in
theorem begin_calls (A : Option Addr) (c : Nat) (l : List Int) (m : Mo) (w : World) (hr : Kd.C (Kd.int .i64) w A l.length l) (hc : l.length ≤ c) (hin : AllIn l) (hm : Mo.wIn m) (hn : 1 ≤ m.n) (hl : 2 * m.n ≤ (l.length : Int)) (hll : l.length ≤ 1000000000) :
    Calls Try.prog 64 #[.slice A l.length c, moV m] w fun e w' => ∃ b, e = .returned (.pointer (some ⟨b, 0, none⟩)) ∧ StAt w' w.heap.size w'.heap.size b m (beginS l m.n.toNat) ∧ Below w.heap.size w w' := by
  obtain ⟨n, ma, mb, mc⟩ := m
  dsimp only at hn hl
  obtain ⟨N, rfl⟩ := Int.eq_ofNat_of_zero_le (show 0 ≤ n by omega)
  rw [Int.toNat_natCast]
  dsimp only [moV]
  obtain ⟨ad, rfl, _⟩ := Kd.at_int hr 0 (by omega) (by omega)
  obtain ⟨M, hM⟩ : ∃ M, 2 * N = M := ⟨_, rfl⟩
  have e2 : IntKind.i64.wrap (2 * (N : Int)) = (M : Int) := by rw [i64_wrap_id (by omega) (by omega)]; omega
  have b1 : N ≤ M := by omega
  have b2 : M ≤ c := by omega
  have b3 : N ≤ c := by omega
  have b4 : ¬ M = N := by omega
  have b5 : M - N = N := by omega
  have b6 : ¬ N = 0 := by omega
  have m1 : Kd.C (Kd.int .i64) w (some ad) N (l.take N) := by
    have h := Kd.C_take hr (m := N) (by omega)
    rwa [List.length_take, Nat.min_eq_left (by omega)] at h
  have m2 : Kd.C (Kd.int .i64) w (some (ad.add N)) N ((l.drop N).take N) := by
    have h := Kd.C_mid hr (lo := N) (hi := M) (c := c) b1 (by omega) hc
    rw [List.drop_take, b5, if_neg (by omega)] at h
    have e : ((l.drop N).take N).length = N := by simp; omega
    rw [e] at h
    simpa [show (Kd.int .i64).sz = 1 from rfl] using h
  have i1 : FS.In (meanS (l.take N)) := in_divS _ _
  have i2 : FS.In (meanS ((l.drop N).take N)) := in_divS _ _
  have i3 := in_subS (meanS ((l.drop N).take N)) (meanS (l.take N))
  have i4 : FS.In (N : Int) := ⟨by omega, by omega⟩
  have i5 := in_ofS (N : Int)
  obtain ⟨i6, i7, i8⟩ := hm
  dsimp only at i6 i7 i8
  have t1 : (l.take N).length = N := by simp; omega
  have t2 : ((l.drop N).take N).length = N := by simp; omega
  have HH := Aside0.mk (And.intro hr (And.intro hM (And.intro hin (And.intro m1 (And.intro m2 (And.intro t1 t2))))))
  clear hr hM hin m1 m2 t1 t2
  go_enter Try.func64, Try.ntmps64
  go_wp2
  go_quiet ((go_at_call 101; first | exact q0 (mean_n _ _ _ (l.take N) _ HH.out.2.2.2.2.2.1 (Kd.C_drewN (Kd.C_alloc HH.out.2.2.2.1 _) _) (by omega) (allIn_take HH.out.2.2.1 _)) | exact q0 (mean_n _ _ _ ((l.drop N).take N) _ HH.out.2.2.2.2.2.2 (Kd.C_drewN (Kd.C_alloc HH.out.2.2.2.2.1 _) _) (by omega) (allIn_take (allIn_drop HH.out.2.2.1 _) _))))
  revert nq
  intro n1
  go_wp2
  obtain ⟨W, hW⟩ : ∃ W, (w.alloc (.cells #[.int .i64 (N : Int), .int .i64 ma, .int .i64 mb, .int .i64 mc] 29)).drewN n1 = W := ⟨_, rfl⟩
  rw [hW]
  have hb : W.heap[w.heap.size]? = some (.cells #[.int .i64 (N : Int), .int .i64 ma, .int .i64 mb, .int .i64 mc] 29 (0, 0)) := hW ▸ blk_drewN (blk_new w _) n1
  have hs : W.heap.size = w.heap.size + 1 := by rw [← hW]; simp
  have hB : Below w.heap.size w W := hW ▸ pw_below_drewN (below_alloc (Below.refl _ _) _) n1
  have d1 := blk_cell hb 1
  have d2 := blk_cell hb 2
  have d3 := blk_cell hb 3
  simp only [List.getElem?_toArray, List.getElem?_cons_zero, List.getElem?_cons_succ] at d1 d2 d3
  have HW := Aside0.mk (And.intro hW (And.intro hb (And.intro hs hB)))
  clear hW hb hs hB
  go_region_held3 (fun w' => w'.cell? ⟨w.heap.size, 1, none⟩ = some (.int .i64 ma) ∧ w'.cell? ⟨w.heap.size, 2, none⟩ = some (.int .i64 mb) ∧ w'.cell? ⟨w.heap.size, 3, none⟩ = some (.int .i64 mc)) (first | go_keep | (go_split_ands; exact ⟨cell_made hmade (by assumption), cell_made hmade (by assumption), cell_made hmade (by assumption)⟩)) (first | (go_at_call 71; (with_reducible refine (fSub (by assumption) (by assumption) _).mono ?_); rintro e w' ⟨rfl, ⟨nd, rfl⟩⟩) | (go_at_call 69; (with_reducible refine (fOf (by assumption) _).mono ?_); rintro e w' ⟨rfl, ⟨nd, rfl⟩⟩) | (go_at_call 102; (with_reducible refine (fDiv (by assumption) (by assumption) _).mono ?_); rintro e w' ⟨rfl, ⟨nd, rfl⟩⟩) | (go_at_call 103; (with_reducible refine (weighed_x _ (by assumption) _).mono ?_); rintro e w' ⟨rfl, hmix, hmade⟩))
  rename_i w1 hx1 hd1 w2 hx2 hd2 hheld
  clear hheld
  obtain ⟨hW, hb, hs, hB⟩ := HW.out
  have z1 : w1.heap.size = w.heap.size + 3 := by have := hd1.size; simp at this; omega
  have z2 : w2.heap.size = w.heap.size + 5 := by have := hd2.size; omega
  have z3 : w'.heap.size = w.heap.size + 7 := by have := hmade.size; omega
  obtain ⟨tr, htr⟩ : ∃ tr, divS (subS (meanS ((l.drop N).take N)) (meanS (l.take N))) (ofS (N : Int)) = tr := ⟨_, rfl⟩
  rw [htr]
  obtain ⟨av, hav⟩ : ∃ av, meanS (l.take N) = av := ⟨_, rfl⟩
  rw [hav] at i1 ⊢
  obtain ⟨V, hV⟩ : ∃ V, w'.alloc (.cells #[.int .i64 av, .int .i64 tr, .slice none 0 0, .int .i64 0, mixV W.heap.size, mixV w1.heap.size, mixV w2.heap.size] 99) = V := ⟨_, rfl⟩
  dsimp only [mixV] at hV
  rw [hV]
  obtain ⟨B, hBz⟩ : ∃ B, w'.heap.size = B := ⟨_, rfl⟩
  obtain ⟨M1, hM1⟩ : ∃ M1, W.heap.size = M1 := ⟨_, rfl⟩
  obtain ⟨M2, hM2⟩ : ∃ M2, w1.heap.size = M2 := ⟨_, rfl⟩
  obtain ⟨M3, hM3⟩ : ∃ M3, w2.heap.size = M3 := ⟨_, rfl⟩
  rw [hBz, hM1, hM2, hM3]
  rw [hM1, hM2, hM3] at hV
  have y1 : MixAt V M1 ma := by
    rw [← hV, ← hM1]
    have h1 : cell1 w1 W.heap.size ma ∧ cell1 w1 (W.heap.size + 1) (subS 4294967296 ma) := hx1
    exact ⟨blk_alloc (blk_below (blk_below h1.1 hd2.below) hmade.below) _, blk_alloc (blk_below (blk_below h1.2 hd2.below) hmade.below) _⟩
  have y2 : MixAt V M2 mb := by
    rw [← hV, ← hM2]
    exact ⟨blk_alloc (blk_below hx2.1 hmade.below) _, blk_alloc (blk_below hx2.2 hmade.below) _⟩
  have y3 : MixAt V M3 mc := by
    rw [← hV, ← hM3]
    exact ⟨blk_alloc hmix.1 _, blk_alloc hmix.2 _⟩
  have BV : Below w.heap.size w V := by
    rw [← hV]
    refine below_alloc_ (((hB.trans ((pw_below_drewN (Below.refl _ _) _).trans (hd1.below.mono ?_))).trans (hd2.below.mono ?_)).trans (hmade.below.mono ?_)) ?_ _ <;> first | omega | (simp; omega)
  have hbV : V.heap[B]? = some (.cells #[.int .i64 av, .int .i64 tr, .slice none 0 0, .int .i64 0, mixV M1, mixV M2, mixV M3] 99 (0, 0)) := by
    rw [← hV, ← hBz]
    exact blk_new w' _
  have hVz : V.heap.size = B + 1 := by rw [← hV, ← hBz]; simp
  have L0 : Lay V V w.heap.size B (fun v => #[.int .i64 av, .int .i64 tr, v, .int .i64 0, mixV M1, mixV M2, mixV M3]) (.slice none 0 0) [] :=
    ⟨hbV, own_nil _ _ _ _, Kept.refl _ _, Below.refl _ _⟩
  have lB : w.heap.size + 7 = B := by omega
  have lM : M1 = w.heap.size + 1 ∧ M2 = w.heap.size + 3 ∧ M3 = w.heap.size + 5 := by omega
  have G := Aside0.mk (And.intro y1 (And.intro y2 (And.intro y3 (And.intro BV (And.intro hVz (And.intro lB (And.intro lM (And.intro htr hav))))))))
  have GL := Aside0.mk L0
  clear hbV hVz BV y1 y2 y3 hV L0 hM1 hM2 hM3 hBz z1 z2 z3 hW hb hs hB hx1 hd1 hx2 hd2 hmix hmade d1 d2 d3 HW lB lM htr hav
  go_wp2
  go_loopg [49] N (fun kq v49 W' => ∃ (k : Nat) (v : Value), v49 = .int .i64 (k : Int) ∧ Aside0 (kq + k = N) ∧ Aside0 (Lay V W' w.heap.size B (fun v => #[.int .i64 av, .int .i64 tr, v, .int .i64 0, mixV M1, mixV M2, mixV M3]) v (((l.take N).take k).map (fun x => subS x av))))
  case atStart => exact ⟨0, _, rfl, ⟨rfl⟩, by simpa using GL⟩
  case round =>
    obtain ⟨k, v, rfl, HK, HL⟩ := hrel
    by_cases ck : k < N
    · have c1 : decide ((k : Int) < (N : Int)) = true := decide_eq_true (by omega)
      obtain ⟨ad', e, r0⟩ := Kd.at_int (Kd.C_below HH.out.1 (G.out.2.2.2.1.trans HL.out.below)) (k : Int) (by omega) (by omega)
      cases e
      rw [Int.toNat_natCast] at r0
      have j1 : FS.In (rd l (k : Int)) := allIn_getD HH.out.2.2.1 k
      have u2 := blk_cell HL.out.blk 2
      simp only [List.getElem?_toArray, List.getElem?_cons_zero, List.getElem?_cons_succ] at u2
      have f2 := blk_frozen HL.out.blk 2
      have kN : k < N := ck
      clear ck
      go_wp2
      refine start_ (n := 13) (S := fun w' => w'.cell? ⟨B, 2, none⟩ = some v) (ds := [12]) #[false, false, false, false, false, false, false, false, false, false, false, false, false] (by kernel_rfl) rfl rfl u2 (fun hHeld => ?_)
      refine pure_ (i := 0) (N := some 53) (v := ?_) (a' := ?_) #[true, false, false, false, false, false, false, false, false, false, false, false, false] rfl rfl (by kernel_rfl) (fun _ _ _ h => h) (Or.inl ⟨by rfl, ?_⟩) ?_ ?_
      rotate_left
      · intro w'
        go_simp
        with_reducible rfl
      rotate_left
      · simp only [Act.put, List.setIfInBounds_toArray, List.set_cons_zero, List.set_cons_succ, i64_w, i32_w]
        rfl
      refine pure_ (i := 1) (N := some 54) (v := ?_) (a' := ?_) #[true, true, false, false, false, false, false, false, false, false, false, false, false] rfl rfl (by kernel_rfl) (fun _ _ _ h => h) (Or.inl ⟨by rfl, ?_⟩) ?_ ?_
      rotate_left
      · intro w'
        go_simp
        with_reducible rfl
      rotate_left
      · simp only [Act.put, List.setIfInBounds_toArray, List.set_cons_zero, List.set_cons_succ, i64_w, i32_w]
        rfl
      refine pure_ (i := 2) (N := some 55) (v := ?_) (a' := ?_) #[true, true, true, false, false, false, false, false, false, false, false, false, false] rfl rfl (by kernel_rfl) (fun _ _ _ h => h) (Or.inl ⟨by rfl, ?_⟩) ?_ ?_
      rotate_left
      · intro w'
        go_simp
        with_reducible rfl
      rotate_left
      · simp only [Act.put, List.setIfInBounds_toArray, List.set_cons_zero, List.set_cons_succ, i64_w, i32_w]
        rfl
      refine pure_ (i := 3) (N := some 56) (v := ?_) (a' := ?_) #[true, true, true, true, false, false, false, false, false, false, false, false, false] rfl rfl (by kernel_rfl) (fun _ _ _ h => h) (Or.inl ⟨by rfl, ?_⟩) ?_ ?_
      rotate_left
      · intro w'
        go_simp
        with_reducible rfl
      rotate_left
      · simp only [Act.put, List.setIfInBounds_toArray, List.set_cons_zero, List.set_cons_succ, i64_w, i32_w]
        rfl
      refine pure_ (i := 5) (N := some 58) (v := ?_) (a' := ?_) #[true, true, true, true, false, true, false, false, false, false, false, false, false] rfl rfl (by kernel_rfl) (fun _ _ _ h => h) (Or.inl ⟨by rfl, ?_⟩) ?_ ?_
      rotate_left
      · intro w'
        go_simp
        with_reducible rfl
      rotate_left
      · simp only [Act.put, List.setIfInBounds_toArray, List.set_cons_zero, List.set_cons_succ, i64_w, i32_w]
        rfl
      refine pure_ (i := 6) (N := some 59) (v := ?_) (a' := ?_) #[true, true, true, true, false, true, true, false, false, false, false, false, false] rfl rfl (by kernel_rfl) (fun _ _ _ h => h) (Or.inl ⟨by rfl, ?_⟩) ?_ ?_
      rotate_left
      · intro w'
        go_simp
        with_reducible rfl
      rotate_left
      · simp only [Act.put, List.setIfInBounds_toArray, List.set_cons_zero, List.set_cons_succ, i64_w, i32_w]
        rfl
      refine take_ (i := 4) (N := some 57) (v := ?_) (a' := ?_) #[true, true, true, true, true, true, true, false, false, false, false, false, false] rfl rfl (by kernel_rfl) (fun _ _ _ h => h) (Or.inl ⟨by rfl, ?_⟩) hHeld ?_ ?_
      rotate_left
      · rintro w' s0
        go_simp
        with_reducible rfl
      rotate_left
      · simp only [Act.put, List.setIfInBounds_toArray, List.set_cons_zero, List.set_cons_succ, i64_w, i32_w]
        rfl
      refine one_ (i := 7) (N := some 60) #[true, true, true, true, true, true, true, true, false, false, false, false, false] rfl rfl (by kernel_rfl) (by decide) (fun K hK => ?_)
      refine goes_ Try.func71 (by kernel_rfl) rfl #[.int .i64 (rd l (k : Int)), .int .i64 av] (by rfl) rfl rfl (by simp [Act.eval]) ?_
      refine (fSub j1 i1 _).mono ?_
      rintro e w' ⟨rfl, ⟨nd, rfl⟩⟩
      refine ⟨_, rfl, hK.out _ _ hHeld (fun hHeld => ?_)⟩
      clear hK K
      refine norm_ (by simp only [Act.put, List.setIfInBounds_toArray, List.set_cons_zero, List.set_cons_succ, i64_w, i32_w]; rfl) ?_
      refine one_ (i := 8) (N := some 61) #[true, true, true, true, true, true, true, true, true, false, false, false, false] rfl rfl (by kernel_rfl) (by decide) (fun K hK => ?_)
      refine value_ (w1 := (wr.drew.drewN nd).alloc (.cells #[.int .i64 (subS (rd l (k : Int)) av)] 3)) (v := .slice (some ⟨wr.heap.size, 0, none⟩) 1 1) (by rfl) rfl (by go_simp) ?_
      refine hK.out _ _ (cell_alloc hHeld _) (fun hHeld => ?_)
      clear hK K
      refine norm_ (by simp only [Act.put, List.setIfInBounds_toArray, List.set_cons_zero, List.set_cons_succ, i64_w, i32_w]; rfl) ?_
      refine one_ (i := 9) (N := some 62) #[true, true, true, true, true, true, true, true, true, true, false, false, false] rfl rfl (by kernel_rfl) (by decide) (fun K hK => ?_)
      have hlk := parts_len l av (show k ≤ N by omega) (show N ≤ l.length by omega)
      obtain ⟨gB, gz⟩ : w.heap.size + 7 = B ∧ V.heap.size = B + 1 := ⟨G.out.2.2.2.2.2.1, G.out.2.2.2.2.1⟩
      have gz2 := HL.out.kept.1
      refine step_append_cells (w0 := wr.drew.drewN nd) (W := wr.drew.drewN nd) (B + 1) (by rfl) (.tmp 57) (.tmp 61) 23 3 (.int .i64 0) 1 8 rfl Try.underlying23 info3 rfl (by decide) (by decide) v _ _ [.int .i64 (subS (rd l (k : Int)) av)] (by simp [Act.eval]) (by simp [Act.eval]) rfl (by intro u hu; simp at hu; subst hu; rfl) (pw_own_drewN (own_drew HL.out.row) nd) (Below.refl _ _) (by simp; omega) (by rw [hlk]; omega) ?_
      intro v1 w1 hown hbel hgr hat
      have hHeld2 := (hbel.cell (p := ⟨B, 2, none⟩) (by simp)).trans (cell_of_alloc hHeld (by simp; omega))
      refine hK.out _ _ hHeld2 (fun hHeld => ?_)
      clear hK K
      refine norm_ (by simp only [Act.put, List.setIfInBounds_toArray, List.set_cons_zero, List.set_cons_succ, i64_w, i32_w]; rfl) ?_
      refine pure_ (i := 10) (N := some 63) (v := ?_) (a' := ?_) #[true, true, true, true, true, true, true, true, true, true, true, false, false] rfl rfl (by kernel_rfl) (fun _ _ _ h => h) (Or.inl ⟨by rfl, ?_⟩) ?_ ?_
      rotate_left
      · intro w'
        go_simp
        with_reducible rfl
      rotate_left
      · simp only [Act.put, List.setIfInBounds_toArray, List.set_cons_zero, List.set_cons_succ, i64_w, i32_w]
        rfl
      refine pure_ (i := 11) (N := some 64) (v := ?_) (a' := ?_) #[true, true, true, true, true, true, true, true, true, true, true, true, false] rfl rfl (by kernel_rfl) (fun _ _ _ h => h) (Or.inl ⟨by rfl, ?_⟩) ?_ ?_
      rotate_left
      · intro w'
        go_simp
        with_reducible rfl
      rotate_left
      · simp only [Act.put, List.setIfInBounds_toArray, List.set_cons_zero, List.set_cons_succ, i64_w, i32_w]
        rfl
      refine last_ (i := 12) (N := none) #[true, true, true, true, true, true, true, true, true, true, true, true, true] rfl rfl (by kernel_rfl) (by decide) (fun K hK => ?_)
      have hn1 := parts_snoc l av (show k < N by omega) (show N ≤ l.length by omega)
      have hb1 : w1.heap[B]? = some (.cells #[.int .i64 av, .int .i64 tr, v, .int .i64 0, mixV M1, mixV M2, mixV M3] 99 (0, 0)) := (hbel.block B (by omega)).trans HL.out.blk
      have fz := blk_frozen hb1 2
      have hown2 : w1.ownsRow (B + 1) 3 1 v1 (((l.take N).take (k + 1)).map (fun x => subS x av)).length (nums .i64 (((l.take N).take (k + 1)).map (fun x => subS x av))) := by
        rw [hn1]
        simpa [nums] using hown
      have hlk2 := parts_len l av (show k + 1 ≤ N by omega) (show N ≤ l.length by omega)
      obtain ⟨g, cap, hv1, hg1, hg2⟩ := row_form hown2 (by omega)
      rw [hlk2] at hv1
      subst hv1
      have HZ := Aside0.mk (And.intro hown2 (And.intro hb1 (And.intro hbel (And.intro hgr hn1))))
      clear hown2 hown hb1 hbel hgr hn1 hlk hlk2 hat
      refine skip_ (w1 := w1.setCell ⟨B, 2, none⟩ (.slice (some ⟨g, 0, none⟩) (k + 1) cap)) (by rfl) rfl (by go_simp) ?_
      refine hK.out _ _ ?_
      clear hK K
      refine done_ (by kernel_rfl) ?_
      cases gk with
      | zero => exact absurd HK.out (by omega)
      | succ k1 =>
        go_wp2
        go_roundg k1
        case measure => omega
        case rel =>
          obtain ⟨hown2, hb1, hbel, hgr, hn1⟩ := HZ.out
          refine ⟨k + 1, _, by go_num, ⟨by have := HK.out; omega⟩, ⟨⟨blk_put hb1 2 _ rfl, own_setCell (p := ⟨B, 2, none⟩) hown2 (by simp [Value.ownBlock]; omega) _, ?_, ?_⟩⟩⟩
          · refine ((HL.out.kept.drew.drewN nd).of_grown hgr (fun j hj => ?_)).setCell (.inl rfl) _
            exact .inr (by have := own_base (pw_own_drewN (own_drew HL.out.row) nd) j hj; omega)
          · exact ((HL.out.below.trans ((pw_below_drewN (below_drew1 (Below.refl _ _)) nd).trans (hbel.mono (by omega)))).setCell (by simp; omega) _)
    · have c1 : decide ((k : Int) < (N : Int)) = false := decide_eq_false (by omega)
      obtain rfl : k = N := by have := HK.out; omega
      go_wp2
      go_ret
      obtain ⟨y1, y2, y3, BV, hVz, lB, lM, htr, hav⟩ := G.out
      have hL := HL.out
      have hlk := parts_len l av (Nat.le_refl k) (show k ≤ l.length by omega)
      obtain ⟨g, cap, rfl, hg1, hg2⟩ := row_form hL.row (by omega)
      have hsz := hL.kept.1
      refine ⟨B, rfl, ⟨g, cap, M1, M2, M3, ?_⟩, BV.trans hL.below⟩
      have ebeg : beginS l k = ⟨av, tr, (((l.take k).take k).map (fun x => subS x av)), 0⟩ := by
        rw [← htr, ← hav, List.take_take, Nat.min_self]
        rfl
      rw [ebeg]
      exact ⟨hL.blk, own_less hL.row (by omega), ⟨(hL.kept.2 _ (by omega) (by omega)).trans y1.1, (hL.kept.2 _ (by omega) (by omega)).trans y1.2⟩, ⟨(hL.kept.2 _ (by omega) (by omega)).trans y2.1, (hL.kept.2 _ (by omega) (by omega)).trans y2.2⟩, ⟨(hL.kept.2 _ (by omega) (by omega)).trans y3.1, (hL.kept.2 _ (by omega) (by omega)).trans y3.2⟩, by omega, by omega, by omega, by omega, by omega, by omega, Nat.le_refl _⟩
end Go.Proofs.Ytemnfnbjapobcaa.Ho
end
section
namespace Go.Proofs.Ytemnfnbjapobcaa.Ho
open Go.RowKit Go.Proofs.YtemnfnbjapobcaaW.PrintWords Go.Proofs.YtemnfnbjapobcaaW.PrintLast Go.Proofs.YtemnfnbjapobcaaW.PrintMore
open Go.Proofs.Ytemnfnbjapobcaa.FS Go.Proofs.Ytemnfnbjapobcaa.HS Go.Proofs.Ytemnfnbjapobcaa.FM
set_option linter.unusedVariables false
set_option linter.unusedSimpArgs false
def rCells (m : Mo) (s : St) (v : Value) : Array Value := #[.int .i64 m.n, .int .i64 m.a, .int .i64 m.b, .int .i64 m.c, .int .i64 s.level, .int .i64 s.trend, v, .int .i64 (s.k : Int)]
structure RStIn (W : World) (lo hi b g cap : Nat) (m : Mo) (s : St) : Prop where
  blk : W.heap[b]? = some (.cells (rCells m s (sl g s.parts.length cap)) 41 (0, 0))
  row : row3 W lo g cap s.parts
  inb : lo ≤ b ∧ b < hi
  ing : lo ≤ g ∧ g < hi
  top : hi ≤ W.heap.size
def RStAt (W : World) (lo hi b : Nat) (m : Mo) (s : St) : Prop := ∃ g cap, RStIn W lo hi b g cap m s
theorem RStAt.kept {W W' : World} {lo hi b : Nat} {m : Mo} {s : St} {S : Nat → Prop} (h : RStAt W lo hi b m s) (hk : Kept W W' S) (hS : ∀ k, lo ≤ k → k < hi → ¬ S k) : RStAt W' lo hi b m s := by
  obtain ⟨g, cap, h⟩ := h
  exact ⟨g, cap, (hk.2 _ (by have := h.top; have := h.inb; omega) (hS _ h.inb.1 h.inb.2)).trans h.blk, own_move h.row (fun k hk' => by
    have e : g = k := by simpa [Value.ownBlock] using hk'
    subst e
    exact hk.2 _ (by have := h.top; have := h.ing; omega) (hS _ h.ing.1 h.ing.2)), h.inb, h.ing, Nat.le_trans h.top hk.1⟩
theorem RStAt.wide {W : World} {lo hi lo' hi' b : Nat} {m : Mo} {s : St} (h : RStAt W lo hi b m s) (h1 : lo' ≤ lo) (h2 : hi ≤ hi') (h3 : hi' ≤ W.heap.size) : RStAt W lo' hi' b m s := by
  obtain ⟨g, cap, a, c, d, e, f⟩ := h
  exact ⟨g, cap, a, own_less c h1, by omega, by omega, h3⟩
end Go.Proofs.Ytemnfnbjapobcaa.Ho
end
section
namespace Go.Proofs.Ytemnfnbjapobcaa.Ho
open Go.RowKit Go.Proofs.YtemnfnbjapobcaaW.PrintWords Go.Proofs.YtemnfnbjapobcaaW.PrintLast Go.Proofs.YtemnfnbjapobcaaW.PrintMore
open Go.Proofs.Ytemnfnbjapobcaa.FS Go.Proofs.Ytemnfnbjapobcaa.HS Go.Proofs.Ytemnfnbjapobcaa.FM
set_option linter.unusedVariables false
set_option linter.unusedSimpArgs false
theorem StAt.wide {W : World} {lo hi lo' hi' b : Nat} {m : Mo} {s : St} (h : StAt W lo hi b m s) (h1 : lo' ≤ lo) (h2 : hi ≤ hi') (h3 : hi' ≤ W.heap.size) : StAt W lo' hi' b m s := by
  obtain ⟨g, cap, m1, m2, m3, h⟩ := h
  obtain ⟨a, b, c, d, e, f, g', i, j, k, l, n⟩ := h
  exact ⟨g, cap, m1, m2, m3, a, own_less b h1, c, d, e, by omega, by omega, by omega, by omega, by omega, l, h3⟩
def StartPost (w : World) (l : List Int) (m : Mo) (e : Ending) (w' : World) : Prop :=
  if startE l m ≠ 0 then e = .returned (.tuple #[.pointer none, .int .i64 1]) ∧ Below w.heap.size w w'
  else ∃ b, e = .returned (.tuple #[.pointer (some ⟨b, 0, none⟩), .int .i64 0]) ∧ StAt w' w.heap.size w'.heap.size b m (startS l m) ∧ Below w.heap.size w w'
theorem check_01 (m : Mo) : checkS m = 0 ∨ checkS m = 1 := by unfold checkS; split; exact .inr rfl; split; exact .inl rfl; exact .inr rfl
theorem okW_iff {x : Int} : okW x = true ↔ 0 ≤ x ∧ x ≤ 4294967296 := by unfold okW; simp
theorem check_ok {m : Mo} (h : checkS m = 0) : (1 ≤ m.n ∧ m.n ≤ 10000) ∧ Mo.wIn m := by
  unfold checkS at h
  split at h
  · cases h
  · split at h
    · rename_i h1 h2
      simp only [Bool.and_eq_true, okW_iff] at h2
      refine ⟨by omega, ⟨by omega, by omega⟩, ⟨by omega, by omega⟩, ⟨by omega, by omega⟩⟩
    · cases h
theorem fold_snoc (m : Mo) (l : List Int) (s : St) (k : Nat) (h : k < l.length) : (l.take (k + 1)).foldl (stepS m) s = stepS m ((l.take k).foldl (stepS m) s) (rd l (k : Int)) := by
  have e : rd l (k : Int) = l[k] := by
    show l.getD k 0 = _
    simp [List.getD_eq_getElem?_getD, List.getElem?_eq_getElem h]
  rw [List.take_succ_eq_append_getElem h, List.foldl_append, e]
  rfl
set_option maxHeartbeats 4000000 in
theorem start_calls (A : Option Addr) (c : Nat) (l : List Int) (m : Mo) (w : World) (hr : Kd.C (Kd.int .i64) w A l.length l) (hc : l.length ≤ c) (hin : AllIn l) (hm : FS.In m.n) (hll : l.length ≤ 1000000000) :
    Calls Try.prog 24 #[.slice A l.length c, moV m] w (StartPost w l m) := by
  have kc := check_calls m
  have kb := begin_calls A c l m
  obtain ⟨n, ma, mb, mc⟩ := m
  dsimp only [moV] at kb ⊢
  dsimp only at kc hm
  by_cases h1 : checkS ⟨n, ma, mb, mc⟩ = 0
  · obtain ⟨hn, hw⟩ := check_ok h1
    dsimp only at hn
    obtain ⟨N, rfl⟩ := Int.eq_ofNat_of_zero_le (show 0 ≤ n by omega)
    obtain ⟨M, hM⟩ : ∃ M, 2 * N = M := ⟨_, rfl⟩
    have e2 : wrap64 (2 * (N : Int)) = (M : Int) := by rw [wrap64_id (by omega) (by omega)]; omega
    have e3 : (2 * (N : Int)) = (M : Int) := by omega
    have b0 : (N : Int) ≤ 10000 := hn.2
    rw [h1] at kc
    have KC := Aside0.mk kc
    by_cases h3 : (l.length : Int) < 2 * (N : Int)
    · have g4 : l.length < M := by omega
      have hp : ∀ e w', e = .returned (.tuple #[.pointer none, .int .i64 1]) ∧ Below w.heap.size w w' → StartPost w l ⟨N, ma, mb, mc⟩ e w' := fun e w' h => by
        unfold StartPost
        rw [if_pos (by unfold startE; rw [if_neg (by rw [h1]; decide), if_pos h3]; decide)]
        exact h
      refine Calls.mono ?_ (fun e w' h => hp e w' h)
      clear kc kb h1 hp h3 hM hn
      go_enter Try.func24, Try.ntmps24
      go_wp2_with fail
      (with_reducible refine (KC.out _).mono ?_)
      rintro e w1 ⟨rfl, hb⟩
      have mb1 := blk_below (blk_new w _) hb
      have d0 := blk_cell mb1 0
      have d1 := blk_cell mb1 1
      have d2 := blk_cell mb1 2
      have d3 := blk_cell mb1 3
      simp only [List.getElem?_toArray, List.getElem?_cons_zero, List.getElem?_cons_succ] at d0 d1 d2 d3
      have HB1 := Aside0.mk (And.intro mb1 hb)
      clear mb1 hb
      go_wp2
      go_ret2
      exact ⟨rfl, (below_alloc (Below.refl _ _) _).trans (HB1.out.2.mono (by simp))⟩
    · have g4 : ¬ l.length < M := by omega
      have g5 : ¬ c = N := by omega
      have hl : 2 * (N : Int) ≤ (l.length : Int) := by omega
      have h0 : startE l ⟨N, ma, mb, mc⟩ = 0 := by unfold startE; rw [if_neg (by rw [h1]; decide), if_neg h3]
      have hp : ∀ e w', (∃ b, e = .returned (.tuple #[.pointer (some ⟨b, 0, none⟩), .int .i64 0]) ∧ StAt w' w.heap.size w'.heap.size b ⟨N, ma, mb, mc⟩ (startS l ⟨N, ma, mb, mc⟩) ∧ Below w.heap.size w w') → StartPost w l ⟨N, ma, mb, mc⟩ e w' := fun e w' h => by
        unfold StartPost
        rw [if_neg (by rw [h0]; decide)]
        exact h
      refine Calls.mono ?_ (fun e w' h => hp e w' h)
      have KB := Aside0.mk (fun W (h : Kd.C (Kd.int .i64) W A l.length l) => kb W h hc hin hw hn.1 hl hll)
      have HR := Aside0.mk hr
      have HN := Aside0.mk (And.intro hn (And.intro hM hl))
      have nM : N ≤ l.length := by omega
      obtain ⟨D, hD⟩ : ∃ D, l.length - N = D := ⟨_, rfl⟩
      obtain ⟨ad, rfl, _⟩ := Kd.at_int hr 0 (by omega) (by omega)
      have hd : Kd.C (Kd.int .i64) w (some (ad.add N)) D (l.drop N) := by
        have h := Kd.C_drop hr (m := N) nM hc
        rw [List.length_drop, if_neg g5, hD] at h
        simpa [show (Kd.int .i64).sz = 1 from rfl] using h
      have HD := Aside0.mk hd
      clear hd
      clear kc kb h1 hp h3 hM hn hr h0 hl
      go_enter Try.func24, Try.ntmps24
      go_wp2_with fail
      (with_reducible refine (KC.out _).mono ?_)
      rintro e w1 ⟨rfl, hb⟩
      have mb1 := blk_below (blk_new w _) hb
      have d0 := blk_cell mb1 0
      have d1 := blk_cell mb1 1
      have d2 := blk_cell mb1 2
      have d3 := blk_cell mb1 3
      simp only [List.getElem?_toArray, List.getElem?_cons_zero, List.getElem?_cons_succ] at d0 d1 d2 d3
      have HB1 := Aside0.mk (And.intro mb1 hb)
      clear mb1 hb
      go_wp2_with (go_at_call 64; (with_reducible refine (KB.out _ (Kd.C_below HR.out ((below_alloc (Below.refl _ _) _).trans (HB1.out.2.mono (by simp))))).mono ?_); rintro e w2 ⟨b, rfl, hst, hb2⟩; clear d0 d1 d2 d3; have mb2 := blk_below HB1.out.1 hb2; have d0 := blk_cell mb2 0; simp only [List.getElem?_toArray, List.getElem?_cons_zero] at d0; have HB2 := Aside0.mk (And.intro hst hb2); clear hst hb2 mb2)
      have HX : Aside0 (Below w.heap.size w w2) := ⟨((below_alloc (Below.refl _ _) _).trans (HB1.out.2.mono (by simp))).trans (HB2.out.2.mono (by have := HB1.out.2.size; simp at this; omega))⟩
      have HL : Aside0 (w.heap.size ≤ w1.heap.size) := ⟨by have := HB1.out.2.size; simp at this; omega⟩
      go_loopg [32] D (fun kq v32 W' => ∃ k : Nat, v32 = .int .i64 (k : Int) ∧ Aside0 (kq + k = D) ∧ Aside0 (StAt W' w1.heap.size w2.heap.size b ⟨N, ma, mb, mc⟩ (((l.drop N).take k).foldl (stepS ⟨N, ma, mb, mc⟩) (beginS l N)) ∧ Below w1.heap.size w2 W'))
      case atStart => exact ⟨0, rfl, ⟨rfl⟩, ⟨by simpa using HB2.out.1, Below.refl _ _⟩⟩
      case round =>
        obtain ⟨k, rfl, HK, HS⟩ := hrel
        by_cases ck : k < D
        · have c1 : decide ((k : Int) < (D : Int)) = true := decide_eq_true (by omega)
          obtain ⟨ad', e, r0⟩ := Kd.at_int (Kd.C_below HD.out (HX.out.trans (HS.out.2.mono HL.out))) (k : Int) (by omega) (by omega)
          cases e
          rw [Int.toNat_natCast] at r0
          have j1 : FS.In (rd (l.drop N) (k : Int)) := allIn_getD (allIn_drop hin N) k
          have hS1 : (((l.drop N).take k).foldl (stepS ⟨N, ma, mb, mc⟩) (beginS l N)).In := fold_in _ _ _ (begin_in l N)
          have hS2 : (((l.drop N).take k).foldl (stepS ⟨N, ma, mb, mc⟩) (beginS l N)).parts.length = N := (fold_len _ _ _).trans (begin_len l N nM)
          have hS3 : (((l.drop N).take k).foldl (stepS ⟨N, ma, mb, mc⟩) (beginS l N)).k = k := by
            rw [fold_k, List.length_take, List.length_drop, hD, Nat.min_eq_left (by omega)]
            simp [beginS]
          have SC := Aside0.mk (step_calls w1.heap.size w2.heap.size b ⟨N, ma, mb, mc⟩ _ (rd (l.drop N) (k : Int)) wr HS.out.1 hS1 j1 hw (by rw [hS3]; omega) (by rw [hS2]; have := HN.out.1.1; omega) (by rw [hS2]; omega))
          have hck := Aside0.mk ck
          clear hS1 hS2 hS3
          cases gk with
          | zero => exact absurd HK.out (by have := hck.out; omega)
          | succ k1 =>
            go_wp2_with (go_at_call 30; (with_reducible refine SC.out.mono ?_); rintro e w' ⟨⟨v, rfl⟩, hst, hb, hkp⟩; have HQ := Aside0.mk (And.intro hst hb); clear hst hb hkp)
            go_roundg k1
            case measure => omega
            case rel =>
              refine ⟨k + 1, by go_num, ⟨by have := HK.out; omega⟩, ⟨?_, HS.out.2.trans HQ.out.2⟩⟩
              rw [fold_snoc _ _ _ _ (by rw [List.length_drop, hD]; exact hck.out)]
              exact HQ.out.1
        · have c1 : decide ((k : Int) < (D : Int)) = false := decide_eq_false (by omega)
          have hS2 : (((l.drop N).take k).foldl (stepS ⟨N, ma, mb, mc⟩) (beginS l N)) = startS l ⟨N, ma, mb, mc⟩ := by
            rw [List.take_of_length_le (by rw [List.length_drop, hD]; omega)]
            simp [startS]
          have HQ := Aside0.mk hS2
          clear hS2
          go_wp2
          go_ret2
          have hsz := HS.out.2.size
          refine ⟨b, rfl, ?_, HX.out.trans (HS.out.2.mono HL.out)⟩
          rw [← HQ.out]
          exact HS.out.1.wide HL.out hsz (Nat.le_refl _)
  · have h2 : checkS ⟨n, ma, mb, mc⟩ = 1 := (check_01 _).resolve_left h1
    have hp : ∀ e w', e = .returned (.tuple #[.pointer none, .int .i64 1]) ∧ Below w.heap.size w w' → StartPost w l ⟨n, ma, mb, mc⟩ e w' := fun e w' h => by
      unfold StartPost
      rw [if_pos (by unfold startE; rw [if_pos h1]; decide)]
      exact h
    rw [h2] at kc
    have KC := Aside0.mk kc
    refine Calls.mono ?_ (fun e w' h => hp e w' h)
    clear kc kb h1 h2 hp
    go_enter Try.func24, Try.ntmps24
    go_wp2_with (go_at_call 33; (with_reducible refine (KC.out _).mono ?_); rintro e w' ⟨rfl, hb⟩)
    go_ret2
    exact ⟨rfl, (below_alloc (Below.refl _ _) _).trans (hb.mono (by simp))⟩
end Go.Proofs.Ytemnfnbjapobcaa.Ho
end
section
namespace Go.Proofs.Ytemnfnbjapobcaa.Ho
open Go.RowKit Go.Proofs.YtemnfnbjapobcaaW.PrintWords Go.Proofs.YtemnfnbjapobcaaW.PrintLast Go.Proofs.YtemnfnbjapobcaaW.PrintMore
open Go.Proofs.Ytemnfnbjapobcaa.FS Go.Proofs.Ytemnfnbjapobcaa.HS Go.Proofs.Ytemnfnbjapobcaa.FM
attribute [local go_sem] max2_int min2_int max_two min_two max_three min_three max_four min_four
set_option linter.unusedVariables false
set_option linter.unusedSimpArgs false
set_option maxHeartbeats 1000000 in
theorem dist_calls (a b : Int) (ha : FS.In a) (hb : FS.In b) (w : World) :
    Calls Try.prog 73 #[.int .i64 a, .int .i64 b] w fun e w' => e = .returned (.int .i64 (distS a b)) ∧ Drawn0 w w' := by
  have e1 : distS a b = if a < b then subS b a else subS a b := rfl
  by_cases h : a < b
  · rw [if_pos h] at e1
    rw [e1]
    clear e1
    have h1 : ¬ b < a := by omega
    go_enter Try.func73, Try.ntmps73
    go_wp2_with (go_at_call 71; (with_reducible refine (fSub (by assumption) (by assumption) _).mono ?_); rintro e w' ⟨rfl, ⟨nd, rfl⟩⟩)
    go_ret
    exact ⟨rfl, by repeat (first | exact Drawn0.refl _ | apply Drawn0.step)⟩
  · rw [if_neg h] at e1
    rw [e1]
    clear e1
    by_cases h2 : b < a
    · skip
      go_enter Try.func73, Try.ntmps73
      go_wp2_with (go_at_call 71; (with_reducible refine (fSub (by assumption) (by assumption) _).mono ?_); rintro e w' ⟨rfl, ⟨nd, rfl⟩⟩)
      go_ret
      exact ⟨rfl, by repeat (first | exact Drawn0.refl _ | apply Drawn0.step)⟩
    · obtain rfl : a = b := by omega
      go_enter Try.func73, Try.ntmps73
      go_wp2_with (go_at_call 71; (with_reducible refine (fSub (by assumption) (by assumption) _).mono ?_); rintro e w' ⟨rfl, ⟨nd, rfl⟩⟩)
      go_ret
      exact ⟨rfl, by repeat (first | exact Drawn0.refl _ | apply Drawn0.step)⟩
theorem begin_start_in (l : List Int) (m : Mo) : (startS l m).In := fold_in _ _ _ (begin_in _ _)
theorem start_len {l : List Int} {m : Mo} (h : startE l m = 0) : 1 ≤ m.n ∧ m.n ≤ 10000 ∧ Mo.wIn m ∧ 2 * m.n ≤ (l.length : Int) ∧ (startS l m).parts.length = m.n.toNat ∧ (startS l m).k = l.length - m.n.toNat := by
  unfold startE at h
  split at h
  · cases h
  · rename_i h1
    split at h
    · cases h
    · rename_i h2
      obtain ⟨h3, h4⟩ := check_ok (Decidable.not_not.1 h1)
      refine ⟨h3.1, h3.2, h4, by omega, (fold_len _ _ _).trans (begin_len _ _ (by omega)), ?_⟩
      unfold startS
      rw [fold_k, List.length_drop]
      simp [beginS]
end Go.Proofs.Ytemnfnbjapobcaa.Ho
end
section
namespace Go.Proofs.Ytemnfnbjapobcaa.Ho
open Go.RowKit Go.Proofs.YtemnfnbjapobcaaW.PrintWords Go.Proofs.YtemnfnbjapobcaaW.PrintLast Go.Proofs.YtemnfnbjapobcaaW.PrintMore
open Go.Proofs.Ytemnfnbjapobcaa.FS Go.Proofs.Ytemnfnbjapobcaa.HS Go.Proofs.Ytemnfnbjapobcaa.FM
set_option linter.unusedVariables false
set_option linter.unusedSimpArgs false
theorem start_n (A : Option Addr) (n c : Nat) (l : List Int) (m : Mo) (w : World) (e : l.length = n) (hr : Kd.C (Kd.int .i64) w A n l) (hc : n ≤ c) (hin : AllIn l) (hm : FS.In m.n) (hll : n ≤ 1000000000) :
    Calls Try.prog 24 #[.slice A n c, moV m] w (StartPost w l m) := by
  subst e
  exact start_calls A c l m w hr hc hin hm hll
theorem misses_snd (m : Mo) : ∀ (l : List Int) (q : Int × St), (l.foldl (missStep m) q).2 = l.foldl (stepS m) q.2
  | [], _ => rfl
  | x :: l, q => misses_snd m l (missStep m q x)
theorem misses_in (m : Mo) : ∀ (l : List Int) (q : Int × St), FS.In q.1 → FS.In (l.foldl (missStep m) q).1
  | [], _, h => h
  | x :: l, q, h => misses_in m l _ (in_addS _ _)
theorem castOf_one (s : St) : (castOf s 1).2 = 0 ∧ FS.In (castOf s 1).1 := by
  unfold castOf
  rw [if_neg (by omega)]
  exact ⟨rfl, in_addS _ _⟩
theorem misses_snoc (m : Mo) (l : List Int) (q : Int × St) (k : Nat) (h : k < l.length) : (l.take (k + 1)).foldl (missStep m) q = missStep m ((l.take k).foldl (missStep m) q) (rd l (k : Int)) := by
  have e : rd l (k : Int) = l[k] := by
    show l.getD k 0 = _
    simp [List.getD_eq_getElem?_getD, List.getElem?_eq_getElem h]
  rw [List.take_succ_eq_append_getElem h, List.foldl_append, e]
  rfl
set_option maxRecDepth 100000 in
set_option maxHeartbeats 4000000 in
theorem miss_calls (A : Option Addr) (c : Nat) (l : List Int) (m : Mo) (last : Int) (w : World) (hr : Kd.C (Kd.int .i64) w A l.length l) (hc : l.length ≤ c) (hin : AllIn l) (hm : FS.In m.n) (ha : FS.In last) (hll : l.length ≤ 1000000000) :
    Calls Try.prog 35 #[.slice A l.length c, moV m, .int .i64 last] w fun e w' => e = .returned (.tuple #[.int .i64 (missS l m last).1, .int .i64 (missS l m last).2]) ∧ Below w.heap.size w w' := by
  obtain ⟨r, er⟩ : ∃ r, missS l m last = r := ⟨_, rfl⟩
  rw [er]
  obtain ⟨r1, r2⟩ := r
  have kc := check_calls m
  rcases check_01 m with hck | hck
  · obtain ⟨⟨n1, n2⟩, n3⟩ := check_ok hck
    rw [hck] at kc
    have KC := Aside0.mk kc
    clear kc
    by_cases h1 : last < 1
    · obtain ⟨rfl, rfl⟩ : r1 = 0 ∧ r2 = 1 := by
        unfold missS at er
        rw [if_neg (by rw [hck]; decide), if_pos (.inl h1)] at er
        cases er; exact ⟨rfl, rfl⟩
      have g1 : decide (last < 1) = true := decide_eq_true h1
      obtain ⟨n, ma, mb, mc⟩ := m
      clear er hck n3
      dsimp only [moV] at *
      go_enter Try.func35, Try.ntmps35
      go_wp2_with (go_at_call 33; (with_reducible refine (KC.out _).mono ?_); rintro e w1 ⟨rfl, hb⟩)
      go_ret2
      exact ⟨rfl, (below_alloc (Below.refl _ _) _).trans (hb.mono (by simp))⟩
    · have g1 : decide (last < 1) = false := decide_eq_false h1
      obtain ⟨n, ma, mb, mc⟩ := m
      dsimp only at n1 n2 hm
      obtain ⟨N, rfl⟩ := Int.eq_ofNat_of_zero_le (show 0 ≤ n by omega)
      obtain ⟨M, hM⟩ : ∃ M, 2 * N = M := ⟨_, rfl⟩
      have e2 : wrap64 (2 * (N : Int)) = (M : Int) := by rw [wrap64_id (by omega) (by omega)]; omega
      have e3 : (2 * (N : Int)) = (M : Int) := by omega
      have b0 : (N : Int) ≤ 10000 := n2
      have ha2 : last ≤ 9223372036854775807 := ha.2
      by_cases h2 : 2 * (N : Int) > (l.length : Int) - last
      · obtain ⟨rfl, rfl⟩ : r1 = 0 ∧ r2 = 1 := by
          unfold missS at er
          rw [if_neg (by rw [hck]; decide), if_pos (.inr h2)] at er
          cases er; exact ⟨rfl, rfl⟩
        obtain ⟨u, hu⟩ : ∃ u, (l.length : Int) - last = u := ⟨_, rfl⟩
        have eu : wrap64 ((l.length : Int) - last) = u := by rw [wrap64_id (by omega) (by omega)]; exact hu
        have g2 : u < (M : Int) := by omega
        have g3 : decide (u < (M : Int)) = true := decide_eq_true g2
        clear er hck n3 hM h2 h1
        dsimp only [moV] at *
        go_enter Try.func35, Try.ntmps35
        go_wp2_with (go_at_call 33; (with_reducible refine (KC.out _).mono ?_); rintro e w1 ⟨rfl, hb⟩; have mb1 := blk_below (blk_new w _) hb; have d0 := blk_cell mb1 0; have d1 := blk_cell mb1 1; have d2 := blk_cell mb1 2; have d3 := blk_cell mb1 3; simp only [List.getElem?_toArray, List.getElem?_cons_zero, List.getElem?_cons_succ] at d0 d1 d2 d3; have HB1 := Aside0.mk (And.intro mb1 hb); clear mb1 hb)
        go_ret2
        exact ⟨rfl, (below_alloc (Below.refl _ _) _).trans (HB1.out.2.mono (by simp))⟩
      · obtain ⟨L, rfl⟩ := Int.eq_ofNat_of_zero_le (show 0 ≤ last by omega)
        obtain ⟨P, hP⟩ : ∃ P, l.length - L = P := ⟨_, rfl⟩
        have eu : wrap64 ((l.length : Int) - (L : Int)) = (P : Int) := by rw [wrap64_id (by omega) (by omega)]; omega
        have eu2 : (l.length : Int) - (L : Int) = (P : Int) := by omega
        have g2 : ¬ (P : Int) < (M : Int) := by omega
        have g4 : ¬ P < M := by omega
        have bP : P ≤ c := by omega
        have bP2 : P ≤ l.length := by omega
        have bP3 : ¬ c = P := by omega
        have hD : l.length - P = L := by omega
        obtain ⟨ad, rfl, _⟩ := Kd.at_int hr 0 (by omega) (by omega)
        have t1 : (l.take P).length = P := by simp; omega
        have m1 : Kd.C (Kd.int .i64) w (some ad) P (l.take P) := by
          have h := Kd.C_take hr (m := P) bP2
          rwa [t1] at h
        have m2 : Kd.C (Kd.int .i64) w (some (ad.add P)) L (l.drop P) := by
          have h := Kd.C_drop hr (m := P) bP2 hc
          rw [List.length_drop, if_neg bP3, hD] at h
          simpa [show (Kd.int .i64).sz = 1 from rfl] using h
        have hs0 : startE (l.take P) ⟨(N : Int), ma, mb, mc⟩ = 0 := by
          unfold startE
          rw [if_neg (by rw [hck]; decide), t1, if_neg (by dsimp only; omega)]
        have ks : ∀ W, Kd.C (Kd.int .i64) W (some ad) P (l.take P) → Calls Try.prog 24 #[.slice (some ad) P P, moV ⟨(N : Int), ma, mb, mc⟩] W fun e w' => ∃ b, e = .returned (.tuple #[.pointer (some ⟨b, 0, none⟩), .int .i64 0]) ∧ StAt w' W.heap.size w'.heap.size b ⟨(N : Int), ma, mb, mc⟩ (startS (l.take P) ⟨(N : Int), ma, mb, mc⟩) ∧ Below W.heap.size W w' := fun W h => by
          refine (start_n (some ad) P P (l.take P) ⟨(N : Int), ma, mb, mc⟩ W t1 h (Nat.le_refl _) (allIn_take hin P) hm (by omega)).mono (fun e w' h => ?_)
          unfold StartPost at h
          rw [if_neg (by rw [hs0]; decide)] at h
          exact h
        obtain ⟨_, _, _, _, s5, s6⟩ := start_len hs0
        rw [Int.toNat_natCast] at s5 s6
        rw [t1] at s6
        have hs := begin_start_in (l.take P) ⟨(N : Int), ma, mb, mc⟩
        obtain ⟨s0, hs0'⟩ : ∃ s0, startS (l.take P) ⟨(N : Int), ma, mb, mc⟩ = s0 := ⟨_, rfl⟩
        rw [hs0'] at ks s5 s6 hs
        have er2 : ((l.drop P).foldl (missStep ⟨(N : Int), ma, mb, mc⟩) (0, s0)).1 = r1 ∧ r2 = 0 := by
          unfold missS at er
          rw [if_neg (by rw [hck]; decide), if_neg (by dsimp only; omega)] at er
          dsimp only at er
          rw [Int.toNat_natCast, hP, hs0'] at er
          obtain ⟨x1, x2⟩ := Prod.mk.inj er
          exact ⟨x1, x2.symm⟩
        have KS := Aside0.mk ks
        have HWI := Aside0.mk n3
        have HM := Aside0.mk (And.intro m1 m2)
        have HI := Aside0.mk (And.intro s5 (And.intro s6 (And.intro hs (And.intro er2 (And.intro hM hP)))))
        have n0 : 1 ≤ N := by omega
        clear n3 h2 ks m1 m2 s5 s6 hs er2 hs0 er hM hP hs0' hck t1 h1 hr
        dsimp only [moV] at *
        go_enter Try.func35, Try.ntmps35
        go_wp2_with (go_at_call 33; (with_reducible refine (KC.out _).mono ?_); rintro e w1 ⟨rfl, hb⟩; have mb1 := blk_below (blk_new w _) hb; have d0 := blk_cell mb1 0; have d1 := blk_cell mb1 1; have d2 := blk_cell mb1 2; have d3 := blk_cell mb1 3; simp only [List.getElem?_toArray, List.getElem?_cons_zero, List.getElem?_cons_succ] at d0 d1 d2 d3; have HB1 := Aside0.mk (And.intro mb1 hb); clear mb1 hb)
        have HB0 : Aside0 (Below w.heap.size w w1.drew) := ⟨pw_below_drewN ((below_alloc (Below.refl _ _) _).trans (HB1.out.2.mono (by simp))) 1⟩
        go_region_held3 (fun w' => w'.cell? ⟨w.heap.size, 0, none⟩ = some (.int .i64 (N : Int)) ∧ w'.cell? ⟨w.heap.size, 1, none⟩ = some (.int .i64 ma) ∧ w'.cell? ⟨w.heap.size, 2, none⟩ = some (.int .i64 mb) ∧ w'.cell? ⟨w.heap.size, 3, none⟩ = some (.int .i64 mc)) (first | go_keep | exact ⟨cell_below hb2 d0, cell_below hb2 d1, cell_below hb2 d2, cell_below hb2 d3⟩) (first | (go_at_call 24; (with_reducible refine (KS.out _ (Kd.C_below HM.out.1 HB0.out)).mono ?_); rintro e w2 ⟨b, rfl, hst, hb2⟩))
        have HB2 : Aside0 (StAt w2 w1.heap.size w2.heap.size b ⟨(N : Int), ma, mb, mc⟩ s0 ∧ Below w.heap.size w w2) := ⟨hst, HB0.out.trans (hb2.mono (by have := HB0.out.size; exact this))⟩
        have HL : Aside0 (w.heap.size ≤ w1.heap.size) := ⟨HB0.out.size⟩
        clear hst hb2 d0 d1 d2 d3
        go_wp2
        go_loopg [12, 54] L (fun kq v12 v54 W' => ∃ k : Nat, v54 = .int .i64 (k : Int) ∧ v12 = .int .i64 (((l.drop P).take k).foldl (missStep ⟨N, ma, mb, mc⟩) (0, s0)).1 ∧ Aside0 (kq + k = L) ∧ Aside0 (StAt W' w1.heap.size w2.heap.size b ⟨N, ma, mb, mc⟩ (((l.drop P).take k).foldl (missStep ⟨N, ma, mb, mc⟩) (0, s0)).2 ∧ Below w1.heap.size w2 W'))
        case atStart => exact ⟨0, rfl, rfl, ⟨rfl⟩, ⟨by simpa using HB2.out.1, Below.refl _ _⟩⟩
        case round =>
          obtain ⟨k, rfl, rfl, HK, HS⟩ := hrel
          by_cases ck : k < L
          · have c1 : decide ((k : Int) < (L : Int)) = true := decide_eq_true (by omega)
            obtain ⟨ad', e, r0⟩ := Kd.at_int (Kd.C_below HM.out.2 (HB2.out.2.trans (HS.out.2.mono HL.out))) (k : Int) (by omega) (by omega)
            cases e
            rw [Int.toNat_natCast] at r0
            have j1 : FS.In (rd (l.drop P) (k : Int)) := allIn_getD (allIn_drop hin P) k
            obtain ⟨q, hq⟩ : ∃ q, ((l.drop P).take k).foldl (missStep ⟨N, ma, mb, mc⟩) (0, s0) = q := ⟨_, rfl⟩
            have hq1 : FS.In q.1 := hq ▸ misses_in _ _ _ (show FS.In 0 from ⟨by decide, by decide⟩)
            have hq2 : q.2 = ((l.drop P).take k).foldl (stepS ⟨N, ma, mb, mc⟩) s0 := by rw [← hq, misses_snd]
            have hS1 : q.2.In := by rw [hq2]; exact fold_in _ _ _ HI.out.2.2.1
            have hS2 : q.2.parts.length = N := by rw [hq2, fold_len]; exact HI.out.1
            have hS3 : q.2.k ≤ l.length := by
              rw [hq2, fold_k, HI.out.2.1, List.length_take, List.length_drop, hD]
              omega
            rw [hq] at HS ⊢
            obtain ⟨x, hx⟩ : ∃ x, rd (l.drop P) (k : Int) = x := ⟨_, rfl⟩
            rw [hx] at j1 r0
            obtain ⟨cv, hcv⟩ : ∃ cv, (castOf q.2 1).1 = cv := ⟨_, rfl⟩
            have j2 : FS.In cv := hcv ▸ (castOf_one q.2).2
            have j3 := in_distS x cv
            have j4 := in_addS q.1 (distS x cv)
            have CC : Aside0 (∀ W, StAt W w1.heap.size w2.heap.size b ⟨N, ma, mb, mc⟩ q.2 → Calls Try.prog 28 #[.pointer (some ⟨b, 0, none⟩), .int .i64 1] W fun e w' => e = .returned (.tuple #[.int .i64 cv, .int .i64 0]) ∧ Drawn0 W w') := ⟨fun W h => by
              have := castOf_calls w1.heap.size w2.heap.size b ⟨N, ma, mb, mc⟩ q.2 1 W h hS1 ⟨by decide, by decide⟩ (by omega) (by omega) (by omega)
              rw [(castOf_one q.2).1, hcv] at this
              exact this⟩
            have SC := Aside0.mk (fun W (h : StAt W w1.heap.size w2.heap.size b ⟨N, ma, mb, mc⟩ q.2) => step_calls w1.heap.size w2.heap.size b ⟨N, ma, mb, mc⟩ q.2 x W h hS1 j1 HWI.out (by omega) (by omega) (by omega))
            have SD : Aside0 (∀ n, StAt (wr.drewN n) w1.heap.size w2.heap.size b ⟨N, ma, mb, mc⟩ q.2) := ⟨fun n => HS.out.1.kept (S := fun _ => False) ((Kept.refl _ _).drewN n) (fun _ _ _ h => h)⟩
            have HQ := Aside0.mk (And.intro hq (And.intro hx (And.intro hcv ck)))
            have j5 := hq1
            clear hq hx hcv hq1 hq2 hS1 hS2 hS3
            obtain ⟨qs, hqs⟩ : ∃ qs, q.1 = qs := ⟨_, rfl⟩
            rw [hqs] at j4 j5 ⊢
            have HQS := Aside0.mk hqs
            clear hqs
            cases gk with
            | zero => exact absurd HK.out (by have := HQ.out.2.2.2; omega)
            | succ k1 =>
              go_wp2_with (first | (go_at_call 28; (with_reducible refine (CC.out _ HS.out.1).mono ?_); rintro e w' ⟨rfl, ⟨nd, rfl⟩⟩) | (go_at_call 73; (with_reducible refine (dist_calls x cv (by assumption) (by assumption) _).mono ?_); rintro e w' ⟨rfl, ⟨nd, rfl⟩⟩) | (go_at_call 67; (with_reducible refine (fAdd (by assumption) (by assumption) _).mono ?_); rintro e w' ⟨rfl, ⟨nd, rfl⟩⟩) | (go_at_call 30; (with_reducible refine (SC.out _ (SD.out _)).mono ?_); rintro e w' ⟨⟨v, rfl⟩, hst, hb, hkp⟩; have HR := Aside0.mk (And.intro hst hb); clear hst hb hkp))
              go_roundg k1
              case measure => omega
              case rel =>
                obtain ⟨hq, hx, hcv, hk⟩ := HQ.out
                have e := misses_snoc ⟨N, ma, mb, mc⟩ (l.drop P) (0, s0) k (by rw [List.length_drop, hD]; exact hk)
                rw [hq, hx] at e
                unfold missStep at e
                rw [hcv, HQS.out] at e
                refine ⟨k + 1, by go_num, by unfold missStep; rw [e], ⟨by have := HK.out; omega⟩, ⟨?_, HS.out.2.trans ((pw_below_drewN (Below.refl _ _) _).trans HR.out.2)⟩⟩
                unfold missStep
                rw [e]
                exact HR.out.1
          · have c1 : decide ((k : Int) < (L : Int)) = false := decide_eq_false (by omega)
            have hS2 : (((l.drop P).take k).foldl (missStep ⟨N, ma, mb, mc⟩) (0, s0)).1 = r1 := by
              rw [List.take_of_length_le (by rw [List.length_drop, hD]; omega)]
              exact HI.out.2.2.2.1.1
            obtain rfl := HI.out.2.2.2.1.2
            rw [hS2]
            clear hS2
            go_wp2
            go_ret2
            exact ⟨rfl, HB2.out.2.trans (HS.out.2.mono HL.out)⟩
  · obtain ⟨rfl, rfl⟩ : r1 = 0 ∧ r2 = 1 := by
      unfold missS at er
      rw [if_pos (by rw [hck]; decide)] at er
      cases er; exact ⟨rfl, rfl⟩
    rw [hck] at kc
    have KC := Aside0.mk kc
    obtain ⟨n, ma, mb, mc⟩ := m
    clear kc er hck
    dsimp only [moV] at KC ⊢
    go_enter Try.func35, Try.ntmps35
    go_wp2_with (go_at_call 33; (with_reducible refine (KC.out _).mono ?_); rintro e w1 ⟨rfl, hb⟩)
    go_ret2
    exact ⟨rfl, (below_alloc (Below.refl _ _) _).trans (hb.mono (by simp))⟩
end Go.Proofs.Ytemnfnbjapobcaa.Ho
end
section
namespace Go.Proofs.Ytemnfnbjapobcaa
open Go.Proofs.Ytemnfnbjapobcaa.HS
def okL (l : List Int) : Bool := allInB l && decide (l.length ≤ 1000000000)
theorem okL_iff {l : List Int} : okL l = true ↔ AllIn l ∧ l.length ≤ 1000000000 := by unfold okL; simp [allInB_iff]
end Go.Proofs.Ytemnfnbjapobcaa
end
section
namespace Go.Proofs.Ytemnfnbjapobcaa.Ho
open Go.RowKit Go.Proofs.YtemnfnbjapobcaaW.PrintWords Go.Proofs.YtemnfnbjapobcaaW.PrintLast Go.Proofs.YtemnfnbjapobcaaW.PrintMore
open Go.Proofs.Ytemnfnbjapobcaa.FS Go.Proofs.Ytemnfnbjapobcaa.HS Go.Proofs.Ytemnfnbjapobcaa.FM
set_option linter.unusedVariables false
set_option linter.unusedSimpArgs false
def kMo : Kd Mo := Kd.iso (Kd.pair (Kd.int .i64) (Kd.pair (Kd.int .i64) (Kd.pair (Kd.int .i64) (Kd.int .i64)))) (fun x : Mo => (x.n, x.a, x.b, x.c))
def moCells (x : Mo) : List Value := [.int .i64 x.n, .int .i64 x.a, .int .i64 x.b, .int .i64 x.c]
theorem kMo_open {w : World} {x : Mo} {cs : List Value} (h : kMo.K w x cs) : cs = moCells x := by
  obtain ⟨_, _, rfl, rfl, ⟨_, _, rfl, rfl, ⟨_, _, rfl, rfl, rfl⟩⟩⟩ := h
  exact rfl
theorem kMo_mkM (w : World) (base : Nat) (ok : Nat → Prop) (x : Mo) : kMo.M w base ok x (moCells x) := ⟨[.int .i64 x.n], [.int .i64 x.a, .int .i64 x.b, .int .i64 x.c], rfl, rfl, ⟨[.int .i64 x.a], [.int .i64 x.b, .int .i64 x.c], rfl, rfl, ⟨[.int .i64 x.b], [.int .i64 x.c], rfl, rfl, rfl⟩⟩⟩
theorem info29 : (Try.prog.info? 29).map (fun i => (i.zero, i.size, i.bytes)) = some (some (.agg #[(.int .i64 0), (.int .i64 0), (.int .i64 0), (.int .i64 0)]), 4, 32) := by kernel_rfl
def mods (s : Int) : List Mo := [⟨s, 1073741824, 0, 536870912⟩, ⟨s, 1073741824, 0, 2147483648⟩, ⟨s, 1073741824, 536870912, 536870912⟩, ⟨s, 1073741824, 536870912, 2147483648⟩, ⟨s, 2147483648, 0, 536870912⟩, ⟨s, 2147483648, 0, 2147483648⟩, ⟨s, 2147483648, 536870912, 536870912⟩, ⟨s, 2147483648, 536870912, 2147483648⟩]
def modelsS (s : Int) : List Mo := if s < 1 ∨ s > 10000 then [] else mods s
theorem counted_calls (n : Int) (w : World) : Calls Try.prog 77 #[.int .i64 n] w fun e w' => e = .returned (.bool (decide (1 ≤ n ∧ n ≤ 10000))) ∧ Drawn0 w w' := by
  by_cases h1 : n ≥ 1
  · have c1 : decide (n ≥ 1) = true := decide_eq_true h1
    by_cases h2 : n ≤ 10000
    · have c2 : decide (n ≤ 10000) = true := decide_eq_true h2
      have e : decide (1 ≤ n ∧ n ≤ 10000) = true := decide_eq_true ⟨h1, h2⟩
      rw [e]
      clear h1 h2 e
      go_enter Try.func77, Try.ntmps77
      go_wp2
      go_ret
      exact ⟨rfl, Drawn0.refl _⟩
    · have c2 : decide (n ≤ 10000) = false := decide_eq_false h2
      have e : decide (1 ≤ n ∧ n ≤ 10000) = false := decide_eq_false (fun h => h2 h.2)
      rw [e]
      clear h1 h2 e
      go_enter Try.func77, Try.ntmps77
      go_wp2
      go_ret
      exact ⟨rfl, Drawn0.refl _⟩
  · have c1 : decide (n ≥ 1) = false := decide_eq_false h1
    have e : decide (1 ≤ n ∧ n ≤ 10000) = false := decide_eq_false (fun h => h1 h.1)
    rw [e]
    clear h1 e
    go_enter Try.func77, Try.ntmps77
    go_wp2
    go_ret
    exact ⟨rfl, Drawn0.refl _⟩
theorem idx0 (a b : Int) (W : World) : (Sem.run Try.prog (Instr.index 108 (Value.agg #[Value.int IntKind.i64 a, Value.int IntKind.i64 b]) (Value.int IntKind.i64 0)) W) = .ok (.int .i64 a) W := by
  simp [Instr.index, go_sem]
theorem idx1 (a b : Int) (W : World) : (Sem.run Try.prog (Instr.index 108 (Value.agg #[Value.int IntKind.i64 a, Value.int IntKind.i64 b]) (Value.int IntKind.i64 1)) W) = .ok (.int .i64 b) W := by
  simp [Instr.index, go_sem]
set_option maxRecDepth 100000 in
set_option maxHeartbeats 8000000 in
theorem models_calls (s : Int) (w : World) :
    Calls Try.prog 41 #[.int .i64 s] w fun e w' => ∃ v, e = .returned v ∧ Kd.R kMo 29 w' w.heap.size (fun _ => True) v (modelsS s) ∧ Below w.heap.size w w' := by
  by_cases h : s < 1 ∨ s > 10000
  · have e0 : modelsS s = [] := if_pos h
    have c0 : decide (1 ≤ s ∧ s ≤ 10000) = false := decide_eq_false (by omega)
    have KC := Aside0.mk (fun W => c0 ▸ counted_calls s W)
    rw [e0]
    clear h e0 c0
    go_enter Try.func41, Try.ntmps41
    go_wp2_with (first | (go_at_call 77; (with_reducible refine (KC.out _).mono ?_); rintro e w' ⟨rfl, ⟨nd, rfl⟩⟩))
    go_ret
    exact ⟨_, rfl, Kd.R_nil _ _ _ _ _, pw_below_drewN (Below.refl _ _) _⟩
  · have e0 : modelsS s = mods s := if_neg h
    have c0 : decide (1 ≤ s ∧ s ≤ 10000) = true := decide_eq_true (by omega)
    have KC := Aside0.mk (fun W => c0 ▸ counted_calls s W)
    rw [e0]
    clear h e0 c0
    have i0 := idx0
    have i1 := idx1
    go_enter Try.func41, Try.ntmps41
    go_wp2_with (first | (go_at_call 77; (with_reducible refine (KC.out _).mono ?_); rintro e w' ⟨rfl, ⟨nd, rfl⟩⟩))
    go_loopg [3, 14] 2 (fun kq v3 v14 W' => ∃ i : Nat, v14 = .int .i64 (i : Int) ∧ Aside0 (kq + i = 2) ∧ Aside0 (Kd.R kMo 29 W' w.heap.size (fun _ => True) v3 ((mods s).take (4 * i))) ∧ Aside0 (Below w.heap.size w W'))
    case atStart => exact ⟨0, rfl, ⟨rfl⟩, ⟨Kd.R_nil _ _ _ _ _⟩, ⟨pw_below_drewN (Below.refl _ _) _⟩⟩
    case round =>
      obtain ⟨i, rfl, HK, HO, HB⟩ := hrel
      obtain ⟨U, rfl⟩ : ∃ U : World, U = wr := ⟨_, rfl⟩
      cases gk with
      | zero =>
        obtain rfl : i = 2 := by have := HK.out; omega
        go_wp2
        go_ret
        exact ⟨_, rfl, HO.out, HB.out⟩
      | succ k1 =>
        have hi : i = 0 ∨ i = 1 := by have := HK.out; omega
        rcases hi with rfl | rfl
        · go_wp2
          go_loopg [3, 18] 2 (fun kq v3 v18 W' => ∃ j : Nat, v18 = .int .i64 (j : Int) ∧ Aside0 (kq + j = 2) ∧ Aside0 (Kd.R kMo 29 W' w.heap.size (fun _ => True) v3 ((mods s).take (0 + 2 * j))) ∧ Aside0 (Below w.heap.size w W'))
          case atStart => exact ⟨0, rfl, ⟨rfl⟩, HO, HB⟩
          case round =>
            clear HO HB
            obtain ⟨j, rfl, HK2, HO, HB⟩ := hrel
            obtain ⟨U2, rfl⟩ : ∃ U : World, U = wr := ⟨_, rfl⟩
            cases gk with
            | zero =>
              obtain rfl : j = 2 := by have := HK2.out; omega
              go_wp2
              go_roundg k1
              case measure => omega
              case rel => exact ⟨1, by go_num, ⟨by have := HK.out; omega⟩, HO, HB⟩
            | succ k2 =>
              have hj : j = 0 ∨ j = 1 := by have := HK2.out; omega
              rcases hj with rfl | rfl
              · go_wp2
                go_loopg [3, 22] 2 (fun kq v3 v22 W' => ∃ k : Nat, v22 = .int .i64 (k : Int) ∧ Aside0 (kq + k = 2) ∧ Aside0 (Kd.R kMo 29 W' w.heap.size (fun _ => True) v3 ((mods s).take (0 + k))) ∧ Aside0 (Below w.heap.size w W'))
                case atStart => exact ⟨0, rfl, ⟨rfl⟩, HO, HB⟩
                case round =>
                  clear HO HB
                  obtain ⟨k, rfl, HK3, HO, HB⟩ := hrel
                  obtain ⟨U3, rfl⟩ : ∃ U : World, U = wr := ⟨_, rfl⟩
                  cases gk with
                  | zero =>
                    obtain rfl : k = 2 := by have := HK3.out; omega
                    go_wp2
                    go_roundg k2
                    case measure => omega
                    case rel => exact ⟨1, by go_num, ⟨by have := HK2.out; omega⟩, HO, HB⟩
                  | succ k3 =>
                    have hk : k = 0 ∨ k = 1 := by have := HK3.out; omega
                    rcases hk with rfl | rfl
                    · go_wp2_with (at_builtin; refine Kd.R_append kMo (w0 := w) w.heap.size rfl (.tmp 25) (.tmp 31) 58 29 (.agg #[(.int .i64 0), (.int .i64 0), (.int .i64 0), (.int .i64 0)]) 32 rfl Try.underlying58 info29 rfl (by decide) (by omega) u3 ((mods s).take 0) ⟨s, 1073741824, 0, 536870912⟩ (moCells ⟨s, 1073741824, 0, 536870912⟩) (fun _ => True) (fun _ => False) rfl rfl (kMo_mkM _ _ _ _) (fun _ hk => hk.elim) (fun _ _ => trivial) HO.out HB.out HB.out.size (by simp [mods]) ?_)
                      intro v1 w1 ho hb _ _
                      have HO1 := Aside0.mk ho
                      have HB1 := Aside0.mk hb
                      clear ho hb
                      go_wp2
                      go_roundg k3
                      case measure => omega
                      case rel => exact ⟨1, by go_num, ⟨by have := HK3.out; omega⟩, HO1, HB1⟩
                    · go_wp2_with (at_builtin; refine Kd.R_append kMo (w0 := w) w.heap.size rfl (.tmp 25) (.tmp 31) 58 29 (.agg #[(.int .i64 0), (.int .i64 0), (.int .i64 0), (.int .i64 0)]) 32 rfl Try.underlying58 info29 rfl (by decide) (by omega) u3 ((mods s).take 1) ⟨s, 1073741824, 0, 2147483648⟩ (moCells ⟨s, 1073741824, 0, 2147483648⟩) (fun _ => True) (fun _ => False) rfl rfl (kMo_mkM _ _ _ _) (fun _ hk => hk.elim) (fun _ _ => trivial) HO.out HB.out HB.out.size (by simp [mods]) ?_)
                      intro v1 w1 ho hb _ _
                      have HO1 := Aside0.mk ho
                      have HB1 := Aside0.mk hb
                      clear ho hb
                      go_wp2
                      go_roundg k3
                      case measure => omega
                      case rel => exact ⟨2, by go_num, ⟨by have := HK3.out; omega⟩, HO1, HB1⟩
              · go_wp2
                go_loopg [3, 22] 2 (fun kq v3 v22 W' => ∃ k : Nat, v22 = .int .i64 (k : Int) ∧ Aside0 (kq + k = 2) ∧ Aside0 (Kd.R kMo 29 W' w.heap.size (fun _ => True) v3 ((mods s).take (2 + k))) ∧ Aside0 (Below w.heap.size w W'))
                case atStart => exact ⟨0, rfl, ⟨rfl⟩, HO, HB⟩
                case round =>
                  clear HO HB
                  obtain ⟨k, rfl, HK3, HO, HB⟩ := hrel
                  obtain ⟨U3, rfl⟩ : ∃ U : World, U = wr := ⟨_, rfl⟩
                  cases gk with
                  | zero =>
                    obtain rfl : k = 2 := by have := HK3.out; omega
                    go_wp2
                    go_roundg k2
                    case measure => omega
                    case rel => exact ⟨2, by go_num, ⟨by have := HK2.out; omega⟩, HO, HB⟩
                  | succ k3 =>
                    have hk : k = 0 ∨ k = 1 := by have := HK3.out; omega
                    rcases hk with rfl | rfl
                    · go_wp2_with (at_builtin; refine Kd.R_append kMo (w0 := w) w.heap.size rfl (.tmp 25) (.tmp 31) 58 29 (.agg #[(.int .i64 0), (.int .i64 0), (.int .i64 0), (.int .i64 0)]) 32 rfl Try.underlying58 info29 rfl (by decide) (by omega) u3 ((mods s).take 2) ⟨s, 1073741824, 536870912, 536870912⟩ (moCells ⟨s, 1073741824, 536870912, 536870912⟩) (fun _ => True) (fun _ => False) rfl rfl (kMo_mkM _ _ _ _) (fun _ hk => hk.elim) (fun _ _ => trivial) HO.out HB.out HB.out.size (by simp [mods]) ?_)
                      intro v1 w1 ho hb _ _
                      have HO1 := Aside0.mk ho
                      have HB1 := Aside0.mk hb
                      clear ho hb
                      go_wp2
                      go_roundg k3
                      case measure => omega
                      case rel => exact ⟨1, by go_num, ⟨by have := HK3.out; omega⟩, HO1, HB1⟩
                    · go_wp2_with (at_builtin; refine Kd.R_append kMo (w0 := w) w.heap.size rfl (.tmp 25) (.tmp 31) 58 29 (.agg #[(.int .i64 0), (.int .i64 0), (.int .i64 0), (.int .i64 0)]) 32 rfl Try.underlying58 info29 rfl (by decide) (by omega) u3 ((mods s).take 3) ⟨s, 1073741824, 536870912, 2147483648⟩ (moCells ⟨s, 1073741824, 536870912, 2147483648⟩) (fun _ => True) (fun _ => False) rfl rfl (kMo_mkM _ _ _ _) (fun _ hk => hk.elim) (fun _ _ => trivial) HO.out HB.out HB.out.size (by simp [mods]) ?_)
                      intro v1 w1 ho hb _ _
                      have HO1 := Aside0.mk ho
                      have HB1 := Aside0.mk hb
                      clear ho hb
                      go_wp2
                      go_roundg k3
                      case measure => omega
                      case rel => exact ⟨2, by go_num, ⟨by have := HK3.out; omega⟩, HO1, HB1⟩
        · go_wp2
          go_loopg [3, 18] 2 (fun kq v3 v18 W' => ∃ j : Nat, v18 = .int .i64 (j : Int) ∧ Aside0 (kq + j = 2) ∧ Aside0 (Kd.R kMo 29 W' w.heap.size (fun _ => True) v3 ((mods s).take (4 + 2 * j))) ∧ Aside0 (Below w.heap.size w W'))
          case atStart => exact ⟨0, rfl, ⟨rfl⟩, HO, HB⟩
          case round =>
            clear HO HB
            obtain ⟨j, rfl, HK2, HO, HB⟩ := hrel
            obtain ⟨U2, rfl⟩ : ∃ U : World, U = wr := ⟨_, rfl⟩
            cases gk with
            | zero =>
              obtain rfl : j = 2 := by have := HK2.out; omega
              go_wp2
              go_roundg k1
              case measure => omega
              case rel => exact ⟨2, by go_num, ⟨by have := HK.out; omega⟩, HO, HB⟩
            | succ k2 =>
              have hj : j = 0 ∨ j = 1 := by have := HK2.out; omega
              rcases hj with rfl | rfl
              · go_wp2
                go_loopg [3, 22] 2 (fun kq v3 v22 W' => ∃ k : Nat, v22 = .int .i64 (k : Int) ∧ Aside0 (kq + k = 2) ∧ Aside0 (Kd.R kMo 29 W' w.heap.size (fun _ => True) v3 ((mods s).take (4 + k))) ∧ Aside0 (Below w.heap.size w W'))
                case atStart => exact ⟨0, rfl, ⟨rfl⟩, HO, HB⟩
                case round =>
                  clear HO HB
                  obtain ⟨k, rfl, HK3, HO, HB⟩ := hrel
                  obtain ⟨U3, rfl⟩ : ∃ U : World, U = wr := ⟨_, rfl⟩
                  cases gk with
                  | zero =>
                    obtain rfl : k = 2 := by have := HK3.out; omega
                    go_wp2
                    go_roundg k2
                    case measure => omega
                    case rel => exact ⟨1, by go_num, ⟨by have := HK2.out; omega⟩, HO, HB⟩
                  | succ k3 =>
                    have hk : k = 0 ∨ k = 1 := by have := HK3.out; omega
                    rcases hk with rfl | rfl
                    · go_wp2_with (at_builtin; refine Kd.R_append kMo (w0 := w) w.heap.size rfl (.tmp 25) (.tmp 31) 58 29 (.agg #[(.int .i64 0), (.int .i64 0), (.int .i64 0), (.int .i64 0)]) 32 rfl Try.underlying58 info29 rfl (by decide) (by omega) u3 ((mods s).take 4) ⟨s, 2147483648, 0, 536870912⟩ (moCells ⟨s, 2147483648, 0, 536870912⟩) (fun _ => True) (fun _ => False) rfl rfl (kMo_mkM _ _ _ _) (fun _ hk => hk.elim) (fun _ _ => trivial) HO.out HB.out HB.out.size (by simp [mods]) ?_)
                      intro v1 w1 ho hb _ _
                      have HO1 := Aside0.mk ho
                      have HB1 := Aside0.mk hb
                      clear ho hb
                      go_wp2
                      go_roundg k3
                      case measure => omega
                      case rel => exact ⟨1, by go_num, ⟨by have := HK3.out; omega⟩, HO1, HB1⟩
                    · go_wp2_with (at_builtin; refine Kd.R_append kMo (w0 := w) w.heap.size rfl (.tmp 25) (.tmp 31) 58 29 (.agg #[(.int .i64 0), (.int .i64 0), (.int .i64 0), (.int .i64 0)]) 32 rfl Try.underlying58 info29 rfl (by decide) (by omega) u3 ((mods s).take 5) ⟨s, 2147483648, 0, 2147483648⟩ (moCells ⟨s, 2147483648, 0, 2147483648⟩) (fun _ => True) (fun _ => False) rfl rfl (kMo_mkM _ _ _ _) (fun _ hk => hk.elim) (fun _ _ => trivial) HO.out HB.out HB.out.size (by simp [mods]) ?_)
                      intro v1 w1 ho hb _ _
                      have HO1 := Aside0.mk ho
                      have HB1 := Aside0.mk hb
                      clear ho hb
                      go_wp2
                      go_roundg k3
                      case measure => omega
                      case rel => exact ⟨2, by go_num, ⟨by have := HK3.out; omega⟩, HO1, HB1⟩
              · go_wp2
                go_loopg [3, 22] 2 (fun kq v3 v22 W' => ∃ k : Nat, v22 = .int .i64 (k : Int) ∧ Aside0 (kq + k = 2) ∧ Aside0 (Kd.R kMo 29 W' w.heap.size (fun _ => True) v3 ((mods s).take (6 + k))) ∧ Aside0 (Below w.heap.size w W'))
                case atStart => exact ⟨0, rfl, ⟨rfl⟩, HO, HB⟩
                case round =>
                  clear HO HB
                  obtain ⟨k, rfl, HK3, HO, HB⟩ := hrel
                  obtain ⟨U3, rfl⟩ : ∃ U : World, U = wr := ⟨_, rfl⟩
                  cases gk with
                  | zero =>
                    obtain rfl : k = 2 := by have := HK3.out; omega
                    go_wp2
                    go_roundg k2
                    case measure => omega
                    case rel => exact ⟨2, by go_num, ⟨by have := HK2.out; omega⟩, HO, HB⟩
                  | succ k3 =>
                    have hk : k = 0 ∨ k = 1 := by have := HK3.out; omega
                    rcases hk with rfl | rfl
                    · go_wp2_with (at_builtin; refine Kd.R_append kMo (w0 := w) w.heap.size rfl (.tmp 25) (.tmp 31) 58 29 (.agg #[(.int .i64 0), (.int .i64 0), (.int .i64 0), (.int .i64 0)]) 32 rfl Try.underlying58 info29 rfl (by decide) (by omega) u3 ((mods s).take 6) ⟨s, 2147483648, 536870912, 536870912⟩ (moCells ⟨s, 2147483648, 536870912, 536870912⟩) (fun _ => True) (fun _ => False) rfl rfl (kMo_mkM _ _ _ _) (fun _ hk => hk.elim) (fun _ _ => trivial) HO.out HB.out HB.out.size (by simp [mods]) ?_)
                      intro v1 w1 ho hb _ _
                      have HO1 := Aside0.mk ho
                      have HB1 := Aside0.mk hb
                      clear ho hb
                      go_wp2
                      go_roundg k3
                      case measure => omega
                      case rel => exact ⟨1, by go_num, ⟨by have := HK3.out; omega⟩, HO1, HB1⟩
                    · go_wp2_with (at_builtin; refine Kd.R_append kMo (w0 := w) w.heap.size rfl (.tmp 25) (.tmp 31) 58 29 (.agg #[(.int .i64 0), (.int .i64 0), (.int .i64 0), (.int .i64 0)]) 32 rfl Try.underlying58 info29 rfl (by decide) (by omega) u3 ((mods s).take 7) ⟨s, 2147483648, 536870912, 2147483648⟩ (moCells ⟨s, 2147483648, 536870912, 2147483648⟩) (fun _ => True) (fun _ => False) rfl rfl (kMo_mkM _ _ _ _) (fun _ hk => hk.elim) (fun _ _ => trivial) HO.out HB.out HB.out.size (by simp [mods]) ?_)
                      intro v1 w1 ho hb _ _
                      have HO1 := Aside0.mk ho
                      have HB1 := Aside0.mk hb
                      clear ho hb
                      go_wp2
                      go_roundg k3
                      case measure => omega
                      case rel => exact ⟨2, by go_num, ⟨by have := HK3.out; omega⟩, HO1, HB1⟩
end Go.Proofs.Ytemnfnbjapobcaa.Ho
end
section
namespace Go.Proofs.Ytemnfnbjapobcaa.Ho
open Go.RowKit Go.Proofs.YtemnfnbjapobcaaW.PrintWords Go.Proofs.YtemnfnbjapobcaaW.PrintLast Go.Proofs.YtemnfnbjapobcaaW.PrintMore
open Go.Proofs.Ytemnfnbjapobcaa.FS Go.Proofs.Ytemnfnbjapobcaa.HS Go.Proofs.Ytemnfnbjapobcaa.FM
set_option linter.unusedVariables false
set_option linter.unusedSimpArgs false
def ptr (o : Option Nat) : Value := .pointer (o.map fun b => ⟨b, 0, none⟩)
def kWay : Kd (Int × Option Nat) := Kd.pair (Kd.int .i64) (Kd.scalar ptr (fun _ => rfl))
def wayCells (x : Int × Option Nat) : List Value := [.int .i64 x.1, ptr x.2]
theorem kWay_open {w : World} {x : Int × Option Nat} {cs : List Value} (h : kWay.K w x cs) : cs = wayCells x := by
  obtain ⟨_, _, rfl, rfl, rfl⟩ := h
  exact rfl
theorem kWay_mkM (w : World) (base : Nat) (ok : Nat → Prop) (x : Int × Option Nat) : kWay.M w base ok x (wayCells x) := ⟨[.int .i64 x.1], [ptr x.2], rfl, rfl, rfl⟩
theorem info105 : (Try.prog.info? 105).map (fun i => (i.zero, i.size, i.bytes)) = some (some (.agg #[.int .i64 0, .pointer none]), 2, 16) := by kernel_rfl
def z0 : Mo := ⟨0, 0, 0, 0⟩
def rdMo (xs : List Mo) (i : Int) : Mo := xs.getD i.toNat z0
theorem at_Mo {w : World} {A : Option Addr} {n : Nat} {xs : List Mo} (h : Kd.C kMo w A n xs) (i : Int) (h0 : 0 ≤ i) (h1 : i < n) : ∃ ad, A = some ad ∧ w.cell? (ad.add (i.toNat * 4)) = some (.int .i64 (rdMo xs i).n) ∧ w.cell? ⟨(ad.add (i.toNat * 4)).block, (ad.add (i.toNat * 4)).off + 1, none⟩ = some (.int .i64 (rdMo xs i).a) ∧ w.cell? ⟨(ad.add (i.toNat * 4)).block, (ad.add (i.toNat * 4)).off + 2, none⟩ = some (.int .i64 (rdMo xs i).b) ∧ w.cell? ⟨(ad.add (i.toNat * 4)).block, (ad.add (i.toNat * 4)).off + 3, none⟩ = some (.int .i64 (rdMo xs i).c) := by
  obtain ⟨ad, c, e, _, hK, hc0⟩ := Kd.C_get h z0 i h0 h1
  have hc : ∀ j u, c[j]? = some u → w.cell? (ad.add (i.toNat * 4 + j)) = some u := hc0
  obtain rfl := kMo_open hK
  exact ⟨ad, e, hc 0 _ rfl, by rw [← add_field _ _ 1 (by omega)]; exact hc 1 _ rfl, by rw [← add_field _ _ 2 (by omega)]; exact hc 2 _ rfl, by rw [← add_field _ _ 3 (by omega)]; exact hc 3 _ rfl⟩
structure WaysAt (W : World) (lo : Nat) (v : Value) (s : Int) (ms : List Mo) (bs : List Nat) : Prop where
  row : Kd.R kWay 105 W lo (fun _ => True) v ((s, none) :: bs.map fun b => (s, some b))
  cells : ∀ (i b : Nat) (x : Mo), bs[i]? = some b → ms[i]? = some x → lo ≤ b ∧ W.heap[b]? = some (.cells (moCells x).toArray 29 (0, 0))
theorem R_block {α : Type} {d : Kd α} {e lo n c : Nat} {W : World} {ok : Nat → Prop} {A : Option Addr} {xs : List α} (h : d.R e W lo ok (.slice A n c) xs) : ∀ ad, A = some ad → lo ≤ ad.block := by
  intro ad ea
  subst ea
  obtain ⟨_, inner, ho, _⟩ := h
  exact own_base ho ad.block rfl
theorem add_block_' (a : Addr) (n : Nat) : (a.add n).block = a.block := by unfold Addr.add; split <;> rfl
theorem size_alloc_ (w : World) (o : Obj) : (w.alloc o).heap.size = w.heap.size + 1 := by simp
set_option maxRecDepth 100000 in
set_option maxHeartbeats 8000000 in
theorem ways_calls (s : Int) (w : World) :
    Calls Try.prog 114 #[.int .i64 s] w fun e w' => ∃ v bs, e = .returned v ∧ bs.length = (modelsS s).length ∧ WaysAt w' w.heap.size v s (modelsS s) bs ∧ Below w.heap.size w w' := by
  have KM := Aside0.mk (fun W => models_calls s W)
  obtain ⟨ms, hms⟩ : ∃ ms, modelsS s = ms := ⟨_, rfl⟩
  have hml : ms.length ≤ 8 := by rw [← hms]; unfold modelsS; split <;> simp [mods]
  rw [hms] at KM ⊢
  clear hms
  have HR0 : Aside0 (Kd.R kWay 105 (w.alloc (.cells #[.int .i64 s, .pointer none] 105)) w.heap.size (fun _ => True) (.slice (some ⟨w.heap.size, 0, none⟩) 1 1) [(s, none)]) := ⟨⟨fun _ _ => trivial, [.int .i64 s, .pointer none], World.ownsRow_lit (base := w.heap.size) (e := 105) (size := 2) w #[.int .i64 s, .pointer none] 1 (Nat.le_refl _) (by decide) rfl, Reps.c2 (kWay_mkM _ _ _ (s, none)) (Reps.none _ _)⟩⟩
  go_enter Try.func114, Try.ntmps114
  go_wp2_with (first | (go_at_call 41; (with_reducible refine (KM.out _).mono ?_); rintro e w2 ⟨v, rfl, hv, hb⟩; obtain ⟨A, c, rfl, hc, hC⟩ := Kd.R_reads hv; have hblk := R_block hv; rw [size_alloc_] at hblk; have HM := Aside0.mk (And.intro hC (And.intro hb hblk)); clear hv hC hb hblk))
  have hb0 : Below w.heap.size w w2 := (below_alloc (Below.refl _ _) _).trans (HM.out.2.1.mono (by simp))
  have hsz : w.heap.size < w2.heap.size := by have := HM.out.2.1.size; simp at this; omega
  have HB0 := Aside0.mk (And.intro hb0 hsz)
  have HR1 : Aside0 (Kd.R kWay 105 w2 w.heap.size (fun k => k = w.heap.size ∨ w2.heap.size ≤ k) (.slice (some ⟨w.heap.size, 0, none⟩) 1 1) [(s, none)]) := ⟨by
    have h := Kd.R_below HR0.out HM.out.2.1
    exact ⟨fun k hk => .inl (by have : w.heap.size = k := by simpa [Value.ownBlock] using hk
                                exact this.symm), h.2.imp_ (fun _ _ hp => hp)⟩⟩
  clear hb0 hsz HR0
  go_loopg [3, 12] ms.length (fun kq v3 v12 W' => ∃ (k : Nat) (bs : List Nat), v12 = .int .i64 (k : Int) ∧ Aside0 (kq + k = ms.length ∧ bs.length = k) ∧ Aside0 (Kd.R kWay 105 W' w.heap.size (fun k => k = w.heap.size ∨ w2.heap.size ≤ k) v3 ((s, none) :: bs.map fun b => (s, some b))) ∧ Aside0 ((∀ (i b : Nat) (x : Mo), bs[i]? = some b → ms[i]? = some x → w2.heap.size ≤ b ∧ W'.heap[b]? = some (.cells (moCells x).toArray 29 (0, 0))) ∧ Kept w2 W' (fun i => i = w.heap.size) ∧ Below w.heap.size w W'))
  case atStart => exact ⟨0, [], rfl, ⟨rfl, rfl⟩, HR1, ⟨fun i b x h => by simp at h, Kept.refl _ _, HB0.out.1⟩⟩
  case round =>
    obtain ⟨k, bs, rfl, HK, HO, HT⟩ := hrel
    by_cases ck : k < ms.length
    · have c1 : decide ((k : Int) < (ms.length : Int)) = true := decide_eq_true (by omega)
      obtain ⟨ad, e, q0, q1, q2, q3⟩ := at_Mo HM.out.1 (k : Int) (by omega) (by omega)
      have hne := HM.out.2.2 ad e
      cases e
      rw [Int.toNat_natCast] at q0 q1 q2 q3
      have q0' := cell_kept q0 HT.out.2.1 (by show ¬ (ad.add (k * 4)).block = w.heap.size; have := add_block_' ad (k * 4); omega)
      have q1' := cell_kept q1 HT.out.2.1 (by show ¬ (ad.add (k * 4)).block = w.heap.size; have := add_block_' ad (k * 4); omega)
      have q2' := cell_kept q2 HT.out.2.1 (by show ¬ (ad.add (k * 4)).block = w.heap.size; have := add_block_' ad (k * 4); omega)
      have q3' := cell_kept q3 HT.out.2.1 (by show ¬ (ad.add (k * 4)).block = w.heap.size; have := add_block_' ad (k * 4); omega)
      clear q0 q1 q2 q3
      obtain ⟨x, hx⟩ : ∃ x, rdMo ms (k : Int) = x := ⟨_, rfl⟩
      rw [hx] at q0' q1' q2' q3'
      have HX := Aside0.mk (And.intro hx hne)
      clear hx hne
      cases gk with
      | zero => exact absurd HK.out (by omega)
      | succ k1 =>
        obtain ⟨hok, inner, ho_, hre⟩ := HO.out
        have HOW := Aside0.mk ho_
        have HOK := Aside0.mk hok
        clear hok ho_ hre
        go_wp2_with (at_builtin; refine Kd.R_append kWay (W := wr.alloc (.cells #[.int .i64 x.n, .int .i64 x.a, .int .i64 x.b, .int .i64 x.c] 29)) (w0 := w) w.heap.size rfl (.tmp 16) (.tmp 19) 148 105 (.agg #[.int .i64 0, .pointer none]) 16 rfl Try.underlying148 info105 rfl (by decide) (by omega) u3 ((s, none) :: bs.map fun b => (s, some b)) (s, some wr.heap.size) [.int .i64 s, .pointer (some ⟨wr.heap.size, 0, none⟩)] (fun k => k = w.heap.size ∨ w2.heap.size ≤ k) (fun _ => False) rfl (by rw [size_alloc_]; rfl) (kWay_mkM _ _ _ (s, some wr.heap.size)) (fun _ hk => hk.elim) (fun i hi => .inr (by have := HT.out.2.1.1; rw [size_alloc_] at hi; omega)) (Kd.R_alloc HO.out _) (HT.out.2.2.alloc HT.out.2.2.size _) (by have := HT.out.2.2.size; rw [size_alloc_]; omega) (by have := HK.out; simp; omega) ?_)
        intro v1 w1 ho hb hg hat
        have hk1 : Kept w2 w1 (fun i => i = w.heap.size) := Kept.of_grown hg (HT.out.2.1.alloc _) HOK.out
        have hnew : w1.heap[wr.heap.size]? = some (.cells #[.int .i64 x.n, .int .i64 x.a, .int .i64 x.b, .int .i64 x.c] 29 (0, 0)) := blk_grown (blk_new wr _) hg (by have := own_ne_new HOW.out 0; simpa using this)
        have hold : ∀ (b : Nat) (y : Mo), wr.heap[b]? = some (.cells (moCells y).toArray 29 (0, 0)) → w1.heap[b]? = some (.cells (moCells y).toArray 29 (0, 0)) := fun b y h => blk_grown (blk_alloc h _) hg (own_ne HOW.out h (by decide))
        have HN := Aside0.mk (And.intro ho (And.intro hb (And.intro hk1 (And.intro hnew hold))))
        clear ho hb hg hat hk1 hnew hold
        go_wp2
        go_roundg k1
        case measure => omega
        case rel =>
          have hkk := HK.out
          refine ⟨k + 1, bs ++ [wr.heap.size], by go_num, ⟨by omega, by simp; omega⟩, ⟨by simpa using HN.out.1⟩, ⟨fun i b y h1 h2 => ?_, HN.out.2.2.1, HN.out.2.1⟩⟩
          by_cases hi : i < bs.length
          · rw [List.getElem?_append_left hi] at h1
            exact ⟨(HT.out.1 i b y h1 h2).1, HN.out.2.2.2.2 b y (HT.out.1 i b y h1 h2).2⟩
          · have hik : i = k := by
              have := (List.getElem?_eq_some_iff.mp h1).1
              simp at this; omega
            subst hik
            rw [List.getElem?_append_right (by omega)] at h1
            have hz : i - bs.length = 0 := by omega
            rw [hz] at h1
            simp at h1
            subst h1
            have hy : rdMo ms (i : Int) = y := by
              unfold rdMo
              rw [Int.toNat_natCast, List.getD_eq_getElem?_getD, h2]; rfl
            rw [HX.out.1] at hy
            subst hy
            exact ⟨HT.out.2.1.1, HN.out.2.2.2.1⟩
    · have c1 : decide ((k : Int) < (ms.length : Int)) = false := decide_eq_false (by omega)
      go_wp2
      go_ret
      exact ⟨_, bs, rfl, by have := HK.out; omega, ⟨Kd.R_mono HO.out (fun _ _ => trivial), fun i b x h1 h2 => ⟨by have := (HT.out.1 i b x h1 h2).1; have := HB0.out.2; omega, (HT.out.1 i b x h1 h2).2⟩⟩, HT.out.2.2⟩
end Go.Proofs.Ytemnfnbjapobcaa.Ho
end
section
namespace Go.Proofs.Ytemnfnbjapobcaa.HS
def nmissS (l : List Int) (s last : Int) : Int × Int :=
  if s < 1 ∨ s > 10000 ∨ (l.length : Int) < s ∨ last < 1 ∨ s > (l.length : Int) - last then (0, 1)
  else ((List.range' (l.length - last.toNat) last.toNat).foldl (fun q i => addS q (distS (l.getD i 0) (l.getD (i - s.toNat) 0))) 0, 0)
end Go.Proofs.Ytemnfnbjapobcaa.HS
namespace Go.Proofs.Ytemnfnbjapobcaa.Ho
open Go.RowKit Go.Proofs.YtemnfnbjapobcaaW.PrintWords Go.Proofs.YtemnfnbjapobcaaW.PrintLast Go.Proofs.YtemnfnbjapobcaaW.PrintMore
open Go.Proofs.Ytemnfnbjapobcaa.FS Go.Proofs.Ytemnfnbjapobcaa.HS Go.Proofs.Ytemnfnbjapobcaa.FM
set_option linter.unusedVariables false
set_option linter.unusedSimpArgs false
abbrev SeasonMiss : Prop := ∀ (W : World) (A : Option Addr) (c : Nat) (l : List Int) (s last : Int), Kd.C (Kd.int .i64) W A l.length l → l.length ≤ c → AllIn l → FS.In s → FS.In last → l.length ≤ 1000000000 →
  Calls Try.prog 136 #[.slice A l.length c, .int .i64 s, .int .i64 last] W fun e w' => e = .returned (.tuple #[.int .i64 (nmissS l s last).1, .int .i64 (nmissS l s last).2]) ∧ Below W.heap.size W w'
set_option maxRecDepth 100000 in
set_option maxHeartbeats 8000000 in
theorem wayMiss_none (HS : Aside0 SeasonMiss) (A : Option Addr) (c : Nat) (l : List Int) (s : Int) (w : World) (hr : Kd.C (Kd.int .i64) w A l.length l) (hc : l.length ≤ c) (hin : AllIn l) (hs : FS.In s) (hll : l.length ≤ 1000000000) :
    Calls Try.prog 115 #[.agg #[.int .i64 s, .pointer none], .slice A l.length c] w fun e w' => e = .returned (.tuple #[.int .i64 (nmissS l s s).1, .int .i64 (nmissS l s s).2]) ∧ Below w.heap.size w w' := by
  have HR := Aside0.mk hr
  clear hr
  obtain ⟨r, hr⟩ : ∃ r, nmissS l s s = r := ⟨_, rfl⟩
  have KM : Aside0 (∀ W, Kd.C (Kd.int .i64) W A l.length l → Calls Try.prog 136 #[.slice A l.length c, .int .i64 s, .int .i64 s] W fun e w' => e = .returned (.tuple #[.int .i64 r.1, .int .i64 r.2]) ∧ Below W.heap.size W w') := ⟨fun W h => hr ▸ HS.out W A c l s s h hc hin hs hs hll⟩
  rw [hr]
  clear hr
  go_enter Try.func115, Try.ntmps115
  go_wp2_with (go_at_call 136; (with_reducible refine (KM.out _ (Kd.C_below HR.out (below_alloc (Below.refl _ _) _))).mono ?_); rintro e w2 ⟨rfl, hb⟩)
  go_ret2
  exact ⟨rfl, (below_alloc (Below.refl _ _) _).trans (hb.mono (by simp))⟩
set_option maxRecDepth 100000 in
set_option maxHeartbeats 8000000 in
theorem wayMiss_some (A : Option Addr) (c : Nat) (l : List Int) (s : Int) (b : Nat) (m : Mo) (w : World) (hb : w.heap[b]? = some (.cells (moCells m).toArray 29 (0, 0))) (hr : Kd.C (Kd.int .i64) w A l.length l) (hc : l.length ≤ c) (hin : AllIn l) (hs : FS.In s) (hm : FS.In m.n) (hll : l.length ≤ 1000000000) :
    Calls Try.prog 115 #[.agg #[.int .i64 s, .pointer (some ⟨b, 0, none⟩)], .slice A l.length c] w fun e w' => e = .returned (.tuple #[.int .i64 (missS l m s).1, .int .i64 (missS l m s).2]) ∧ Below w.heap.size w w' := by
  have HR := Aside0.mk hr
  obtain ⟨r, er⟩ : ∃ r, missS l m s = r := ⟨_, rfl⟩
  have KM : Aside0 (∀ W, Kd.C (Kd.int .i64) W A l.length l → Calls Try.prog 35 #[.slice A l.length c, moV m, .int .i64 s] W fun e w' => e = .returned (.tuple #[.int .i64 r.1, .int .i64 r.2]) ∧ Below W.heap.size W w') := ⟨fun W h => er ▸ miss_calls A c l m s W h hc hin hm hs hll⟩
  rw [er]
  have hb' := blk_alloc hb (.cells #[.int .i64 s, .pointer (some ⟨b, 0, none⟩)] 105)
  obtain ⟨n, ma, mb, mc⟩ := m
  dsimp only [moV, moCells] at *
  have d0 := blk_cell hb' 0
  have d1 := blk_cell hb' 1
  have d2 := blk_cell hb' 2
  have d3 := blk_cell hb' 3
  simp only [List.getElem?_toArray, List.getElem?_cons_zero, List.getElem?_cons_succ] at d0 d1 d2 d3
  clear er hr hb hb'
  go_enter Try.func115, Try.ntmps115
  go_wp2
  refine wp_region_mid 7 (by kernel_rfl) (by kernel_rfl) rfl ?_
  simp only [List.take_succ_cons, List.take_zero, List.drop_succ_cons, List.drop_zero]
  repeat (go_big_quiet_step (fail))
  refine wpQuiet_nil ?_
  rintro W1 ⟨nq, hnq⟩ K1 hK
  have HB0 : Aside0 (Below w.heap.size w W1) := ⟨hnq ▸ pw_below_drewN (below_alloc (Below.refl _ _) _) _⟩
  clear hnq nq
  refine goes_ Try.func35 (by kernel_rfl) rfl #[.slice A l.length c, .agg #[.int .i64 n, .int .i64 ma, .int .i64 mb, .int .i64 mc], .int .i64 s] (by rfl) rfl rfl (by simp [Act.eval]) ?_
  refine (KM.out _ (Kd.C_below HR.out HB0.out)).mono ?_
  rintro e w2 ⟨rfl, hb2⟩
  refine ⟨_, rfl, hK _ _ ?_⟩
  have HB2 := Aside0.mk (HB0.out.trans (hb2.mono HB0.out.size))
  clear hK K1 d0 d1 d2 d3 hb2
  simp only [Act.put, List.setIfInBounds_toArray, List.set_cons_zero, List.set_cons_succ]
  repeat (go_big_quiet_step (fail))
  refine wpQuiet_nil ?_
  rintro w3 ⟨n3, rfl⟩
  go_wp2
  go_ret2
  exact ⟨rfl, pw_below_drewN HB2.out _⟩
end Go.Proofs.Ytemnfnbjapobcaa.Ho
end
section
namespace Go.Proofs.Ytemnfnbjapobcaa.HS
open Go.Proofs.Ytemnfnbjapobcaa.Ho
def bestF (l : List Int) (s : Int) (q : Int × Int) (p : Mo × Nat) : Int × Int := if (missS l p.1 s).1 < q.2 then ((p.2 : Int) + 1, (missS l p.1 s).1) else q
def bestAt (l : List Int) (s : Int) : Nat → Int × Int
  | 0 => (0, 0)
  | i + 1 => ((mods s).zipIdx.take i).foldl (bestF l s) (0, (nmissS l s s).1)
def bestS (l : List Int) (s : Int) : Int × Int := bestAt l s 9
def noBest (l : List Int) (s : Int) : Prop := s < 1 ∨ s > 10000 ∨ (l.length : Int) / 3 < s
end Go.Proofs.Ytemnfnbjapobcaa.HS
namespace Go.Proofs.Ytemnfnbjapobcaa.Ho
open Go.RowKit Go.Proofs.YtemnfnbjapobcaaW.PrintWords Go.Proofs.YtemnfnbjapobcaaW.PrintLast Go.Proofs.YtemnfnbjapobcaaW.PrintMore
open Go.Proofs.Ytemnfnbjapobcaa.FS Go.Proofs.Ytemnfnbjapobcaa.HS Go.Proofs.Ytemnfnbjapobcaa.FM
set_option linter.unusedVariables false
set_option linter.unusedSimpArgs false
def zw : Int × Option Nat := (0, none)
theorem at_Way {w : World} {A : Option Addr} {n : Nat} {xs : List (Int × Option Nat)} (h : Kd.C kWay w A n xs) (i : Nat) (h1 : i < n) : ∃ ad, A = some ad ∧ w.cell? (ad.add (i * 2)) = some (.int .i64 (xs.getD i zw).1) ∧ w.cell? ⟨(ad.add (i * 2)).block, (ad.add (i * 2)).off + 1, none⟩ = some (ptr (xs.getD i zw).2) := by
  obtain ⟨ad, c, e, _, hK, hc0⟩ := Kd.C_get h zw (i : Int) (by omega) (by omega)
  rw [Int.toNat_natCast] at hK hc0
  have hc : ∀ j u, c[j]? = some u → w.cell? (ad.add (i * 2 + j)) = some u := hc0
  obtain rfl := kWay_open hK
  exact ⟨ad, e, hc 0 _ rfl, by rw [← add_field _ _ 1 (by omega)]; exact hc 1 _ rfl⟩
theorem mods_ok {s : Int} (h1 : 1 ≤ s) (h2 : s ≤ 10000) {m : Mo} (h : m ∈ mods s) : m.n = s ∧ checkS m = 0 := by
  simp only [mods, List.mem_cons, List.not_mem_nil, or_false] at h
  have ok : ∀ a b c : Int, okW a = true → okW b = true → okW c = true → checkS ⟨s, a, b, c⟩ = 0 := by
    intro a b c ha hb hc
    unfold checkS
    rw [if_neg (by simp only; omega)]
    simp only [ha, hb, hc, Bool.and_true, if_true]
  rcases h with rfl | rfl | rfl | rfl | rfl | rfl | rfl | rfl <;> exact ⟨rfl, ok _ _ _ (by decide) (by decide) (by decide)⟩
theorem miss_ok {l : List Int} {s : Int} (h : ¬ noBest l s) {m : Mo} (hm : m ∈ mods s) : (missS l m s).2 = 0 ∧ FS.In (missS l m s).1 := by
  unfold noBest at h
  obtain ⟨e1, e2⟩ := mods_ok (s := s) (by omega) (by omega) hm
  unfold missS
  rw [if_neg (by rw [e2]; decide), if_neg (by rw [e1]; omega)]
  exact ⟨rfl, misses_in _ _ _ (show FS.In 0 from ⟨by decide, by decide⟩)⟩
theorem nmiss_ok {l : List Int} {s : Int} (h : ¬ noBest l s) : (nmissS l s s).2 = 0 := by
  unfold noBest at h
  unfold nmissS
  rw [if_neg (by omega)]
theorem best_next {l : List Int} {s : Int} {j : Nat} {m : Mo} (h : (mods s)[j]? = some m) : bestAt l s (j + 2) = bestF l s (bestAt l s (j + 1)) (m, j) := by
  show ((mods s).zipIdx.take (j + 1)).foldl (bestF l s) (0, (nmissS l s s).1) = bestF l s (((mods s).zipIdx.take j).foldl (bestF l s) (0, (nmissS l s s).1)) (m, j)
  have hz : (mods s).zipIdx[j]? = some (m, j) := by simp [List.getElem?_zipIdx, h]
  obtain ⟨hl, e⟩ := List.getElem?_eq_some_iff.mp hz
  rw [List.take_succ_eq_append_getElem hl, List.foldl_append, e]
  rfl
theorem best_way (l : List Int) (s : Int) : ∀ i, i ≤ 9 → (bestAt l s i).1 = 0 ∨ ∃ (j : Nat) (m : Mo), (bestAt l s i).1 = (j : Int) + 1 ∧ (mods s)[j]? = some m
  | 0, _ => .inl rfl
  | 1, _ => .inl rfl
  | j + 2, h => by
    obtain ⟨m, hm⟩ : ∃ m, (mods s)[j]? = some m := ⟨_, List.getElem?_eq_getElem (show j < (mods s).length by simp [mods]; omega)⟩
    rw [best_next hm]
    unfold bestF
    split
    · exact .inr ⟨j, m, rfl, hm⟩
    · exact best_way l s (j + 1) (by omega)
def WayIn (W : World) (s : Int) (which : Int) (o : Option Nat) : Prop := (o = none ∧ which = 0) ∨ ∃ b j m, o = some b ∧ which = (j : Nat) + 1 ∧ (mods s)[j]? = some m ∧ W.heap[b]? = some (.cells (moCells m).toArray 29 (0, 0))
theorem WayIn.below {W W' : World} {s which : Int} {o : Option Nat} (h : WayIn W s which o) (hb : Below W.heap.size W W') : WayIn W' s which o := by
  rcases h with h | ⟨b, j, m, h1, h2, h3, h4⟩
  · exact .inl h
  · exact .inr ⟨b, j, m, h1, h2, h3, blk_below h4 hb⟩
def BestPost (w : World) (l : List Int) (s : Int) (e : Ending) (w' : World) : Prop :=
  (noBest l s → e = .returned (.tuple #[.agg #[.int .i64 0, .pointer none], .int .i64 0, .int .i64 0, .int .i64 1])) ∧
  (¬ noBest l s → ∃ o, e = .returned (.tuple #[.agg #[.int .i64 s, ptr o], .int .i64 (bestS l s).1, .int .i64 (bestS l s).2, .int .i64 0]) ∧ WayIn w' s (bestS l s).1 o) ∧ Below w.heap.size w w'
set_option maxRecDepth 100000 in
set_option maxHeartbeats 8000000 in
theorem best_calls (HS : Aside0 SeasonMiss) (A : Option Addr) (c : Nat) (l : List Int) (s : Int) (w : World) (hr : Kd.C (Kd.int .i64) w A l.length l) (hc : l.length ≤ c) (hin : AllIn l) (hs : FS.In s) (hll : l.length ≤ 1000000000) :
    Calls Try.prog 75 #[.slice A l.length c, .int .i64 s] w (BestPost w l s) := by
  obtain ⟨D, hD⟩ : ∃ D, l.length / 3 = D := ⟨_, rfl⟩
  have hD3 : (l.length : Int) / 3 = (D : Int) := by omega
  have t3 : Int.tdiv (l.length : Int) 3 = (D : Int) := by rw [Int.tdiv_eq_ediv_of_nonneg (by omega)]; exact hD3
  have t4 : wrap64 (D : Int) = (D : Int) := wrap64_id (by omega) (by omega)
  have HR := Aside0.mk hr
  clear hr
  by_cases h1 : s < 1 ∨ s > 10000
  · have c0 : decide (1 ≤ s ∧ s ≤ 10000) = false := decide_eq_false (by omega)
    have KC := Aside0.mk (fun W => c0 ▸ counted_calls s W)
    have hn : noBest l s := by unfold noBest; omega
    have HN := Aside0.mk hn
    clear hn c0 h1
    go_enter Try.func75, Try.ntmps75
    go_wp2_with (first | (go_at_call 77; (with_reducible refine (KC.out _).mono ?_); rintro e w' ⟨rfl, ⟨nd, rfl⟩⟩))
    refine bodyPost_ret (v := .tuple #[.agg #[.int .i64 0, .pointer none], .int .i64 0, .int .i64 0, .int .i64 1]) (by simp [results, Try.results75, go_sem]) rfl ?_
    exact ⟨fun _ => rfl, fun h => absurd HN.out h, ((pw_below_drewN (below_alloc (Below.refl _ _) _) _).setCell (Nat.le_refl _) _).setCell (Nat.le_refl _) _⟩
  have c0 : decide (1 ≤ s ∧ s ≤ 10000) = true := decide_eq_true (by omega)
  have KC := Aside0.mk (fun W => c0 ▸ counted_calls s W)
  obtain ⟨N, rfl⟩ := Int.eq_ofNat_of_zero_le (show 0 ≤ s by omega)
  clear c0
  by_cases h2 : (D : Int) < (N : Int)
  · have g2 : decide ((D : Int) < (N : Int)) = true := decide_eq_true h2
    have g3 : D < N := by omega
    have hn : noBest l (N : Int) := by unfold noBest; omega
    have HN := Aside0.mk hn
    clear hn h1 hD3 h2 hD
    go_enter Try.func75, Try.ntmps75
    go_wp2_with (first | (go_at_call 77; (with_reducible refine (KC.out _).mono ?_); rintro e w' ⟨rfl, ⟨nd, rfl⟩⟩))
    refine bodyPost_ret (v := .tuple #[.agg #[.int .i64 0, .pointer none], .int .i64 0, .int .i64 0, .int .i64 1]) (by simp [results, Try.results75, go_sem]) rfl ?_
    exact ⟨fun _ => rfl, fun h => absurd HN.out h, ((pw_below_drewN (below_alloc (Below.refl _ _) _) _).setCell (Nat.le_refl _) _).setCell (Nat.le_refl _) _⟩
  have g2 : decide ((D : Int) < (N : Int)) = false := decide_eq_false h2
  have g3 : ¬ D < N := by omega
  have hn : ¬ noBest l (N : Int) := by unfold noBest; omega
  have hms : modelsS (N : Int) = mods (N : Int) := if_neg h1
  have KW : Aside0 (∀ W, Calls Try.prog 114 #[.int .i64 (N : Int)] W fun e w' => ∃ (B : Option Addr) (d : Nat) (bs : List Nat), e = .returned (.slice B 9 d) ∧ 9 ≤ d ∧ bs.length = 8 ∧ Kd.C kWay w' B 9 (((N : Int), none) :: bs.map fun b => ((N : Int), some b)) ∧ (∀ (i b : Nat) (x : Mo), bs[i]? = some b → (mods (N : Int))[i]? = some x → w'.heap[b]? = some (.cells (moCells x).toArray 29 (0, 0))) ∧ Below W.heap.size W w') := ⟨fun W => by
    refine (hms ▸ ways_calls (N : Int) W).mono ?_
    rintro e w' ⟨v, bs, rfl, hbl, hwa, hb⟩
    obtain ⟨B, d, rfl, hd, hC⟩ := Kd.R_reads hwa.row
    have hn9 : (((N : Int), (none : Option Nat)) :: bs.map fun b => ((N : Int), some b)).length = 9 := by simp [hbl, mods]
    rw [hn9] at hC hd
    exact ⟨B, d, bs, by rw [hn9], hd, by simpa [mods] using hbl, hC, fun i b x h1 h2 => (hwa.cells i b x h1 h2).2, hb⟩⟩
  have HN := Aside0.mk (And.intro hn (show 1 ≤ N ∧ N ≤ 10000 by omega))
  have KN : Aside0 (∀ W, Kd.C (Kd.int .i64) W A l.length l → Calls Try.prog 115 #[.agg #[.int .i64 (N : Int), .pointer none], .slice A l.length c] W fun e w' => e = .returned (.tuple #[.int .i64 (nmissS l N N).1, .int .i64 0]) ∧ Below W.heap.size W w') := ⟨fun W h => by
    have := wayMiss_none HS A c l (N : Int) W h hc hin hs hll
    rwa [nmiss_ok hn] at this⟩
  have KS : Aside0 (∀ W m b, m ∈ mods (N : Int) → W.heap[b]? = some (.cells (moCells m).toArray 29 (0, 0)) → Kd.C (Kd.int .i64) W A l.length l → Calls Try.prog 115 #[.agg #[.int .i64 (N : Int), .pointer (some ⟨b, 0, none⟩)], .slice A l.length c] W fun e w' => e = .returned (.tuple #[.int .i64 (missS l m N).1, .int .i64 0]) ∧ Below W.heap.size W w') := ⟨fun W m b hm hb h => by
    have := wayMiss_some A c l (N : Int) b m W hb h hc hin hs (by rw [(mods_ok (s := (N : Int)) (by omega) (by omega) hm).1]; exact hs) hll
    rwa [(miss_ok hn hm).1] at this⟩
  clear hn hms h1 h2 hD3 hD
  go_enter Try.func75, Try.ntmps75
  go_wp2_with (first | (go_at_call 77; (with_reducible refine (KC.out _).mono ?_); rintro e w' ⟨rfl, ⟨nd, rfl⟩⟩) | (go_at_call 114; (with_reducible refine (KW.out _).mono ?_); rintro e w2 ⟨B, d, bs, rfl, hd, hbl, hC, hcl, hb⟩; have HW := Aside0.mk (And.intro hC (And.intro hcl (And.intro hbl hb))); clear hC hcl hbl hb))
  have hb2 : Below w.heap.size w w2 := (pw_below_drewN (below_alloc (Below.refl _ _) _) nd).trans (HW.out.2.2.2.mono (by simp))
  have hsz : w.heap.size < w2.heap.size := by have := HW.out.2.2.2.size; simp at this; omega
  have hblk : w2.heap[w.heap.size]? = some (.cells #[.int .i64 0, .pointer none] 105 (0, 0)) := blk_below (blk_drewN (blk_new w _) nd) HW.out.2.2.2
  have HB2 := Aside0.mk (And.intro hb2 (And.intro hblk hsz))
  clear hb2 hblk hsz
  go_loopg [9, 10, 30] 9 (fun kq v9 v10 v30 W' => ∃ (i : Nat) (q1 q2 : Int), v9 = .int .i64 q1 ∧ v10 = .int .i64 q2 ∧ v30 = .int .i64 (i : Int) ∧ Aside0 (bestAt l (N : Int) i = (q1, q2)) ∧ Aside0 (kq + i = 9) ∧ Aside0 (Below w2.heap.size w2 W'))
  case atStart => exact ⟨0, 0, 0, rfl, rfl, rfl, ⟨rfl⟩, ⟨rfl⟩, ⟨Below.refl _ _⟩⟩
  case round =>
    obtain ⟨i, q1, q2, rfl, rfl, rfl, HQ, HK, HB⟩ := hrel
    obtain ⟨U, rfl⟩ : ∃ U : World, U = wr := ⟨_, rfl⟩
    have hbw : Below w.heap.size w U := HB2.out.1.trans (HB.out.mono HB2.out.1.size)
    by_cases ci : i < 9
    · have c1 : decide ((i : Int) < 9) = true := decide_eq_true (by omega)
      obtain ⟨ad, e, r1, r2⟩ := at_Way (Kd.C_below HW.out.1 HB.out) i ci
      cases e
      have HBW := Aside0.mk hbw
      clear hbw
      cases gk with
      | zero => exact absurd HK.out (by omega)
      | succ k1 =>
        rcases Nat.eq_zero_or_pos i with hi | hi
        · have c2 : ((i : Int) == 0) = true := by simp [hi]
          have c3 : (i = 0) = True := eq_true hi
          have ew : (((N : Int), (none : Option Nat)) :: bs.map fun b => ((N : Int), some b)).getD i zw = ((N : Int), none) := by rw [hi]; rfl
          rw [ew] at r1 r2
          have r2' : U.cell? ⟨(ad.add (i * 2)).block, (ad.add (i * 2)).off + 1, none⟩ = some (.pointer none) := r2
          have HI := Aside0.mk hi
          clear r2 ew hi
          go_wp2_with (go_at_call 115; (with_reducible refine (KN.out _ (Kd.C_below HR.out (below_alloc HBW.out _))).mono ?_); rintro e w3 ⟨rfl, hb⟩; have HB3 := Aside0.mk hb; clear hb)
          go_roundg k1
          case measure => omega
          case rel =>
            refine ⟨i + 1, (i : Int), (nmissS l N N).1, rfl, rfl, by go_num, ⟨?_⟩, ⟨by have := HK.out; omega⟩, ⟨(HB.out.alloc HB.out.size _).trans (HB3.out.mono (by have := HB.out.size; simp; omega))⟩⟩
            rw [HI.out]
            rfl
        · obtain ⟨j, rfl⟩ : ∃ j, i = j + 1 := ⟨i - 1, by omega⟩
          have c2 : (((j + 1 : Nat) : Int) == 0) = false := by simp; omega
          have c3 : (j + 1 = 0) = False := eq_false (by omega)
          have c4 : ((j : Int) + 1 = 0) = False := eq_false (by omega)
          have hbl := HW.out.2.2.1
          obtain ⟨b, hbj⟩ : ∃ b, bs[j]? = some b := ⟨_, List.getElem?_eq_getElem (show j < bs.length by omega)⟩
          obtain ⟨m, hmj⟩ : ∃ m, (mods (N : Int))[j]? = some m := ⟨_, List.getElem?_eq_getElem (show j < (mods (N : Int)).length by simp [mods]; omega)⟩
          have ew : (((N : Int), (none : Option Nat)) :: bs.map fun b => ((N : Int), some b)).getD (j + 1) zw = ((N : Int), some b) := by
            rw [List.getD_cons_succ, List.getD_eq_getElem?_getD, List.getElem?_map, hbj]; rfl
          rw [ew] at r1 r2
          have r2' : U.cell? ⟨(ad.add ((j + 1) * 2)).block, (ad.add ((j + 1) * 2)).off + 1, none⟩ = some (.pointer (some ⟨b, 0, none⟩)) := r2
          have hbk := blk_alloc (blk_below (HW.out.2.1 j b m hbj hmj) HB.out) (.cells #[.int .i64 (N : Int), .pointer (some ⟨b, 0, none⟩)] 105)
          have hnx := best_next (l := l) hmj
          rw [show bestAt l (N : Int) (j + 1) = (q1, q2) from HQ.out] at hnx
          have KS1 : Aside0 (∀ W, W.heap[b]? = some (.cells (moCells m).toArray 29 (0, 0)) → Kd.C (Kd.int .i64) W A l.length l → Calls Try.prog 115 #[.agg #[.int .i64 (N : Int), .pointer (some ⟨b, 0, none⟩)], .slice A l.length c] W fun e w' => e = .returned (.tuple #[.int .i64 (missS l m N).1, .int .i64 0]) ∧ Below W.heap.size W w') := ⟨fun W => KS.out W m b (List.mem_of_getElem? hmj)⟩
          unfold bestF at hnx
          obtain ⟨x, hx⟩ : ∃ x, (missS l m N).1 = x := ⟨_, rfl⟩
          dsimp only at hnx
          rw [hx] at KS1 hnx
          have HX := Aside0.mk hbk
          have HV := Aside0.mk hnx
          clear r2 ew hbk hbj hmj hnx hx hbl hi
          by_cases cx : x < q2
          · have c5 : decide (x < q2) = true := decide_eq_true cx
            go_wp2_with (go_at_call 115; (with_reducible refine (KS1.out _ HX.out (Kd.C_below HR.out (below_alloc HBW.out _))).mono ?_); rintro e w3 ⟨rfl, hb⟩; have HB3 := Aside0.mk hb; clear hb)
            go_roundg k1
            case measure => omega
            case rel =>
              refine ⟨j + 2, ((j + 1 : Nat) : Int), x, rfl, rfl, by go_num, ⟨?_⟩, ⟨by have := HK.out; omega⟩, ⟨(HB.out.alloc HB.out.size _).trans (HB3.out.mono (by have := HB.out.size; simp; omega))⟩⟩
              rw [HV.out, if_pos cx]
              rfl
          · have c5 : decide (x < q2) = false := decide_eq_false cx
            go_wp2_with (go_at_call 115; (with_reducible refine (KS1.out _ HX.out (Kd.C_below HR.out (below_alloc HBW.out _))).mono ?_); rintro e w3 ⟨rfl, hb⟩; have HB3 := Aside0.mk hb; clear hb)
            go_roundg k1
            case measure => omega
            case rel =>
              refine ⟨j + 2, q1, q2, rfl, rfl, by go_num, ⟨?_⟩, ⟨by have := HK.out; omega⟩, ⟨(HB.out.alloc HB.out.size _).trans (HB3.out.mono (by have := HB.out.size; simp; omega))⟩⟩
              rw [HV.out, if_neg (Int.not_lt.mpr cx)]
    · have c1 : decide ((i : Int) < 9) = false := decide_eq_false (by omega)
      obtain rfl : i = 9 := by have := HK.out; omega
      obtain ⟨n, o, hn1, hn2, hn3, hn4⟩ : ∃ (n : Nat) (o : Option Nat), q1 = (n : Int) ∧ n < 9 ∧ (((N : Int), (none : Option Nat)) :: bs.map fun b => ((N : Int), some b)).getD n zw = ((N : Int), o) ∧ WayIn U (N : Int) (n : Int) o := by
        have hw := best_way l (N : Int) 9 (Nat.le_refl _)
        rw [show bestAt l (N : Int) 9 = (q1, q2) from HQ.out] at hw
        rcases hw with e0 | ⟨j, m, e1, hm⟩
        · exact ⟨0, none, e0, by decide, rfl, .inl ⟨rfl, rfl⟩⟩
        · have hj : j < 8 := by have := (List.getElem?_eq_some_iff.mp hm).1; simpa [mods] using this
          obtain ⟨b, hbj⟩ : ∃ b, bs[j]? = some b := ⟨_, List.getElem?_eq_getElem (show j < bs.length by have := HW.out.2.2.1; omega)⟩
          refine ⟨j + 1, some b, by rw [show q1 = _ from e1]; rfl, by omega, ?_, .inr ⟨b, j, m, rfl, rfl, hm, blk_below (HW.out.2.1 j b m hbj hm) HB.out⟩⟩
          rw [List.getD_cons_succ, List.getD_eq_getElem?_getD, List.getElem?_map, hbj]; rfl
      subst hn1
      obtain ⟨ad, e, r1, r2⟩ := at_Way (Kd.C_below HW.out.1 HB.out) n hn2
      cases e
      rw [hn3] at r1 r2
      have hbk := blk_below HB2.out.2.1 HB.out
      have d0 := blk_cell hbk 0
      have d1 := blk_cell hbk 1
      simp only [List.getElem?_toArray, List.getElem?_cons_zero, List.getElem?_cons_succ] at d0 d1
      have z0 := blk_frozen hbk 0
      have z1 := blk_frozen hbk 1
      have HBW := Aside0.mk hbw
      obtain ⟨po, hpo⟩ : ∃ po, ptr o = .pointer po := ⟨_, rfl⟩
      rw [hpo] at r2
      have HN4 := Aside0.mk (And.intro hn4 (And.intro hbk hpo))
      clear hbw hn4 hn3 hbk hpo
      go_wp2
      obtain ⟨hwi, hbk, hpo⟩ := HN4.out
      have hbk1 : ((U.setCell ⟨w.heap.size, 0, none⟩ (.int .i64 (N : Int))).setCell ⟨w.heap.size, 1, none⟩ (.pointer po)).heap[w.heap.size]? = some (.cells #[.int .i64 (N : Int), .pointer po] 105 (0, 0)) := blk_put (blk_put hbk 0 _ rfl) 1 _ rfl
      have e0 := blk_cell hbk1 0
      have e1 := blk_cell hbk1 1
      simp only [List.getElem?_toArray, List.getElem?_cons_zero, List.getElem?_cons_succ] at e0 e1
      refine bodyPost_ret (v := .tuple #[.agg #[.int .i64 (N : Int), .pointer po], .int .i64 (n : Int), .int .i64 q2, .int .i64 0]) (by simp [results, Try.results75, go_sem, e0, e1]) rfl ?_
      have hq : bestS l (N : Int) = ((n : Int), q2) := HQ.out
      refine ⟨fun h => absurd h HN.out.1, fun _ => ⟨o, by rw [hq, hpo], ?_⟩, (HBW.out.setCell (Nat.le_refl _) _).setCell (Nat.le_refl _) _⟩
      rw [hq]
      rcases hwi with h | ⟨b, j, m, h1, h2, h3, h4⟩
      · exact .inl h
      · exact .inr ⟨b, j, m, h1, h2, h3, by
          have hne : b ≠ w.heap.size := fun e => by
            rw [e] at h4
            rw [hbk] at h4
            simp at h4
          exact blk_far (blk_far h4 hne _) hne _⟩
end Go.Proofs.Ytemnfnbjapobcaa.Ho
end
section
namespace Go.Proofs.Ytemnfnbjapobcaa.HS
open Go.Proofs.Ytemnfnbjapobcaa.Ho
def naiveS (l : List Int) (s ahead : Int) : Int × Int :=
  if s < 1 ∨ s > 10000 ∨ ahead < 1 ∨ ahead > 10000 ∨ (l.length : Int) < s then (0, 1)
  else (l.getD (l.length - s.toNat + (ahead.toNat - 1) % s.toNat) 0, 0)
def castBy (l : List Int) (s : Int) (o : Option Mo) (ahead : Int) : Int × Int := match o with
  | none => naiveS l s ahead
  | some m => castOf (startS l m) ahead
def wayAt (s which : Int) : Option Mo := if which = 0 then none else (mods s)[(which - 1).toNat]?
def wayOf (l : List Int) (s : Int) : Option Mo := if (l.length : Int) / 3 < s then none else wayAt s (bestS l s).1
end Go.Proofs.Ytemnfnbjapobcaa.HS
namespace Go.Proofs.Ytemnfnbjapobcaa.Ho
open Go.RowKit Go.Proofs.YtemnfnbjapobcaaW.PrintWords Go.Proofs.YtemnfnbjapobcaaW.PrintLast Go.Proofs.YtemnfnbjapobcaaW.PrintMore
open Go.Proofs.Ytemnfnbjapobcaa.FS Go.Proofs.Ytemnfnbjapobcaa.HS Go.Proofs.Ytemnfnbjapobcaa.FM
set_option linter.unusedVariables false
set_option linter.unusedSimpArgs false
abbrev SeasonCast : Prop := ∀ (W : World) (A : Option Addr) (c : Nat) (l : List Int) (s ahead : Int), Kd.C (Kd.int .i64) W A l.length l → l.length ≤ c → AllIn l → FS.In s → FS.In ahead → l.length ≤ 1000000000 →
  Calls Try.prog 138 #[.slice A l.length c, .int .i64 s, .int .i64 ahead] W fun e w' => e = .returned (.tuple #[.int .i64 (naiveS l s ahead).1, .int .i64 (naiveS l s ahead).2]) ∧ Below W.heap.size W w'
def naiveFn (b1 b2 : Nat) : Value := .func (.func 137) #[] #[.pointer (some ⟨b1, 0, none⟩), .pointer (some ⟨b2, 0, none⟩)]
def modelFn (b : Nat) : Value := .func (.func 28) #[.pointer (some ⟨b, 0, none⟩)] #[]
def CastAt (W : World) (A : Option Addr) (c : Nat) (l : List Int) (s : Int) (o : Option Mo) (v : Value) : Prop := match o with
  | none => ∃ b1 b2, v = naiveFn b1 b2 ∧ W.heap[b1]? = some (.cells #[.slice A l.length c] 23 (0, 0)) ∧ W.heap[b2]? = some (.cells #[.int .i64 s, .pointer none] 105 (0, 0))
  | some m => ∃ b lo hi, v = modelFn b ∧ StAt W lo hi b m (startS l m)
theorem CastAt.below {W W' : World} {A : Option Addr} {c : Nat} {l : List Int} {s : Int} {o : Option Mo} {v : Value} (h : CastAt W A c l s o v) (hb : Below W.heap.size W W') : CastAt W' A c l s o v := by
  cases o with
  | none =>
    obtain ⟨b1, b2, e, h1, h2⟩ := h
    exact ⟨b1, b2, e, blk_below h1 hb, blk_below h2 hb⟩
  | some m =>
    obtain ⟨b, lo, hi, e, h1⟩ := h
    exact ⟨b, lo, hi, e, h1.kept (S := fun _ => False) (Kept.of_below hb _) (fun _ _ _ h => h)⟩
set_option maxRecDepth 100000 in
set_option maxHeartbeats 8000000 in
theorem cast1_calls (HS : Aside0 SeasonCast) (A : Option Addr) (c : Nat) (l : List Int) (s ahead : Int) (b1 b2 : Nat) (w : World) (h1 : w.heap[b1]? = some (.cells #[.slice A l.length c] 23 (0, 0))) (h2 : w.heap[b2]? = some (.cells #[.int .i64 s, .pointer none] 105 (0, 0))) (hr : Kd.C (Kd.int .i64) w A l.length l) (hc : l.length ≤ c) (hin : AllIn l) (hs : FS.In s) (ha : FS.In ahead) (hll : l.length ≤ 1000000000) :
    Calls Try.prog 137 #[.int .i64 ahead, .pointer (some ⟨b1, 0, none⟩), .pointer (some ⟨b2, 0, none⟩)] w fun e w' => e = .returned (.tuple #[.int .i64 (naiveS l s ahead).1, .int .i64 (naiveS l s ahead).2]) ∧ Below w.heap.size w w' := by
  obtain ⟨r, er⟩ : ∃ r, naiveS l s ahead = r := ⟨_, rfl⟩
  have KM : Aside0 (∀ W, Kd.C (Kd.int .i64) W A l.length l → Calls Try.prog 138 #[.slice A l.length c, .int .i64 s, .int .i64 ahead] W fun e w' => e = .returned (.tuple #[.int .i64 r.1, .int .i64 r.2]) ∧ Below W.heap.size W w') := ⟨fun W h => er ▸ HS.out W A c l s ahead h hc hin hs ha hll⟩
  have HR := Aside0.mk hr
  rw [er]
  have d0 := blk_cell h1 0
  have d1 := blk_cell h2 0
  simp only [List.getElem?_toArray, List.getElem?_cons_zero, List.getElem?_cons_succ] at d0 d1
  clear er hr h1 h2
  go_enter Try.func137, Try.ntmps137
  go_wp2_with (go_at_call 138; (with_reducible refine (KM.out _ HR.out).mono ?_); rintro e w2 ⟨rfl, hb⟩)
  go_ret2
  exact ⟨rfl, hb⟩
set_option maxRecDepth 100000 in
set_option maxHeartbeats 8000000 in
theorem wayCast_none (A : Option Addr) (c : Nat) (l : List Int) (s : Int) (w : World) :
    Calls Try.prog 116 #[.agg #[.int .i64 s, .pointer none], .slice A l.length c] w fun e w' => ∃ v, e = .returned (.tuple #[v, .int .i64 0]) ∧ CastAt w' A c l s none v ∧ Below w.heap.size w w' := by
  go_enter Try.func116, Try.ntmps116
  go_wp2
  go_ret2
  refine ⟨_, rfl, ⟨w.heap.size + 1, w.heap.size, rfl, ?_, blk_alloc (blk_new _ _) _⟩, below_alloc (below_alloc (Below.refl _ _) _) _⟩
  have := blk_new (w.alloc (.cells #[.int .i64 s, .pointer none] 105)) (.cells #[.slice A l.length c] 23)
  rwa [size_alloc_] at this
set_option maxRecDepth 100000 in
set_option maxHeartbeats 8000000 in
theorem wayCast_some (A : Option Addr) (c : Nat) (l : List Int) (s : Int) (b : Nat) (m : Mo) (w : World) (hb : w.heap[b]? = some (.cells (moCells m).toArray 29 (0, 0))) (hr : Kd.C (Kd.int .i64) w A l.length l) (hc : l.length ≤ c) (hin : AllIn l) (hm : FS.In m.n) (hll : l.length ≤ 1000000000) (h0 : startE l m = 0) :
    Calls Try.prog 116 #[.agg #[.int .i64 s, .pointer (some ⟨b, 0, none⟩)], .slice A l.length c] w fun e w' => ∃ v, e = .returned (.tuple #[v, .int .i64 0]) ∧ CastAt w' A c l s (some m) v ∧ Below w.heap.size w w' := by
  have HR := Aside0.mk hr
  have KM : Aside0 (∀ W, Kd.C (Kd.int .i64) W A l.length l → Calls Try.prog 24 #[.slice A l.length c, moV m] W fun e w' => ∃ b', e = .returned (.tuple #[.pointer (some ⟨b', 0, none⟩), .int .i64 0]) ∧ StAt w' W.heap.size w'.heap.size b' m (startS l m) ∧ Below W.heap.size W w') := ⟨fun W h => by
    refine (start_calls A c l m W h hc hin hm hll).mono (fun e w' h => ?_)
    unfold StartPost at h
    rwa [if_neg (by rw [h0]; decide)] at h⟩
  show Calls Try.prog 116 #[.agg #[.int .i64 s, .pointer (some ⟨b, 0, none⟩)], .slice A l.length c] w fun e w' => ∃ v, e = .returned (.tuple #[v, .int .i64 0]) ∧ (∃ b lo hi, v = modelFn b ∧ StAt w' lo hi b m (startS l m)) ∧ Below w.heap.size w w'
  obtain ⟨s0, hs0⟩ : ∃ s0, startS l m = s0 := ⟨_, rfl⟩
  rw [hs0] at KM ⊢
  have hb' := blk_alloc (blk_alloc hb (.cells #[.int .i64 s, .pointer (some ⟨b, 0, none⟩)] 105)) (.cells #[.slice A l.length c] 23)
  obtain ⟨n, ma, mb, mc⟩ := m
  dsimp only [moV, moCells] at *
  have d0 := blk_cell hb' 0
  have d1 := blk_cell hb' 1
  have d2 := blk_cell hb' 2
  have d3 := blk_cell hb' 3
  simp only [List.getElem?_toArray, List.getElem?_cons_zero, List.getElem?_cons_succ] at d0 d1 d2 d3
  clear hs0 hr hb hb' h0
  go_enter Try.func116, Try.ntmps116
  go_wp2
  refine wp_region_mid 5 (by kernel_rfl) (by kernel_rfl) rfl ?_
  simp only [List.take_succ_cons, List.take_zero, List.drop_succ_cons, List.drop_zero]
  repeat (go_big_quiet_step (fail))
  refine wpQuiet_nil ?_
  rintro W1 ⟨nq, hnq⟩ K1 hK
  have HB0 : Aside0 (Below w.heap.size w W1) := ⟨hnq ▸ pw_below_drewN (below_alloc (below_alloc (Below.refl _ _) _) _) _⟩
  clear hnq nq
  refine goes_ Try.func24 (by kernel_rfl) rfl #[.slice A l.length c, .agg #[.int .i64 n, .int .i64 ma, .int .i64 mb, .int .i64 mc]] (by rfl) rfl rfl (by simp [Act.eval]) ?_
  refine (KM.out _ (Kd.C_below HR.out HB0.out)).mono ?_
  rintro e w2 ⟨b', rfl, hst, hb2⟩
  refine ⟨_, rfl, hK _ _ ?_⟩
  have HB2 := Aside0.mk (And.intro (HB0.out.trans (hb2.mono HB0.out.size)) hst)
  clear hK K1 d0 d1 d2 d3 hb2 hst
  simp only [Act.put, List.setIfInBounds_toArray, List.set_cons_zero, List.set_cons_succ]
  repeat (go_big_quiet_step (fail))
  refine wpQuiet_nil ?_
  rintro w3 ⟨n3, rfl⟩
  go_wp2
  go_ret2
  exact ⟨_, rfl, ⟨b', W1.heap.size, w2.heap.size, rfl, HB2.out.2.kept (S := fun _ => False) ((Kept.refl _ _).drewN n3) (fun _ _ _ h => h)⟩, pw_below_drewN HB2.out.1 _⟩
theorem mods_get {s : Int} {j : Nat} {m : Mo} (h : (mods s)[j]? = some m) : m ∈ mods s := List.mem_of_getElem? h
theorem start_ok {l : List Int} {s : Int} {m : Mo} (hn : ¬ noBest l s) (hm : m ∈ mods s) : startE l m = 0 := by
  unfold noBest at hn
  obtain ⟨e1, e2⟩ := mods_ok (s := s) (by omega) (by omega) hm
  unfold startE
  rw [if_neg (by rw [e2]; decide), if_neg (by rw [e1]; omega)]
theorem wayCast_calls (A : Option Addr) (c : Nat) (l : List Int) (s which : Int) (o : Option Nat) (w : World) (hw : WayIn w s which o) (hr : Kd.C (Kd.int .i64) w A l.length l) (hc : l.length ≤ c) (hin : AllIn l) (hs : FS.In s) (hll : l.length ≤ 1000000000) (hn : ¬ noBest l s) :
    Calls Try.prog 116 #[.agg #[.int .i64 s, ptr o], .slice A l.length c] w fun e w' => ∃ v, e = .returned (.tuple #[v, .int .i64 0]) ∧ CastAt w' A c l s (wayAt s which) v ∧ Below w.heap.size w w' := by
  rcases hw with ⟨rfl, rfl⟩ | ⟨b, j, m, rfl, rfl, hm, hh⟩
  · exact wayCast_none A c l s w
  · have e : wayAt s ((j : Nat) + 1) = some m := by
      unfold wayAt
      rw [if_neg (by omega), show (((j : Nat) : Int) + 1 - 1).toNat = j by omega]
      exact hm
    have hmm := mods_get hm
    have hn' := hn
    unfold noBest at hn'
    have hmo := (mods_ok (s := s) (by omega) (by omega) hmm).1
    rw [e]
    exact wayCast_some A c l s b m w hh hr hc hin (by rw [hmo]; exact hs) hll (start_ok hn hmm)
def CastsPost (w : World) (A : Option Addr) (c : Nat) (l : List Int) (s : Int) (e : Ending) (w' : World) : Prop :=
  if (l.length : Int) < s then e = .returned (.tuple #[Value.nilFunc, .int .i64 1]) ∧ Below w.heap.size w w'
  else ∃ v, e = .returned (.tuple #[v, .int .i64 0]) ∧ CastAt w' A c l s (wayOf l s) v ∧ Below w.heap.size w w'
set_option maxRecDepth 100000 in
set_option maxHeartbeats 8000000 in
theorem casts_calls (HS : Aside0 SeasonMiss) (A : Option Addr) (c : Nat) (l : List Int) (s : Int) (w : World) (hr : Kd.C (Kd.int .i64) w A l.length l) (hc : l.length ≤ c) (hin : AllIn l) (h1 : 1 ≤ s) (h2 : s ≤ 10000) (hll : l.length ≤ 1000000000) :
    Calls Try.prog 78 #[.slice A l.length c, .int .i64 s] w (CastsPost w A c l s) := by
  have hs : FS.In s := ⟨by omega, by omega⟩
  unfold CastsPost
  have HR := Aside0.mk hr
  clear hr
  by_cases g : (l.length : Int) < s
  · simp only [if_pos g]
    have c1 : decide ((l.length : Int) < s) = true := decide_eq_true g
    clear g
    go_enter Try.func78, Try.ntmps78
    go_wp2
    go_ret2
    exact ⟨rfl, Below.refl _ _⟩
  simp only [if_neg g]
  have c1 : decide ((l.length : Int) < s) = false := decide_eq_false g
  obtain ⟨D, hD⟩ : ∃ D, l.length / 3 = D := ⟨_, rfl⟩
  have hD3 : (l.length : Int) / 3 = (D : Int) := by omega
  have t3 : Int.tdiv (l.length : Int) 3 = (D : Int) := by rw [Int.tdiv_eq_ediv_of_nonneg (by omega)]; exact hD3
  have t4 : wrap64 (D : Int) = (D : Int) := wrap64_id (by omega) (by omega)
  have ew : wayOf l s = if (D : Int) < s then none else wayAt s (bestS l s).1 := by unfold wayOf; rw [hD3]
  by_cases g2 : (D : Int) < s
  · have c2 : decide ((D : Int) < s) = true := decide_eq_true g2
    rw [if_pos g2] at ew
    rw [ew]
    have KC := Aside0.mk (fun W => wayCast_none A c l s W)
    clear ew g g2 hD3 hD
    go_enter Try.func78, Try.ntmps78
    go_wp2_with (go_at_call 116; (with_reducible refine (KC.out _).mono ?_); rintro e w2 ⟨v, rfl, hv, hb⟩; have HV := Aside0.mk (And.intro hv hb); clear hv hb)
    go_ret2
    exact ⟨_, rfl, HV.out.1, HV.out.2⟩
  · have c2 : decide ((D : Int) < s) = false := decide_eq_false g2
    rw [if_neg g2] at ew
    rw [ew]
    have hn : ¬ noBest l s := by unfold noBest; omega
    obtain ⟨r, er⟩ : ∃ r, bestS l s = r := ⟨_, rfl⟩
    have KB : Aside0 (∀ W, Kd.C (Kd.int .i64) W A l.length l → Calls Try.prog 75 #[.slice A l.length c, .int .i64 s] W fun e w' => ∃ o po, ptr o = .pointer po ∧ e = .returned (.tuple #[.agg #[.int .i64 s, .pointer po], .int .i64 r.1, .int .i64 r.2, .int .i64 0]) ∧ WayIn w' s r.1 o ∧ Below W.heap.size W w') := ⟨fun W h => (best_calls HS A c l s W h hc hin hs hll).mono (fun e w' h => by
      obtain ⟨o, q1, q2⟩ := h.2.1 hn
      rw [er] at q1 q2
      exact ⟨o, _, rfl, q1, q2, h.2.2⟩)⟩
    have KC : Aside0 (∀ W o po, ptr o = .pointer po → WayIn W s r.1 o → Kd.C (Kd.int .i64) W A l.length l → Calls Try.prog 116 #[.agg #[.int .i64 s, .pointer po], .slice A l.length c] W fun e w' => ∃ v, e = .returned (.tuple #[v, .int .i64 0]) ∧ CastAt w' A c l s (wayAt s r.1) v ∧ Below W.heap.size W w') := ⟨fun W o po hp hw h => hp ▸ wayCast_calls A c l s r.1 o W hw h hc hin hs hll hn⟩
    rw [er]
    clear ew er g g2 hD3 hD hn
    go_enter Try.func78, Try.ntmps78
    go_wp2_with (first | (go_at_call 75; (with_reducible refine (KB.out _ HR.out).mono ?_); rintro e w2 ⟨o, po, hpo, rfl, hw, hb⟩; have HW := Aside0.mk (And.intro hw (And.intro hb hpo)); clear hw hb hpo) | (go_at_call 116; (with_reducible refine (KC.out _ o po HW.out.2.2 (HW.out.1.below (below_alloc (Below.refl _ _) _)) (Kd.C_below HR.out (HW.out.2.1.alloc HW.out.2.1.size _))).mono ?_); rintro e w3 ⟨v, rfl, hv, hb⟩; have HV := Aside0.mk (And.intro hv hb); clear hv hb))
    go_ret2
    exact ⟨_, rfl, HV.out.1, (HW.out.2.1.alloc HW.out.2.1.size _).trans (HV.out.2.mono (by have := HW.out.2.1.size; simp; omega))⟩
end Go.Proofs.Ytemnfnbjapobcaa.Ho
end
section
namespace Go.Proofs.Ytemnfnbjapobcaa.HS
open Go.Proofs.Ytemnfnbjapobcaa.Ho
def bestE (l : List Int) (s : Int) : Int × Int × Int := if s < 1 ∨ s > 10000 ∨ (l.length : Int) / 3 < s then (0, 0, 1) else ((bestS l s).1, (bestS l s).2, 0)
def noCast (l : List Int) (s ahead : Int) : Prop := s < 1 ∨ s > 10000 ∨ ahead < 1 ∨ ahead > 10000 ∨ (l.length : Int) < s
instance (l : List Int) (s ahead : Int) : Decidable (noCast l s ahead) := by unfold noCast; infer_instance
def chosenS (l : List Int) (s ahead : Int) : Int × Int := if noCast l s ahead then (0, 1) else ((castBy l s (wayOf l s) ahead).1, 0)
def peakAt (l : List Int) (s : Int) (o : Option Mo) : Nat → Int
  | 0 => -9223372036854775808
  | i + 1 => max (peakAt l s o i) (castBy l s o ((i : Int) + 1)).1
def peakS (l : List Int) (s ahead : Int) : Int × Int := if noCast l s ahead then (0, 1) else (peakAt l s (wayOf l s) ahead.toNat, 0)
end Go.Proofs.Ytemnfnbjapobcaa.HS
namespace Go.Proofs.Ytemnfnbjapobcaa.Ho
open Go.RowKit Go.Proofs.YtemnfnbjapobcaaW.PrintWords Go.Proofs.YtemnfnbjapobcaaW.PrintLast Go.Proofs.YtemnfnbjapobcaaW.PrintMore
open Go.Proofs.Ytemnfnbjapobcaa.FS Go.Proofs.Ytemnfnbjapobcaa.HS Go.Proofs.Ytemnfnbjapobcaa.FM
attribute [local go_sem] max2_int min2_int max_two min_two
set_option linter.unusedVariables false
set_option linter.unusedSimpArgs false
theorem way_mem {l : List Int} {s : Int} {m : Mo} (h : wayOf l s = some m) : ¬ (l.length : Int) / 3 < s ∧ m ∈ mods s := by
  unfold wayOf at h
  by_cases c : (l.length : Int) / 3 < s
  · rw [if_pos c] at h; cases h
  · rw [if_neg c] at h
    refine ⟨c, ?_⟩
    unfold wayAt at h
    split at h
    · cases h
    · exact List.mem_of_getElem? h
theorem castBy_ok {l : List Int} {s ahead : Int} (h : ¬ noCast l s ahead) : (castBy l s (wayOf l s) ahead).2 = 0 := by
  unfold noCast at h
  cases hw : wayOf l s with
  | none =>
    show (naiveS l s ahead).2 = 0
    unfold naiveS
    rw [if_neg (by omega)]
  | some m =>
    show (castOf (startS l m) ahead).2 = 0
    unfold castOf
    rw [if_neg (by omega)]
theorem noCast_le {l : List Int} {s ahead i : Int} (h : ¬ noCast l s ahead) (h1 : 1 ≤ i) (h2 : i ≤ ahead) : ¬ noCast l s i := by
  unfold noCast at *
  omega
theorem way_start {l : List Int} {s : Int} {m : Mo} (hs : 1 ≤ s) (hs2 : s ≤ 10000) (h : wayOf l s = some m) : startE l m = 0 := by
  obtain ⟨h1, h2⟩ := way_mem h
  exact start_ok (s := s) (by unfold noBest; omega) h2
set_option maxRecDepth 100000 in
set_option maxHeartbeats 8000000 in
theorem choBest_calls (HS : Aside0 SeasonMiss) (A : Option Addr) (c : Nat) (l : List Int) (s : Int) (w : World) (hr : Kd.C (Kd.int .i64) w A l.length l) (hc : l.length ≤ c) (hin : AllIn l) (hs : FS.In s) (hll : l.length ≤ 1000000000) :
    Calls Try.prog 38 #[.slice A l.length c, .int .i64 s] w fun e w' => e = .returned (.tuple #[.int .i64 (bestE l s).1, .int .i64 (bestE l s).2.1, .int .i64 (bestE l s).2.2]) ∧ Below w.heap.size w w' := by
  obtain ⟨r, er⟩ : ∃ r, bestE l s = r := ⟨_, rfl⟩
  have KB : Aside0 (∀ W, Kd.C (Kd.int .i64) W A l.length l → Calls Try.prog 75 #[.slice A l.length c, .int .i64 s] W fun e w' => ∃ a po, e = .returned (.tuple #[.agg #[.int .i64 a, .pointer po], .int .i64 r.1, .int .i64 r.2.1, .int .i64 r.2.2]) ∧ Below W.heap.size W w') := ⟨fun W h => (best_calls HS A c l s W h hc hin hs hll).mono (fun e w' h => by
    by_cases hn : noBest l s
    · have e2 : r = (0, 0, 1) := by rw [← er]; unfold bestE; unfold noBest at hn; rw [if_pos hn]
      rw [e2]
      exact ⟨_, _, h.1 hn, h.2.2⟩
    · have e2 : r = ((bestS l s).1, (bestS l s).2, 0) := by rw [← er]; unfold bestE; unfold noBest at hn; rw [if_neg hn]
      rw [e2]
      obtain ⟨o, q1, q2⟩ := h.2.1 hn
      exact ⟨_, _, q1, h.2.2⟩)⟩
  have HR := Aside0.mk hr
  rw [er]
  clear er hr
  go_enter Try.func38, Try.ntmps38
  go_wp2_with (go_at_call 75; (with_reducible refine (KB.out _ HR.out).mono ?_); rintro e w2 ⟨a, po, rfl, hb⟩; have HB := Aside0.mk hb; clear hb)
  refine bodyPost_ret (v := .tuple #[.int .i64 r.1, .int .i64 r.2.1, .int .i64 r.2.2]) (by simp [results, Try.results38, go_sem]) rfl ?_
  exact ⟨rfl, HB.out.alloc HB.out.size _⟩
theorem castFn (HC : Aside0 SeasonCast) (A : Option Addr) (c : Nat) (l : List Int) (s ahead : Int) (hc : l.length ≤ c) (hin : AllIn l) (hs : FS.In s) (ha : FS.In ahead) (hll : l.length ≤ 1000000000) (b1 b2 : Nat) (W : World) (h1 : W.heap[b1]? = some (.cells #[.slice A l.length c] 23 (0, 0)) ∧ W.heap[b2]? = some (.cells #[.int .i64 s, .pointer none] 105 (0, 0))) (hr : Kd.C (Kd.int .i64) W A l.length l) :
    Calls Try.prog 137 #[.int .i64 ahead, .pointer (some ⟨b1, 0, none⟩), .pointer (some ⟨b2, 0, none⟩)] W fun e w' => e = .returned (.tuple #[.int .i64 (castBy l s none ahead).1, .int .i64 (castBy l s none ahead).2]) ∧ Below W.heap.size W w' :=
  cast1_calls HC A c l s ahead b1 b2 W h1.1 h1.2 hr hc hin hs ha hll
theorem castFm (l : List Int) (s ahead : Int) (m : Mo) (hs : startE l m = 0) (ha : FS.In ahead) (hll : l.length ≤ 1000000000) (b lo hi : Nat) (W : World) (h1 : StAt W lo hi b m (startS l m)) :
    Calls Try.prog 28 #[.pointer (some ⟨b, 0, none⟩), .int .i64 ahead] W fun e w' => e = .returned (.tuple #[.int .i64 (castBy l s (some m) ahead).1, .int .i64 (castBy l s (some m) ahead).2]) ∧ Below W.heap.size W w' := by
  obtain ⟨n1, n2, n3, n4, s5, s6⟩ := start_len hs
  refine (castOf_calls lo hi b m (startS l m) ahead W h1 (begin_start_in l m) ha (by omega) (by omega) (by omega)).mono ?_
  rintro e w' ⟨rfl, ⟨nd, rfl⟩⟩
  exact ⟨rfl, pw_below_drewN (Below.refl _ _) _⟩
theorem counted_yes {n : Int} (h : 1 ≤ n ∧ n ≤ 10000) (W : World) : Calls Try.prog 77 #[.int .i64 n] W fun e w' => e = .returned (.bool true) ∧ Drawn0 W w' := by
  have := counted_calls n W
  rwa [decide_eq_true h] at this
theorem counted_no {n : Int} (h : ¬ (1 ≤ n ∧ n ≤ 10000)) (W : World) : Calls Try.prog 77 #[.int .i64 n] W fun e w' => e = .returned (.bool false) ∧ Drawn0 W w' := by
  have := counted_calls n W
  rwa [decide_eq_false h] at this
theorem casts_err (HS : Aside0 SeasonMiss) (A : Option Addr) (c : Nat) (l : List Int) (s : Int) (hc : l.length ≤ c) (hin : AllIn l) (h1 : 1 ≤ s) (h2 : s ≤ 10000) (hll : l.length ≤ 1000000000) (g : (l.length : Int) < s) (W : World) (hr : Kd.C (Kd.int .i64) W A l.length l) :
    Calls Try.prog 78 #[.slice A l.length c, .int .i64 s] W fun e w' => e = .returned (.tuple #[Value.nilFunc, .int .i64 1]) ∧ Below W.heap.size W w' := by
  refine (casts_calls HS A c l s W hr hc hin h1 h2 hll).mono (fun e w' h => ?_)
  unfold CastsPost at h
  rwa [if_pos g] at h
theorem casts_naive (HS : Aside0 SeasonMiss) (A : Option Addr) (c : Nat) (l : List Int) (s : Int) (hc : l.length ≤ c) (hin : AllIn l) (h1 : 1 ≤ s) (h2 : s ≤ 10000) (hll : l.length ≤ 1000000000) (g : ¬ (l.length : Int) < s) (ew : wayOf l s = none) (W : World) (hr : Kd.C (Kd.int .i64) W A l.length l) :
    Calls Try.prog 78 #[.slice A l.length c, .int .i64 s] W fun e w' => ∃ b1 b2, e = .returned (.tuple #[.func (.func 137) #[] #[.pointer (some ⟨b1, 0, none⟩), .pointer (some ⟨b2, 0, none⟩)], .int .i64 0]) ∧ (w'.heap[b1]? = some (.cells #[.slice A l.length c] 23 (0, 0)) ∧ w'.heap[b2]? = some (.cells #[.int .i64 s, .pointer none] 105 (0, 0))) ∧ Below W.heap.size W w' := by
  refine (casts_calls HS A c l s W hr hc hin h1 h2 hll).mono (fun e w' h => ?_)
  unfold CastsPost at h
  rw [if_neg g, ew] at h
  obtain ⟨v, rfl, ⟨b1, b2, rfl, p1, p2⟩, hb⟩ := h
  exact ⟨b1, b2, rfl, ⟨p1, p2⟩, hb⟩
theorem casts_model (HS : Aside0 SeasonMiss) (A : Option Addr) (c : Nat) (l : List Int) (s : Int) (m : Mo) (hc : l.length ≤ c) (hin : AllIn l) (h1 : 1 ≤ s) (h2 : s ≤ 10000) (hll : l.length ≤ 1000000000) (g : ¬ (l.length : Int) < s) (ew : wayOf l s = some m) (W : World) (hr : Kd.C (Kd.int .i64) W A l.length l) :
    Calls Try.prog 78 #[.slice A l.length c, .int .i64 s] W fun e w' => ∃ b lo hi, e = .returned (.tuple #[.func (.func 28) #[.pointer (some ⟨b, 0, none⟩)] #[], .int .i64 0]) ∧ StAt w' lo hi b m (startS l m) ∧ Below W.heap.size W w' := by
  refine (casts_calls HS A c l s W hr hc hin h1 h2 hll).mono (fun e w' h => ?_)
  unfold CastsPost at h
  rw [if_neg g, ew] at h
  obtain ⟨v, rfl, ⟨b, lo, hi, rfl, p1⟩, hb⟩ := h
  exact ⟨b, lo, hi, rfl, p1, hb⟩
set_option maxRecDepth 100000 in
set_option maxHeartbeats 8000000 in
theorem choCast_calls (HS : Aside0 SeasonMiss) (HC : Aside0 SeasonCast) (A : Option Addr) (c : Nat) (l : List Int) (s ahead : Int) (w : World) (hr : Kd.C (Kd.int .i64) w A l.length l) (hc : l.length ≤ c) (hin : AllIn l) (hs : FS.In s) (ha : FS.In ahead) (hll : l.length ≤ 1000000000) :
    Calls Try.prog 43 #[.slice A l.length c, .int .i64 s, .int .i64 ahead] w fun e w' => e = .returned (.tuple #[.int .i64 (chosenS l s ahead).1, .int .i64 (chosenS l s ahead).2]) ∧ Below w.heap.size w w' := by
  have HR := Aside0.mk hr
  clear hr
  by_cases g1 : 1 ≤ s ∧ s ≤ 10000
  · have KC := Aside0.mk (counted_yes g1)
    by_cases g2 : 1 ≤ ahead ∧ ahead ≤ 10000
    · have KD := Aside0.mk (counted_yes g2)
      by_cases g3 : (l.length : Int) < s
      · have KK := Aside0.mk (casts_err HS A c l s hc hin g1.1 g1.2 hll g3)
        have e : chosenS l s ahead = (0, 1) := by unfold chosenS; rw [if_pos (by unfold noCast; omega)]
        rw [e]
        clear e g1 g2 g3
        go_enter Try.func43, Try.ntmps43
        go_wp2_with (first | (go_at_call 77; (with_reducible refine (KC.out _).mono ?_); rintro e w' ⟨rfl, ⟨nd, rfl⟩⟩) | (go_at_call 77; (with_reducible refine (KD.out _).mono ?_); rintro e w' ⟨rfl, ⟨nd, rfl⟩⟩) | (go_at_call 78; (with_reducible refine (KK.out _ (Kd.C_below HR.out (pw_below_drewN (Below.refl _ _) _))).mono ?_); rintro e w2 ⟨rfl, hb⟩; have HB : Aside0 (Below w.heap.size w w2) := ⟨(pw_below_drewN (Below.refl _ _) _).trans hb⟩; clear hb))
        go_ret2
        exact ⟨rfl, HB.out⟩
      · have hno : ¬ noCast l s ahead := by unfold noCast; omega
        have e : chosenS l s ahead = ((castBy l s (wayOf l s) ahead).1, 0) := by unfold chosenS; rw [if_neg hno]
        have e2 := castBy_ok hno
        rw [e]
        cases ew : wayOf l s with
        | none =>
          rw [ew] at e2
          have KK := Aside0.mk (casts_naive HS A c l s hc hin g1.1 g1.2 hll g3 ew)
          have KF := Aside0.mk (castFn HC A c l s ahead hc hin hs ha hll)
          rw [e2] at KF
          clear e g1 g2 g3 hno ew e2
          go_enter Try.func43, Try.ntmps43
          go_wp2_with (first | (go_at_call 77; (with_reducible refine (KC.out _).mono ?_); rintro e w' ⟨rfl, ⟨nd, rfl⟩⟩) | (go_at_call 77; (with_reducible refine (KD.out _).mono ?_); rintro e w' ⟨rfl, ⟨nd, rfl⟩⟩) | (go_at_call 78; (with_reducible refine (KK.out _ (Kd.C_below HR.out (pw_below_drewN (Below.refl _ _) _))).mono ?_); rintro e w2 ⟨b1, b2, rfl, hv, hb⟩; have hb' : Below w.heap.size w w2 := (pw_below_drewN (Below.refl _ _) _).trans hb; have HB := Aside0.mk (And.intro hv hb'); clear hv hb hb') | (go_at_call 137; (with_reducible refine (KF.out b1 b2 _ HB.out.1 (Kd.C_below HR.out HB.out.2)).mono ?_); rintro e w3 ⟨rfl, hb⟩; have HB3 := Aside0.mk hb; clear hb))
          go_ret2
          exact ⟨rfl, HB.out.2.trans (HB3.out.mono HB.out.2.size)⟩
        | some m =>
          rw [ew] at e2
          have KK := Aside0.mk (casts_model HS A c l s m hc hin g1.1 g1.2 hll g3 ew)
          have KF := Aside0.mk (castFm l s ahead m (way_start g1.1 g1.2 ew) ha hll)
          rw [e2] at KF
          clear e g1 g2 g3 hno ew e2
          go_enter Try.func43, Try.ntmps43
          go_wp2_with (first | (go_at_call 77; (with_reducible refine (KC.out _).mono ?_); rintro e w' ⟨rfl, ⟨nd, rfl⟩⟩) | (go_at_call 77; (with_reducible refine (KD.out _).mono ?_); rintro e w' ⟨rfl, ⟨nd, rfl⟩⟩) | (go_at_call 78; (with_reducible refine (KK.out _ (Kd.C_below HR.out (pw_below_drewN (Below.refl _ _) _))).mono ?_); rintro e w2 ⟨b, lo, hi, rfl, hv, hb⟩; have hb' : Below w.heap.size w w2 := (pw_below_drewN (Below.refl _ _) _).trans hb; have HB := Aside0.mk (And.intro hv hb'); clear hv hb hb') | (go_at_call 28; (with_reducible refine (KF.out b lo hi _ HB.out.1).mono ?_); rintro e w3 ⟨rfl, hb⟩; have HB3 := Aside0.mk hb; clear hb))
          go_ret2
          exact ⟨rfl, HB.out.2.trans (HB3.out.mono HB.out.2.size)⟩
    · have KD := Aside0.mk (counted_no g2)
      have e : chosenS l s ahead = (0, 1) := by unfold chosenS; rw [if_pos (by unfold noCast; omega)]
      rw [e]
      clear e g1 g2
      go_enter Try.func43, Try.ntmps43
      go_wp2_with (first | (go_at_call 77; (with_reducible refine (KC.out _).mono ?_); rintro e w' ⟨rfl, ⟨nd, rfl⟩⟩) | (go_at_call 77; (with_reducible refine (KD.out _).mono ?_); rintro e w' ⟨rfl, ⟨nd, rfl⟩⟩))
      go_ret2
      exact ⟨rfl, pw_below_drewN (Below.refl _ _) _⟩
  · have KC := Aside0.mk (counted_no g1)
    have e : chosenS l s ahead = (0, 1) := by unfold chosenS; rw [if_pos (by unfold noCast; omega)]
    rw [e]
    clear e g1
    go_enter Try.func43, Try.ntmps43
    go_wp2_with (first | (go_at_call 77; (with_reducible refine (KC.out _).mono ?_); rintro e w' ⟨rfl, ⟨nd, rfl⟩⟩))
    go_ret2
    exact ⟨rfl, pw_below_drewN (Below.refl _ _) _⟩
set_option maxRecDepth 100000 in
set_option maxHeartbeats 8000000 in
theorem choPeak_calls (HS : Aside0 SeasonMiss) (HC : Aside0 SeasonCast) (A : Option Addr) (c : Nat) (l : List Int) (s ahead : Int) (w : World) (hr : Kd.C (Kd.int .i64) w A l.length l) (hc : l.length ≤ c) (hin : AllIn l) (hs : FS.In s) (ha : FS.In ahead) (hll : l.length ≤ 1000000000) :
    Calls Try.prog 45 #[.slice A l.length c, .int .i64 s, .int .i64 ahead] w fun e w' => e = .returned (.tuple #[.int .i64 (peakS l s ahead).1, .int .i64 (peakS l s ahead).2]) ∧ Below w.heap.size w w' := by
  have HR := Aside0.mk hr
  clear hr
  by_cases g1 : 1 ≤ s ∧ s ≤ 10000
  · have KC := Aside0.mk (counted_yes g1)
    by_cases g2 : 1 ≤ ahead ∧ ahead ≤ 10000
    · have KD := Aside0.mk (counted_yes g2)
      by_cases g3 : (l.length : Int) < s
      · have KK := Aside0.mk (casts_err HS A c l s hc hin g1.1 g1.2 hll g3)
        have e : peakS l s ahead = (0, 1) := by unfold peakS; rw [if_pos (by unfold noCast; omega)]
        rw [e]
        clear e g1 g2 g3
        go_enter Try.func45, Try.ntmps45
        go_wp2_with (first | (go_at_call 77; (with_reducible refine (KC.out _).mono ?_); rintro e w' ⟨rfl, ⟨nd, rfl⟩⟩) | (go_at_call 77; (with_reducible refine (KD.out _).mono ?_); rintro e w' ⟨rfl, ⟨nd, rfl⟩⟩) | (go_at_call 78; (with_reducible refine (KK.out _ (Kd.C_below HR.out (pw_below_drewN (Below.refl _ _) _))).mono ?_); rintro e w2 ⟨rfl, hb⟩; have HB : Aside0 (Below w.heap.size w w2) := ⟨(pw_below_drewN (Below.refl _ _) _).trans hb⟩; clear hb))
        go_ret2
        exact ⟨rfl, HB.out⟩
      · have hno : ¬ noCast l s ahead := by unfold noCast; omega
        have e : peakS l s ahead = (peakAt l s (wayOf l s) ahead.toNat, 0) := by unfold peakS; rw [if_neg hno]
        obtain ⟨N, rfl⟩ := Int.eq_ofNat_of_zero_le (show 0 ≤ ahead by omega)
        rw [e, Int.toNat_natCast]
        have ok : ∀ i : Nat, i < N → (castBy l s (wayOf l s) ((i : Int) + 1)).2 = 0 := fun i hi => castBy_ok (noCast_le (i := (i : Int) + 1) hno (by omega) (by omega))
        have bN : N ≤ 10000 := by omega
        cases ew : wayOf l s with
        | none =>
          rw [ew] at ok
          have KK := Aside0.mk (casts_naive HS A c l s hc hin g1.1 g1.2 hll g3 ew)
          have KF : Aside0 (∀ (i : Nat), i < N → ∀ b1 b2 W, (W.heap[b1]? = some (.cells #[.slice A l.length c] 23 (0, 0)) ∧ W.heap[b2]? = some (.cells #[.int .i64 s, .pointer none] 105 (0, 0))) → Kd.C (Kd.int .i64) W A l.length l → Calls Try.prog 137 #[.int .i64 ((i : Int) + 1), .pointer (some ⟨b1, 0, none⟩), .pointer (some ⟨b2, 0, none⟩)] W fun e w' => e = .returned (.tuple #[.int .i64 (castBy l s none ((i : Int) + 1)).1, .int .i64 0]) ∧ Below W.heap.size W w') := ⟨fun i hi b1 b2 W h1 h2 => by
            have := castFn HC A c l s ((i : Int) + 1) hc hin hs ⟨by omega, by omega⟩ hll b1 b2 W h1 h2
            rwa [ok i hi] at this⟩
          clear e g1 g2 g3 hno ew ok
          go_enter Try.func45, Try.ntmps45
          go_wp2_with (first | (go_at_call 77; (with_reducible refine (KC.out _).mono ?_); rintro e w' ⟨rfl, ⟨nd, rfl⟩⟩) | (go_at_call 77; (with_reducible refine (KD.out _).mono ?_); rintro e w' ⟨rfl, ⟨nd, rfl⟩⟩) | (go_at_call 78; (with_reducible refine (KK.out _ (Kd.C_below HR.out (pw_below_drewN (Below.refl _ _) _))).mono ?_); rintro e w2 ⟨b1, b2, rfl, hv, hb⟩; have hb' : Below w.heap.size w w2 := (pw_below_drewN (Below.refl _ _) _).trans hb; have HB := Aside0.mk (And.intro hv hb'); clear hv hb hb'))
          go_loopg [10, 32] N (fun kq v10 v32 W' => ∃ i : Nat, v10 = .int .i64 (peakAt l s none i) ∧ v32 = .int .i64 (i : Int) ∧ Aside0 (kq + i = N) ∧ Aside0 (Below w2.heap.size w2 W'))
          case atStart => exact ⟨0, rfl, rfl, ⟨rfl⟩, ⟨Below.refl _ _⟩⟩
          case round =>
            obtain ⟨i, rfl, rfl, HK, HQ⟩ := hrel
            obtain ⟨U, rfl⟩ : ∃ U : World, U = wr := ⟨_, rfl⟩
            by_cases ci : i < N
            · have c1 : decide ((i : Int) < (N : Int)) = true := decide_eq_true (by omega)
              have c2 : wrap64 ((i : Int) + 1) = (i : Int) + 1 := wrap64_id (by omega) (by omega)
              cases gk with
              | zero => exact absurd HK.out (by omega)
              | succ k1 =>
                have KFi := Aside0.mk (KF.out i ci)
                obtain ⟨x, hx⟩ : ∃ x, (castBy l s none ((i : Int) + 1)).1 = x := ⟨_, rfl⟩
                obtain ⟨p, hp⟩ : ∃ p, peakAt l s none i = p := ⟨_, rfl⟩
                rw [hx] at KFi
                rw [hp]
                have HX := Aside0.mk (And.intro hx hp)
                clear hx hp
                by_cases cx : p < x
                · have c5 : decide (p < x) = true := decide_eq_true cx
                  go_wp2_with (go_at_call 137; (with_reducible refine (KFi.out b1 b2 _ ⟨blk_below HB.out.1.1 HQ.out, blk_below HB.out.1.2 HQ.out⟩ (Kd.C_below HR.out (HB.out.2.trans (HQ.out.mono HB.out.2.size)))).mono ?_); rintro e w3 ⟨rfl, hb⟩; have HB3 := Aside0.mk hb; clear hb)
                  go_roundg k1
                  case measure => omega
                  case rel =>
                    refine ⟨i + 1, ?_, by go_num, ⟨by have := HK.out; omega⟩, ⟨HQ.out.trans (HB3.out.mono HQ.out.size)⟩⟩
                    show Value.int .i64 x = Value.int .i64 (max (peakAt l s none i) (castBy l s none ((i : Int) + 1)).1)
                    rw [HX.out.1, HX.out.2, show max p x = x by omega]
                · have c5 : decide (p < x) = false := decide_eq_false cx
                  go_wp2_with (go_at_call 137; (with_reducible refine (KFi.out b1 b2 _ ⟨blk_below HB.out.1.1 HQ.out, blk_below HB.out.1.2 HQ.out⟩ (Kd.C_below HR.out (HB.out.2.trans (HQ.out.mono HB.out.2.size)))).mono ?_); rintro e w3 ⟨rfl, hb⟩; have HB3 := Aside0.mk hb; clear hb)
                  go_roundg k1
                  case measure => omega
                  case rel =>
                    refine ⟨i + 1, ?_, by go_num, ⟨by have := HK.out; omega⟩, ⟨HQ.out.trans (HB3.out.mono HQ.out.size)⟩⟩
                    show Value.int .i64 p = Value.int .i64 (max (peakAt l s none i) (castBy l s none ((i : Int) + 1)).1)
                    rw [HX.out.1, HX.out.2, show max p x = p by omega]
            · have c1 : decide ((i : Int) < (N : Int)) = false := decide_eq_false (by omega)
              obtain rfl : i = N := by have := HK.out; omega
              go_wp2
              go_ret2
              exact ⟨rfl, HB.out.2.trans (HQ.out.mono HB.out.2.size)⟩
        | some m =>
          rw [ew] at ok
          have KK := Aside0.mk (casts_model HS A c l s m hc hin g1.1 g1.2 hll g3 ew)
          have KF : Aside0 (∀ (i : Nat), i < N → ∀ b lo hi W, StAt W lo hi b m (startS l m) → Calls Try.prog 28 #[.pointer (some ⟨b, 0, none⟩), .int .i64 ((i : Int) + 1)] W fun e w' => e = .returned (.tuple #[.int .i64 (castBy l s (some m) ((i : Int) + 1)).1, .int .i64 0]) ∧ Below W.heap.size W w') := ⟨fun i hi b lo hi' W h1 => by
            have := castFm l s ((i : Int) + 1) m (way_start g1.1 g1.2 ew) ⟨by omega, by omega⟩ hll b lo hi' W h1
            rwa [ok i hi] at this⟩
          clear e g1 g2 g3 hno ew ok
          go_enter Try.func45, Try.ntmps45
          go_wp2_with (first | (go_at_call 77; (with_reducible refine (KC.out _).mono ?_); rintro e w' ⟨rfl, ⟨nd, rfl⟩⟩) | (go_at_call 77; (with_reducible refine (KD.out _).mono ?_); rintro e w' ⟨rfl, ⟨nd, rfl⟩⟩) | (go_at_call 78; (with_reducible refine (KK.out _ (Kd.C_below HR.out (pw_below_drewN (Below.refl _ _) _))).mono ?_); rintro e w2 ⟨b, lo, hi, rfl, hv, hb⟩; have hb' : Below w.heap.size w w2 := (pw_below_drewN (Below.refl _ _) _).trans hb; have HB := Aside0.mk (And.intro hv hb'); clear hv hb hb'))
          go_loopg [10, 32] N (fun kq v10 v32 W' => ∃ i : Nat, v10 = .int .i64 (peakAt l s (some m) i) ∧ v32 = .int .i64 (i : Int) ∧ Aside0 (kq + i = N) ∧ Aside0 (Below w2.heap.size w2 W'))
          case atStart => exact ⟨0, rfl, rfl, ⟨rfl⟩, ⟨Below.refl _ _⟩⟩
          case round =>
            obtain ⟨i, rfl, rfl, HK, HQ⟩ := hrel
            obtain ⟨U, rfl⟩ : ∃ U : World, U = wr := ⟨_, rfl⟩
            by_cases ci : i < N
            · have c1 : decide ((i : Int) < (N : Int)) = true := decide_eq_true (by omega)
              have c2 : wrap64 ((i : Int) + 1) = (i : Int) + 1 := wrap64_id (by omega) (by omega)
              cases gk with
              | zero => exact absurd HK.out (by omega)
              | succ k1 =>
                have KFi := Aside0.mk (KF.out i ci)
                obtain ⟨x, hx⟩ : ∃ x, (castBy l s (some m) ((i : Int) + 1)).1 = x := ⟨_, rfl⟩
                obtain ⟨p, hp⟩ : ∃ p, peakAt l s (some m) i = p := ⟨_, rfl⟩
                rw [hx] at KFi
                rw [hp]
                have HX := Aside0.mk (And.intro hx hp)
                clear hx hp
                by_cases cx : p < x
                · have c5 : decide (p < x) = true := decide_eq_true cx
                  go_wp2_with (go_at_call 28; (with_reducible refine (KFi.out b lo hi _ (HB.out.1.kept (S := fun _ => False) (Kept.of_below HQ.out _) (fun _ _ _ h => h))).mono ?_); rintro e w3 ⟨rfl, hb⟩; have HB3 := Aside0.mk hb; clear hb)
                  go_roundg k1
                  case measure => omega
                  case rel =>
                    refine ⟨i + 1, ?_, by go_num, ⟨by have := HK.out; omega⟩, ⟨HQ.out.trans (HB3.out.mono HQ.out.size)⟩⟩
                    show Value.int .i64 x = Value.int .i64 (max (peakAt l s (some m) i) (castBy l s (some m) ((i : Int) + 1)).1)
                    rw [HX.out.1, HX.out.2, show max p x = x by omega]
                · have c5 : decide (p < x) = false := decide_eq_false cx
                  go_wp2_with (go_at_call 28; (with_reducible refine (KFi.out b lo hi _ (HB.out.1.kept (S := fun _ => False) (Kept.of_below HQ.out _) (fun _ _ _ h => h))).mono ?_); rintro e w3 ⟨rfl, hb⟩; have HB3 := Aside0.mk hb; clear hb)
                  go_roundg k1
                  case measure => omega
                  case rel =>
                    refine ⟨i + 1, ?_, by go_num, ⟨by have := HK.out; omega⟩, ⟨HQ.out.trans (HB3.out.mono HQ.out.size)⟩⟩
                    show Value.int .i64 p = Value.int .i64 (max (peakAt l s (some m) i) (castBy l s (some m) ((i : Int) + 1)).1)
                    rw [HX.out.1, HX.out.2, show max p x = p by omega]
            · have c1 : decide ((i : Int) < (N : Int)) = false := decide_eq_false (by omega)
              obtain rfl : i = N := by have := HK.out; omega
              go_wp2
              go_ret2
              exact ⟨rfl, HB.out.2.trans (HQ.out.mono HB.out.2.size)⟩
    · have KD := Aside0.mk (counted_no g2)
      have e : peakS l s ahead = (0, 1) := by unfold peakS; rw [if_pos (by unfold noCast; omega)]
      rw [e]
      clear e g1 g2
      go_enter Try.func45, Try.ntmps45
      go_wp2_with (first | (go_at_call 77; (with_reducible refine (KC.out _).mono ?_); rintro e w' ⟨rfl, ⟨nd, rfl⟩⟩) | (go_at_call 77; (with_reducible refine (KD.out _).mono ?_); rintro e w' ⟨rfl, ⟨nd, rfl⟩⟩))
      go_ret2
      exact ⟨rfl, pw_below_drewN (Below.refl _ _) _⟩
  · have KC := Aside0.mk (counted_no g1)
    have e : peakS l s ahead = (0, 1) := by unfold peakS; rw [if_pos (by unfold noCast; omega)]
    rw [e]
    clear e g1
    go_enter Try.func45, Try.ntmps45
    go_wp2_with (first | (go_at_call 77; (with_reducible refine (KC.out _).mono ?_); rintro e w' ⟨rfl, ⟨nd, rfl⟩⟩))
    go_ret2
    exact ⟨rfl, pw_below_drewN (Below.refl _ _) _⟩
end Go.Proofs.Ytemnfnbjapobcaa.Ho
end
section
namespace Go.Proofs.Ytemnfnbjapobcaa.Cm
open Go.RowKit Go.Proofs.YtemnfnbjapobcaaW.PrintWords Go.Proofs.YtemnfnbjapobcaaW.PrintLast Go.Proofs.YtemnfnbjapobcaaW.PrintMore
attribute [local go_sem] max2_int min2_int max_two min_two max_three min_three max_four min_four   -- for this text's walks alone
set_option linter.unusedVariables false
set_option linter.unusedSimpArgs false
def errW : Option Int → Value
  | none => .nilIface
  | some c => .iface 0 (.int .i64 c)
theorem errW_none : errW none = .nilIface := rfl
theorem errW_some (c : Int) : errW (some c) = .iface 0 (.int .i64 c) := rfl
theorem info3 : (Try.prog.info? 3).map (fun i => (i.zero, i.size, i.bytes)) = some (some (.int .i64 0), 1, 8) := by kernel_rfl
end Go.Proofs.Ytemnfnbjapobcaa.Cm
end
section
namespace Go.Proofs.Ytemnfnbjapobcaa.Cm
open Go.RowKit Go.Proofs.YtemnfnbjapobcaaW.PrintWords Go.Proofs.YtemnfnbjapobcaaW.PrintLast Go.Proofs.YtemnfnbjapobcaaW.PrintMore
attribute [local go_sem] max2_int min2_int max_two min_two max_three min_three max_four min_four   -- for this text's walks alone
set_option linter.unusedVariables false
set_option linter.unusedSimpArgs false
def fixed_Add.f (a0 : Int) (a1 : Int) : Option (Int) := if HS.InB a0 && HS.InB a1 then some (HS.addS a0 a1) else none
theorem fixed_Add.calls (a0 : Int) (a1 : Int) (r : Int) (w : World)  (h : fixed_Add.f a0 a1 = some r) :
    Calls Try.prog 67 #[.int .i64 a0, .int .i64 a1] w fun e w' => e = .returned (.int .i64 r) ∧ Drawn0 w w' := by
  unfold fixed_Add.f at h
  by_cases c : (HS.InB a0 && HS.InB a1) = true
  · rw [if_pos c] at h
    obtain rfl := Option.some.inj h
    simp only [Bool.and_eq_true, okL_iff, HS.inB_iff] at c
    exact fAdd c.1 c.2 w
  · rw [if_neg c] at h; cases h
def season_Distance.f (a0 : Int) (a1 : Int) : Option (Int) := if HS.InB a0 && HS.InB a1 then some (HS.distS a0 a1) else none
theorem season_Distance.calls (a0 : Int) (a1 : Int) (r : Int) (w : World)  (h : season_Distance.f a0 a1 = some r) :
    Calls Try.prog 73 #[.int .i64 a0, .int .i64 a1] w fun e w' => e = .returned (.int .i64 r) ∧ Drawn0 w w' := by
  unfold season_Distance.f at h
  by_cases c : (HS.InB a0 && HS.InB a1) = true
  · rw [if_pos c] at h
    obtain rfl := Option.some.inj h
    simp only [Bool.and_eq_true, okL_iff, HS.inB_iff] at c
    exact Ho.dist_calls a0 a1 c.1 c.2 w
  · rw [if_neg c] at h; cases h
def season_counted.f (a0 : Int) : Option (Bool) := if a0 ≥ 1 then (some (decide (a0 ≤ 10000))) else (some false)
set_option maxHeartbeats 8000000 in
set_option maxRecDepth 100000 in
theorem season_counted.calls (a0 : Int) (r : Bool) (w : World) (h : season_counted.f a0 = some r) :
    Calls Try.prog 143 #[.int .i64 a0] w fun e w' => e = .returned (.bool r) ∧ Drawn0 w w' := by
  have H : (if a0 ≥ 1 then (some (decide (a0 ≤ 10000))) else (some false)) = some r := h
  clear h
  by_cases c2 : a0 ≥ 1
  · rw [if_pos c2] at H
    have c2b0 : decide (1 ≤ a0) = true := decide_eq_true c2
    clear c2
    obtain rfl := Option.some.inj H
    go_enter Try.func143, Try.ntmps143
    go_wp2
    go_ret
    exact ⟨by first | rfl | (simp; done) | (simp [*]; done), by repeat (first | exact Drawn0.refl _ | apply Drawn0.step)⟩
  · rw [if_neg c2] at H
    have c2b0 : decide (1 ≤ a0) = false := decide_eq_false c2
    clear c2
    obtain rfl := Option.some.inj H
    go_enter Try.func143, Try.ntmps143
    go_wp2
    go_ret
    exact ⟨by first | rfl | (simp; done) | (simp [*]; done), by repeat (first | exact Drawn0.refl _ | apply Drawn0.step)⟩
end Go.Proofs.Ytemnfnbjapobcaa.Cm
end
