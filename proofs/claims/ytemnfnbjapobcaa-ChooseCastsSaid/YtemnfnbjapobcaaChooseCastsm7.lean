-- Laid together by wip/shake.py out of: Holt3 Holt4 Holt5 Ref1 Ref2 Ref3 Holt6 Ref4 Ref5 Holt7 Holt8 Ref6 Ref7 Extra
import Derived.Test.YtemnfnbjapobcaaChooseCastsm6
import Derived.Lib.SliceRun
section
namespace Go.Proofs.Ytemnfnbjapobcaa.Ho
open Go.RowKit Go.Proofs.YtemnfnbjapobcaaW.PrintWords Go.Proofs.YtemnfnbjapobcaaW.PrintLast Go.Proofs.YtemnfnbjapobcaaW.PrintMore
open Go.Proofs.Ytemnfnbjapobcaa.FS Go.Proofs.Ytemnfnbjapobcaa.HS
set_option linter.unusedVariables false
set_option linter.unusedSimpArgs false
theorem i64_wrap_id {x : Int} (h0 : -9223372036854775808 ≤ x) (h1 : x ≤ 9223372036854775807) : IntKind.i64.wrap x = x := by rw [IntKind.wrap_i64]; omega
set_option maxHeartbeats 4000000 in
theorem castOf_calls (lo hi b : Nat) (m : Mo) (s : St) (ahead : Int) (w : World) (h : StAt w lo hi b m s) (hs : s.In) (ha : FS.In ahead) (hk : s.k < 1000000000000) (hn : 0 < s.parts.length) (hl : s.parts.length ≤ 1000000000000) :
    Calls Try.prog 28 #[.pointer (some ⟨b, 0, none⟩), .int .i64 ahead] w fun e w' => e = .returned (.tuple #[.int .i64 (castOf s ahead).1, .int .i64 (castOf s ahead).2]) ∧ Drawn0 w w' := by
  obtain ⟨g, cap, m1, m2, m3, h⟩ := h
  obtain ⟨level, trend, parts, k⟩ := s
  obtain ⟨hs1, hs2, hs3⟩ := hs
  dsimp only at hk hn hl hs1 hs2 hs3
  obtain ⟨r, hr⟩ : ∃ r, castOf ⟨level, trend, parts, k⟩ ahead = r := ⟨_, rfl⟩
  rw [hr]
  obtain ⟨r1, r2⟩ := r
  have HR := Aside0.mk hr
  clear hr
  have hb := h.blk
  dsimp only [stCells, sl, mixV] at hb
  have c0 := blk_cell hb 0
  have c1 := blk_cell hb 1
  have c2 := blk_cell hb 2
  have c3 := blk_cell hb 3
  simp only [List.getElem?_toArray, List.getElem?_cons_zero, List.getElem?_cons_succ] at c0 c1 c2 c3
  have hn1 : ¬ parts.length = 0 := by omega
  have hn0 : ((parts.length : Int) == 0) = false := by rw [beq_eq_false_iff_ne]; omega
  by_cases h1 : ahead < 1
  · obtain ⟨rfl, rfl⟩ : r1 = 0 ∧ r2 = 1 := by have := HR.out; simp only [castOf] at this; rw [if_pos (.inl h1)] at this; simpa [eq_comm] using this
    have g1 : decide (ahead < 1) = true := decide_eq_true h1
    clear h1 HR h hb
    go_enter Try.func28, Try.ntmps28
    go_wp2
    go_ret2
    exact ⟨rfl, Drawn0.refl _⟩
  · have g1 : decide (ahead < 1) = false := decide_eq_false h1
    by_cases h2 : 10000 < ahead
    · obtain ⟨rfl, rfl⟩ : r1 = 0 ∧ r2 = 1 := by have := HR.out; simp only [castOf] at this; rw [if_pos (.inr h2)] at this; simpa [eq_comm] using this
      have g2 : decide (10000 < ahead) = true := decide_eq_true h2
      clear h1 h2 HR h hb
      go_enter Try.func28, Try.ntmps28
      go_wp2
      go_ret2
      exact ⟨rfl, Drawn0.refl _⟩
    · have g2 : decide (10000 < ahead) = false := decide_eq_false h2
      obtain ⟨A, rfl⟩ := Int.eq_ofNat_of_zero_le (show 0 ≤ ahead by omega)
      obtain ⟨j, hj⟩ : ∃ j, (k + A - 1) % parts.length = j := ⟨_, rfl⟩
      have hjl : j < parts.length := hj ▸ Nat.mod_lt _ hn
      obtain ⟨p, hp⟩ : ∃ p, rd parts (j : Int) = p := ⟨_, rfl⟩
      obtain ⟨rfl, rfl⟩ : r1 = addS (addS level (mulS (ofS (A : Int)) trend)) p ∧ r2 = 0 := by
        have := HR.out
        simp only [castOf] at this
        rw [if_neg (by omega)] at this
        obtain ⟨e1, e2⟩ := Prod.mk.inj this
        refine ⟨?_, e2.symm⟩
        rw [← e1, ← hp, Int.toNat_natCast, hj]
        rfl
      have p0 := own_at h.row (j : Int) (by omega) (by exact_mod_cast hjl)
      dsimp only at p0
      rw [Int.toNat_natCast, hp] at p0
      obtain ⟨p1, p2⟩ := p0
      have hpi : FS.In p := hp ▸ allIn_getD hs3 j
      obtain ⟨u, hq⟩ : ∃ u : Int, IntKind.i64.wrap ((k : Int) + (A : Int)) = u := ⟨_, rfl⟩
      have hq' : u = (k : Int) + A := by rw [← hq]; exact i64_wrap_id (by omega) (by omega)
      obtain ⟨u1, hq1⟩ : ∃ u1 : Int, IntKind.i64.wrap (u - 1) = u1 := ⟨_, rfl⟩
      have hq1' : u1 = ((k + A - 1 : Nat) : Int) := by rw [← hq1, hq', i64_wrap_id (by omega) (by omega)]; omega
      have hjm : Int.tmod u1 (parts.length : Int) = (j : Int) := by rw [hq1', ← hj]; rfl
      have a1 := in_ofS (A : Int)
      have a2 := in_mulS (ofS (A : Int)) trend
      have a3 := in_addS level (mulS (ofS (A : Int)) trend)
      have hjl2 : (j : Int) < (parts.length : Int) := by omega
      clear hq' hq1' HR h hb hp hj h1 h2
      go_enter Try.func28, Try.ntmps28
      go_wp2
      go_quiet ((first | (go_at_call 69; exact q0 (fOf (by assumption) _)) | (go_at_call 68; exact q0 (fMul (by assumption) (by assumption) _)) | (go_at_call 67; exact q0 (fAdd (by assumption) (by assumption) _))))
      go_wp2
      go_quiet ((first | (go_at_call 67; exact q1 (fAdd (by assumption) (by assumption) _))))
      go_wp2
      go_ret2
      exact ⟨rfl, by repeat (first | exact Drawn0.refl _ | apply Drawn0.step)⟩
end Go.Proofs.Ytemnfnbjapobcaa.Ho
end
section
namespace Go.Proofs.Ytemnfnbjapobcaa.Ho
open Go.RowKit Go.Proofs.YtemnfnbjapobcaaW.PrintWords Go.Proofs.YtemnfnbjapobcaaW.PrintLast Go.Proofs.YtemnfnbjapobcaaW.PrintMore
open Go.Proofs.Ytemnfnbjapobcaa.FS Go.Proofs.Ytemnfnbjapobcaa.HS
set_option linter.unusedVariables false
set_option linter.unusedSimpArgs false
theorem info3 : (Try.prog.info? 3).map (fun i => (i.zero, i.size, i.bytes)) = some (some (.int .i64 0), 1, 8) := by kernel_rfl
theorem cell_below {w w' : World} {p : Addr} {v : Value} (hb : Below w.drew.heap.size w.drew w') (hc : w.cell? p = some v) : w'.cell? p = some v := (hb.cell (World.block_lt_of_cell? _ _ hc)).trans hc
theorem row_form {W : World} {lo : Nat} {v : Value} {l : List Int} (h : W.ownsRow lo 3 1 v l.length (nums .i64 l)) (hn : 0 < l.length) : ∃ g cap, v = .slice (some ⟨g, 0, none⟩) l.length cap ∧ lo ≤ g ∧ g < W.heap.size := by
  rcases h.2 with ⟨_, h2⟩ | ⟨g, cap, cur, rfl, h2, h3, _⟩
  · omega
  · exact ⟨g, cap, rfl, h2, blk_lt h3⟩
end Go.Proofs.Ytemnfnbjapobcaa.Ho
end
section
namespace Go.Proofs.Ytemnfnbjapobcaa.Ho
open Go.RowKit Go.Proofs.YtemnfnbjapobcaaW.PrintWords Go.Proofs.YtemnfnbjapobcaaW.PrintLast Go.Proofs.YtemnfnbjapobcaaW.PrintMore
open Go.Proofs.Ytemnfnbjapobcaa.FS Go.Proofs.Ytemnfnbjapobcaa.HS
set_option linter.unusedVariables false
set_option linter.unusedSimpArgs false
theorem mean_n (A : Option Addr) (n c : Nat) (l : List Int) (w : World) (e : l.length = n) (hr : Kd.C (Kd.int .i64) w A n l) (hl : n ≤ 1000000000000) (hin : AllIn l) :
    Calls Try.prog 101 #[.slice A n c] w fun e w' => e = .returned (.int .i64 (meanS l)) ∧ Drawn0 w w' := by
  subst e
  exact mean_calls A c l w hr hl hin
theorem allIn_take {l : List Int} (h : AllIn l) (n : Nat) : AllIn (l.take n) := fun x hx => h x (List.mem_of_mem_take hx)
theorem allIn_drop {l : List Int} (h : AllIn l) (n : Nat) : AllIn (l.drop n) := fun x hx => h x (List.mem_of_mem_drop hx)
theorem cell_made {w w' : World} {n : Nat} {p : Addr} {v : Value} (h : Made w w' n) (hc : w.cell? p = some v) : w'.cell? p = some v := (h.below.cell (World.block_lt_of_cell? _ _ hc)).trans hc
theorem weighed_x (wt : Int) (hwt : FS.In wt) (w : World) :
    Calls Try.prog 103 #[.int .i64 wt] w fun e w' => e = .returned (.func (.func 135) #[] #[.pointer (some ⟨w.heap.size, 0, none⟩), .pointer (some ⟨w.heap.size + 1, 0, none⟩)]) ∧ MixAt w' w.heap.size wt ∧ Made w w' 2 := weighed_calls wt hwt w
theorem below_alloc_ {n : Nat} {w W : World} (h : Below n w W) (hn : n ≤ W.heap.size) (o : Obj) : Below n w (W.alloc o) := h.alloc hn o
theorem cell_alloc {w : World} {p : Addr} {v : Value} (hc : w.cell? p = some v) (o : Obj) : (w.alloc o).cell? p = some v := by
  rw [World.cell?_alloc_lt _ _ _ (World.block_lt_of_cell? _ _ hc)]; exact hc
theorem cell_of_alloc {w : World} {p : Addr} {v : Value} {o : Obj} (hc : (w.alloc o).cell? p = some v) (hp : p.block < w.heap.size) : w.cell? p = some v := by
  rwa [World.cell?_alloc_lt _ _ _ hp] at hc
theorem parts_len (l : List Int) (av : Int) {k N : Nat} (h : k ≤ N) (hN : N ≤ l.length) : (((l.take N).take k).map (fun x => subS x av)).length = k := by simp; omega
theorem parts_snoc (l : List Int) (av : Int) {k N : Nat} (h : k < N) (hN : N ≤ l.length) : ((l.take N).take (k + 1)).map (fun x => subS x av) = ((l.take N).take k).map (fun x => subS x av) ++ [subS (rd l (k : Int)) av] := by
  have e : rd l (k : Int) = l[k]'(by omega) := by
    show l.getD k 0 = _
    simp [List.getD_eq_getElem?_getD, List.getElem?_eq_getElem (show k < l.length by omega)]
  rw [List.take_succ_eq_append_getElem (by simp; omega), List.map_append, e]
  simp
structure Lay (V W : World) (lo b : Nat) (cs : Value → Array Value) (v : Value) (l : List Int) : Prop where
  blk : W.heap[b]? = some (.cells (cs v) 99 (0, 0))
  row : W.ownsRow (b + 1) 3 1 v l.length (nums .i64 l)
  kept : Kept V W (· = b)
  below : Below lo V W
def moV (m : Mo) : Value := .agg #[.int .i64 m.n, .int .i64 m.a, .int .i64 m.b, .int .i64 m.c]
set_option maxRecDepth 100000 in
set_option maxHeartbeats 4000000 in
theorem begin_calls (A : Option Addr) (c : Nat) (l : List Int) (m : Mo) (w : World) (hr : Kd.C (Kd.int .i64) w A l.length l) (hc : l.length ≤ c) (hin : AllIn l) (hm : Mo.wIn m) (hn : 1 ≤ m.n) (hl : 2 * m.n ≤ (l.length : Int)) (hll : l.length ≤ 1000000000) :
    Calls Try.prog 64 #[.slice A l.length c, moV m] w fun e w' => ∃ b, e = .returned (.pointer (some ⟨b, 0, none⟩)) ∧ StAt w' w.heap.size w'.heap.size b m (beginS l m.n.toNat) ∧ Below w.heap.size w w' := by
  obtain ⟨n, ma, mb, mc⟩ := m
  dsimp only at hn hl
  obtain ⟨N, rfl⟩ := Int.eq_ofNat_of_zero_le (show 0 ≤ n by omega)
  rw [Int.toNat_natCast]
  dsimp only [moV]
  obtain ⟨ad, rfl, _⟩ := Kd.at_int hr 0 (by omega) (by omega)
  obtain ⟨M, hM⟩ : ∃ M, 2 * N = M := ⟨_, rfl⟩
  have e2 : IntKind.i64.wrap (2 * (N : Int)) = (M : Int) := by rw [i64_wrap_id (by omega) (by omega)]; omega
  have b1 : N ≤ M := by omega
  have b2 : M ≤ c := by omega
  have b3 : N ≤ c := by omega
  have b4 : ¬ M = N := by omega
  have b5 : M - N = N := by omega
  have b6 : ¬ N = 0 := by omega
  have m1 : Kd.C (Kd.int .i64) w (some ad) N (l.take N) := by
    have h := Kd.C_take hr (m := N) (by omega)
    rwa [List.length_take, Nat.min_eq_left (by omega)] at h
  have m2 : Kd.C (Kd.int .i64) w (some (ad.add N)) N ((l.drop N).take N) := by
    have h := Kd.C_mid hr (lo := N) (hi := M) (c := c) b1 (by omega) hc
    rw [List.drop_take, b5, if_neg (by omega)] at h
    have e : ((l.drop N).take N).length = N := by simp; omega
    rw [e] at h
    simpa [show (Kd.int .i64).sz = 1 from rfl] using h
  have i1 : FS.In (meanS (l.take N)) := in_divS _ _
  have i2 : FS.In (meanS ((l.drop N).take N)) := in_divS _ _
  have i3 := in_subS (meanS ((l.drop N).take N)) (meanS (l.take N))
  have i4 : FS.In (N : Int) := ⟨by omega, by omega⟩
  have i5 := in_ofS (N : Int)
  obtain ⟨i6, i7, i8⟩ := hm
  dsimp only at i6 i7 i8
  have t1 : (l.take N).length = N := by simp; omega
  have t2 : ((l.drop N).take N).length = N := by simp; omega
  have HH := Aside0.mk (And.intro hr (And.intro hM (And.intro hin (And.intro m1 (And.intro m2 (And.intro t1 t2))))))
  clear hr hM hin m1 m2 t1 t2
  go_enter Try.func64, Try.ntmps64
  go_wp2
  go_quiet ((go_at_call 101; first | exact q0 (mean_n _ _ _ (l.take N) _ HH.out.2.2.2.2.2.1 (Kd.C_drewN (Kd.C_alloc HH.out.2.2.2.1 _) _) (by omega) (allIn_take HH.out.2.2.1 _)) | exact q0 (mean_n _ _ _ ((l.drop N).take N) _ HH.out.2.2.2.2.2.2 (Kd.C_drewN (Kd.C_alloc HH.out.2.2.2.2.1 _) _) (by omega) (allIn_take (allIn_drop HH.out.2.2.1 _) _))))
  revert nq
  intro n1
  go_wp2
  obtain ⟨W, hW⟩ : ∃ W, (w.alloc (.cells #[.int .i64 (N : Int), .int .i64 ma, .int .i64 mb, .int .i64 mc] 29)).drewN n1 = W := ⟨_, rfl⟩
  rw [hW]
  have hb : W.heap[w.heap.size]? = some (.cells #[.int .i64 (N : Int), .int .i64 ma, .int .i64 mb, .int .i64 mc] 29 (0, 0)) := hW ▸ blk_drewN (blk_new w _) n1
  have hs : W.heap.size = w.heap.size + 1 := by rw [← hW]; simp
  have hB : Below w.heap.size w W := hW ▸ pw_below_drewN (below_alloc (Below.refl _ _) _) n1
  have d1 := blk_cell hb 1
  have d2 := blk_cell hb 2
  have d3 := blk_cell hb 3
  simp only [List.getElem?_toArray, List.getElem?_cons_zero, List.getElem?_cons_succ] at d1 d2 d3
  have HW := Aside0.mk (And.intro hW (And.intro hb (And.intro hs hB)))
  clear hW hb hs hB
  go_region_held3 (fun w' => w'.cell? ⟨w.heap.size, 1, none⟩ = some (.int .i64 ma) ∧ w'.cell? ⟨w.heap.size, 2, none⟩ = some (.int .i64 mb) ∧ w'.cell? ⟨w.heap.size, 3, none⟩ = some (.int .i64 mc)) (first | go_keep | (go_split_ands; exact ⟨cell_made hmade (by assumption), cell_made hmade (by assumption), cell_made hmade (by assumption)⟩)) (first | (go_at_call 71; (with_reducible refine (fSub (by assumption) (by assumption) _).mono ?_); rintro e w' ⟨rfl, ⟨nd, rfl⟩⟩) | (go_at_call 69; (with_reducible refine (fOf (by assumption) _).mono ?_); rintro e w' ⟨rfl, ⟨nd, rfl⟩⟩) | (go_at_call 102; (with_reducible refine (fDiv (by assumption) (by assumption) _).mono ?_); rintro e w' ⟨rfl, ⟨nd, rfl⟩⟩) | (go_at_call 103; (with_reducible refine (weighed_x _ (by assumption) _).mono ?_); rintro e w' ⟨rfl, hmix, hmade⟩))
  rename_i w1 hx1 hd1 w2 hx2 hd2 hheld
  clear hheld
  obtain ⟨hW, hb, hs, hB⟩ := HW.out
  have z1 : w1.heap.size = w.heap.size + 3 := by have := hd1.size; simp at this; omega
  have z2 : w2.heap.size = w.heap.size + 5 := by have := hd2.size; omega
  have z3 : w'.heap.size = w.heap.size + 7 := by have := hmade.size; omega
  obtain ⟨tr, htr⟩ : ∃ tr, divS (subS (meanS ((l.drop N).take N)) (meanS (l.take N))) (ofS (N : Int)) = tr := ⟨_, rfl⟩
  rw [htr]
  obtain ⟨av, hav⟩ : ∃ av, meanS (l.take N) = av := ⟨_, rfl⟩
  rw [hav] at i1 ⊢
  obtain ⟨V, hV⟩ : ∃ V, w'.alloc (.cells #[.int .i64 av, .int .i64 tr, .slice none 0 0, .int .i64 0, mixV W.heap.size, mixV w1.heap.size, mixV w2.heap.size] 99) = V := ⟨_, rfl⟩
  dsimp only [mixV] at hV
  rw [hV]
  obtain ⟨B, hBz⟩ : ∃ B, w'.heap.size = B := ⟨_, rfl⟩
  obtain ⟨M1, hM1⟩ : ∃ M1, W.heap.size = M1 := ⟨_, rfl⟩
  obtain ⟨M2, hM2⟩ : ∃ M2, w1.heap.size = M2 := ⟨_, rfl⟩
  obtain ⟨M3, hM3⟩ : ∃ M3, w2.heap.size = M3 := ⟨_, rfl⟩
  rw [hBz, hM1, hM2, hM3]
  rw [hM1, hM2, hM3] at hV
  have y1 : MixAt V M1 ma := by
    rw [← hV, ← hM1]
    have h1 : cell1 w1 W.heap.size ma ∧ cell1 w1 (W.heap.size + 1) (subS 4294967296 ma) := hx1
    exact ⟨blk_alloc (blk_below (blk_below h1.1 hd2.below) hmade.below) _, blk_alloc (blk_below (blk_below h1.2 hd2.below) hmade.below) _⟩
  have y2 : MixAt V M2 mb := by
    rw [← hV, ← hM2]
    exact ⟨blk_alloc (blk_below hx2.1 hmade.below) _, blk_alloc (blk_below hx2.2 hmade.below) _⟩
  have y3 : MixAt V M3 mc := by
    rw [← hV, ← hM3]
    exact ⟨blk_alloc hmix.1 _, blk_alloc hmix.2 _⟩
  have BV : Below w.heap.size w V := by
    rw [← hV]
    refine below_alloc_ (((hB.trans ((pw_below_drewN (Below.refl _ _) _).trans (hd1.below.mono ?_))).trans (hd2.below.mono ?_)).trans (hmade.below.mono ?_)) ?_ _ <;> first | omega | (simp; omega)
  have hbV : V.heap[B]? = some (.cells #[.int .i64 av, .int .i64 tr, .slice none 0 0, .int .i64 0, mixV M1, mixV M2, mixV M3] 99 (0, 0)) := by
    rw [← hV, ← hBz]
    exact blk_new w' _
  have hVz : V.heap.size = B + 1 := by rw [← hV, ← hBz]; simp
  have L0 : Lay V V w.heap.size B (fun v => #[.int .i64 av, .int .i64 tr, v, .int .i64 0, mixV M1, mixV M2, mixV M3]) (.slice none 0 0) [] :=
    ⟨hbV, own_nil _ _ _ _, Kept.refl _ _, Below.refl _ _⟩
  have lB : w.heap.size + 7 = B := by omega
  have lM : M1 = w.heap.size + 1 ∧ M2 = w.heap.size + 3 ∧ M3 = w.heap.size + 5 := by omega
  have G := Aside0.mk (And.intro y1 (And.intro y2 (And.intro y3 (And.intro BV (And.intro hVz (And.intro lB (And.intro lM (And.intro htr hav))))))))
  have GL := Aside0.mk L0
  clear hbV hVz BV y1 y2 y3 hV L0 hM1 hM2 hM3 hBz z1 z2 z3 hW hb hs hB hx1 hd1 hx2 hd2 hmix hmade d1 d2 d3 HW lB lM htr hav
  go_wp2
  go_loopg [49] N (fun kq v49 W' => ∃ (k : Nat) (v : Value), v49 = .int .i64 (k : Int) ∧ Aside0 (kq + k = N) ∧ Aside0 (Lay V W' w.heap.size B (fun v => #[.int .i64 av, .int .i64 tr, v, .int .i64 0, mixV M1, mixV M2, mixV M3]) v (((l.take N).take k).map (fun x => subS x av))))
  case atStart => exact ⟨0, _, rfl, ⟨rfl⟩, by simpa using GL⟩
  case round =>
    obtain ⟨k, v, rfl, HK, HL⟩ := hrel
    by_cases ck : k < N
    · have c1 : decide ((k : Int) < (N : Int)) = true := decide_eq_true (by omega)
      obtain ⟨ad', e, r0⟩ := Kd.at_int (Kd.C_below HH.out.1 (G.out.2.2.2.1.trans HL.out.below)) (k : Int) (by omega) (by omega)
      cases e
      rw [Int.toNat_natCast] at r0
      have j1 : FS.In (rd l (k : Int)) := allIn_getD HH.out.2.2.1 k
      have u2 := blk_cell HL.out.blk 2
      simp only [List.getElem?_toArray, List.getElem?_cons_zero, List.getElem?_cons_succ] at u2
      have f2 := blk_frozen HL.out.blk 2
      have kN : k < N := ck
      clear ck
      go_wp2
      refine start_ (n := 13) (S := fun w' => w'.cell? ⟨B, 2, none⟩ = some v) (ds := [12]) #[false, false, false, false, false, false, false, false, false, false, false, false, false] (by kernel_rfl) rfl rfl u2 (fun hHeld => ?_)
      refine pure_ (i := 0) (N := some 53) (v := ?_) (a' := ?_) #[true, false, false, false, false, false, false, false, false, false, false, false, false] rfl rfl (by kernel_rfl) (fun _ _ _ h => h) (Or.inl ⟨by rfl, ?_⟩) ?_ ?_
      rotate_left
      · intro w'
        go_simp
        with_reducible rfl
      rotate_left
      · simp only [Act.put, List.setIfInBounds_toArray, List.set_cons_zero, List.set_cons_succ, i64_w, i32_w]
        rfl
      refine pure_ (i := 1) (N := some 54) (v := ?_) (a' := ?_) #[true, true, false, false, false, false, false, false, false, false, false, false, false] rfl rfl (by kernel_rfl) (fun _ _ _ h => h) (Or.inl ⟨by rfl, ?_⟩) ?_ ?_
      rotate_left
      · intro w'
        go_simp
        with_reducible rfl
      rotate_left
      · simp only [Act.put, List.setIfInBounds_toArray, List.set_cons_zero, List.set_cons_succ, i64_w, i32_w]
        rfl
      refine pure_ (i := 2) (N := some 55) (v := ?_) (a' := ?_) #[true, true, true, false, false, false, false, false, false, false, false, false, false] rfl rfl (by kernel_rfl) (fun _ _ _ h => h) (Or.inl ⟨by rfl, ?_⟩) ?_ ?_
      rotate_left
      · intro w'
        go_simp
        with_reducible rfl
      rotate_left
      · simp only [Act.put, List.setIfInBounds_toArray, List.set_cons_zero, List.set_cons_succ, i64_w, i32_w]
        rfl
      refine pure_ (i := 3) (N := some 56) (v := ?_) (a' := ?_) #[true, true, true, true, false, false, false, false, false, false, false, false, false] rfl rfl (by kernel_rfl) (fun _ _ _ h => h) (Or.inl ⟨by rfl, ?_⟩) ?_ ?_
      rotate_left
      · intro w'
        go_simp
        with_reducible rfl
      rotate_left
      · simp only [Act.put, List.setIfInBounds_toArray, List.set_cons_zero, List.set_cons_succ, i64_w, i32_w]
        rfl
      refine pure_ (i := 5) (N := some 58) (v := ?_) (a' := ?_) #[true, true, true, true, false, true, false, false, false, false, false, false, false] rfl rfl (by kernel_rfl) (fun _ _ _ h => h) (Or.inl ⟨by rfl, ?_⟩) ?_ ?_
      rotate_left
      · intro w'
        go_simp
        with_reducible rfl
      rotate_left
      · simp only [Act.put, List.setIfInBounds_toArray, List.set_cons_zero, List.set_cons_succ, i64_w, i32_w]
        rfl
      refine pure_ (i := 6) (N := some 59) (v := ?_) (a' := ?_) #[true, true, true, true, false, true, true, false, false, false, false, false, false] rfl rfl (by kernel_rfl) (fun _ _ _ h => h) (Or.inl ⟨by rfl, ?_⟩) ?_ ?_
      rotate_left
      · intro w'
        go_simp
        with_reducible rfl
      rotate_left
      · simp only [Act.put, List.setIfInBounds_toArray, List.set_cons_zero, List.set_cons_succ, i64_w, i32_w]
        rfl
      refine take_ (i := 4) (N := some 57) (v := ?_) (a' := ?_) #[true, true, true, true, true, true, true, false, false, false, false, false, false] rfl rfl (by kernel_rfl) (fun _ _ _ h => h) (Or.inl ⟨by rfl, ?_⟩) hHeld ?_ ?_
      rotate_left
      · rintro w' s0
        go_simp
        with_reducible rfl
      rotate_left
      · simp only [Act.put, List.setIfInBounds_toArray, List.set_cons_zero, List.set_cons_succ, i64_w, i32_w]
        rfl
      refine one_ (i := 7) (N := some 60) #[true, true, true, true, true, true, true, true, false, false, false, false, false] rfl rfl (by kernel_rfl) (by decide) (fun K hK => ?_)
      refine goes_ Try.func71 (by kernel_rfl) rfl #[.int .i64 (rd l (k : Int)), .int .i64 av] (by rfl) rfl rfl (by simp [Act.eval]) ?_
      refine (fSub j1 i1 _).mono ?_
      rintro e w' ⟨rfl, ⟨nd, rfl⟩⟩
      refine ⟨_, rfl, hK.out _ _ hHeld (fun hHeld => ?_)⟩
      clear hK K
      refine norm_ (by simp only [Act.put, List.setIfInBounds_toArray, List.set_cons_zero, List.set_cons_succ, i64_w, i32_w]; rfl) ?_
      refine one_ (i := 8) (N := some 61) #[true, true, true, true, true, true, true, true, true, false, false, false, false] rfl rfl (by kernel_rfl) (by decide) (fun K hK => ?_)
      refine value_ (w1 := (wr.drew.drewN nd).alloc (.cells #[.int .i64 (subS (rd l (k : Int)) av)] 3)) (v := .slice (some ⟨wr.heap.size, 0, none⟩) 1 1) (by rfl) rfl (by go_simp) ?_
      refine hK.out _ _ (cell_alloc hHeld _) (fun hHeld => ?_)
      clear hK K
      refine norm_ (by simp only [Act.put, List.setIfInBounds_toArray, List.set_cons_zero, List.set_cons_succ, i64_w, i32_w]; rfl) ?_
      refine one_ (i := 9) (N := some 62) #[true, true, true, true, true, true, true, true, true, true, false, false, false] rfl rfl (by kernel_rfl) (by decide) (fun K hK => ?_)
      have hlk := parts_len l av (show k ≤ N by omega) (show N ≤ l.length by omega)
      obtain ⟨gB, gz⟩ : w.heap.size + 7 = B ∧ V.heap.size = B + 1 := ⟨G.out.2.2.2.2.2.1, G.out.2.2.2.2.1⟩
      have gz2 := HL.out.kept.1
      refine step_append_cells (w0 := wr.drew.drewN nd) (W := wr.drew.drewN nd) (B + 1) (by rfl) (.tmp 57) (.tmp 61) 23 3 (.int .i64 0) 1 8 rfl Try.underlying23 info3 rfl (by decide) (by decide) v _ _ [.int .i64 (subS (rd l (k : Int)) av)] (by simp [Act.eval]) (by simp [Act.eval]) rfl (by intro u hu; simp at hu; subst hu; rfl) (pw_own_drewN (own_drew HL.out.row) nd) (Below.refl _ _) (by simp; omega) (by rw [hlk]; omega) ?_
      intro v1 w1 hown hbel hgr hat
      have hHeld2 := (hbel.cell (p := ⟨B, 2, none⟩) (by simp)).trans (cell_of_alloc hHeld (by simp; omega))
      refine hK.out _ _ hHeld2 (fun hHeld => ?_)
      clear hK K
      refine norm_ (by simp only [Act.put, List.setIfInBounds_toArray, List.set_cons_zero, List.set_cons_succ, i64_w, i32_w]; rfl) ?_
      refine pure_ (i := 10) (N := some 63) (v := ?_) (a' := ?_) #[true, true, true, true, true, true, true, true, true, true, true, false, false] rfl rfl (by kernel_rfl) (fun _ _ _ h => h) (Or.inl ⟨by rfl, ?_⟩) ?_ ?_
      rotate_left
      · intro w'
        go_simp
        with_reducible rfl
      rotate_left
      · simp only [Act.put, List.setIfInBounds_toArray, List.set_cons_zero, List.set_cons_succ, i64_w, i32_w]
        rfl
      refine pure_ (i := 11) (N := some 64) (v := ?_) (a' := ?_) #[true, true, true, true, true, true, true, true, true, true, true, true, false] rfl rfl (by kernel_rfl) (fun _ _ _ h => h) (Or.inl ⟨by rfl, ?_⟩) ?_ ?_
      rotate_left
      · intro w'
        go_simp
        with_reducible rfl
      rotate_left
      · simp only [Act.put, List.setIfInBounds_toArray, List.set_cons_zero, List.set_cons_succ, i64_w, i32_w]
        rfl
      refine last_ (i := 12) (N := none) #[true, true, true, true, true, true, true, true, true, true, true, true, true] rfl rfl (by kernel_rfl) (by decide) (fun K hK => ?_)
      have hn1 := parts_snoc l av (show k < N by omega) (show N ≤ l.length by omega)
      have hb1 : w1.heap[B]? = some (.cells #[.int .i64 av, .int .i64 tr, v, .int .i64 0, mixV M1, mixV M2, mixV M3] 99 (0, 0)) := (hbel.block B (by omega)).trans HL.out.blk
      have fz := blk_frozen hb1 2
      have hown2 : w1.ownsRow (B + 1) 3 1 v1 (((l.take N).take (k + 1)).map (fun x => subS x av)).length (nums .i64 (((l.take N).take (k + 1)).map (fun x => subS x av))) := by
        rw [hn1]
        simpa [nums] using hown
      have hlk2 := parts_len l av (show k + 1 ≤ N by omega) (show N ≤ l.length by omega)
      obtain ⟨g, cap, hv1, hg1, hg2⟩ := row_form hown2 (by omega)
      rw [hlk2] at hv1
      subst hv1
      have HZ := Aside0.mk (And.intro hown2 (And.intro hb1 (And.intro hbel (And.intro hgr hn1))))
      clear hown2 hown hb1 hbel hgr hn1 hlk hlk2 hat
      refine skip_ (w1 := w1.setCell ⟨B, 2, none⟩ (.slice (some ⟨g, 0, none⟩) (k + 1) cap)) (by rfl) rfl (by go_simp) ?_
      refine hK.out _ _ ?_
      clear hK K
      refine done_ (by kernel_rfl) ?_
      cases gk with
      | zero => exact absurd HK.out (by omega)
      | succ k1 =>
        go_wp2
        go_roundg k1
        case measure => omega
        case rel =>
          obtain ⟨hown2, hb1, hbel, hgr, hn1⟩ := HZ.out
          refine ⟨k + 1, _, by go_num, ⟨by have := HK.out; omega⟩, ⟨⟨blk_put hb1 2 _ rfl, own_setCell (p := ⟨B, 2, none⟩) hown2 (by simp [Value.ownBlock]; omega) _, ?_, ?_⟩⟩⟩
          · refine ((HL.out.kept.drew.drewN nd).of_grown hgr (fun j hj => ?_)).setCell (.inl rfl) _
            exact .inr (by have := own_base (pw_own_drewN (own_drew HL.out.row) nd) j hj; omega)
          · exact ((HL.out.below.trans ((pw_below_drewN (below_drew1 (Below.refl _ _)) nd).trans (hbel.mono (by omega)))).setCell (by simp; omega) _)
    · have c1 : decide ((k : Int) < (N : Int)) = false := decide_eq_false (by omega)
      obtain rfl : k = N := by have := HK.out; omega
      go_wp2
      go_ret
      obtain ⟨y1, y2, y3, BV, hVz, lB, lM, htr, hav⟩ := G.out
      have hL := HL.out
      have hlk := parts_len l av (Nat.le_refl k) (show k ≤ l.length by omega)
      obtain ⟨g, cap, rfl, hg1, hg2⟩ := row_form hL.row (by omega)
      have hsz := hL.kept.1
      refine ⟨B, rfl, ⟨g, cap, M1, M2, M3, ?_⟩, BV.trans hL.below⟩
      have ebeg : beginS l k = ⟨av, tr, (((l.take k).take k).map (fun x => subS x av)), 0⟩ := by
        rw [← htr, ← hav, List.take_take, Nat.min_self]
        rfl
      rw [ebeg]
      exact ⟨hL.blk, own_less hL.row (by omega), ⟨(hL.kept.2 _ (by omega) (by omega)).trans y1.1, (hL.kept.2 _ (by omega) (by omega)).trans y1.2⟩, ⟨(hL.kept.2 _ (by omega) (by omega)).trans y2.1, (hL.kept.2 _ (by omega) (by omega)).trans y2.2⟩, ⟨(hL.kept.2 _ (by omega) (by omega)).trans y3.1, (hL.kept.2 _ (by omega) (by omega)).trans y3.2⟩, by omega, by omega, by omega, by omega, by omega, by omega, Nat.le_refl _⟩
end Go.Proofs.Ytemnfnbjapobcaa.Ho
end
section
namespace Go.Proofs.Ytemnfnbjapobcaa.Ho
open Go.RowKit Go.Proofs.YtemnfnbjapobcaaW.PrintWords Go.Proofs.YtemnfnbjapobcaaW.PrintLast Go.Proofs.YtemnfnbjapobcaaW.PrintMore
open Go.Proofs.Ytemnfnbjapobcaa.FS Go.Proofs.Ytemnfnbjapobcaa.HS Go.Proofs.Ytemnfnbjapobcaa.FM
set_option linter.unusedVariables false
set_option linter.unusedSimpArgs false
set_option maxHeartbeats 1000000 in
theorem rmix_calls (wt x y : Int) (hwt : FS.In wt) (hx : FS.In x) (hy : FS.In y) (w : World) :
    Calls Try.prog 72 #[.int .i64 wt, .int .i64 x, .int .i64 y] w fun e w' => e = .returned (.int .i64 (mixS wt x y)) ∧ Below w.heap.size w w' := by
  have h0 : FS.In 4294967296 := ⟨by decide, by decide⟩
  have h1 := in_subS 4294967296 wt
  have h2 := in_mulS wt x
  have h3 := in_mulS (subS 4294967296 wt) y
  go_enter Try.func72, Try.ntmps72
  go_wp2_with (first | (go_at_call 70; (with_reducible refine (rMul (by assumption) (by assumption) _).mono ?_); rintro e w' ⟨rfl, hb⟩; have HB := Aside0.mk hb; clear hb) | (go_at_call 63; (with_reducible refine (rSub (by assumption) (by assumption) _).mono ?_); rintro e w' ⟨rfl, ⟨nd, rfl⟩⟩) | (go_at_call 55; (with_reducible refine (rAdd (by assumption) (by assumption) _).mono ?_); rintro e w' ⟨rfl, ⟨nd, rfl⟩⟩))
  go_ret
  rename_i w1 HB1 n1
  have s1 := HB1.out.size
  exact ⟨rfl, pw_below_drewN (HB1.out.trans ((pw_below_drewN (Below.refl _ _) _).trans (HB.out.mono (by simp at s1 ⊢; omega)))) _⟩
def rCells (m : Mo) (s : St) (v : Value) : Array Value := #[.int .i64 m.n, .int .i64 m.a, .int .i64 m.b, .int .i64 m.c, .int .i64 s.level, .int .i64 s.trend, v, .int .i64 (s.k : Int)]
structure RStIn (W : World) (lo hi b g cap : Nat) (m : Mo) (s : St) : Prop where
  blk : W.heap[b]? = some (.cells (rCells m s (sl g s.parts.length cap)) 41 (0, 0))
  row : row3 W lo g cap s.parts
  inb : lo ≤ b ∧ b < hi
  ing : lo ≤ g ∧ g < hi
  top : hi ≤ W.heap.size
def RStAt (W : World) (lo hi b : Nat) (m : Mo) (s : St) : Prop := ∃ g cap, RStIn W lo hi b g cap m s
theorem RStAt.kept {W W' : World} {lo hi b : Nat} {m : Mo} {s : St} {S : Nat → Prop} (h : RStAt W lo hi b m s) (hk : Kept W W' S) (hS : ∀ k, lo ≤ k → k < hi → ¬ S k) : RStAt W' lo hi b m s := by
  obtain ⟨g, cap, h⟩ := h
  exact ⟨g, cap, (hk.2 _ (by have := h.top; have := h.inb; omega) (hS _ h.inb.1 h.inb.2)).trans h.blk, own_move h.row (fun k hk' => by
    have e : g = k := by simpa [Value.ownBlock] using hk'
    subst e
    exact hk.2 _ (by have := h.top; have := h.ing; omega) (hS _ h.ing.1 h.ing.2)), h.inb, h.ing, Nat.le_trans h.top hk.1⟩
theorem RStAt.wide {W : World} {lo hi lo' hi' b : Nat} {m : Mo} {s : St} (h : RStAt W lo hi b m s) (h1 : lo' ≤ lo) (h2 : hi ≤ hi') (h3 : hi' ≤ W.heap.size) : RStAt W lo' hi' b m s := by
  obtain ⟨g, cap, a, c, d, e, f⟩ := h
  exact ⟨g, cap, a, own_less c h1, by omega, by omega, h3⟩
end Go.Proofs.Ytemnfnbjapobcaa.Ho
end
section
namespace Go.Proofs.Ytemnfnbjapobcaa.Ho
open Go.RowKit Go.Proofs.YtemnfnbjapobcaaW.PrintWords Go.Proofs.YtemnfnbjapobcaaW.PrintLast Go.Proofs.YtemnfnbjapobcaaW.PrintMore
open Go.Proofs.Ytemnfnbjapobcaa.FS Go.Proofs.Ytemnfnbjapobcaa.HS Go.Proofs.Ytemnfnbjapobcaa.FM
set_option linter.unusedVariables false
set_option linter.unusedSimpArgs false
theorem row_below {w W : World} {lo g cap : Nat} {l : List Int} (h : row3 w lo g cap l) (hb : Below w.heap.size w W) : row3 W lo g cap l := pw_own_below h hb
set_option maxRecDepth 100000 in
set_option maxHeartbeats 4000000 in
theorem rstep_calls (lo hi b : Nat) (m : Mo) (s : St) (x : Int) (w : World) (h : RStAt w lo hi b m s) (hs : s.In) (hx : FS.In x) (hm : Mo.wIn m) (hk : s.k < 1000000000000) (hn : 0 < s.parts.length) (hl : s.parts.length ≤ 1000000000000) (hmn : m.n = (s.parts.length : Int)) :
    Calls Try.prog 31 #[.pointer (some ⟨b, 0, none⟩), .int .i64 x] w fun e w' => (∃ v, e = .returned v) ∧ RStAt w' lo hi b m (stepS m s x) ∧ Below lo w w' ∧ Kept w w' (Ran lo hi) := by
  obtain ⟨g, cap, h⟩ := h
  obtain ⟨level, trend, parts, k⟩ := s
  obtain ⟨n, ma, mb, mc⟩ := m
  obtain ⟨hw1, hw2, hw3⟩ := hm
  obtain ⟨hs1, hs2, hs3⟩ := hs
  dsimp only at hk hn hl hs1 hs2 hs3 hmn hw1 hw2 hw3
  subst hmn
  obtain ⟨j, hj⟩ : ∃ j, k % parts.length = j := ⟨_, rfl⟩
  have hjl : j < parts.length := hj ▸ Nat.mod_lt _ hn
  have hjm : Int.tmod (k : Int) (parts.length : Int) = (j : Int) := by rw [← hj]; rfl
  have hn1 : ¬ parts.length = 0 := by omega
  have hn0 : ((parts.length : Int) == 0) = false := by rw [beq_eq_false_iff_ne]; omega
  have hjl2 : (j : Int) < (parts.length : Int) := by omega
  obtain ⟨p, hp⟩ : ∃ p, rd parts (j : Int) = p := ⟨_, rfl⟩
  have hpi : FS.In p := hp ▸ allIn_getD hs3 j
  have HP := Aside0.mk hp
  have HJ := Aside0.mk hj
  clear hp hj
  have hb := h.blk
  dsimp only [rCells, sl] at hb
  have hrow : row3 w lo g cap parts := h.row
  have hbg : b ≠ g := fun e => by
    have := own_ne h.row hb (by decide)
    simp [Value.ownBlock] at this
    omega
  have HH := Aside0.mk h
  clear h
  have a1 := in_subS x p
  have a2 := in_addS level trend
  have a3 := in_mixS ma (subS x p) (addS level trend)
  have a4 := in_subS (mixS ma (subS x p) (addS level trend)) level
  have a5 := in_subS x (mixS ma (subS x p) (addS level trend))
  have a6 := in_mixS mb (subS (mixS ma (subS x p) (addS level trend)) level) trend
  have a7 := in_mixS mc (subS x (mixS ma (subS x p) (addS level trend))) p
  go_enter Try.func31, Try.ntmps31
  have c0 := blk_cell hb 0
  have c1 := blk_cell hb 1
  have c2 := blk_cell hb 2
  have c3 := blk_cell hb 3
  have c4 := blk_cell hb 4
  have c5 := blk_cell hb 5
  have c6 := blk_cell hb 6
  have c7 := blk_cell hb 7
  simp only [List.getElem?_toArray, List.getElem?_cons_zero, List.getElem?_cons_succ] at c0 c1 c2 c3 c4 c5 c6 c7
  have e0 := fun k => Ext.cell c0 k
  have e1 := fun k => Ext.cell c1 k
  have e2 := fun k => Ext.cell c2 k
  have e3 := fun k => Ext.cell c3 k
  have e4 := fun k => Ext.cell c4 k
  have e5 := fun k => Ext.cell c5 k
  have e6 := fun k => Ext.cell c6 k
  have e7 := fun k => Ext.cell c7 k
  obtain ⟨p1, p2⟩ := own_at hrow (j : Int) (by omega) (by exact_mod_cast hjl)
  rw [Int.toNat_natCast, HP.out] at p1
  rw [Int.toNat_natCast] at p2
  have ep := fun k => Ext.cell p1 k
  clear c0 c1 c2 c3 c4 c5 c6 c7 p1 p2
  have HB := Aside0.mk (And.intro hb hrow)
  clear hb hrow
  go_wp2
  refine wp_region_below (by kernel_rfl) (by kernel_rfl) ?_
  repeat (go_big_quiet_step (fail))
  refine wpQuiet_nil ?_
  rintro W1 ⟨k4, hk4⟩
  have hW1 : Below w.heap.size w W1 := hk4 ▸ k4.below
  clear e0 e1 e2 e3 e4 e5 e6 e7 ep hk4 k4
  have HW1 := Aside0.mk hW1
  clear hW1
  have hb := blk_below HB.out.1 HW1.out
  have hrow := row_below HB.out.2 HW1.out
  have c0 := blk_cell hb 0
  have c1 := blk_cell hb 1
  have c2 := blk_cell hb 2
  have c3 := blk_cell hb 3
  have c4 := blk_cell hb 4
  have c5 := blk_cell hb 5
  have c6 := blk_cell hb 6
  have c7 := blk_cell hb 7
  simp only [List.getElem?_toArray, List.getElem?_cons_zero, List.getElem?_cons_succ] at c0 c1 c2 c3 c4 c5 c6 c7
  have e0 := fun k => Ext.cell c0 k
  have e1 := fun k => Ext.cell c1 k
  have e2 := fun k => Ext.cell c2 k
  have e3 := fun k => Ext.cell c3 k
  have e4 := fun k => Ext.cell c4 k
  have e5 := fun k => Ext.cell c5 k
  have e6 := fun k => Ext.cell c6 k
  have e7 := fun k => Ext.cell c7 k
  obtain ⟨p1, p2⟩ := own_at hrow (j : Int) (by omega) (by exact_mod_cast hjl)
  rw [Int.toNat_natCast, HP.out] at p1
  rw [Int.toNat_natCast] at p2
  have ep := fun k => Ext.cell p1 k
  clear c0 c1 c2 c3 c4 c5 c6 c7 p1 p2
  have HB1 := Aside0.mk (And.intro hb hrow)
  clear hb hrow
  go_wp2
  refine wp_region_below (by kernel_rfl) (by kernel_rfl) ?_
  repeat (go_big_quiet_step ((first | (go_at_call 63; exact quietB ((rSub (by assumption) (by assumption) _).mono fun _ _ ⟨he, hw⟩ => ⟨he, hw.below⟩)) | (go_at_call 55; exact quietB ((rAdd (by assumption) (by assumption) _).mono fun _ _ ⟨he, hw⟩ => ⟨he, hw.below⟩)) | (go_at_call 72; exact quietB (rmix_calls _ _ _ (by assumption) (by assumption) (by assumption) _)))))
  refine wpQuiet_nil ?_
  rintro W2 ⟨k4, hk4⟩
  have hW2 : Below W1.heap.size W1 W2 := hk4 ▸ k4.below
  clear e0 e1 e2 e3 e4 e5 e6 e7 ep hk4 k4
  have HW2 := Aside0.mk hW2
  clear hW2
  have hb := blk_below HB1.out.1 HW2.out
  have hrow := row_below HB1.out.2 HW2.out
  have c0 := blk_cell hb 0
  have c1 := blk_cell hb 1
  have c2 := blk_cell hb 2
  have c3 := blk_cell hb 3
  have c4 := blk_cell hb 4
  have c5 := blk_cell hb 5
  have c6 := blk_cell hb 6
  have c7 := blk_cell hb 7
  simp only [List.getElem?_toArray, List.getElem?_cons_zero, List.getElem?_cons_succ] at c0 c1 c2 c3 c4 c5 c6 c7
  have e0 := fun k => Ext.cell c0 k
  have e1 := fun k => Ext.cell c1 k
  have e2 := fun k => Ext.cell c2 k
  have e3 := fun k => Ext.cell c3 k
  have e4 := fun k => Ext.cell c4 k
  have e5 := fun k => Ext.cell c5 k
  have e6 := fun k => Ext.cell c6 k
  have e7 := fun k => Ext.cell c7 k
  obtain ⟨p1, p2⟩ := own_at hrow (j : Int) (by omega) (by exact_mod_cast hjl)
  rw [Int.toNat_natCast, HP.out] at p1
  rw [Int.toNat_natCast] at p2
  have ep := fun k => Ext.cell p1 k
  clear c0 c1 c2 c3 c4 c5 c6 c7 p1 p2
  have HB2 := Aside0.mk (And.intro hb hrow)
  clear hb hrow
  go_wp2
  refine wp_region_below (by kernel_rfl) (by kernel_rfl) ?_
  repeat (go_big_quiet_step ((first | (go_at_call 63; exact quietB ((rSub (by assumption) (by assumption) _).mono fun _ _ ⟨he, hw⟩ => ⟨he, hw.below⟩)) | (go_at_call 72; exact quietB (rmix_calls _ _ _ (by assumption) (by assumption) (by assumption) _)))))
  refine wpQuiet_nil ?_
  rintro W3 ⟨k4, hk4⟩
  have hW3 : Below W2.heap.size W2 W3 := hk4 ▸ k4.below
  clear e0 e1 e2 e3 e4 e5 e6 e7 ep hk4 k4
  have HW3 := Aside0.mk hW3
  clear hW3
  have hb := blk_below HB2.out.1 HW3.out
  have hrow := row_below HB2.out.2 HW3.out
  have c0 := blk_cell hb 0
  have c1 := blk_cell hb 1
  have c2 := blk_cell hb 2
  have c3 := blk_cell hb 3
  have c4 := blk_cell hb 4
  have c5 := blk_cell hb 5
  have c6 := blk_cell hb 6
  have c7 := blk_cell hb 7
  simp only [List.getElem?_toArray, List.getElem?_cons_zero, List.getElem?_cons_succ] at c0 c1 c2 c3 c4 c5 c6 c7
  have e0 := fun k => Ext.cell c0 k
  have e1 := fun k => Ext.cell c1 k
  have e2 := fun k => Ext.cell c2 k
  have e3 := fun k => Ext.cell c3 k
  have e4 := fun k => Ext.cell c4 k
  have e5 := fun k => Ext.cell c5 k
  have e6 := fun k => Ext.cell c6 k
  have e7 := fun k => Ext.cell c7 k
  obtain ⟨p1, p2⟩ := own_at hrow (j : Int) (by omega) (by exact_mod_cast hjl)
  rw [Int.toNat_natCast, HP.out] at p1
  rw [Int.toNat_natCast] at p2
  have ep := fun k => Ext.cell p1 k
  clear c0 c1 c2 c3 c4 c5 c6 c7 p1 p2
  have HB3 := Aside0.mk (And.intro hb hrow)
  clear hb hrow
  go_wp2
  refine wp_region_below_tail 22 (by kernel_rfl) (by kernel_rfl) (fun _ _ _ _ _ h => h) ?_
  simp only [List.take_succ_cons, List.take_zero, List.drop_succ_cons, List.drop_zero]
  repeat (go_big_quiet_step ((first | (go_at_call 63; exact quietB ((rSub (by assumption) (by assumption) _).mono fun _ _ ⟨he, hw⟩ => ⟨he, hw.below⟩)) | (go_at_call 72; exact quietB (rmix_calls _ _ _ (by assumption) (by assumption) (by assumption) _)))))
  refine wpQuiet_nil ?_
  rintro W4 ⟨k4, hk4⟩
  have hW4 : Below W3.heap.size W3 W4 := hk4 ▸ k4.below
  clear e0 e1 e2 e3 e4 e5 e6 e7 ep hk4 k4
  have hb := blk_below HB3.out.1 hW4
  have hrow := row_below HB3.out.2 hW4
  have HB4 := Aside0.mk (And.intro hb (And.intro hrow hW4))
  have c4 := blk_cell hb 4
  have c5 := blk_cell hb 5
  have c7 := blk_cell hb 7
  simp only [List.getElem?_toArray, List.getElem?_cons_zero, List.getElem?_cons_succ] at c4 c5 c7
  have z : ∀ i, W4.frozen? ⟨b, i, none⟩ = false := fun i => blk_frozen hb i
  obtain ⟨p1, p2⟩ := own_at hrow (j : Int) (by omega) (by exact_mod_cast hjl)
  rw [Int.toNat_natCast, HP.out] at p1
  rw [Int.toNat_natCast] at p2
  clear hb hrow hW4
  go_wp2
  go_end0
  have h := HH.out
  obtain ⟨hb, hrow, hW4⟩ := HB4.out
  have s1 := HW1.out.size
  have s2 := HW2.out.size
  have s3 := HW3.out.size
  have BW : Below w.heap.size w W4 := ((HW1.out.trans (HW2.out.mono s1)).trans (HW3.out.mono (by omega))).trans (hW4.mono (by omega))
  have es : stepS ⟨(parts.length : Int), ma, mb, mc⟩ ⟨level, trend, parts, k⟩ x = ⟨mixS ma (subS x p) (addS level trend), mixS mb (subS (mixS ma (subS x p) (addS level trend)) level) trend, parts.set j (mixS mc (subS x (mixS ma (subS x p) (addS level trend))) p), k + 1⟩ := by
    have e : parts.getD j 0 = p := HP.out
    simp only [stepS, HJ.out, e]
  rw [es]
  obtain ⟨hin1, hin2⟩ := h.inb
  obtain ⟨hin3, hin4⟩ := h.ing
  have htop := h.top
  have kk := ((((Kept.of_below BW (Ran lo hi)).setCell (p := ⟨g, j, none⟩) (.inl h.ing) (.int .i64 (mixS mc (subS x (mixS ma (subS x p) (addS level trend))) p))).setCell (p := ⟨b, 4, none⟩) (.inl h.inb) (.int .i64 (mixS ma (subS x p) (addS level trend)))).setCell (p := ⟨b, 5, none⟩) (.inl h.inb) (.int .i64 (mixS mb (subS (mixS ma (subS x p) (addS level trend)) level) trend))).setCell (p := ⟨b, 7, none⟩) (.inl h.inb) (.int .i64 ((k : Int) + 1))
  have rw1 := own_put hrow (j : Int) (mixS mc (subS x (mixS ma (subS x p) (addS level trend))) p)
  rw [Int.toNat_natCast] at rw1
  have rw2 := own_setCell (p := ⟨b, 7, none⟩) (own_setCell (p := ⟨b, 5, none⟩) (own_setCell (p := ⟨b, 4, none⟩) rw1 (by simp [Value.ownBlock]; omega) (.int .i64 (mixS ma (subS x p) (addS level trend)))) (by simp [Value.ownBlock]; omega) (.int .i64 (mixS mb (subS (mixS ma (subS x p) (addS level trend)) level) trend))) (by simp [Value.ownBlock]; omega) (.int .i64 ((k : Int) + 1))
  refine ⟨⟨_, rfl⟩, ⟨g, cap, ?_, ?_, h.inb, h.ing, Nat.le_trans htop kk.1⟩, (((((BW.mono (by omega)).setCell (p := ⟨g, j, none⟩) hin3 _).setCell (p := ⟨b, 4, none⟩) hin1 _).setCell (p := ⟨b, 5, none⟩) hin1 _).setCell (p := ⟨b, 7, none⟩) hin1 _), kk⟩
  · refine blk_put (blk_put (blk_put (blk_far hb hbg _) 4 _ rfl) 5 _ rfl) 7 _ ?_
    simp [rCells, sl]
  · show row3 _ lo g cap (parts.set j _)
    unfold row3
    rw [List.length_set] at rw2 ⊢
    exact rw2
end Go.Proofs.Ytemnfnbjapobcaa.Ho
end
section
namespace Go.Proofs.Ytemnfnbjapobcaa.Ho
open Go.RowKit Go.Proofs.YtemnfnbjapobcaaW.PrintWords Go.Proofs.YtemnfnbjapobcaaW.PrintLast Go.Proofs.YtemnfnbjapobcaaW.PrintMore
open Go.Proofs.Ytemnfnbjapobcaa.FS Go.Proofs.Ytemnfnbjapobcaa.HS Go.Proofs.Ytemnfnbjapobcaa.FM
set_option linter.unusedVariables false
set_option linter.unusedSimpArgs false
theorem mod_same (k A n : Nat) (hA : 1 ≤ A) : (k % n + A - 1) % n = (k + A - 1) % n := by
  rw [show k % n + A - 1 = k % n + (A - 1) by omega, Nat.mod_add_mod, show k + A - 1 = k + (A - 1) by omega]
set_option maxRecDepth 100000 in
set_option maxHeartbeats 4000000 in
theorem rcastOf_calls (lo hi b : Nat) (m : Mo) (s : St) (ahead : Int) (w : World) (h : RStAt w lo hi b m s) (hs : s.In) (ha : FS.In ahead) (hk : s.k < 1000000000000) (hn : 0 < s.parts.length) (hl : s.parts.length ≤ 1000000000000) (hmn : m.n = (s.parts.length : Int)) :
    Calls Try.prog 29 #[.pointer (some ⟨b, 0, none⟩), .int .i64 ahead] w fun e w' => e = .returned (.tuple #[.int .i64 (castOf s ahead).1, .int .i64 (castOf s ahead).2]) ∧ Below w.heap.size w w' := by
  obtain ⟨g, cap, h⟩ := h
  obtain ⟨level, trend, parts, k⟩ := s
  obtain ⟨n, ma, mb, mc⟩ := m
  obtain ⟨hs1, hs2, hs3⟩ := hs
  dsimp only at hk hn hl hs1 hs2 hs3 hmn
  subst hmn
  obtain ⟨r, hr⟩ : ∃ r, castOf ⟨level, trend, parts, k⟩ ahead = r := ⟨_, rfl⟩
  rw [hr]
  obtain ⟨r1, r2⟩ := r
  have HR := Aside0.mk hr
  clear hr
  have hb := h.blk
  have hrow : row3 w lo g cap parts := h.row
  dsimp only [rCells, sl] at hb
  by_cases h1 : ahead < 1
  · obtain ⟨rfl, rfl⟩ : r1 = 0 ∧ r2 = 1 := by have := HR.out; simp only [castOf] at this; rw [if_pos (.inl h1)] at this; simpa [eq_comm] using this
    have g1 : decide (ahead < 1) = true := decide_eq_true h1
    clear h1 HR h hb hrow
    go_enter Try.func29, Try.ntmps29
    go_wp2
    go_ret2
    exact ⟨rfl, Below.refl _ _⟩
  · have g1 : decide (ahead < 1) = false := decide_eq_false h1
    by_cases h2 : 10000 < ahead
    · obtain ⟨rfl, rfl⟩ : r1 = 0 ∧ r2 = 1 := by have := HR.out; simp only [castOf] at this; rw [if_pos (.inr h2)] at this; simpa [eq_comm] using this
      have g2 : decide (10000 < ahead) = true := decide_eq_true h2
      clear h1 h2 HR h hb hrow
      go_enter Try.func29, Try.ntmps29
      go_wp2
      go_ret2
      exact ⟨rfl, Below.refl _ _⟩
    · have g2 : decide (10000 < ahead) = false := decide_eq_false h2
      obtain ⟨A, rfl⟩ := Int.eq_ofNat_of_zero_le (show 0 ≤ ahead by omega)
      obtain ⟨j, hj⟩ : ∃ j, (k + A - 1) % parts.length = j := ⟨_, rfl⟩
      have hjl : j < parts.length := hj ▸ Nat.mod_lt _ hn
      obtain ⟨p, hp⟩ : ∃ p, rd parts (j : Int) = p := ⟨_, rfl⟩
      obtain ⟨rfl, rfl⟩ : r1 = addS (addS level (mulS (ofS (A : Int)) trend)) p ∧ r2 = 0 := by
        have := HR.out
        simp only [castOf] at this
        rw [if_neg (by omega)] at this
        obtain ⟨e1, e2⟩ := Prod.mk.inj this
        refine ⟨?_, e2.symm⟩
        rw [← e1, ← hp, Int.toNat_natCast, hj]
        rfl
      have hpi : FS.In p := hp ▸ allIn_getD hs3 j
      have HP := Aside0.mk hp
      obtain ⟨q, hq⟩ : ∃ q, k % parts.length = q := ⟨_, rfl⟩
      have hql : q < parts.length := hq ▸ Nat.mod_lt _ hn
      have t1 : Int.tmod (k : Int) (parts.length : Int) = (q : Int) := by rw [← hq]; rfl
      obtain ⟨u, hu⟩ : ∃ u : Int, IntKind.i64.wrap ((q : Int) + (A : Int)) = u := ⟨_, rfl⟩
      have hu' : u = (q : Int) + A := by rw [← hu]; exact i64_wrap_id (by omega) (by omega)
      obtain ⟨u1, hu1⟩ : ∃ u1 : Int, IntKind.i64.wrap (u - 1) = u1 := ⟨_, rfl⟩
      have hu1' : u1 = ((q + A - 1 : Nat) : Int) := by rw [← hu1, hu', i64_wrap_id (by omega) (by omega)]; omega
      have hjm : Int.tmod u1 (parts.length : Int) = (j : Int) := by rw [hu1', ← hj, ← mod_same k A parts.length (by omega), hq]; rfl
      have a1 := in_ofS (A : Int)
      have a2 := in_mulS (ofS (A : Int)) trend
      have a3 := in_addS level (mulS (ofS (A : Int)) trend)
      have hjl2 : (j : Int) < (parts.length : Int) := by omega
      have hn1 : ¬ parts.length = 0 := by omega
      have hn0 : ((parts.length : Int) == 0) = false := by rw [beq_eq_false_iff_ne]; omega
      clear hu' hu1' HR hp hj hq h1 h2 h
      go_enter Try.func29, Try.ntmps29
      have c0 := blk_cell hb 0
      have c4 := blk_cell hb 4
      have c5 := blk_cell hb 5
      have c6 := blk_cell hb 6
      have c7 := blk_cell hb 7
      simp only [List.getElem?_toArray, List.getElem?_cons_zero, List.getElem?_cons_succ] at c0 c4 c5 c6 c7
      have e0 := fun k => Ext.cell c0 k
      have e4 := fun k => Ext.cell c4 k
      have e5 := fun k => Ext.cell c5 k
      have e6 := fun k => Ext.cell c6 k
      have e7 := fun k => Ext.cell c7 k
      obtain ⟨p1, p2⟩ := own_at hrow (j : Int) (by omega) (by exact_mod_cast hjl)
      rw [Int.toNat_natCast, HP.out] at p1
      rw [Int.toNat_natCast] at p2
      have ep := fun k => Ext.cell p1 k
      clear c0 c4 c5 c6 c7 p1 p2
      have HB := Aside0.mk (And.intro hb hrow)
      clear hb hrow
      go_wp2
      refine wp_region_below (by kernel_rfl) (by kernel_rfl) ?_
      repeat (go_big_quiet_step (fail))
      refine wpQuiet_nil ?_
      rintro W1 ⟨k4, hk4⟩
      have hW1 : Below w.heap.size w W1 := hk4 ▸ k4.below
      clear e0 e4 e5 e6 e7 ep hk4 k4
      have HW1 := Aside0.mk hW1
      clear hW1
      have hb := blk_below HB.out.1 HW1.out
      have hrow := row_below HB.out.2 HW1.out
      have c0 := blk_cell hb 0
      have c4 := blk_cell hb 4
      have c5 := blk_cell hb 5
      have c6 := blk_cell hb 6
      have c7 := blk_cell hb 7
      simp only [List.getElem?_toArray, List.getElem?_cons_zero, List.getElem?_cons_succ] at c0 c4 c5 c6 c7
      have e0 := fun k => Ext.cell c0 k
      have e4 := fun k => Ext.cell c4 k
      have e5 := fun k => Ext.cell c5 k
      have e6 := fun k => Ext.cell c6 k
      have e7 := fun k => Ext.cell c7 k
      obtain ⟨p1, p2⟩ := own_at hrow (j : Int) (by omega) (by exact_mod_cast hjl)
      rw [Int.toNat_natCast, HP.out] at p1
      rw [Int.toNat_natCast] at p2
      have ep := fun k => Ext.cell p1 k
      clear c0 c4 c5 c6 c7 p1 p2
      have HB1 := Aside0.mk (And.intro hb hrow)
      clear hb hrow
      go_wp2
      refine wp_region_below (by kernel_rfl) (by kernel_rfl) ?_
      repeat (go_big_quiet_step ((first | (go_at_call 21; exact quietB ((rOf (by assumption) _).mono fun _ _ ⟨he, hw⟩ => ⟨he, hw.below⟩)) | (go_at_call 70; exact quietB (rMul (by assumption) (by assumption) _)))))
      refine wpQuiet_nil ?_
      rintro W2 ⟨k4, hk4⟩
      have hW2 : Below W1.heap.size W1 W2 := hk4 ▸ k4.below
      clear e0 e4 e5 e6 e7 ep hk4 k4
      have HW2 := Aside0.mk hW2
      clear hW2
      have hb := blk_below HB1.out.1 HW2.out
      have hrow := row_below HB1.out.2 HW2.out
      have c0 := blk_cell hb 0
      have c4 := blk_cell hb 4
      have c5 := blk_cell hb 5
      have c6 := blk_cell hb 6
      have c7 := blk_cell hb 7
      simp only [List.getElem?_toArray, List.getElem?_cons_zero, List.getElem?_cons_succ] at c0 c4 c5 c6 c7
      have e0 := fun k => Ext.cell c0 k
      have e4 := fun k => Ext.cell c4 k
      have e5 := fun k => Ext.cell c5 k
      have e6 := fun k => Ext.cell c6 k
      have e7 := fun k => Ext.cell c7 k
      obtain ⟨p1, p2⟩ := own_at hrow (j : Int) (by omega) (by exact_mod_cast hjl)
      rw [Int.toNat_natCast, HP.out] at p1
      rw [Int.toNat_natCast] at p2
      have ep := fun k => Ext.cell p1 k
      clear c0 c4 c5 c6 c7 p1 p2
      have HB2 := Aside0.mk (And.intro hb hrow)
      clear hb hrow
      go_wp2
      refine wp_region_below (by kernel_rfl) (by kernel_rfl) ?_
      repeat (go_big_quiet_step ((go_at_call 55; exact quietB ((rAdd (by assumption) (by assumption) _).mono fun _ _ ⟨he, hw⟩ => ⟨he, hw.below⟩))))
      refine wpQuiet_nil ?_
      rintro W3 ⟨k4, hk4⟩
      have hW3 : Below W2.heap.size W2 W3 := hk4 ▸ k4.below
      clear e0 e4 e5 e6 e7 ep hk4 k4
      have HW3 := Aside0.mk hW3
      clear hW3
      go_wp2
      go_ret2
      have s1 := HW1.out.size
      have s2 := HW2.out.size
      exact ⟨rfl, (HW1.out.trans (HW2.out.mono s1)).trans (HW3.out.mono (by omega))⟩
end Go.Proofs.Ytemnfnbjapobcaa.Ho
end
section
namespace Go.Proofs.Ytemnfnbjapobcaa.Ho
open Go.RowKit Go.Proofs.YtemnfnbjapobcaaW.PrintWords Go.Proofs.YtemnfnbjapobcaaW.PrintLast Go.Proofs.YtemnfnbjapobcaaW.PrintMore
open Go.Proofs.Ytemnfnbjapobcaa.FS Go.Proofs.Ytemnfnbjapobcaa.HS Go.Proofs.Ytemnfnbjapobcaa.FM
set_option linter.unusedVariables false
set_option linter.unusedSimpArgs false
theorem StAt.wide {W : World} {lo hi lo' hi' b : Nat} {m : Mo} {s : St} (h : StAt W lo hi b m s) (h1 : lo' ≤ lo) (h2 : hi ≤ hi') (h3 : hi' ≤ W.heap.size) : StAt W lo' hi' b m s := by
  obtain ⟨g, cap, m1, m2, m3, h⟩ := h
  obtain ⟨a, b, c, d, e, f, g', i, j, k, l, n⟩ := h
  exact ⟨g, cap, m1, m2, m3, a, own_less b h1, c, d, e, by omega, by omega, by omega, by omega, by omega, l, h3⟩
def StartPost (w : World) (l : List Int) (m : Mo) (e : Ending) (w' : World) : Prop :=
  if startE l m ≠ 0 then e = .returned (.tuple #[.pointer none, .int .i64 1]) ∧ Below w.heap.size w w'
  else ∃ b, e = .returned (.tuple #[.pointer (some ⟨b, 0, none⟩), .int .i64 0]) ∧ StAt w' w.heap.size w'.heap.size b m (startS l m) ∧ Below w.heap.size w w'
theorem check_01 (m : Mo) : checkS m = 0 ∨ checkS m = 1 := by unfold checkS; split; exact .inr rfl; split; exact .inl rfl; exact .inr rfl
theorem okW_iff {x : Int} : okW x = true ↔ 0 ≤ x ∧ x ≤ 4294967296 := by unfold okW; simp
theorem check_ok {m : Mo} (h : checkS m = 0) : (1 ≤ m.n ∧ m.n ≤ 10000) ∧ Mo.wIn m := by
  unfold checkS at h
  split at h
  · cases h
  · split at h
    · rename_i h1 h2
      simp only [Bool.and_eq_true, okW_iff] at h2
      refine ⟨by omega, ⟨by omega, by omega⟩, ⟨by omega, by omega⟩, ⟨by omega, by omega⟩⟩
    · cases h
theorem fold_snoc (m : Mo) (l : List Int) (s : St) (k : Nat) (h : k < l.length) : (l.take (k + 1)).foldl (stepS m) s = stepS m ((l.take k).foldl (stepS m) s) (rd l (k : Int)) := by
  have e : rd l (k : Int) = l[k] := by
    show l.getD k 0 = _
    simp [List.getD_eq_getElem?_getD, List.getElem?_eq_getElem h]
  rw [List.take_succ_eq_append_getElem h, List.foldl_append, e]
  rfl
set_option maxHeartbeats 4000000 in
theorem start_calls (A : Option Addr) (c : Nat) (l : List Int) (m : Mo) (w : World) (hr : Kd.C (Kd.int .i64) w A l.length l) (hc : l.length ≤ c) (hin : AllIn l) (hm : FS.In m.n) (hll : l.length ≤ 1000000000) :
    Calls Try.prog 24 #[.slice A l.length c, moV m] w (StartPost w l m) := by
  have kc := check_calls m
  have kb := begin_calls A c l m
  obtain ⟨n, ma, mb, mc⟩ := m
  dsimp only [moV] at kb ⊢
  dsimp only at kc hm
  by_cases h1 : checkS ⟨n, ma, mb, mc⟩ = 0
  · obtain ⟨hn, hw⟩ := check_ok h1
    dsimp only at hn
    obtain ⟨N, rfl⟩ := Int.eq_ofNat_of_zero_le (show 0 ≤ n by omega)
    obtain ⟨M, hM⟩ : ∃ M, 2 * N = M := ⟨_, rfl⟩
    have e2 : wrap64 (2 * (N : Int)) = (M : Int) := by rw [wrap64_id (by omega) (by omega)]; omega
    have e3 : (2 * (N : Int)) = (M : Int) := by omega
    have b0 : (N : Int) ≤ 10000 := hn.2
    rw [h1] at kc
    have KC := Aside0.mk kc
    by_cases h3 : (l.length : Int) < 2 * (N : Int)
    · have g4 : l.length < M := by omega
      have hp : ∀ e w', e = .returned (.tuple #[.pointer none, .int .i64 1]) ∧ Below w.heap.size w w' → StartPost w l ⟨N, ma, mb, mc⟩ e w' := fun e w' h => by
        unfold StartPost
        rw [if_pos (by unfold startE; rw [if_neg (by rw [h1]; decide), if_pos h3]; decide)]
        exact h
      refine Calls.mono ?_ (fun e w' h => hp e w' h)
      clear kc kb h1 hp h3 hM hn
      go_enter Try.func24, Try.ntmps24
      go_wp2_with fail
      (with_reducible refine (KC.out _).mono ?_)
      rintro e w1 ⟨rfl, hb⟩
      have mb1 := blk_below (blk_new w _) hb
      have d0 := blk_cell mb1 0
      have d1 := blk_cell mb1 1
      have d2 := blk_cell mb1 2
      have d3 := blk_cell mb1 3
      simp only [List.getElem?_toArray, List.getElem?_cons_zero, List.getElem?_cons_succ] at d0 d1 d2 d3
      have HB1 := Aside0.mk (And.intro mb1 hb)
      clear mb1 hb
      go_wp2
      go_ret2
      exact ⟨rfl, (below_alloc (Below.refl _ _) _).trans (HB1.out.2.mono (by simp))⟩
    · have g4 : ¬ l.length < M := by omega
      have g5 : ¬ c = N := by omega
      have hl : 2 * (N : Int) ≤ (l.length : Int) := by omega
      have h0 : startE l ⟨N, ma, mb, mc⟩ = 0 := by unfold startE; rw [if_neg (by rw [h1]; decide), if_neg h3]
      have hp : ∀ e w', (∃ b, e = .returned (.tuple #[.pointer (some ⟨b, 0, none⟩), .int .i64 0]) ∧ StAt w' w.heap.size w'.heap.size b ⟨N, ma, mb, mc⟩ (startS l ⟨N, ma, mb, mc⟩) ∧ Below w.heap.size w w') → StartPost w l ⟨N, ma, mb, mc⟩ e w' := fun e w' h => by
        unfold StartPost
        rw [if_neg (by rw [h0]; decide)]
        exact h
      refine Calls.mono ?_ (fun e w' h => hp e w' h)
      have KB := Aside0.mk (fun W (h : Kd.C (Kd.int .i64) W A l.length l) => kb W h hc hin hw hn.1 hl hll)
      have HR := Aside0.mk hr
      have HN := Aside0.mk (And.intro hn (And.intro hM hl))
      have nM : N ≤ l.length := by omega
      obtain ⟨D, hD⟩ : ∃ D, l.length - N = D := ⟨_, rfl⟩
      obtain ⟨ad, rfl, _⟩ := Kd.at_int hr 0 (by omega) (by omega)
      have hd : Kd.C (Kd.int .i64) w (some (ad.add N)) D (l.drop N) := by
        have h := Kd.C_drop hr (m := N) nM hc
        rw [List.length_drop, if_neg g5, hD] at h
        simpa [show (Kd.int .i64).sz = 1 from rfl] using h
      have HD := Aside0.mk hd
      clear hd
      clear kc kb h1 hp h3 hM hn hr h0 hl
      go_enter Try.func24, Try.ntmps24
      go_wp2_with fail
      (with_reducible refine (KC.out _).mono ?_)
      rintro e w1 ⟨rfl, hb⟩
      have mb1 := blk_below (blk_new w _) hb
      have d0 := blk_cell mb1 0
      have d1 := blk_cell mb1 1
      have d2 := blk_cell mb1 2
      have d3 := blk_cell mb1 3
      simp only [List.getElem?_toArray, List.getElem?_cons_zero, List.getElem?_cons_succ] at d0 d1 d2 d3
      have HB1 := Aside0.mk (And.intro mb1 hb)
      clear mb1 hb
      go_wp2_with (go_at_call 64; (with_reducible refine (KB.out _ (Kd.C_below HR.out ((below_alloc (Below.refl _ _) _).trans (HB1.out.2.mono (by simp))))).mono ?_); rintro e w2 ⟨b, rfl, hst, hb2⟩; clear d0 d1 d2 d3; have mb2 := blk_below HB1.out.1 hb2; have d0 := blk_cell mb2 0; simp only [List.getElem?_toArray, List.getElem?_cons_zero] at d0; have HB2 := Aside0.mk (And.intro hst hb2); clear hst hb2 mb2)
      have HX : Aside0 (Below w.heap.size w w2) := ⟨((below_alloc (Below.refl _ _) _).trans (HB1.out.2.mono (by simp))).trans (HB2.out.2.mono (by have := HB1.out.2.size; simp at this; omega))⟩
      have HL : Aside0 (w.heap.size ≤ w1.heap.size) := ⟨by have := HB1.out.2.size; simp at this; omega⟩
      go_loopg [32] D (fun kq v32 W' => ∃ k : Nat, v32 = .int .i64 (k : Int) ∧ Aside0 (kq + k = D) ∧ Aside0 (StAt W' w1.heap.size w2.heap.size b ⟨N, ma, mb, mc⟩ (((l.drop N).take k).foldl (stepS ⟨N, ma, mb, mc⟩) (beginS l N)) ∧ Below w1.heap.size w2 W'))
      case atStart => exact ⟨0, rfl, ⟨rfl⟩, ⟨by simpa using HB2.out.1, Below.refl _ _⟩⟩
      case round =>
        obtain ⟨k, rfl, HK, HS⟩ := hrel
        by_cases ck : k < D
        · have c1 : decide ((k : Int) < (D : Int)) = true := decide_eq_true (by omega)
          obtain ⟨ad', e, r0⟩ := Kd.at_int (Kd.C_below HD.out (HX.out.trans (HS.out.2.mono HL.out))) (k : Int) (by omega) (by omega)
          cases e
          rw [Int.toNat_natCast] at r0
          have j1 : FS.In (rd (l.drop N) (k : Int)) := allIn_getD (allIn_drop hin N) k
          have hS1 : (((l.drop N).take k).foldl (stepS ⟨N, ma, mb, mc⟩) (beginS l N)).In := fold_in _ _ _ (begin_in l N)
          have hS2 : (((l.drop N).take k).foldl (stepS ⟨N, ma, mb, mc⟩) (beginS l N)).parts.length = N := (fold_len _ _ _).trans (begin_len l N nM)
          have hS3 : (((l.drop N).take k).foldl (stepS ⟨N, ma, mb, mc⟩) (beginS l N)).k = k := by
            rw [fold_k, List.length_take, List.length_drop, hD, Nat.min_eq_left (by omega)]
            simp [beginS]
          have SC := Aside0.mk (step_calls w1.heap.size w2.heap.size b ⟨N, ma, mb, mc⟩ _ (rd (l.drop N) (k : Int)) wr HS.out.1 hS1 j1 hw (by rw [hS3]; omega) (by rw [hS2]; have := HN.out.1.1; omega) (by rw [hS2]; omega))
          have hck := Aside0.mk ck
          clear hS1 hS2 hS3
          cases gk with
          | zero => exact absurd HK.out (by have := hck.out; omega)
          | succ k1 =>
            go_wp2_with (go_at_call 30; (with_reducible refine SC.out.mono ?_); rintro e w' ⟨⟨v, rfl⟩, hst, hb, hkp⟩; have HQ := Aside0.mk (And.intro hst hb); clear hst hb hkp)
            go_roundg k1
            case measure => omega
            case rel =>
              refine ⟨k + 1, by go_num, ⟨by have := HK.out; omega⟩, ⟨?_, HS.out.2.trans HQ.out.2⟩⟩
              rw [fold_snoc _ _ _ _ (by rw [List.length_drop, hD]; exact hck.out)]
              exact HQ.out.1
        · have c1 : decide ((k : Int) < (D : Int)) = false := decide_eq_false (by omega)
          have hS2 : (((l.drop N).take k).foldl (stepS ⟨N, ma, mb, mc⟩) (beginS l N)) = startS l ⟨N, ma, mb, mc⟩ := by
            rw [List.take_of_length_le (by rw [List.length_drop, hD]; omega)]
            simp [startS]
          have HQ := Aside0.mk hS2
          clear hS2
          go_wp2
          go_ret2
          have hsz := HS.out.2.size
          refine ⟨b, rfl, ?_, HX.out.trans (HS.out.2.mono HL.out)⟩
          rw [← HQ.out]
          exact HS.out.1.wide HL.out hsz (Nat.le_refl _)
  · have h2 : checkS ⟨n, ma, mb, mc⟩ = 1 := (check_01 _).resolve_left h1
    have hp : ∀ e w', e = .returned (.tuple #[.pointer none, .int .i64 1]) ∧ Below w.heap.size w w' → StartPost w l ⟨n, ma, mb, mc⟩ e w' := fun e w' h => by
      unfold StartPost
      rw [if_pos (by unfold startE; rw [if_pos h1]; decide)]
      exact h
    rw [h2] at kc
    have KC := Aside0.mk kc
    refine Calls.mono ?_ (fun e w' h => hp e w' h)
    clear kc kb h1 h2 hp
    go_enter Try.func24, Try.ntmps24
    go_wp2_with (go_at_call 33; (with_reducible refine (KC.out _).mono ?_); rintro e w' ⟨rfl, hb⟩)
    go_ret2
    exact ⟨rfl, (below_alloc (Below.refl _ _) _).trans (hb.mono (by simp))⟩
end Go.Proofs.Ytemnfnbjapobcaa.Ho
end
section
namespace Go.Proofs.Ytemnfnbjapobcaa.Ho
open Go.RowKit Go.Proofs.YtemnfnbjapobcaaW.PrintWords Go.Proofs.YtemnfnbjapobcaaW.PrintLast Go.Proofs.YtemnfnbjapobcaaW.PrintMore
open Go.Proofs.Ytemnfnbjapobcaa.FS Go.Proofs.Ytemnfnbjapobcaa.HS Go.Proofs.Ytemnfnbjapobcaa.FM
set_option linter.unusedVariables false
set_option linter.unusedSimpArgs false
set_option maxHeartbeats 2000000 in
theorem rcheck_calls (m : Mo) (w : World) :
    Calls Try.prog 32 #[.agg #[.int .i64 m.n, .int .i64 m.a, .int .i64 m.b, .int .i64 m.c]] w fun e w' => e = .returned (.int .i64 (checkS m)) ∧ Below w.heap.size w w' := by
  obtain ⟨n, a, b, c⟩ := m
  obtain ⟨r, hr⟩ : ∃ r, checkS ⟨n, a, b, c⟩ = r := ⟨_, rfl⟩
  rw [hr]
  have HR := Aside0.mk hr
  clear hr
  dsimp only
  by_cases h1 : n < 1
  · have g1 : decide (n < 1) = true := decide_eq_true h1
    obtain rfl : r = 1 := by rw [← HR.out]; simp [checkS, okW]; try omega
    clear HR
    go_enter Try.func32, Try.ntmps32
    go_wp2
    go_ret
    exact ⟨rfl, below_alloc (Below.refl _ _) _⟩
  · have g1 : decide (n < 1) = false := decide_eq_false h1
    by_cases h2 : 10000 < n
    · have g2 : decide (10000 < n) = true := decide_eq_true h2
      obtain rfl : r = 1 := by rw [← HR.out]; simp [checkS, okW]; try omega
      clear HR
      go_enter Try.func32, Try.ntmps32
      go_wp2
      go_ret
      exact ⟨rfl, below_alloc (Below.refl _ _) _⟩
    · have g2 : decide (10000 < n) = false := decide_eq_false h2
      by_cases a1 : a < 0
      · have a1' : decide (a < 0) = true := decide_eq_true a1
        obtain rfl : r = 1 := by rw [← HR.out]; simp [checkS, okW]; try omega
        clear HR
        go_enter Try.func32, Try.ntmps32
        go_wp2
        refine wp_loop_rounds 4 ?_
        rw [rounds_succ]
        go_wp2
        go_ret
        exact ⟨rfl, below_alloc (below_alloc (Below.refl _ _) _) _⟩
      · have a1' : decide (a < 0) = false := decide_eq_false a1
        by_cases a2 : 4294967296 < a
        · have a2' : decide (4294967296 < a) = true := decide_eq_true a2
          obtain rfl : r = 1 := by rw [← HR.out]; simp [checkS, okW]; try omega
          clear HR
          go_enter Try.func32, Try.ntmps32
          go_wp2
          refine wp_loop_rounds 4 ?_
          rw [rounds_succ]
          go_wp2
          go_ret
          exact ⟨rfl, below_alloc (below_alloc (Below.refl _ _) _) _⟩
        · have a2' : decide (4294967296 < a) = false := decide_eq_false a2
          by_cases b1 : b < 0
          · have b1' : decide (b < 0) = true := decide_eq_true b1
            obtain rfl : r = 1 := by rw [← HR.out]; simp [checkS, okW]; try omega
            clear HR
            go_enter Try.func32, Try.ntmps32
            go_wp2
            refine wp_loop_rounds 4 ?_
            rw [rounds_succ]
            go_wp2
            rw [rounds_succ]
            go_wp2
            go_ret
            exact ⟨rfl, below_alloc (below_alloc (Below.refl _ _) _) _⟩
          · have b1' : decide (b < 0) = false := decide_eq_false b1
            by_cases b2 : 4294967296 < b
            · have b2' : decide (4294967296 < b) = true := decide_eq_true b2
              obtain rfl : r = 1 := by rw [← HR.out]; simp [checkS, okW]; try omega
              clear HR
              go_enter Try.func32, Try.ntmps32
              go_wp2
              refine wp_loop_rounds 4 ?_
              rw [rounds_succ]
              go_wp2
              rw [rounds_succ]
              go_wp2
              go_ret
              exact ⟨rfl, below_alloc (below_alloc (Below.refl _ _) _) _⟩
            · have b2' : decide (4294967296 < b) = false := decide_eq_false b2
              by_cases c1 : c < 0
              · have c1' : decide (c < 0) = true := decide_eq_true c1
                obtain rfl : r = 1 := by rw [← HR.out]; simp [checkS, okW]; try omega
                clear HR
                go_enter Try.func32, Try.ntmps32
                go_wp2
                refine wp_loop_rounds 4 ?_
                rw [rounds_succ]
                go_wp2
                rw [rounds_succ]
                go_wp2
                rw [rounds_succ]
                go_wp2
                go_ret
                exact ⟨rfl, below_alloc (below_alloc (Below.refl _ _) _) _⟩
              · have c1' : decide (c < 0) = false := decide_eq_false c1
                by_cases c2 : 4294967296 < c
                · have c2' : decide (4294967296 < c) = true := decide_eq_true c2
                  obtain rfl : r = 1 := by rw [← HR.out]; simp [checkS, okW]; try omega
                  clear HR
                  go_enter Try.func32, Try.ntmps32
                  go_wp2
                  refine wp_loop_rounds 4 ?_
                  rw [rounds_succ]
                  go_wp2
                  rw [rounds_succ]
                  go_wp2
                  rw [rounds_succ]
                  go_wp2
                  go_ret
                  exact ⟨rfl, below_alloc (below_alloc (Below.refl _ _) _) _⟩
                · have c2' : decide (4294967296 < c) = false := decide_eq_false c2
                  obtain rfl : r = 0 := by rw [← HR.out]; simp [checkS, okW]; try omega
                  clear HR
                  go_enter Try.func32, Try.ntmps32
                  go_wp2
                  refine wp_loop_rounds 4 ?_
                  rw [rounds_succ]
                  go_wp2
                  rw [rounds_succ]
                  go_wp2
                  rw [rounds_succ]
                  go_wp2
                  rw [rounds_succ]
                  go_wp2
                  go_ret
                  exact ⟨rfl, below_alloc (below_alloc (Below.refl _ _) _) _⟩
end Go.Proofs.Ytemnfnbjapobcaa.Ho
end
section
namespace Go.Proofs.Ytemnfnbjapobcaa.Ho
open Go.RowKit Go.Proofs.YtemnfnbjapobcaaW.PrintWords Go.Proofs.YtemnfnbjapobcaaW.PrintLast Go.Proofs.YtemnfnbjapobcaaW.PrintMore
open Go.Proofs.Ytemnfnbjapobcaa.FS Go.Proofs.Ytemnfnbjapobcaa.HS Go.Proofs.Ytemnfnbjapobcaa.FM
set_option linter.unusedVariables false
set_option linter.unusedSimpArgs false
def RStartPost (w : World) (l : List Int) (m : Mo) (e : Ending) (w' : World) : Prop :=
  if startE l m ≠ 0 then e = .returned (.tuple #[.pointer none, .int .i64 1]) ∧ Below w.heap.size w w'
  else ∃ b, e = .returned (.tuple #[.pointer (some ⟨b, 0, none⟩), .int .i64 0]) ∧ RStAt w' w.heap.size w'.heap.size b m (startS l m) ∧ Below w.heap.size w w'
structure RLay (V W : World) (lo b : Nat) (cs : Value → Array Value) (v : Value) (l : List Int) : Prop where
  blk : W.heap[b]? = some (.cells (cs v) 41 (0, 0))
  row : W.ownsRow (b + 1) 3 1 v l.length (nums .i64 l)
  kept : Kept V W (· = b)
  below : Below lo V W
set_option maxRecDepth 100000 in
set_option maxHeartbeats 8000000 in
theorem rstart_calls (A : Option Addr) (c : Nat) (l : List Int) (m : Mo) (w : World) (hr : Kd.C (Kd.int .i64) w A l.length l) (hc : l.length ≤ c) (hin : AllIn l) (hm : FS.In m.n) (hll : l.length ≤ 1000000000) :
    Calls Try.prog 25 #[.slice A l.length c, moV m] w (RStartPost w l m) := by
  have kc := rcheck_calls m
  obtain ⟨n, ma, mb, mc⟩ := m
  dsimp only [moV] at ⊢
  dsimp only at kc hm
  by_cases h1 : checkS ⟨n, ma, mb, mc⟩ = 0
  · obtain ⟨hn, hw⟩ := check_ok h1
    dsimp only at hn
    obtain ⟨N, rfl⟩ := Int.eq_ofNat_of_zero_le (show 0 ≤ n by omega)
    have b0 : (N : Int) ≤ 10000 := hn.2
    rw [h1] at kc
    have KC := Aside0.mk kc
    by_cases h3 : (l.length : Int) < 2 * (N : Int)
    · have g4 : l.length / 2 < N := by omega
      have hp : ∀ e w', e = .returned (.tuple #[.pointer none, .int .i64 1]) ∧ Below w.heap.size w w' → RStartPost w l ⟨N, ma, mb, mc⟩ e w' := fun e w' h => by
        unfold RStartPost
        rw [if_pos (by unfold startE; rw [if_neg (by rw [h1]; decide), if_pos h3]; decide)]
        exact h
      refine Calls.mono ?_ (fun e w' h => hp e w' h)
      clear kc h1 hp h3 hn
      go_enter Try.func25, Try.ntmps25
      go_wp2_with (go_at_call 32; (with_reducible refine (KC.out _).mono ?_); rintro e w1 ⟨rfl, hb⟩; have mb1 := blk_below (blk_new w _) hb; have d0 := blk_cell mb1 0; simp only [List.getElem?_toArray, List.getElem?_cons_zero, List.getElem?_cons_succ] at d0; have HB1 := Aside0.mk (And.intro mb1 hb); clear mb1 hb)
      go_ret2
      exact ⟨rfl, (below_alloc (Below.refl _ _) _).trans (HB1.out.2.mono (by simp))⟩
    · have g4 : ¬ l.length / 2 < N := by omega
      have hl : 2 * (N : Int) ≤ (l.length : Int) := by omega
      have h0 : startE l ⟨N, ma, mb, mc⟩ = 0 := by unfold startE; rw [if_neg (by rw [h1]; decide), if_neg h3]
      have hp : ∀ e w', (∃ b, e = .returned (.tuple #[.pointer (some ⟨b, 0, none⟩), .int .i64 0]) ∧ RStAt w' w.heap.size w'.heap.size b ⟨N, ma, mb, mc⟩ (startS l ⟨N, ma, mb, mc⟩) ∧ Below w.heap.size w w') → RStartPost w l ⟨N, ma, mb, mc⟩ e w' := fun e w' h => by
        unfold RStartPost
        rw [if_neg (by rw [h0]; decide)]
        exact h
      refine Calls.mono ?_ (fun e w' h => hp e w' h)
      have HR := Aside0.mk hr
      have nM : 2 * N ≤ l.length := by omega
      have n0 : 1 ≤ N := by omega
      obtain ⟨ad, rfl, _⟩ := Kd.at_int hr 0 (by omega) (by omega)
      have HW := Aside0.mk hw
      clear kc h1 hp h3 hr h0 hw
      go_enter Try.func25, Try.ntmps25
      go_wp2_with (go_at_call 32; (with_reducible refine (KC.out _).mono ?_); rintro e w1 ⟨rfl, hb⟩; have mb1 := blk_below (blk_new w _) hb; have d0 := blk_cell mb1 0; simp only [List.getElem?_toArray, List.getElem?_cons_zero, List.getElem?_cons_succ] at d0; have HB1 := Aside0.mk (And.intro mb1 hb); clear mb1 hb)
      have HX : Aside0 (Below w.heap.size w w1) := ⟨(below_alloc (Below.refl _ _) _).trans (HB1.out.2.mono (by simp))⟩
      go_loopg [7, 8, 9] N (fun kq v7 v8 v9 W' => ∃ k m : Nat, v7 = .int .i64 (sumS (l.take k)) ∧ v8 = .int .i64 (sumS ((l.drop N).take k)) ∧ v9 = .int .i64 (k : Int) ∧ Aside0 (kq + k = N) ∧ W' = w1.drewN m)
      case atStart => exact ⟨0, 0, rfl, rfl, rfl, ⟨rfl⟩, rfl⟩
      case round =>
        obtain ⟨k, q, rfl, rfl, rfl, HK, rfl⟩ := hrel
        have i1 := in_sumS (l.take k)
        have i2 := in_sumS ((l.drop N).take k)
        by_cases ck : k < N
        · have c1 : decide ((k : Int) < (N : Int)) = true := decide_eq_true (by omega)
          obtain ⟨T, hT⟩ : ∃ T, N + k = T := ⟨_, rfl⟩
          obtain ⟨ad', e, r0⟩ := Kd.at_int (Kd.C_below HR.out HX.out) (k : Int) (by omega) (by omega)
          cases e
          obtain ⟨ad', e, r1⟩ := Kd.at_int (Kd.C_below HR.out HX.out) (T : Int) (by omega) (by omega)
          cases e
          rw [Int.toNat_natCast] at r0 r1
          have j1 : FS.In (rd l (k : Int)) := allIn_getD hin k
          obtain ⟨y, hy⟩ : ∃ y, rd l (T : Int) = y := ⟨_, rfl⟩
          have j2 : FS.In y := hy ▸ allIn_getD hin T
          rw [hy] at r1
          have e1 : wrap64 ((N : Int) + (k : Int)) = (T : Int) := by rw [wrap64_id (by omega) (by omega)]; omega
          have e3 : (N : Int) + (k : Int) = (T : Int) := by omega
          have s1 := sum_step l k (by omega)
          have s2 : sumS ((l.drop N).take (k + 1)) = addS (sumS ((l.drop N).take k)) y := by
            rw [sum_step (l.drop N) k (by rw [List.length_drop]; omega), ← hy]
            congr 1
            show (l.drop N).getD k 0 = l.getD T 0
            rw [← hT]
            simp [List.getD_eq_getElem?_getD]
          have HS := Aside0.mk (And.intro s1 s2)
          have q1 : T < l.length := by omega
          clear s1 s2 hy hT
          have q2 : k < l.length := by omega
          cases gk with
          | zero => exact absurd HK.out (by omega)
          | succ k1 =>
            go_wp2_with (go_at_call 55; (with_reducible refine (rAdd (by assumption) (by assumption) _).mono ?_); rintro e w' ⟨rfl, ⟨nd, rfl⟩⟩)
            go_roundg k1
            case measure => omega
            case rel => exact ⟨k + 1, _, by rw [HS.out.1], by rw [HS.out.2], by go_num, ⟨by have := HK.out; omega⟩, rfl⟩
        · have c1 : decide ((k : Int) < (N : Int)) = false := decide_eq_false (by omega)
          obtain rfl : k = N := by have := HK.out; omega
          have i3 : FS.In (k : Int) := ⟨by omega, by omega⟩
          have i4 := in_ofS (k : Int)
          have t1 : (l.take k).length = k := by simp; omega
          have t2 : ((l.drop k).take k).length = k := by simp; omega
          obtain ⟨av, hav⟩ : ∃ av, divS (sumS (l.take k)) (ofS (k : Int)) = av := ⟨_, rfl⟩
          obtain ⟨bv, hbv⟩ : ∃ bv, divS (sumS ((l.drop k).take k)) (ofS (k : Int)) = bv := ⟨_, rfl⟩
          have i5 : FS.In av := hav ▸ in_divS _ _
          have i6 : FS.In bv := hbv ▸ in_divS _ _
          have hav2 : meanS (l.take k) = av := by unfold meanS; rw [t1]; exact hav
          have hbv2 : meanS ((l.drop k).take k) = bv := by unfold meanS; rw [t2]; exact hbv
          have i7 := in_subS bv av
          obtain ⟨tr, htr⟩ : ∃ tr, divS (subS bv av) (ofS (k : Int)) = tr := ⟨_, rfl⟩
          have HV := Aside0.mk (And.intro hav (And.intro hbv (And.intro hav2 (And.intro hbv2 htr))))
          clear hav hbv hav2 hbv2 t1 t2 htr
          have c2 : ¬ (k < k) := by omega
          have mb1 := blk_drewN HB1.out.1 q
          go_wp2_with (first | (go_at_call 21; (with_reducible refine (rOf (by assumption) _).mono ?_); rintro e w' ⟨rfl, ⟨nd, rfl⟩⟩) | (go_at_call 65; (with_reducible refine (rDiv (by assumption) (by assumption) _).mono ?_); rintro e w' ⟨rfl, hb⟩; have HD := Aside0.mk hb; clear hb))
          rename_i w2 HD1 K2 hK2
          rw [HV.out.1, HV.out.2.1]
          have hz1 := HD1.out.size
          simp at hz1
          have BX : Below w.heap.size w w' := ((pw_below_drewN HX.out _).trans (HD1.out.mono (by simpa using HX.out.size))).trans (HD.out.mono (by have := HX.out.size; omega))
          have mb2 := blk_below (blk_below (blk_drewN HB1.out.1 _) HD1.out) HD.out
          have d0' := blk_cell mb2 0
          have d1' := blk_cell mb2 1
          have d2' := blk_cell mb2 2
          have d3' := blk_cell mb2 3
          simp only [List.getElem?_toArray, List.getElem?_cons_zero, List.getElem?_cons_succ] at d0' d1' d2' d3'
          have e0 := fun k => Ext.cell d0' k
          have e1 := fun k => Ext.cell d1' k
          have e2 := fun k => Ext.cell d2' k
          have e3 := fun k => Ext.cell d3' k
          have HBX := Aside0.mk (And.intro BX mb2)
          clear d0' d1' d2' d3' mb2 BX hz1 d0 mb1
          refine wp_region_below_tail 8 (by kernel_rfl) (by kernel_rfl) (fun _ _ _ _ _ h => h) ?_
          simp only [List.take_succ_cons, List.take_zero, List.drop_succ_cons, List.drop_zero]
          repeat (go_big_quiet_step ((first | (go_at_call 63; exact quietB ((rSub (by assumption) (by assumption) _).mono fun _ _ ⟨he, hw⟩ => ⟨he, hw.below⟩)) | (go_at_call 65; exact quietB (rDiv (by assumption) (by assumption) _)))))
          refine wpQuiet_nil ?_
          rintro W5 ⟨k4, hk4⟩
          have hW5 : Below w'.heap.size w' W5 := hk4 ▸ k4.below
          clear e0 e1 e2 e3 hk4 k4
          rw [HV.out.2.2.2.2]
          have mb5 := blk_below HBX.out.2 hW5
          have B5 : Below w.heap.size w W5 := HBX.out.1.trans (hW5.mono HBX.out.1.size)
          have d0 := blk_cell mb5 0
          simp only [List.getElem?_toArray, List.getElem?_cons_zero, List.getElem?_cons_succ] at d0
          have H5 := Aside0.mk (And.intro mb5 B5)
          clear mb5 B5 hW5
          go_wp2
          obtain ⟨V, hV⟩ : ∃ V, W5.alloc (.cells #[.int .i64 (k : Int), .int .i64 ma, .int .i64 mb, .int .i64 mc, .int .i64 av, .int .i64 tr, .slice none 0 0, .int .i64 0] 41) = V := ⟨_, rfl⟩
          rw [hV]
          obtain ⟨B, hB⟩ : ∃ B, W5.heap.size = B := ⟨_, rfl⟩
          rw [hB]
          have hbV : V.heap[B]? = some (.cells #[.int .i64 (k : Int), .int .i64 ma, .int .i64 mb, .int .i64 mc, .int .i64 av, .int .i64 tr, .slice none 0 0, .int .i64 0] 41 (0, 0)) := by
            rw [← hV, ← hB]
            exact blk_new W5 _
          have hVz : V.heap.size = B + 1 := by rw [← hV, ← hB]; simp
          have hlt : w.heap.size < B := by rw [← hB]; exact blk_lt H5.out.1
          have BV : Below w.heap.size w V := by rw [← hV]; exact below_alloc_ H5.out.2 H5.out.2.size _
          have mbV : V.heap[w.heap.size]? = some (.cells #[.int .i64 (k : Int), .int .i64 ma, .int .i64 mb, .int .i64 mc] 29 (0, 0)) := by rw [← hV]; exact blk_alloc H5.out.1 _
          have hadl : ∀ i, i < l.length → (ad.add i).block < w.heap.size := fun i hi => by
            obtain ⟨ad', e, r0⟩ := Kd.at_int HR.out (i : Int) (by omega) (by omega)
            cases e
            rw [Int.toNat_natCast] at r0
            exact World.block_lt_of_cell? _ _ r0
          have L0 : RLay V V w.heap.size B (fun v => #[.int .i64 (k : Int), .int .i64 ma, .int .i64 mb, .int .i64 mc, .int .i64 av, .int .i64 tr, v, .int .i64 0]) (.slice none 0 0) [] :=
            ⟨hbV, own_nil _ _ _ _, Kept.refl _ _, Below.refl _ _⟩
          have G := Aside0.mk (And.intro (And.intro hlt hVz) (And.intro BV (And.intro mbV (fun i (hi : i < k) => Nat.lt_trans (hadl i (by omega)) hlt))))
          have GL := Aside0.mk L0
          have HC2 := Aside0.mk c2
          clear hbV hVz hlt BV mbV hadl L0 hV hB d0 c2
          go_loopg [12] k (fun kq v12 W' => ∃ (i : Nat) (v : Value), v12 = .int .i64 (i : Int) ∧ Aside0 (kq + i = k) ∧ Aside0 (RLay V W' w.heap.size B (fun v => #[.int .i64 (k : Int), .int .i64 ma, .int .i64 mb, .int .i64 mc, .int .i64 av, .int .i64 tr, v, .int .i64 0]) v (((l.take k).take i).map (fun x => subS x av))))
          case atStart => exact ⟨0, _, rfl, ⟨rfl⟩, by simpa using GL⟩
          case round =>
            obtain ⟨i, v, rfl, HK, HL⟩ := hrel
            have mbi : wr.heap[w.heap.size]? = some (.cells #[.int .i64 (k : Int), .int .i64 ma, .int .i64 mb, .int .i64 mc] 29 (0, 0)) := (HL.out.kept.2 _ (by have := G.out.1; omega) (by have := G.out.1; omega)).trans G.out.2.2.1
            have d0 := blk_cell mbi 0
            simp only [List.getElem?_toArray, List.getElem?_cons_zero, List.getElem?_cons_succ] at d0
            have MB := Aside0.mk mbi
            clear mbi
            by_cases ci : i < k
            · have c1 : decide ((i : Int) < (k : Int)) = true := decide_eq_true (by omega)
              obtain ⟨ad', e, u3⟩ := Kd.at_int (Kd.C_below HR.out (G.out.2.1.trans HL.out.below)) (i : Int) (by omega) (by omega)
              cases e
              rw [Int.toNat_natCast] at u3
              have j1 : FS.In (rd l (i : Int)) := allIn_getD hin i
              have u2 := blk_cell HL.out.blk 6
              simp only [List.getElem?_toArray, List.getElem?_cons_zero, List.getElem?_cons_succ] at u2
              have il : i < l.length := by omega
              go_wp2
              refine start_ (n := 16) (S := fun w' => w'.cell? ⟨B, 6, none⟩ = some v ∧ w'.cell? (ad.add i) = some (.int .i64 (rd l (i : Int)))) (ds := [15]) #[false, false, false, false, false, false, false, false, false, false, false, false, false, false, false, false] (by kernel_rfl) rfl rfl ⟨u2, u3⟩ (fun hHeld => ?_)
              refine pure_ (i := 0) (N := some 70) (v := ?_) (a' := ?_) #[true, false, false, false, false, false, false, false, false, false, false, false, false, false, false, false] rfl rfl (by kernel_rfl) (fun _ _ _ h => h) (Or.inl ⟨by rfl, ?_⟩) ?_ ?_
              rotate_left
              · intro w'
                go_simp
                with_reducible rfl
              rotate_left
              · simp only [Act.put, List.setIfInBounds_toArray, List.set_cons_zero, List.set_cons_succ, i64_w, i32_w]
                rfl
              refine pure_ (i := 1) (N := some 71) (v := ?_) (a' := ?_) #[true, true, false, false, false, false, false, false, false, false, false, false, false, false, false, false] rfl rfl (by kernel_rfl) (fun _ _ _ h => h) (Or.inl ⟨by rfl, ?_⟩) ?_ ?_
              rotate_left
              · intro w'
                go_simp
                with_reducible rfl
              rotate_left
              · simp only [Act.put, List.setIfInBounds_toArray, List.set_cons_zero, List.set_cons_succ, i64_w, i32_w]
                rfl
              refine pure_ (i := 2) (N := some 72) (v := ?_) (a' := ?_) #[true, true, true, false, false, false, false, false, false, false, false, false, false, false, false, false] rfl rfl (by kernel_rfl) (fun _ _ _ h => h) (Or.inl ⟨by rfl, ?_⟩) ?_ ?_
              rotate_left
              · intro w'
                go_simp
                with_reducible rfl
              rotate_left
              · simp only [Act.put, List.setIfInBounds_toArray, List.set_cons_zero, List.set_cons_succ, i64_w, i32_w]
                rfl
              refine pure_ (i := 3) (N := some 73) (v := ?_) (a' := ?_) #[true, true, true, true, false, false, false, false, false, false, false, false, false, false, false, false] rfl rfl (by kernel_rfl) (fun _ _ _ h => h) (Or.inl ⟨by rfl, ?_⟩) ?_ ?_
              rotate_left
              · intro w'
                go_simp
                with_reducible rfl
              rotate_left
              · simp only [Act.put, List.setIfInBounds_toArray, List.set_cons_zero, List.set_cons_succ, i64_w, i32_w]
                rfl
              refine pure_ (i := 5) (N := some 75) (v := ?_) (a' := ?_) #[true, true, true, true, false, true, false, false, false, false, false, false, false, false, false, false] rfl rfl (by kernel_rfl) (fun _ _ _ h => h) (Or.inl ⟨by rfl, ?_⟩) ?_ ?_
              rotate_left
              · intro w'
                go_simp
                with_reducible rfl
              rotate_left
              · simp only [Act.put, List.setIfInBounds_toArray, List.set_cons_zero, List.set_cons_succ, i64_w, i32_w]
                rfl
              refine pure_ (i := 6) (N := some 76) (v := ?_) (a' := ?_) #[true, true, true, true, false, true, true, false, false, false, false, false, false, false, false, false] rfl rfl (by kernel_rfl) (fun _ _ _ h => h) (Or.inl ⟨by rfl, ?_⟩) ?_ ?_
              rotate_left
              · intro w'
                go_simp
                with_reducible rfl
              rotate_left
              · simp only [Act.put, List.setIfInBounds_toArray, List.set_cons_zero, List.set_cons_succ, i64_w, i32_w]
                rfl
              refine pure_ (i := 7) (N := some 77) (v := ?_) (a' := ?_) #[true, true, true, true, false, true, true, true, false, false, false, false, false, false, false, false] rfl rfl (by kernel_rfl) (fun _ _ _ h => h) (Or.inl ⟨by rfl, ?_⟩) ?_ ?_
              rotate_left
              · intro w'
                go_simp
                with_reducible rfl
              rotate_left
              · simp only [Act.put, List.setIfInBounds_toArray, List.set_cons_zero, List.set_cons_succ, i64_w, i32_w]
                rfl
              refine pure_ (i := 9) (N := some 79) (v := ?_) (a' := ?_) #[true, true, true, true, false, true, true, true, false, true, false, false, false, false, false, false] rfl rfl (by kernel_rfl) (fun _ _ _ h => h) (Or.inl ⟨by rfl, ?_⟩) ?_ ?_
              rotate_left
              · intro w'
                go_simp
                with_reducible rfl
              rotate_left
              · simp only [Act.put, List.setIfInBounds_toArray, List.set_cons_zero, List.set_cons_succ, i64_w, i32_w]
                rfl
              refine take_ (i := 4) (N := some 74) (v := ?_) (a' := ?_) #[true, true, true, true, true, true, true, true, false, true, false, false, false, false, false, false] rfl rfl (by kernel_rfl) (fun _ _ _ h => h) (Or.inl ⟨by rfl, ?_⟩) hHeld ?_ ?_
              rotate_left
              · rintro w' ⟨s0, s1⟩
                go_simp
                with_reducible rfl
              rotate_left
              · simp only [Act.put, List.setIfInBounds_toArray, List.set_cons_zero, List.set_cons_succ, i64_w, i32_w]
                rfl
              refine take_ (i := 8) (N := some 78) (v := ?_) (a' := ?_) #[true, true, true, true, true, true, true, true, true, true, false, false, false, false, false, false] rfl rfl (by kernel_rfl) (fun _ _ _ h => h) (Or.inl ⟨by rfl, ?_⟩) hHeld ?_ ?_
              rotate_left
              · rintro w' ⟨s0, s1⟩
                go_simp
                with_reducible rfl
              rotate_left
              · simp only [Act.put, List.setIfInBounds_toArray, List.set_cons_zero, List.set_cons_succ, i64_w, i32_w]
                rfl
              refine one_ (i := 10) (N := some 80) #[true, true, true, true, true, true, true, true, true, true, true, false, false, false, false, false] rfl rfl (by kernel_rfl) (by decide) (fun K hK => ?_)
              refine goes_ Try.func63 (by kernel_rfl) rfl #[.int .i64 (rd l (i : Int)), .int .i64 av] (by rfl) rfl rfl (by simp [Act.eval]) ?_
              refine (rSub j1 i5 _).mono ?_
              rintro e w' ⟨rfl, ⟨nd, rfl⟩⟩
              refine ⟨_, rfl, hK.out _ _ hHeld (fun hHeld => ?_)⟩
              clear hK K
              refine norm_ (by simp only [Act.put, List.setIfInBounds_toArray, List.set_cons_zero, List.set_cons_succ, i64_w, i32_w]; rfl) ?_
              refine one_ (i := 11) (N := some 81) #[true, true, true, true, true, true, true, true, true, true, true, true, false, false, false, false] rfl rfl (by kernel_rfl) (by decide) (fun K hK => ?_)
              refine value_ (w1 := (wr.drew.drewN nd).alloc (.cells #[.int .i64 (subS (rd l (i : Int)) av)] 3)) (v := .slice (some ⟨wr.heap.size, 0, none⟩) 1 1) (by rfl) rfl (by go_simp) ?_
              refine hK.out _ _ ⟨cell_alloc hHeld.1 _, cell_alloc hHeld.2 _⟩ (fun hHeld => ?_)
              clear hK K
              refine norm_ (by simp only [Act.put, List.setIfInBounds_toArray, List.set_cons_zero, List.set_cons_succ, i64_w, i32_w]; rfl) ?_
              refine one_ (i := 12) (N := some 82) #[true, true, true, true, true, true, true, true, true, true, true, true, true, false, false, false] rfl rfl (by kernel_rfl) (by decide) (fun K hK => ?_)
              have hlk := parts_len l av (show i ≤ k by omega) (show k ≤ l.length by omega)
              obtain ⟨gB, gz⟩ : w.heap.size < B ∧ V.heap.size = B + 1 := G.out.1
              have gz2 := HL.out.kept.1
              refine step_append_cells (w0 := wr.drew.drewN nd) (W := wr.drew.drewN nd) (B + 1) (by rfl) (.tmp 74) (.tmp 81) 23 3 (.int .i64 0) 1 8 rfl Try.underlying23 info3 rfl (by decide) (by decide) v _ _ [.int .i64 (subS (rd l (i : Int)) av)] (by simp [Act.eval]) (by simp [Act.eval]) rfl (by intro u hu; simp at hu; subst hu; rfl) (pw_own_drewN (own_drew HL.out.row) nd) (Below.refl _ _) (by simp; omega) (by rw [hlk]; omega) ?_
              intro v1 w1 hown hbel hgr hat
              have hHeld2 := (hbel.cell (p := ⟨B, 6, none⟩) (by simp)).trans (cell_of_alloc hHeld.1 (by simp; omega))
              have hHeld3 := (hbel.cell (p := ad.add i) (by have := G.out.2.2.2 i (by omega); omega)).trans (cell_of_alloc hHeld.2 (by have := G.out.2.2.2 i (by omega); simp; omega))
              refine hK.out _ _ ⟨hHeld2, hHeld3⟩ (fun hHeld => ?_)
              clear hK K
              refine norm_ (by simp only [Act.put, List.setIfInBounds_toArray, List.set_cons_zero, List.set_cons_succ, i64_w, i32_w]; rfl) ?_
              refine pure_ (i := 13) (N := some 83) (v := ?_) (a' := ?_) #[true, true, true, true, true, true, true, true, true, true, true, true, true, true, false, false] rfl rfl (by kernel_rfl) (fun _ _ _ h => h) (Or.inl ⟨by rfl, ?_⟩) ?_ ?_
              rotate_left
              · intro w'
                go_simp
                with_reducible rfl
              rotate_left
              · simp only [Act.put, List.setIfInBounds_toArray, List.set_cons_zero, List.set_cons_succ, i64_w, i32_w]
                rfl
              refine pure_ (i := 14) (N := some 84) (v := ?_) (a' := ?_) #[true, true, true, true, true, true, true, true, true, true, true, true, true, true, true, false] rfl rfl (by kernel_rfl) (fun _ _ _ h => h) (Or.inl ⟨by rfl, ?_⟩) ?_ ?_
              rotate_left
              · intro w'
                go_simp
                with_reducible rfl
              rotate_left
              · simp only [Act.put, List.setIfInBounds_toArray, List.set_cons_zero, List.set_cons_succ, i64_w, i32_w]
                rfl
              refine last_ (i := 15) (N := none) #[true, true, true, true, true, true, true, true, true, true, true, true, true, true, true, true] rfl rfl (by kernel_rfl) (by decide) (fun K hK => ?_)
              have hn1 := parts_snoc l av (show i < k by omega) (show k ≤ l.length by omega)
              have hb1 : w1.heap[B]? = some (.cells #[.int .i64 (k : Int), .int .i64 ma, .int .i64 mb, .int .i64 mc, .int .i64 av, .int .i64 tr, v, .int .i64 0] 41 (0, 0)) := (hbel.block B (by omega)).trans HL.out.blk
              have fz := blk_frozen hb1 6
              have hown2 : w1.ownsRow (B + 1) 3 1 v1 (((l.take k).take (i + 1)).map (fun x => subS x av)).length (nums .i64 (((l.take k).take (i + 1)).map (fun x => subS x av))) := by
                rw [hn1]
                simpa [nums] using hown
              have hlk2 := parts_len l av (show i + 1 ≤ k by omega) (show k ≤ l.length by omega)
              obtain ⟨g, cap, hv1, hg1, hg2⟩ := row_form hown2 (by omega)
              rw [hlk2] at hv1
              subst hv1
              have HZ := Aside0.mk (And.intro hown2 (And.intro hb1 (And.intro hbel (And.intro hgr hn1))))
              clear hown2 hown hb1 hbel hgr hn1 hlk hlk2 hat
              obtain ⟨hH1, _⟩ := hHeld
              refine skip_ (w1 := w1.setCell ⟨B, 6, none⟩ (.slice (some ⟨g, 0, none⟩) (i + 1) cap)) (by rfl) rfl (by go_simp) ?_
              refine hK.out _ _ ?_
              clear hK K
              refine done_ (by kernel_rfl) ?_
              cases gk with
              | zero => exact absurd HK.out (by omega)
              | succ k1 =>
                go_wp2
                go_roundg k1
                case measure => omega
                case rel =>
                  obtain ⟨hown2, hb1, hbel, hgr, hn1⟩ := HZ.out
                  refine ⟨i + 1, _, by go_num, ⟨by have := HK.out; omega⟩, ⟨⟨blk_put hb1 6 _ rfl, own_setCell (p := ⟨B, 6, none⟩) hown2 (by simp [Value.ownBlock]; omega) _, ?_, ?_⟩⟩⟩
                  · refine ((HL.out.kept.drew.drewN nd).of_grown hgr (fun j hj => ?_)).setCell (.inl rfl) _
                    exact .inr (by have := own_base (pw_own_drewN (own_drew HL.out.row) nd) j hj; omega)
                  · exact ((HL.out.below.trans ((pw_below_drewN (below_drew1 (Below.refl _ _)) nd).trans (hbel.mono (by omega)))).setCell (by simp; omega) _)
            · have c1 : decide ((i : Int) < (k : Int)) = false := decide_eq_false (by omega)
              obtain rfl : i = k := by have := HK.out; omega
              obtain ⟨gB, gz⟩ : w.heap.size < B ∧ V.heap.size = B + 1 := G.out.1
              have gz2 := HL.out.kept.1
              have hlk := parts_len l av (Nat.le_refl i) (show i ≤ l.length by omega)
              obtain ⟨g, cap, rfl, hg1, hg2⟩ := row_form HL.out.row (by omega)
              have ebeg : beginS l i = ⟨av, tr, (((l.take i).take i).map (fun x => subS x av)), 0⟩ := by
                obtain ⟨hav, hbv, hav2, hbv2, htr⟩ := HV.out
                have e1 : beginS l i = ⟨meanS (l.take i), divS (subS (meanS ((l.drop i).take i)) (meanS (l.take i))) (ofS i), (l.take i).map (fun x => subS x (meanS (l.take i))), 0⟩ := rfl
                rw [e1, hav2, hbv2, htr, List.take_take, Nat.min_self]
              obtain ⟨s0, hs0⟩ : ∃ s0, beginS l i = s0 := ⟨_, rfl⟩
              have hst0 : RStAt wr w.heap.size wr.heap.size B ⟨i, ma, mb, mc⟩ s0 := by
                rw [← hs0, ebeg]
                exact ⟨g, cap, HL.out.blk, own_less HL.out.row (by omega), by omega, by omega, Nat.le_refl _⟩
              have h01 : s0.In := hs0 ▸ begin_in l i
              have h02 : s0.parts.length = i := by rw [← hs0]; exact begin_len l i (by omega)
              have h03 : s0.k = 0 := by rw [← hs0]; rfl
              have hstart : startS l ⟨i, ma, mb, mc⟩ = (l.drop i).foldl (stepS ⟨i, ma, mb, mc⟩) s0 := by rw [← hs0]; simp [startS]
              have BU : Below w.heap.size w wr := G.out.2.1.trans HL.out.below
              have HS0 := Aside0.mk (And.intro hst0 (And.intro h01 (And.intro h02 (And.intro h03 (And.intro hstart BU)))))
              obtain ⟨U, rfl⟩ : ∃ U : World, U = wr := ⟨_, rfl⟩
              clear hst0 h01 h02 h03 hstart BU hs0 ebeg hlk gz2
              have il : i ≤ l.length := by omega
              go_wp2
              go_loopg [13] (l.length - i) (fun kq v13 W' => ∃ T : Nat, v13 = .int .i64 (T : Int) ∧ i ≤ T ∧ Aside0 (kq + T = l.length) ∧ Aside0 (RStAt W' w.heap.size U.heap.size B ⟨i, ma, mb, mc⟩ (((l.drop i).take (T - i)).foldl (stepS ⟨i, ma, mb, mc⟩) s0) ∧ Below w.heap.size U W'))
              case atStart => exact ⟨i, rfl, Nat.le_refl _, ⟨by omega⟩, ⟨by simpa using HS0.out.1, Below.refl _ _⟩⟩
              case round =>
                obtain ⟨T, rfl, hT1, HK3, HS⟩ := hrel
                by_cases cT : T < l.length
                · have c3 : decide ((T : Int) < (l.length : Int)) = true := decide_eq_true (by omega)
                  obtain ⟨ad', e, u3⟩ := Kd.at_int (Kd.C_below HR.out (HS0.out.2.2.2.2.2.trans HS.out.2)) (T : Int) (by omega) (by omega)
                  cases e
                  rw [Int.toNat_natCast] at u3
                  have j1 : FS.In (rd l (T : Int)) := allIn_getD hin T
                  have hS1 : (((l.drop i).take (T - i)).foldl (stepS ⟨i, ma, mb, mc⟩) s0).In := fold_in _ _ _ HS0.out.2.1
                  have hS2 : (((l.drop i).take (T - i)).foldl (stepS ⟨i, ma, mb, mc⟩) s0).parts.length = i := (fold_len _ _ _).trans HS0.out.2.2.1
                  have hS3 : (((l.drop i).take (T - i)).foldl (stepS ⟨i, ma, mb, mc⟩) s0).k ≤ l.length := by
                    rw [fold_k, HS0.out.2.2.2.1, List.length_take, List.length_drop]
                    omega
                  have SC := Aside0.mk (fun W (h : RStAt W w.heap.size U.heap.size B ⟨i, ma, mb, mc⟩ (((l.drop i).take (T - i)).foldl (stepS ⟨i, ma, mb, mc⟩) s0)) => rstep_calls w.heap.size U.heap.size B ⟨i, ma, mb, mc⟩ _ (rd l (T : Int)) W h hS1 j1 HW.out (by omega) (by omega) (by omega) (by rw [hS2]))
                  clear hS1 hS2 hS3
                  cases gk with
                  | zero => exact absurd HK3.out (by omega)
                  | succ k1 =>
                    go_wp2_with (go_at_call 31; (with_reducible refine (SC.out _ HS.out.1).mono ?_); rintro e w' ⟨⟨v, rfl⟩, hst, hb, hkp⟩; have HQ := Aside0.mk (And.intro hst hb); clear hst hb hkp)
                    go_roundg k1
                    case measure => omega
                    case rel =>
                      refine ⟨T + 1, by go_num, by omega, ⟨by have := HK3.out; omega⟩, ⟨?_, HS.out.2.trans HQ.out.2⟩⟩
                      have e := fold_snoc ⟨i, ma, mb, mc⟩ (l.drop i) s0 (T - i) (by rw [List.length_drop]; omega)
                      have e2 : rd (l.drop i) ((T - i : Nat) : Int) = rd l (T : Int) := by
                        show (l.drop i).getD (T - i) 0 = l.getD T 0
                        simp only [List.getD_eq_getElem?_getD, List.getElem?_drop]
                        rw [show i + (T - i) = T by omega]
                      rw [show T + 1 - i = T - i + 1 by omega, e, e2]
                      exact HQ.out.1
                · have c3 : decide ((T : Int) < (l.length : Int)) = false := decide_eq_false (by omega)
                  have hS2 : (((l.drop i).take (T - i)).foldl (stepS ⟨i, ma, mb, mc⟩) s0) = startS l ⟨i, ma, mb, mc⟩ := by
                    rw [HS0.out.2.2.2.2.1, List.take_of_length_le (by rw [List.length_drop]; omega)]
                  have HQ := Aside0.mk hS2
                  clear hS2
                  go_wp2
                  go_ret2
                  have hsz := HS.out.2.size
                  refine ⟨B, rfl, ?_, HS0.out.2.2.2.2.2.trans HS.out.2⟩
                  rw [← HQ.out]
                  exact HS.out.1.wide (Nat.le_refl _) hsz (Nat.le_refl _)
  · have h2 : checkS ⟨n, ma, mb, mc⟩ = 1 := (check_01 _).resolve_left h1
    have hp : ∀ e w', e = .returned (.tuple #[.pointer none, .int .i64 1]) ∧ Below w.heap.size w w' → RStartPost w l ⟨n, ma, mb, mc⟩ e w' := fun e w' h => by
      unfold RStartPost
      rw [if_pos (by unfold startE; rw [if_pos h1]; decide)]
      exact h
    rw [h2] at kc
    have KC := Aside0.mk kc
    refine Calls.mono ?_ (fun e w' h => hp e w' h)
    clear kc h1 h2 hp
    go_enter Try.func25, Try.ntmps25
    go_wp2_with (go_at_call 32; (with_reducible refine (KC.out _).mono ?_); rintro e w' ⟨rfl, hb⟩)
    go_ret2
    exact ⟨rfl, (below_alloc (Below.refl _ _) _).trans (hb.mono (by simp))⟩
end Go.Proofs.Ytemnfnbjapobcaa.Ho
end
section
namespace Go.Proofs.Ytemnfnbjapobcaa.Ho
open Go.RowKit Go.Proofs.YtemnfnbjapobcaaW.PrintWords Go.Proofs.YtemnfnbjapobcaaW.PrintLast Go.Proofs.YtemnfnbjapobcaaW.PrintMore
open Go.Proofs.Ytemnfnbjapobcaa.FS Go.Proofs.Ytemnfnbjapobcaa.HS Go.Proofs.Ytemnfnbjapobcaa.FM
attribute [local go_sem] max2_int min2_int max_two min_two max_three min_three max_four min_four
set_option linter.unusedVariables false
set_option linter.unusedSimpArgs false
set_option maxHeartbeats 1000000 in
theorem dist_calls (a b : Int) (ha : FS.In a) (hb : FS.In b) (w : World) :
    Calls Try.prog 73 #[.int .i64 a, .int .i64 b] w fun e w' => e = .returned (.int .i64 (distS a b)) ∧ Drawn0 w w' := by
  have e1 : distS a b = if a < b then subS b a else subS a b := rfl
  by_cases h : a < b
  · rw [if_pos h] at e1
    rw [e1]
    clear e1
    have h1 : ¬ b < a := by omega
    go_enter Try.func73, Try.ntmps73
    go_wp2_with (go_at_call 71; (with_reducible refine (fSub (by assumption) (by assumption) _).mono ?_); rintro e w' ⟨rfl, ⟨nd, rfl⟩⟩)
    go_ret
    exact ⟨rfl, by repeat (first | exact Drawn0.refl _ | apply Drawn0.step)⟩
  · rw [if_neg h] at e1
    rw [e1]
    clear e1
    by_cases h2 : b < a
    · skip
      go_enter Try.func73, Try.ntmps73
      go_wp2_with (go_at_call 71; (with_reducible refine (fSub (by assumption) (by assumption) _).mono ?_); rintro e w' ⟨rfl, ⟨nd, rfl⟩⟩)
      go_ret
      exact ⟨rfl, by repeat (first | exact Drawn0.refl _ | apply Drawn0.step)⟩
    · obtain rfl : a = b := by omega
      go_enter Try.func73, Try.ntmps73
      go_wp2_with (go_at_call 71; (with_reducible refine (fSub (by assumption) (by assumption) _).mono ?_); rintro e w' ⟨rfl, ⟨nd, rfl⟩⟩)
      go_ret
      exact ⟨rfl, by repeat (first | exact Drawn0.refl _ | apply Drawn0.step)⟩
theorem startE_01 (l : List Int) (m : Mo) : startE l m = 0 ∨ startE l m = 1 := by unfold startE; split; exact .inr rfl; split; exact .inr rfl; exact .inl rfl
theorem begin_start_in (l : List Int) (m : Mo) : (startS l m).In := fold_in _ _ _ (begin_in _ _)
theorem start_len {l : List Int} {m : Mo} (h : startE l m = 0) : 1 ≤ m.n ∧ m.n ≤ 10000 ∧ Mo.wIn m ∧ 2 * m.n ≤ (l.length : Int) ∧ (startS l m).parts.length = m.n.toNat ∧ (startS l m).k = l.length - m.n.toNat := by
  unfold startE at h
  split at h
  · cases h
  · rename_i h1
    split at h
    · cases h
    · rename_i h2
      obtain ⟨h3, h4⟩ := check_ok (Decidable.not_not.1 h1)
      refine ⟨h3.1, h3.2, h4, by omega, (fold_len _ _ _).trans (begin_len _ _ (by omega)), ?_⟩
      unfold startS
      rw [fold_k, List.length_drop]
      simp [beginS]
end Go.Proofs.Ytemnfnbjapobcaa.Ho
end
section
namespace Go.Proofs.Ytemnfnbjapobcaa.Ho
open Go.RowKit Go.Proofs.YtemnfnbjapobcaaW.PrintWords Go.Proofs.YtemnfnbjapobcaaW.PrintLast Go.Proofs.YtemnfnbjapobcaaW.PrintMore
open Go.Proofs.Ytemnfnbjapobcaa.FS Go.Proofs.Ytemnfnbjapobcaa.HS Go.Proofs.Ytemnfnbjapobcaa.FM
set_option linter.unusedVariables false
set_option linter.unusedSimpArgs false
theorem start_n (A : Option Addr) (n c : Nat) (l : List Int) (m : Mo) (w : World) (e : l.length = n) (hr : Kd.C (Kd.int .i64) w A n l) (hc : n ≤ c) (hin : AllIn l) (hm : FS.In m.n) (hll : n ≤ 1000000000) :
    Calls Try.prog 24 #[.slice A n c, moV m] w (StartPost w l m) := by
  subst e
  exact start_calls A c l m w hr hc hin hm hll
theorem misses_snd (m : Mo) : ∀ (l : List Int) (q : Int × St), (l.foldl (missStep m) q).2 = l.foldl (stepS m) q.2
  | [], _ => rfl
  | x :: l, q => misses_snd m l (missStep m q x)
theorem misses_in (m : Mo) : ∀ (l : List Int) (q : Int × St), FS.In q.1 → FS.In (l.foldl (missStep m) q).1
  | [], _, h => h
  | x :: l, q, h => misses_in m l _ (in_addS _ _)
theorem castOf_one (s : St) : (castOf s 1).2 = 0 ∧ FS.In (castOf s 1).1 := by
  unfold castOf
  rw [if_neg (by omega)]
  exact ⟨rfl, in_addS _ _⟩
theorem misses_snoc (m : Mo) (l : List Int) (q : Int × St) (k : Nat) (h : k < l.length) : (l.take (k + 1)).foldl (missStep m) q = missStep m ((l.take k).foldl (missStep m) q) (rd l (k : Int)) := by
  have e : rd l (k : Int) = l[k] := by
    show l.getD k 0 = _
    simp [List.getD_eq_getElem?_getD, List.getElem?_eq_getElem h]
  rw [List.take_succ_eq_append_getElem h, List.foldl_append, e]
  rfl
set_option maxRecDepth 100000 in
set_option maxHeartbeats 4000000 in
theorem miss_calls (A : Option Addr) (c : Nat) (l : List Int) (m : Mo) (last : Int) (w : World) (hr : Kd.C (Kd.int .i64) w A l.length l) (hc : l.length ≤ c) (hin : AllIn l) (hm : FS.In m.n) (ha : FS.In last) (hll : l.length ≤ 1000000000) :
    Calls Try.prog 35 #[.slice A l.length c, moV m, .int .i64 last] w fun e w' => e = .returned (.tuple #[.int .i64 (missS l m last).1, .int .i64 (missS l m last).2]) ∧ Below w.heap.size w w' := by
  obtain ⟨r, er⟩ : ∃ r, missS l m last = r := ⟨_, rfl⟩
  rw [er]
  obtain ⟨r1, r2⟩ := r
  have kc := check_calls m
  rcases check_01 m with hck | hck
  · obtain ⟨⟨n1, n2⟩, n3⟩ := check_ok hck
    rw [hck] at kc
    have KC := Aside0.mk kc
    clear kc
    by_cases h1 : last < 1
    · obtain ⟨rfl, rfl⟩ : r1 = 0 ∧ r2 = 1 := by
        unfold missS at er
        rw [if_neg (by rw [hck]; decide), if_pos (.inl h1)] at er
        cases er; exact ⟨rfl, rfl⟩
      have g1 : decide (last < 1) = true := decide_eq_true h1
      obtain ⟨n, ma, mb, mc⟩ := m
      clear er hck n3
      dsimp only [moV] at *
      go_enter Try.func35, Try.ntmps35
      go_wp2_with (go_at_call 33; (with_reducible refine (KC.out _).mono ?_); rintro e w1 ⟨rfl, hb⟩)
      go_ret2
      exact ⟨rfl, (below_alloc (Below.refl _ _) _).trans (hb.mono (by simp))⟩
    · have g1 : decide (last < 1) = false := decide_eq_false h1
      obtain ⟨n, ma, mb, mc⟩ := m
      dsimp only at n1 n2 hm
      obtain ⟨N, rfl⟩ := Int.eq_ofNat_of_zero_le (show 0 ≤ n by omega)
      obtain ⟨M, hM⟩ : ∃ M, 2 * N = M := ⟨_, rfl⟩
      have e2 : wrap64 (2 * (N : Int)) = (M : Int) := by rw [wrap64_id (by omega) (by omega)]; omega
      have e3 : (2 * (N : Int)) = (M : Int) := by omega
      have b0 : (N : Int) ≤ 10000 := n2
      have ha2 : last ≤ 9223372036854775807 := ha.2
      by_cases h2 : 2 * (N : Int) > (l.length : Int) - last
      · obtain ⟨rfl, rfl⟩ : r1 = 0 ∧ r2 = 1 := by
          unfold missS at er
          rw [if_neg (by rw [hck]; decide), if_pos (.inr h2)] at er
          cases er; exact ⟨rfl, rfl⟩
        obtain ⟨u, hu⟩ : ∃ u, (l.length : Int) - last = u := ⟨_, rfl⟩
        have eu : wrap64 ((l.length : Int) - last) = u := by rw [wrap64_id (by omega) (by omega)]; exact hu
        have g2 : u < (M : Int) := by omega
        have g3 : decide (u < (M : Int)) = true := decide_eq_true g2
        clear er hck n3 hM h2 h1
        dsimp only [moV] at *
        go_enter Try.func35, Try.ntmps35
        go_wp2_with (go_at_call 33; (with_reducible refine (KC.out _).mono ?_); rintro e w1 ⟨rfl, hb⟩; have mb1 := blk_below (blk_new w _) hb; have d0 := blk_cell mb1 0; have d1 := blk_cell mb1 1; have d2 := blk_cell mb1 2; have d3 := blk_cell mb1 3; simp only [List.getElem?_toArray, List.getElem?_cons_zero, List.getElem?_cons_succ] at d0 d1 d2 d3; have HB1 := Aside0.mk (And.intro mb1 hb); clear mb1 hb)
        go_ret2
        exact ⟨rfl, (below_alloc (Below.refl _ _) _).trans (HB1.out.2.mono (by simp))⟩
      · obtain ⟨L, rfl⟩ := Int.eq_ofNat_of_zero_le (show 0 ≤ last by omega)
        obtain ⟨P, hP⟩ : ∃ P, l.length - L = P := ⟨_, rfl⟩
        have eu : wrap64 ((l.length : Int) - (L : Int)) = (P : Int) := by rw [wrap64_id (by omega) (by omega)]; omega
        have eu2 : (l.length : Int) - (L : Int) = (P : Int) := by omega
        have g2 : ¬ (P : Int) < (M : Int) := by omega
        have g4 : ¬ P < M := by omega
        have bP : P ≤ c := by omega
        have bP2 : P ≤ l.length := by omega
        have bP3 : ¬ c = P := by omega
        have hD : l.length - P = L := by omega
        obtain ⟨ad, rfl, _⟩ := Kd.at_int hr 0 (by omega) (by omega)
        have t1 : (l.take P).length = P := by simp; omega
        have m1 : Kd.C (Kd.int .i64) w (some ad) P (l.take P) := by
          have h := Kd.C_take hr (m := P) bP2
          rwa [t1] at h
        have m2 : Kd.C (Kd.int .i64) w (some (ad.add P)) L (l.drop P) := by
          have h := Kd.C_drop hr (m := P) bP2 hc
          rw [List.length_drop, if_neg bP3, hD] at h
          simpa [show (Kd.int .i64).sz = 1 from rfl] using h
        have hs0 : startE (l.take P) ⟨(N : Int), ma, mb, mc⟩ = 0 := by
          unfold startE
          rw [if_neg (by rw [hck]; decide), t1, if_neg (by dsimp only; omega)]
        have ks : ∀ W, Kd.C (Kd.int .i64) W (some ad) P (l.take P) → Calls Try.prog 24 #[.slice (some ad) P P, moV ⟨(N : Int), ma, mb, mc⟩] W fun e w' => ∃ b, e = .returned (.tuple #[.pointer (some ⟨b, 0, none⟩), .int .i64 0]) ∧ StAt w' W.heap.size w'.heap.size b ⟨(N : Int), ma, mb, mc⟩ (startS (l.take P) ⟨(N : Int), ma, mb, mc⟩) ∧ Below W.heap.size W w' := fun W h => by
          refine (start_n (some ad) P P (l.take P) ⟨(N : Int), ma, mb, mc⟩ W t1 h (Nat.le_refl _) (allIn_take hin P) hm (by omega)).mono (fun e w' h => ?_)
          unfold StartPost at h
          rw [if_neg (by rw [hs0]; decide)] at h
          exact h
        obtain ⟨_, _, _, _, s5, s6⟩ := start_len hs0
        rw [Int.toNat_natCast] at s5 s6
        rw [t1] at s6
        have hs := begin_start_in (l.take P) ⟨(N : Int), ma, mb, mc⟩
        obtain ⟨s0, hs0'⟩ : ∃ s0, startS (l.take P) ⟨(N : Int), ma, mb, mc⟩ = s0 := ⟨_, rfl⟩
        rw [hs0'] at ks s5 s6 hs
        have er2 : ((l.drop P).foldl (missStep ⟨(N : Int), ma, mb, mc⟩) (0, s0)).1 = r1 ∧ r2 = 0 := by
          unfold missS at er
          rw [if_neg (by rw [hck]; decide), if_neg (by dsimp only; omega)] at er
          dsimp only at er
          rw [Int.toNat_natCast, hP, hs0'] at er
          obtain ⟨x1, x2⟩ := Prod.mk.inj er
          exact ⟨x1, x2.symm⟩
        have KS := Aside0.mk ks
        have HWI := Aside0.mk n3
        have HM := Aside0.mk (And.intro m1 m2)
        have HI := Aside0.mk (And.intro s5 (And.intro s6 (And.intro hs (And.intro er2 (And.intro hM hP)))))
        have n0 : 1 ≤ N := by omega
        clear n3 h2 ks m1 m2 s5 s6 hs er2 hs0 er hM hP hs0' hck t1 h1 hr
        dsimp only [moV] at *
        go_enter Try.func35, Try.ntmps35
        go_wp2_with (go_at_call 33; (with_reducible refine (KC.out _).mono ?_); rintro e w1 ⟨rfl, hb⟩; have mb1 := blk_below (blk_new w _) hb; have d0 := blk_cell mb1 0; have d1 := blk_cell mb1 1; have d2 := blk_cell mb1 2; have d3 := blk_cell mb1 3; simp only [List.getElem?_toArray, List.getElem?_cons_zero, List.getElem?_cons_succ] at d0 d1 d2 d3; have HB1 := Aside0.mk (And.intro mb1 hb); clear mb1 hb)
        have HB0 : Aside0 (Below w.heap.size w w1.drew) := ⟨pw_below_drewN ((below_alloc (Below.refl _ _) _).trans (HB1.out.2.mono (by simp))) 1⟩
        go_region_held3 (fun w' => w'.cell? ⟨w.heap.size, 0, none⟩ = some (.int .i64 (N : Int)) ∧ w'.cell? ⟨w.heap.size, 1, none⟩ = some (.int .i64 ma) ∧ w'.cell? ⟨w.heap.size, 2, none⟩ = some (.int .i64 mb) ∧ w'.cell? ⟨w.heap.size, 3, none⟩ = some (.int .i64 mc)) (first | go_keep | exact ⟨cell_below hb2 d0, cell_below hb2 d1, cell_below hb2 d2, cell_below hb2 d3⟩) (first | (go_at_call 24; (with_reducible refine (KS.out _ (Kd.C_below HM.out.1 HB0.out)).mono ?_); rintro e w2 ⟨b, rfl, hst, hb2⟩))
        have HB2 : Aside0 (StAt w2 w1.heap.size w2.heap.size b ⟨(N : Int), ma, mb, mc⟩ s0 ∧ Below w.heap.size w w2) := ⟨hst, HB0.out.trans (hb2.mono (by have := HB0.out.size; exact this))⟩
        have HL : Aside0 (w.heap.size ≤ w1.heap.size) := ⟨HB0.out.size⟩
        clear hst hb2 d0 d1 d2 d3
        go_wp2
        go_loopg [12, 54] L (fun kq v12 v54 W' => ∃ k : Nat, v54 = .int .i64 (k : Int) ∧ v12 = .int .i64 (((l.drop P).take k).foldl (missStep ⟨N, ma, mb, mc⟩) (0, s0)).1 ∧ Aside0 (kq + k = L) ∧ Aside0 (StAt W' w1.heap.size w2.heap.size b ⟨N, ma, mb, mc⟩ (((l.drop P).take k).foldl (missStep ⟨N, ma, mb, mc⟩) (0, s0)).2 ∧ Below w1.heap.size w2 W'))
        case atStart => exact ⟨0, rfl, rfl, ⟨rfl⟩, ⟨by simpa using HB2.out.1, Below.refl _ _⟩⟩
        case round =>
          obtain ⟨k, rfl, rfl, HK, HS⟩ := hrel
          by_cases ck : k < L
          · have c1 : decide ((k : Int) < (L : Int)) = true := decide_eq_true (by omega)
            obtain ⟨ad', e, r0⟩ := Kd.at_int (Kd.C_below HM.out.2 (HB2.out.2.trans (HS.out.2.mono HL.out))) (k : Int) (by omega) (by omega)
            cases e
            rw [Int.toNat_natCast] at r0
            have j1 : FS.In (rd (l.drop P) (k : Int)) := allIn_getD (allIn_drop hin P) k
            obtain ⟨q, hq⟩ : ∃ q, ((l.drop P).take k).foldl (missStep ⟨N, ma, mb, mc⟩) (0, s0) = q := ⟨_, rfl⟩
            have hq1 : FS.In q.1 := hq ▸ misses_in _ _ _ (show FS.In 0 from ⟨by decide, by decide⟩)
            have hq2 : q.2 = ((l.drop P).take k).foldl (stepS ⟨N, ma, mb, mc⟩) s0 := by rw [← hq, misses_snd]
            have hS1 : q.2.In := by rw [hq2]; exact fold_in _ _ _ HI.out.2.2.1
            have hS2 : q.2.parts.length = N := by rw [hq2, fold_len]; exact HI.out.1
            have hS3 : q.2.k ≤ l.length := by
              rw [hq2, fold_k, HI.out.2.1, List.length_take, List.length_drop, hD]
              omega
            rw [hq] at HS ⊢
            obtain ⟨x, hx⟩ : ∃ x, rd (l.drop P) (k : Int) = x := ⟨_, rfl⟩
            rw [hx] at j1 r0
            obtain ⟨cv, hcv⟩ : ∃ cv, (castOf q.2 1).1 = cv := ⟨_, rfl⟩
            have j2 : FS.In cv := hcv ▸ (castOf_one q.2).2
            have j3 := in_distS x cv
            have j4 := in_addS q.1 (distS x cv)
            have CC : Aside0 (∀ W, StAt W w1.heap.size w2.heap.size b ⟨N, ma, mb, mc⟩ q.2 → Calls Try.prog 28 #[.pointer (some ⟨b, 0, none⟩), .int .i64 1] W fun e w' => e = .returned (.tuple #[.int .i64 cv, .int .i64 0]) ∧ Drawn0 W w') := ⟨fun W h => by
              have := castOf_calls w1.heap.size w2.heap.size b ⟨N, ma, mb, mc⟩ q.2 1 W h hS1 ⟨by decide, by decide⟩ (by omega) (by omega) (by omega)
              rw [(castOf_one q.2).1, hcv] at this
              exact this⟩
            have SC := Aside0.mk (fun W (h : StAt W w1.heap.size w2.heap.size b ⟨N, ma, mb, mc⟩ q.2) => step_calls w1.heap.size w2.heap.size b ⟨N, ma, mb, mc⟩ q.2 x W h hS1 j1 HWI.out (by omega) (by omega) (by omega))
            have SD : Aside0 (∀ n, StAt (wr.drewN n) w1.heap.size w2.heap.size b ⟨N, ma, mb, mc⟩ q.2) := ⟨fun n => HS.out.1.kept (S := fun _ => False) ((Kept.refl _ _).drewN n) (fun _ _ _ h => h)⟩
            have HQ := Aside0.mk (And.intro hq (And.intro hx (And.intro hcv ck)))
            have j5 := hq1
            clear hq hx hcv hq1 hq2 hS1 hS2 hS3
            obtain ⟨qs, hqs⟩ : ∃ qs, q.1 = qs := ⟨_, rfl⟩
            rw [hqs] at j4 j5 ⊢
            have HQS := Aside0.mk hqs
            clear hqs
            cases gk with
            | zero => exact absurd HK.out (by have := HQ.out.2.2.2; omega)
            | succ k1 =>
              go_wp2_with (first | (go_at_call 28; (with_reducible refine (CC.out _ HS.out.1).mono ?_); rintro e w' ⟨rfl, ⟨nd, rfl⟩⟩) | (go_at_call 73; (with_reducible refine (dist_calls x cv (by assumption) (by assumption) _).mono ?_); rintro e w' ⟨rfl, ⟨nd, rfl⟩⟩) | (go_at_call 67; (with_reducible refine (fAdd (by assumption) (by assumption) _).mono ?_); rintro e w' ⟨rfl, ⟨nd, rfl⟩⟩) | (go_at_call 30; (with_reducible refine (SC.out _ (SD.out _)).mono ?_); rintro e w' ⟨⟨v, rfl⟩, hst, hb, hkp⟩; have HR := Aside0.mk (And.intro hst hb); clear hst hb hkp))
              go_roundg k1
              case measure => omega
              case rel =>
                obtain ⟨hq, hx, hcv, hk⟩ := HQ.out
                have e := misses_snoc ⟨N, ma, mb, mc⟩ (l.drop P) (0, s0) k (by rw [List.length_drop, hD]; exact hk)
                rw [hq, hx] at e
                unfold missStep at e
                rw [hcv, HQS.out] at e
                refine ⟨k + 1, by go_num, by unfold missStep; rw [e], ⟨by have := HK.out; omega⟩, ⟨?_, HS.out.2.trans ((pw_below_drewN (Below.refl _ _) _).trans HR.out.2)⟩⟩
                unfold missStep
                rw [e]
                exact HR.out.1
          · have c1 : decide ((k : Int) < (L : Int)) = false := decide_eq_false (by omega)
            have hS2 : (((l.drop P).take k).foldl (missStep ⟨N, ma, mb, mc⟩) (0, s0)).1 = r1 := by
              rw [List.take_of_length_le (by rw [List.length_drop, hD]; omega)]
              exact HI.out.2.2.2.1.1
            obtain rfl := HI.out.2.2.2.1.2
            rw [hS2]
            clear hS2
            go_wp2
            go_ret2
            exact ⟨rfl, HB2.out.2.trans (HS.out.2.mono HL.out)⟩
  · obtain ⟨rfl, rfl⟩ : r1 = 0 ∧ r2 = 1 := by
      unfold missS at er
      rw [if_pos (by rw [hck]; decide)] at er
      cases er; exact ⟨rfl, rfl⟩
    rw [hck] at kc
    have KC := Aside0.mk kc
    obtain ⟨n, ma, mb, mc⟩ := m
    clear kc er hck
    dsimp only [moV] at KC ⊢
    go_enter Try.func35, Try.ntmps35
    go_wp2_with (go_at_call 33; (with_reducible refine (KC.out _).mono ?_); rintro e w1 ⟨rfl, hb⟩)
    go_ret2
    exact ⟨rfl, (below_alloc (Below.refl _ _) _).trans (hb.mono (by simp))⟩
end Go.Proofs.Ytemnfnbjapobcaa.Ho
end
section
namespace Go.Proofs.Ytemnfnbjapobcaa.Ho
open Go.RowKit Go.Proofs.YtemnfnbjapobcaaW.PrintWords Go.Proofs.YtemnfnbjapobcaaW.PrintLast Go.Proofs.YtemnfnbjapobcaaW.PrintMore
open Go.Proofs.Ytemnfnbjapobcaa.FS Go.Proofs.Ytemnfnbjapobcaa.HS Go.Proofs.Ytemnfnbjapobcaa.FM
set_option linter.unusedVariables false
set_option linter.unusedSimpArgs false
set_option maxHeartbeats 1000000 in
theorem rdist_calls (a b : Int) (ha : FS.In a) (hb : FS.In b) (w : World) :
    Calls Try.prog 74 #[.int .i64 a, .int .i64 b] w fun e w' => e = .returned (.int .i64 (distS a b)) ∧ Drawn0 w w' := by
  have e1 : distS a b = if a < b then subS b a else subS a b := rfl
  by_cases h : a < b
  · rw [if_pos h] at e1
    rw [e1]
    clear e1
    go_enter Try.func74, Try.ntmps74
    go_wp2_with (go_at_call 63; (with_reducible refine (rSub (by assumption) (by assumption) _).mono ?_); rintro e w' ⟨rfl, ⟨nd, rfl⟩⟩)
    go_ret
    exact ⟨rfl, by repeat (first | exact Drawn0.refl _ | apply Drawn0.step)⟩
  · rw [if_neg h] at e1
    rw [e1]
    clear e1
    go_enter Try.func74, Try.ntmps74
    go_wp2_with (go_at_call 63; (with_reducible refine (rSub (by assumption) (by assumption) _).mono ?_); rintro e w' ⟨rfl, ⟨nd, rfl⟩⟩)
    go_ret
    exact ⟨rfl, by repeat (first | exact Drawn0.refl _ | apply Drawn0.step)⟩
set_option maxHeartbeats 1000000 in
theorem rholt_calls (A : Option Addr) (c : Nat) (l : List Int) (m : Mo) (ahead : Int) (w : World) (hr : Kd.C (Kd.int .i64) w A l.length l) (hc : l.length ≤ c) (hin : AllIn l) (hm : FS.In m.n) (ha : FS.In ahead) (hll : l.length ≤ 1000000000) :
    Calls Try.prog 34 #[.slice A l.length c, moV m, .int .i64 ahead] w fun e w' => e = .returned (.tuple #[.int .i64 (castS l m ahead).1, .int .i64 (castS l m ahead).2]) ∧ Below w.heap.size w w' := by
  have ks : ∀ W, Kd.C (Kd.int .i64) W A l.length l → Calls Try.prog 25 #[.slice A l.length c, moV m] W (RStartPost W l m) := fun W h => rstart_calls A c l m W h hc hin hm hll
  have HR := Aside0.mk hr
  clear hr
  rcases startE_01 l m with h0 | h0
  · obtain ⟨n1, n2, n3, n4, n5, n6⟩ := start_len h0
    have ks' : ∀ W, Kd.C (Kd.int .i64) W A l.length l → Calls Try.prog 25 #[.slice A l.length c, moV m] W fun e w' => ∃ b, e = .returned (.tuple #[.pointer (some ⟨b, 0, none⟩), .int .i64 0]) ∧ RStAt w' W.heap.size w'.heap.size b m (startS l m) ∧ Below W.heap.size W w' := fun W h => by
      refine (ks W h).mono (fun e w' h => ?_)
      unfold RStartPost at h
      rw [if_neg (by rw [h0]; decide)] at h
      exact h
    have ec : castS l m ahead = castOf (startS l m) ahead := by unfold castS; rw [if_neg (by rw [h0]; decide)]
    rw [ec]
    have KC := Aside0.mk (fun lo hi b W (h : RStAt W lo hi b m (startS l m)) => rcastOf_calls lo hi b m (startS l m) ahead W h (begin_start_in l m) ha (by rw [n6]; omega) (by rw [n5]; omega) (by rw [n5]; omega) (by rw [n5]; omega))
    have KS := Aside0.mk ks'
    clear ks ks' ec h0 n1 n2 n3 n4 n5 n6
    obtain ⟨n, ma, mb, mc⟩ := m
    obtain ⟨r1, r2⟩ : ∃ r, castOf (startS l ⟨n, ma, mb, mc⟩) ahead = r := ⟨_, rfl⟩
    obtain ⟨r1, r3⟩ := r1
    rw [r2] at KC ⊢
    have R2 := Aside0.mk r2
    clear r2
    dsimp only [moV] at KS ⊢
    go_enter Try.func34, Try.ntmps34
    go_wp2_with (first | (go_at_call 25; (with_reducible refine (KS.out _ (Kd.C_alloc HR.out _)).mono ?_); rintro e w1 ⟨b, rfl, hst, hb⟩; have HS := Aside0.mk (And.intro hst hb); clear hst hb) | (go_at_call 29; (with_reducible refine (KC.out _ _ _ _ HS.out.1).mono ?_); rintro e w' ⟨rfl, hb3⟩; have H3 := Aside0.mk hb3; clear hb3))
    go_ret2
    have hsz := HS.out.2.size
    simp at hsz
    exact ⟨rfl, ((below_alloc (Below.refl _ _) _).trans (HS.out.2.mono (by simp))).trans (H3.out.mono (by omega))⟩
  · have ks' : ∀ W, Kd.C (Kd.int .i64) W A l.length l → Calls Try.prog 25 #[.slice A l.length c, moV m] W fun e w' => e = .returned (.tuple #[.pointer none, .int .i64 1]) ∧ Below W.heap.size W w' := fun W h => by
      refine (ks W h).mono (fun e w' h => ?_)
      unfold RStartPost at h
      rw [if_pos (by rw [h0]; decide)] at h
      exact h
    have ec : castS l m ahead = (0, 1) := by unfold castS; rw [if_pos (by rw [h0]; decide)]
    rw [ec]
    have KS := Aside0.mk ks'
    clear ks ks' ec h0
    obtain ⟨n, ma, mb, mc⟩ := m
    dsimp only [moV] at KS ⊢
    go_enter Try.func34, Try.ntmps34
    go_wp2_with (go_at_call 25; (with_reducible refine (KS.out _ (Kd.C_alloc HR.out _)).mono ?_); rintro e w1 ⟨rfl, hb⟩)
    go_ret2
    exact ⟨rfl, (below_alloc (Below.refl _ _) _).trans (hb.mono (by simp))⟩
end Go.Proofs.Ytemnfnbjapobcaa.Ho
end
section
namespace Go.Proofs.Ytemnfnbjapobcaa.Ho
open Go.RowKit Go.Proofs.YtemnfnbjapobcaaW.PrintWords Go.Proofs.YtemnfnbjapobcaaW.PrintLast Go.Proofs.YtemnfnbjapobcaaW.PrintMore
open Go.Proofs.Ytemnfnbjapobcaa.FS Go.Proofs.Ytemnfnbjapobcaa.HS Go.Proofs.Ytemnfnbjapobcaa.FM
set_option linter.unusedVariables false
set_option linter.unusedSimpArgs false
theorem rstart_n (A : Option Addr) (n c : Nat) (l : List Int) (m : Mo) (w : World) (e : l.length = n) (hr : Kd.C (Kd.int .i64) w A n l) (hc : n ≤ c) (hin : AllIn l) (hm : FS.In m.n) (hll : n ≤ 1000000000) :
    Calls Try.prog 25 #[.slice A n c, moV m] w (RStartPost w l m) := by
  subst e
  exact rstart_calls A c l m w hr hc hin hm hll
set_option maxRecDepth 100000 in
set_option maxHeartbeats 8000000 in
theorem rmiss_calls (A : Option Addr) (c : Nat) (l : List Int) (m : Mo) (last : Int) (w : World) (hr : Kd.C (Kd.int .i64) w A l.length l) (hc : l.length ≤ c) (hin : AllIn l) (hm : FS.In m.n) (ha : FS.In last) (hll : l.length ≤ 1000000000) :
    Calls Try.prog 36 #[.slice A l.length c, moV m, .int .i64 last] w fun e w' => e = .returned (.tuple #[.int .i64 (missS l m last).1, .int .i64 (missS l m last).2]) ∧ Below w.heap.size w w' := by
  obtain ⟨r, er⟩ : ∃ r, missS l m last = r := ⟨_, rfl⟩
  rw [er]
  obtain ⟨r1, r2⟩ := r
  have kc := rcheck_calls m
  rcases check_01 m with hck | hck
  · obtain ⟨⟨n1, n2⟩, n3⟩ := check_ok hck
    rw [hck] at kc
    have KC := Aside0.mk kc
    clear kc
    by_cases h1 : last < 1
    · obtain ⟨rfl, rfl⟩ : r1 = 0 ∧ r2 = 1 := by
        unfold missS at er
        rw [if_neg (by rw [hck]; decide), if_pos (.inl h1)] at er
        cases er; exact ⟨rfl, rfl⟩
      have g1 : decide (last < 1) = true := decide_eq_true h1
      obtain ⟨n, ma, mb, mc⟩ := m
      clear er hck n3
      dsimp only [moV] at *
      go_enter Try.func36, Try.ntmps36
      go_wp2_with (go_at_call 32; (with_reducible refine (KC.out _).mono ?_); rintro e w1 ⟨rfl, hb⟩)
      go_ret2
      exact ⟨rfl, (below_alloc (Below.refl _ _) _).trans (hb.mono (by simp))⟩
    · have g1 : decide (last < 1) = false := decide_eq_false h1
      obtain ⟨n, ma, mb, mc⟩ := m
      dsimp only at n1 n2 hm
      obtain ⟨N, rfl⟩ := Int.eq_ofNat_of_zero_le (show 0 ≤ n by omega)
      obtain ⟨M, hM⟩ : ∃ M, 2 * N = M := ⟨_, rfl⟩
      have e2 : wrap64 (2 * (N : Int)) = (M : Int) := by rw [wrap64_id (by omega) (by omega)]; omega
      have e3 : (2 * (N : Int)) = (M : Int) := by omega
      have b0 : (N : Int) ≤ 10000 := n2
      have ha2 : last ≤ 9223372036854775807 := ha.2
      by_cases h2 : (l.length : Int) < (M : Int)
      · obtain ⟨rfl, rfl⟩ : r1 = 0 ∧ r2 = 1 := by
          unfold missS at er
          rw [if_neg (by rw [hck]; decide), if_pos (.inr (by dsimp only; omega))] at er
          cases er; exact ⟨rfl, rfl⟩
        have g2 : decide ((l.length : Int) < (M : Int)) = true := decide_eq_true h2
        have g3 : l.length < M := by omega
        clear hM
        clear er hck n3 h1
        dsimp only [moV] at *
        go_enter Try.func36, Try.ntmps36
        go_wp2_with (go_at_call 32; (with_reducible refine (KC.out _).mono ?_); rintro e w1 ⟨rfl, hb⟩; have mb1 := blk_below (blk_new w _) hb; have d0 := blk_cell mb1 0; have d1 := blk_cell mb1 1; have d2 := blk_cell mb1 2; have d3 := blk_cell mb1 3; simp only [List.getElem?_toArray, List.getElem?_cons_zero, List.getElem?_cons_succ] at d0 d1 d2 d3; have HB1 := Aside0.mk (And.intro mb1 hb); clear mb1 hb)
        go_ret2
        exact ⟨rfl, (below_alloc (Below.refl _ _) _).trans (HB1.out.2.mono (by simp))⟩
      · have g3 : ¬ l.length < M := by omega
        have g2 : decide ((l.length : Int) < (M : Int)) = false := decide_eq_false h2
        obtain ⟨Q, hQ⟩ : ∃ Q, l.length - M = Q := ⟨_, rfl⟩
        have eq1 : wrap64 ((l.length : Int) - (M : Int)) = (Q : Int) := by rw [wrap64_id (by omega) (by omega)]; omega
        have eq2 : (l.length : Int) - (M : Int) = (Q : Int) := by omega
        by_cases h4 : (Q : Int) < last
        · obtain ⟨rfl, rfl⟩ : r1 = 0 ∧ r2 = 1 := by
            unfold missS at er
            rw [if_neg (by rw [hck]; decide), if_pos (.inr (by dsimp only; omega))] at er
            cases er; exact ⟨rfl, rfl⟩
          have g4 : decide ((Q : Int) < last) = true := decide_eq_true h4
          clear hM hQ h2
          clear er hck n3 h1
          dsimp only [moV] at *
          go_enter Try.func36, Try.ntmps36
          go_wp2_with (go_at_call 32; (with_reducible refine (KC.out _).mono ?_); rintro e w1 ⟨rfl, hb⟩; have mb1 := blk_below (blk_new w _) hb; have d0 := blk_cell mb1 0; have d1 := blk_cell mb1 1; have d2 := blk_cell mb1 2; have d3 := blk_cell mb1 3; simp only [List.getElem?_toArray, List.getElem?_cons_zero, List.getElem?_cons_succ] at d0 d1 d2 d3; have HB1 := Aside0.mk (And.intro mb1 hb); clear mb1 hb)
          go_ret2
          exact ⟨rfl, (below_alloc (Below.refl _ _) _).trans (HB1.out.2.mono (by simp))⟩
        · have g4 : decide ((Q : Int) < last) = false := decide_eq_false h4
          obtain ⟨L, rfl⟩ := Int.eq_ofNat_of_zero_le (show 0 ≤ last by omega)
          have g5 : ¬ Q < L := by omega
          obtain ⟨P, hP⟩ : ∃ P, l.length - L = P := ⟨_, rfl⟩
          have eu : wrap64 ((l.length : Int) - (L : Int)) = (P : Int) := by rw [wrap64_id (by omega) (by omega)]; omega
          have eu1 : IntKind.i64.wrap ((l.length : Int) - (L : Int)) = (P : Int) := by rw [i64_wrap_id (by omega) (by omega)]; omega
          have eu2 : (l.length : Int) - (L : Int) = (P : Int) := by omega
          have bP : P ≤ c := by omega
          have bP2 : P ≤ l.length := by omega
          obtain ⟨ad, rfl, _⟩ := Kd.at_int hr 0 (by omega) (by omega)
          have t1 : (l.take P).length = P := by simp; omega
          have m1 : Kd.C (Kd.int .i64) w (some ad) P (l.take P) := by
            have h := Kd.C_take hr (m := P) bP2
            rwa [t1] at h
          have hs0 : startE (l.take P) ⟨(N : Int), ma, mb, mc⟩ = 0 := by
            unfold startE
            rw [if_neg (by rw [hck]; decide), t1, if_neg (by dsimp only; omega)]
          have ks : ∀ W, Kd.C (Kd.int .i64) W (some ad) P (l.take P) → Calls Try.prog 25 #[.slice (some ad) P c, moV ⟨(N : Int), ma, mb, mc⟩] W fun e w' => ∃ b, e = .returned (.tuple #[.pointer (some ⟨b, 0, none⟩), .int .i64 0]) ∧ RStAt w' W.heap.size w'.heap.size b ⟨(N : Int), ma, mb, mc⟩ (startS (l.take P) ⟨(N : Int), ma, mb, mc⟩) ∧ Below W.heap.size W w' := fun W h => by
            refine (rstart_n (some ad) P c (l.take P) ⟨(N : Int), ma, mb, mc⟩ W t1 h bP (allIn_take hin P) hm (by omega)).mono (fun e w' h => ?_)
            unfold RStartPost at h
            rw [if_neg (by rw [hs0]; decide)] at h
            exact h
          obtain ⟨_, _, _, _, s5, s6⟩ := start_len hs0
          rw [Int.toNat_natCast] at s5 s6
          rw [t1] at s6
          have hs := begin_start_in (l.take P) ⟨(N : Int), ma, mb, mc⟩
          obtain ⟨s0, hs0'⟩ : ∃ s0, startS (l.take P) ⟨(N : Int), ma, mb, mc⟩ = s0 := ⟨_, rfl⟩
          rw [hs0'] at ks s5 s6 hs
          have er2 : ((l.drop P).foldl (missStep ⟨(N : Int), ma, mb, mc⟩) (0, s0)).1 = r1 ∧ r2 = 0 := by
            unfold missS at er
            rw [if_neg (by rw [hck]; decide), if_neg (by dsimp only; omega)] at er
            dsimp only at er
            rw [Int.toNat_natCast, hP, hs0'] at er
            obtain ⟨x1, x2⟩ := Prod.mk.inj er
            exact ⟨x1, x2.symm⟩
          have KS := Aside0.mk ks
          have HWI := Aside0.mk n3
          have HM := Aside0.mk (And.intro m1 hr)
          have HI := Aside0.mk (And.intro s5 (And.intro s6 (And.intro hs (And.intro er2 (And.intro hM hP)))))
          have n0 : 1 ≤ N := by omega
          clear n3 h2 ks m1 s5 s6 hs er2 hs0 er hM hP hs0' hck t1 h1 hr h4 hQ
          dsimp only [moV] at *
          go_enter Try.func36, Try.ntmps36
          go_wp2_with (go_at_call 32; (with_reducible refine (KC.out _).mono ?_); rintro e w1 ⟨rfl, hb⟩; have mb1 := blk_below (blk_new w _) hb; have d0 := blk_cell mb1 0; have d1 := blk_cell mb1 1; have d2 := blk_cell mb1 2; have d3 := blk_cell mb1 3; simp only [List.getElem?_toArray, List.getElem?_cons_zero, List.getElem?_cons_succ] at d0 d1 d2 d3; have HB1 := Aside0.mk (And.intro mb1 hb); clear mb1 hb)
          refine wp_region_mid 7 (by kernel_rfl) (by kernel_rfl) rfl ?_
          simp only [List.take_succ_cons, List.take_zero, List.drop_succ_cons, List.drop_zero]
          repeat (go_big_quiet_step (fail))
          refine wpQuiet_nil ?_
          rintro W1 ⟨nq, hnq⟩ K hK
          have HB0 : Aside0 (Below w.heap.size w W1) := ⟨hnq ▸ pw_below_drewN ((below_alloc (Below.refl _ _) _).trans (HB1.out.2.mono (by simp))) _⟩
          clear hnq nq
          refine goes_ Try.func25 (by kernel_rfl) rfl #[.slice (some ad) P c, .agg #[.int .i64 (N : Int), .int .i64 ma, .int .i64 mb, .int .i64 mc]] (by rfl) rfl rfl (by simp [Act.eval]) ?_
          refine (KS.out _ (Kd.C_below HM.out.1 HB0.out)).mono ?_
          rintro e w2 ⟨b, rfl, hst, hb2⟩
          refine ⟨_, rfl, hK _ _ ?_⟩
          clear hK K d0 d1 d2 d3
          simp only [Act.put, List.setIfInBounds_toArray, List.set_cons_zero, List.set_cons_succ]
          repeat (go_big_quiet_step (fail))
          refine wpQuiet_nil ?_
          rintro w3 ⟨n3, hn3⟩
          have HB2 : Aside0 (RStAt w3 W1.heap.size w2.heap.size b ⟨(N : Int), ma, mb, mc⟩ s0 ∧ Below w.heap.size w w3) := ⟨by rw [hn3]; exact hst.kept (S := fun _ => False) ((Kept.refl _ _).drewN n3) (fun _ _ _ h => h), by rw [hn3]; exact pw_below_drewN (HB0.out.trans (hb2.mono HB0.out.size)) n3⟩
          have HL : Aside0 (w.heap.size ≤ W1.heap.size) := ⟨HB0.out.size⟩
          clear hst hb2 hn3
          go_wp2
          go_loopg [11, 12] L (fun kq v11 v12 W' => ∃ k : Nat, v12 = .int .i64 ((P + k : Nat) : Int) ∧ v11 = .int .i64 (((l.drop P).take k).foldl (missStep ⟨N, ma, mb, mc⟩) (0, s0)).1 ∧ Aside0 (kq + k = L) ∧ Aside0 (RStAt W' W1.heap.size w2.heap.size b ⟨N, ma, mb, mc⟩ (((l.drop P).take k).foldl (missStep ⟨N, ma, mb, mc⟩) (0, s0)).2 ∧ Below w.heap.size w3 W'))
          case atStart => exact ⟨0, rfl, rfl, ⟨rfl⟩, ⟨by simpa using HB2.out.1, Below.refl _ _⟩⟩
          case round =>
            obtain ⟨k, rfl, rfl, HK, HS⟩ := hrel
            obtain ⟨T, hT⟩ : ∃ T, P + k = T := ⟨_, rfl⟩
            rw [hT]
            by_cases ck : T < l.length
            · have c1 : decide ((T : Int) < (l.length : Int)) = true := decide_eq_true (by omega)
              obtain ⟨ad', e, r0⟩ := Kd.at_int (Kd.C_below HM.out.2 (HB2.out.2.trans HS.out.2)) (T : Int) (by omega) (by omega)
              cases e
              rw [Int.toNat_natCast] at r0
              have hPL := HI.out.2.2.2.2.2
              have hrd : rd (l.drop P) (k : Int) = rd l (T : Int) := by
                show (l.drop P).getD k 0 = l.getD T 0
                simp only [List.getD_eq_getElem?_getD, List.getElem?_drop]
                rw [hT]
              have j1 : FS.In (rd l (T : Int)) := allIn_getD hin T
              obtain ⟨q, hq⟩ : ∃ q, ((l.drop P).take k).foldl (missStep ⟨N, ma, mb, mc⟩) (0, s0) = q := ⟨_, rfl⟩
              have hq1 : FS.In q.1 := hq ▸ misses_in _ _ _ (show FS.In 0 from ⟨by decide, by decide⟩)
              have hq2 : q.2 = ((l.drop P).take k).foldl (stepS ⟨N, ma, mb, mc⟩) s0 := by rw [← hq, misses_snd]
              have hS1 : q.2.In := by rw [hq2]; exact fold_in _ _ _ HI.out.2.2.1
              have hS2 : q.2.parts.length = N := by rw [hq2, fold_len]; exact HI.out.1
              have hS3 : q.2.k ≤ l.length := by
                rw [hq2, fold_k, HI.out.2.1, List.length_take, List.length_drop]
                omega
              rw [hq] at HS ⊢
              obtain ⟨x, hx⟩ : ∃ x, rd l (T : Int) = x := ⟨_, rfl⟩
              rw [hx] at j1 r0 hrd
              obtain ⟨cv, hcv⟩ : ∃ cv, (castOf q.2 1).1 = cv := ⟨_, rfl⟩
              have j2 : FS.In cv := hcv ▸ (castOf_one q.2).2
              have j3 := in_distS x cv
              have j4 := in_addS q.1 (distS x cv)
              have CC : Aside0 (∀ W, RStAt W W1.heap.size w2.heap.size b ⟨N, ma, mb, mc⟩ q.2 → Calls Try.prog 29 #[.pointer (some ⟨b, 0, none⟩), .int .i64 1] W fun e w' => e = .returned (.tuple #[.int .i64 cv, .int .i64 0]) ∧ Below W.heap.size W w') := ⟨fun W h => by
                have := rcastOf_calls W1.heap.size w2.heap.size b ⟨N, ma, mb, mc⟩ q.2 1 W h hS1 ⟨by decide, by decide⟩ (by omega) (by omega) (by omega) (by rw [hS2])
                rw [(castOf_one q.2).1, hcv] at this
                exact this⟩
              have SC := Aside0.mk (fun W (h : RStAt W W1.heap.size w2.heap.size b ⟨N, ma, mb, mc⟩ q.2) => rstep_calls W1.heap.size w2.heap.size b ⟨N, ma, mb, mc⟩ q.2 x W h hS1 j1 HWI.out (by omega) (by omega) (by omega) (by rw [hS2]))
              have SD : Aside0 (∀ W, Below wr.heap.size wr W → RStAt W W1.heap.size w2.heap.size b ⟨N, ma, mb, mc⟩ q.2) := ⟨fun W hW => HS.out.1.kept (S := fun _ => False) (Kept.of_below hW _) (fun _ _ _ h => h)⟩
              have hkL : k < L := by omega
              have HQ := Aside0.mk (And.intro hq (And.intro hrd (And.intro hcv (And.intro hkL hT))))
              have j5 := hq1
              clear hq hx hrd hcv hq1 hq2 hS1 hS2 hS3
              obtain ⟨qs, hqs⟩ : ∃ qs, q.1 = qs := ⟨_, rfl⟩
              rw [hqs] at j4 j5 ⊢
              have HQS := Aside0.mk hqs
              clear hqs hT hPL
              cases gk with
              | zero => exact absurd HK.out (by omega)
              | succ k1 =>
                go_wp2_with (first | (go_at_call 29; (with_reducible refine (CC.out _ HS.out.1).mono ?_); rintro e w4 ⟨rfl, hb3⟩; have r1' := (hb3.cell (World.block_lt_of_cell? _ _ r0)).trans r0; have H3 := Aside0.mk hb3; clear hb3 r0) | (go_at_call 74; (with_reducible refine (rdist_calls x cv (by assumption) (by assumption) _).mono ?_); rintro e w' ⟨rfl, ⟨nd, rfl⟩⟩) | (go_at_call 55; (with_reducible refine (rAdd (by assumption) (by assumption) _).mono ?_); rintro e w' ⟨rfl, ⟨nd, rfl⟩⟩) | (go_at_call 31; (with_reducible refine (SC.out _ (SD.out _ (pw_below_drewN H3.out _))).mono ?_); rintro e w' ⟨⟨v, rfl⟩, hst, hb, hkp⟩; have HR := Aside0.mk (And.intro hst hb); clear hst hb hkp))
                go_roundg k1
                case measure => omega
                case rel =>
                  obtain ⟨hq, hx, hcv, hk, hT⟩ := HQ.out
                  have e := misses_snoc ⟨N, ma, mb, mc⟩ (l.drop P) (0, s0) k (by rw [List.length_drop]; have := HI.out.2.2.2.2.2; omega)
                  rw [hq, hx] at e
                  unfold missStep at e
                  rw [hcv, HQS.out] at e
                  have hBw : Below w.heap.size w3 wr := HS.out.2
                  have hsz := hBw.size
                  refine ⟨k + 1, by rw [← hT]; go_num, by unfold missStep; rw [e], ⟨by have := HK.out; omega⟩, ⟨?_, (HS.out.2.trans ((pw_below_drewN H3.out _).mono (by have := HB2.out.2.size; omega))).trans (HR.out.2.mono HL.out)⟩⟩
                  unfold missStep
                  rw [e]
                  exact HR.out.1
            · have c1 : decide ((T : Int) < (l.length : Int)) = false := decide_eq_false (by omega)
              have hS2 : (((l.drop P).take k).foldl (missStep ⟨N, ma, mb, mc⟩) (0, s0)).1 = r1 := by
                rw [List.take_of_length_le (by rw [List.length_drop]; omega)]
                exact HI.out.2.2.2.1.1
              obtain rfl := HI.out.2.2.2.1.2
              rw [hS2]
              clear hS2
              go_wp2
              go_ret2
              exact ⟨rfl, HB2.out.2.trans HS.out.2⟩
  · obtain ⟨rfl, rfl⟩ : r1 = 0 ∧ r2 = 1 := by
      unfold missS at er
      rw [if_pos (by rw [hck]; decide)] at er
      cases er; exact ⟨rfl, rfl⟩
    rw [hck] at kc
    have KC := Aside0.mk kc
    obtain ⟨n, ma, mb, mc⟩ := m
    clear kc er hck
    dsimp only [moV] at KC ⊢
    go_enter Try.func36, Try.ntmps36
    go_wp2_with (go_at_call 32; (with_reducible refine (KC.out _).mono ?_); rintro e w1 ⟨rfl, hb⟩)
    go_ret2
    exact ⟨rfl, (below_alloc (Below.refl _ _) _).trans (hb.mono (by simp))⟩
end Go.Proofs.Ytemnfnbjapobcaa.Ho
end
section
namespace Go.Proofs.Ytemnfnbjapobcaa
open Go.Proofs.Ytemnfnbjapobcaa.HS
def okL (l : List Int) : Bool := allInB l && decide (l.length ≤ 1000000000)
theorem okL_iff {l : List Int} : okL l = true ↔ AllIn l ∧ l.length ≤ 1000000000 := by unfold okL; simp [allInB_iff]
end Go.Proofs.Ytemnfnbjapobcaa
end
