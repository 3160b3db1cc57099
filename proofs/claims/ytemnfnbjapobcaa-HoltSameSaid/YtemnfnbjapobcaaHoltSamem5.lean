-- Laid together by wip/shake.py out of: Holt3 Holt4 Holt5 Ref1 Holt6 Ref4 Holt7 Holt8 Same1 Extra Hsx0 Hsx1 Hsx2 PureHoltSame
import Derived.Test.YtemnfnbjapobcaaHoltSamem4
import Derived.Lib.SliceRun
import Derived.Test.YtemnfnbjapobcaaProg
import Derived.Below
import Derived.Deep.Draws
import Derived.Deep.AppendLies
import Derived.Maps.AppendAt
import Derived.OwnWalk
import Derived.Laws.BytesArg
import Derived.Laws.MakeOwn
import Derived.Laws.OwnMore
import Derived.Deep.OwnRows
import Derived.Tactics
import Derived.Lib.ConvBytes
import Derived.Laws.Slices
import Derived.WalkKit
import Derived.KernelRfl
import Derived.RowKit3
import Derived.Deep.LoopGhost
import Derived.Deep.QuietTactic
import Derived.BigQuiet
import Derived.WideLaws
import Derived.Deep.DeepCutAuto
import Derived.Deep.CutBlock
import Derived.Deep.RegionHeld3
import Derived.Laws.Rows
import Derived.Lib.AppendStr
import Derived.ArgAppend
import Derived.Laws.IdiomCopy
import Derived.OrdersHeld
import Derived.Laws.BitsLemmas
import Derived.RowKit
section
namespace Go.Proofs.Ytemnfnbjapobcaa.Ho
open Go.RowKit Go.Proofs.YtemnfnbjapobcaaW.PrintWords Go.Proofs.YtemnfnbjapobcaaW.PrintLast Go.Proofs.YtemnfnbjapobcaaW.PrintMore
open Go.Proofs.Ytemnfnbjapobcaa.FS Go.Proofs.Ytemnfnbjapobcaa.HS
set_option linter.unusedVariables false
set_option linter.unusedSimpArgs false
theorem i64_wrap_id {x : Int} (h0 : -9223372036854775808 ≤ x) (h1 : x ≤ 9223372036854775807) : IntKind.i64.wrap x = x := by rw [IntKind.wrap_i64]; omega
set_option maxHeartbeats 4000000 in
theorem castOf_calls (lo hi b : Nat) (m : Mo) (s : St) (ahead : Int) (w : World) (h : StAt w lo hi b m s) (hs : s.In) (ha : FS.In ahead) (hk : s.k < 1000000000000) (hn : 0 < s.parts.length) (hl : s.parts.length ≤ 1000000000000) :
    Calls Try.prog 28 #[.pointer (some ⟨b, 0, none⟩), .int .i64 ahead] w fun e w' => e = .returned (.tuple #[.int .i64 (castOf s ahead).1, .int .i64 (castOf s ahead).2]) ∧ Drawn0 w w' := by
  obtain ⟨g, cap, m1, m2, m3, h⟩ := h
  obtain ⟨level, trend, parts, k⟩ := s
  obtain ⟨hs1, hs2, hs3⟩ := hs
  dsimp only at hk hn hl hs1 hs2 hs3
  obtain ⟨r, hr⟩ : ∃ r, castOf ⟨level, trend, parts, k⟩ ahead = r := ⟨_, rfl⟩
  rw [hr]
  obtain ⟨r1, r2⟩ := r
  have HR := Aside0.mk hr
  clear hr
  have hb := h.blk
  dsimp only [stCells, sl, mixV] at hb
  have c0 := blk_cell hb 0
  have c1 := blk_cell hb 1
  have c2 := blk_cell hb 2
  have c3 := blk_cell hb 3
  simp only [List.getElem?_toArray, List.getElem?_cons_zero, List.getElem?_cons_succ] at c0 c1 c2 c3
  have hn1 : ¬ parts.length = 0 := by omega
  have hn0 : ((parts.length : Int) == 0) = false := by rw [beq_eq_false_iff_ne]; omega
  by_cases h1 : ahead < 1
  · obtain ⟨rfl, rfl⟩ : r1 = 0 ∧ r2 = 1 := by have := HR.out; simp only [castOf] at this; rw [if_pos (.inl h1)] at this; simpa [eq_comm] using this
    have g1 : decide (ahead < 1) = true := decide_eq_true h1
    clear h1 HR h hb
    go_enter Try.func28, Try.ntmps28
    go_wp2
    go_ret2
    exact ⟨rfl, Drawn0.refl _⟩
  · have g1 : decide (ahead < 1) = false := decide_eq_false h1
    by_cases h2 : 10000 < ahead
    · obtain ⟨rfl, rfl⟩ : r1 = 0 ∧ r2 = 1 := by have := HR.out; simp only [castOf] at this; rw [if_pos (.inr h2)] at this; simpa [eq_comm] using this
      have g2 : decide (10000 < ahead) = true := decide_eq_true h2
      clear h1 h2 HR h hb
      go_enter Try.func28, Try.ntmps28
      go_wp2
      go_ret2
      exact ⟨rfl, Drawn0.refl _⟩
    · have g2 : decide (10000 < ahead) = false := decide_eq_false h2
      obtain ⟨A, rfl⟩ := Int.eq_ofNat_of_zero_le (show 0 ≤ ahead by omega)
      obtain ⟨j, hj⟩ : ∃ j, (k + A - 1) % parts.length = j := ⟨_, rfl⟩
      have hjl : j < parts.length := hj ▸ Nat.mod_lt _ hn
      obtain ⟨p, hp⟩ : ∃ p, rd parts (j : Int) = p := ⟨_, rfl⟩
      obtain ⟨rfl, rfl⟩ : r1 = addS (addS level (mulS (ofS (A : Int)) trend)) p ∧ r2 = 0 := by
        have := HR.out
        simp only [castOf] at this
        rw [if_neg (by omega)] at this
        obtain ⟨e1, e2⟩ := Prod.mk.inj this
        refine ⟨?_, e2.symm⟩
        rw [← e1, ← hp, Int.toNat_natCast, hj]
        rfl
      have p0 := own_at h.row (j : Int) (by omega) (by exact_mod_cast hjl)
      dsimp only at p0
      rw [Int.toNat_natCast, hp] at p0
      obtain ⟨p1, p2⟩ := p0
      have hpi : FS.In p := hp ▸ allIn_getD hs3 j
      obtain ⟨u, hq⟩ : ∃ u : Int, IntKind.i64.wrap ((k : Int) + (A : Int)) = u := ⟨_, rfl⟩
      have hq' : u = (k : Int) + A := by rw [← hq]; exact i64_wrap_id (by omega) (by omega)
      obtain ⟨u1, hq1⟩ : ∃ u1 : Int, IntKind.i64.wrap (u - 1) = u1 := ⟨_, rfl⟩
      have hq1' : u1 = ((k + A - 1 : Nat) : Int) := by rw [← hq1, hq', i64_wrap_id (by omega) (by omega)]; omega
      have hjm : Int.tmod u1 (parts.length : Int) = (j : Int) := by rw [hq1', ← hj]; rfl
      have a1 := in_ofS (A : Int)
      have a2 := in_mulS (ofS (A : Int)) trend
      have a3 := in_addS level (mulS (ofS (A : Int)) trend)
      have hjl2 : (j : Int) < (parts.length : Int) := by omega
      clear hq' hq1' HR h hb hp hj h1 h2
      go_enter Try.func28, Try.ntmps28
      go_wp2
      go_quiet ((first | (go_at_call 69; exact q0 (fOf (by assumption) _)) | (go_at_call 68; exact q0 (fMul (by assumption) (by assumption) _)) | (go_at_call 67; exact q0 (fAdd (by assumption) (by assumption) _))))
      go_wp2
      go_quiet ((first | (go_at_call 67; exact q1 (fAdd (by assumption) (by assumption) _))))
      go_wp2
      go_ret2
      exact ⟨rfl, by repeat (first | exact Drawn0.refl _ | apply Drawn0.step)⟩
end Go.Proofs.Ytemnfnbjapobcaa.Ho
end
section
namespace Go.Proofs.Ytemnfnbjapobcaa.Ho
open Go.RowKit Go.Proofs.YtemnfnbjapobcaaW.PrintWords Go.Proofs.YtemnfnbjapobcaaW.PrintLast Go.Proofs.YtemnfnbjapobcaaW.PrintMore
open Go.Proofs.Ytemnfnbjapobcaa.FS Go.Proofs.Ytemnfnbjapobcaa.HS
set_option linter.unusedVariables false
set_option linter.unusedSimpArgs false
theorem info3 : (Try.prog.info? 3).map (fun i => (i.zero, i.size, i.bytes)) = some (some (.int .i64 0), 1, 8) := by kernel_rfl
theorem cell_below {w w' : World} {p : Addr} {v : Value} (hb : Below w.drew.heap.size w.drew w') (hc : w.cell? p = some v) : w'.cell? p = some v := (hb.cell (World.block_lt_of_cell? _ _ hc)).trans hc
theorem row_form {W : World} {lo : Nat} {v : Value} {l : List Int} (h : W.ownsRow lo 3 1 v l.length (nums .i64 l)) (hn : 0 < l.length) : ∃ g cap, v = .slice (some ⟨g, 0, none⟩) l.length cap ∧ lo ≤ g ∧ g < W.heap.size := by
  rcases h.2 with ⟨_, h2⟩ | ⟨g, cap, cur, rfl, h2, h3, _⟩
  · omega
  · exact ⟨g, cap, rfl, h2, blk_lt h3⟩
set_option maxHeartbeats 1000000 in
theorem clone_calls (ad : Addr) (c : Nat) (l : List Int) (w : World) (hr : ReadsInt w .i64 (some ad) l.length l) (hn : 0 < l.length) (hl : l.length ≤ 1000000000000) :
    Calls Try.prog 66 #[.slice (some ad) l.length c] w fun e w' => ∃ g cap, e = .returned (.slice (some ⟨g, 0, none⟩) l.length cap) ∧ row3 w' w.heap.size g cap l ∧ w.heap.size ≤ g ∧ g < w'.heap.size ∧ Below w.heap.size w w' := by
  have qT : ∀ (w : World) (a : Option Addr) (n c n' c' : Nat), (binOp .eql 23 (.slice a n c) (.slice none n' c')).run Try.prog w = .ok (.bool a.isNone) w := fun w a n c n' c' => Lib.run_eql_slice_nil w _ _ a n c n' c' Try.underlying23
  have HO : (w.alloc (.cells #[] 3)).ownsRow w.heap.size 3 1 (.slice (some ⟨w.heap.size, 0, none⟩) 0 0) ([] : List Int).length (nums .i64 []) := by
    have h := World.ownsRow_lit (base := w.heap.size) (e := 3) (size := 1) w #[] 0 (Nat.le_refl _) (by decide) (by simp)
    simpa [nums] using h
  have HR := hr.allocS (.cells #[] 3)
  have HB := below_alloc (Below.refl w.heap.size w) (.cells #[] 3)
  have A1 := Aside0.mk (And.intro HO (And.intro HR HB))
  clear HO HR HB hr
  go_enter Try.func66, Try.ntmps66
  go_wp2_with (at_builtin; refine print_append_row (w0 := w) w.heap.size rfl (.tmp 5) (.tmp 6) 23 3 .i64 8 rfl Try.underlying23 info3 (by decide) (.slice (some ⟨w.heap.size, 0, none⟩) 0 0) [] l (some ad) l.length c rfl rfl A1.out.1 A1.out.2.1 A1.out.2.2 (by simp) (by simp; omega) ?_)
  intro v1 w1 hv1 hb1 _ _
  obtain ⟨g, cap, rfl, hg1, hg2⟩ := row_form hv1 hn
  have A2 := Aside0.mk hv1
  clear hv1
  go_wp2
  go_ret
  exact ⟨g, cap, rfl, A2.out, hg1, hg2, hb1⟩
set_option maxHeartbeats 1000000 in
theorem parts_calls (lo hi b : Nat) (m : Mo) (s : St) (w : World) (h : StAt w lo hi b m s) (hn : 0 < s.parts.length) (hl : s.parts.length ≤ 1000000000000) :
    Calls Try.prog 26 #[.pointer (some ⟨b, 0, none⟩)] w fun e w' => ∃ g cap, e = .returned (.tuple #[.int .i64 s.level, .int .i64 s.trend, .slice (some ⟨g, 0, none⟩) s.parts.length cap]) ∧ row3 w' w.heap.size g cap s.parts ∧ w.heap.size ≤ g ∧ g < w'.heap.size ∧ Below w.heap.size w w' := by
  obtain ⟨g, cap, m1, m2, m3, h⟩ := h
  obtain ⟨level, trend, parts, k⟩ := s
  dsimp only at hn hl ⊢
  have hb := h.blk
  dsimp only [stCells, sl, mixV] at hb
  have c0 := blk_cell hb 0
  have c1 := blk_cell hb 1
  have c2 := blk_cell hb 2
  simp only [List.getElem?_toArray, List.getElem?_cons_zero, List.getElem?_cons_succ] at c0 c1 c2
  have HR : Aside0 (ReadsInt w.drew .i64 (some ⟨g, 0, none⟩) parts.length parts) := ⟨own_reads' (own_drew h.row)⟩
  clear hb h
  go_enter Try.func26, Try.ntmps26
  go_wp2
  go_region_held3 (fun w' => w'.cell? ⟨b, 0, none⟩ = some (.int .i64 level) ∧ w'.cell? ⟨b, 1, none⟩ = some (.int .i64 trend) ∧ w'.cell? ⟨b, 2, none⟩ = some (.slice (some ⟨g, 0, none⟩) parts.length cap)) (first | go_keep | exact ⟨cell_below hbel c0, cell_below hbel c1, cell_below hbel c2⟩) (first | (go_at_call 66; (with_reducible refine (clone_calls ⟨g, 0, none⟩ cap parts _ HR.out hn hl).mono ?_); rintro e w' ⟨g', cap', rfl, hrow, hg1, hg2, hbel⟩))
  go_wp2
  exact bodyPost_ret (v := .tuple #[.int .i64 level, .int .i64 trend, .slice (some ⟨g', 0, none⟩) parts.length cap']) (by simp [results, Try.results26, go_sem]) rfl ⟨g', cap', rfl, hrow, hg1, hg2, (pw_below_drewN (Below.refl w.heap.size w) 1).trans hbel⟩
end Go.Proofs.Ytemnfnbjapobcaa.Ho
end
section
namespace Go.Proofs.Ytemnfnbjapobcaa.Ho
open Go.RowKit Go.Proofs.YtemnfnbjapobcaaW.PrintWords Go.Proofs.YtemnfnbjapobcaaW.PrintLast Go.Proofs.YtemnfnbjapobcaaW.PrintMore
open Go.Proofs.Ytemnfnbjapobcaa.FS Go.Proofs.Ytemnfnbjapobcaa.HS
set_option linter.unusedVariables false
set_option linter.unusedSimpArgs false
theorem mean_n (A : Option Addr) (n c : Nat) (l : List Int) (w : World) (e : l.length = n) (hr : Kd.C (Kd.int .i64) w A n l) (hl : n ≤ 1000000000000) (hin : AllIn l) :
    Calls Try.prog 101 #[.slice A n c] w fun e w' => e = .returned (.int .i64 (meanS l)) ∧ Drawn0 w w' := by
  subst e
  exact mean_calls A c l w hr hl hin
theorem allIn_take {l : List Int} (h : AllIn l) (n : Nat) : AllIn (l.take n) := fun x hx => h x (List.mem_of_mem_take hx)
theorem allIn_drop {l : List Int} (h : AllIn l) (n : Nat) : AllIn (l.drop n) := fun x hx => h x (List.mem_of_mem_drop hx)
theorem cell_made {w w' : World} {n : Nat} {p : Addr} {v : Value} (h : Made w w' n) (hc : w.cell? p = some v) : w'.cell? p = some v := (h.below.cell (World.block_lt_of_cell? _ _ hc)).trans hc
theorem weighed_x (wt : Int) (hwt : FS.In wt) (w : World) :
    Calls Try.prog 103 #[.int .i64 wt] w fun e w' => e = .returned (.func (.func 135) #[] #[.pointer (some ⟨w.heap.size, 0, none⟩), .pointer (some ⟨w.heap.size + 1, 0, none⟩)]) ∧ MixAt w' w.heap.size wt ∧ Made w w' 2 := weighed_calls wt hwt w
theorem below_alloc_ {n : Nat} {w W : World} (h : Below n w W) (hn : n ≤ W.heap.size) (o : Obj) : Below n w (W.alloc o) := h.alloc hn o
theorem cell_alloc {w : World} {p : Addr} {v : Value} (hc : w.cell? p = some v) (o : Obj) : (w.alloc o).cell? p = some v := by
  rw [World.cell?_alloc_lt _ _ _ (World.block_lt_of_cell? _ _ hc)]; exact hc
theorem cell_of_alloc {w : World} {p : Addr} {v : Value} {o : Obj} (hc : (w.alloc o).cell? p = some v) (hp : p.block < w.heap.size) : w.cell? p = some v := by
  rwa [World.cell?_alloc_lt _ _ _ hp] at hc
theorem parts_len (l : List Int) (av : Int) {k N : Nat} (h : k ≤ N) (hN : N ≤ l.length) : (((l.take N).take k).map (fun x => subS x av)).length = k := by simp; omega
theorem parts_snoc (l : List Int) (av : Int) {k N : Nat} (h : k < N) (hN : N ≤ l.length) : ((l.take N).take (k + 1)).map (fun x => subS x av) = ((l.take N).take k).map (fun x => subS x av) ++ [subS (rd l (k : Int)) av] := by
  have e : rd l (k : Int) = l[k]'(by omega) := by
    show l.getD k 0 = _
    simp [List.getD_eq_getElem?_getD, List.getElem?_eq_getElem (show k < l.length by omega)]
  rw [List.take_succ_eq_append_getElem (by simp; omega), List.map_append, e]
  simp
structure Lay (V W : World) (lo b : Nat) (cs : Value → Array Value) (v : Value) (l : List Int) : Prop where
  blk : W.heap[b]? = some (.cells (cs v) 99 (0, 0))
  row : W.ownsRow (b + 1) 3 1 v l.length (nums .i64 l)
  kept : Kept V W (· = b)
  below : Below lo V W
def moV (m : Mo) : Value := .agg #[.int .i64 m.n, .int .i64 m.a, .int .i64 m.b, .int .i64 m.c]
set_option maxRecDepth 100000 in
set_option maxHeartbeats 4000000 in
theorem begin_calls (A : Option Addr) (c : Nat) (l : List Int) (m : Mo) (w : World) (hr : Kd.C (Kd.int .i64) w A l.length l) (hc : l.length ≤ c) (hin : AllIn l) (hm : Mo.wIn m) (hn : 1 ≤ m.n) (hl : 2 * m.n ≤ (l.length : Int)) (hll : l.length ≤ 1000000000) :
    Calls Try.prog 64 #[.slice A l.length c, moV m] w fun e w' => ∃ b, e = .returned (.pointer (some ⟨b, 0, none⟩)) ∧ StAt w' w.heap.size w'.heap.size b m (beginS l m.n.toNat) ∧ Below w.heap.size w w' := by
  obtain ⟨n, ma, mb, mc⟩ := m
  dsimp only at hn hl
  obtain ⟨N, rfl⟩ := Int.eq_ofNat_of_zero_le (show 0 ≤ n by omega)
  rw [Int.toNat_natCast]
  dsimp only [moV]
  obtain ⟨ad, rfl, _⟩ := Kd.at_int hr 0 (by omega) (by omega)
  obtain ⟨M, hM⟩ : ∃ M, 2 * N = M := ⟨_, rfl⟩
  have e2 : IntKind.i64.wrap (2 * (N : Int)) = (M : Int) := by rw [i64_wrap_id (by omega) (by omega)]; omega
  have b1 : N ≤ M := by omega
  have b2 : M ≤ c := by omega
  have b3 : N ≤ c := by omega
  have b4 : ¬ M = N := by omega
  have b5 : M - N = N := by omega
  have b6 : ¬ N = 0 := by omega
  have m1 : Kd.C (Kd.int .i64) w (some ad) N (l.take N) := by
    have h := Kd.C_take hr (m := N) (by omega)
    rwa [List.length_take, Nat.min_eq_left (by omega)] at h
  have m2 : Kd.C (Kd.int .i64) w (some (ad.add N)) N ((l.drop N).take N) := by
    have h := Kd.C_mid hr (lo := N) (hi := M) (c := c) b1 (by omega) hc
    rw [List.drop_take, b5, if_neg (by omega)] at h
    have e : ((l.drop N).take N).length = N := by simp; omega
    rw [e] at h
    simpa [show (Kd.int .i64).sz = 1 from rfl] using h
  have i1 : FS.In (meanS (l.take N)) := in_divS _ _
  have i2 : FS.In (meanS ((l.drop N).take N)) := in_divS _ _
  have i3 := in_subS (meanS ((l.drop N).take N)) (meanS (l.take N))
  have i4 : FS.In (N : Int) := ⟨by omega, by omega⟩
  have i5 := in_ofS (N : Int)
  obtain ⟨i6, i7, i8⟩ := hm
  dsimp only at i6 i7 i8
  have t1 : (l.take N).length = N := by simp; omega
  have t2 : ((l.drop N).take N).length = N := by simp; omega
  have HH := Aside0.mk (And.intro hr (And.intro hM (And.intro hin (And.intro m1 (And.intro m2 (And.intro t1 t2))))))
  clear hr hM hin m1 m2 t1 t2
  go_enter Try.func64, Try.ntmps64
  go_wp2
  go_quiet ((go_at_call 101; first | exact q0 (mean_n _ _ _ (l.take N) _ HH.out.2.2.2.2.2.1 (Kd.C_drewN (Kd.C_alloc HH.out.2.2.2.1 _) _) (by omega) (allIn_take HH.out.2.2.1 _)) | exact q0 (mean_n _ _ _ ((l.drop N).take N) _ HH.out.2.2.2.2.2.2 (Kd.C_drewN (Kd.C_alloc HH.out.2.2.2.2.1 _) _) (by omega) (allIn_take (allIn_drop HH.out.2.2.1 _) _))))
  revert nq
  intro n1
  go_wp2
  obtain ⟨W, hW⟩ : ∃ W, (w.alloc (.cells #[.int .i64 (N : Int), .int .i64 ma, .int .i64 mb, .int .i64 mc] 29)).drewN n1 = W := ⟨_, rfl⟩
  rw [hW]
  have hb : W.heap[w.heap.size]? = some (.cells #[.int .i64 (N : Int), .int .i64 ma, .int .i64 mb, .int .i64 mc] 29 (0, 0)) := hW ▸ blk_drewN (blk_new w _) n1
  have hs : W.heap.size = w.heap.size + 1 := by rw [← hW]; simp
  have hB : Below w.heap.size w W := hW ▸ pw_below_drewN (below_alloc (Below.refl _ _) _) n1
  have d1 := blk_cell hb 1
  have d2 := blk_cell hb 2
  have d3 := blk_cell hb 3
  simp only [List.getElem?_toArray, List.getElem?_cons_zero, List.getElem?_cons_succ] at d1 d2 d3
  have HW := Aside0.mk (And.intro hW (And.intro hb (And.intro hs hB)))
  clear hW hb hs hB
  go_region_held3 (fun w' => w'.cell? ⟨w.heap.size, 1, none⟩ = some (.int .i64 ma) ∧ w'.cell? ⟨w.heap.size, 2, none⟩ = some (.int .i64 mb) ∧ w'.cell? ⟨w.heap.size, 3, none⟩ = some (.int .i64 mc)) (first | go_keep | (go_split_ands; exact ⟨cell_made hmade (by assumption), cell_made hmade (by assumption), cell_made hmade (by assumption)⟩)) (first | (go_at_call 71; (with_reducible refine (fSub (by assumption) (by assumption) _).mono ?_); rintro e w' ⟨rfl, ⟨nd, rfl⟩⟩) | (go_at_call 69; (with_reducible refine (fOf (by assumption) _).mono ?_); rintro e w' ⟨rfl, ⟨nd, rfl⟩⟩) | (go_at_call 102; (with_reducible refine (fDiv (by assumption) (by assumption) _).mono ?_); rintro e w' ⟨rfl, ⟨nd, rfl⟩⟩) | (go_at_call 103; (with_reducible refine (weighed_x _ (by assumption) _).mono ?_); rintro e w' ⟨rfl, hmix, hmade⟩))
  rename_i w1 hx1 hd1 w2 hx2 hd2 hheld
  clear hheld
  obtain ⟨hW, hb, hs, hB⟩ := HW.out
  have z1 : w1.heap.size = w.heap.size + 3 := by have := hd1.size; simp at this; omega
  have z2 : w2.heap.size = w.heap.size + 5 := by have := hd2.size; omega
  have z3 : w'.heap.size = w.heap.size + 7 := by have := hmade.size; omega
  obtain ⟨tr, htr⟩ : ∃ tr, divS (subS (meanS ((l.drop N).take N)) (meanS (l.take N))) (ofS (N : Int)) = tr := ⟨_, rfl⟩
  rw [htr]
  obtain ⟨av, hav⟩ : ∃ av, meanS (l.take N) = av := ⟨_, rfl⟩
  rw [hav] at i1 ⊢
  obtain ⟨V, hV⟩ : ∃ V, w'.alloc (.cells #[.int .i64 av, .int .i64 tr, .slice none 0 0, .int .i64 0, mixV W.heap.size, mixV w1.heap.size, mixV w2.heap.size] 99) = V := ⟨_, rfl⟩
  dsimp only [mixV] at hV
  rw [hV]
  obtain ⟨B, hBz⟩ : ∃ B, w'.heap.size = B := ⟨_, rfl⟩
  obtain ⟨M1, hM1⟩ : ∃ M1, W.heap.size = M1 := ⟨_, rfl⟩
  obtain ⟨M2, hM2⟩ : ∃ M2, w1.heap.size = M2 := ⟨_, rfl⟩
  obtain ⟨M3, hM3⟩ : ∃ M3, w2.heap.size = M3 := ⟨_, rfl⟩
  rw [hBz, hM1, hM2, hM3]
  rw [hM1, hM2, hM3] at hV
  have y1 : MixAt V M1 ma := by
    rw [← hV, ← hM1]
    have h1 : cell1 w1 W.heap.size ma ∧ cell1 w1 (W.heap.size + 1) (subS 4294967296 ma) := hx1
    exact ⟨blk_alloc (blk_below (blk_below h1.1 hd2.below) hmade.below) _, blk_alloc (blk_below (blk_below h1.2 hd2.below) hmade.below) _⟩
  have y2 : MixAt V M2 mb := by
    rw [← hV, ← hM2]
    exact ⟨blk_alloc (blk_below hx2.1 hmade.below) _, blk_alloc (blk_below hx2.2 hmade.below) _⟩
  have y3 : MixAt V M3 mc := by
    rw [← hV, ← hM3]
    exact ⟨blk_alloc hmix.1 _, blk_alloc hmix.2 _⟩
  have BV : Below w.heap.size w V := by
    rw [← hV]
    refine below_alloc_ (((hB.trans ((pw_below_drewN (Below.refl _ _) _).trans (hd1.below.mono ?_))).trans (hd2.below.mono ?_)).trans (hmade.below.mono ?_)) ?_ _ <;> first | omega | (simp; omega)
  have hbV : V.heap[B]? = some (.cells #[.int .i64 av, .int .i64 tr, .slice none 0 0, .int .i64 0, mixV M1, mixV M2, mixV M3] 99 (0, 0)) := by
    rw [← hV, ← hBz]
    exact blk_new w' _
  have hVz : V.heap.size = B + 1 := by rw [← hV, ← hBz]; simp
  have L0 : Lay V V w.heap.size B (fun v => #[.int .i64 av, .int .i64 tr, v, .int .i64 0, mixV M1, mixV M2, mixV M3]) (.slice none 0 0) [] :=
    ⟨hbV, own_nil _ _ _ _, Kept.refl _ _, Below.refl _ _⟩
  have lB : w.heap.size + 7 = B := by omega
  have lM : M1 = w.heap.size + 1 ∧ M2 = w.heap.size + 3 ∧ M3 = w.heap.size + 5 := by omega
  have G := Aside0.mk (And.intro y1 (And.intro y2 (And.intro y3 (And.intro BV (And.intro hVz (And.intro lB (And.intro lM (And.intro htr hav))))))))
  have GL := Aside0.mk L0
  clear hbV hVz BV y1 y2 y3 hV L0 hM1 hM2 hM3 hBz z1 z2 z3 hW hb hs hB hx1 hd1 hx2 hd2 hmix hmade d1 d2 d3 HW lB lM htr hav
  go_wp2
  go_loopg [49] N (fun kq v49 W' => ∃ (k : Nat) (v : Value), v49 = .int .i64 (k : Int) ∧ Aside0 (kq + k = N) ∧ Aside0 (Lay V W' w.heap.size B (fun v => #[.int .i64 av, .int .i64 tr, v, .int .i64 0, mixV M1, mixV M2, mixV M3]) v (((l.take N).take k).map (fun x => subS x av))))
  case atStart => exact ⟨0, _, rfl, ⟨rfl⟩, by simpa using GL⟩
  case round =>
    obtain ⟨k, v, rfl, HK, HL⟩ := hrel
    by_cases ck : k < N
    · have c1 : decide ((k : Int) < (N : Int)) = true := decide_eq_true (by omega)
      obtain ⟨ad', e, r0⟩ := Kd.at_int (Kd.C_below HH.out.1 (G.out.2.2.2.1.trans HL.out.below)) (k : Int) (by omega) (by omega)
      cases e
      rw [Int.toNat_natCast] at r0
      have j1 : FS.In (rd l (k : Int)) := allIn_getD HH.out.2.2.1 k
      have u2 := blk_cell HL.out.blk 2
      simp only [List.getElem?_toArray, List.getElem?_cons_zero, List.getElem?_cons_succ] at u2
      have f2 := blk_frozen HL.out.blk 2
      have kN : k < N := ck
      clear ck
      go_wp2
      refine start_ (n := 13) (S := fun w' => w'.cell? ⟨B, 2, none⟩ = some v) (ds := [12]) #[false, false, false, false, false, false, false, false, false, false, false, false, false] (by kernel_rfl) rfl rfl u2 (fun hHeld => ?_)
      refine pure_ (i := 0) (N := some 53) (v := ?_) (a' := ?_) #[true, false, false, false, false, false, false, false, false, false, false, false, false] rfl rfl (by kernel_rfl) (fun _ _ _ h => h) (Or.inl ⟨by rfl, ?_⟩) ?_ ?_
      rotate_left
      · intro w'
        go_simp
        with_reducible rfl
      rotate_left
      · simp only [Act.put, List.setIfInBounds_toArray, List.set_cons_zero, List.set_cons_succ, i64_w, i32_w]
        rfl
      refine pure_ (i := 1) (N := some 54) (v := ?_) (a' := ?_) #[true, true, false, false, false, false, false, false, false, false, false, false, false] rfl rfl (by kernel_rfl) (fun _ _ _ h => h) (Or.inl ⟨by rfl, ?_⟩) ?_ ?_
      rotate_left
      · intro w'
        go_simp
        with_reducible rfl
      rotate_left
      · simp only [Act.put, List.setIfInBounds_toArray, List.set_cons_zero, List.set_cons_succ, i64_w, i32_w]
        rfl
      refine pure_ (i := 2) (N := some 55) (v := ?_) (a' := ?_) #[true, true, true, false, false, false, false, false, false, false, false, false, false] rfl rfl (by kernel_rfl) (fun _ _ _ h => h) (Or.inl ⟨by rfl, ?_⟩) ?_ ?_
      rotate_left
      · intro w'
        go_simp
        with_reducible rfl
      rotate_left
      · simp only [Act.put, List.setIfInBounds_toArray, List.set_cons_zero, List.set_cons_succ, i64_w, i32_w]
        rfl
      refine pure_ (i := 3) (N := some 56) (v := ?_) (a' := ?_) #[true, true, true, true, false, false, false, false, false, false, false, false, false] rfl rfl (by kernel_rfl) (fun _ _ _ h => h) (Or.inl ⟨by rfl, ?_⟩) ?_ ?_
      rotate_left
      · intro w'
        go_simp
        with_reducible rfl
      rotate_left
      · simp only [Act.put, List.setIfInBounds_toArray, List.set_cons_zero, List.set_cons_succ, i64_w, i32_w]
        rfl
      refine pure_ (i := 5) (N := some 58) (v := ?_) (a' := ?_) #[true, true, true, true, false, true, false, false, false, false, false, false, false] rfl rfl (by kernel_rfl) (fun _ _ _ h => h) (Or.inl ⟨by rfl, ?_⟩) ?_ ?_
      rotate_left
      · intro w'
        go_simp
        with_reducible rfl
      rotate_left
      · simp only [Act.put, List.setIfInBounds_toArray, List.set_cons_zero, List.set_cons_succ, i64_w, i32_w]
        rfl
      refine pure_ (i := 6) (N := some 59) (v := ?_) (a' := ?_) #[true, true, true, true, false, true, true, false, false, false, false, false, false] rfl rfl (by kernel_rfl) (fun _ _ _ h => h) (Or.inl ⟨by rfl, ?_⟩) ?_ ?_
      rotate_left
      · intro w'
        go_simp
        with_reducible rfl
      rotate_left
      · simp only [Act.put, List.setIfInBounds_toArray, List.set_cons_zero, List.set_cons_succ, i64_w, i32_w]
        rfl
      refine take_ (i := 4) (N := some 57) (v := ?_) (a' := ?_) #[true, true, true, true, true, true, true, false, false, false, false, false, false] rfl rfl (by kernel_rfl) (fun _ _ _ h => h) (Or.inl ⟨by rfl, ?_⟩) hHeld ?_ ?_
      rotate_left
      · rintro w' s0
        go_simp
        with_reducible rfl
      rotate_left
      · simp only [Act.put, List.setIfInBounds_toArray, List.set_cons_zero, List.set_cons_succ, i64_w, i32_w]
        rfl
      refine one_ (i := 7) (N := some 60) #[true, true, true, true, true, true, true, true, false, false, false, false, false] rfl rfl (by kernel_rfl) (by decide) (fun K hK => ?_)
      refine goes_ Try.func71 (by kernel_rfl) rfl #[.int .i64 (rd l (k : Int)), .int .i64 av] (by rfl) rfl rfl (by simp [Act.eval]) ?_
      refine (fSub j1 i1 _).mono ?_
      rintro e w' ⟨rfl, ⟨nd, rfl⟩⟩
      refine ⟨_, rfl, hK.out _ _ hHeld (fun hHeld => ?_)⟩
      clear hK K
      refine norm_ (by simp only [Act.put, List.setIfInBounds_toArray, List.set_cons_zero, List.set_cons_succ, i64_w, i32_w]; rfl) ?_
      refine one_ (i := 8) (N := some 61) #[true, true, true, true, true, true, true, true, true, false, false, false, false] rfl rfl (by kernel_rfl) (by decide) (fun K hK => ?_)
      refine value_ (w1 := (wr.drew.drewN nd).alloc (.cells #[.int .i64 (subS (rd l (k : Int)) av)] 3)) (v := .slice (some ⟨wr.heap.size, 0, none⟩) 1 1) (by rfl) rfl (by go_simp) ?_
      refine hK.out _ _ (cell_alloc hHeld _) (fun hHeld => ?_)
      clear hK K
      refine norm_ (by simp only [Act.put, List.setIfInBounds_toArray, List.set_cons_zero, List.set_cons_succ, i64_w, i32_w]; rfl) ?_
      refine one_ (i := 9) (N := some 62) #[true, true, true, true, true, true, true, true, true, true, false, false, false] rfl rfl (by kernel_rfl) (by decide) (fun K hK => ?_)
      have hlk := parts_len l av (show k ≤ N by omega) (show N ≤ l.length by omega)
      obtain ⟨gB, gz⟩ : w.heap.size + 7 = B ∧ V.heap.size = B + 1 := ⟨G.out.2.2.2.2.2.1, G.out.2.2.2.2.1⟩
      have gz2 := HL.out.kept.1
      refine step_append_cells (w0 := wr.drew.drewN nd) (W := wr.drew.drewN nd) (B + 1) (by rfl) (.tmp 57) (.tmp 61) 23 3 (.int .i64 0) 1 8 rfl Try.underlying23 info3 rfl (by decide) (by decide) v _ _ [.int .i64 (subS (rd l (k : Int)) av)] (by simp [Act.eval]) (by simp [Act.eval]) rfl (by intro u hu; simp at hu; subst hu; rfl) (pw_own_drewN (own_drew HL.out.row) nd) (Below.refl _ _) (by simp; omega) (by rw [hlk]; omega) ?_
      intro v1 w1 hown hbel hgr hat
      have hHeld2 := (hbel.cell (p := ⟨B, 2, none⟩) (by simp)).trans (cell_of_alloc hHeld (by simp; omega))
      refine hK.out _ _ hHeld2 (fun hHeld => ?_)
      clear hK K
      refine norm_ (by simp only [Act.put, List.setIfInBounds_toArray, List.set_cons_zero, List.set_cons_succ, i64_w, i32_w]; rfl) ?_
      refine pure_ (i := 10) (N := some 63) (v := ?_) (a' := ?_) #[true, true, true, true, true, true, true, true, true, true, true, false, false] rfl rfl (by kernel_rfl) (fun _ _ _ h => h) (Or.inl ⟨by rfl, ?_⟩) ?_ ?_
      rotate_left
      · intro w'
        go_simp
        with_reducible rfl
      rotate_left
      · simp only [Act.put, List.setIfInBounds_toArray, List.set_cons_zero, List.set_cons_succ, i64_w, i32_w]
        rfl
      refine pure_ (i := 11) (N := some 64) (v := ?_) (a' := ?_) #[true, true, true, true, true, true, true, true, true, true, true, true, false] rfl rfl (by kernel_rfl) (fun _ _ _ h => h) (Or.inl ⟨by rfl, ?_⟩) ?_ ?_
      rotate_left
      · intro w'
        go_simp
        with_reducible rfl
      rotate_left
      · simp only [Act.put, List.setIfInBounds_toArray, List.set_cons_zero, List.set_cons_succ, i64_w, i32_w]
        rfl
      refine last_ (i := 12) (N := none) #[true, true, true, true, true, true, true, true, true, true, true, true, true] rfl rfl (by kernel_rfl) (by decide) (fun K hK => ?_)
      have hn1 := parts_snoc l av (show k < N by omega) (show N ≤ l.length by omega)
      have hb1 : w1.heap[B]? = some (.cells #[.int .i64 av, .int .i64 tr, v, .int .i64 0, mixV M1, mixV M2, mixV M3] 99 (0, 0)) := (hbel.block B (by omega)).trans HL.out.blk
      have fz := blk_frozen hb1 2
      have hown2 : w1.ownsRow (B + 1) 3 1 v1 (((l.take N).take (k + 1)).map (fun x => subS x av)).length (nums .i64 (((l.take N).take (k + 1)).map (fun x => subS x av))) := by
        rw [hn1]
        simpa [nums] using hown
      have hlk2 := parts_len l av (show k + 1 ≤ N by omega) (show N ≤ l.length by omega)
      obtain ⟨g, cap, hv1, hg1, hg2⟩ := row_form hown2 (by omega)
      rw [hlk2] at hv1
      subst hv1
      have HZ := Aside0.mk (And.intro hown2 (And.intro hb1 (And.intro hbel (And.intro hgr hn1))))
      clear hown2 hown hb1 hbel hgr hn1 hlk hlk2 hat
      refine skip_ (w1 := w1.setCell ⟨B, 2, none⟩ (.slice (some ⟨g, 0, none⟩) (k + 1) cap)) (by rfl) rfl (by go_simp) ?_
      refine hK.out _ _ ?_
      clear hK K
      refine done_ (by kernel_rfl) ?_
      cases gk with
      | zero => exact absurd HK.out (by omega)
      | succ k1 =>
        go_wp2
        go_roundg k1
        case measure => omega
        case rel =>
          obtain ⟨hown2, hb1, hbel, hgr, hn1⟩ := HZ.out
          refine ⟨k + 1, _, by go_num, ⟨by have := HK.out; omega⟩, ⟨⟨blk_put hb1 2 _ rfl, own_setCell (p := ⟨B, 2, none⟩) hown2 (by simp [Value.ownBlock]; omega) _, ?_, ?_⟩⟩⟩
          · refine ((HL.out.kept.drew.drewN nd).of_grown hgr (fun j hj => ?_)).setCell (.inl rfl) _
            exact .inr (by have := own_base (pw_own_drewN (own_drew HL.out.row) nd) j hj; omega)
          · exact ((HL.out.below.trans ((pw_below_drewN (below_drew1 (Below.refl _ _)) nd).trans (hbel.mono (by omega)))).setCell (by simp; omega) _)
    · have c1 : decide ((k : Int) < (N : Int)) = false := decide_eq_false (by omega)
      obtain rfl : k = N := by have := HK.out; omega
      go_wp2
      go_ret
      obtain ⟨y1, y2, y3, BV, hVz, lB, lM, htr, hav⟩ := G.out
      have hL := HL.out
      have hlk := parts_len l av (Nat.le_refl k) (show k ≤ l.length by omega)
      obtain ⟨g, cap, rfl, hg1, hg2⟩ := row_form hL.row (by omega)
      have hsz := hL.kept.1
      refine ⟨B, rfl, ⟨g, cap, M1, M2, M3, ?_⟩, BV.trans hL.below⟩
      have ebeg : beginS l k = ⟨av, tr, (((l.take k).take k).map (fun x => subS x av)), 0⟩ := by
        rw [← htr, ← hav, List.take_take, Nat.min_self]
        rfl
      rw [ebeg]
      exact ⟨hL.blk, own_less hL.row (by omega), ⟨(hL.kept.2 _ (by omega) (by omega)).trans y1.1, (hL.kept.2 _ (by omega) (by omega)).trans y1.2⟩, ⟨(hL.kept.2 _ (by omega) (by omega)).trans y2.1, (hL.kept.2 _ (by omega) (by omega)).trans y2.2⟩, ⟨(hL.kept.2 _ (by omega) (by omega)).trans y3.1, (hL.kept.2 _ (by omega) (by omega)).trans y3.2⟩, by omega, by omega, by omega, by omega, by omega, by omega, Nat.le_refl _⟩
end Go.Proofs.Ytemnfnbjapobcaa.Ho
end
section
namespace Go.Proofs.Ytemnfnbjapobcaa.Ho
open Go.RowKit Go.Proofs.YtemnfnbjapobcaaW.PrintWords Go.Proofs.YtemnfnbjapobcaaW.PrintLast Go.Proofs.YtemnfnbjapobcaaW.PrintMore
open Go.Proofs.Ytemnfnbjapobcaa.FS Go.Proofs.Ytemnfnbjapobcaa.HS Go.Proofs.Ytemnfnbjapobcaa.FM
set_option linter.unusedVariables false
set_option linter.unusedSimpArgs false
def rCells (m : Mo) (s : St) (v : Value) : Array Value := #[.int .i64 m.n, .int .i64 m.a, .int .i64 m.b, .int .i64 m.c, .int .i64 s.level, .int .i64 s.trend, v, .int .i64 (s.k : Int)]
structure RStIn (W : World) (lo hi b g cap : Nat) (m : Mo) (s : St) : Prop where
  blk : W.heap[b]? = some (.cells (rCells m s (sl g s.parts.length cap)) 41 (0, 0))
  row : row3 W lo g cap s.parts
  inb : lo ≤ b ∧ b < hi
  ing : lo ≤ g ∧ g < hi
  top : hi ≤ W.heap.size
def RStAt (W : World) (lo hi b : Nat) (m : Mo) (s : St) : Prop := ∃ g cap, RStIn W lo hi b g cap m s
theorem RStAt.kept {W W' : World} {lo hi b : Nat} {m : Mo} {s : St} {S : Nat → Prop} (h : RStAt W lo hi b m s) (hk : Kept W W' S) (hS : ∀ k, lo ≤ k → k < hi → ¬ S k) : RStAt W' lo hi b m s := by
  obtain ⟨g, cap, h⟩ := h
  exact ⟨g, cap, (hk.2 _ (by have := h.top; have := h.inb; omega) (hS _ h.inb.1 h.inb.2)).trans h.blk, own_move h.row (fun k hk' => by
    have e : g = k := by simpa [Value.ownBlock] using hk'
    subst e
    exact hk.2 _ (by have := h.top; have := h.ing; omega) (hS _ h.ing.1 h.ing.2)), h.inb, h.ing, Nat.le_trans h.top hk.1⟩
theorem RStAt.wide {W : World} {lo hi lo' hi' b : Nat} {m : Mo} {s : St} (h : RStAt W lo hi b m s) (h1 : lo' ≤ lo) (h2 : hi ≤ hi') (h3 : hi' ≤ W.heap.size) : RStAt W lo' hi' b m s := by
  obtain ⟨g, cap, a, c, d, e, f⟩ := h
  exact ⟨g, cap, a, own_less c h1, by omega, by omega, h3⟩
end Go.Proofs.Ytemnfnbjapobcaa.Ho
end
section
namespace Go.Proofs.Ytemnfnbjapobcaa.Ho
open Go.RowKit Go.Proofs.YtemnfnbjapobcaaW.PrintWords Go.Proofs.YtemnfnbjapobcaaW.PrintLast Go.Proofs.YtemnfnbjapobcaaW.PrintMore
open Go.Proofs.Ytemnfnbjapobcaa.FS Go.Proofs.Ytemnfnbjapobcaa.HS Go.Proofs.Ytemnfnbjapobcaa.FM
set_option linter.unusedVariables false
set_option linter.unusedSimpArgs false
theorem StAt.wide {W : World} {lo hi lo' hi' b : Nat} {m : Mo} {s : St} (h : StAt W lo hi b m s) (h1 : lo' ≤ lo) (h2 : hi ≤ hi') (h3 : hi' ≤ W.heap.size) : StAt W lo' hi' b m s := by
  obtain ⟨g, cap, m1, m2, m3, h⟩ := h
  obtain ⟨a, b, c, d, e, f, g', i, j, k, l, n⟩ := h
  exact ⟨g, cap, m1, m2, m3, a, own_less b h1, c, d, e, by omega, by omega, by omega, by omega, by omega, l, h3⟩
def StartPost (w : World) (l : List Int) (m : Mo) (e : Ending) (w' : World) : Prop :=
  if startE l m ≠ 0 then e = .returned (.tuple #[.pointer none, .int .i64 1]) ∧ Below w.heap.size w w'
  else ∃ b, e = .returned (.tuple #[.pointer (some ⟨b, 0, none⟩), .int .i64 0]) ∧ StAt w' w.heap.size w'.heap.size b m (startS l m) ∧ Below w.heap.size w w'
theorem check_01 (m : Mo) : checkS m = 0 ∨ checkS m = 1 := by unfold checkS; split; exact .inr rfl; split; exact .inl rfl; exact .inr rfl
theorem okW_iff {x : Int} : okW x = true ↔ 0 ≤ x ∧ x ≤ 4294967296 := by unfold okW; simp
theorem check_ok {m : Mo} (h : checkS m = 0) : (1 ≤ m.n ∧ m.n ≤ 10000) ∧ Mo.wIn m := by
  unfold checkS at h
  split at h
  · cases h
  · split at h
    · rename_i h1 h2
      simp only [Bool.and_eq_true, okW_iff] at h2
      refine ⟨by omega, ⟨by omega, by omega⟩, ⟨by omega, by omega⟩, ⟨by omega, by omega⟩⟩
    · cases h
theorem fold_snoc (m : Mo) (l : List Int) (s : St) (k : Nat) (h : k < l.length) : (l.take (k + 1)).foldl (stepS m) s = stepS m ((l.take k).foldl (stepS m) s) (rd l (k : Int)) := by
  have e : rd l (k : Int) = l[k] := by
    show l.getD k 0 = _
    simp [List.getD_eq_getElem?_getD, List.getElem?_eq_getElem h]
  rw [List.take_succ_eq_append_getElem h, List.foldl_append, e]
  rfl
set_option maxHeartbeats 4000000 in
theorem start_calls (A : Option Addr) (c : Nat) (l : List Int) (m : Mo) (w : World) (hr : Kd.C (Kd.int .i64) w A l.length l) (hc : l.length ≤ c) (hin : AllIn l) (hm : FS.In m.n) (hll : l.length ≤ 1000000000) :
    Calls Try.prog 24 #[.slice A l.length c, moV m] w (StartPost w l m) := by
  have kc := check_calls m
  have kb := begin_calls A c l m
  obtain ⟨n, ma, mb, mc⟩ := m
  dsimp only [moV] at kb ⊢
  dsimp only at kc hm
  by_cases h1 : checkS ⟨n, ma, mb, mc⟩ = 0
  · obtain ⟨hn, hw⟩ := check_ok h1
    dsimp only at hn
    obtain ⟨N, rfl⟩ := Int.eq_ofNat_of_zero_le (show 0 ≤ n by omega)
    obtain ⟨M, hM⟩ : ∃ M, 2 * N = M := ⟨_, rfl⟩
    have e2 : wrap64 (2 * (N : Int)) = (M : Int) := by rw [wrap64_id (by omega) (by omega)]; omega
    have e3 : (2 * (N : Int)) = (M : Int) := by omega
    have b0 : (N : Int) ≤ 10000 := hn.2
    rw [h1] at kc
    have KC := Aside0.mk kc
    by_cases h3 : (l.length : Int) < 2 * (N : Int)
    · have g4 : l.length < M := by omega
      have hp : ∀ e w', e = .returned (.tuple #[.pointer none, .int .i64 1]) ∧ Below w.heap.size w w' → StartPost w l ⟨N, ma, mb, mc⟩ e w' := fun e w' h => by
        unfold StartPost
        rw [if_pos (by unfold startE; rw [if_neg (by rw [h1]; decide), if_pos h3]; decide)]
        exact h
      refine Calls.mono ?_ (fun e w' h => hp e w' h)
      clear kc kb h1 hp h3 hM hn
      go_enter Try.func24, Try.ntmps24
      go_wp2_with fail
      (with_reducible refine (KC.out _).mono ?_)
      rintro e w1 ⟨rfl, hb⟩
      have mb1 := blk_below (blk_new w _) hb
      have d0 := blk_cell mb1 0
      have d1 := blk_cell mb1 1
      have d2 := blk_cell mb1 2
      have d3 := blk_cell mb1 3
      simp only [List.getElem?_toArray, List.getElem?_cons_zero, List.getElem?_cons_succ] at d0 d1 d2 d3
      have HB1 := Aside0.mk (And.intro mb1 hb)
      clear mb1 hb
      go_wp2
      go_ret2
      exact ⟨rfl, (below_alloc (Below.refl _ _) _).trans (HB1.out.2.mono (by simp))⟩
    · have g4 : ¬ l.length < M := by omega
      have g5 : ¬ c = N := by omega
      have hl : 2 * (N : Int) ≤ (l.length : Int) := by omega
      have h0 : startE l ⟨N, ma, mb, mc⟩ = 0 := by unfold startE; rw [if_neg (by rw [h1]; decide), if_neg h3]
      have hp : ∀ e w', (∃ b, e = .returned (.tuple #[.pointer (some ⟨b, 0, none⟩), .int .i64 0]) ∧ StAt w' w.heap.size w'.heap.size b ⟨N, ma, mb, mc⟩ (startS l ⟨N, ma, mb, mc⟩) ∧ Below w.heap.size w w') → StartPost w l ⟨N, ma, mb, mc⟩ e w' := fun e w' h => by
        unfold StartPost
        rw [if_neg (by rw [h0]; decide)]
        exact h
      refine Calls.mono ?_ (fun e w' h => hp e w' h)
      have KB := Aside0.mk (fun W (h : Kd.C (Kd.int .i64) W A l.length l) => kb W h hc hin hw hn.1 hl hll)
      have HR := Aside0.mk hr
      have HN := Aside0.mk (And.intro hn (And.intro hM hl))
      have nM : N ≤ l.length := by omega
      obtain ⟨D, hD⟩ : ∃ D, l.length - N = D := ⟨_, rfl⟩
      obtain ⟨ad, rfl, _⟩ := Kd.at_int hr 0 (by omega) (by omega)
      have hd : Kd.C (Kd.int .i64) w (some (ad.add N)) D (l.drop N) := by
        have h := Kd.C_drop hr (m := N) nM hc
        rw [List.length_drop, if_neg g5, hD] at h
        simpa [show (Kd.int .i64).sz = 1 from rfl] using h
      have HD := Aside0.mk hd
      clear hd
      clear kc kb h1 hp h3 hM hn hr h0 hl
      go_enter Try.func24, Try.ntmps24
      go_wp2_with fail
      (with_reducible refine (KC.out _).mono ?_)
      rintro e w1 ⟨rfl, hb⟩
      have mb1 := blk_below (blk_new w _) hb
      have d0 := blk_cell mb1 0
      have d1 := blk_cell mb1 1
      have d2 := blk_cell mb1 2
      have d3 := blk_cell mb1 3
      simp only [List.getElem?_toArray, List.getElem?_cons_zero, List.getElem?_cons_succ] at d0 d1 d2 d3
      have HB1 := Aside0.mk (And.intro mb1 hb)
      clear mb1 hb
      go_wp2_with (go_at_call 64; (with_reducible refine (KB.out _ (Kd.C_below HR.out ((below_alloc (Below.refl _ _) _).trans (HB1.out.2.mono (by simp))))).mono ?_); rintro e w2 ⟨b, rfl, hst, hb2⟩; clear d0 d1 d2 d3; have mb2 := blk_below HB1.out.1 hb2; have d0 := blk_cell mb2 0; simp only [List.getElem?_toArray, List.getElem?_cons_zero] at d0; have HB2 := Aside0.mk (And.intro hst hb2); clear hst hb2 mb2)
      have HX : Aside0 (Below w.heap.size w w2) := ⟨((below_alloc (Below.refl _ _) _).trans (HB1.out.2.mono (by simp))).trans (HB2.out.2.mono (by have := HB1.out.2.size; simp at this; omega))⟩
      have HL : Aside0 (w.heap.size ≤ w1.heap.size) := ⟨by have := HB1.out.2.size; simp at this; omega⟩
      go_loopg [32] D (fun kq v32 W' => ∃ k : Nat, v32 = .int .i64 (k : Int) ∧ Aside0 (kq + k = D) ∧ Aside0 (StAt W' w1.heap.size w2.heap.size b ⟨N, ma, mb, mc⟩ (((l.drop N).take k).foldl (stepS ⟨N, ma, mb, mc⟩) (beginS l N)) ∧ Below w1.heap.size w2 W'))
      case atStart => exact ⟨0, rfl, ⟨rfl⟩, ⟨by simpa using HB2.out.1, Below.refl _ _⟩⟩
      case round =>
        obtain ⟨k, rfl, HK, HS⟩ := hrel
        by_cases ck : k < D
        · have c1 : decide ((k : Int) < (D : Int)) = true := decide_eq_true (by omega)
          obtain ⟨ad', e, r0⟩ := Kd.at_int (Kd.C_below HD.out (HX.out.trans (HS.out.2.mono HL.out))) (k : Int) (by omega) (by omega)
          cases e
          rw [Int.toNat_natCast] at r0
          have j1 : FS.In (rd (l.drop N) (k : Int)) := allIn_getD (allIn_drop hin N) k
          have hS1 : (((l.drop N).take k).foldl (stepS ⟨N, ma, mb, mc⟩) (beginS l N)).In := fold_in _ _ _ (begin_in l N)
          have hS2 : (((l.drop N).take k).foldl (stepS ⟨N, ma, mb, mc⟩) (beginS l N)).parts.length = N := (fold_len _ _ _).trans (begin_len l N nM)
          have hS3 : (((l.drop N).take k).foldl (stepS ⟨N, ma, mb, mc⟩) (beginS l N)).k = k := by
            rw [fold_k, List.length_take, List.length_drop, hD, Nat.min_eq_left (by omega)]
            simp [beginS]
          have SC := Aside0.mk (step_calls w1.heap.size w2.heap.size b ⟨N, ma, mb, mc⟩ _ (rd (l.drop N) (k : Int)) wr HS.out.1 hS1 j1 hw (by rw [hS3]; omega) (by rw [hS2]; have := HN.out.1.1; omega) (by rw [hS2]; omega))
          have hck := Aside0.mk ck
          clear hS1 hS2 hS3
          cases gk with
          | zero => exact absurd HK.out (by have := hck.out; omega)
          | succ k1 =>
            go_wp2_with (go_at_call 30; (with_reducible refine SC.out.mono ?_); rintro e w' ⟨⟨v, rfl⟩, hst, hb, hkp⟩; have HQ := Aside0.mk (And.intro hst hb); clear hst hb hkp)
            go_roundg k1
            case measure => omega
            case rel =>
              refine ⟨k + 1, by go_num, ⟨by have := HK.out; omega⟩, ⟨?_, HS.out.2.trans HQ.out.2⟩⟩
              rw [fold_snoc _ _ _ _ (by rw [List.length_drop, hD]; exact hck.out)]
              exact HQ.out.1
        · have c1 : decide ((k : Int) < (D : Int)) = false := decide_eq_false (by omega)
          have hS2 : (((l.drop N).take k).foldl (stepS ⟨N, ma, mb, mc⟩) (beginS l N)) = startS l ⟨N, ma, mb, mc⟩ := by
            rw [List.take_of_length_le (by rw [List.length_drop, hD]; omega)]
            simp [startS]
          have HQ := Aside0.mk hS2
          clear hS2
          go_wp2
          go_ret2
          have hsz := HS.out.2.size
          refine ⟨b, rfl, ?_, HX.out.trans (HS.out.2.mono HL.out)⟩
          rw [← HQ.out]
          exact HS.out.1.wide HL.out hsz (Nat.le_refl _)
  · have h2 : checkS ⟨n, ma, mb, mc⟩ = 1 := (check_01 _).resolve_left h1
    have hp : ∀ e w', e = .returned (.tuple #[.pointer none, .int .i64 1]) ∧ Below w.heap.size w w' → StartPost w l ⟨n, ma, mb, mc⟩ e w' := fun e w' h => by
      unfold StartPost
      rw [if_pos (by unfold startE; rw [if_pos h1]; decide)]
      exact h
    rw [h2] at kc
    have KC := Aside0.mk kc
    refine Calls.mono ?_ (fun e w' h => hp e w' h)
    clear kc kb h1 h2 hp
    go_enter Try.func24, Try.ntmps24
    go_wp2_with (go_at_call 33; (with_reducible refine (KC.out _).mono ?_); rintro e w' ⟨rfl, hb⟩)
    go_ret2
    exact ⟨rfl, (below_alloc (Below.refl _ _) _).trans (hb.mono (by simp))⟩
end Go.Proofs.Ytemnfnbjapobcaa.Ho
end
section
namespace Go.Proofs.Ytemnfnbjapobcaa.Ho
open Go.RowKit Go.Proofs.YtemnfnbjapobcaaW.PrintWords Go.Proofs.YtemnfnbjapobcaaW.PrintLast Go.Proofs.YtemnfnbjapobcaaW.PrintMore
open Go.Proofs.Ytemnfnbjapobcaa.FS Go.Proofs.Ytemnfnbjapobcaa.HS Go.Proofs.Ytemnfnbjapobcaa.FM
set_option linter.unusedVariables false
set_option linter.unusedSimpArgs false
set_option maxHeartbeats 2000000 in
theorem rcheck_calls (m : Mo) (w : World) :
    Calls Try.prog 32 #[.agg #[.int .i64 m.n, .int .i64 m.a, .int .i64 m.b, .int .i64 m.c]] w fun e w' => e = .returned (.int .i64 (checkS m)) ∧ Below w.heap.size w w' := by
  obtain ⟨n, a, b, c⟩ := m
  obtain ⟨r, hr⟩ : ∃ r, checkS ⟨n, a, b, c⟩ = r := ⟨_, rfl⟩
  rw [hr]
  have HR := Aside0.mk hr
  clear hr
  dsimp only
  by_cases h1 : n < 1
  · have g1 : decide (n < 1) = true := decide_eq_true h1
    obtain rfl : r = 1 := by rw [← HR.out]; simp [checkS, okW]; try omega
    clear HR
    go_enter Try.func32, Try.ntmps32
    go_wp2
    go_ret
    exact ⟨rfl, below_alloc (Below.refl _ _) _⟩
  · have g1 : decide (n < 1) = false := decide_eq_false h1
    by_cases h2 : 10000 < n
    · have g2 : decide (10000 < n) = true := decide_eq_true h2
      obtain rfl : r = 1 := by rw [← HR.out]; simp [checkS, okW]; try omega
      clear HR
      go_enter Try.func32, Try.ntmps32
      go_wp2
      go_ret
      exact ⟨rfl, below_alloc (Below.refl _ _) _⟩
    · have g2 : decide (10000 < n) = false := decide_eq_false h2
      by_cases a1 : a < 0
      · have a1' : decide (a < 0) = true := decide_eq_true a1
        obtain rfl : r = 1 := by rw [← HR.out]; simp [checkS, okW]; try omega
        clear HR
        go_enter Try.func32, Try.ntmps32
        go_wp2
        refine wp_loop_rounds 4 ?_
        rw [rounds_succ]
        go_wp2
        go_ret
        exact ⟨rfl, below_alloc (below_alloc (Below.refl _ _) _) _⟩
      · have a1' : decide (a < 0) = false := decide_eq_false a1
        by_cases a2 : 4294967296 < a
        · have a2' : decide (4294967296 < a) = true := decide_eq_true a2
          obtain rfl : r = 1 := by rw [← HR.out]; simp [checkS, okW]; try omega
          clear HR
          go_enter Try.func32, Try.ntmps32
          go_wp2
          refine wp_loop_rounds 4 ?_
          rw [rounds_succ]
          go_wp2
          go_ret
          exact ⟨rfl, below_alloc (below_alloc (Below.refl _ _) _) _⟩
        · have a2' : decide (4294967296 < a) = false := decide_eq_false a2
          by_cases b1 : b < 0
          · have b1' : decide (b < 0) = true := decide_eq_true b1
            obtain rfl : r = 1 := by rw [← HR.out]; simp [checkS, okW]; try omega
            clear HR
            go_enter Try.func32, Try.ntmps32
            go_wp2
            refine wp_loop_rounds 4 ?_
            rw [rounds_succ]
            go_wp2
            rw [rounds_succ]
            go_wp2
            go_ret
            exact ⟨rfl, below_alloc (below_alloc (Below.refl _ _) _) _⟩
          · have b1' : decide (b < 0) = false := decide_eq_false b1
            by_cases b2 : 4294967296 < b
            · have b2' : decide (4294967296 < b) = true := decide_eq_true b2
              obtain rfl : r = 1 := by rw [← HR.out]; simp [checkS, okW]; try omega
              clear HR
              go_enter Try.func32, Try.ntmps32
              go_wp2
              refine wp_loop_rounds 4 ?_
              rw [rounds_succ]
              go_wp2
              rw [rounds_succ]
              go_wp2
              go_ret
              exact ⟨rfl, below_alloc (below_alloc (Below.refl _ _) _) _⟩
            · have b2' : decide (4294967296 < b) = false := decide_eq_false b2
              by_cases c1 : c < 0
              · have c1' : decide (c < 0) = true := decide_eq_true c1
                obtain rfl : r = 1 := by rw [← HR.out]; simp [checkS, okW]; try omega
                clear HR
                go_enter Try.func32, Try.ntmps32
                go_wp2
                refine wp_loop_rounds 4 ?_
                rw [rounds_succ]
                go_wp2
                rw [rounds_succ]
                go_wp2
                rw [rounds_succ]
                go_wp2
                go_ret
                exact ⟨rfl, below_alloc (below_alloc (Below.refl _ _) _) _⟩
              · have c1' : decide (c < 0) = false := decide_eq_false c1
                by_cases c2 : 4294967296 < c
                · have c2' : decide (4294967296 < c) = true := decide_eq_true c2
                  obtain rfl : r = 1 := by rw [← HR.out]; simp [checkS, okW]; try omega
                  clear HR
                  go_enter Try.func32, Try.ntmps32
                  go_wp2
                  refine wp_loop_rounds 4 ?_
                  rw [rounds_succ]
                  go_wp2
                  rw [rounds_succ]
                  go_wp2
                  rw [rounds_succ]
                  go_wp2
                  go_ret
                  exact ⟨rfl, below_alloc (below_alloc (Below.refl _ _) _) _⟩
                · have c2' : decide (4294967296 < c) = false := decide_eq_false c2
                  obtain rfl : r = 0 := by rw [← HR.out]; simp [checkS, okW]; try omega
                  clear HR
                  go_enter Try.func32, Try.ntmps32
                  go_wp2
                  refine wp_loop_rounds 4 ?_
                  rw [rounds_succ]
                  go_wp2
                  rw [rounds_succ]
                  go_wp2
                  rw [rounds_succ]
                  go_wp2
                  rw [rounds_succ]
                  go_wp2
                  go_ret
                  exact ⟨rfl, below_alloc (below_alloc (Below.refl _ _) _) _⟩
end Go.Proofs.Ytemnfnbjapobcaa.Ho
end
section
namespace Go.Proofs.Ytemnfnbjapobcaa.Ho
open Go.RowKit Go.Proofs.YtemnfnbjapobcaaW.PrintWords Go.Proofs.YtemnfnbjapobcaaW.PrintLast Go.Proofs.YtemnfnbjapobcaaW.PrintMore
open Go.Proofs.Ytemnfnbjapobcaa.FS Go.Proofs.Ytemnfnbjapobcaa.HS Go.Proofs.Ytemnfnbjapobcaa.FM
attribute [local go_sem] max2_int min2_int max_two min_two max_three min_three max_four min_four
set_option linter.unusedVariables false
set_option linter.unusedSimpArgs false
theorem startE_01 (l : List Int) (m : Mo) : startE l m = 0 ∨ startE l m = 1 := by unfold startE; split; exact .inr rfl; split; exact .inr rfl; exact .inl rfl
theorem begin_start_in (l : List Int) (m : Mo) : (startS l m).In := fold_in _ _ _ (begin_in _ _)
theorem start_len {l : List Int} {m : Mo} (h : startE l m = 0) : 1 ≤ m.n ∧ m.n ≤ 10000 ∧ Mo.wIn m ∧ 2 * m.n ≤ (l.length : Int) ∧ (startS l m).parts.length = m.n.toNat ∧ (startS l m).k = l.length - m.n.toNat := by
  unfold startE at h
  split at h
  · cases h
  · rename_i h1
    split at h
    · cases h
    · rename_i h2
      obtain ⟨h3, h4⟩ := check_ok (Decidable.not_not.1 h1)
      refine ⟨h3.1, h3.2, h4, by omega, (fold_len _ _ _).trans (begin_len _ _ (by omega)), ?_⟩
      unfold startS
      rw [fold_k, List.length_drop]
      simp [beginS]
set_option maxHeartbeats 1000000 in
theorem cast_calls (A : Option Addr) (c : Nat) (l : List Int) (m : Mo) (ahead : Int) (w : World) (hr : Kd.C (Kd.int .i64) w A l.length l) (hc : l.length ≤ c) (hin : AllIn l) (hm : FS.In m.n) (ha : FS.In ahead) (hll : l.length ≤ 1000000000) :
    Calls Try.prog 22 #[.slice A l.length c, moV m, .int .i64 ahead] w fun e w' => e = .returned (.tuple #[.int .i64 (castS l m ahead).1, .int .i64 (castS l m ahead).2]) ∧ Below w.heap.size w w' := by
  have ks : ∀ W, Kd.C (Kd.int .i64) W A l.length l → Calls Try.prog 24 #[.slice A l.length c, moV m] W (StartPost W l m) := fun W h => start_calls A c l m W h hc hin hm hll
  have HR := Aside0.mk hr
  clear hr
  rcases startE_01 l m with h0 | h0
  · obtain ⟨n1, n2, n3, n4, n5, n6⟩ := start_len h0
    have ks' : ∀ W, Kd.C (Kd.int .i64) W A l.length l → Calls Try.prog 24 #[.slice A l.length c, moV m] W fun e w' => ∃ b, e = .returned (.tuple #[.pointer (some ⟨b, 0, none⟩), .int .i64 0]) ∧ StAt w' W.heap.size w'.heap.size b m (startS l m) ∧ Below W.heap.size W w' := fun W h => by
      refine (ks W h).mono (fun e w' h => ?_)
      unfold StartPost at h
      rw [if_neg (by rw [h0]; decide)] at h
      exact h
    have ec : castS l m ahead = castOf (startS l m) ahead := by unfold castS; rw [if_neg (by rw [h0]; decide)]
    rw [ec]
    have KC := Aside0.mk (fun lo hi b W (h : StAt W lo hi b m (startS l m)) => castOf_calls lo hi b m (startS l m) ahead W h (begin_start_in l m) ha (by rw [n6]; omega) (by rw [n5]; omega) (by rw [n5]; omega))
    have KS := Aside0.mk ks'
    clear ks ks' ec h0 n1 n2 n3 n4 n5 n6
    obtain ⟨n, ma, mb, mc⟩ := m
    obtain ⟨r1, r2⟩ : ∃ r, castOf (startS l ⟨n, ma, mb, mc⟩) ahead = r := ⟨_, rfl⟩
    obtain ⟨r1, r3⟩ := r1
    rw [r2] at KC ⊢
    have R2 := Aside0.mk r2
    clear r2
    dsimp only [moV] at KS ⊢
    go_enter Try.func22, Try.ntmps22
    go_wp2_with (first | (go_at_call 24; (with_reducible refine (KS.out _ (Kd.C_alloc HR.out _)).mono ?_); rintro e w1 ⟨b, rfl, hst, hb⟩; have HS := Aside0.mk (And.intro hst hb); clear hst hb) | (go_at_call 28; (with_reducible refine (KC.out _ _ _ _ HS.out.1).mono ?_); rintro e w' ⟨rfl, ⟨nd, rfl⟩⟩))
    go_ret2
    exact ⟨rfl, pw_below_drewN ((below_alloc (Below.refl _ _) _).trans (HS.out.2.mono (by simp))) _⟩
  · have ks' : ∀ W, Kd.C (Kd.int .i64) W A l.length l → Calls Try.prog 24 #[.slice A l.length c, moV m] W fun e w' => e = .returned (.tuple #[.pointer none, .int .i64 1]) ∧ Below W.heap.size W w' := fun W h => by
      refine (ks W h).mono (fun e w' h => ?_)
      unfold StartPost at h
      rw [if_pos (by rw [h0]; decide)] at h
      exact h
    have ec : castS l m ahead = (0, 1) := by unfold castS; rw [if_pos (by rw [h0]; decide)]
    rw [ec]
    have KS := Aside0.mk ks'
    clear ks ks' ec h0
    obtain ⟨n, ma, mb, mc⟩ := m
    dsimp only [moV] at KS ⊢
    go_enter Try.func22, Try.ntmps22
    go_wp2_with (go_at_call 24; (with_reducible refine (KS.out _ (Kd.C_alloc HR.out _)).mono ?_); rintro e w1 ⟨rfl, hb⟩)
    go_ret2
    exact ⟨rfl, (below_alloc (Below.refl _ _) _).trans (hb.mono (by simp))⟩
end Go.Proofs.Ytemnfnbjapobcaa.Ho
end
section
namespace Go.Proofs.Ytemnfnbjapobcaa.Ho
open Go.RowKit Go.Proofs.YtemnfnbjapobcaaW.PrintWords Go.Proofs.YtemnfnbjapobcaaW.PrintLast Go.Proofs.YtemnfnbjapobcaaW.PrintMore
open Go.Proofs.Ytemnfnbjapobcaa.FS Go.Proofs.Ytemnfnbjapobcaa.HS Go.Proofs.Ytemnfnbjapobcaa.FM
set_option linter.unusedVariables false
set_option linter.unusedSimpArgs false
theorem start_n (A : Option Addr) (n c : Nat) (l : List Int) (m : Mo) (w : World) (e : l.length = n) (hr : Kd.C (Kd.int .i64) w A n l) (hc : n ≤ c) (hin : AllIn l) (hm : FS.In m.n) (hll : n ≤ 1000000000) :
    Calls Try.prog 24 #[.slice A n c, moV m] w (StartPost w l m) := by
  subst e
  exact start_calls A c l m w hr hc hin hm hll
end Go.Proofs.Ytemnfnbjapobcaa.Ho
end
section
namespace Go.Proofs.Ytemnfnbjapobcaa.Ho
open Go.RowKit Go.Proofs.YtemnfnbjapobcaaW.PrintWords Go.Proofs.YtemnfnbjapobcaaW.PrintLast Go.Proofs.YtemnfnbjapobcaaW.PrintMore
open Go.Proofs.Ytemnfnbjapobcaa.FS Go.Proofs.Ytemnfnbjapobcaa.HS Go.Proofs.Ytemnfnbjapobcaa.FM
set_option linter.unusedVariables false
set_option linter.unusedSimpArgs false
theorem begin_take (l : List Int) (n k : Nat) (h : 2 * n ≤ k) : beginS (l.take k) n = beginS l n := by
  unfold beginS
  rw [List.take_take, Nat.min_eq_left (by omega)]
  have e : ((l.take k).drop n).take n = (l.drop n).take n := by
    rw [List.drop_take, List.take_take, Nat.min_eq_left (by omega)]
  rw [e]
theorem start_split (l : List Int) (m : Mo) (k : Nat) (h : 2 * m.n.toNat ≤ k) (hk : k ≤ l.length) : (l.drop k).foldl (stepS m) (startS (l.take k) m) = startS l m := by
  unfold startS
  rw [begin_take l _ k h, ← List.foldl_append]
  congr 1
  rw [← List.drop_append_of_le_length (by rw [List.length_take]; omega), List.take_append_drop]
theorem row_C {W : World} {lo g cap : Nat} {l : List Int} (h : row3 W lo g cap l) : Kd.C (Kd.int .i64) W (some ⟨g, 0, none⟩) l.length l := Kd.C_of_reads (enc := Value.int .i64) (d := (0 : Int)) (h1 := fun _ => rfl) (own_reads' h)
theorem row_cap {W : World} {lo g cap : Nat} {l : List Int} (h : row3 W lo g cap l) : l.length ≤ cap := own_cap h
abbrev Alive : Prop := ∀ W : World, Calls Try.prog 20 #[] W fun e w' => e = .returned (.bool true) ∧ Below W.heap.size W w'
abbrev Alike : Prop := ∀ (W : World) (A0 : Option Addr) (c0 : Nat) (A1 : Option Addr) (c1 : Nat) (l : List Int), Kd.C (Kd.int .i64) W A0 l.length l → l.length ≤ c0 → Kd.C (Kd.int .i64) W A1 l.length l → l.length ≤ c1 → l.length ≤ 1000000000000 →
  Calls Try.prog 27 #[.slice A0 l.length c0, .slice A1 l.length c1] W fun e w' => e = .returned (.bool true) ∧ Drawn0 W w'
set_option maxHeartbeats 1000000 in
theorem num_calls (e : Int) (w : World) : Calls Try.prog 23 #[.int .i64 e] w fun r w' => r = .returned (.int .i64 e) ∧ Drawn0 w w' := by
  go_enter Try.func23, Try.ntmps23
  go_wp2
  go_ret
  exact ⟨rfl, Drawn0.refl _⟩
set_option maxRecDepth 100000 in
set_option maxHeartbeats 8000000 in
theorem same_calls (HA : Aside0 Alive) (HQ : Aside0 Alike) (A : Option Addr) (c : Nat) (l : List Int) (m : Mo) (k : Int) (w : World) (hr : Kd.C (Kd.int .i64) w A l.length l) (hc : l.length ≤ c) (hin : AllIn l) (hm : FS.In m.n) (ha : FS.In k) :
    Calls Try.prog 5 #[.slice A l.length c, moV m, .int .i64 k] w fun e w' => e = .returned (.bool true) ∧ Below w.heap.size w w' := by
  by_cases h0 : (l.length : Int) > 400
  · have g1 : decide (400 < (l.length : Int)) = true := decide_eq_true h0
    have g2 : 400 < l.length := by omega
    obtain ⟨n, ma, mb, mc⟩ := m
    dsimp only [moV] at *
    clear h0 hr
    go_enter Try.func5, Try.ntmps5
    go_wp2_with (first | (go_at_call 20; (with_reducible refine (HA.out _).mono ?_); rintro e w1 ⟨rfl, hb⟩))
    refine bodyPost_ret (v := .bool true) (by simp [results, Try.results5, go_sem]) rfl ?_
    exact ⟨rfl, (below_alloc (Below.refl _ _) _).trans (hb.mono (by simp))⟩
  have g1 : decide (400 < (l.length : Int)) = false := decide_eq_false h0
  have g2 : ¬ 400 < l.length := by omega
  have kc := rcheck_calls m
  rcases check_01 m with hck | hck
  rotate_left
  · rw [hck] at kc
    have KC := Aside0.mk kc
    obtain ⟨n, ma, mb, mc⟩ := m
    dsimp only [moV] at *
    clear h0 hr kc hck
    go_enter Try.func5, Try.ntmps5
    go_wp2_with (first | (go_at_call 20; (with_reducible refine (HA.out _).mono ?_); rintro e w1 ⟨rfl, hb⟩; have mb1 := blk_below (blk_new w _) hb; have d0 := blk_cell mb1 0; have d1 := blk_cell mb1 1; have d2 := blk_cell mb1 2; have d3 := blk_cell mb1 3; simp only [List.getElem?_toArray, List.getElem?_cons_zero, List.getElem?_cons_succ] at d0 d1 d2 d3; have HB1 := Aside0.mk (And.intro mb1 hb); clear mb1 hb) | (go_at_call 32; (with_reducible refine (KC.out _).mono ?_); rintro e w2 ⟨rfl, hb2⟩))
    refine bodyPost_ret (v := .bool true) (by simp [results, Try.results5, go_sem]) rfl ?_
    exact ⟨rfl, ((below_alloc (Below.refl _ _) _).trans (HB1.out.2.mono (by simp))).trans (hb2.mono (by have := HB1.out.2.size; simp at this; omega))⟩
  obtain ⟨⟨n1, n2⟩, n3⟩ := check_ok hck
  rw [hck] at kc
  have KC := Aside0.mk kc
  clear kc
  obtain ⟨n, ma, mb, mc⟩ := m
  dsimp only at n1 n2 hm
  obtain ⟨N, rfl⟩ := Int.eq_ofNat_of_zero_le (show 0 ≤ n by omega)
  obtain ⟨M, hM⟩ : ∃ M, 2 * N = M := ⟨_, rfl⟩
  have e2 : wrap64 (2 * (N : Int)) = (M : Int) := by rw [wrap64_id (by omega) (by omega)]; omega
  have e3 : (2 * (N : Int)) = (M : Int) := by omega
  by_cases h3 : k < (M : Int)
  · have g3 : decide (k < (M : Int)) = true := decide_eq_true h3
    dsimp only [moV] at *
    clear h0 hr hck hM n3 h3
    go_enter Try.func5, Try.ntmps5
    go_wp2_with (first | (go_at_call 20; (with_reducible refine (HA.out _).mono ?_); rintro e w1 ⟨rfl, hb⟩; have mb1 := blk_below (blk_new w _) hb; have d0 := blk_cell mb1 0; have d1 := blk_cell mb1 1; have d2 := blk_cell mb1 2; have d3 := blk_cell mb1 3; simp only [List.getElem?_toArray, List.getElem?_cons_zero, List.getElem?_cons_succ] at d0 d1 d2 d3; have HB1 := Aside0.mk (And.intro mb1 hb); clear mb1 hb) | (go_at_call 32; (with_reducible refine (KC.out _).mono ?_); rintro e w2 ⟨rfl, hb2⟩; have mb2 := blk_below HB1.out.1 hb2; clear d0 d1 d2 d3; have d0 := blk_cell mb2 0; have d1 := blk_cell mb2 1; have d2 := blk_cell mb2 2; have d3 := blk_cell mb2 3; simp only [List.getElem?_toArray, List.getElem?_cons_zero, List.getElem?_cons_succ] at d0 d1 d2 d3; have HB2 := Aside0.mk (And.intro mb2 hb2); clear mb2 hb2))
    refine bodyPost_ret (v := .bool true) (by simp [results, Try.results5, go_sem]) rfl ?_
    exact ⟨rfl, ((below_alloc (Below.refl _ _) _).trans (HB1.out.2.mono (by simp))).trans (HB2.out.2.mono (by have := HB1.out.2.size; simp at this; omega))⟩
  have g3 : decide (k < (M : Int)) = false := decide_eq_false h3
  by_cases h4 : (l.length : Int) < k
  · have g4 : decide ((l.length : Int) < k) = true := decide_eq_true h4
    dsimp only [moV] at *
    clear h0 hr hck hM n3 h3 h4
    go_enter Try.func5, Try.ntmps5
    go_wp2_with (first | (go_at_call 20; (with_reducible refine (HA.out _).mono ?_); rintro e w1 ⟨rfl, hb⟩; have mb1 := blk_below (blk_new w _) hb; have d0 := blk_cell mb1 0; have d1 := blk_cell mb1 1; have d2 := blk_cell mb1 2; have d3 := blk_cell mb1 3; simp only [List.getElem?_toArray, List.getElem?_cons_zero, List.getElem?_cons_succ] at d0 d1 d2 d3; have HB1 := Aside0.mk (And.intro mb1 hb); clear mb1 hb) | (go_at_call 32; (with_reducible refine (KC.out _).mono ?_); rintro e w2 ⟨rfl, hb2⟩; have mb2 := blk_below HB1.out.1 hb2; clear d0 d1 d2 d3; have d0 := blk_cell mb2 0; have d1 := blk_cell mb2 1; have d2 := blk_cell mb2 2; have d3 := blk_cell mb2 3; simp only [List.getElem?_toArray, List.getElem?_cons_zero, List.getElem?_cons_succ] at d0 d1 d2 d3; have HB2 := Aside0.mk (And.intro mb2 hb2); clear mb2 hb2))
    refine bodyPost_ret (v := .bool true) (by simp [results, Try.results5, go_sem]) rfl ?_
    exact ⟨rfl, ((below_alloc (Below.refl _ _) _).trans (HB1.out.2.mono (by simp))).trans (HB2.out.2.mono (by have := HB1.out.2.size; simp at this; omega))⟩
  obtain ⟨K, rfl⟩ := Int.eq_ofNat_of_zero_le (show 0 ≤ k by omega)
  have g5 : ¬ K < M := by omega
  have g6 : ¬ l.length < K := by omega
  have bK : K ≤ c := by omega
  have bK2 : K ≤ l.length := by omega
  have bl : l.length ≤ 400 := by omega
  obtain ⟨ad, rfl, _⟩ := Kd.at_int hr 0 (by omega) (by omega)
  have t1 : (l.take K).length = K := by simp; omega
  have m1 : Kd.C (Kd.int .i64) w (some ad) K (l.take K) := by
    have h := Kd.C_take hr (m := K) bK2
    rwa [t1] at h
  have hs0 : startE l ⟨(N : Int), ma, mb, mc⟩ = 0 := by
    unfold startE
    rw [if_neg (by rw [hck]; decide), if_neg (by dsimp only; omega)]
  have hs1 : startE (l.take K) ⟨(N : Int), ma, mb, mc⟩ = 0 := by
    unfold startE
    rw [if_neg (by rw [hck]; decide), t1, if_neg (by dsimp only; omega)]
  have ks : ∀ W, Kd.C (Kd.int .i64) W (some ad) l.length l → Calls Try.prog 24 #[.slice (some ad) l.length c, moV ⟨(N : Int), ma, mb, mc⟩] W fun e w' => ∃ b, e = .returned (.tuple #[.pointer (some ⟨b, 0, none⟩), .int .i64 0]) ∧ StAt w' W.heap.size w'.heap.size b ⟨(N : Int), ma, mb, mc⟩ (startS l ⟨(N : Int), ma, mb, mc⟩) ∧ Below W.heap.size W w' := fun W h => by
    refine (start_calls (some ad) c l ⟨(N : Int), ma, mb, mc⟩ W h hc hin hm (by omega)).mono (fun e w' h => ?_)
    unfold StartPost at h
    rw [if_neg (by rw [hs0]; decide)] at h
    exact h
  have kt : ∀ W, Kd.C (Kd.int .i64) W (some ad) K (l.take K) → Calls Try.prog 24 #[.slice (some ad) K c, moV ⟨(N : Int), ma, mb, mc⟩] W fun e w' => ∃ b, e = .returned (.tuple #[.pointer (some ⟨b, 0, none⟩), .int .i64 0]) ∧ StAt w' W.heap.size w'.heap.size b ⟨(N : Int), ma, mb, mc⟩ (startS (l.take K) ⟨(N : Int), ma, mb, mc⟩) ∧ Below W.heap.size W w' := fun W h => by
    refine (start_n (some ad) K c (l.take K) ⟨(N : Int), ma, mb, mc⟩ W t1 h bK (allIn_take hin K) hm (by omega)).mono (fun e w' h => ?_)
    unfold StartPost at h
    rw [if_neg (by rw [hs1]; decide)] at h
    exact h
  have hsp := start_split l ⟨(N : Int), ma, mb, mc⟩ K (by dsimp only; omega) bK2
  obtain ⟨_, _, _, _, s5, s6⟩ := start_len hs1
  rw [Int.toNat_natCast] at s5 s6
  rw [t1] at s6
  have hs := begin_start_in (l.take K) ⟨(N : Int), ma, mb, mc⟩
  obtain ⟨s0, hs0'⟩ : ∃ s0, startS (l.take K) ⟨(N : Int), ma, mb, mc⟩ = s0 := ⟨_, rfl⟩
  rw [hs0'] at kt s5 s6 hs hsp
  obtain ⟨S, hS⟩ : ∃ S, (l.drop K).foldl (stepS ⟨(N : Int), ma, mb, mc⟩) s0 = S := ⟨_, rfl⟩
  rw [← hsp, hS] at ks
  have hSN : S.parts.length = N := by rw [← hS, fold_len]; exact s5
  have KS := Aside0.mk ks
  have KT := Aside0.mk kt
  have HWI := Aside0.mk n3
  have HR := Aside0.mk hr
  have HM := Aside0.mk m1
  have HI := Aside0.mk (And.intro s5 (And.intro s6 (And.intro hs (And.intro hM (And.intro hS hSN)))))
  have n0 : 1 ≤ N := by omega
  clear n3 h3 ks kt m1 s5 s6 hs hS hSN hs0 hs1 hM hs0' hck t1 h0 hr h4 hsp g3
  dsimp only [moV] at *
  go_enter Try.func5, Try.ntmps5
  go_wp2_with (first | (go_at_call 20; (with_reducible refine (HA.out _).mono ?_); rintro e w1 ⟨rfl, hb⟩; have mb1 := blk_below (blk_new w _) hb; have d0 := blk_cell mb1 0; have d1 := blk_cell mb1 1; have d2 := blk_cell mb1 2; have d3 := blk_cell mb1 3; simp only [List.getElem?_toArray, List.getElem?_cons_zero, List.getElem?_cons_succ] at d0 d1 d2 d3; have HB1 := Aside0.mk (And.intro mb1 hb); clear mb1 hb) | (go_at_call 32; (with_reducible refine (KC.out _).mono ?_); rintro e w2 ⟨rfl, hb2⟩; have mb2 := blk_below HB1.out.1 hb2; clear d0 d1 d2 d3; have d0 := blk_cell mb2 0; have d1 := blk_cell mb2 1; have d2 := blk_cell mb2 2; have d3 := blk_cell mb2 3; simp only [List.getElem?_toArray, List.getElem?_cons_zero, List.getElem?_cons_succ] at d0 d1 d2 d3; have HB2 := Aside0.mk (And.intro mb2 (((below_alloc (Below.refl _ _) _).trans (HB1.out.2.mono (by simp))).trans (hb2.mono (by have := HB1.out.2.size; simp at this; omega)))); clear mb2 hb2) | (go_at_call 24; (with_reducible refine (KS.out _ (Kd.C_below HR.out HB2.out.2)).mono ?_); rintro e w3 ⟨b1, rfl, hst1, hb3⟩; have mb3 := blk_below HB2.out.1 hb3; clear d0 d1 d2 d3; have d0 := blk_cell mb3 0; have d1 := blk_cell mb3 1; have d2 := blk_cell mb3 2; have d3 := blk_cell mb3 3; simp only [List.getElem?_toArray, List.getElem?_cons_zero, List.getElem?_cons_succ] at d0 d1 d2 d3; have HB3 := Aside0.mk (And.intro mb3 (HB2.out.2.trans (hb3.mono HB2.out.2.size))); have HS1 := Aside0.mk hst1; clear mb3 hb3 hst1))
  refine wp_region_mid 4 (by kernel_rfl) (by kernel_rfl) rfl ?_
  simp only [List.take_succ_cons, List.take_zero, List.drop_succ_cons, List.drop_zero]
  repeat (go_big_quiet_step (fail))
  refine wpQuiet_nil ?_
  rintro W1 ⟨nq, hnq⟩ K1 hK
  have HB4 : Aside0 (Below w.heap.size w W1) := ⟨hnq ▸ pw_below_drewN HB3.out.2 _⟩
  have HS2 : Aside0 (StAt W1 w2.heap.size w3.heap.size b1 ⟨(N : Int), ma, mb, mc⟩ S) := ⟨by rw [hnq]; exact HS1.out.kept (S := fun _ => False) ((Kept.refl _ _).drewN nq) (fun _ _ _ h => h)⟩
  have hsz1 : W1.heap.size = w3.heap.size := by rw [hnq]; rfl
  clear hnq nq
  refine goes_ Try.func24 (by kernel_rfl) rfl #[.slice (some ad) K c, .agg #[.int .i64 (N : Int), .int .i64 ma, .int .i64 mb, .int .i64 mc]] (by rfl) rfl rfl (by simp [Act.eval]) ?_
  refine (KT.out _ (Kd.C_below HM.out HB4.out)).mono ?_
  rintro e w4 ⟨b2, rfl, hst2, hb4⟩
  refine ⟨_, rfl, hK _ _ ?_⟩
  clear hK K1 d0 d1 d2 d3
  simp only [Act.put, List.setIfInBounds_toArray, List.set_cons_zero, List.set_cons_succ]
  repeat (go_big_quiet_step (fail))
  refine wpQuiet_nil ?_
  rintro w5 ⟨n5, hn5⟩
  have HB5 : Aside0 (Below w.heap.size w w5) := ⟨by rw [hn5]; exact pw_below_drewN (HB4.out.trans (hb4.mono HB4.out.size)) n5⟩
  have HT5 : Aside0 (StAt w5 W1.heap.size w4.heap.size b2 ⟨(N : Int), ma, mb, mc⟩ s0) := ⟨by rw [hn5]; exact hst2.kept (S := fun _ => False) ((Kept.refl _ _).drewN n5) (fun _ _ _ h => h)⟩
  have HS5 : Aside0 (StAt w5 w2.heap.size w3.heap.size b1 ⟨(N : Int), ma, mb, mc⟩ S) := ⟨by rw [hn5]; exact HS2.out.kept (S := fun _ => False) ((Kept.of_below hb4 _).drewN n5) (fun _ _ _ h => h)⟩
  have HL : Aside0 (w.heap.size ≤ W1.heap.size ∧ w3.heap.size ≤ W1.heap.size) := ⟨HB4.out.size, Nat.le_of_eq hsz1.symm⟩
  clear hst2 hb4 hn5 hsz1
  go_wp2_with (first | (go_at_call 23; (with_reducible refine (num_calls 0 _).mono ?_); rintro e w' ⟨rfl, ⟨nd, rfl⟩⟩))
  go_loopg [12] (l.length - K) (fun kq v12 W' => ∃ k : Nat, v12 = .int .i64 ((K + k : Nat) : Int) ∧ Aside0 (kq + k = l.length - K) ∧ Aside0 (StAt W' W1.heap.size w4.heap.size b2 ⟨(N : Int), ma, mb, mc⟩ (((l.drop K).take k).foldl (stepS ⟨(N : Int), ma, mb, mc⟩) s0) ∧ StAt W' w2.heap.size w3.heap.size b1 ⟨(N : Int), ma, mb, mc⟩ S ∧ Below w.heap.size w W'))
  case atStart => exact ⟨0, rfl, ⟨rfl⟩, ⟨HT5.out.kept (S := fun _ => False) ((Kept.refl _ _).drewN _) (fun _ _ _ h => h), HS5.out.kept (S := fun _ => False) ((Kept.refl _ _).drewN _) (fun _ _ _ h => h), pw_below_drewN HB5.out _⟩⟩
  case round =>
    obtain ⟨k, rfl, HK, HS⟩ := hrel
    obtain ⟨T, hT⟩ : ∃ T, K + k = T := ⟨_, rfl⟩
    rw [hT]
    by_cases ck : T < l.length
    · have c1 : decide ((T : Int) < (l.length : Int)) = true := decide_eq_true (by omega)
      obtain ⟨ad', e, r0⟩ := Kd.at_int (Kd.C_below HR.out HS.out.2.2) (T : Int) (by omega) (by omega)
      cases e
      rw [Int.toNat_natCast] at r0
      have hrd : rd (l.drop K) (k : Int) = rd l (T : Int) := by
        show (l.drop K).getD k 0 = l.getD T 0
        simp only [List.getD_eq_getElem?_getD, List.getElem?_drop]
        rw [hT]
      have j1 : FS.In (rd l (T : Int)) := allIn_getD hin T
      obtain ⟨q, hq⟩ : ∃ q, ((l.drop K).take k).foldl (stepS ⟨(N : Int), ma, mb, mc⟩) s0 = q := ⟨_, rfl⟩
      have hS1 : q.In := by rw [← hq]; exact fold_in _ _ _ HI.out.2.2.1
      have hS2 : q.parts.length = N := by rw [← hq, fold_len]; exact HI.out.1
      have hS3 : q.k ≤ l.length := by
        rw [← hq, fold_k, HI.out.2.1, List.length_take, List.length_drop]
        omega
      rw [hq] at HS
      obtain ⟨x, hx⟩ : ∃ x, rd l (T : Int) = x := ⟨_, rfl⟩
      rw [hx] at j1 r0 hrd
      have SC := Aside0.mk (fun W (h : StAt W W1.heap.size w4.heap.size b2 ⟨N, ma, mb, mc⟩ q) => step_calls W1.heap.size w4.heap.size b2 ⟨N, ma, mb, mc⟩ q x W h hS1 j1 HWI.out (by omega) (by omega) (by omega))
      have hkL : k < l.length - K := by omega
      have HQ' := Aside0.mk (And.intro hq (And.intro hrd (And.intro hkL hT)))
      clear hq hx hrd hS1 hS2 hS3
      cases gk with
      | zero => exact absurd HK.out (by omega)
      | succ k1 =>
        go_wp2_with (first | (go_at_call 30; (with_reducible refine (SC.out _ HS.out.1).mono ?_); rintro e w' ⟨⟨v, rfl⟩, hst, hb, hkp⟩; have HR' := Aside0.mk (And.intro hst (And.intro hb hkp)); clear hst hb hkp))
        go_roundg k1
        case measure => omega
        case rel =>
          obtain ⟨hq, hx, hk, hT⟩ := HQ'.out
          have e := fold_snoc ⟨N, ma, mb, mc⟩ (l.drop K) s0 k (by rw [List.length_drop]; exact hk)
          rw [hq, hx] at e
          refine ⟨k + 1, by rw [← hT]; go_num, ⟨by have := HK.out; omega⟩, ⟨by rw [e]; exact HR'.out.1, HS.out.2.1.kept HR'.out.2.2 (fun i h1 h2 h3 => by have := HL.out.2; have := h3.1; omega), HS.out.2.2.trans (HR'.out.2.1.mono HL.out.1)⟩⟩
    · have c1 : decide ((T : Int) < (l.length : Int)) = false := decide_eq_false (by omega)
      have hS2 : ((l.drop K).take k).foldl (stepS ⟨(N : Int), ma, mb, mc⟩) s0 = S := by
        rw [List.take_of_length_le (by rw [List.length_drop]; omega)]
        exact HI.out.2.2.2.2.1
      rw [hS2] at HS
      clear hS2
      have hSN := HI.out.2.2.2.2.2
      have PA := Aside0.mk (fun W (h : StAt W w2.heap.size w3.heap.size b1 ⟨N, ma, mb, mc⟩ S) => parts_calls w2.heap.size w3.heap.size b1 ⟨N, ma, mb, mc⟩ S W h (by omega) (by omega))
      have PB := Aside0.mk (fun W (h : StAt W W1.heap.size w4.heap.size b2 ⟨N, ma, mb, mc⟩ S) => parts_calls W1.heap.size w4.heap.size b2 ⟨N, ma, mb, mc⟩ S W h (by omega) (by omega))
      have HSN := Aside0.mk (And.intro hSN n0)
      clear hSN
      go_wp2_with (first | (go_at_call 26; (with_reducible refine (PA.out _ HS.out.2.1).mono ?_); rintro e u1 ⟨x1, y1, rfl, hr1, hx1, hy1, hu1⟩; have HP1 := Aside0.mk (And.intro hr1 (And.intro hx1 (And.intro hy1 hu1))); clear hr1 hx1 hy1 hu1) | (go_at_call 26; (with_reducible refine (PB.out _ (HS.out.1.kept (S := fun _ => False) (Kept.of_below HP1.out.2.2.2 _) (fun _ _ _ h => h))).mono ?_); rintro e u2 ⟨x2, y2, rfl, hr2, hx2, hy2, hu2⟩; have HP2 := Aside0.mk (And.intro hr2 (And.intro hx2 (And.intro hy2 hu2))); clear hr2 hx2 hy2 hu2) | (go_at_call 27; (with_reducible refine (HQ.out _ (some ⟨x1, 0, none⟩) y1 (some ⟨x2, 0, none⟩) y2 S.parts (Kd.C_below (row_C HP1.out.1) HP2.out.2.2.2) (row_cap HP1.out.1) (row_C HP2.out.1) (row_cap HP2.out.1) (by have := HSN.out.1; omega)).mono ?_); rintro e w' ⟨rfl, ⟨nd, rfl⟩⟩))
      refine bodyPost_ret (v := .bool true) (by simp [results, Try.results5, go_sem]) rfl ?_
      exact ⟨rfl, pw_below_drewN ((HS.out.2.2.trans (HP1.out.2.2.2.mono HS.out.2.2.size)).trans (HP2.out.2.2.2.mono (HS.out.2.2.trans (HP1.out.2.2.2.mono HS.out.2.2.size)).size)) _⟩
end Go.Proofs.Ytemnfnbjapobcaa.Ho
end
section
namespace Go.Proofs.Ytemnfnbjapobcaa
open Go.Proofs.Ytemnfnbjapobcaa.HS
def okL (l : List Int) : Bool := allInB l && decide (l.length ≤ 1000000000)
theorem okL_iff {l : List Int} : okL l = true ↔ AllIn l ∧ l.length ≤ 1000000000 := by unfold okL; simp [allInB_iff]
end Go.Proofs.Ytemnfnbjapobcaa
end
section
namespace Go.Proofs.Ytemnfnbjapobcaa.Hs
open Go.RowKit Go.Proofs.YtemnfnbjapobcaaW.PrintWords Go.Proofs.YtemnfnbjapobcaaW.PrintLast Go.Proofs.YtemnfnbjapobcaaW.PrintMore
attribute [local go_sem] max2_int min2_int max_two min_two max_three min_three max_four min_four   -- for this text's walks alone
set_option linter.unusedVariables false
set_option linter.unusedSimpArgs false
def errW : Option Int → Value
  | none => .nilIface
  | some c => .iface 0 (.int .i64 c)
theorem errW_none : errW none = .nilIface := rfl
theorem errW_some (c : Int) : errW (some c) = .iface 0 (.int .i64 c) := rfl
theorem info3 : (Try.prog.info? 3).map (fun i => (i.zero, i.size, i.bytes)) = some (some (.int .i64 0), 1, 8) := by kernel_rfl
end Go.Proofs.Ytemnfnbjapobcaa.Hs
end
section
namespace Go.Proofs.Ytemnfnbjapobcaa.Hs
open Go.RowKit Go.Proofs.YtemnfnbjapobcaaW.PrintWords Go.Proofs.YtemnfnbjapobcaaW.PrintLast Go.Proofs.YtemnfnbjapobcaaW.PrintMore
attribute [local go_sem] max2_int min2_int max_two min_two max_three min_three max_four min_four   -- for this text's walks alone
set_option linter.unusedVariables false
set_option linter.unusedSimpArgs false
def lysimeterref1_Of.f (a0 : Int) : Option (Int) := if HS.InB a0 then some (HS.ofS a0) else none
theorem lysimeterref1_Of.calls (a0 : Int) (r : Int) (w : World)  (h : lysimeterref1_Of.f a0 = some r) :
    Calls Try.prog 21 #[.int .i64 a0] w fun e w' => e = .returned (.int .i64 r) ∧ Drawn0 w w' := by
  unfold lysimeterref1_Of.f at h
  by_cases c : (HS.InB a0) = true
  · rw [if_pos c] at h
    obtain rfl := Option.some.inj h
    simp only [Bool.and_eq_true, okL_iff, HS.inB_iff] at c
    exact rOf c w
  · rw [if_neg c] at h; cases h
def holt_Cast.f (l0 : List Int) (a1_0 a1_1 a1_2 a1_3 : Int) (a2 : Int) : Option (Int × Int) := if okL l0 && HS.InB a1_0 && HS.InB a2 then some (HS.castS l0 ⟨a1_0, a1_1, a1_2, a1_3⟩ a2) else none
theorem holt_Cast.calls (A0 : Option Addr) (c0 : Nat) (l0 : List Int) (a1_0 a1_1 a1_2 a1_3 : Int) (a2 : Int) (r1 : Int) (r2 : Int) (w : World) (hr0 : Kd.C (Kd.int .i64) w A0 l0.length l0) (hc0 : l0.length ≤ c0) (h : holt_Cast.f l0 a1_0 a1_1 a1_2 a1_3 a2 = some (r1, r2)) :
    Calls Try.prog 22 #[.slice A0 l0.length c0, .agg #[.int .i64 a1_0, .int .i64 a1_1, .int .i64 a1_2, .int .i64 a1_3], .int .i64 a2] w fun e w' => e = .returned (.tuple #[.int .i64 r1, .int .i64 r2]) ∧ Below w.heap.size w w' := by
  unfold holt_Cast.f at h
  by_cases c : (okL l0 && HS.InB a1_0 && HS.InB a2) = true
  · rw [if_pos c] at h
    have e := Option.some.inj h
    obtain ⟨rfl, rfl⟩ : (HS.castS l0 ⟨a1_0, a1_1, a1_2, a1_3⟩ a2).1 = r1 ∧ (HS.castS l0 ⟨a1_0, a1_1, a1_2, a1_3⟩ a2).2 = r2 := by rw [e]; exact ⟨rfl, rfl⟩
    simp only [Bool.and_eq_true, okL_iff, HS.inB_iff] at c
    exact Ho.cast_calls A0 c0 l0 ⟨a1_0, a1_1, a1_2, a1_3⟩ a2 w hr0 hc0 c.1.1.1 c.1.2 c.2 c.1.1.2
  · rw [if_neg c] at h; cases h
def lysimeterlaw23_num.f (a0 : Int) : Option (Int) := some a0
set_option maxHeartbeats 8000000 in
set_option maxRecDepth 100000 in
theorem lysimeterlaw23_num.calls (a0 : Int) (r : Int) (w : World) (h : lysimeterlaw23_num.f a0 = some r) :
    Calls Try.prog 23 #[.int .i64 a0] w fun e w' => e = .returned (.int .i64 r) ∧ Drawn0 w w' := by
  have H : (some a0) = some r := h
  clear h
  obtain rfl := Option.some.inj H
  go_enter Try.func23, Try.ntmps23
  go_wp2
  go_ret
  exact ⟨by first | rfl | (simp; done) | (simp [*]; done), by repeat (first | exact Drawn0.refl _ | apply Drawn0.step)⟩
def lysimeterlaw23_Line.l0 : Nat → Int → Int → Int → List Int → Int → Option (List Int)
  | 0, _, _, _, _, _ => none
  | k + 1, x0, x1, x2, x7, x8 => if x8 < x2 then ((lysimeterref1_Of.f (wrap64 (x0 + (wrap64 (x8 * x1))))).bind fun t101 => (if x7.length < 17592186044416 then (lysimeterlaw23_Line.l0 k x0 x1 x2 (x7 ++ [t101]) (wrap64 (x8 + 1))) else (none))) else (some x7)
def lysimeterlaw23_Line.f (k : Nat) (a0 : Int) (a1 : Int) (a2 : Int) : Option (List Int) := lysimeterlaw23_Line.l0 k a0 a1 a2 ([] : List Int) 0
set_option maxHeartbeats 8000000 in
set_option maxRecDepth 100000 in
theorem lysimeterlaw23_Line.calls (k : Nat) (a0 : Int) (a1 : Int) (a2 : Int) (r : List Int) (w : World) (h : lysimeterlaw23_Line.f k a0 a1 a2 = some r) :
    Calls Try.prog 62 #[.int .i64 a0, .int .i64 a1, .int .i64 a2] w fun e w' => ∃ v0_ : Value, e = .returned (v0_) ∧ Kd.R (Kd.int .i64) 3 w' w.heap.size (fun _ => True) v0_ r ∧ Below w.heap.size w w' := by
  have HB := Aside0.mk (Below.refl w.heap.size w)
  have H : (lysimeterlaw23_Line.l0 k a0 a1 a2 ([] : List Int) 0) = some r := h
  clear h
  have H' := Aside0.mk H
  clear H
  go_enter Try.func62, Try.ntmps62
  go_wp2
  go_loopg [7, 8] k (fun kq v7 v8 w' => ∃ (x7_1 : List Int) (x8_1 : Int), v8 = .int .i64 x8_1 ∧ Aside0 (lysimeterlaw23_Line.l0 kq a0 a1 a2 x7_1 x8_1 = some r) ∧ Aside0 (kq ≤ k) ∧ Aside0 (Kd.R (Kd.int .i64) 3 w' w.heap.size (fun _ => True) v7 x7_1) ∧ Aside0 (Below w.heap.size w w'))
  case atStart => exact ⟨(([] : List Int)), (0), (by first | rfl | (simp; done) | (simp [*]; done)), H', ⟨Nat.le_refl _⟩, ⟨by first | exact Kd.R_nil _ _ _ _ _ | exact Kd.N_nil _ _ _ _ _ | exact Kd.V_nil _ _ _ _ _ | exact Kd.Q_nil _ _ _ _ _ | exact Kd.S_nil _ _ _ _ _⟩, ⟨by repeat (first | (with_reducible first | exact HB.out | apply below_alloc | apply pw_below_drewN | apply below_drew1) | exact HB.out)⟩⟩
  case round =>
    clear H'
    try clear p2
    obtain ⟨x7_1, x8_1, rfl, HA, HK1, HO_7, HB⟩ := hrel
    cases gk with
    | zero => exact absurd HA.out (by simp [lysimeterlaw23_Line.l0])
    | succ k1 =>
      have H := HA.out
      clear HA
      simp only [lysimeterlaw23_Line.l0] at H
      by_cases c4 : x8_1 < a2
      · rw [if_pos c4] at H
        have c4b0 : decide (x8_1 < a2) = true := decide_eq_true c4
        clear c4
        replace H := Option.bind_eq_some_iff.mp H
        obtain ⟨t101, A50, H⟩ := H
        replace H : (if x7_1.length < 17592186044416 then (lysimeterlaw23_Line.l0 k1 a0 a1 a2 (x7_1 ++ [t101]) (wrap64 (x8_1 + 1))) else (none)) = some r := H
        have A5 := Aside0.mk A50
        clear A50
        by_cases c6 : x7_1.length < 17592186044416
        · rw [if_pos c6] at H
          have LMc6 := Aside0.mk c6
          clear c6
          obtain ⟨y102, hy102⟩ : ∃ y_ : List Int, y_ = (x7_1 ++ [t101]) := ⟨_, rfl⟩
          replace H : (lysimeterlaw23_Line.l0 k1 a0 a1 a2 y102 (wrap64 (x8_1 + 1))) = some r := by first | (rw [hy102]; with_reducible exact H) | (have H2_ := (Option.bind_some _ _).symm.trans H; rw [hy102]; with_reducible exact H2_) | (have H2_ := (Option.bind_some _ _).symm.trans H; with_reducible exact H2_) | with_reducible exact H | (rw [hy102]; exact H) | exact H
          have Ny102 := Aside0.mk hy102
          clear hy102
          have H' := Aside0.mk H
          clear H
          go_wp2_with (first | ((with_reducible refine gate_callee (f := 21) rfl ?_); refine goesL_ (some 20) rfl rfl Try.func21 (by kernel_rfl) rfl #[.int .i64 (wrap64 (a0 + (wrap64 (x8_1 * a1))))] rfl (by (try simp only [List.map_toArray, List.map_cons, List.map_nil]); first | done | rfl | (simp only [List.length_drop, List.length_take]; rfl)) ?_; (with_reducible refine (lysimeterref1_Of.calls (wrap64 (a0 + (wrap64 (x8_1 * a1)))) t101 _ A5.out).mono ?_); rintro e w' ⟨rfl, ⟨nd, rfl⟩⟩; refine ⟨_, rfl, ?_⟩) | ((with_reducible refine gate_builtin (b := .append) (xs := #[.tmp 14, .tmp 21]) rfl ?_); at_builtin; refine Kd.R_append (Kd.int .i64) (w0 := w) w.heap.size rfl (.tmp 14) (.tmp 21) 23 3 (.int .i64 0) 8 rfl Try.underlying23 info3 rfl (by decide) (by omega) u7 x7_1 t101 [.int .i64 t101] (fun _ => True) (fun _ => False) rfl rfl ?aP (fun _ hk => hk.elim) ?aF ?aO ?aB ?aS ?aL ?_; (case aP => exact rfl); (case aB => exact (by repeat (first | (with_reducible first | exact HB.out | apply below_alloc | apply pw_below_drewN | apply below_drew1) | exact HB.out))); (case aF => exact (fun _ _ => trivial)); (case aO => exact (by (with_reducible repeat (first | apply Kd.R_alloc | apply Kd.R_drewN | apply Kd.R_drew)); exact HO_7.out)); (case aS => exact (below_size (by repeat (first | (with_reducible first | exact HB.out | apply below_alloc | apply pw_below_drewN | apply below_drew1) | exact HB.out)))); (case aL => have := LMc6.out; omega); intro v103 w7 ho hb hg hat; rw [← Ny102.out] at ho; have n0_ := Aside0.mk (hb); have n1_ := Aside0.mk (ho); clear HB; clear HO_7; have HB := n0_; have HO104 := n1_; clear n0_ n1_; clear ho hb hg hat))
          go_roundg k1
          case measure => have := HK1.out; omega
          case rel => exact ⟨(y102), (wrap64 (x8_1 + 1)), (by first | rfl | (simp; done) | (simp [*]; done)), H', ⟨by have := HK1.out; omega⟩, ⟨by (with_reducible repeat (first | apply Kd.R_alloc | apply Kd.R_drewN | apply Kd.R_drew)); exact HO104.out⟩, ⟨by repeat (first | (with_reducible first | exact HB.out | apply below_alloc | apply pw_below_drewN | apply below_drew1) | exact HB.out)⟩⟩
        · rw [if_neg c6] at H
          exact absurd H (by simp)
      · rw [if_neg c4] at H
        have c4b0 : decide (x8_1 < a2) = false := decide_eq_false c4
        clear c4
        obtain rfl := Option.some.inj H
        go_wp2
        go_ret
        exact ⟨_, by first | rfl | (simp [errW_none, errW_some] <;> rfl) | (simp [*, errW_none, errW_some] <;> rfl), by (with_reducible repeat (first | apply Kd.R_alloc | apply Kd.R_drewN | apply Kd.R_drew)); exact HO_7.out, by repeat (first | (with_reducible first | exact HB.out | apply below_alloc | apply pw_below_drewN | apply below_drew1) | exact HB.out)⟩
def lysimeterref1_Sub.f (a0 : Int) (a1 : Int) : Option (Int) := if HS.InB a0 && HS.InB a1 then some (HS.subS a0 a1) else none
theorem lysimeterref1_Sub.calls (a0 : Int) (a1 : Int) (r : Int) (w : World)  (h : lysimeterref1_Sub.f a0 a1 = some r) :
    Calls Try.prog 63 #[.int .i64 a0, .int .i64 a1] w fun e w' => e = .returned (.int .i64 r) ∧ Drawn0 w w' := by
  unfold lysimeterref1_Sub.f at h
  by_cases c : (HS.InB a0 && HS.InB a1) = true
  · rw [if_pos c] at h
    obtain rfl := Option.some.inj h
    simp only [Bool.and_eq_true, okL_iff, HS.inB_iff] at c
    exact rSub c.1 c.2 w
  · rw [if_neg c] at h; cases h
def lysimeterlaw23_alive.f (k : Nat)  : Option (Bool) := (lysimeterlaw23_Line.f k 10 2 40).bind fun t106 => ((holt_Cast.f t106 2 2147483648 2147483648 2147483648 1).bind fun bt109 => ((lysimeterref1_Of.f 90).bind fun t111 => ((lysimeterref1_Sub.f bt109.1 t111).bind fun t112 => ((lysimeterlaw23_num.f bt109.2).bind fun t113 => (if t113 = 0 then (if t112 < 4294967296 then (some (decide (t112 > (-4294967296)))) else (some false)) else (some false))))))
def lysimeterlaw23_alive.T2 : Bool × List (List Nat × List Nat) := (true, [([], []), ([], []), ([0, 1, 0], [0, 1]), ([2], [2]), ([3], [3]), ([3], [3]), ([4, 2, 0, 1, 2, 3, 4], [4]), ([5, 6, 0, 1, 2, 3, 4, 5, 6], [5])])
def lysimeterlaw23_alive.B2 : List Nat := [0, 0, 3, 7, 15, 15, 31, 127]
theorem lysimeterlaw23_alive.tab2 : rtab .any (opsOf Try.f20 2) = lysimeterlaw23_alive.T2 := by kernel_rfl
theorem lysimeterlaw23_alive.bits2 : waitsOk lysimeterlaw23_alive.T2.2 lysimeterlaw23_alive.B2 = true := by kernel_rfl
set_option maxHeartbeats 8000000 in
set_option maxRecDepth 100000 in
theorem lysimeterlaw23_alive.calls (k : Nat)  (r : Bool) (w : World) (h : lysimeterlaw23_alive.f k  = some r) :
    Calls Try.prog 20 #[] w fun e w' => e = .returned (.bool r) ∧ Below w.heap.size w w' := by
  have hu29 := Try.underlying29
  have HB := Aside0.mk (Below.refl w.heap.size w)
  have H : ((lysimeterlaw23_Line.f k 10 2 40).bind fun t106 => ((holt_Cast.f t106 2 2147483648 2147483648 2147483648 1).bind fun bt109 => ((lysimeterref1_Of.f 90).bind fun t111 => ((lysimeterref1_Sub.f bt109.1 t111).bind fun t112 => ((lysimeterlaw23_num.f bt109.2).bind fun t113 => (if t113 = 0 then (if t112 < 4294967296 then (some (decide (t112 > (-4294967296)))) else (some false)) else (some false))))))) = some r := h
  clear h
  replace H := Option.bind_eq_some_iff.mp H
  obtain ⟨t106, A10, H⟩ := H
  replace H : ((holt_Cast.f t106 2 2147483648 2147483648 2147483648 1).bind fun bt109 => ((lysimeterref1_Of.f 90).bind fun t111 => ((lysimeterref1_Sub.f bt109.1 t111).bind fun t112 => ((lysimeterlaw23_num.f bt109.2).bind fun t113 => (if t113 = 0 then (if t112 < 4294967296 then (some (decide (t112 > (-4294967296)))) else (some false)) else (some false)))))) = some r := H
  have A1 := Aside0.mk A10
  clear A10
  replace H := Option.bind_eq_some_iff.mp H
  obtain ⟨⟨t109, t110⟩, A20, H⟩ := H
  replace H : ((lysimeterref1_Of.f 90).bind fun t111 => ((lysimeterref1_Sub.f t109 t111).bind fun t112 => ((lysimeterlaw23_num.f t110).bind fun t113 => (if t113 = 0 then (if t112 < 4294967296 then (some (decide (t112 > (-4294967296)))) else (some false)) else (some false))))) = some r := H
  have A2 := Aside0.mk A20
  clear A20
  replace H := Option.bind_eq_some_iff.mp H
  obtain ⟨t111, A30, H⟩ := H
  replace H : ((lysimeterref1_Sub.f t109 t111).bind fun t112 => ((lysimeterlaw23_num.f t110).bind fun t113 => (if t113 = 0 then (if t112 < 4294967296 then (some (decide (t112 > (-4294967296)))) else (some false)) else (some false)))) = some r := H
  have A3 := Aside0.mk A30
  clear A30
  replace H := Option.bind_eq_some_iff.mp H
  obtain ⟨t112, A40, H⟩ := H
  replace H : ((lysimeterlaw23_num.f t110).bind fun t113 => (if t113 = 0 then (if t112 < 4294967296 then (some (decide (t112 > (-4294967296)))) else (some false)) else (some false))) = some r := H
  have A4 := Aside0.mk A40
  clear A40
  replace H := Option.bind_eq_some_iff.mp H
  obtain ⟨t113, A50, H⟩ := H
  replace H : (if t113 = 0 then (if t112 < 4294967296 then (some (decide (t112 > (-4294967296)))) else (some false)) else (some false)) = some r := H
  have A5 := Aside0.mk A50
  clear A50
  by_cases c6 : t113 = 0
  · rw [if_pos c6] at H
    have c6b0 : (t113 == 0) = true := beq_iff_eq.mpr c6
    have c6b1 : (t113 != 0) = false := bne_eq_false_iff_eq.mpr c6
    clear c6
    by_cases c7 : t112 < 4294967296
    · rw [if_pos c7] at H
      have c7b0 : decide (t112 < 4294967296) = true := decide_eq_true c7
      clear c7
      obtain rfl := Option.some.inj H
      go_enter Try.func20, Try.ntmps20
      try go_wp2_with (first | ((with_reducible refine gate_dst (N := 1) rfl ?_); refine box_event ?hg (N := 1) ?hd (cs := #[.int .i64 0, .int .i64 0, .int .i64 0, .int .i64 0]) (t := 29) ?hr ?_; (case hd => rfl); (case hg => rfl); (case hr => first | (go_simp; done) | (go_simp; rfl)); intro gb105 hg w8 hbox hb; have n0_ := Aside0.mk (below_step (by repeat (first | (with_reducible first | exact HB.out | apply below_alloc | apply pw_below_drewN | apply below_drew1) | exact HB.out)) hb); have n1_ := Aside0.mk (hbox); have n2_ := Aside0.mk ((by rw [hg]; exact (below_size (by repeat (first | (with_reducible first | exact HB.out | apply below_alloc | apply pw_below_drewN | apply below_drew1) | exact HB.out))) : w.heap.size ≤ gb105)); have n3_ := Aside0.mk ((by rw [hg]; exact (below_size (by repeat (first | (with_reducible first | exact HB.out | apply below_alloc | apply pw_below_drewN | apply below_drew1) | exact HB.out))) : w.heap.size ≤ gb105)); clear HB; have HB := n0_; have BK105 := n1_; have GW105 := n2_; have GE105 := n3_; clear n0_ n1_ n2_ n3_; clear hb hbox hg; have hcz9_0 : w8.cell? ⟨gb105, 0, none⟩ = some (.int .i64 0) := (blk_cell BK105.out 0).trans rfl; have hcz9_1 : w8.cell? ⟨gb105, 1, none⟩ = some (.int .i64 0) := (blk_cell BK105.out 1).trans rfl; have hcz9_2 : w8.cell? ⟨gb105, 2, none⟩ = some (.int .i64 0) := (blk_cell BK105.out 2).trans rfl; have hcz9_3 : w8.cell? ⟨gb105, 3, none⟩ = some (.int .i64 0) := (blk_cell BK105.out 3).trans rfl; have hfz9_0 := blk_frozen BK105.out 0; have hfz9_1 := blk_frozen BK105.out 1; have hfz9_2 := blk_frozen BK105.out 2; have hfz9_3 := blk_frozen BK105.out 3))
      have n0_ : Aside0 (((((w8.setCell ⟨gb105, 0, none⟩ (.int .i64 2)).setCell ⟨gb105, 1, none⟩ (.int .i64 2147483648)).setCell ⟨gb105, 2, none⟩ (.int .i64 2147483648)).setCell ⟨gb105, 3, none⟩ (.int .i64 2147483648)).heap[gb105]? = some (.cells #[.int .i64 2, .int .i64 2147483648, .int .i64 2147483648, .int .i64 2147483648] 29 (0, 0))) := ⟨by (with_reducible repeat (first | refine blk_drewN ?_ _ | refine blk_drew ?_ | refine blk_alloc ?_ _)); refine blk_put (cs := #[.int .i64 2, .int .i64 2147483648, .int .i64 2147483648, .int .i64 0]) ?_ 3 _ rfl; (with_reducible repeat (first | refine blk_drewN ?_ _ | refine blk_drew ?_ | refine blk_alloc ?_ _)); refine blk_put (cs := #[.int .i64 2, .int .i64 2147483648, .int .i64 0, .int .i64 0]) ?_ 2 _ rfl; (with_reducible repeat (first | refine blk_drewN ?_ _ | refine blk_drew ?_ | refine blk_alloc ?_ _)); refine blk_put (cs := #[.int .i64 2, .int .i64 0, .int .i64 0, .int .i64 0]) ?_ 1 _ rfl; (with_reducible repeat (first | refine blk_drewN ?_ _ | refine blk_drew ?_ | refine blk_alloc ?_ _)); refine blk_put (cs := #[.int .i64 0, .int .i64 0, .int .i64 0, .int .i64 0]) ?_ 0 _ rfl; (with_reducible repeat (first | refine blk_drewN ?_ _ | refine blk_drew ?_ | refine blk_alloc ?_ _)); exact BK105.out⟩
      have n1_ : Aside0 (Below w.heap.size w ((((w8.setCell ⟨gb105, 0, none⟩ (.int .i64 2)).setCell ⟨gb105, 1, none⟩ (.int .i64 2147483648)).setCell ⟨gb105, 2, none⟩ (.int .i64 2147483648)).setCell ⟨gb105, 3, none⟩ (.int .i64 2147483648))) := ⟨by repeat (first | (with_reducible first | exact HB.out | apply below_alloc | apply pw_below_drewN | apply below_drew1 | refine below_set ?_ GE105.out) | exact HB.out)⟩
      (try clear BK105)
      (try clear HB)
      generalize ((((w8.setCell ⟨gb105, 0, none⟩ (.int .i64 2)).setCell ⟨gb105, 1, none⟩ (.int .i64 2147483648)).setCell ⟨gb105, 2, none⟩ (.int .i64 2147483648)).setCell ⟨gb105, 3, none⟩ (.int .i64 2147483648)) = w10 at n0_ n1_ ⊢
      have BK105 := n0_
      have HB := n1_
      clear n0_ n1_
      have n0_ := Aside0.mk (blk_drew BK105.out)
      have n1_ := Aside0.mk (below_drew1 HB.out)
      clear BK105
      clear HB
      have BK105 := n0_
      have HB := n1_
      clear n0_ n1_
      refine start_ (n := 8) (S := fun w' => w'.cell? ⟨gb105, 0, none⟩ = some (.int .i64 2) ∧ w'.cell? ⟨gb105, 1, none⟩ = some (.int .i64 2147483648) ∧ w'.cell? ⟨gb105, 2, none⟩ = some (.int .i64 2147483648) ∧ w'.cell? ⟨gb105, 3, none⟩ = some (.int .i64 2147483648)) (ds := []) #[false, false, false, false, false, false, false, false] (by kernel_rfl) rfl rfl ⟨(blk_cell BK105.out 0).trans rfl, (blk_cell BK105.out 1).trans rfl, (blk_cell BK105.out 2).trans rfl, (blk_cell BK105.out 3).trans rfl⟩ (fun hHeld => ?_); refine with_tabW lysimeterlaw23_alive.tab2 lysimeterlaw23_alive.bits2 (fun HT_ HW_ => ?_)
      generalize w10.drew = w11 at BK105 HB hHeld ⊢
      refine take_ (i := 1) (N := some 8) (v := ?_) (a' := ?_) #[false, true, false, false, false, false, false, false] rfl rfl (take_ofW HT_.out HW_.out (by kernel_rfl)) (fun _ _ _ h => h) (Or.inl ⟨by rfl, ?_⟩) hHeld ?_ ?_
      rotate_left
      · rintro w' ⟨s0, s1, s2, s3⟩
        go_simp
        with_reducible rfl
      rotate_left
      · simp only [Act.put, List.setIfInBounds_toArray, List.set_cons_zero, List.set_cons_succ, i64_w, i32_w]
        rfl
      refine one_ (i := 0) (N := some 7) #[true, true, false, false, false, false, false, false] rfl rfl (one_of HT_.out (by kernel_rfl)) (by decide) (fun K hK => ?_)
      refine goes_ Try.func62 (by kernel_rfl) rfl #[.int .i64 10, .int .i64 2, .int .i64 40] (by rfl) rfl rfl (by (try simp only [List.map_toArray, List.map_cons, List.map_nil]); first | done | rfl | (simp only [List.length_drop, List.length_take]; rfl)) ?_
      with_reducible refine (lysimeterlaw23_Line.calls k 10 2 40 t106 _ A1.out).mono ?_
      rintro e w12 ⟨v107, rfl, ho0, hb⟩
      refine ⟨_, rfl, ?_⟩
      have n0_ := Aside0.mk (Kd.R_lower ho0 (below_size (by repeat (first | (with_reducible first | exact HB.out | apply below_alloc | apply pw_below_drewN | apply below_drew1 | refine below_set ?_ GE105.out) | exact HB.out))))
      have n1_ := Aside0.mk (blk_below (g := gb105) (o := .cells #[.int .i64 2, .int .i64 2147483648, .int .i64 2147483648, .int .i64 2147483648] 29 (0, 0)) (by (with_reducible repeat (first | refine blk_drewN ?_ _ | refine blk_drew ?_ | refine blk_alloc ?_ _)); exact BK105.out) hb)
      have n2_ := Aside0.mk (below_step (by repeat (first | (with_reducible first | exact HB.out | apply below_alloc | apply pw_below_drewN | apply below_drew1 | refine below_set ?_ GE105.out) | exact HB.out)) hb)
      clear BK105
      clear HB
      have HO108 := n0_
      have BK105 := n1_
      have HB := n2_
      clear n0_ n1_ n2_
      (try clear hb)
      (try clear hb2)
      (try clear hk)
      (try clear hi)
      (try clear ho0)
      obtain ⟨Ao13, co13, eo13⟩ := Kd.R_slice HO108.out
      (first | subst eo13 | (injection eo13 with f1_ f2_ f3_; have f4_ := f1_.symm; have f5_ := f3_.symm; clear f1_ f2_ f3_; subst f4_; subst f5_))
      refine hK.out _ _ ⟨(blk_cell BK105.out 0).trans rfl, (blk_cell BK105.out 1).trans rfl, (blk_cell BK105.out 2).trans rfl, (blk_cell BK105.out 3).trans rfl⟩ (fun hHeld => ?_)
      clear hK K
      refine norm_ (a' := ?_) ?_ ?_
      rotate_left
      · show Act.put _ (some 7) _ = _
        simp only [Act.put, List.setIfInBounds_toArray, List.set_cons_zero, List.set_cons_succ, i64_w, i32_w]
        rfl
      refine one_ (i := 2) (N := some 9) #[true, true, true, false, false, false, false, false] rfl rfl (one_of HT_.out (by kernel_rfl)) (by decide) (fun K hK => ?_)
      refine goes_ Try.func22 (by kernel_rfl) rfl #[.slice Ao13 t106.length co13, .agg #[.int .i64 2, .int .i64 2147483648, .int .i64 2147483648, .int .i64 2147483648], .int .i64 1] (by rfl) rfl rfl (by (try simp only [List.map_toArray, List.map_cons, List.map_nil]); first | done | rfl | (simp only [List.length_drop, List.length_take]; rfl)) ?_
      with_reducible refine (holt_Cast.calls _ _ t106 2 2147483648 2147483648 2147483648 1 t109 t110 _ ?side1 ?side2 A2.out).mono ?_
      (case side1 => repeat (first | exact (Kd.R_reads' HO108.out).2.2 | (with_reducible refine Kd.C_alloc ?_ _) | (with_reducible refine Kd.C_drewN ?_ _) | (with_reducible refine Kd.C_drew ?_)))
      (case side2 => exact (Kd.R_reads' HO108.out).2.1)
      rintro e w14 ⟨rfl, hb⟩
      refine ⟨_, rfl, ?_⟩
      have n0_ := Aside0.mk (Kd.R_below (by (with_reducible repeat (first | apply Kd.R_alloc | apply Kd.R_drewN | apply Kd.R_drew)); exact HO108.out) hb)
      have n1_ := Aside0.mk (blk_below (g := gb105) (o := .cells #[.int .i64 2, .int .i64 2147483648, .int .i64 2147483648, .int .i64 2147483648] 29 (0, 0)) (by (with_reducible repeat (first | refine blk_drewN ?_ _ | refine blk_drew ?_ | refine blk_alloc ?_ _)); exact BK105.out) hb)
      have n2_ := Aside0.mk (below_step (by repeat (first | (with_reducible first | exact HB.out | apply below_alloc | apply pw_below_drewN | apply below_drew1 | refine below_set ?_ GE105.out) | exact HB.out)) hb)
      clear HO108
      clear BK105
      clear HB
      have HO108 := n0_
      have BK105 := n1_
      have HB := n2_
      clear n0_ n1_ n2_
      (try clear hb)
      (try clear hb2)
      (try clear hk)
      (try clear hi)
      refine hK.out _ _ ⟨(blk_cell BK105.out 0).trans rfl, (blk_cell BK105.out 1).trans rfl, (blk_cell BK105.out 2).trans rfl, (blk_cell BK105.out 3).trans rfl⟩ (fun hHeld => ?_)
      clear hK K
      refine norm_ (a' := ?_) ?_ ?_
      rotate_left
      · show Act.put _ (some 9) _ = _
        simp only [Act.put, List.setIfInBounds_toArray, List.set_cons_zero, List.set_cons_succ, i64_w, i32_w]
        rfl
      refine pure_ (i := 3) (N := some 6) (v := ?_) (a' := ?_) #[true, true, true, true, false, false, false, false] rfl rfl (any_of HT_.out (by kernel_rfl)) (fun _ _ _ h => h) (Or.inl ⟨by rfl, ?_⟩) ?_ ?_
      rotate_left
      · intro w'
        go_simp
        with_reducible rfl
      rotate_left
      · simp only [Act.put, List.setIfInBounds_toArray, List.set_cons_zero, List.set_cons_succ, i64_w, i32_w]
        rfl
      refine pure_ (i := 4) (N := some 10) (v := ?_) (a' := ?_) #[true, true, true, true, true, false, false, false] rfl rfl (any_of HT_.out (by kernel_rfl)) (fun _ _ _ h => h) (Or.inl ⟨by rfl, ?_⟩) ?_ ?_
      rotate_left
      · intro w'
        go_simp
        with_reducible rfl
      rotate_left
      · simp only [Act.put, List.setIfInBounds_toArray, List.set_cons_zero, List.set_cons_succ, i64_w, i32_w]
        rfl
      refine pure_ (i := 5) (N := some 11) (v := ?_) (a' := ?_) #[true, true, true, true, true, true, false, false] rfl rfl (any_of HT_.out (by kernel_rfl)) (fun _ _ _ h => h) (Or.inl ⟨by rfl, ?_⟩) ?_ ?_
      rotate_left
      · intro w'
        go_simp
        with_reducible rfl
      rotate_left
      · simp only [Act.put, List.setIfInBounds_toArray, List.set_cons_zero, List.set_cons_succ, i64_w, i32_w]
        rfl
      refine pure_ (i := 6) (N := some 2) (v := ?_) (a' := ?_) #[true, true, true, true, true, true, true, false] rfl rfl (any_of HT_.out (by kernel_rfl)) (fun _ _ _ h => h) (Or.inl ⟨by rfl, ?_⟩) ?_ ?_
      rotate_left
      · intro w'
        go_simp
        with_reducible rfl
      rotate_left
      · simp only [Act.put, List.setIfInBounds_toArray, List.set_cons_zero, List.set_cons_succ, i64_w, i32_w]
        rfl
      refine pure_ (i := 7) (N := some 3) (v := ?_) (a' := ?_) #[true, true, true, true, true, true, true, true] rfl rfl (any_of HT_.out (by kernel_rfl)) (fun _ _ _ h => h) (Or.inl ⟨by rfl, ?_⟩) ?_ ?_
      rotate_left
      · intro w'
        go_simp
        with_reducible rfl
      rotate_left
      · simp only [Act.put, List.setIfInBounds_toArray, List.set_cons_zero, List.set_cons_succ, i64_w, i32_w]
        rfl
      refine done_ (done_of HT_.out (by kernel_rfl)) ?_
      try go_wp2_with (first | ((with_reducible refine gate_callee (f := 21) rfl ?_); refine goesL_ (some 13) rfl rfl Try.func21 (by kernel_rfl) rfl #[.int .i64 90] rfl (by (try simp only [List.map_toArray, List.map_cons, List.map_nil]); first | done | rfl | (simp only [List.length_drop, List.length_take]; rfl)) ?_; (with_reducible refine (lysimeterref1_Of.calls 90 t111 _ A3.out).mono ?_); rintro e w' ⟨rfl, ⟨nd, rfl⟩⟩; refine ⟨_, rfl, ?_⟩) | ((with_reducible refine gate_callee (f := 63) rfl ?_); refine goesL_ (some 14) rfl rfl Try.func63 (by kernel_rfl) rfl #[.int .i64 t109, .int .i64 t111] rfl (by (try simp only [List.map_toArray, List.map_cons, List.map_nil]); first | done | rfl | (simp only [List.length_drop, List.length_take]; rfl)) ?_; (with_reducible refine (lysimeterref1_Sub.calls t109 t111 t112 _ A4.out).mono ?_); rintro e w' ⟨rfl, ⟨nd, rfl⟩⟩; refine ⟨_, rfl, ?_⟩) | ((with_reducible refine gate_callee (f := 23) rfl ?_); refine goesL_ (some 16) rfl rfl Try.func23 (by kernel_rfl) rfl #[.int .i64 t110] rfl (by (try simp only [List.map_toArray, List.map_cons, List.map_nil]); first | done | rfl | (simp only [List.length_drop, List.length_take]; rfl)) ?_; (with_reducible refine (lysimeterlaw23_num.calls t110 t113 _ A5.out).mono ?_); rintro e w' ⟨rfl, ⟨nd, rfl⟩⟩; refine ⟨_, rfl, ?_⟩))
      go_ret
      exact ⟨by first | rfl | (simp [errW_none, errW_some] <;> rfl) | (simp [*, errW_none, errW_some] <;> rfl), by repeat (first | (with_reducible first | exact HB.out | apply below_alloc | apply pw_below_drewN | apply below_drew1 | refine below_set ?_ GE105.out) | exact HB.out)⟩
    · rw [if_neg c7] at H
      have c7b0 : decide (t112 < 4294967296) = false := decide_eq_false c7
      clear c7
      obtain rfl := Option.some.inj H
      go_enter Try.func20, Try.ntmps20
      try go_wp2_with (first | ((with_reducible refine gate_dst (N := 1) rfl ?_); refine box_event ?hg (N := 1) ?hd (cs := #[.int .i64 0, .int .i64 0, .int .i64 0, .int .i64 0]) (t := 29) ?hr ?_; (case hd => rfl); (case hg => rfl); (case hr => first | (go_simp; done) | (go_simp; rfl)); intro gb105 hg w15 hbox hb; have n0_ := Aside0.mk (below_step (by repeat (first | (with_reducible first | exact HB.out | apply below_alloc | apply pw_below_drewN | apply below_drew1) | exact HB.out)) hb); have n1_ := Aside0.mk (hbox); have n2_ := Aside0.mk ((by rw [hg]; exact (below_size (by repeat (first | (with_reducible first | exact HB.out | apply below_alloc | apply pw_below_drewN | apply below_drew1) | exact HB.out))) : w.heap.size ≤ gb105)); have n3_ := Aside0.mk ((by rw [hg]; exact (below_size (by repeat (first | (with_reducible first | exact HB.out | apply below_alloc | apply pw_below_drewN | apply below_drew1) | exact HB.out))) : w.heap.size ≤ gb105)); clear HB; have HB := n0_; have BK105 := n1_; have GW105 := n2_; have GE105 := n3_; clear n0_ n1_ n2_ n3_; clear hb hbox hg; have hcz16_0 : w15.cell? ⟨gb105, 0, none⟩ = some (.int .i64 0) := (blk_cell BK105.out 0).trans rfl; have hcz16_1 : w15.cell? ⟨gb105, 1, none⟩ = some (.int .i64 0) := (blk_cell BK105.out 1).trans rfl; have hcz16_2 : w15.cell? ⟨gb105, 2, none⟩ = some (.int .i64 0) := (blk_cell BK105.out 2).trans rfl; have hcz16_3 : w15.cell? ⟨gb105, 3, none⟩ = some (.int .i64 0) := (blk_cell BK105.out 3).trans rfl; have hfz16_0 := blk_frozen BK105.out 0; have hfz16_1 := blk_frozen BK105.out 1; have hfz16_2 := blk_frozen BK105.out 2; have hfz16_3 := blk_frozen BK105.out 3))
      have n0_ : Aside0 (((((w15.setCell ⟨gb105, 0, none⟩ (.int .i64 2)).setCell ⟨gb105, 1, none⟩ (.int .i64 2147483648)).setCell ⟨gb105, 2, none⟩ (.int .i64 2147483648)).setCell ⟨gb105, 3, none⟩ (.int .i64 2147483648)).heap[gb105]? = some (.cells #[.int .i64 2, .int .i64 2147483648, .int .i64 2147483648, .int .i64 2147483648] 29 (0, 0))) := ⟨by (with_reducible repeat (first | refine blk_drewN ?_ _ | refine blk_drew ?_ | refine blk_alloc ?_ _)); refine blk_put (cs := #[.int .i64 2, .int .i64 2147483648, .int .i64 2147483648, .int .i64 0]) ?_ 3 _ rfl; (with_reducible repeat (first | refine blk_drewN ?_ _ | refine blk_drew ?_ | refine blk_alloc ?_ _)); refine blk_put (cs := #[.int .i64 2, .int .i64 2147483648, .int .i64 0, .int .i64 0]) ?_ 2 _ rfl; (with_reducible repeat (first | refine blk_drewN ?_ _ | refine blk_drew ?_ | refine blk_alloc ?_ _)); refine blk_put (cs := #[.int .i64 2, .int .i64 0, .int .i64 0, .int .i64 0]) ?_ 1 _ rfl; (with_reducible repeat (first | refine blk_drewN ?_ _ | refine blk_drew ?_ | refine blk_alloc ?_ _)); refine blk_put (cs := #[.int .i64 0, .int .i64 0, .int .i64 0, .int .i64 0]) ?_ 0 _ rfl; (with_reducible repeat (first | refine blk_drewN ?_ _ | refine blk_drew ?_ | refine blk_alloc ?_ _)); exact BK105.out⟩
      have n1_ : Aside0 (Below w.heap.size w ((((w15.setCell ⟨gb105, 0, none⟩ (.int .i64 2)).setCell ⟨gb105, 1, none⟩ (.int .i64 2147483648)).setCell ⟨gb105, 2, none⟩ (.int .i64 2147483648)).setCell ⟨gb105, 3, none⟩ (.int .i64 2147483648))) := ⟨by repeat (first | (with_reducible first | exact HB.out | apply below_alloc | apply pw_below_drewN | apply below_drew1 | refine below_set ?_ GE105.out) | exact HB.out)⟩
      (try clear BK105)
      (try clear HB)
      generalize ((((w15.setCell ⟨gb105, 0, none⟩ (.int .i64 2)).setCell ⟨gb105, 1, none⟩ (.int .i64 2147483648)).setCell ⟨gb105, 2, none⟩ (.int .i64 2147483648)).setCell ⟨gb105, 3, none⟩ (.int .i64 2147483648)) = w17 at n0_ n1_ ⊢
      have BK105 := n0_
      have HB := n1_
      clear n0_ n1_
      have n0_ := Aside0.mk (blk_drew BK105.out)
      have n1_ := Aside0.mk (below_drew1 HB.out)
      clear BK105
      clear HB
      have BK105 := n0_
      have HB := n1_
      clear n0_ n1_
      refine start_ (n := 8) (S := fun w' => w'.cell? ⟨gb105, 0, none⟩ = some (.int .i64 2) ∧ w'.cell? ⟨gb105, 1, none⟩ = some (.int .i64 2147483648) ∧ w'.cell? ⟨gb105, 2, none⟩ = some (.int .i64 2147483648) ∧ w'.cell? ⟨gb105, 3, none⟩ = some (.int .i64 2147483648)) (ds := []) #[false, false, false, false, false, false, false, false] (by kernel_rfl) rfl rfl ⟨(blk_cell BK105.out 0).trans rfl, (blk_cell BK105.out 1).trans rfl, (blk_cell BK105.out 2).trans rfl, (blk_cell BK105.out 3).trans rfl⟩ (fun hHeld => ?_); refine with_tabW lysimeterlaw23_alive.tab2 lysimeterlaw23_alive.bits2 (fun HT_ HW_ => ?_)
      generalize w17.drew = w18 at BK105 HB hHeld ⊢
      refine take_ (i := 1) (N := some 8) (v := ?_) (a' := ?_) #[false, true, false, false, false, false, false, false] rfl rfl (take_ofW HT_.out HW_.out (by kernel_rfl)) (fun _ _ _ h => h) (Or.inl ⟨by rfl, ?_⟩) hHeld ?_ ?_
      rotate_left
      · rintro w' ⟨s0, s1, s2, s3⟩
        go_simp
        with_reducible rfl
      rotate_left
      · simp only [Act.put, List.setIfInBounds_toArray, List.set_cons_zero, List.set_cons_succ, i64_w, i32_w]
        rfl
      refine one_ (i := 0) (N := some 7) #[true, true, false, false, false, false, false, false] rfl rfl (one_of HT_.out (by kernel_rfl)) (by decide) (fun K hK => ?_)
      refine goes_ Try.func62 (by kernel_rfl) rfl #[.int .i64 10, .int .i64 2, .int .i64 40] (by rfl) rfl rfl (by (try simp only [List.map_toArray, List.map_cons, List.map_nil]); first | done | rfl | (simp only [List.length_drop, List.length_take]; rfl)) ?_
      with_reducible refine (lysimeterlaw23_Line.calls k 10 2 40 t106 _ A1.out).mono ?_
      rintro e w19 ⟨v107, rfl, ho0, hb⟩
      refine ⟨_, rfl, ?_⟩
      have n0_ := Aside0.mk (Kd.R_lower ho0 (below_size (by repeat (first | (with_reducible first | exact HB.out | apply below_alloc | apply pw_below_drewN | apply below_drew1 | refine below_set ?_ GE105.out) | exact HB.out))))
      have n1_ := Aside0.mk (blk_below (g := gb105) (o := .cells #[.int .i64 2, .int .i64 2147483648, .int .i64 2147483648, .int .i64 2147483648] 29 (0, 0)) (by (with_reducible repeat (first | refine blk_drewN ?_ _ | refine blk_drew ?_ | refine blk_alloc ?_ _)); exact BK105.out) hb)
      have n2_ := Aside0.mk (below_step (by repeat (first | (with_reducible first | exact HB.out | apply below_alloc | apply pw_below_drewN | apply below_drew1 | refine below_set ?_ GE105.out) | exact HB.out)) hb)
      clear BK105
      clear HB
      have HO108 := n0_
      have BK105 := n1_
      have HB := n2_
      clear n0_ n1_ n2_
      (try clear hb)
      (try clear hb2)
      (try clear hk)
      (try clear hi)
      (try clear ho0)
      obtain ⟨Ao20, co20, eo20⟩ := Kd.R_slice HO108.out
      (first | subst eo20 | (injection eo20 with f1_ f2_ f3_; have f4_ := f1_.symm; have f5_ := f3_.symm; clear f1_ f2_ f3_; subst f4_; subst f5_))
      refine hK.out _ _ ⟨(blk_cell BK105.out 0).trans rfl, (blk_cell BK105.out 1).trans rfl, (blk_cell BK105.out 2).trans rfl, (blk_cell BK105.out 3).trans rfl⟩ (fun hHeld => ?_)
      clear hK K
      refine norm_ (a' := ?_) ?_ ?_
      rotate_left
      · show Act.put _ (some 7) _ = _
        simp only [Act.put, List.setIfInBounds_toArray, List.set_cons_zero, List.set_cons_succ, i64_w, i32_w]
        rfl
      refine one_ (i := 2) (N := some 9) #[true, true, true, false, false, false, false, false] rfl rfl (one_of HT_.out (by kernel_rfl)) (by decide) (fun K hK => ?_)
      refine goes_ Try.func22 (by kernel_rfl) rfl #[.slice Ao20 t106.length co20, .agg #[.int .i64 2, .int .i64 2147483648, .int .i64 2147483648, .int .i64 2147483648], .int .i64 1] (by rfl) rfl rfl (by (try simp only [List.map_toArray, List.map_cons, List.map_nil]); first | done | rfl | (simp only [List.length_drop, List.length_take]; rfl)) ?_
      with_reducible refine (holt_Cast.calls _ _ t106 2 2147483648 2147483648 2147483648 1 t109 t110 _ ?side1 ?side2 A2.out).mono ?_
      (case side1 => repeat (first | exact (Kd.R_reads' HO108.out).2.2 | (with_reducible refine Kd.C_alloc ?_ _) | (with_reducible refine Kd.C_drewN ?_ _) | (with_reducible refine Kd.C_drew ?_)))
      (case side2 => exact (Kd.R_reads' HO108.out).2.1)
      rintro e w21 ⟨rfl, hb⟩
      refine ⟨_, rfl, ?_⟩
      have n0_ := Aside0.mk (Kd.R_below (by (with_reducible repeat (first | apply Kd.R_alloc | apply Kd.R_drewN | apply Kd.R_drew)); exact HO108.out) hb)
      have n1_ := Aside0.mk (blk_below (g := gb105) (o := .cells #[.int .i64 2, .int .i64 2147483648, .int .i64 2147483648, .int .i64 2147483648] 29 (0, 0)) (by (with_reducible repeat (first | refine blk_drewN ?_ _ | refine blk_drew ?_ | refine blk_alloc ?_ _)); exact BK105.out) hb)
      have n2_ := Aside0.mk (below_step (by repeat (first | (with_reducible first | exact HB.out | apply below_alloc | apply pw_below_drewN | apply below_drew1 | refine below_set ?_ GE105.out) | exact HB.out)) hb)
      clear HO108
      clear BK105
      clear HB
      have HO108 := n0_
      have BK105 := n1_
      have HB := n2_
      clear n0_ n1_ n2_
      (try clear hb)
      (try clear hb2)
      (try clear hk)
      (try clear hi)
      refine hK.out _ _ ⟨(blk_cell BK105.out 0).trans rfl, (blk_cell BK105.out 1).trans rfl, (blk_cell BK105.out 2).trans rfl, (blk_cell BK105.out 3).trans rfl⟩ (fun hHeld => ?_)
      clear hK K
      refine norm_ (a' := ?_) ?_ ?_
      rotate_left
      · show Act.put _ (some 9) _ = _
        simp only [Act.put, List.setIfInBounds_toArray, List.set_cons_zero, List.set_cons_succ, i64_w, i32_w]
        rfl
      refine pure_ (i := 3) (N := some 6) (v := ?_) (a' := ?_) #[true, true, true, true, false, false, false, false] rfl rfl (any_of HT_.out (by kernel_rfl)) (fun _ _ _ h => h) (Or.inl ⟨by rfl, ?_⟩) ?_ ?_
      rotate_left
      · intro w'
        go_simp
        with_reducible rfl
      rotate_left
      · simp only [Act.put, List.setIfInBounds_toArray, List.set_cons_zero, List.set_cons_succ, i64_w, i32_w]
        rfl
      refine pure_ (i := 4) (N := some 10) (v := ?_) (a' := ?_) #[true, true, true, true, true, false, false, false] rfl rfl (any_of HT_.out (by kernel_rfl)) (fun _ _ _ h => h) (Or.inl ⟨by rfl, ?_⟩) ?_ ?_
      rotate_left
      · intro w'
        go_simp
        with_reducible rfl
      rotate_left
      · simp only [Act.put, List.setIfInBounds_toArray, List.set_cons_zero, List.set_cons_succ, i64_w, i32_w]
        rfl
      refine pure_ (i := 5) (N := some 11) (v := ?_) (a' := ?_) #[true, true, true, true, true, true, false, false] rfl rfl (any_of HT_.out (by kernel_rfl)) (fun _ _ _ h => h) (Or.inl ⟨by rfl, ?_⟩) ?_ ?_
      rotate_left
      · intro w'
        go_simp
        with_reducible rfl
      rotate_left
      · simp only [Act.put, List.setIfInBounds_toArray, List.set_cons_zero, List.set_cons_succ, i64_w, i32_w]
        rfl
      refine pure_ (i := 6) (N := some 2) (v := ?_) (a' := ?_) #[true, true, true, true, true, true, true, false] rfl rfl (any_of HT_.out (by kernel_rfl)) (fun _ _ _ h => h) (Or.inl ⟨by rfl, ?_⟩) ?_ ?_
      rotate_left
      · intro w'
        go_simp
        with_reducible rfl
      rotate_left
      · simp only [Act.put, List.setIfInBounds_toArray, List.set_cons_zero, List.set_cons_succ, i64_w, i32_w]
        rfl
      refine pure_ (i := 7) (N := some 3) (v := ?_) (a' := ?_) #[true, true, true, true, true, true, true, true] rfl rfl (any_of HT_.out (by kernel_rfl)) (fun _ _ _ h => h) (Or.inl ⟨by rfl, ?_⟩) ?_ ?_
      rotate_left
      · intro w'
        go_simp
        with_reducible rfl
      rotate_left
      · simp only [Act.put, List.setIfInBounds_toArray, List.set_cons_zero, List.set_cons_succ, i64_w, i32_w]
        rfl
      refine done_ (done_of HT_.out (by kernel_rfl)) ?_
      try go_wp2_with (first | ((with_reducible refine gate_callee (f := 21) rfl ?_); refine goesL_ (some 13) rfl rfl Try.func21 (by kernel_rfl) rfl #[.int .i64 90] rfl (by (try simp only [List.map_toArray, List.map_cons, List.map_nil]); first | done | rfl | (simp only [List.length_drop, List.length_take]; rfl)) ?_; (with_reducible refine (lysimeterref1_Of.calls 90 t111 _ A3.out).mono ?_); rintro e w' ⟨rfl, ⟨nd, rfl⟩⟩; refine ⟨_, rfl, ?_⟩) | ((with_reducible refine gate_callee (f := 63) rfl ?_); refine goesL_ (some 14) rfl rfl Try.func63 (by kernel_rfl) rfl #[.int .i64 t109, .int .i64 t111] rfl (by (try simp only [List.map_toArray, List.map_cons, List.map_nil]); first | done | rfl | (simp only [List.length_drop, List.length_take]; rfl)) ?_; (with_reducible refine (lysimeterref1_Sub.calls t109 t111 t112 _ A4.out).mono ?_); rintro e w' ⟨rfl, ⟨nd, rfl⟩⟩; refine ⟨_, rfl, ?_⟩) | ((with_reducible refine gate_callee (f := 23) rfl ?_); refine goesL_ (some 16) rfl rfl Try.func23 (by kernel_rfl) rfl #[.int .i64 t110] rfl (by (try simp only [List.map_toArray, List.map_cons, List.map_nil]); first | done | rfl | (simp only [List.length_drop, List.length_take]; rfl)) ?_; (with_reducible refine (lysimeterlaw23_num.calls t110 t113 _ A5.out).mono ?_); rintro e w' ⟨rfl, ⟨nd, rfl⟩⟩; refine ⟨_, rfl, ?_⟩))
      go_ret
      exact ⟨by first | rfl | (simp [errW_none, errW_some] <;> rfl) | (simp [*, errW_none, errW_some] <;> rfl), by repeat (first | (with_reducible first | exact HB.out | apply below_alloc | apply pw_below_drewN | apply below_drew1 | refine below_set ?_ GE105.out) | exact HB.out)⟩
  · rw [if_neg c6] at H
    have c6b0 : (t113 == 0) = false := beq_eq_false_iff_ne.mpr c6
    have c6b1 : (t113 != 0) = true := bne_iff_ne.mpr c6
    obtain rfl := Option.some.inj H
    go_enter Try.func20, Try.ntmps20
    try go_wp2_with (first | ((with_reducible refine gate_dst (N := 1) rfl ?_); refine box_event ?hg (N := 1) ?hd (cs := #[.int .i64 0, .int .i64 0, .int .i64 0, .int .i64 0]) (t := 29) ?hr ?_; (case hd => rfl); (case hg => rfl); (case hr => first | (go_simp; done) | (go_simp; rfl)); intro gb105 hg w22 hbox hb; have n0_ := Aside0.mk (below_step (by repeat (first | (with_reducible first | exact HB.out | apply below_alloc | apply pw_below_drewN | apply below_drew1) | exact HB.out)) hb); have n1_ := Aside0.mk (hbox); have n2_ := Aside0.mk ((by rw [hg]; exact (below_size (by repeat (first | (with_reducible first | exact HB.out | apply below_alloc | apply pw_below_drewN | apply below_drew1) | exact HB.out))) : w.heap.size ≤ gb105)); have n3_ := Aside0.mk ((by rw [hg]; exact (below_size (by repeat (first | (with_reducible first | exact HB.out | apply below_alloc | apply pw_below_drewN | apply below_drew1) | exact HB.out))) : w.heap.size ≤ gb105)); clear HB; have HB := n0_; have BK105 := n1_; have GW105 := n2_; have GE105 := n3_; clear n0_ n1_ n2_ n3_; clear hb hbox hg; have hcz23_0 : w22.cell? ⟨gb105, 0, none⟩ = some (.int .i64 0) := (blk_cell BK105.out 0).trans rfl; have hcz23_1 : w22.cell? ⟨gb105, 1, none⟩ = some (.int .i64 0) := (blk_cell BK105.out 1).trans rfl; have hcz23_2 : w22.cell? ⟨gb105, 2, none⟩ = some (.int .i64 0) := (blk_cell BK105.out 2).trans rfl; have hcz23_3 : w22.cell? ⟨gb105, 3, none⟩ = some (.int .i64 0) := (blk_cell BK105.out 3).trans rfl; have hfz23_0 := blk_frozen BK105.out 0; have hfz23_1 := blk_frozen BK105.out 1; have hfz23_2 := blk_frozen BK105.out 2; have hfz23_3 := blk_frozen BK105.out 3))
    have n0_ : Aside0 (((((w22.setCell ⟨gb105, 0, none⟩ (.int .i64 2)).setCell ⟨gb105, 1, none⟩ (.int .i64 2147483648)).setCell ⟨gb105, 2, none⟩ (.int .i64 2147483648)).setCell ⟨gb105, 3, none⟩ (.int .i64 2147483648)).heap[gb105]? = some (.cells #[.int .i64 2, .int .i64 2147483648, .int .i64 2147483648, .int .i64 2147483648] 29 (0, 0))) := ⟨by (with_reducible repeat (first | refine blk_drewN ?_ _ | refine blk_drew ?_ | refine blk_alloc ?_ _)); refine blk_put (cs := #[.int .i64 2, .int .i64 2147483648, .int .i64 2147483648, .int .i64 0]) ?_ 3 _ rfl; (with_reducible repeat (first | refine blk_drewN ?_ _ | refine blk_drew ?_ | refine blk_alloc ?_ _)); refine blk_put (cs := #[.int .i64 2, .int .i64 2147483648, .int .i64 0, .int .i64 0]) ?_ 2 _ rfl; (with_reducible repeat (first | refine blk_drewN ?_ _ | refine blk_drew ?_ | refine blk_alloc ?_ _)); refine blk_put (cs := #[.int .i64 2, .int .i64 0, .int .i64 0, .int .i64 0]) ?_ 1 _ rfl; (with_reducible repeat (first | refine blk_drewN ?_ _ | refine blk_drew ?_ | refine blk_alloc ?_ _)); refine blk_put (cs := #[.int .i64 0, .int .i64 0, .int .i64 0, .int .i64 0]) ?_ 0 _ rfl; (with_reducible repeat (first | refine blk_drewN ?_ _ | refine blk_drew ?_ | refine blk_alloc ?_ _)); exact BK105.out⟩
    have n1_ : Aside0 (Below w.heap.size w ((((w22.setCell ⟨gb105, 0, none⟩ (.int .i64 2)).setCell ⟨gb105, 1, none⟩ (.int .i64 2147483648)).setCell ⟨gb105, 2, none⟩ (.int .i64 2147483648)).setCell ⟨gb105, 3, none⟩ (.int .i64 2147483648))) := ⟨by repeat (first | (with_reducible first | exact HB.out | apply below_alloc | apply pw_below_drewN | apply below_drew1 | refine below_set ?_ GE105.out) | exact HB.out)⟩
    (try clear BK105)
    (try clear HB)
    generalize ((((w22.setCell ⟨gb105, 0, none⟩ (.int .i64 2)).setCell ⟨gb105, 1, none⟩ (.int .i64 2147483648)).setCell ⟨gb105, 2, none⟩ (.int .i64 2147483648)).setCell ⟨gb105, 3, none⟩ (.int .i64 2147483648)) = w24 at n0_ n1_ ⊢
    have BK105 := n0_
    have HB := n1_
    clear n0_ n1_
    have n0_ := Aside0.mk (blk_drew BK105.out)
    have n1_ := Aside0.mk (below_drew1 HB.out)
    clear BK105
    clear HB
    have BK105 := n0_
    have HB := n1_
    clear n0_ n1_
    refine start_ (n := 8) (S := fun w' => w'.cell? ⟨gb105, 0, none⟩ = some (.int .i64 2) ∧ w'.cell? ⟨gb105, 1, none⟩ = some (.int .i64 2147483648) ∧ w'.cell? ⟨gb105, 2, none⟩ = some (.int .i64 2147483648) ∧ w'.cell? ⟨gb105, 3, none⟩ = some (.int .i64 2147483648)) (ds := []) #[false, false, false, false, false, false, false, false] (by kernel_rfl) rfl rfl ⟨(blk_cell BK105.out 0).trans rfl, (blk_cell BK105.out 1).trans rfl, (blk_cell BK105.out 2).trans rfl, (blk_cell BK105.out 3).trans rfl⟩ (fun hHeld => ?_); refine with_tabW lysimeterlaw23_alive.tab2 lysimeterlaw23_alive.bits2 (fun HT_ HW_ => ?_)
    generalize w24.drew = w25 at BK105 HB hHeld ⊢
    refine take_ (i := 1) (N := some 8) (v := ?_) (a' := ?_) #[false, true, false, false, false, false, false, false] rfl rfl (take_ofW HT_.out HW_.out (by kernel_rfl)) (fun _ _ _ h => h) (Or.inl ⟨by rfl, ?_⟩) hHeld ?_ ?_
    rotate_left
    · rintro w' ⟨s0, s1, s2, s3⟩
      go_simp
      with_reducible rfl
    rotate_left
    · simp only [Act.put, List.setIfInBounds_toArray, List.set_cons_zero, List.set_cons_succ, i64_w, i32_w]
      rfl
    refine one_ (i := 0) (N := some 7) #[true, true, false, false, false, false, false, false] rfl rfl (one_of HT_.out (by kernel_rfl)) (by decide) (fun K hK => ?_)
    refine goes_ Try.func62 (by kernel_rfl) rfl #[.int .i64 10, .int .i64 2, .int .i64 40] (by rfl) rfl rfl (by (try simp only [List.map_toArray, List.map_cons, List.map_nil]); first | done | rfl | (simp only [List.length_drop, List.length_take]; rfl)) ?_
    with_reducible refine (lysimeterlaw23_Line.calls k 10 2 40 t106 _ A1.out).mono ?_
    rintro e w26 ⟨v107, rfl, ho0, hb⟩
    refine ⟨_, rfl, ?_⟩
    have n0_ := Aside0.mk (Kd.R_lower ho0 (below_size (by repeat (first | (with_reducible first | exact HB.out | apply below_alloc | apply pw_below_drewN | apply below_drew1 | refine below_set ?_ GE105.out) | exact HB.out))))
    have n1_ := Aside0.mk (blk_below (g := gb105) (o := .cells #[.int .i64 2, .int .i64 2147483648, .int .i64 2147483648, .int .i64 2147483648] 29 (0, 0)) (by (with_reducible repeat (first | refine blk_drewN ?_ _ | refine blk_drew ?_ | refine blk_alloc ?_ _)); exact BK105.out) hb)
    have n2_ := Aside0.mk (below_step (by repeat (first | (with_reducible first | exact HB.out | apply below_alloc | apply pw_below_drewN | apply below_drew1 | refine below_set ?_ GE105.out) | exact HB.out)) hb)
    clear BK105
    clear HB
    have HO108 := n0_
    have BK105 := n1_
    have HB := n2_
    clear n0_ n1_ n2_
    (try clear hb)
    (try clear hb2)
    (try clear hk)
    (try clear hi)
    (try clear ho0)
    obtain ⟨Ao27, co27, eo27⟩ := Kd.R_slice HO108.out
    (first | subst eo27 | (injection eo27 with f1_ f2_ f3_; have f4_ := f1_.symm; have f5_ := f3_.symm; clear f1_ f2_ f3_; subst f4_; subst f5_))
    refine hK.out _ _ ⟨(blk_cell BK105.out 0).trans rfl, (blk_cell BK105.out 1).trans rfl, (blk_cell BK105.out 2).trans rfl, (blk_cell BK105.out 3).trans rfl⟩ (fun hHeld => ?_)
    clear hK K
    refine norm_ (a' := ?_) ?_ ?_
    rotate_left
    · show Act.put _ (some 7) _ = _
      simp only [Act.put, List.setIfInBounds_toArray, List.set_cons_zero, List.set_cons_succ, i64_w, i32_w]
      rfl
    refine one_ (i := 2) (N := some 9) #[true, true, true, false, false, false, false, false] rfl rfl (one_of HT_.out (by kernel_rfl)) (by decide) (fun K hK => ?_)
    refine goes_ Try.func22 (by kernel_rfl) rfl #[.slice Ao27 t106.length co27, .agg #[.int .i64 2, .int .i64 2147483648, .int .i64 2147483648, .int .i64 2147483648], .int .i64 1] (by rfl) rfl rfl (by (try simp only [List.map_toArray, List.map_cons, List.map_nil]); first | done | rfl | (simp only [List.length_drop, List.length_take]; rfl)) ?_
    with_reducible refine (holt_Cast.calls _ _ t106 2 2147483648 2147483648 2147483648 1 t109 t110 _ ?side1 ?side2 A2.out).mono ?_
    (case side1 => repeat (first | exact (Kd.R_reads' HO108.out).2.2 | (with_reducible refine Kd.C_alloc ?_ _) | (with_reducible refine Kd.C_drewN ?_ _) | (with_reducible refine Kd.C_drew ?_)))
    (case side2 => exact (Kd.R_reads' HO108.out).2.1)
    rintro e w28 ⟨rfl, hb⟩
    refine ⟨_, rfl, ?_⟩
    have n0_ := Aside0.mk (Kd.R_below (by (with_reducible repeat (first | apply Kd.R_alloc | apply Kd.R_drewN | apply Kd.R_drew)); exact HO108.out) hb)
    have n1_ := Aside0.mk (blk_below (g := gb105) (o := .cells #[.int .i64 2, .int .i64 2147483648, .int .i64 2147483648, .int .i64 2147483648] 29 (0, 0)) (by (with_reducible repeat (first | refine blk_drewN ?_ _ | refine blk_drew ?_ | refine blk_alloc ?_ _)); exact BK105.out) hb)
    have n2_ := Aside0.mk (below_step (by repeat (first | (with_reducible first | exact HB.out | apply below_alloc | apply pw_below_drewN | apply below_drew1 | refine below_set ?_ GE105.out) | exact HB.out)) hb)
    clear HO108
    clear BK105
    clear HB
    have HO108 := n0_
    have BK105 := n1_
    have HB := n2_
    clear n0_ n1_ n2_
    (try clear hb)
    (try clear hb2)
    (try clear hk)
    (try clear hi)
    refine hK.out _ _ ⟨(blk_cell BK105.out 0).trans rfl, (blk_cell BK105.out 1).trans rfl, (blk_cell BK105.out 2).trans rfl, (blk_cell BK105.out 3).trans rfl⟩ (fun hHeld => ?_)
    clear hK K
    refine norm_ (a' := ?_) ?_ ?_
    rotate_left
    · show Act.put _ (some 9) _ = _
      simp only [Act.put, List.setIfInBounds_toArray, List.set_cons_zero, List.set_cons_succ, i64_w, i32_w]
      rfl
    refine pure_ (i := 3) (N := some 6) (v := ?_) (a' := ?_) #[true, true, true, true, false, false, false, false] rfl rfl (any_of HT_.out (by kernel_rfl)) (fun _ _ _ h => h) (Or.inl ⟨by rfl, ?_⟩) ?_ ?_
    rotate_left
    · intro w'
      go_simp
      with_reducible rfl
    rotate_left
    · simp only [Act.put, List.setIfInBounds_toArray, List.set_cons_zero, List.set_cons_succ, i64_w, i32_w]
      rfl
    refine pure_ (i := 4) (N := some 10) (v := ?_) (a' := ?_) #[true, true, true, true, true, false, false, false] rfl rfl (any_of HT_.out (by kernel_rfl)) (fun _ _ _ h => h) (Or.inl ⟨by rfl, ?_⟩) ?_ ?_
    rotate_left
    · intro w'
      go_simp
      with_reducible rfl
    rotate_left
    · simp only [Act.put, List.setIfInBounds_toArray, List.set_cons_zero, List.set_cons_succ, i64_w, i32_w]
      rfl
    refine pure_ (i := 5) (N := some 11) (v := ?_) (a' := ?_) #[true, true, true, true, true, true, false, false] rfl rfl (any_of HT_.out (by kernel_rfl)) (fun _ _ _ h => h) (Or.inl ⟨by rfl, ?_⟩) ?_ ?_
    rotate_left
    · intro w'
      go_simp
      with_reducible rfl
    rotate_left
    · simp only [Act.put, List.setIfInBounds_toArray, List.set_cons_zero, List.set_cons_succ, i64_w, i32_w]
      rfl
    refine pure_ (i := 6) (N := some 2) (v := ?_) (a' := ?_) #[true, true, true, true, true, true, true, false] rfl rfl (any_of HT_.out (by kernel_rfl)) (fun _ _ _ h => h) (Or.inl ⟨by rfl, ?_⟩) ?_ ?_
    rotate_left
    · intro w'
      go_simp
      with_reducible rfl
    rotate_left
    · simp only [Act.put, List.setIfInBounds_toArray, List.set_cons_zero, List.set_cons_succ, i64_w, i32_w]
      rfl
    refine pure_ (i := 7) (N := some 3) (v := ?_) (a' := ?_) #[true, true, true, true, true, true, true, true] rfl rfl (any_of HT_.out (by kernel_rfl)) (fun _ _ _ h => h) (Or.inl ⟨by rfl, ?_⟩) ?_ ?_
    rotate_left
    · intro w'
      go_simp
      with_reducible rfl
    rotate_left
    · simp only [Act.put, List.setIfInBounds_toArray, List.set_cons_zero, List.set_cons_succ, i64_w, i32_w]
      rfl
    refine done_ (done_of HT_.out (by kernel_rfl)) ?_
    try go_wp2_with (first | ((with_reducible refine gate_callee (f := 21) rfl ?_); refine goesL_ (some 13) rfl rfl Try.func21 (by kernel_rfl) rfl #[.int .i64 90] rfl (by (try simp only [List.map_toArray, List.map_cons, List.map_nil]); first | done | rfl | (simp only [List.length_drop, List.length_take]; rfl)) ?_; (with_reducible refine (lysimeterref1_Of.calls 90 t111 _ A3.out).mono ?_); rintro e w' ⟨rfl, ⟨nd, rfl⟩⟩; refine ⟨_, rfl, ?_⟩) | ((with_reducible refine gate_callee (f := 63) rfl ?_); refine goesL_ (some 14) rfl rfl Try.func63 (by kernel_rfl) rfl #[.int .i64 t109, .int .i64 t111] rfl (by (try simp only [List.map_toArray, List.map_cons, List.map_nil]); first | done | rfl | (simp only [List.length_drop, List.length_take]; rfl)) ?_; (with_reducible refine (lysimeterref1_Sub.calls t109 t111 t112 _ A4.out).mono ?_); rintro e w' ⟨rfl, ⟨nd, rfl⟩⟩; refine ⟨_, rfl, ?_⟩) | ((with_reducible refine gate_callee (f := 23) rfl ?_); refine goesL_ (some 16) rfl rfl Try.func23 (by kernel_rfl) rfl #[.int .i64 t110] rfl (by (try simp only [List.map_toArray, List.map_cons, List.map_nil]); first | done | rfl | (simp only [List.length_drop, List.length_take]; rfl)) ?_; (with_reducible refine (lysimeterlaw23_num.calls t110 t113 _ A5.out).mono ?_); rintro e w' ⟨rfl, ⟨nd, rfl⟩⟩; refine ⟨_, rfl, ?_⟩))
    go_ret
    exact ⟨by first | rfl | (simp [errW_none, errW_some] <;> rfl) | (simp [*, errW_none, errW_some] <;> rfl), by repeat (first | (with_reducible first | exact HB.out | apply below_alloc | apply pw_below_drewN | apply below_drew1 | refine below_set ?_ GE105.out) | exact HB.out)⟩
end Go.Proofs.Ytemnfnbjapobcaa.Hs
end
section
namespace Go.Proofs.Ytemnfnbjapobcaa.Hs
open Go.RowKit Go.Proofs.YtemnfnbjapobcaaW.PrintWords Go.Proofs.YtemnfnbjapobcaaW.PrintLast Go.Proofs.YtemnfnbjapobcaaW.PrintMore
attribute [local go_sem] max2_int min2_int max_two min_two max_three min_three max_four min_four   -- for this text's walks alone
set_option linter.unusedVariables false
set_option linter.unusedSimpArgs false
def lysimeterlaw6_SameInts.l0 : Nat → List Int → List Int → Int → Option (Bool)
  | 0, _, _, _ => none
  | k + 1, x0, x1, x5 => if x5 < (x0.length : Int) then (if 0 ≤ x5 then (if x5 < (x1.length : Int) then (if (rd x0 x5) = (rd x1 x5) then (lysimeterlaw6_SameInts.l0 k x0 x1 (wrap64 (x5 + 1))) else (some false)) else (none)) else (none)) else (some true)
def lysimeterlaw6_SameInts.f (k : Nat) (l0 : List Int) (l1 : List Int) : Option (Bool) := if (l0.length : Int) = (l1.length : Int) then (lysimeterlaw6_SameInts.l0 k l0 l1 0) else (some false)
set_option maxHeartbeats 8000000 in
set_option maxRecDepth 100000 in
theorem lysimeterlaw6_SameInts.calls (k : Nat) (A0 : Option Addr) (c0 : Nat) (l0 : List Int) (A1 : Option Addr) (c1 : Nat) (l1 : List Int) (r : Bool) (w : World) (hr0 : Kd.C (Kd.int .i64) w A0 l0.length l0) (hc0 : l0.length ≤ c0) (hr1 : Kd.C (Kd.int .i64) w A1 l1.length l1) (hc1 : l1.length ≤ c1) (h : lysimeterlaw6_SameInts.f k l0 l1 = some r) :
    Calls Try.prog 27 #[.slice A0 l0.length c0, .slice A1 l1.length c1] w fun e w' => e = .returned (.bool r) ∧ Drawn0 w w' := by
  have HR0 := Aside0.mk hr0
  have HC0 := Aside0.mk hc0
  clear hr0 hc0
  have HR1 := Aside0.mk hr1
  have HC1 := Aside0.mk hc1
  clear hr1 hc1
  have H : (if (l0.length : Int) = (l1.length : Int) then (lysimeterlaw6_SameInts.l0 k l0 l1 0) else (some false)) = some r := h
  clear h
  by_cases c3 : (l0.length : Int) = (l1.length : Int)
  · rw [if_pos c3] at H
    have c3b0 : ((l0.length : Int) == (l1.length : Int)) = true := beq_iff_eq.mpr c3
    have c3b1 : ((l0.length : Int) != (l1.length : Int)) = false := bne_eq_false_iff_eq.mpr c3
    have c3b2 : (l0.length == l1.length) = true := by first | simpa using c3 | (simp at c3 ⊢; omega)
    clear c3
    have H' := Aside0.mk H
    clear H
    go_enter Try.func27, Try.ntmps27
    go_wp2
    repeat (go_quiet (fail); try go_wp2)
    go_loopg [5] k (fun kq v5 w' => ∃ (x5_1 : Int), v5 = .int .i64 x5_1 ∧ Aside0 (lysimeterlaw6_SameInts.l0 kq l0 l1 x5_1 = some r) ∧ Aside0 (kq ≤ k) ∧ Drawn0 w w')
    case atStart => exact ⟨(0), (by first | rfl | (simp; done) | (simp [*]; done)), H', ⟨Nat.le_refl _⟩, by repeat (first | exact Drawn0.refl _ | apply Drawn0.step)⟩
    case round =>
      clear H'
      try clear c1
      try clear c2
      try clear p2
      try clear c3
      try clear c3b0
      try clear c3b1
      try clear c3b2
      obtain ⟨x5_1, rfl, HA, HK1, ⟨m1, rfl⟩⟩ := hrel
      cases gk with
      | zero => exact absurd HA.out (by simp [lysimeterlaw6_SameInts.l0])
      | succ k1 =>
        have H := HA.out
        clear HA
        simp only [lysimeterlaw6_SameInts.l0] at H
        by_cases c4 : x5_1 < (l0.length : Int)
        · rw [if_pos c4] at H
          have c4b0 : decide (x5_1 < (l0.length : Int)) = true := decide_eq_true c4
          clear c4
          by_cases c5 : 0 ≤ x5_1
          · rw [if_pos c5] at H
            have c5b0 : decide (0 ≤ x5_1) = true := decide_eq_true c5
            clear c5
            by_cases c6 : x5_1 < (l1.length : Int)
            · rw [if_pos c6] at H
              have c6b0 : decide (x5_1 < (l1.length : Int)) = true := decide_eq_true c6
              clear c6
              by_cases c7 : (rd l0 x5_1) = (rd l1 x5_1)
              · rw [if_pos c7] at H
                have c7b0 : ((rd l0 x5_1) == (rd l1 x5_1)) = true := beq_iff_eq.mpr c7
                have c7b1 : ((rd l0 x5_1) != (rd l1 x5_1)) = false := bne_eq_false_iff_eq.mpr c7
                clear c7
                have H' := Aside0.mk H
                clear H
                have p114 : 0 ≤ (x5_1 : Int) := of_decide_eq_true (by first | (with_reducible assumption) | assumption)
                have q114 : x5_1 < (l0.length : Int) := of_decide_eq_true (by first | (with_reducible assumption) | assumption)
                obtain ⟨ad114, e114, hx114_0⟩ := Kd.at_int HR0.out x5_1 p114 q114
                cases e114
                replace p114 := eq_true p114
                replace q114 := eq_true q114
                have p115 : 0 ≤ (x5_1 : Int) := of_decide_eq_true (by first | (with_reducible assumption) | assumption)
                have q115 : x5_1 < (l1.length : Int) := of_decide_eq_true (by first | (with_reducible assumption) | assumption)
                obtain ⟨ad115, e115, hx115_0⟩ := Kd.at_int HR1.out x5_1 p115 q115
                cases e115
                replace p115 := eq_true p115
                replace q115 := eq_true q115
                go_wp2
                repeat (go_quiet (fail); try go_wp2)
                go_roundg k1
                case measure => have := HK1.out; omega
                case rel => exact ⟨(wrap64 (x5_1 + 1)), (by first | rfl | (simp; done) | (simp [*]; done)), H', ⟨by have := HK1.out; omega⟩, by repeat (first | exact Drawn0.refl _ | apply Drawn0.step)⟩
              · rw [if_neg c7] at H
                have c7b0 : ((rd l0 x5_1) == (rd l1 x5_1)) = false := beq_eq_false_iff_ne.mpr c7
                have c7b1 : ((rd l0 x5_1) != (rd l1 x5_1)) = true := bne_iff_ne.mpr c7
                obtain rfl := Option.some.inj H
                have p114 : 0 ≤ (x5_1 : Int) := of_decide_eq_true (by first | (with_reducible assumption) | assumption)
                have q114 : x5_1 < (l0.length : Int) := of_decide_eq_true (by first | (with_reducible assumption) | assumption)
                obtain ⟨ad114, e114, hx114_0⟩ := Kd.at_int HR0.out x5_1 p114 q114
                cases e114
                replace p114 := eq_true p114
                replace q114 := eq_true q114
                have p115 : 0 ≤ (x5_1 : Int) := of_decide_eq_true (by first | (with_reducible assumption) | assumption)
                have q115 : x5_1 < (l1.length : Int) := of_decide_eq_true (by first | (with_reducible assumption) | assumption)
                obtain ⟨ad115, e115, hx115_0⟩ := Kd.at_int HR1.out x5_1 p115 q115
                cases e115
                replace p115 := eq_true p115
                replace q115 := eq_true q115
                go_wp2
                repeat (go_quiet (fail); try go_wp2)
                go_ret
                exact ⟨by first | rfl | (simp; done) | (simp [*]; done), by repeat (first | exact Drawn0.refl _ | apply Drawn0.step)⟩
            · rw [if_neg c6] at H
              exact absurd H (by simp)
          · rw [if_neg c5] at H
            exact absurd H (by simp)
        · rw [if_neg c4] at H
          have c4b0 : decide (x5_1 < (l0.length : Int)) = false := decide_eq_false c4
          clear c4
          obtain rfl := Option.some.inj H
          go_wp2
          repeat (go_quiet (fail); try go_wp2)
          go_ret
          exact ⟨by first | rfl | (simp; done) | (simp [*]; done), by repeat (first | exact Drawn0.refl _ | apply Drawn0.step)⟩
  · rw [if_neg c3] at H
    have c3b0 : ((l0.length : Int) == (l1.length : Int)) = false := beq_eq_false_iff_ne.mpr c3
    have c3b1 : ((l0.length : Int) != (l1.length : Int)) = true := bne_iff_ne.mpr c3
    have c3b2 : (l0.length == l1.length) = false := by first | simpa using c3 | (simp at c3 ⊢; omega)
    obtain rfl := Option.some.inj H
    go_enter Try.func27, Try.ntmps27
    go_wp2
    repeat (go_quiet (fail); try go_wp2)
    go_ret
    exact ⟨by first | rfl | (simp; done) | (simp [*]; done), by repeat (first | exact Drawn0.refl _ | apply Drawn0.step)⟩
theorem same_ints (l : List Int) (h : l.length ≤ 1000000000000) : ∀ (d i : Nat), i + d = l.length → lysimeterlaw6_SameInts.l0 (d + 1) l l (i : Int) = some true
  | 0, i, e => by
    rw [lysimeterlaw6_SameInts.l0, if_neg (by omega)]
  | d + 1, i, e => by
    rw [lysimeterlaw6_SameInts.l0, if_pos (by omega), if_pos (by omega), if_pos (by omega), if_pos rfl]
    have e2 : wrap64 ((i : Int) + 1) = ((i + 1 : Nat) : Int) := by rw [FM.wrap64_id (by omega) (by omega)]; rfl
    rw [e2]
    exact same_ints l h d (i + 1) (by omega)
theorem alike : Ho.Alike := fun W A0 c0 A1 c1 l h0 k0 h1 k1 hl => lysimeterlaw6_SameInts.calls (l.length + 1) A0 c0 l A1 c1 l true W h0 k0 h1 k1 (by unfold lysimeterlaw6_SameInts.f; rw [if_pos rfl]; exact same_ints l hl l.length 0 (by omega))
theorem alive_true : lysimeterlaw23_alive.f (50 + 1) = some true := by decide +kernel
theorem lives : Ho.Alive := fun W => lysimeterlaw23_alive.calls (50 + 1) true W alive_true
def lysimeterlaw23_HoltSame.f (k : Nat) (l0 : List Int) (a1_0 a1_1 a1_2 a1_3 : Int) (a2 : Int) : Option (Bool) := if HS.allInB l0 && HS.InB a1_0 && HS.InB a2 then some true else none
theorem lysimeterlaw23_HoltSame.calls (k : Nat) (A0 : Option Addr) (c0 : Nat) (l0 : List Int) (a1_0 a1_1 a1_2 a1_3 : Int) (a2 : Int) (r : Bool) (w : World) (hr0 : Kd.C (Kd.int .i64) w A0 l0.length l0) (hc0 : l0.length ≤ c0) (h : lysimeterlaw23_HoltSame.f k l0 a1_0 a1_1 a1_2 a1_3 a2 = some r) :
    Calls Try.prog 5 #[.slice A0 l0.length c0, .agg #[.int .i64 a1_0, .int .i64 a1_1, .int .i64 a1_2, .int .i64 a1_3], .int .i64 a2] w fun e w' => e = .returned (.bool r) ∧ Below w.heap.size w w' := by
  unfold lysimeterlaw23_HoltSame.f at h
  by_cases c : (HS.allInB l0 && HS.InB a1_0 && HS.InB a2) = true
  · rw [if_pos c] at h
    obtain rfl := Option.some.inj h
    simp only [Bool.and_eq_true, HS.allInB_iff, HS.inB_iff] at c
    exact Ho.same_calls ⟨lives⟩ ⟨alike⟩ A0 c0 l0 ⟨a1_0, a1_1, a1_2, a1_3⟩ a2 w hr0 hc0 c.1.1 c.1.2 c.2
  · rw [if_neg c] at h; cases h
def lysimeterlaw23_HoltSame.Pure : Prop := ∀ (l0 : List Int) (a1_0 : Int) (a1_1 : Int) (a1_2 : Int) (a1_3 : Int) (a2 : Int), l0.length ≤ maxLen → l0.length * 8 ≤ 140737488351232 → (∀ x ∈ l0, (Lit.int .i64 x).wf = true) → (Lit.int .i64 a1_0).wf = true → (Lit.int .i64 a1_1).wf = true → (Lit.int .i64 a1_2).wf = true → (Lit.int .i64 a1_3).wf = true → (Lit.int .i64 a2).wf = true → ∃ k, lysimeterlaw23_HoltSame.f k l0 a1_0 a1_1 a1_2 a1_3 a2 = some true
end Go.Proofs.Ytemnfnbjapobcaa.Hs
end
section
namespace Go.Proofs.Ytemnfnbjapobcaa.Pure
open Go.RowKit Go.Proofs.Ytemnfnbjapobcaa.Hs Go.Proofs.YtemnfnbjapobcaaW.PrintWords Go.Proofs.YtemnfnbjapobcaaW.PrintLast
open Go.Proofs.Ytemnfnbjapobcaa.HS
theorem HoltSame : lysimeterlaw23_HoltSame.Pure := by
  intro l0 n a b c k _ _ hl w0 w1 w2 w3 w4
  refine ⟨0, ?_⟩
  unfold lysimeterlaw23_HoltSame.f
  rw [if_pos]
  simp only [Bool.and_eq_true, allInB_iff, inB_iff]
  exact ⟨⟨fun x hx => FM.i64_of_wf (hl x hx), FM.i64_of_wf w0⟩, FM.i64_of_wf w4⟩
end Go.Proofs.Ytemnfnbjapobcaa.Pure
end
