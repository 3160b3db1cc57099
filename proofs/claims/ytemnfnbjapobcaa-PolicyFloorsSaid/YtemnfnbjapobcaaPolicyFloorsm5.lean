-- Laid together by wip/shake.py out of: Fixx8 Fixx9 FixSpec FixDiv
import Derived.Test.YtemnfnbjapobcaaPolicyFloorsm4
section
namespace Go.Proofs.Ytemnfnbjapobcaa.Fix
open Go.RowKit Go.Proofs.YtemnfnbjapobcaaW.PrintWords Go.Proofs.YtemnfnbjapobcaaW.PrintLast Go.Proofs.YtemnfnbjapobcaaW.PrintMore
attribute [local go_sem] max2_int min2_int max_two min_two max_three min_three max_four min_four   -- for this text's walks alone
set_option linter.unusedVariables false
set_option linter.unusedSimpArgs false
mutual
def lysimeterref1_over.l0 : Nat → Int → Int → Int → Int → Int → Int → Int → Int → Option (Int × Int × Bool)
  | 0, _, _, _, _, _, _, _, _ => none
  | k + 1, x1, x9, x271000, x271001, x272000, x272001, x273000, x273001 => if x9 ≥ 0 then (if 0 ≤ (IntKind.u64.wrap (Go.bits .and .i64 x9 63)) then (if x9 > 63 then (if 0 ≤ (IntKind.u64.wrap (wrap64 (x9 - 64))) then (lysimeterref1_over.j1 k x1 x9 (Go.bits .and .u64 (shr .u64 x271000 (IntKind.u64.wrap (wrap64 (x9 - 64)))) 1) x271000 x271001 x272000 x272001 (Go.bits .or .u64 (IntKind.u64.wrap (x273000 * 2)) (x273001 / 9223372036854775808)) (IntKind.u64.wrap (x273001 * 2))) else (none)) else (lysimeterref1_over.j1 k x1 x9 (Go.bits .and .u64 (shr .u64 x271001 (IntKind.u64.wrap (Go.bits .and .i64 x9 63))) 1) x271000 x271001 x272000 x272001 (Go.bits .or .u64 (IntKind.u64.wrap (x273000 * 2)) (x273001 / 9223372036854775808)) (IntKind.u64.wrap (x273001 * 2)))) else (none)) else (some (x272000, x272001, (x273001 != 0)))
def lysimeterref1_over.j1 : Nat → Int → Int → Int → Int → Int → Int → Int → Int → Int → Option (Int × Int × Bool)
  | 0, _, _, _, _, _, _, _, _, _ => none
  | k + 1, x1, x9, x10, x271000, x271001, x272000, x272001, x273000, x273001 => if x273000 > 0 then (lysimeterref1_over.l0 k x1 (wrap64 (x9 - 1)) x271000 x271001 (Go.bits .or .u64 (IntKind.u64.wrap (x272000 * 2)) (x272001 / 9223372036854775808)) (Go.bits .or .u64 (IntKind.u64.wrap (x272001 * 2)) 1) 0 (IntKind.u64.wrap ((Go.bits .or .u64 x273001 x10) - x1))) else (if (Go.bits .or .u64 x273001 x10) ≥ x1 then (lysimeterref1_over.l0 k x1 (wrap64 (x9 - 1)) x271000 x271001 (Go.bits .or .u64 (IntKind.u64.wrap (x272000 * 2)) (x272001 / 9223372036854775808)) (Go.bits .or .u64 (IntKind.u64.wrap (x272001 * 2)) 1) 0 (IntKind.u64.wrap ((Go.bits .or .u64 x273001 x10) - x1))) else (lysimeterref1_over.l0 k x1 (wrap64 (x9 - 1)) x271000 x271001 (Go.bits .or .u64 (IntKind.u64.wrap (x272000 * 2)) (x272001 / 9223372036854775808)) (IntKind.u64.wrap (x272001 * 2)) x273000 (Go.bits .or .u64 x273001 x10)))
end
def lysimeterref1_over.f (k : Nat) (a0 : Int) (a1 : Int) : Option (Int × Int × Bool) := lysimeterref1_over.l0 k a1 127 (a0 / 4294967296) (IntKind.u64.wrap (a0 * 4294967296)) 0 0 0 0
set_option maxHeartbeats 8000000 in
set_option maxRecDepth 100000 in
theorem lysimeterref1_over.calls (k : Nat) (a0 : Int) (a1 : Int) (r1 : Int) (r2 : Int) (r3 : Bool) (w : World) (h : lysimeterref1_over.f k a0 a1 = some (r1, r2, r3)) :
    Calls Try.prog 105 #[.int .u64 a0, .int .u64 a1] w fun e w' => e = .returned (.tuple #[.agg #[.int .u64 r1, .int .u64 r2], .bool r3]) ∧ Below w.heap.size w w' := by
  have hu136 := Try.underlying136
  have HB := Aside0.mk (Below.refl w.heap.size w)
  have H : (lysimeterref1_over.l0 k a1 127 (a0 / 4294967296) (IntKind.u64.wrap (a0 * 4294967296)) 0 0 0 0) = some (r1, r2, r3) := h
  clear h
  have H' := Aside0.mk H
  clear H
  go_enter Try.func105, Try.ntmps105
  go_wp2_with (first | ((with_reducible refine gate_dst (N := 4) rfl ?_); refine box_event ?hg (N := 4) ?hd (cs := #[.int .u64 0, .int .u64 0]) (t := 136) ?hr ?_; (case hd => rfl); (case hg => rfl); (case hr => first | (go_simp; done) | (go_simp; rfl)); intro gb269 hg w3 hbox hb; have n0_ := Aside0.mk (below_step (by repeat (first | (with_reducible first | exact HB.out | apply below_alloc | apply pw_below_drewN | apply below_drew1) | exact HB.out)) hb); have n1_ := Aside0.mk (hbox); have n2_ := Aside0.mk ((by rw [hg]; exact (below_size (by repeat (first | (with_reducible first | exact HB.out | apply below_alloc | apply pw_below_drewN | apply below_drew1) | exact HB.out))) : w.heap.size ≤ gb269)); have n3_ := Aside0.mk ((by rw [hg]; exact (below_size (by repeat (first | (with_reducible first | exact HB.out | apply below_alloc | apply pw_below_drewN | apply below_drew1) | exact HB.out))) : w.heap.size ≤ gb269)); clear HB; have HB := n0_; have BK269 := n1_; have GW269 := n2_; have GE269 := n3_; clear n0_ n1_ n2_ n3_; clear hb hbox hg) | ((with_reducible refine gate_dst (N := 6) rfl ?_); refine box_event ?hg (N := 6) ?hd (cs := #[.int .u64 0, .int .u64 0]) (t := 136) ?hr ?_; (case hd => rfl); (case hg => rfl); (case hr => first | (go_simp; done) | (go_simp; rfl)); intro gb270 hg w4 hbox hb; have n0_ := Aside0.mk (blk_below (g := gb269) (o := .cells #[.int .u64 0, .int .u64 0] 136 (0, 0)) (by (with_reducible repeat (first | refine blk_drewN ?_ _ | refine blk_drew ?_ | refine blk_alloc ?_ _)); exact BK269.out) hb); have n1_ := Aside0.mk (below_step (by repeat (first | (with_reducible first | exact HB.out | apply below_alloc | apply pw_below_drewN | apply below_drew1 | refine below_set ?_ GE269.out) | exact HB.out)) hb); have n2_ := Aside0.mk (hbox); have n3_ := Aside0.mk ((by rw [hg]; exact (below_size (by repeat (first | (with_reducible first | exact HB.out | apply below_alloc | apply pw_below_drewN | apply below_drew1 | refine below_set ?_ GE269.out) | exact HB.out))) : w.heap.size ≤ gb270)); have n4_ := Aside0.mk ((by rw [hg]; exact (below_size (by repeat (first | (with_reducible first | exact HB.out | apply below_alloc | apply pw_below_drewN | apply below_drew1 | refine below_set ?_ GE269.out) | exact HB.out))) : w.heap.size ≤ gb270)); have n5_ := Aside0.mk ((by rw [hg]; exact Nat.ne_of_lt (blk_lt (g := gb269) (o := .cells #[.int .u64 0, .int .u64 0] 136 (0, 0)) (by (with_reducible repeat (first | refine blk_drewN ?_ _ | refine blk_drew ?_ | refine blk_alloc ?_ _)); exact BK269.out)) : gb269 ≠ gb270)); have n6_ := Aside0.mk ((by rw [hg]; exact Nat.ne_of_gt (blk_lt (g := gb269) (o := .cells #[.int .u64 0, .int .u64 0] 136 (0, 0)) (by (with_reducible repeat (first | refine blk_drewN ?_ _ | refine blk_drew ?_ | refine blk_alloc ?_ _)); exact BK269.out)) : gb270 ≠ gb269)); clear BK269; clear HB; have BK269 := n0_; have HB := n1_; have BK270 := n2_; have GW270 := n3_; have GE270 := n4_; have NB269_270 := n5_; have NB270_269 := n6_; clear n0_ n1_ n2_ n3_ n4_ n5_ n6_; clear hb hbox hg; have hnb5 := NB270_269.out; have hnc5 := NB269_270.out; have hcz6_0 : w4.cell? ⟨gb270, 0, none⟩ = some (.int .u64 0) := (blk_cell BK270.out 0).trans rfl; have hcz6_1 : w4.cell? ⟨gb270, 1, none⟩ = some (.int .u64 0) := (blk_cell BK270.out 1).trans rfl; have hfz6_0 := blk_frozen BK270.out 0; have hfz6_1 := blk_frozen BK270.out 1) | ((with_reducible refine gate_dst (N := 7) rfl ?_); refine box_event ?hg (N := 7) ?hd (cs := #[.int .u64 0, .int .u64 0]) (t := 136) ?hr ?_; (case hd => rfl); (case hg => rfl); (case hr => first | (go_simp; done) | (go_simp; rfl)); intro gb271 hg w7 hbox hb; have n0_ := Aside0.mk (blk_below (g := gb269) (o := .cells #[.int .u64 0, .int .u64 0] 136 (0, 0)) (by (with_reducible repeat (first | refine blk_drewN ?_ _ | refine blk_drew ?_ | refine blk_alloc ?_ _)); refine blk_far ?_ NB269_270.out _; (with_reducible repeat (first | refine blk_drewN ?_ _ | refine blk_drew ?_ | refine blk_alloc ?_ _)); refine blk_far ?_ NB269_270.out _; (with_reducible repeat (first | refine blk_drewN ?_ _ | refine blk_drew ?_ | refine blk_alloc ?_ _)); exact BK269.out) hb); have n1_ := Aside0.mk (blk_below (g := gb270) (o := .cells #[.int .u64 (a0 / 4294967296), .int .u64 (IntKind.u64.wrap (a0 * 4294967296))] 136 (0, 0)) (by (with_reducible repeat (first | refine blk_drewN ?_ _ | refine blk_drew ?_ | refine blk_alloc ?_ _)); refine blk_put (cs := #[.int .u64 (a0 / 4294967296), .int .u64 0]) ?_ 1 _ rfl; (with_reducible repeat (first | refine blk_drewN ?_ _ | refine blk_drew ?_ | refine blk_alloc ?_ _)); refine blk_put (cs := #[.int .u64 0, .int .u64 0]) ?_ 0 _ rfl; (with_reducible repeat (first | refine blk_drewN ?_ _ | refine blk_drew ?_ | refine blk_alloc ?_ _)); exact BK270.out) hb); have n2_ := Aside0.mk (below_step (by repeat (first | (with_reducible first | exact HB.out | apply below_alloc | apply pw_below_drewN | apply below_drew1 | refine below_set ?_ GE269.out | refine below_set ?_ GE270.out) | exact HB.out)) hb); have n3_ := Aside0.mk (hbox); have n4_ := Aside0.mk ((by rw [hg]; exact (below_size (by repeat (first | (with_reducible first | exact HB.out | apply below_alloc | apply pw_below_drewN | apply below_drew1 | refine below_set ?_ GE269.out | refine below_set ?_ GE270.out) | exact HB.out))) : w.heap.size ≤ gb271)); have n5_ := Aside0.mk ((by rw [hg]; exact (below_size (by repeat (first | (with_reducible first | exact HB.out | apply below_alloc | apply pw_below_drewN | apply below_drew1 | refine below_set ?_ GE269.out | refine below_set ?_ GE270.out) | exact HB.out))) : w.heap.size ≤ gb271)); have n6_ := Aside0.mk ((by rw [hg]; exact Nat.ne_of_lt (blk_lt (g := gb269) (o := .cells #[.int .u64 0, .int .u64 0] 136 (0, 0)) (by (with_reducible repeat (first | refine blk_drewN ?_ _ | refine blk_drew ?_ | refine blk_alloc ?_ _)); refine blk_far ?_ NB269_270.out _; (with_reducible repeat (first | refine blk_drewN ?_ _ | refine blk_drew ?_ | refine blk_alloc ?_ _)); refine blk_far ?_ NB269_270.out _; (with_reducible repeat (first | refine blk_drewN ?_ _ | refine blk_drew ?_ | refine blk_alloc ?_ _)); exact BK269.out)) : gb269 ≠ gb271)); have n7_ := Aside0.mk ((by rw [hg]; exact Nat.ne_of_gt (blk_lt (g := gb269) (o := .cells #[.int .u64 0, .int .u64 0] 136 (0, 0)) (by (with_reducible repeat (first | refine blk_drewN ?_ _ | refine blk_drew ?_ | refine blk_alloc ?_ _)); refine blk_far ?_ NB269_270.out _; (with_reducible repeat (first | refine blk_drewN ?_ _ | refine blk_drew ?_ | refine blk_alloc ?_ _)); refine blk_far ?_ NB269_270.out _; (with_reducible repeat (first | refine blk_drewN ?_ _ | refine blk_drew ?_ | refine blk_alloc ?_ _)); exact BK269.out)) : gb271 ≠ gb269)); have n8_ := Aside0.mk ((by rw [hg]; exact Nat.ne_of_lt (blk_lt (g := gb270) (o := .cells #[.int .u64 (a0 / 4294967296), .int .u64 (IntKind.u64.wrap (a0 * 4294967296))] 136 (0, 0)) (by (with_reducible repeat (first | refine blk_drewN ?_ _ | refine blk_drew ?_ | refine blk_alloc ?_ _)); refine blk_put (cs := #[.int .u64 (a0 / 4294967296), .int .u64 0]) ?_ 1 _ rfl; (with_reducible repeat (first | refine blk_drewN ?_ _ | refine blk_drew ?_ | refine blk_alloc ?_ _)); refine blk_put (cs := #[.int .u64 0, .int .u64 0]) ?_ 0 _ rfl; (with_reducible repeat (first | refine blk_drewN ?_ _ | refine blk_drew ?_ | refine blk_alloc ?_ _)); exact BK270.out)) : gb270 ≠ gb271)); have n9_ := Aside0.mk ((by rw [hg]; exact Nat.ne_of_gt (blk_lt (g := gb270) (o := .cells #[.int .u64 (a0 / 4294967296), .int .u64 (IntKind.u64.wrap (a0 * 4294967296))] 136 (0, 0)) (by (with_reducible repeat (first | refine blk_drewN ?_ _ | refine blk_drew ?_ | refine blk_alloc ?_ _)); refine blk_put (cs := #[.int .u64 (a0 / 4294967296), .int .u64 0]) ?_ 1 _ rfl; (with_reducible repeat (first | refine blk_drewN ?_ _ | refine blk_drew ?_ | refine blk_alloc ?_ _)); refine blk_put (cs := #[.int .u64 0, .int .u64 0]) ?_ 0 _ rfl; (with_reducible repeat (first | refine blk_drewN ?_ _ | refine blk_drew ?_ | refine blk_alloc ?_ _)); exact BK270.out)) : gb271 ≠ gb270)); clear BK269; clear BK270; clear HB; have BK269 := n0_; have BK270 := n1_; have HB := n2_; have BK271 := n3_; have GW271 := n4_; have GE271 := n5_; have NB269_271 := n6_; have NB271_269 := n7_; have NB270_271 := n8_; have NB271_270 := n9_; clear n0_ n1_ n2_ n3_ n4_ n5_ n6_ n7_ n8_ n9_; clear hb hbox hg) | ((with_reducible refine gate_dst (N := 8) rfl ?_); refine box_event ?hg (N := 8) ?hd (cs := #[.int .u64 0, .int .u64 0]) (t := 136) ?hr ?_; (case hd => rfl); (case hg => rfl); (case hr => first | (go_simp; done) | (go_simp; rfl)); intro gb272 hg w8 hbox hb; have n0_ := Aside0.mk (blk_below (g := gb269) (o := .cells #[.int .u64 0, .int .u64 0] 136 (0, 0)) (by (with_reducible repeat (first | refine blk_drewN ?_ _ | refine blk_drew ?_ | refine blk_alloc ?_ _)); exact BK269.out) hb); have n1_ := Aside0.mk (blk_below (g := gb270) (o := .cells #[.int .u64 (a0 / 4294967296), .int .u64 (IntKind.u64.wrap (a0 * 4294967296))] 136 (0, 0)) (by (with_reducible repeat (first | refine blk_drewN ?_ _ | refine blk_drew ?_ | refine blk_alloc ?_ _)); exact BK270.out) hb); have n2_ := Aside0.mk (blk_below (g := gb271) (o := .cells #[.int .u64 0, .int .u64 0] 136 (0, 0)) (by (with_reducible repeat (first | refine blk_drewN ?_ _ | refine blk_drew ?_ | refine blk_alloc ?_ _)); exact BK271.out) hb); have n3_ := Aside0.mk (below_step (by repeat (first | (with_reducible first | exact HB.out | apply below_alloc | apply pw_below_drewN | apply below_drew1 | refine below_set ?_ GE269.out | refine below_set ?_ GE270.out | refine below_set ?_ GE271.out) | exact HB.out)) hb); have n4_ := Aside0.mk (hbox); have n5_ := Aside0.mk ((by rw [hg]; exact (below_size (by repeat (first | (with_reducible first | exact HB.out | apply below_alloc | apply pw_below_drewN | apply below_drew1 | refine below_set ?_ GE269.out | refine below_set ?_ GE270.out | refine below_set ?_ GE271.out) | exact HB.out))) : w.heap.size ≤ gb272)); have n6_ := Aside0.mk ((by rw [hg]; exact (below_size (by repeat (first | (with_reducible first | exact HB.out | apply below_alloc | apply pw_below_drewN | apply below_drew1 | refine below_set ?_ GE269.out | refine below_set ?_ GE270.out | refine below_set ?_ GE271.out) | exact HB.out))) : w.heap.size ≤ gb272)); have n7_ := Aside0.mk ((by rw [hg]; exact Nat.ne_of_lt (blk_lt (g := gb269) (o := .cells #[.int .u64 0, .int .u64 0] 136 (0, 0)) (by (with_reducible repeat (first | refine blk_drewN ?_ _ | refine blk_drew ?_ | refine blk_alloc ?_ _)); exact BK269.out)) : gb269 ≠ gb272)); have n8_ := Aside0.mk ((by rw [hg]; exact Nat.ne_of_gt (blk_lt (g := gb269) (o := .cells #[.int .u64 0, .int .u64 0] 136 (0, 0)) (by (with_reducible repeat (first | refine blk_drewN ?_ _ | refine blk_drew ?_ | refine blk_alloc ?_ _)); exact BK269.out)) : gb272 ≠ gb269)); have n9_ := Aside0.mk ((by rw [hg]; exact Nat.ne_of_lt (blk_lt (g := gb270) (o := .cells #[.int .u64 (a0 / 4294967296), .int .u64 (IntKind.u64.wrap (a0 * 4294967296))] 136 (0, 0)) (by (with_reducible repeat (first | refine blk_drewN ?_ _ | refine blk_drew ?_ | refine blk_alloc ?_ _)); exact BK270.out)) : gb270 ≠ gb272)); have n10_ := Aside0.mk ((by rw [hg]; exact Nat.ne_of_gt (blk_lt (g := gb270) (o := .cells #[.int .u64 (a0 / 4294967296), .int .u64 (IntKind.u64.wrap (a0 * 4294967296))] 136 (0, 0)) (by (with_reducible repeat (first | refine blk_drewN ?_ _ | refine blk_drew ?_ | refine blk_alloc ?_ _)); exact BK270.out)) : gb272 ≠ gb270)); have n11_ := Aside0.mk ((by rw [hg]; exact Nat.ne_of_lt (blk_lt (g := gb271) (o := .cells #[.int .u64 0, .int .u64 0] 136 (0, 0)) (by (with_reducible repeat (first | refine blk_drewN ?_ _ | refine blk_drew ?_ | refine blk_alloc ?_ _)); exact BK271.out)) : gb271 ≠ gb272)); have n12_ := Aside0.mk ((by rw [hg]; exact Nat.ne_of_gt (blk_lt (g := gb271) (o := .cells #[.int .u64 0, .int .u64 0] 136 (0, 0)) (by (with_reducible repeat (first | refine blk_drewN ?_ _ | refine blk_drew ?_ | refine blk_alloc ?_ _)); exact BK271.out)) : gb272 ≠ gb271)); clear BK269; clear BK270; clear BK271; clear HB; have BK269 := n0_; have BK270 := n1_; have BK271 := n2_; have HB := n3_; have BK272 := n4_; have GW272 := n5_; have GE272 := n6_; have NB269_272 := n7_; have NB272_269 := n8_; have NB270_272 := n9_; have NB272_270 := n10_; have NB271_272 := n11_; have NB272_271 := n12_; clear n0_ n1_ n2_ n3_ n4_ n5_ n6_ n7_ n8_ n9_ n10_ n11_ n12_; clear hb hbox hg))
  go_loopg [9] k (fun kq v9 w' => ∃ (x9_1 : Int) (x272000_1 : Int) (x272001_1 : Int) (x273000_1 : Int) (x273001_1 : Int), v9 = .int .i64 x9_1 ∧ Aside0 (lysimeterref1_over.l0 kq a1 x9_1 (a0 / 4294967296) (IntKind.u64.wrap (a0 * 4294967296)) x272000_1 x272001_1 x273000_1 x273001_1 = some (r1, r2, r3)) ∧ Aside0 (kq ≤ k) ∧ Aside0 (w'.heap[gb269]? = some (.cells #[.int .u64 0, .int .u64 0] 136 (0, 0))) ∧ Aside0 (w'.heap[gb270]? = some (.cells #[.int .u64 (a0 / 4294967296), .int .u64 (IntKind.u64.wrap (a0 * 4294967296))] 136 (0, 0))) ∧ Aside0 (w'.heap[gb271]? = some (.cells #[.int .u64 x272000_1, .int .u64 x272001_1] 136 (0, 0))) ∧ Aside0 (w'.heap[gb272]? = some (.cells #[.int .u64 x273000_1, .int .u64 x273001_1] 136 (0, 0))) ∧ Aside0 (Below w.heap.size w w'))
  case atStart => exact ⟨(127), (0), (0), (0), (0), (by first | rfl | (simp; done) | (simp [*]; done)), H', ⟨Nat.le_refl _⟩, ⟨by (with_reducible repeat (first | refine blk_drewN ?_ _ | refine blk_drew ?_ | refine blk_alloc ?_ _)); exact BK269.out⟩, ⟨by (with_reducible repeat (first | refine blk_drewN ?_ _ | refine blk_drew ?_ | refine blk_alloc ?_ _)); exact BK270.out⟩, ⟨by (with_reducible repeat (first | refine blk_drewN ?_ _ | refine blk_drew ?_ | refine blk_alloc ?_ _)); exact BK271.out⟩, ⟨by (with_reducible repeat (first | refine blk_drewN ?_ _ | refine blk_drew ?_ | refine blk_alloc ?_ _)); exact BK272.out⟩, ⟨by repeat (first | (with_reducible first | exact HB.out | apply below_alloc | apply pw_below_drewN | apply below_drew1 | refine below_set ?_ GE269.out | refine below_set ?_ GE270.out | refine below_set ?_ GE271.out | refine below_set ?_ GE272.out) | exact HB.out)⟩⟩
  case round =>
    clear H'
    try clear c1
    try clear p2
    try clear c5
    try clear hcz6_0
    try clear hcz6_1
    try clear hfz6_0
    try clear hfz6_1
    obtain ⟨x9_1, x272000_1, x272001_1, x273000_1, x273001_1, rfl, HA, HK1, BK269, BK270, BK271, BK272, HB⟩ := hrel
    cases gk with
    | zero => exact absurd HA.out (by simp [lysimeterref1_over.l0])
    | succ k1 =>
      have H := HA.out
      clear HA
      simp only [lysimeterref1_over.l0] at H
      by_cases c9 : x9_1 ≥ 0
      · rw [if_pos c9] at H
        have c9b0 : decide (0 ≤ x9_1) = true := decide_eq_true c9
        clear c9
        obtain ⟨ji10, hji10⟩ : ∃ j_ : Int, (IntKind.u64.wrap (Go.bits .and .i64 x9_1 63)) = j_ := ⟨_, rfl⟩
        replace H : (if 0 ≤ (ji10) then (if x9_1 > 63 then (if 0 ≤ (IntKind.u64.wrap (wrap64 (x9_1 - 64))) then (lysimeterref1_over.j1 k1 a1 x9_1 (Go.bits .and .u64 (shr .u64 (a0 / 4294967296) (IntKind.u64.wrap (wrap64 (x9_1 - 64)))) 1) (a0 / 4294967296) (IntKind.u64.wrap (a0 * 4294967296)) x272000_1 x272001_1 (Go.bits .or .u64 (IntKind.u64.wrap (x273000_1 * 2)) (x273001_1 / 9223372036854775808)) (IntKind.u64.wrap (x273001_1 * 2))) else (none)) else (lysimeterref1_over.j1 k1 a1 x9_1 (Go.bits .and .u64 (shr .u64 (IntKind.u64.wrap (a0 * 4294967296)) (ji10)) 1) (a0 / 4294967296) (IntKind.u64.wrap (a0 * 4294967296)) x272000_1 x272001_1 (Go.bits .or .u64 (IntKind.u64.wrap (x273000_1 * 2)) (x273001_1 / 9223372036854775808)) (IntKind.u64.wrap (x273001_1 * 2)))) else (none)) = some (r1, r2, r3) := by first | (rw [hji10] at H; exact H) | (simp only [hji10] at H ⊢; exact H)
        by_cases c11 : 0 ≤ (ji10)
        · rw [if_pos c11] at H
          have c11b0 := eq_true c11
          have c11b1 : decide (0 ≤ (ji10)) = true := decide_eq_true c11
          clear c11
          obtain ⟨ji12, hji12⟩ : ∃ j_ : Int, (shr .u64 (IntKind.u64.wrap (a0 * 4294967296)) (ji10)) = j_ := ⟨_, rfl⟩
          replace H : (if x9_1 > 63 then (if 0 ≤ (IntKind.u64.wrap (wrap64 (x9_1 - 64))) then (lysimeterref1_over.j1 k1 a1 x9_1 (Go.bits .and .u64 (shr .u64 (a0 / 4294967296) (IntKind.u64.wrap (wrap64 (x9_1 - 64)))) 1) (a0 / 4294967296) (IntKind.u64.wrap (a0 * 4294967296)) x272000_1 x272001_1 (Go.bits .or .u64 (IntKind.u64.wrap (x273000_1 * 2)) (x273001_1 / 9223372036854775808)) (IntKind.u64.wrap (x273001_1 * 2))) else (none)) else (lysimeterref1_over.j1 k1 a1 x9_1 (Go.bits .and .u64 (ji12) 1) (a0 / 4294967296) (IntKind.u64.wrap (a0 * 4294967296)) x272000_1 x272001_1 (Go.bits .or .u64 (IntKind.u64.wrap (x273000_1 * 2)) (x273001_1 / 9223372036854775808)) (IntKind.u64.wrap (x273001_1 * 2)))) = some (r1, r2, r3) := by first | (rw [hji12] at H; exact H) | (simp only [hji12] at H ⊢; exact H)
          have hji12_ : ((IntKind.u64.wrap (a0 * 4294967296)) / 2 ^ min (ji10).toNat 64) = ji12 := hji12
          have hji12z : (ji10) ≤ 64 → ((IntKind.u64.wrap (a0 * 4294967296)) / 2 ^ (ji10).toNat) = ji12 := shr_small hji12
          have HC13 := Aside0.mk H
          clear H
          have hnb14 := NB272_269.out
          have hnc14 := NB269_272.out
          have hnb15 := NB272_270.out
          have hnc15 := NB270_272.out
          have hnb16 := NB272_271.out
          have hnc16 := NB271_272.out
          have hcz17_0 : wr.cell? ⟨gb272, 0, none⟩ = some (.int .u64 x273000_1) := (blk_cell BK272.out 0).trans rfl
          have hcz17_1 : wr.cell? ⟨gb272, 1, none⟩ = some (.int .u64 x273001_1) := (blk_cell BK272.out 1).trans rfl
          have hfz17_0 := blk_frozen BK272.out 0
          have hfz17_1 := blk_frozen BK272.out 1
          have hnb18 := NB270_269.out
          have hnc18 := NB269_270.out
          have hnb19 := NB270_271.out
          have hnc19 := NB271_270.out
          have hcz20_0 : wr.cell? ⟨gb270, 0, none⟩ = some (.int .u64 (a0 / 4294967296)) := (blk_cell BK270.out 0).trans rfl
          have hcz20_1 : wr.cell? ⟨gb270, 1, none⟩ = some (.int .u64 (IntKind.u64.wrap (a0 * 4294967296))) := (blk_cell BK270.out 1).trans rfl
          have hfz20_0 := blk_frozen BK270.out 0
          have hfz20_1 := blk_frozen BK270.out 1
          go_upto_if 39 with (fail)
          go_cut [10] (fun v10 wc => ∃ (kq : Nat) (x10_12 : Int), v10 = .int .u64 x10_12 ∧ Aside0 (lysimeterref1_over.j1 kq a1 x9_1 x10_12 (a0 / 4294967296) (IntKind.u64.wrap (a0 * 4294967296)) x272000_1 x272001_1 (Go.bits .or .u64 (IntKind.u64.wrap (x273000_1 * 2)) (x273001_1 / 9223372036854775808)) (IntKind.u64.wrap (x273001_1 * 2)) = some (r1, r2, r3)) ∧ Aside0 (kq ≤ k1) ∧ Aside0 (wc.heap[gb269]? = some (.cells #[.int .u64 0, .int .u64 0] 136 (0, 0))) ∧ Aside0 (wc.heap[gb270]? = some (.cells #[.int .u64 (a0 / 4294967296), .int .u64 (IntKind.u64.wrap (a0 * 4294967296))] 136 (0, 0))) ∧ Aside0 (wc.heap[gb271]? = some (.cells #[.int .u64 x272000_1, .int .u64 x272001_1] 136 (0, 0))) ∧ Aside0 (wc.heap[gb272]? = some (.cells #[.int .u64 (Go.bits .or .u64 (IntKind.u64.wrap (x273000_1 * 2)) (x273001_1 / 9223372036854775808)), .int .u64 (IntKind.u64.wrap (x273001_1 * 2))] 136 (0, 0))) ∧ Aside0 (Below w.heap.size w wc))
          case first =>
            have H := HC13.out
            clear HC13
            by_cases c21 : x9_1 > 63
            · rw [if_pos c21] at H
              have c21b0 : decide (63 < x9_1) = true := decide_eq_true c21
              clear c21
              (first | rw [c21b0] | (simp only [i64_w, i32_w]; rw [c21b0]) | skip)
              obtain ⟨ji22, hji22⟩ : ∃ j_ : Int, (IntKind.u64.wrap (wrap64 (x9_1 - 64))) = j_ := ⟨_, rfl⟩
              replace H : (if 0 ≤ (ji22) then (lysimeterref1_over.j1 k1 a1 x9_1 (Go.bits .and .u64 (shr .u64 (a0 / 4294967296) (ji22)) 1) (a0 / 4294967296) (IntKind.u64.wrap (a0 * 4294967296)) x272000_1 x272001_1 (Go.bits .or .u64 (IntKind.u64.wrap (x273000_1 * 2)) (x273001_1 / 9223372036854775808)) (IntKind.u64.wrap (x273001_1 * 2))) else (none)) = some (r1, r2, r3) := by first | (rw [hji22] at H; exact H) | (simp only [hji22] at H ⊢; exact H)
              by_cases c23 : 0 ≤ (ji22)
              · rw [if_pos c23] at H
                have c23b0 := eq_true c23
                have c23b1 : decide (0 ≤ (ji22)) = true := decide_eq_true c23
                clear c23
                obtain ⟨ji24, hji24⟩ : ∃ j_ : Int, (shr .u64 (a0 / 4294967296) (ji22)) = j_ := ⟨_, rfl⟩
                replace H : (lysimeterref1_over.j1 k1 a1 x9_1 (Go.bits .and .u64 (ji24) 1) (a0 / 4294967296) (IntKind.u64.wrap (a0 * 4294967296)) x272000_1 x272001_1 (Go.bits .or .u64 (IntKind.u64.wrap (x273000_1 * 2)) (x273001_1 / 9223372036854775808)) (IntKind.u64.wrap (x273001_1 * 2))) = some (r1, r2, r3) := by first | (rw [hji24] at H; exact H) | (simp only [hji24] at H ⊢; exact H)
                have hji24_ : ((a0 / 4294967296) / 2 ^ min (ji22).toNat 64) = ji24 := hji24
                have hji24z : (ji22) ≤ 64 → ((a0 / 4294967296) / 2 ^ (ji22).toNat) = ji24 := shr_small hji24
                have H' := Aside0.mk H
                clear H
                have hnb25 := NB270_269.out
                have hnc25 := NB269_270.out
                have hnb26 := NB270_271.out
                have hnc26 := NB271_270.out
                have hnb27 := NB270_272.out
                have hnc27 := NB272_270.out
                have hcz28_0 : wr.cell? ⟨gb270, 0, none⟩ = some (.int .u64 (a0 / 4294967296)) := (blk_cell BK270.out 0).trans rfl
                have hcz28_1 : wr.cell? ⟨gb270, 1, none⟩ = some (.int .u64 (IntKind.u64.wrap (a0 * 4294967296))) := (blk_cell BK270.out 1).trans rfl
                have hfz28_0 := blk_frozen BK270.out 0
                have hfz28_1 := blk_frozen BK270.out 1
                go_wp2
                go_meet
                case rel => exact ⟨_, (Go.bits .and .u64 (ji24) 1), (by first | rfl | (simp; done) | (simp only [← hji24] <;> (first | rfl | simp)) | (simp [*]; done)), H', ⟨by have := HK1.out; first | omega | exact Nat.le_refl _⟩, ⟨by (with_reducible repeat (first | refine blk_drewN ?_ _ | refine blk_drew ?_ | refine blk_alloc ?_ _)); refine blk_far ?_ NB269_272.out _; (with_reducible repeat (first | refine blk_drewN ?_ _ | refine blk_drew ?_ | refine blk_alloc ?_ _)); refine blk_far ?_ NB269_272.out _; (with_reducible repeat (first | refine blk_drewN ?_ _ | refine blk_drew ?_ | refine blk_alloc ?_ _)); exact BK269.out⟩, ⟨by (with_reducible repeat (first | refine blk_drewN ?_ _ | refine blk_drew ?_ | refine blk_alloc ?_ _)); refine blk_far ?_ NB270_272.out _; (with_reducible repeat (first | refine blk_drewN ?_ _ | refine blk_drew ?_ | refine blk_alloc ?_ _)); refine blk_far ?_ NB270_272.out _; (with_reducible repeat (first | refine blk_drewN ?_ _ | refine blk_drew ?_ | refine blk_alloc ?_ _)); exact BK270.out⟩, ⟨by (with_reducible repeat (first | refine blk_drewN ?_ _ | refine blk_drew ?_ | refine blk_alloc ?_ _)); refine blk_far ?_ NB271_272.out _; (with_reducible repeat (first | refine blk_drewN ?_ _ | refine blk_drew ?_ | refine blk_alloc ?_ _)); refine blk_far ?_ NB271_272.out _; (with_reducible repeat (first | refine blk_drewN ?_ _ | refine blk_drew ?_ | refine blk_alloc ?_ _)); exact BK271.out⟩, ⟨by (with_reducible repeat (first | refine blk_drewN ?_ _ | refine blk_drew ?_ | refine blk_alloc ?_ _)); refine blk_put (cs := #[.int .u64 (Go.bits .or .u64 (IntKind.u64.wrap (x273000_1 * 2)) (x273001_1 / 9223372036854775808)), .int .u64 x273001_1]) ?_ 1 _ rfl; (with_reducible repeat (first | refine blk_drewN ?_ _ | refine blk_drew ?_ | refine blk_alloc ?_ _)); refine blk_put (cs := #[.int .u64 x273000_1, .int .u64 x273001_1]) ?_ 0 _ rfl; (with_reducible repeat (first | refine blk_drewN ?_ _ | refine blk_drew ?_ | refine blk_alloc ?_ _)); exact BK272.out⟩, ⟨by repeat (first | (with_reducible first | exact HB.out | apply below_alloc | apply pw_below_drewN | apply below_drew1 | refine below_set ?_ GE269.out | refine below_set ?_ GE270.out | refine below_set ?_ GE271.out | refine below_set ?_ GE272.out) | exact HB.out)⟩⟩
              · rw [if_neg c23] at H
                exact absurd H (by simp)
            · rw [if_neg c21] at H
              have c21b0 : decide (63 < x9_1) = false := decide_eq_false c21
              clear c21
              (first | rw [c21b0] | (simp only [i64_w, i32_w]; rw [c21b0]) | skip)
              have H' := Aside0.mk H
              clear H
              go_wp2
              go_meet
              case rel => exact ⟨_, (Go.bits .and .u64 (ji12) 1), (by first | rfl | (simp; done) | (simp only [← hji12] <;> (first | rfl | simp)) | (simp [*]; done)), H', ⟨by have := HK1.out; first | omega | exact Nat.le_refl _⟩, ⟨by (with_reducible repeat (first | refine blk_drewN ?_ _ | refine blk_drew ?_ | refine blk_alloc ?_ _)); refine blk_far ?_ NB269_272.out _; (with_reducible repeat (first | refine blk_drewN ?_ _ | refine blk_drew ?_ | refine blk_alloc ?_ _)); refine blk_far ?_ NB269_272.out _; (with_reducible repeat (first | refine blk_drewN ?_ _ | refine blk_drew ?_ | refine blk_alloc ?_ _)); exact BK269.out⟩, ⟨by (with_reducible repeat (first | refine blk_drewN ?_ _ | refine blk_drew ?_ | refine blk_alloc ?_ _)); refine blk_far ?_ NB270_272.out _; (with_reducible repeat (first | refine blk_drewN ?_ _ | refine blk_drew ?_ | refine blk_alloc ?_ _)); refine blk_far ?_ NB270_272.out _; (with_reducible repeat (first | refine blk_drewN ?_ _ | refine blk_drew ?_ | refine blk_alloc ?_ _)); exact BK270.out⟩, ⟨by (with_reducible repeat (first | refine blk_drewN ?_ _ | refine blk_drew ?_ | refine blk_alloc ?_ _)); refine blk_far ?_ NB271_272.out _; (with_reducible repeat (first | refine blk_drewN ?_ _ | refine blk_drew ?_ | refine blk_alloc ?_ _)); refine blk_far ?_ NB271_272.out _; (with_reducible repeat (first | refine blk_drewN ?_ _ | refine blk_drew ?_ | refine blk_alloc ?_ _)); exact BK271.out⟩, ⟨by (with_reducible repeat (first | refine blk_drewN ?_ _ | refine blk_drew ?_ | refine blk_alloc ?_ _)); refine blk_put (cs := #[.int .u64 (Go.bits .or .u64 (IntKind.u64.wrap (x273000_1 * 2)) (x273001_1 / 9223372036854775808)), .int .u64 x273001_1]) ?_ 1 _ rfl; (with_reducible repeat (first | refine blk_drewN ?_ _ | refine blk_drew ?_ | refine blk_alloc ?_ _)); refine blk_put (cs := #[.int .u64 x273000_1, .int .u64 x273001_1]) ?_ 0 _ rfl; (with_reducible repeat (first | refine blk_drewN ?_ _ | refine blk_drew ?_ | refine blk_alloc ?_ _)); exact BK272.out⟩, ⟨by repeat (first | (with_reducible first | exact HB.out | apply below_alloc | apply pw_below_drewN | apply below_drew1 | refine below_set ?_ GE269.out | refine below_set ?_ GE270.out | refine below_set ?_ GE271.out | refine below_set ?_ GE272.out) | exact HB.out)⟩⟩
          case rest =>
            clear HC13
            try clear c1
            try clear c2
            try clear p2
            try clear c5
            try clear p6
            try clear c9
            try clear c9b0
            try clear c10
            try clear c11
            try clear c11b0
            try clear c11b1
            try clear c14
            try clear c15
            try clear c16
            try clear c18
            try clear c19
            try clear c21
            try clear c21b0
            try clear c23
            try clear c23b0
            try clear c23b1
            try clear c25
            try clear c26
            try clear c27
            try clear hcz17_0
            try clear hcz17_1
            try clear hcz20_0
            try clear hcz20_1
            try clear hcz28_0
            try clear hcz28_1
            try clear hcz6_0
            try clear hcz6_1
            try clear hfz17_0
            try clear hfz17_1
            try clear hfz20_0
            try clear hfz20_1
            try clear hfz28_0
            try clear hfz28_1
            try clear hfz6_0
            try clear hfz6_1
            try clear p2
            obtain ⟨kq, x10_12, rfl, HA, HJ12, BK269, BK270, BK271, BK272, HB⟩ := hcut
            cases kq with
            | zero => exact absurd HA.out (by simp [lysimeterref1_over.j1])
            | succ kj12 =>
              have H := HA.out
              clear HA
              simp only [lysimeterref1_over.j1] at H
              by_cases c29 : (Go.bits .or .u64 (IntKind.u64.wrap (x273000_1 * 2)) (x273001_1 / 9223372036854775808)) > 0
              · rw [if_pos c29] at H
                have c29b0 : decide (0 < (Go.bits .or .u64 (IntKind.u64.wrap (x273000_1 * 2)) (x273001_1 / 9223372036854775808))) = true := decide_eq_true c29
                clear c29
                have H' := Aside0.mk H
                clear H
                have hnb30 := NB272_269.out
                have hnc30 := NB269_272.out
                have hnb31 := NB272_270.out
                have hnc31 := NB270_272.out
                have hnb32 := NB272_271.out
                have hnc32 := NB271_272.out
                have hcz33_0 : wc.cell? ⟨gb272, 0, none⟩ = some (.int .u64 (Go.bits .or .u64 (IntKind.u64.wrap (x273000_1 * 2)) (x273001_1 / 9223372036854775808))) := (blk_cell BK272.out 0).trans rfl
                have hcz33_1 : wc.cell? ⟨gb272, 1, none⟩ = some (.int .u64 (IntKind.u64.wrap (x273001_1 * 2))) := (blk_cell BK272.out 1).trans rfl
                have hfz33_0 := blk_frozen BK272.out 0
                have hfz33_1 := blk_frozen BK272.out 1
                have hnb34 := NB271_269.out
                have hnc34 := NB269_271.out
                have hnb35 := NB271_270.out
                have hnc35 := NB270_271.out
                have hcz36_0 : wc.cell? ⟨gb271, 0, none⟩ = some (.int .u64 x272000_1) := (blk_cell BK271.out 0).trans rfl
                have hcz36_1 : wc.cell? ⟨gb271, 1, none⟩ = some (.int .u64 x272001_1) := (blk_cell BK271.out 1).trans rfl
                have hfz36_0 := blk_frozen BK271.out 0
                have hfz36_1 := blk_frozen BK271.out 1
                go_wp2
                go_roundg kj12
                case measure => have := HK1.out; have := HJ12.out; omega
                case rel => exact ⟨(wrap64 (x9_1 - 1)), (Go.bits .or .u64 (IntKind.u64.wrap (x272000_1 * 2)) (x272001_1 / 9223372036854775808)), (Go.bits .or .u64 (IntKind.u64.wrap (x272001_1 * 2)) 1), (0), (IntKind.u64.wrap ((Go.bits .or .u64 (IntKind.u64.wrap (x273001_1 * 2)) x10_12) - a1)), (by first | rfl | (simp; done) | (simp [*]; done)), H', ⟨by have := HK1.out; have := HJ12.out; omega⟩, ⟨by (with_reducible repeat (first | refine blk_drewN ?_ _ | refine blk_drew ?_ | refine blk_alloc ?_ _)); refine blk_far ?_ NB269_271.out _; (with_reducible repeat (first | refine blk_drewN ?_ _ | refine blk_drew ?_ | refine blk_alloc ?_ _)); refine blk_far ?_ NB269_272.out _; (with_reducible repeat (first | refine blk_drewN ?_ _ | refine blk_drew ?_ | refine blk_alloc ?_ _)); refine blk_far ?_ NB269_272.out _; (with_reducible repeat (first | refine blk_drewN ?_ _ | refine blk_drew ?_ | refine blk_alloc ?_ _)); refine blk_far ?_ NB269_271.out _; (with_reducible repeat (first | refine blk_drewN ?_ _ | refine blk_drew ?_ | refine blk_alloc ?_ _)); refine blk_far ?_ NB269_271.out _; (with_reducible repeat (first | refine blk_drewN ?_ _ | refine blk_drew ?_ | refine blk_alloc ?_ _)); refine blk_far ?_ NB269_272.out _; (with_reducible repeat (first | refine blk_drewN ?_ _ | refine blk_drew ?_ | refine blk_alloc ?_ _)); exact BK269.out⟩, ⟨by (with_reducible repeat (first | refine blk_drewN ?_ _ | refine blk_drew ?_ | refine blk_alloc ?_ _)); refine blk_far ?_ NB270_271.out _; (with_reducible repeat (first | refine blk_drewN ?_ _ | refine blk_drew ?_ | refine blk_alloc ?_ _)); refine blk_far ?_ NB270_272.out _; (with_reducible repeat (first | refine blk_drewN ?_ _ | refine blk_drew ?_ | refine blk_alloc ?_ _)); refine blk_far ?_ NB270_272.out _; (with_reducible repeat (first | refine blk_drewN ?_ _ | refine blk_drew ?_ | refine blk_alloc ?_ _)); refine blk_far ?_ NB270_271.out _; (with_reducible repeat (first | refine blk_drewN ?_ _ | refine blk_drew ?_ | refine blk_alloc ?_ _)); refine blk_far ?_ NB270_271.out _; (with_reducible repeat (first | refine blk_drewN ?_ _ | refine blk_drew ?_ | refine blk_alloc ?_ _)); refine blk_far ?_ NB270_272.out _; (with_reducible repeat (first | refine blk_drewN ?_ _ | refine blk_drew ?_ | refine blk_alloc ?_ _)); exact BK270.out⟩, ⟨by (with_reducible repeat (first | refine blk_drewN ?_ _ | refine blk_drew ?_ | refine blk_alloc ?_ _)); refine blk_put (cs := #[.int .u64 (Go.bits .or .u64 (IntKind.u64.wrap (x272000_1 * 2)) (x272001_1 / 9223372036854775808)), .int .u64 (IntKind.u64.wrap (x272001_1 * 2))]) ?_ 1 _ rfl; (with_reducible repeat (first | refine blk_drewN ?_ _ | refine blk_drew ?_ | refine blk_alloc ?_ _)); refine blk_far ?_ NB271_272.out _; (with_reducible repeat (first | refine blk_drewN ?_ _ | refine blk_drew ?_ | refine blk_alloc ?_ _)); refine blk_far ?_ NB271_272.out _; (with_reducible repeat (first | refine blk_drewN ?_ _ | refine blk_drew ?_ | refine blk_alloc ?_ _)); refine blk_put (cs := #[.int .u64 (Go.bits .or .u64 (IntKind.u64.wrap (x272000_1 * 2)) (x272001_1 / 9223372036854775808)), .int .u64 x272001_1]) ?_ 1 _ rfl; (with_reducible repeat (first | refine blk_drewN ?_ _ | refine blk_drew ?_ | refine blk_alloc ?_ _)); refine blk_put (cs := #[.int .u64 x272000_1, .int .u64 x272001_1]) ?_ 0 _ rfl; (with_reducible repeat (first | refine blk_drewN ?_ _ | refine blk_drew ?_ | refine blk_alloc ?_ _)); refine blk_far ?_ NB271_272.out _; (with_reducible repeat (first | refine blk_drewN ?_ _ | refine blk_drew ?_ | refine blk_alloc ?_ _)); exact BK271.out⟩, ⟨by (with_reducible repeat (first | refine blk_drewN ?_ _ | refine blk_drew ?_ | refine blk_alloc ?_ _)); refine blk_far ?_ NB272_271.out _; (with_reducible repeat (first | refine blk_drewN ?_ _ | refine blk_drew ?_ | refine blk_alloc ?_ _)); refine blk_put (cs := #[.int .u64 0, .int .u64 (Go.bits .or .u64 (IntKind.u64.wrap (x273001_1 * 2)) x10_12)]) ?_ 1 _ rfl; (with_reducible repeat (first | refine blk_drewN ?_ _ | refine blk_drew ?_ | refine blk_alloc ?_ _)); refine blk_put (cs := #[.int .u64 (Go.bits .or .u64 (IntKind.u64.wrap (x273000_1 * 2)) (x273001_1 / 9223372036854775808)), .int .u64 (Go.bits .or .u64 (IntKind.u64.wrap (x273001_1 * 2)) x10_12)]) ?_ 0 _ rfl; (with_reducible repeat (first | refine blk_drewN ?_ _ | refine blk_drew ?_ | refine blk_alloc ?_ _)); refine blk_far ?_ NB272_271.out _; (with_reducible repeat (first | refine blk_drewN ?_ _ | refine blk_drew ?_ | refine blk_alloc ?_ _)); refine blk_far ?_ NB272_271.out _; (with_reducible repeat (first | refine blk_drewN ?_ _ | refine blk_drew ?_ | refine blk_alloc ?_ _)); refine blk_put (cs := #[.int .u64 (Go.bits .or .u64 (IntKind.u64.wrap (x273000_1 * 2)) (x273001_1 / 9223372036854775808)), .int .u64 (IntKind.u64.wrap (x273001_1 * 2))]) ?_ 1 _ rfl; (with_reducible repeat (first | refine blk_drewN ?_ _ | refine blk_drew ?_ | refine blk_alloc ?_ _)); exact BK272.out⟩, ⟨by repeat (first | (with_reducible first | exact HB.out | apply below_alloc | apply pw_below_drewN | apply below_drew1 | refine below_set ?_ GE269.out | refine below_set ?_ GE270.out | refine below_set ?_ GE271.out | refine below_set ?_ GE272.out) | exact HB.out)⟩⟩
              · rw [if_neg c29] at H
                have c29b0 : decide (0 < (Go.bits .or .u64 (IntKind.u64.wrap (x273000_1 * 2)) (x273001_1 / 9223372036854775808))) = false := decide_eq_false c29
                clear c29
                by_cases c37 : (Go.bits .or .u64 (IntKind.u64.wrap (x273001_1 * 2)) x10_12) ≥ a1
                · rw [if_pos c37] at H
                  have c37b0 : decide (a1 ≤ (Go.bits .or .u64 (IntKind.u64.wrap (x273001_1 * 2)) x10_12)) = true := decide_eq_true c37
                  clear c37
                  have H' := Aside0.mk H
                  clear H
                  have hnb38 := NB272_269.out
                  have hnc38 := NB269_272.out
                  have hnb39 := NB272_270.out
                  have hnc39 := NB270_272.out
                  have hnb40 := NB272_271.out
                  have hnc40 := NB271_272.out
                  have hcz41_0 : wc.cell? ⟨gb272, 0, none⟩ = some (.int .u64 (Go.bits .or .u64 (IntKind.u64.wrap (x273000_1 * 2)) (x273001_1 / 9223372036854775808))) := (blk_cell BK272.out 0).trans rfl
                  have hcz41_1 : wc.cell? ⟨gb272, 1, none⟩ = some (.int .u64 (IntKind.u64.wrap (x273001_1 * 2))) := (blk_cell BK272.out 1).trans rfl
                  have hfz41_0 := blk_frozen BK272.out 0
                  have hfz41_1 := blk_frozen BK272.out 1
                  have hnb42 := NB271_269.out
                  have hnc42 := NB269_271.out
                  have hnb43 := NB271_270.out
                  have hnc43 := NB270_271.out
                  have hcz44_0 : wc.cell? ⟨gb271, 0, none⟩ = some (.int .u64 x272000_1) := (blk_cell BK271.out 0).trans rfl
                  have hcz44_1 : wc.cell? ⟨gb271, 1, none⟩ = some (.int .u64 x272001_1) := (blk_cell BK271.out 1).trans rfl
                  have hfz44_0 := blk_frozen BK271.out 0
                  have hfz44_1 := blk_frozen BK271.out 1
                  go_wp2
                  go_roundg kj12
                  case measure => have := HK1.out; have := HJ12.out; omega
                  case rel => exact ⟨(wrap64 (x9_1 - 1)), (Go.bits .or .u64 (IntKind.u64.wrap (x272000_1 * 2)) (x272001_1 / 9223372036854775808)), (Go.bits .or .u64 (IntKind.u64.wrap (x272001_1 * 2)) 1), (0), (IntKind.u64.wrap ((Go.bits .or .u64 (IntKind.u64.wrap (x273001_1 * 2)) x10_12) - a1)), (by first | rfl | (simp; done) | (simp [*]; done)), H', ⟨by have := HK1.out; have := HJ12.out; omega⟩, ⟨by (with_reducible repeat (first | refine blk_drewN ?_ _ | refine blk_drew ?_ | refine blk_alloc ?_ _)); refine blk_far ?_ NB269_271.out _; (with_reducible repeat (first | refine blk_drewN ?_ _ | refine blk_drew ?_ | refine blk_alloc ?_ _)); refine blk_far ?_ NB269_272.out _; (with_reducible repeat (first | refine blk_drewN ?_ _ | refine blk_drew ?_ | refine blk_alloc ?_ _)); refine blk_far ?_ NB269_272.out _; (with_reducible repeat (first | refine blk_drewN ?_ _ | refine blk_drew ?_ | refine blk_alloc ?_ _)); refine blk_far ?_ NB269_271.out _; (with_reducible repeat (first | refine blk_drewN ?_ _ | refine blk_drew ?_ | refine blk_alloc ?_ _)); refine blk_far ?_ NB269_271.out _; (with_reducible repeat (first | refine blk_drewN ?_ _ | refine blk_drew ?_ | refine blk_alloc ?_ _)); refine blk_far ?_ NB269_272.out _; (with_reducible repeat (first | refine blk_drewN ?_ _ | refine blk_drew ?_ | refine blk_alloc ?_ _)); exact BK269.out⟩, ⟨by (with_reducible repeat (first | refine blk_drewN ?_ _ | refine blk_drew ?_ | refine blk_alloc ?_ _)); refine blk_far ?_ NB270_271.out _; (with_reducible repeat (first | refine blk_drewN ?_ _ | refine blk_drew ?_ | refine blk_alloc ?_ _)); refine blk_far ?_ NB270_272.out _; (with_reducible repeat (first | refine blk_drewN ?_ _ | refine blk_drew ?_ | refine blk_alloc ?_ _)); refine blk_far ?_ NB270_272.out _; (with_reducible repeat (first | refine blk_drewN ?_ _ | refine blk_drew ?_ | refine blk_alloc ?_ _)); refine blk_far ?_ NB270_271.out _; (with_reducible repeat (first | refine blk_drewN ?_ _ | refine blk_drew ?_ | refine blk_alloc ?_ _)); refine blk_far ?_ NB270_271.out _; (with_reducible repeat (first | refine blk_drewN ?_ _ | refine blk_drew ?_ | refine blk_alloc ?_ _)); refine blk_far ?_ NB270_272.out _; (with_reducible repeat (first | refine blk_drewN ?_ _ | refine blk_drew ?_ | refine blk_alloc ?_ _)); exact BK270.out⟩, ⟨by (with_reducible repeat (first | refine blk_drewN ?_ _ | refine blk_drew ?_ | refine blk_alloc ?_ _)); refine blk_put (cs := #[.int .u64 (Go.bits .or .u64 (IntKind.u64.wrap (x272000_1 * 2)) (x272001_1 / 9223372036854775808)), .int .u64 (IntKind.u64.wrap (x272001_1 * 2))]) ?_ 1 _ rfl; (with_reducible repeat (first | refine blk_drewN ?_ _ | refine blk_drew ?_ | refine blk_alloc ?_ _)); refine blk_far ?_ NB271_272.out _; (with_reducible repeat (first | refine blk_drewN ?_ _ | refine blk_drew ?_ | refine blk_alloc ?_ _)); refine blk_far ?_ NB271_272.out _; (with_reducible repeat (first | refine blk_drewN ?_ _ | refine blk_drew ?_ | refine blk_alloc ?_ _)); refine blk_put (cs := #[.int .u64 (Go.bits .or .u64 (IntKind.u64.wrap (x272000_1 * 2)) (x272001_1 / 9223372036854775808)), .int .u64 x272001_1]) ?_ 1 _ rfl; (with_reducible repeat (first | refine blk_drewN ?_ _ | refine blk_drew ?_ | refine blk_alloc ?_ _)); refine blk_put (cs := #[.int .u64 x272000_1, .int .u64 x272001_1]) ?_ 0 _ rfl; (with_reducible repeat (first | refine blk_drewN ?_ _ | refine blk_drew ?_ | refine blk_alloc ?_ _)); refine blk_far ?_ NB271_272.out _; (with_reducible repeat (first | refine blk_drewN ?_ _ | refine blk_drew ?_ | refine blk_alloc ?_ _)); exact BK271.out⟩, ⟨by (with_reducible repeat (first | refine blk_drewN ?_ _ | refine blk_drew ?_ | refine blk_alloc ?_ _)); refine blk_far ?_ NB272_271.out _; (with_reducible repeat (first | refine blk_drewN ?_ _ | refine blk_drew ?_ | refine blk_alloc ?_ _)); refine blk_put (cs := #[.int .u64 0, .int .u64 (Go.bits .or .u64 (IntKind.u64.wrap (x273001_1 * 2)) x10_12)]) ?_ 1 _ rfl; (with_reducible repeat (first | refine blk_drewN ?_ _ | refine blk_drew ?_ | refine blk_alloc ?_ _)); refine blk_put (cs := #[.int .u64 (Go.bits .or .u64 (IntKind.u64.wrap (x273000_1 * 2)) (x273001_1 / 9223372036854775808)), .int .u64 (Go.bits .or .u64 (IntKind.u64.wrap (x273001_1 * 2)) x10_12)]) ?_ 0 _ rfl; (with_reducible repeat (first | refine blk_drewN ?_ _ | refine blk_drew ?_ | refine blk_alloc ?_ _)); refine blk_far ?_ NB272_271.out _; (with_reducible repeat (first | refine blk_drewN ?_ _ | refine blk_drew ?_ | refine blk_alloc ?_ _)); refine blk_far ?_ NB272_271.out _; (with_reducible repeat (first | refine blk_drewN ?_ _ | refine blk_drew ?_ | refine blk_alloc ?_ _)); refine blk_put (cs := #[.int .u64 (Go.bits .or .u64 (IntKind.u64.wrap (x273000_1 * 2)) (x273001_1 / 9223372036854775808)), .int .u64 (IntKind.u64.wrap (x273001_1 * 2))]) ?_ 1 _ rfl; (with_reducible repeat (first | refine blk_drewN ?_ _ | refine blk_drew ?_ | refine blk_alloc ?_ _)); exact BK272.out⟩, ⟨by repeat (first | (with_reducible first | exact HB.out | apply below_alloc | apply pw_below_drewN | apply below_drew1 | refine below_set ?_ GE269.out | refine below_set ?_ GE270.out | refine below_set ?_ GE271.out | refine below_set ?_ GE272.out) | exact HB.out)⟩⟩
                · rw [if_neg c37] at H
                  have c37b0 : decide (a1 ≤ (Go.bits .or .u64 (IntKind.u64.wrap (x273001_1 * 2)) x10_12)) = false := decide_eq_false c37
                  clear c37
                  have H' := Aside0.mk H
                  clear H
                  have hnb45 := NB272_269.out
                  have hnc45 := NB269_272.out
                  have hnb46 := NB272_270.out
                  have hnc46 := NB270_272.out
                  have hnb47 := NB272_271.out
                  have hnc47 := NB271_272.out
                  have hcz48_0 : wc.cell? ⟨gb272, 0, none⟩ = some (.int .u64 (Go.bits .or .u64 (IntKind.u64.wrap (x273000_1 * 2)) (x273001_1 / 9223372036854775808))) := (blk_cell BK272.out 0).trans rfl
                  have hcz48_1 : wc.cell? ⟨gb272, 1, none⟩ = some (.int .u64 (IntKind.u64.wrap (x273001_1 * 2))) := (blk_cell BK272.out 1).trans rfl
                  have hfz48_0 := blk_frozen BK272.out 0
                  have hfz48_1 := blk_frozen BK272.out 1
                  have hnb49 := NB271_269.out
                  have hnc49 := NB269_271.out
                  have hnb50 := NB271_270.out
                  have hnc50 := NB270_271.out
                  have hcz51_0 : wc.cell? ⟨gb271, 0, none⟩ = some (.int .u64 x272000_1) := (blk_cell BK271.out 0).trans rfl
                  have hcz51_1 : wc.cell? ⟨gb271, 1, none⟩ = some (.int .u64 x272001_1) := (blk_cell BK271.out 1).trans rfl
                  have hfz51_0 := blk_frozen BK271.out 0
                  have hfz51_1 := blk_frozen BK271.out 1
                  go_wp2
                  go_roundg kj12
                  case measure => have := HK1.out; have := HJ12.out; omega
                  case rel => exact ⟨(wrap64 (x9_1 - 1)), (Go.bits .or .u64 (IntKind.u64.wrap (x272000_1 * 2)) (x272001_1 / 9223372036854775808)), (IntKind.u64.wrap (x272001_1 * 2)), ((Go.bits .or .u64 (IntKind.u64.wrap (x273000_1 * 2)) (x273001_1 / 9223372036854775808))), (Go.bits .or .u64 (IntKind.u64.wrap (x273001_1 * 2)) x10_12), (by first | rfl | (simp; done) | (simp [*]; done)), H', ⟨by have := HK1.out; have := HJ12.out; omega⟩, ⟨by (with_reducible repeat (first | refine blk_drewN ?_ _ | refine blk_drew ?_ | refine blk_alloc ?_ _)); refine blk_far ?_ NB269_271.out _; (with_reducible repeat (first | refine blk_drewN ?_ _ | refine blk_drew ?_ | refine blk_alloc ?_ _)); refine blk_far ?_ NB269_271.out _; (with_reducible repeat (first | refine blk_drewN ?_ _ | refine blk_drew ?_ | refine blk_alloc ?_ _)); refine blk_far ?_ NB269_272.out _; (with_reducible repeat (first | refine blk_drewN ?_ _ | refine blk_drew ?_ | refine blk_alloc ?_ _)); exact BK269.out⟩, ⟨by (with_reducible repeat (first | refine blk_drewN ?_ _ | refine blk_drew ?_ | refine blk_alloc ?_ _)); refine blk_far ?_ NB270_271.out _; (with_reducible repeat (first | refine blk_drewN ?_ _ | refine blk_drew ?_ | refine blk_alloc ?_ _)); refine blk_far ?_ NB270_271.out _; (with_reducible repeat (first | refine blk_drewN ?_ _ | refine blk_drew ?_ | refine blk_alloc ?_ _)); refine blk_far ?_ NB270_272.out _; (with_reducible repeat (first | refine blk_drewN ?_ _ | refine blk_drew ?_ | refine blk_alloc ?_ _)); exact BK270.out⟩, ⟨by (with_reducible repeat (first | refine blk_drewN ?_ _ | refine blk_drew ?_ | refine blk_alloc ?_ _)); refine blk_put (cs := #[.int .u64 (Go.bits .or .u64 (IntKind.u64.wrap (x272000_1 * 2)) (x272001_1 / 9223372036854775808)), .int .u64 x272001_1]) ?_ 1 _ rfl; (with_reducible repeat (first | refine blk_drewN ?_ _ | refine blk_drew ?_ | refine blk_alloc ?_ _)); refine blk_put (cs := #[.int .u64 x272000_1, .int .u64 x272001_1]) ?_ 0 _ rfl; (with_reducible repeat (first | refine blk_drewN ?_ _ | refine blk_drew ?_ | refine blk_alloc ?_ _)); refine blk_far ?_ NB271_272.out _; (with_reducible repeat (first | refine blk_drewN ?_ _ | refine blk_drew ?_ | refine blk_alloc ?_ _)); exact BK271.out⟩, ⟨by (with_reducible repeat (first | refine blk_drewN ?_ _ | refine blk_drew ?_ | refine blk_alloc ?_ _)); refine blk_far ?_ NB272_271.out _; (with_reducible repeat (first | refine blk_drewN ?_ _ | refine blk_drew ?_ | refine blk_alloc ?_ _)); refine blk_far ?_ NB272_271.out _; (with_reducible repeat (first | refine blk_drewN ?_ _ | refine blk_drew ?_ | refine blk_alloc ?_ _)); refine blk_put (cs := #[.int .u64 (Go.bits .or .u64 (IntKind.u64.wrap (x273000_1 * 2)) (x273001_1 / 9223372036854775808)), .int .u64 (IntKind.u64.wrap (x273001_1 * 2))]) ?_ 1 _ rfl; (with_reducible repeat (first | refine blk_drewN ?_ _ | refine blk_drew ?_ | refine blk_alloc ?_ _)); exact BK272.out⟩, ⟨by repeat (first | (with_reducible first | exact HB.out | apply below_alloc | apply pw_below_drewN | apply below_drew1 | refine below_set ?_ GE269.out | refine below_set ?_ GE270.out | refine below_set ?_ GE271.out | refine below_set ?_ GE272.out) | exact HB.out)⟩⟩
        · rw [if_neg c11] at H
          exact absurd H (by simp)
      · rw [if_neg c9] at H
        have c9b0 : decide (0 ≤ x9_1) = false := decide_eq_false c9
        clear c9
        simp only [Option.some.injEq, Prod.mk.injEq] at H
        obtain ⟨rfl, rfl, rfl⟩ := H
        try go_wp2
        have n0_ := Aside0.mk (blk_drew BK269.out)
        have n1_ := Aside0.mk (blk_drew BK270.out)
        have n2_ := Aside0.mk (blk_drew BK271.out)
        have n3_ := Aside0.mk (blk_drew BK272.out)
        have n4_ := Aside0.mk (below_drew1 HB.out)
        clear BK269
        clear BK270
        clear BK271
        clear BK272
        clear HB
        have BK269 := n0_
        have BK270 := n1_
        have BK271 := n2_
        have BK272 := n3_
        have HB := n4_
        clear n0_ n1_ n2_ n3_ n4_
        refine start_ (n := 6) (S := fun w' => w'.cell? ⟨gb271, 0, none⟩ = some (.int .u64 x272000_1) ∧ w'.cell? ⟨gb271, 1, none⟩ = some (.int .u64 x272001_1) ∧ w'.cell? ⟨gb272, 0, none⟩ = some (.int .u64 x273000_1) ∧ w'.cell? ⟨gb272, 1, none⟩ = some (.int .u64 x273001_1)) (ds := []) #[false, false, false, false, false, false] (by kernel_rfl) rfl rfl ⟨(blk_cell BK271.out 0).trans rfl, (blk_cell BK271.out 1).trans rfl, (blk_cell BK272.out 0).trans rfl, (blk_cell BK272.out 1).trans rfl⟩ (fun hHeld => ?_)
        generalize wr.drew = w52 at BK269 BK270 BK271 BK272 HB hHeld ⊢
        refine pure_ (i := 1) (N := some 82) (v := ?_) (a' := ?_) #[false, true, false, false, false, false] rfl rfl (by kernel_rfl) (fun _ _ _ h => h) (Or.inl ⟨by rfl, ?_⟩) ?_ ?_
        rotate_left
        · intro w'
          go_simp
          with_reducible rfl
        rotate_left
        · simp only [Act.put, List.setIfInBounds_toArray, List.set_cons_zero, List.set_cons_succ, i64_w, i32_w]
          rfl
        refine take_ (i := 0) (N := some 81) (v := ?_) (a' := ?_) #[true, true, false, false, false, false] rfl rfl (by kernel_rfl) (fun _ _ _ h => h) (Or.inl ⟨by rfl, ?_⟩) hHeld ?_ ?_
        rotate_left
        · rintro w' ⟨s0, s1, s2, s3⟩
          go_simp
          with_reducible rfl
        rotate_left
        · simp only [Act.put, List.setIfInBounds_toArray, List.set_cons_zero, List.set_cons_succ, i64_w, i32_w]
          rfl
        refine take_ (i := 2) (N := some 83) (v := ?_) (a' := ?_) #[true, true, true, false, false, false] rfl rfl (by kernel_rfl) (fun _ _ _ h => h) (Or.inl ⟨by rfl, ?_⟩) hHeld ?_ ?_
        rotate_left
        · rintro w' ⟨s0, s1, s2, s3⟩
          go_simp
          with_reducible rfl
        rotate_left
        · simp only [Act.put, List.setIfInBounds_toArray, List.set_cons_zero, List.set_cons_succ, i64_w, i32_w]
          rfl
        refine pure_ (i := 3) (N := some 84) (v := ?_) (a' := ?_) #[true, true, true, true, false, false] rfl rfl (by kernel_rfl) (fun _ _ _ h => h) (Or.inl ⟨by rfl, ?_⟩) ?_ ?_
        rotate_left
        · intro w'
          go_simp
          with_reducible rfl
        rotate_left
        · simp only [Act.put, List.setIfInBounds_toArray, List.set_cons_zero, List.set_cons_succ, i64_w, i32_w]
          rfl
        refine one_ (i := 4) (N := none) #[true, true, true, true, true, false] rfl rfl (by kernel_rfl) (by decide) (fun K hK => ?_)
        have hs53 : w52.cell? ⟨gb269, 0, none⟩ = some (.int .u64 0) := (blk_cell BK269.out 0).trans rfl
        have hfs53 := blk_frozen BK269.out 0
        have hns53_1 := NB270_269.out
        have hns53_2 := NB271_269.out
        have hns53_3 := NB272_269.out
        have hms53_1 := NB269_270.out
        have hms53_2 := NB269_271.out
        have hms53_3 := NB269_272.out
        have hs54 : w52.cell? ⟨gb269, 1, none⟩ = some (.int .u64 0) := (blk_cell BK269.out 1).trans rfl
        have hfs54 := blk_frozen BK269.out 1
        have hns54_1 := NB270_269.out
        have hns54_2 := NB271_269.out
        have hns54_3 := NB272_269.out
        have hms54_1 := NB269_270.out
        have hms54_2 := NB269_271.out
        have hms54_3 := NB269_272.out
        refine skip_ (w1 := ?_) (by rfl) rfl ?_ ?_
        rotate_left
        · go_simp
          rfl
        refine hK.out _ _ ⟨((cell_far (p := ⟨gb269, _, none⟩) NB271_269.out _).trans (((cell_far (p := ⟨gb269, _, none⟩) NB271_269.out _).trans (hHeld.1)))), ((cell_far (p := ⟨gb269, _, none⟩) NB271_269.out _).trans (((cell_far (p := ⟨gb269, _, none⟩) NB271_269.out _).trans (hHeld.2.1)))), ((cell_far (p := ⟨gb269, _, none⟩) NB272_269.out _).trans (((cell_far (p := ⟨gb269, _, none⟩) NB272_269.out _).trans (hHeld.2.2.1)))), ((cell_far (p := ⟨gb269, _, none⟩) NB272_269.out _).trans (((cell_far (p := ⟨gb269, _, none⟩) NB272_269.out _).trans (hHeld.2.2.2))))⟩ (fun hHeld => ?_)
        clear hK K
        refine pure_ (i := 5) (N := some 5) (v := ?_) (a' := ?_) #[true, true, true, true, true, true] rfl rfl (by kernel_rfl) (fun _ _ _ h => h) (Or.inl ⟨by rfl, ?_⟩) ?_ ?_
        rotate_left
        · intro w'
          go_simp
          with_reducible rfl
        rotate_left
        · simp only [Act.put, List.setIfInBounds_toArray, List.set_cons_zero, List.set_cons_succ, i64_w, i32_w]
          rfl
        refine done_ (by kernel_rfl) ?_
        try go_wp2
        refine bodyPost_ret (results_ct rfl _ _ gb269 136 #[.int .u64 x272000_1, .int .u64 x272001_1] (0, 0) _ rfl (by (with_reducible repeat (first | refine blk_drewN ?_ _ | refine blk_drew ?_ | refine blk_alloc ?_ _)); refine blk_put (cs := #[.int .u64 x272000_1, .int .u64 0]) ?_ 1 _ rfl; (with_reducible repeat (first | refine blk_drewN ?_ _ | refine blk_drew ?_ | refine blk_alloc ?_ _)); refine blk_put (cs := #[.int .u64 0, .int .u64 0]) ?_ 0 _ rfl; (with_reducible repeat (first | refine blk_drewN ?_ _ | refine blk_drew ?_ | refine blk_alloc ?_ _)); exact BK269.out) Try.underlying136 rfl (by kernel_rfl)) rfl ?_
        exact ⟨by first | rfl | (simp [errW_none, errW_some] <;> rfl) | (simp [*, errW_none, errW_some] <;> rfl), by repeat (first | (with_reducible first | exact HB.out | apply below_alloc | apply pw_below_drewN | apply below_drew1 | refine below_set ?_ GE269.out | refine below_set ?_ GE270.out | refine below_set ?_ GE271.out | refine below_set ?_ GE272.out) | exact HB.out)⟩
end Go.Proofs.Ytemnfnbjapobcaa.Fix
end
section
namespace Go.Proofs.Ytemnfnbjapobcaa.Fix
open Go.RowKit Go.Proofs.YtemnfnbjapobcaaW.PrintWords Go.Proofs.YtemnfnbjapobcaaW.PrintLast Go.Proofs.YtemnfnbjapobcaaW.PrintMore
attribute [local go_sem] max2_int min2_int max_two min_two max_three min_three max_four min_four   -- for this text's walks alone
set_option linter.unusedVariables false
set_option linter.unusedSimpArgs false
def lysimeterref1_CeilDiv.f (k : Nat) (a0 : Int) (a1 : Int) : Option (Int) := if a1 = 0 then ((lysimeterref1_none.f a0).bind fun t308 => (some t308)) else (if a0 < 0 then (if a1 < 0 then ((lysimeterref1_size.f a0).bind fun t309 => ((lysimeterref1_size.f a1).bind fun t310 => ((lysimeterref1_over.f k t309 t310).bind fun bt311 => (if bt311.2.2 = true then ((lysimeterref1_more.f bt311.1 bt311.2.1).bind fun bt315 => ((lysimeterref1_back.f k false bt315.1 bt315.2).bind fun t317 => (some t317))) else ((lysimeterref1_back.f k false bt311.1 bt311.2.1).bind fun t318 => (some t318)))))) else ((lysimeterref1_size.f a0).bind fun t319 => ((lysimeterref1_size.f a1).bind fun t320 => ((lysimeterref1_over.f k t319 t320).bind fun bt321 => ((lysimeterref1_back.f k true bt321.1 bt321.2.1).bind fun t325 => (some t325)))))) else (if a1 < 0 then ((lysimeterref1_size.f a0).bind fun t326 => ((lysimeterref1_size.f a1).bind fun t327 => ((lysimeterref1_over.f k t326 t327).bind fun bt328 => ((lysimeterref1_back.f k true bt328.1 bt328.2.1).bind fun t332 => (some t332))))) else ((lysimeterref1_size.f a0).bind fun t333 => ((lysimeterref1_size.f a1).bind fun t334 => ((lysimeterref1_over.f k t333 t334).bind fun bt335 => (if bt335.2.2 = true then ((lysimeterref1_more.f bt335.1 bt335.2.1).bind fun bt339 => ((lysimeterref1_back.f k false bt339.1 bt339.2).bind fun t341 => (some t341))) else ((lysimeterref1_back.f k false bt335.1 bt335.2.1).bind fun t342 => (some t342))))))))
set_option maxHeartbeats 8000000 in
set_option maxRecDepth 100000 in
theorem lysimeterref1_CeilDiv.calls (k : Nat) (a0 : Int) (a1 : Int) (r : Int) (w : World) (h : lysimeterref1_CeilDiv.f k a0 a1 = some r) :
    Calls Try.prog 93 #[.int .i64 a0, .int .i64 a1] w fun e w' => e = .returned (.int .i64 r) ∧ Below w.heap.size w w' := by
  have hu136 := Try.underlying136
  have HB := Aside0.mk (Below.refl w.heap.size w)
  have H : (if a1 = 0 then ((lysimeterref1_none.f a0).bind fun t308 => (some t308)) else (if a0 < 0 then (if a1 < 0 then ((lysimeterref1_size.f a0).bind fun t309 => ((lysimeterref1_size.f a1).bind fun t310 => ((lysimeterref1_over.f k t309 t310).bind fun bt311 => (if bt311.2.2 = true then ((lysimeterref1_more.f bt311.1 bt311.2.1).bind fun bt315 => ((lysimeterref1_back.f k false bt315.1 bt315.2).bind fun t317 => (some t317))) else ((lysimeterref1_back.f k false bt311.1 bt311.2.1).bind fun t318 => (some t318)))))) else ((lysimeterref1_size.f a0).bind fun t319 => ((lysimeterref1_size.f a1).bind fun t320 => ((lysimeterref1_over.f k t319 t320).bind fun bt321 => ((lysimeterref1_back.f k true bt321.1 bt321.2.1).bind fun t325 => (some t325)))))) else (if a1 < 0 then ((lysimeterref1_size.f a0).bind fun t326 => ((lysimeterref1_size.f a1).bind fun t327 => ((lysimeterref1_over.f k t326 t327).bind fun bt328 => ((lysimeterref1_back.f k true bt328.1 bt328.2.1).bind fun t332 => (some t332))))) else ((lysimeterref1_size.f a0).bind fun t333 => ((lysimeterref1_size.f a1).bind fun t334 => ((lysimeterref1_over.f k t333 t334).bind fun bt335 => (if bt335.2.2 = true then ((lysimeterref1_more.f bt335.1 bt335.2.1).bind fun bt339 => ((lysimeterref1_back.f k false bt339.1 bt339.2).bind fun t341 => (some t341))) else ((lysimeterref1_back.f k false bt335.1 bt335.2.1).bind fun t342 => (some t342))))))))) = some r := h
  clear h
  by_cases c3 : a1 = 0
  · rw [if_pos c3] at H
    have c3b0 : (a1 == 0) = true := beq_iff_eq.mpr c3
    have c3b1 : (a1 != 0) = false := bne_eq_false_iff_eq.mpr c3
    clear c3
    replace H := Option.bind_eq_some_iff.mp H
    obtain ⟨t308, A40, H⟩ := H
    replace H : (some t308) = some r := H
    have A4 := Aside0.mk A40
    clear A40
    obtain rfl := Option.some.inj H
    go_enter Try.func93, Try.ntmps93
    go_wp2_with (first | ((with_reducible refine gate_callee (f := 104) rfl ?_); refine goesL_ (some 11) rfl rfl Try.func104 (by kernel_rfl) rfl #[.int .i64 a0] rfl (by (try simp only [List.map_toArray, List.map_cons, List.map_nil]); first | done | rfl | (simp only [List.length_drop, List.length_take]; rfl)) ?_; (with_reducible refine (lysimeterref1_none.calls a0 t308 _ A4.out).mono ?_); rintro e w' ⟨rfl, ⟨nd, rfl⟩⟩; refine ⟨_, rfl, ?_⟩))
    go_ret
    exact ⟨by first | rfl | (simp [errW_none, errW_some] <;> rfl) | (simp [*, errW_none, errW_some] <;> rfl), by repeat (first | (with_reducible first | exact HB.out | apply below_alloc | apply pw_below_drewN | apply below_drew1) | exact HB.out)⟩
  · rw [if_neg c3] at H
    have c3b0 : (a1 == 0) = false := beq_eq_false_iff_ne.mpr c3
    have c3b1 : (a1 != 0) = true := bne_iff_ne.mpr c3
    by_cases c5 : a0 < 0
    · rw [if_pos c5] at H
      have c5b0 : decide (a0 < 0) = true := decide_eq_true c5
      clear c5
      by_cases c6 : a1 < 0
      · rw [if_pos c6] at H
        have c6b0 : decide (a1 < 0) = true := decide_eq_true c6
        clear c6
        replace H := Option.bind_eq_some_iff.mp H
        obtain ⟨t309, A70, H⟩ := H
        replace H : ((lysimeterref1_size.f a1).bind fun t310 => ((lysimeterref1_over.f k t309 t310).bind fun bt311 => (if bt311.2.2 = true then ((lysimeterref1_more.f bt311.1 bt311.2.1).bind fun bt315 => ((lysimeterref1_back.f k false bt315.1 bt315.2).bind fun t317 => (some t317))) else ((lysimeterref1_back.f k false bt311.1 bt311.2.1).bind fun t318 => (some t318))))) = some r := H
        have A7 := Aside0.mk A70
        clear A70
        replace H := Option.bind_eq_some_iff.mp H
        obtain ⟨t310, A80, H⟩ := H
        replace H : ((lysimeterref1_over.f k t309 t310).bind fun bt311 => (if bt311.2.2 = true then ((lysimeterref1_more.f bt311.1 bt311.2.1).bind fun bt315 => ((lysimeterref1_back.f k false bt315.1 bt315.2).bind fun t317 => (some t317))) else ((lysimeterref1_back.f k false bt311.1 bt311.2.1).bind fun t318 => (some t318)))) = some r := H
        have A8 := Aside0.mk A80
        clear A80
        replace H := Option.bind_eq_some_iff.mp H
        obtain ⟨⟨t311, t312, t313⟩, A90, H⟩ := H
        replace H : (if t313 = true then ((lysimeterref1_more.f t311 t312).bind fun bt315 => ((lysimeterref1_back.f k false bt315.1 bt315.2).bind fun t317 => (some t317))) else ((lysimeterref1_back.f k false t311 t312).bind fun t318 => (some t318))) = some r := H
        have A9 := Aside0.mk A90
        clear A90
        by_cases c10 : t313 = true
        · subst c10
          have H1 : ((lysimeterref1_more.f t311 t312).bind fun bt315 => ((lysimeterref1_back.f k false bt315.1 bt315.2).bind fun t317 => (some t317))) = some r := by rw [if_pos rfl] at H; exact H
          clear H
          have H := H1
          clear H1
          replace H := Option.bind_eq_some_iff.mp H
          obtain ⟨⟨t315, t316⟩, A110, H⟩ := H
          replace H : ((lysimeterref1_back.f k false t315 t316).bind fun t317 => (some t317)) = some r := H
          have A11 := Aside0.mk A110
          clear A110
          replace H := Option.bind_eq_some_iff.mp H
          obtain ⟨t317, A120, H⟩ := H
          replace H : (some t317) = some r := H
          have A12 := Aside0.mk A120
          clear A120
          obtain rfl := Option.some.inj H
          go_enter Try.func93, Try.ntmps93
          go_wp2_with (first | ((with_reducible refine gate_callee (f := 106) rfl ?_); refine goesL_ (some 19) rfl rfl Try.func106 (by kernel_rfl) rfl #[.int .i64 a0] rfl (by (try simp only [List.map_toArray, List.map_cons, List.map_nil]); first | done | rfl | (simp only [List.length_drop, List.length_take]; rfl)) ?_; (with_reducible refine (lysimeterref1_size.calls a0 t309 _ A7.out).mono ?_); rintro e w' ⟨rfl, ⟨nd, rfl⟩⟩; refine ⟨_, rfl, ?_⟩) | ((with_reducible refine gate_callee (f := 106) rfl ?_); refine goesL_ (some 21) rfl rfl Try.func106 (by kernel_rfl) rfl #[.int .i64 a1] rfl (by (try simp only [List.map_toArray, List.map_cons, List.map_nil]); first | done | rfl | (simp only [List.length_drop, List.length_take]; rfl)) ?_; (with_reducible refine (lysimeterref1_size.calls a1 t310 _ A8.out).mono ?_); rintro e w' ⟨rfl, ⟨nd, rfl⟩⟩; refine ⟨_, rfl, ?_⟩) | ((with_reducible refine gate_callee (f := 105) rfl ?_); refine goesL_ (some 22) rfl rfl Try.func105 (by kernel_rfl) rfl #[.int .u64 t309, .int .u64 t310] rfl (by (try simp only [List.map_toArray, List.map_cons, List.map_nil]); first | done | rfl | (simp only [List.length_drop, List.length_take]; rfl)) ?_; (with_reducible refine (lysimeterref1_over.calls k t309 t310 t311 t312 true _ A9.out).mono ?_); rintro e w13 ⟨rfl, hb⟩; refine ⟨_, rfl, ?_⟩; have n0_ := Aside0.mk (below_step (by repeat (first | (with_reducible first | exact HB.out | apply below_alloc | apply pw_below_drewN | apply below_drew1) | exact HB.out)) hb); clear HB; have HB := n0_; clear n0_; (try clear hb); (try clear hb2); (try clear hk); (try clear hi)) | ((with_reducible refine gate_dst (N := 6) rfl ?_); refine box_event ?hg (N := 6) ?hd (cs := #[.int .u64 0, .int .u64 0]) (t := 136) ?hr ?_; (case hd => rfl); (case hg => rfl); (case hr => first | (go_simp; done) | (go_simp; rfl)); intro gb314 hg w14 hbox hb; have n0_ := Aside0.mk (below_step (by repeat (first | (with_reducible first | exact HB.out | apply below_alloc | apply pw_below_drewN | apply below_drew1) | exact HB.out)) hb); have n1_ := Aside0.mk (hbox); have n2_ := Aside0.mk ((by rw [hg]; exact (below_size (by repeat (first | (with_reducible first | exact HB.out | apply below_alloc | apply pw_below_drewN | apply below_drew1) | exact HB.out))) : w.heap.size ≤ gb314)); have n3_ := Aside0.mk ((by rw [hg]; exact (below_size (by repeat (first | (with_reducible first | exact HB.out | apply below_alloc | apply pw_below_drewN | apply below_drew1) | exact HB.out))) : w.heap.size ≤ gb314)); clear HB; have HB := n0_; have BK314 := n1_; have GW314 := n2_; have GE314 := n3_; clear n0_ n1_ n2_ n3_; clear hb hbox hg; have hcz15_0 : w14.cell? ⟨gb314, 0, none⟩ = some (.int .u64 0) := (blk_cell BK314.out 0).trans rfl; have hcz15_1 : w14.cell? ⟨gb314, 1, none⟩ = some (.int .u64 0) := (blk_cell BK314.out 1).trans rfl; have hfz15_0 := blk_frozen BK314.out 0; have hfz15_1 := blk_frozen BK314.out 1) | ((with_reducible refine gate_callee (f := 107) rfl ?_); refine goesL_ (some 31) rfl rfl Try.func107 (by kernel_rfl) rfl #[.agg #[.int .u64 t311, .int .u64 t312]] rfl (by (try simp only [List.map_toArray, List.map_cons, List.map_nil]); first | done | rfl | (simp only [List.length_drop, List.length_take]; rfl)) ?_; (with_reducible refine (lysimeterref1_more.calls t311 t312 t315 t316 _ A11.out).mono ?_); rintro e w16 ⟨rfl, hb⟩; refine ⟨_, rfl, ?_⟩; have n0_ := Aside0.mk (blk_below (g := gb314) (o := .cells #[.int .u64 t311, .int .u64 t312] 136 (0, 0)) (by (with_reducible repeat (first | refine blk_drewN ?_ _ | refine blk_drew ?_ | refine blk_alloc ?_ _)); refine blk_put (cs := #[.int .u64 t311, .int .u64 0]) ?_ 1 _ rfl; (with_reducible repeat (first | refine blk_drewN ?_ _ | refine blk_drew ?_ | refine blk_alloc ?_ _)); refine blk_put (cs := #[.int .u64 0, .int .u64 0]) ?_ 0 _ rfl; (with_reducible repeat (first | refine blk_drewN ?_ _ | refine blk_drew ?_ | refine blk_alloc ?_ _)); exact BK314.out) hb); have n1_ := Aside0.mk (below_step (by repeat (first | (with_reducible first | exact HB.out | apply below_alloc | apply pw_below_drewN | apply below_drew1 | refine below_set ?_ GE314.out) | exact HB.out)) hb); clear BK314; clear HB; have BK314 := n0_; have HB := n1_; clear n0_ n1_; (try clear hb); (try clear hb2); (try clear hk); (try clear hi); have hcz17_0 : w16.cell? ⟨gb314, 0, none⟩ = some (.int .u64 t311) := (blk_cell BK314.out 0).trans rfl; have hcz17_1 : w16.cell? ⟨gb314, 1, none⟩ = some (.int .u64 t312) := (blk_cell BK314.out 1).trans rfl; have hfz17_0 := blk_frozen BK314.out 0; have hfz17_1 := blk_frozen BK314.out 1) | ((with_reducible refine gate_callee (f := 108) rfl ?_); refine goesL_ (some 34) rfl rfl Try.func108 (by kernel_rfl) rfl #[.bool false, .agg #[.int .u64 t315, .int .u64 t316]] rfl (by (try simp only [List.map_toArray, List.map_cons, List.map_nil]); first | done | rfl | (simp only [List.length_drop, List.length_take]; rfl)) ?_; (with_reducible refine (lysimeterref1_back.calls k false t315 t316 t317 _ A12.out).mono ?_); rintro e w18 ⟨rfl, hb⟩; refine ⟨_, rfl, ?_⟩; have n0_ := Aside0.mk (blk_below (g := gb314) (o := .cells #[.int .u64 t315, .int .u64 t316] 136 (0, 0)) (by (with_reducible repeat (first | refine blk_drewN ?_ _ | refine blk_drew ?_ | refine blk_alloc ?_ _)); refine blk_put (cs := #[.int .u64 t315, .int .u64 t312]) ?_ 1 _ rfl; (with_reducible repeat (first | refine blk_drewN ?_ _ | refine blk_drew ?_ | refine blk_alloc ?_ _)); refine blk_put (cs := #[.int .u64 t311, .int .u64 t312]) ?_ 0 _ rfl; (with_reducible repeat (first | refine blk_drewN ?_ _ | refine blk_drew ?_ | refine blk_alloc ?_ _)); exact BK314.out) hb); have n1_ := Aside0.mk (below_step (by repeat (first | (with_reducible first | exact HB.out | apply below_alloc | apply pw_below_drewN | apply below_drew1 | refine below_set ?_ GE314.out) | exact HB.out)) hb); clear BK314; clear HB; have BK314 := n0_; have HB := n1_; clear n0_ n1_; (try clear hb); (try clear hb2); (try clear hk); (try clear hi)))
          go_ret
          exact ⟨by first | rfl | (simp [errW_none, errW_some] <;> rfl) | (simp [*, errW_none, errW_some] <;> rfl), by repeat (first | (with_reducible first | exact HB.out | apply below_alloc | apply pw_below_drewN | apply below_drew1 | refine below_set ?_ GE314.out) | exact HB.out)⟩
        · replace c10 := Bool.eq_false_iff.mpr c10
          subst c10
          have H1 : ((lysimeterref1_back.f k false t311 t312).bind fun t318 => (some t318)) = some r := by rw [if_neg (show ¬ (false = true) by decide)] at H; exact H
          clear H
          have H := H1
          clear H1
          replace H := Option.bind_eq_some_iff.mp H
          obtain ⟨t318, A190, H⟩ := H
          replace H : (some t318) = some r := H
          have A19 := Aside0.mk A190
          clear A190
          obtain rfl := Option.some.inj H
          go_enter Try.func93, Try.ntmps93
          go_wp2_with (first | ((with_reducible refine gate_callee (f := 106) rfl ?_); refine goesL_ (some 19) rfl rfl Try.func106 (by kernel_rfl) rfl #[.int .i64 a0] rfl (by (try simp only [List.map_toArray, List.map_cons, List.map_nil]); first | done | rfl | (simp only [List.length_drop, List.length_take]; rfl)) ?_; (with_reducible refine (lysimeterref1_size.calls a0 t309 _ A7.out).mono ?_); rintro e w' ⟨rfl, ⟨nd, rfl⟩⟩; refine ⟨_, rfl, ?_⟩) | ((with_reducible refine gate_callee (f := 106) rfl ?_); refine goesL_ (some 21) rfl rfl Try.func106 (by kernel_rfl) rfl #[.int .i64 a1] rfl (by (try simp only [List.map_toArray, List.map_cons, List.map_nil]); first | done | rfl | (simp only [List.length_drop, List.length_take]; rfl)) ?_; (with_reducible refine (lysimeterref1_size.calls a1 t310 _ A8.out).mono ?_); rintro e w' ⟨rfl, ⟨nd, rfl⟩⟩; refine ⟨_, rfl, ?_⟩) | ((with_reducible refine gate_callee (f := 105) rfl ?_); refine goesL_ (some 22) rfl rfl Try.func105 (by kernel_rfl) rfl #[.int .u64 t309, .int .u64 t310] rfl (by (try simp only [List.map_toArray, List.map_cons, List.map_nil]); first | done | rfl | (simp only [List.length_drop, List.length_take]; rfl)) ?_; (with_reducible refine (lysimeterref1_over.calls k t309 t310 t311 t312 false _ A9.out).mono ?_); rintro e w20 ⟨rfl, hb⟩; refine ⟨_, rfl, ?_⟩; have n0_ := Aside0.mk (below_step (by repeat (first | (with_reducible first | exact HB.out | apply below_alloc | apply pw_below_drewN | apply below_drew1) | exact HB.out)) hb); clear HB; have HB := n0_; clear n0_; (try clear hb); (try clear hb2); (try clear hk); (try clear hi)) | ((with_reducible refine gate_dst (N := 6) rfl ?_); refine box_event ?hg (N := 6) ?hd (cs := #[.int .u64 0, .int .u64 0]) (t := 136) ?hr ?_; (case hd => rfl); (case hg => rfl); (case hr => first | (go_simp; done) | (go_simp; rfl)); intro gb314 hg w21 hbox hb; have n0_ := Aside0.mk (below_step (by repeat (first | (with_reducible first | exact HB.out | apply below_alloc | apply pw_below_drewN | apply below_drew1) | exact HB.out)) hb); have n1_ := Aside0.mk (hbox); have n2_ := Aside0.mk ((by rw [hg]; exact (below_size (by repeat (first | (with_reducible first | exact HB.out | apply below_alloc | apply pw_below_drewN | apply below_drew1) | exact HB.out))) : w.heap.size ≤ gb314)); have n3_ := Aside0.mk ((by rw [hg]; exact (below_size (by repeat (first | (with_reducible first | exact HB.out | apply below_alloc | apply pw_below_drewN | apply below_drew1) | exact HB.out))) : w.heap.size ≤ gb314)); clear HB; have HB := n0_; have BK314 := n1_; have GW314 := n2_; have GE314 := n3_; clear n0_ n1_ n2_ n3_; clear hb hbox hg; have hcz22_0 : w21.cell? ⟨gb314, 0, none⟩ = some (.int .u64 0) := (blk_cell BK314.out 0).trans rfl; have hcz22_1 : w21.cell? ⟨gb314, 1, none⟩ = some (.int .u64 0) := (blk_cell BK314.out 1).trans rfl; have hfz22_0 := blk_frozen BK314.out 0; have hfz22_1 := blk_frozen BK314.out 1) | ((with_reducible refine gate_callee (f := 108) rfl ?_); refine goesL_ (some 34) rfl rfl Try.func108 (by kernel_rfl) rfl #[.bool false, .agg #[.int .u64 t311, .int .u64 t312]] rfl (by (try simp only [List.map_toArray, List.map_cons, List.map_nil]); first | done | rfl | (simp only [List.length_drop, List.length_take]; rfl)) ?_; (with_reducible refine (lysimeterref1_back.calls k false t311 t312 t318 _ A19.out).mono ?_); rintro e w23 ⟨rfl, hb⟩; refine ⟨_, rfl, ?_⟩; have n0_ := Aside0.mk (blk_below (g := gb314) (o := .cells #[.int .u64 t311, .int .u64 t312] 136 (0, 0)) (by (with_reducible repeat (first | refine blk_drewN ?_ _ | refine blk_drew ?_ | refine blk_alloc ?_ _)); refine blk_put (cs := #[.int .u64 t311, .int .u64 0]) ?_ 1 _ rfl; (with_reducible repeat (first | refine blk_drewN ?_ _ | refine blk_drew ?_ | refine blk_alloc ?_ _)); refine blk_put (cs := #[.int .u64 0, .int .u64 0]) ?_ 0 _ rfl; (with_reducible repeat (first | refine blk_drewN ?_ _ | refine blk_drew ?_ | refine blk_alloc ?_ _)); exact BK314.out) hb); have n1_ := Aside0.mk (below_step (by repeat (first | (with_reducible first | exact HB.out | apply below_alloc | apply pw_below_drewN | apply below_drew1 | refine below_set ?_ GE314.out) | exact HB.out)) hb); clear BK314; clear HB; have BK314 := n0_; have HB := n1_; clear n0_ n1_; (try clear hb); (try clear hb2); (try clear hk); (try clear hi)))
          go_ret
          exact ⟨by first | rfl | (simp [errW_none, errW_some] <;> rfl) | (simp [*, errW_none, errW_some] <;> rfl), by repeat (first | (with_reducible first | exact HB.out | apply below_alloc | apply pw_below_drewN | apply below_drew1 | refine below_set ?_ GE314.out) | exact HB.out)⟩
      · rw [if_neg c6] at H
        have c6b0 : decide (a1 < 0) = false := decide_eq_false c6
        clear c6
        replace H := Option.bind_eq_some_iff.mp H
        obtain ⟨t319, A240, H⟩ := H
        replace H : ((lysimeterref1_size.f a1).bind fun t320 => ((lysimeterref1_over.f k t319 t320).bind fun bt321 => ((lysimeterref1_back.f k true bt321.1 bt321.2.1).bind fun t325 => (some t325)))) = some r := H
        have A24 := Aside0.mk A240
        clear A240
        replace H := Option.bind_eq_some_iff.mp H
        obtain ⟨t320, A250, H⟩ := H
        replace H : ((lysimeterref1_over.f k t319 t320).bind fun bt321 => ((lysimeterref1_back.f k true bt321.1 bt321.2.1).bind fun t325 => (some t325))) = some r := H
        have A25 := Aside0.mk A250
        clear A250
        replace H := Option.bind_eq_some_iff.mp H
        obtain ⟨⟨t321, t322, t323⟩, A260, H⟩ := H
        replace H : ((lysimeterref1_back.f k true t321 t322).bind fun t325 => (some t325)) = some r := H
        have A26 := Aside0.mk A260
        clear A260
        replace H := Option.bind_eq_some_iff.mp H
        obtain ⟨t325, A270, H⟩ := H
        replace H : (some t325) = some r := H
        have A27 := Aside0.mk A270
        clear A270
        obtain rfl := Option.some.inj H
        go_enter Try.func93, Try.ntmps93
        go_wp2_with (first | ((with_reducible refine gate_callee (f := 106) rfl ?_); refine goesL_ (some 19) rfl rfl Try.func106 (by kernel_rfl) rfl #[.int .i64 a0] rfl (by (try simp only [List.map_toArray, List.map_cons, List.map_nil]); first | done | rfl | (simp only [List.length_drop, List.length_take]; rfl)) ?_; (with_reducible refine (lysimeterref1_size.calls a0 t319 _ A24.out).mono ?_); rintro e w' ⟨rfl, ⟨nd, rfl⟩⟩; refine ⟨_, rfl, ?_⟩) | ((with_reducible refine gate_callee (f := 106) rfl ?_); refine goesL_ (some 21) rfl rfl Try.func106 (by kernel_rfl) rfl #[.int .i64 a1] rfl (by (try simp only [List.map_toArray, List.map_cons, List.map_nil]); first | done | rfl | (simp only [List.length_drop, List.length_take]; rfl)) ?_; (with_reducible refine (lysimeterref1_size.calls a1 t320 _ A25.out).mono ?_); rintro e w' ⟨rfl, ⟨nd, rfl⟩⟩; refine ⟨_, rfl, ?_⟩) | ((with_reducible refine gate_callee (f := 105) rfl ?_); refine goesL_ (some 22) rfl rfl Try.func105 (by kernel_rfl) rfl #[.int .u64 t319, .int .u64 t320] rfl (by (try simp only [List.map_toArray, List.map_cons, List.map_nil]); first | done | rfl | (simp only [List.length_drop, List.length_take]; rfl)) ?_; (with_reducible refine (lysimeterref1_over.calls k t319 t320 t321 t322 t323 _ A26.out).mono ?_); rintro e w28 ⟨rfl, hb⟩; refine ⟨_, rfl, ?_⟩; have n0_ := Aside0.mk (below_step (by repeat (first | (with_reducible first | exact HB.out | apply below_alloc | apply pw_below_drewN | apply below_drew1) | exact HB.out)) hb); clear HB; have HB := n0_; clear n0_; (try clear hb); (try clear hb2); (try clear hk); (try clear hi)) | ((with_reducible refine gate_dst (N := 6) rfl ?_); refine box_event ?hg (N := 6) ?hd (cs := #[.int .u64 0, .int .u64 0]) (t := 136) ?hr ?_; (case hd => rfl); (case hg => rfl); (case hr => first | (go_simp; done) | (go_simp; rfl)); intro gb324 hg w29 hbox hb; have n0_ := Aside0.mk (below_step (by repeat (first | (with_reducible first | exact HB.out | apply below_alloc | apply pw_below_drewN | apply below_drew1) | exact HB.out)) hb); have n1_ := Aside0.mk (hbox); have n2_ := Aside0.mk ((by rw [hg]; exact (below_size (by repeat (first | (with_reducible first | exact HB.out | apply below_alloc | apply pw_below_drewN | apply below_drew1) | exact HB.out))) : w.heap.size ≤ gb324)); have n3_ := Aside0.mk ((by rw [hg]; exact (below_size (by repeat (first | (with_reducible first | exact HB.out | apply below_alloc | apply pw_below_drewN | apply below_drew1) | exact HB.out))) : w.heap.size ≤ gb324)); clear HB; have HB := n0_; have BK324 := n1_; have GW324 := n2_; have GE324 := n3_; clear n0_ n1_ n2_ n3_; clear hb hbox hg; have hcz30_0 : w29.cell? ⟨gb324, 0, none⟩ = some (.int .u64 0) := (blk_cell BK324.out 0).trans rfl; have hcz30_1 : w29.cell? ⟨gb324, 1, none⟩ = some (.int .u64 0) := (blk_cell BK324.out 1).trans rfl; have hfz30_0 := blk_frozen BK324.out 0; have hfz30_1 := blk_frozen BK324.out 1) | ((with_reducible refine gate_callee (f := 108) rfl ?_); refine goesL_ (some 34) rfl rfl Try.func108 (by kernel_rfl) rfl #[.bool true, .agg #[.int .u64 t321, .int .u64 t322]] rfl (by (try simp only [List.map_toArray, List.map_cons, List.map_nil]); first | done | rfl | (simp only [List.length_drop, List.length_take]; rfl)) ?_; (with_reducible refine (lysimeterref1_back.calls k true t321 t322 t325 _ A27.out).mono ?_); rintro e w31 ⟨rfl, hb⟩; refine ⟨_, rfl, ?_⟩; have n0_ := Aside0.mk (blk_below (g := gb324) (o := .cells #[.int .u64 t321, .int .u64 t322] 136 (0, 0)) (by (with_reducible repeat (first | refine blk_drewN ?_ _ | refine blk_drew ?_ | refine blk_alloc ?_ _)); refine blk_put (cs := #[.int .u64 t321, .int .u64 0]) ?_ 1 _ rfl; (with_reducible repeat (first | refine blk_drewN ?_ _ | refine blk_drew ?_ | refine blk_alloc ?_ _)); refine blk_put (cs := #[.int .u64 0, .int .u64 0]) ?_ 0 _ rfl; (with_reducible repeat (first | refine blk_drewN ?_ _ | refine blk_drew ?_ | refine blk_alloc ?_ _)); exact BK324.out) hb); have n1_ := Aside0.mk (below_step (by repeat (first | (with_reducible first | exact HB.out | apply below_alloc | apply pw_below_drewN | apply below_drew1 | refine below_set ?_ GE324.out) | exact HB.out)) hb); clear BK324; clear HB; have BK324 := n0_; have HB := n1_; clear n0_ n1_; (try clear hb); (try clear hb2); (try clear hk); (try clear hi)))
        go_ret
        exact ⟨by first | rfl | (simp [errW_none, errW_some] <;> rfl) | (simp [*, errW_none, errW_some] <;> rfl), by repeat (first | (with_reducible first | exact HB.out | apply below_alloc | apply pw_below_drewN | apply below_drew1 | refine below_set ?_ GE324.out) | exact HB.out)⟩
    · rw [if_neg c5] at H
      have c5b0 : decide (a0 < 0) = false := decide_eq_false c5
      clear c5
      by_cases c32 : a1 < 0
      · rw [if_pos c32] at H
        have c32b0 : decide (a1 < 0) = true := decide_eq_true c32
        clear c32
        replace H := Option.bind_eq_some_iff.mp H
        obtain ⟨t326, A330, H⟩ := H
        replace H : ((lysimeterref1_size.f a1).bind fun t327 => ((lysimeterref1_over.f k t326 t327).bind fun bt328 => ((lysimeterref1_back.f k true bt328.1 bt328.2.1).bind fun t332 => (some t332)))) = some r := H
        have A33 := Aside0.mk A330
        clear A330
        replace H := Option.bind_eq_some_iff.mp H
        obtain ⟨t327, A340, H⟩ := H
        replace H : ((lysimeterref1_over.f k t326 t327).bind fun bt328 => ((lysimeterref1_back.f k true bt328.1 bt328.2.1).bind fun t332 => (some t332))) = some r := H
        have A34 := Aside0.mk A340
        clear A340
        replace H := Option.bind_eq_some_iff.mp H
        obtain ⟨⟨t328, t329, t330⟩, A350, H⟩ := H
        replace H : ((lysimeterref1_back.f k true t328 t329).bind fun t332 => (some t332)) = some r := H
        have A35 := Aside0.mk A350
        clear A350
        replace H := Option.bind_eq_some_iff.mp H
        obtain ⟨t332, A360, H⟩ := H
        replace H : (some t332) = some r := H
        have A36 := Aside0.mk A360
        clear A360
        obtain rfl := Option.some.inj H
        go_enter Try.func93, Try.ntmps93
        go_wp2_with (first | ((with_reducible refine gate_callee (f := 106) rfl ?_); refine goesL_ (some 19) rfl rfl Try.func106 (by kernel_rfl) rfl #[.int .i64 a0] rfl (by (try simp only [List.map_toArray, List.map_cons, List.map_nil]); first | done | rfl | (simp only [List.length_drop, List.length_take]; rfl)) ?_; (with_reducible refine (lysimeterref1_size.calls a0 t326 _ A33.out).mono ?_); rintro e w' ⟨rfl, ⟨nd, rfl⟩⟩; refine ⟨_, rfl, ?_⟩) | ((with_reducible refine gate_callee (f := 106) rfl ?_); refine goesL_ (some 21) rfl rfl Try.func106 (by kernel_rfl) rfl #[.int .i64 a1] rfl (by (try simp only [List.map_toArray, List.map_cons, List.map_nil]); first | done | rfl | (simp only [List.length_drop, List.length_take]; rfl)) ?_; (with_reducible refine (lysimeterref1_size.calls a1 t327 _ A34.out).mono ?_); rintro e w' ⟨rfl, ⟨nd, rfl⟩⟩; refine ⟨_, rfl, ?_⟩) | ((with_reducible refine gate_callee (f := 105) rfl ?_); refine goesL_ (some 22) rfl rfl Try.func105 (by kernel_rfl) rfl #[.int .u64 t326, .int .u64 t327] rfl (by (try simp only [List.map_toArray, List.map_cons, List.map_nil]); first | done | rfl | (simp only [List.length_drop, List.length_take]; rfl)) ?_; (with_reducible refine (lysimeterref1_over.calls k t326 t327 t328 t329 t330 _ A35.out).mono ?_); rintro e w37 ⟨rfl, hb⟩; refine ⟨_, rfl, ?_⟩; have n0_ := Aside0.mk (below_step (by repeat (first | (with_reducible first | exact HB.out | apply below_alloc | apply pw_below_drewN | apply below_drew1) | exact HB.out)) hb); clear HB; have HB := n0_; clear n0_; (try clear hb); (try clear hb2); (try clear hk); (try clear hi)) | ((with_reducible refine gate_dst (N := 6) rfl ?_); refine box_event ?hg (N := 6) ?hd (cs := #[.int .u64 0, .int .u64 0]) (t := 136) ?hr ?_; (case hd => rfl); (case hg => rfl); (case hr => first | (go_simp; done) | (go_simp; rfl)); intro gb331 hg w38 hbox hb; have n0_ := Aside0.mk (below_step (by repeat (first | (with_reducible first | exact HB.out | apply below_alloc | apply pw_below_drewN | apply below_drew1) | exact HB.out)) hb); have n1_ := Aside0.mk (hbox); have n2_ := Aside0.mk ((by rw [hg]; exact (below_size (by repeat (first | (with_reducible first | exact HB.out | apply below_alloc | apply pw_below_drewN | apply below_drew1) | exact HB.out))) : w.heap.size ≤ gb331)); have n3_ := Aside0.mk ((by rw [hg]; exact (below_size (by repeat (first | (with_reducible first | exact HB.out | apply below_alloc | apply pw_below_drewN | apply below_drew1) | exact HB.out))) : w.heap.size ≤ gb331)); clear HB; have HB := n0_; have BK331 := n1_; have GW331 := n2_; have GE331 := n3_; clear n0_ n1_ n2_ n3_; clear hb hbox hg; have hcz39_0 : w38.cell? ⟨gb331, 0, none⟩ = some (.int .u64 0) := (blk_cell BK331.out 0).trans rfl; have hcz39_1 : w38.cell? ⟨gb331, 1, none⟩ = some (.int .u64 0) := (blk_cell BK331.out 1).trans rfl; have hfz39_0 := blk_frozen BK331.out 0; have hfz39_1 := blk_frozen BK331.out 1) | ((with_reducible refine gate_callee (f := 108) rfl ?_); refine goesL_ (some 34) rfl rfl Try.func108 (by kernel_rfl) rfl #[.bool true, .agg #[.int .u64 t328, .int .u64 t329]] rfl (by (try simp only [List.map_toArray, List.map_cons, List.map_nil]); first | done | rfl | (simp only [List.length_drop, List.length_take]; rfl)) ?_; (with_reducible refine (lysimeterref1_back.calls k true t328 t329 t332 _ A36.out).mono ?_); rintro e w40 ⟨rfl, hb⟩; refine ⟨_, rfl, ?_⟩; have n0_ := Aside0.mk (blk_below (g := gb331) (o := .cells #[.int .u64 t328, .int .u64 t329] 136 (0, 0)) (by (with_reducible repeat (first | refine blk_drewN ?_ _ | refine blk_drew ?_ | refine blk_alloc ?_ _)); refine blk_put (cs := #[.int .u64 t328, .int .u64 0]) ?_ 1 _ rfl; (with_reducible repeat (first | refine blk_drewN ?_ _ | refine blk_drew ?_ | refine blk_alloc ?_ _)); refine blk_put (cs := #[.int .u64 0, .int .u64 0]) ?_ 0 _ rfl; (with_reducible repeat (first | refine blk_drewN ?_ _ | refine blk_drew ?_ | refine blk_alloc ?_ _)); exact BK331.out) hb); have n1_ := Aside0.mk (below_step (by repeat (first | (with_reducible first | exact HB.out | apply below_alloc | apply pw_below_drewN | apply below_drew1 | refine below_set ?_ GE331.out) | exact HB.out)) hb); clear BK331; clear HB; have BK331 := n0_; have HB := n1_; clear n0_ n1_; (try clear hb); (try clear hb2); (try clear hk); (try clear hi)))
        go_ret
        exact ⟨by first | rfl | (simp [errW_none, errW_some] <;> rfl) | (simp [*, errW_none, errW_some] <;> rfl), by repeat (first | (with_reducible first | exact HB.out | apply below_alloc | apply pw_below_drewN | apply below_drew1 | refine below_set ?_ GE331.out) | exact HB.out)⟩
      · rw [if_neg c32] at H
        have c32b0 : decide (a1 < 0) = false := decide_eq_false c32
        clear c32
        replace H := Option.bind_eq_some_iff.mp H
        obtain ⟨t333, A410, H⟩ := H
        replace H : ((lysimeterref1_size.f a1).bind fun t334 => ((lysimeterref1_over.f k t333 t334).bind fun bt335 => (if bt335.2.2 = true then ((lysimeterref1_more.f bt335.1 bt335.2.1).bind fun bt339 => ((lysimeterref1_back.f k false bt339.1 bt339.2).bind fun t341 => (some t341))) else ((lysimeterref1_back.f k false bt335.1 bt335.2.1).bind fun t342 => (some t342))))) = some r := H
        have A41 := Aside0.mk A410
        clear A410
        replace H := Option.bind_eq_some_iff.mp H
        obtain ⟨t334, A420, H⟩ := H
        replace H : ((lysimeterref1_over.f k t333 t334).bind fun bt335 => (if bt335.2.2 = true then ((lysimeterref1_more.f bt335.1 bt335.2.1).bind fun bt339 => ((lysimeterref1_back.f k false bt339.1 bt339.2).bind fun t341 => (some t341))) else ((lysimeterref1_back.f k false bt335.1 bt335.2.1).bind fun t342 => (some t342)))) = some r := H
        have A42 := Aside0.mk A420
        clear A420
        replace H := Option.bind_eq_some_iff.mp H
        obtain ⟨⟨t335, t336, t337⟩, A430, H⟩ := H
        replace H : (if t337 = true then ((lysimeterref1_more.f t335 t336).bind fun bt339 => ((lysimeterref1_back.f k false bt339.1 bt339.2).bind fun t341 => (some t341))) else ((lysimeterref1_back.f k false t335 t336).bind fun t342 => (some t342))) = some r := H
        have A43 := Aside0.mk A430
        clear A430
        by_cases c44 : t337 = true
        · subst c44
          have H1 : ((lysimeterref1_more.f t335 t336).bind fun bt339 => ((lysimeterref1_back.f k false bt339.1 bt339.2).bind fun t341 => (some t341))) = some r := by rw [if_pos rfl] at H; exact H
          clear H
          have H := H1
          clear H1
          replace H := Option.bind_eq_some_iff.mp H
          obtain ⟨⟨t339, t340⟩, A450, H⟩ := H
          replace H : ((lysimeterref1_back.f k false t339 t340).bind fun t341 => (some t341)) = some r := H
          have A45 := Aside0.mk A450
          clear A450
          replace H := Option.bind_eq_some_iff.mp H
          obtain ⟨t341, A460, H⟩ := H
          replace H : (some t341) = some r := H
          have A46 := Aside0.mk A460
          clear A460
          obtain rfl := Option.some.inj H
          go_enter Try.func93, Try.ntmps93
          go_wp2_with (first | ((with_reducible refine gate_callee (f := 106) rfl ?_); refine goesL_ (some 19) rfl rfl Try.func106 (by kernel_rfl) rfl #[.int .i64 a0] rfl (by (try simp only [List.map_toArray, List.map_cons, List.map_nil]); first | done | rfl | (simp only [List.length_drop, List.length_take]; rfl)) ?_; (with_reducible refine (lysimeterref1_size.calls a0 t333 _ A41.out).mono ?_); rintro e w' ⟨rfl, ⟨nd, rfl⟩⟩; refine ⟨_, rfl, ?_⟩) | ((with_reducible refine gate_callee (f := 106) rfl ?_); refine goesL_ (some 21) rfl rfl Try.func106 (by kernel_rfl) rfl #[.int .i64 a1] rfl (by (try simp only [List.map_toArray, List.map_cons, List.map_nil]); first | done | rfl | (simp only [List.length_drop, List.length_take]; rfl)) ?_; (with_reducible refine (lysimeterref1_size.calls a1 t334 _ A42.out).mono ?_); rintro e w' ⟨rfl, ⟨nd, rfl⟩⟩; refine ⟨_, rfl, ?_⟩) | ((with_reducible refine gate_callee (f := 105) rfl ?_); refine goesL_ (some 22) rfl rfl Try.func105 (by kernel_rfl) rfl #[.int .u64 t333, .int .u64 t334] rfl (by (try simp only [List.map_toArray, List.map_cons, List.map_nil]); first | done | rfl | (simp only [List.length_drop, List.length_take]; rfl)) ?_; (with_reducible refine (lysimeterref1_over.calls k t333 t334 t335 t336 true _ A43.out).mono ?_); rintro e w47 ⟨rfl, hb⟩; refine ⟨_, rfl, ?_⟩; have n0_ := Aside0.mk (below_step (by repeat (first | (with_reducible first | exact HB.out | apply below_alloc | apply pw_below_drewN | apply below_drew1) | exact HB.out)) hb); clear HB; have HB := n0_; clear n0_; (try clear hb); (try clear hb2); (try clear hk); (try clear hi)) | ((with_reducible refine gate_dst (N := 6) rfl ?_); refine box_event ?hg (N := 6) ?hd (cs := #[.int .u64 0, .int .u64 0]) (t := 136) ?hr ?_; (case hd => rfl); (case hg => rfl); (case hr => first | (go_simp; done) | (go_simp; rfl)); intro gb338 hg w48 hbox hb; have n0_ := Aside0.mk (below_step (by repeat (first | (with_reducible first | exact HB.out | apply below_alloc | apply pw_below_drewN | apply below_drew1) | exact HB.out)) hb); have n1_ := Aside0.mk (hbox); have n2_ := Aside0.mk ((by rw [hg]; exact (below_size (by repeat (first | (with_reducible first | exact HB.out | apply below_alloc | apply pw_below_drewN | apply below_drew1) | exact HB.out))) : w.heap.size ≤ gb338)); have n3_ := Aside0.mk ((by rw [hg]; exact (below_size (by repeat (first | (with_reducible first | exact HB.out | apply below_alloc | apply pw_below_drewN | apply below_drew1) | exact HB.out))) : w.heap.size ≤ gb338)); clear HB; have HB := n0_; have BK338 := n1_; have GW338 := n2_; have GE338 := n3_; clear n0_ n1_ n2_ n3_; clear hb hbox hg; have hcz49_0 : w48.cell? ⟨gb338, 0, none⟩ = some (.int .u64 0) := (blk_cell BK338.out 0).trans rfl; have hcz49_1 : w48.cell? ⟨gb338, 1, none⟩ = some (.int .u64 0) := (blk_cell BK338.out 1).trans rfl; have hfz49_0 := blk_frozen BK338.out 0; have hfz49_1 := blk_frozen BK338.out 1) | ((with_reducible refine gate_callee (f := 107) rfl ?_); refine goesL_ (some 31) rfl rfl Try.func107 (by kernel_rfl) rfl #[.agg #[.int .u64 t335, .int .u64 t336]] rfl (by (try simp only [List.map_toArray, List.map_cons, List.map_nil]); first | done | rfl | (simp only [List.length_drop, List.length_take]; rfl)) ?_; (with_reducible refine (lysimeterref1_more.calls t335 t336 t339 t340 _ A45.out).mono ?_); rintro e w50 ⟨rfl, hb⟩; refine ⟨_, rfl, ?_⟩; have n0_ := Aside0.mk (blk_below (g := gb338) (o := .cells #[.int .u64 t335, .int .u64 t336] 136 (0, 0)) (by (with_reducible repeat (first | refine blk_drewN ?_ _ | refine blk_drew ?_ | refine blk_alloc ?_ _)); refine blk_put (cs := #[.int .u64 t335, .int .u64 0]) ?_ 1 _ rfl; (with_reducible repeat (first | refine blk_drewN ?_ _ | refine blk_drew ?_ | refine blk_alloc ?_ _)); refine blk_put (cs := #[.int .u64 0, .int .u64 0]) ?_ 0 _ rfl; (with_reducible repeat (first | refine blk_drewN ?_ _ | refine blk_drew ?_ | refine blk_alloc ?_ _)); exact BK338.out) hb); have n1_ := Aside0.mk (below_step (by repeat (first | (with_reducible first | exact HB.out | apply below_alloc | apply pw_below_drewN | apply below_drew1 | refine below_set ?_ GE338.out) | exact HB.out)) hb); clear BK338; clear HB; have BK338 := n0_; have HB := n1_; clear n0_ n1_; (try clear hb); (try clear hb2); (try clear hk); (try clear hi); have hcz51_0 : w50.cell? ⟨gb338, 0, none⟩ = some (.int .u64 t335) := (blk_cell BK338.out 0).trans rfl; have hcz51_1 : w50.cell? ⟨gb338, 1, none⟩ = some (.int .u64 t336) := (blk_cell BK338.out 1).trans rfl; have hfz51_0 := blk_frozen BK338.out 0; have hfz51_1 := blk_frozen BK338.out 1) | ((with_reducible refine gate_callee (f := 108) rfl ?_); refine goesL_ (some 34) rfl rfl Try.func108 (by kernel_rfl) rfl #[.bool false, .agg #[.int .u64 t339, .int .u64 t340]] rfl (by (try simp only [List.map_toArray, List.map_cons, List.map_nil]); first | done | rfl | (simp only [List.length_drop, List.length_take]; rfl)) ?_; (with_reducible refine (lysimeterref1_back.calls k false t339 t340 t341 _ A46.out).mono ?_); rintro e w52 ⟨rfl, hb⟩; refine ⟨_, rfl, ?_⟩; have n0_ := Aside0.mk (blk_below (g := gb338) (o := .cells #[.int .u64 t339, .int .u64 t340] 136 (0, 0)) (by (with_reducible repeat (first | refine blk_drewN ?_ _ | refine blk_drew ?_ | refine blk_alloc ?_ _)); refine blk_put (cs := #[.int .u64 t339, .int .u64 t336]) ?_ 1 _ rfl; (with_reducible repeat (first | refine blk_drewN ?_ _ | refine blk_drew ?_ | refine blk_alloc ?_ _)); refine blk_put (cs := #[.int .u64 t335, .int .u64 t336]) ?_ 0 _ rfl; (with_reducible repeat (first | refine blk_drewN ?_ _ | refine blk_drew ?_ | refine blk_alloc ?_ _)); exact BK338.out) hb); have n1_ := Aside0.mk (below_step (by repeat (first | (with_reducible first | exact HB.out | apply below_alloc | apply pw_below_drewN | apply below_drew1 | refine below_set ?_ GE338.out) | exact HB.out)) hb); clear BK338; clear HB; have BK338 := n0_; have HB := n1_; clear n0_ n1_; (try clear hb); (try clear hb2); (try clear hk); (try clear hi)))
          go_ret
          exact ⟨by first | rfl | (simp [errW_none, errW_some] <;> rfl) | (simp [*, errW_none, errW_some] <;> rfl), by repeat (first | (with_reducible first | exact HB.out | apply below_alloc | apply pw_below_drewN | apply below_drew1 | refine below_set ?_ GE338.out) | exact HB.out)⟩
        · replace c44 := Bool.eq_false_iff.mpr c44
          subst c44
          have H1 : ((lysimeterref1_back.f k false t335 t336).bind fun t342 => (some t342)) = some r := by rw [if_neg (show ¬ (false = true) by decide)] at H; exact H
          clear H
          have H := H1
          clear H1
          replace H := Option.bind_eq_some_iff.mp H
          obtain ⟨t342, A530, H⟩ := H
          replace H : (some t342) = some r := H
          have A53 := Aside0.mk A530
          clear A530
          obtain rfl := Option.some.inj H
          go_enter Try.func93, Try.ntmps93
          go_wp2_with (first | ((with_reducible refine gate_callee (f := 106) rfl ?_); refine goesL_ (some 19) rfl rfl Try.func106 (by kernel_rfl) rfl #[.int .i64 a0] rfl (by (try simp only [List.map_toArray, List.map_cons, List.map_nil]); first | done | rfl | (simp only [List.length_drop, List.length_take]; rfl)) ?_; (with_reducible refine (lysimeterref1_size.calls a0 t333 _ A41.out).mono ?_); rintro e w' ⟨rfl, ⟨nd, rfl⟩⟩; refine ⟨_, rfl, ?_⟩) | ((with_reducible refine gate_callee (f := 106) rfl ?_); refine goesL_ (some 21) rfl rfl Try.func106 (by kernel_rfl) rfl #[.int .i64 a1] rfl (by (try simp only [List.map_toArray, List.map_cons, List.map_nil]); first | done | rfl | (simp only [List.length_drop, List.length_take]; rfl)) ?_; (with_reducible refine (lysimeterref1_size.calls a1 t334 _ A42.out).mono ?_); rintro e w' ⟨rfl, ⟨nd, rfl⟩⟩; refine ⟨_, rfl, ?_⟩) | ((with_reducible refine gate_callee (f := 105) rfl ?_); refine goesL_ (some 22) rfl rfl Try.func105 (by kernel_rfl) rfl #[.int .u64 t333, .int .u64 t334] rfl (by (try simp only [List.map_toArray, List.map_cons, List.map_nil]); first | done | rfl | (simp only [List.length_drop, List.length_take]; rfl)) ?_; (with_reducible refine (lysimeterref1_over.calls k t333 t334 t335 t336 false _ A43.out).mono ?_); rintro e w54 ⟨rfl, hb⟩; refine ⟨_, rfl, ?_⟩; have n0_ := Aside0.mk (below_step (by repeat (first | (with_reducible first | exact HB.out | apply below_alloc | apply pw_below_drewN | apply below_drew1) | exact HB.out)) hb); clear HB; have HB := n0_; clear n0_; (try clear hb); (try clear hb2); (try clear hk); (try clear hi)) | ((with_reducible refine gate_dst (N := 6) rfl ?_); refine box_event ?hg (N := 6) ?hd (cs := #[.int .u64 0, .int .u64 0]) (t := 136) ?hr ?_; (case hd => rfl); (case hg => rfl); (case hr => first | (go_simp; done) | (go_simp; rfl)); intro gb338 hg w55 hbox hb; have n0_ := Aside0.mk (below_step (by repeat (first | (with_reducible first | exact HB.out | apply below_alloc | apply pw_below_drewN | apply below_drew1) | exact HB.out)) hb); have n1_ := Aside0.mk (hbox); have n2_ := Aside0.mk ((by rw [hg]; exact (below_size (by repeat (first | (with_reducible first | exact HB.out | apply below_alloc | apply pw_below_drewN | apply below_drew1) | exact HB.out))) : w.heap.size ≤ gb338)); have n3_ := Aside0.mk ((by rw [hg]; exact (below_size (by repeat (first | (with_reducible first | exact HB.out | apply below_alloc | apply pw_below_drewN | apply below_drew1) | exact HB.out))) : w.heap.size ≤ gb338)); clear HB; have HB := n0_; have BK338 := n1_; have GW338 := n2_; have GE338 := n3_; clear n0_ n1_ n2_ n3_; clear hb hbox hg; have hcz56_0 : w55.cell? ⟨gb338, 0, none⟩ = some (.int .u64 0) := (blk_cell BK338.out 0).trans rfl; have hcz56_1 : w55.cell? ⟨gb338, 1, none⟩ = some (.int .u64 0) := (blk_cell BK338.out 1).trans rfl; have hfz56_0 := blk_frozen BK338.out 0; have hfz56_1 := blk_frozen BK338.out 1) | ((with_reducible refine gate_callee (f := 108) rfl ?_); refine goesL_ (some 34) rfl rfl Try.func108 (by kernel_rfl) rfl #[.bool false, .agg #[.int .u64 t335, .int .u64 t336]] rfl (by (try simp only [List.map_toArray, List.map_cons, List.map_nil]); first | done | rfl | (simp only [List.length_drop, List.length_take]; rfl)) ?_; (with_reducible refine (lysimeterref1_back.calls k false t335 t336 t342 _ A53.out).mono ?_); rintro e w57 ⟨rfl, hb⟩; refine ⟨_, rfl, ?_⟩; have n0_ := Aside0.mk (blk_below (g := gb338) (o := .cells #[.int .u64 t335, .int .u64 t336] 136 (0, 0)) (by (with_reducible repeat (first | refine blk_drewN ?_ _ | refine blk_drew ?_ | refine blk_alloc ?_ _)); refine blk_put (cs := #[.int .u64 t335, .int .u64 0]) ?_ 1 _ rfl; (with_reducible repeat (first | refine blk_drewN ?_ _ | refine blk_drew ?_ | refine blk_alloc ?_ _)); refine blk_put (cs := #[.int .u64 0, .int .u64 0]) ?_ 0 _ rfl; (with_reducible repeat (first | refine blk_drewN ?_ _ | refine blk_drew ?_ | refine blk_alloc ?_ _)); exact BK338.out) hb); have n1_ := Aside0.mk (below_step (by repeat (first | (with_reducible first | exact HB.out | apply below_alloc | apply pw_below_drewN | apply below_drew1 | refine below_set ?_ GE338.out) | exact HB.out)) hb); clear BK338; clear HB; have BK338 := n0_; have HB := n1_; clear n0_ n1_; (try clear hb); (try clear hb2); (try clear hk); (try clear hi)))
          go_ret
          exact ⟨by first | rfl | (simp [errW_none, errW_some] <;> rfl) | (simp [*, errW_none, errW_some] <;> rfl), by repeat (first | (with_reducible first | exact HB.out | apply below_alloc | apply pw_below_drewN | apply below_drew1 | refine below_set ?_ GE338.out) | exact HB.out)⟩
def lysimeterref1_Ceil.f (a0 : Int) : Option (Int) := if (Go.bits .and .i64 a0 4294967295) = 0 then (some (a0 / 4294967296)) else (some (wrap64 ((a0 / 4294967296) + 1)))
set_option maxHeartbeats 8000000 in
set_option maxRecDepth 100000 in
theorem lysimeterref1_Ceil.calls (a0 : Int) (r : Int) (w : World) (h : lysimeterref1_Ceil.f a0 = some r) :
    Calls Try.prog 92 #[.int .i64 a0] w fun e w' => e = .returned (.int .i64 r) ∧ Drawn0 w w' := by
  have H : (if (Go.bits .and .i64 a0 4294967295) = 0 then (some (a0 / 4294967296)) else (some (wrap64 ((a0 / 4294967296) + 1)))) = some r := h
  clear h
  by_cases c2 : (Go.bits .and .i64 a0 4294967295) = 0
  · rw [if_pos c2] at H
    have c2b0 : ((Go.bits .and .i64 a0 4294967295) == 0) = true := beq_iff_eq.mpr c2
    have c2b1 : ((Go.bits .and .i64 a0 4294967295) != 0) = false := bne_eq_false_iff_eq.mpr c2
    clear c2
    obtain rfl := Option.some.inj H
    go_enter Try.func92, Try.ntmps92
    go_wp2
    go_ret
    exact ⟨by first | rfl | (simp; done) | (simp [*]; done), by repeat (first | exact Drawn0.refl _ | apply Drawn0.step)⟩
  · rw [if_neg c2] at H
    have c2b0 : ((Go.bits .and .i64 a0 4294967295) == 0) = false := beq_eq_false_iff_ne.mpr c2
    have c2b1 : ((Go.bits .and .i64 a0 4294967295) != 0) = true := bne_iff_ne.mpr c2
    obtain rfl := Option.some.inj H
    go_enter Try.func92, Try.ntmps92
    go_wp2
    go_ret
    exact ⟨by first | rfl | (simp; done) | (simp [*]; done), by repeat (first | exact Drawn0.refl _ | apply Drawn0.step)⟩
def lysimeterref1_Clamp.f (a0 : Int) (a1 : Int) (a2 : Int) : Option (Int) := if a0 < a1 then (some a1) else (if a0 > a2 then (some a2) else (some a0))
set_option maxHeartbeats 8000000 in
set_option maxRecDepth 100000 in
theorem lysimeterref1_Clamp.calls (a0 : Int) (a1 : Int) (a2 : Int) (r : Int) (w : World) (h : lysimeterref1_Clamp.f a0 a1 a2 = some r) :
    Calls Try.prog 88 #[.int .i64 a0, .int .i64 a1, .int .i64 a2] w fun e w' => e = .returned (.int .i64 r) ∧ Drawn0 w w' := by
  have H : (if a0 < a1 then (some a1) else (if a0 > a2 then (some a2) else (some a0))) = some r := h
  clear h
  by_cases c4 : a0 < a1
  · rw [if_pos c4] at H
    have c4b0 : decide (a0 < a1) = true := decide_eq_true c4
    clear c4
    obtain rfl := Option.some.inj H
    go_enter Try.func88, Try.ntmps88
    go_wp2
    go_ret
    exact ⟨by first | rfl | (simp; done) | (simp [*]; done), by repeat (first | exact Drawn0.refl _ | apply Drawn0.step)⟩
  · rw [if_neg c4] at H
    have c4b0 : decide (a0 < a1) = false := decide_eq_false c4
    clear c4
    by_cases c5 : a0 > a2
    · rw [if_pos c5] at H
      have c5b0 : decide (a2 < a0) = true := decide_eq_true c5
      clear c5
      obtain rfl := Option.some.inj H
      go_enter Try.func88, Try.ntmps88
      go_wp2
      go_ret
      exact ⟨by first | rfl | (simp; done) | (simp [*]; done), by repeat (first | exact Drawn0.refl _ | apply Drawn0.step)⟩
    · rw [if_neg c5] at H
      have c5b0 : decide (a2 < a0) = false := decide_eq_false c5
      clear c5
      obtain rfl := Option.some.inj H
      go_enter Try.func88, Try.ntmps88
      go_wp2
      go_ret
      exact ⟨by first | rfl | (simp; done) | (simp [*]; done), by repeat (first | exact Drawn0.refl _ | apply Drawn0.step)⟩
end Go.Proofs.Ytemnfnbjapobcaa.Fix
end
section
namespace Go.Proofs.Ytemnfnbjapobcaa.FS
open Go.RowKit Go.Proofs.Ytemnfnbjapobcaa.Fix Go.Proofs.Ytemnfnbjapobcaa.FM Go.Proofs.YtemnfnbjapobcaaW.PrintWords Go.Proofs.YtemnfnbjapobcaaW.PrintLast Go.Proofs.YtemnfnbjapobcaaW.PrintMore
def In (x : Int) : Prop := -9223372036854775808 ≤ x ∧ x ≤ 9223372036854775807
theorem in_sat (z : Int) : In (sat z) := ⟨sat_ge z, sat_le z⟩
theorem add_eq {k : Nat} (hk : 400 ≤ k) {a b : Int} (ha : In a) (hb : In b) : fixed_Add.f k a b = some (sat (a + b)) := by
  obtain ⟨k, rfl⟩ : ∃ m, k = m + 1 := ⟨k - 1, by omega⟩
  obtain ⟨a0, a1⟩ := ha
  obtain ⟨b0, b1⟩ := hb
  unfold fixed_Add.f
  simp only [fixed_Add.j0]
  unfold wrap64 sat
  repeat' split
  all_goals first | (congr 1; omega) | (simp_all; done) | (simp_all; omega)
theorem sub_eq {k : Nat} (hk : 400 ≤ k) {a b : Int} (ha : In a) (hb : In b) : fixed_Sub.f k a b = some (sat (a - b)) := by
  obtain ⟨k, rfl⟩ : ∃ m, k = m + 1 := ⟨k - 1, by omega⟩
  obtain ⟨a0, a1⟩ := ha
  obtain ⟨b0, b1⟩ := hb
  unfold fixed_Sub.f
  simp only [fixed_Sub.j0]
  unfold wrap64 sat
  repeat' split
  all_goals first | (congr 1; omega) | (simp_all; done) | (simp_all; omega)
theorem of_eq {n : Int} (_hn : In n) : fixed_Of.f n = some (sat (n * 4294967296)) := by
  unfold fixed_Of.f wrap64 sat
  repeat' split
  all_goals first | rfl | (congr 1; omega) | omega
theorem ceil_eq {x : Int} (hx : In x) : fixed_Ceil.f x = some (-(-x / 4294967296)) := by
  obtain ⟨a0, a1⟩ := hx
  unfold fixed_Ceil.f wrap64
  repeat' split
  all_goals first | rfl | (congr 1; omega) | omega
theorem rceil_eq {x : Int} (hx : In x) : lysimeterref1_Ceil.f x = some (-(-x / 4294967296)) := by
  obtain ⟨a0, a1⟩ := hx
  unfold lysimeterref1_Ceil.f
  rw [and_i64_low]
  unfold wrap64
  repeat' split
  all_goals first | rfl | (congr 1; omega) | omega
theorem size_eq {a : Int} (ha : In a) : fixed_size.f a = some (sz a) := by
  obtain ⟨a0, a1⟩ := ha
  unfold fixed_size.f sz
  simp only [u64w]
  repeat' split
  all_goals (congr 1; omega)
theorem rsize_eq {a : Int} (ha : In a) : lysimeterref1_size.f a = some (sz a) := by
  obtain ⟨a0, a1⟩ := ha
  unfold lysimeterref1_size.f sz wrap64
  simp only [u64w]
  repeat' split
  all_goals (congr 1; omega)
theorem rounded_eq (m : Int) (h0 : 0 ≤ m) (more : Bool) : fixed_rounded.f (m % 18446744073709551616) (decide (18446744073709551616 ≤ m)) more =
    some ((m + if more then 1 else 0) % 18446744073709551616, decide (18446744073709551616 ≤ m + if more then 1 else 0)) := by
  unfold fixed_rounded.f
  simp only [u64w]
  cases more
  · simp
  · by_cases h : 18446744073709551616 ≤ m
    · simp only [if_true, h]
      have h2 : 18446744073709551616 ≤ m + 1 := by omega
      simp [h2]
    · simp only [if_true, decide_eq_false h]
      simp only [Bool.false_eq_true, if_false]
      congr 2
      · omega
      · rw [Bool.eq_iff_iff]; simp; omega
theorem signed_eq {k : Nat} (hk : 1 ≤ k) (m : Int) (h0 : 0 ≤ m) (below : Bool) : fixed_signed.f k (m % 18446744073709551616) (decide (18446744073709551616 ≤ m)) below = some (sat (if below then -m else m)) := by
  obtain ⟨k, rfl⟩ : ∃ q, k = q + 1 := ⟨k - 1, by omega⟩
  unfold fixed_signed.f
  simp only [fixed_signed.j0]
  unfold wrap64 sat
  cases below
  · by_cases h : 18446744073709551616 ≤ m
    · simp [h]
      repeat' split
      all_goals first | done | rfl | omega
    · simp [h]
      repeat' split
      all_goals first | rfl | (congr 1; omega) | omega | (simp; omega)
  · by_cases h : 18446744073709551616 ≤ m
    · simp [h]
      repeat' split
      all_goals first | done | rfl | omega
    · simp [h]
      repeat' split
      all_goals first | rfl | (congr 1; omega) | omega | (simp; omega)
theorem back_eq {k : Nat} (hk : 1 ≤ k) (hi lo : Int) (h0 : 0 ≤ hi) (l0 : 0 ≤ lo) (l1 : lo < 18446744073709551616) (neg : Bool) : lysimeterref1_back.f k neg hi lo = some (sat (if neg then -(hi * 18446744073709551616 + lo) else hi * 18446744073709551616 + lo)) := by
  obtain ⟨k, rfl⟩ : ∃ q, k = q + 1 := ⟨k - 1, by omega⟩
  unfold lysimeterref1_back.f
  simp only [lysimeterref1_back.j0]
  unfold wrap64 sat
  cases neg
  · simp
    repeat' split
    all_goals first | done | rfl | (congr 1; omega) | omega
  · simp
    repeat' split
    all_goals first | done | rfl | (congr 1; omega) | omega
theorem more_eq (hi lo : Int) (h0 : 0 ≤ hi) (h1 : hi < 18446744073709551615) (l0 : 0 ≤ lo) (l1 : lo < 18446744073709551616) :
    ∃ hi' lo', lysimeterref1_more.f hi lo = some (hi', lo') ∧ 0 ≤ hi' ∧ 0 ≤ lo' ∧ lo' < 18446744073709551616 ∧ hi' * 18446744073709551616 + lo' = hi * 18446744073709551616 + lo + 1 := by
  unfold lysimeterref1_more.f
  simp only [u64w]
  by_cases h : (lo + 1) % 18446744073709551616 = 0
  · rw [if_pos h]
    exact ⟨_, _, rfl, by omega, by omega, by omega, by omega⟩
  · rw [if_neg h]
    exact ⟨_, _, rfl, by omega, by omega, by omega, by omega⟩
theorem prod_bd {x y m : Int} (hx0 : 0 ≤ x) (hx : x ≤ m) (hy0 : 0 ≤ y) (hy : y ≤ m) : 0 ≤ x * y ∧ x * y ≤ m * m :=
  ⟨Int.mul_nonneg hx0 hy0, Int.mul_le_mul hx hy hy0 (by omega)⟩
theorem mul_parts (P : Int) (_h0 : 0 ≤ P) : Go.bits .or .u64 (IntKind.u64.wrap (P / 18446744073709551616 * 4294967296)) (P % 18446744073709551616 / 4294967296) = (P / 4294967296) % 18446744073709551616 := by
  rw [u64w, or_join _ _ (by omega) (by omega) (by omega) (by omega) (by omega)]
  omega
theorem mul_over (P : Int) (_h0 : 0 ≤ P) : ((P / 18446744073709551616 / 4294967296) != 0) = decide (18446744073709551616 ≤ P / 4294967296) := by
  rw [Bool.eq_iff_iff]; simp; omega
theorem mul_rest (P : Int) (_h0 : 0 ≤ P) : ((IntKind.u64.wrap (P % 18446744073709551616 * 4294967296)) != 0) = decide (P % 4294967296 ≠ 0) := by
  rw [u64w, Bool.eq_iff_iff]; simp; omega
theorem sz_mul {a b : Int} : a * b = if (decide (a < 0) != decide (b < 0)) then -(sz a * sz b) else sz a * sz b := by
  unfold sz
  by_cases h1 : a < 0 <;> by_cases h2 : b < 0 <;> simp [h1, h2, Int.neg_mul, Int.mul_neg]
theorem mul_floor (P : Int) (_h0 : 0 ≤ P) : -P / 4294967296 = -(P / 4294967296 + if P % 4294967296 ≠ 0 then 1 else 0) := by
  split <;> omega
theorem mul64_eq {a b : Int} (ha : In a) (hb : In b) : bits_Mul64.f (sz a) (sz b) = some (sz a * sz b / 18446744073709551616, sz a * sz b % 18446744073709551616) := by
  have a0 := sz_nonneg a
  have b0 := sz_nonneg b
  have a1 := sz_le ha.1 ha.2
  have b1 := sz_le hb.1 hb.2
  unfold bits_Mul64.f
  rw [if_pos ⟨a0, by omega, b0, by omega⟩]
theorem mul_eq {k : Nat} (hk : 400 ≤ k) {a b : Int} (ha : In a) (hb : In b) : fixed_Mul.f k a b = some (sat (a * b / 4294967296)) := by
  have hP := Int.mul_nonneg (sz_nonneg a) (sz_nonneg b)
  unfold fixed_Mul.f
  simp only [size_eq ha, size_eq hb, Option.bind_some, mul64_eq ha hb, mul_parts _ hP, mul_over _ hP, mul_rest _ hP]
  have q0 : 0 ≤ sz a * sz b / 4294967296 := by omega
  simp only [rounded_eq _ q0, Option.bind_some]
  have e := @sz_mul a b
  have hf := mul_floor (sz a * sz b) hP
  by_cases h1 : a < 0
  · by_cases h2 : b < 0
    · rw [if_pos h1, if_pos h2, signed_eq (by omega) _ (by omega)]
      simp [h1, h2] at e
      rw [e]; simp
    · rw [if_pos h1, if_neg h2, signed_eq (by omega) _ (by split <;> omega)]
      simp [h1, h2] at e
      rw [e, hf]; simp
  · by_cases h2 : b < 0
    · rw [if_neg h1, if_pos h2, signed_eq (by omega) _ (by split <;> omega)]
      simp [h1, h2] at e
      rw [e, hf]; simp
    · rw [if_neg h1, if_neg h2, signed_eq (by omega) _ (by omega)]
      simp [h1, h2] at e
      rw [e]; simp
end Go.Proofs.Ytemnfnbjapobcaa.FS
end
section
namespace Go.Proofs.Ytemnfnbjapobcaa.FS
open Go.RowKit Go.Proofs.Ytemnfnbjapobcaa.Fix Go.Proofs.Ytemnfnbjapobcaa.FM Go.Proofs.YtemnfnbjapobcaaW.PrintWords Go.Proofs.YtemnfnbjapobcaaW.PrintLast Go.Proofs.YtemnfnbjapobcaaW.PrintMore
structure Dig (y yn1 yn0 un32 un1 q r : Int) : Prop where
  hy : y = yn1 * 4294967296 + yn0
  hn1 : 2147483648 ≤ yn1
  hn1' : yn1 < 4294967296
  hn0 : 0 ≤ yn0
  hn0' : yn0 < 4294967296
  hu : 0 ≤ un32
  huy : un32 < y
  h1 : 0 ≤ un1
  h1' : un1 < 4294967296
  q0 : 0 ≤ q
  q1 : q ≤ 4294967297
  rr : q * yn1 + r = un32
  r0 : 0 ≤ r
  r1 : r < 4294967296
  up : un32 * 4294967296 + un1 < q * y + y
theorem Dig.qy {y yn1 yn0 un32 un1 q r : Int} (h : Dig y yn1 yn0 un32 un1 q r) : q * y = (un32 - r) * 4294967296 + q * yn0 := by
  have a := h.hy
  have b := h.rr
  rw [a]; grind
theorem Dig.ypos {y yn1 yn0 un32 un1 q r : Int} (h : Dig y yn1 yn0 un32 un1 q r) : 0 < y := by
  have a := h.hy; have b := h.hn1; have c := h.hn0; omega
theorem Dig.no {y yn1 yn0 un32 un1 q r : Int} (h : Dig y yn1 yn0 un32 un1 q r) (hc : q * yn0 ≤ 4294967296 * r + un1) : q = (un32 * 4294967296 + un1) / y := by
  have hq := h.qy
  have h1 : q ≤ (un32 * 4294967296 + un1) / y := (Int.le_ediv_iff_mul_le h.ypos).2 (by omega)
  have h2 : (un32 * 4294967296 + un1) / y < q + 1 := (Int.ediv_lt_iff_lt_mul h.ypos).2 (by
    have := h.up
    have e : (q + 1) * y = q * y + y := by grind
    omega)
  omega
theorem Dig.yes {y yn1 yn0 un32 un1 q r : Int} (h : Dig y yn1 yn0 un32 un1 q r) (hc : 4294967296 ≤ q ∨ 4294967296 * r + un1 < q * yn0) : un32 * 4294967296 + un1 < q * y ∧ 1 ≤ q := by
  have hy := h.ypos
  have a1 := h.huy; have a2 := h.h1'; have a3 := h.hu; have a4 := h.h1
  have key : un32 * 4294967296 + un1 < q * y := by
    rcases hc with hc | hc
    · have := Int.mul_le_mul_of_nonneg_right hc (Int.le_of_lt hy)
      omega
    · have hq := h.qy
      omega
  refine ⟨key, ?_⟩
  by_cases hz : q ≤ 0
  · have hq0 := h.q0
    obtain rfl : q = 0 := by omega
    omega
  · omega
theorem Dig.next {y yn1 yn0 un32 un1 q r : Int} (h : Dig y yn1 yn0 un32 un1 q r) (hc : 4294967296 ≤ q ∨ 4294967296 * r + un1 < q * yn0) (hr : r + yn1 < 4294967296) : Dig y yn1 yn0 un32 un1 (q - 1) (r + yn1) := by
  obtain ⟨k1, k2⟩ := h.yes hc
  have e1 : (q - 1) * y = q * y - y := by grind
  have e2 : (q - 1) * yn1 = q * yn1 - yn1 := by grind
  exact { h with q0 := by omega, q1 := by have := h.q1; omega, rr := by have := h.rr; omega, r0 := by have := h.r0; have := h.hn1; omega, r1 := hr, up := by omega }
theorem Dig.stop {y yn1 yn0 un32 un1 q r : Int} (h : Dig y yn1 yn0 un32 un1 q r) (hc : 4294967296 ≤ q ∨ 4294967296 * r + un1 < q * yn0) (hr : 4294967296 ≤ r + yn1) : q - 1 = (un32 * 4294967296 + un1) / y := by
  obtain ⟨k1, k2⟩ := h.yes hc
  have hq := h.qy
  have e1 : (q - 1) * y = q * y - y := by grind
  have e3 : (q - 1) * yn0 = q * yn0 - yn0 := by grind
  have hm : (q - 1) * yn0 ≤ 4294967296 * 4294967295 := Int.mul_le_mul (by have := h.q1; omega) (by have := h.hn0'; omega) h.hn0 (by decide)
  have a1 := h.hy; have a2 := h.h1
  have h1 : q - 1 ≤ (un32 * 4294967296 + un1) / y := (Int.le_ediv_iff_mul_le h.ypos).2 (by omega)
  have h2 : (un32 * 4294967296 + un1) / y < q := (Int.ediv_lt_iff_lt_mul h.ypos).2 (by omega)
  omega
theorem Dig.start {y yn1 yn0 un32 un1 : Int} (hy : y = yn1 * 4294967296 + yn0) (hn1 : 2147483648 ≤ yn1) (hn1' : yn1 < 4294967296) (hn0 : 0 ≤ yn0) (hn0' : yn0 < 4294967296) (hu : 0 ≤ un32) (huy : un32 < y) (h1 : 0 ≤ un1) (h1' : un1 < 4294967296) :
    Dig y yn1 yn0 un32 un1 (un32 / yn1) (un32 - un32 / yn1 * yn1) := by
  have hp : 0 < yn1 := by omega
  have d1 := Int.emod_add_mul_ediv un32 yn1
  have d2 := Int.emod_nonneg un32 (show yn1 ≠ 0 by omega)
  have d3 := Int.emod_lt_of_pos un32 hp
  have e0 : un32 / yn1 * yn1 = yn1 * (un32 / yn1) := Int.mul_comm _ _
  have q0 : 0 ≤ un32 / yn1 := Int.ediv_nonneg hu (by omega)
  have q1 : un32 / yn1 < 4294967298 := (Int.ediv_lt_iff_lt_mul hp).2 (by omega)
  refine ⟨hy, hn1, hn1', hn0, hn0', hu, huy, h1, h1', q0, by omega, by omega, by omega, by omega, ?_⟩
  have e1 : un32 / yn1 * y + y = (yn1 * (un32 / yn1) + yn1) * 4294967296 + (un32 / yn1 * yn0 + yn0) := by rw [hy]; grind
  have e2 : 0 ≤ un32 / yn1 * yn0 := Int.mul_nonneg q0 hn0
  omega
theorem Dig.prod {y yn1 yn0 un32 un1 q r : Int} (h : Dig y yn1 yn0 un32 un1 q r) (hq : q < 4294967296) : 0 ≤ q * yn0 ∧ q * yn0 < 18446744073709551616 := by
  have := prod_bd (m := 4294967295) h.q0 (by omega) h.hn0 (by have := h.hn0'; omega)
  omega
theorem l0_eq (y s yn1 yn0 un32 un1 un0 : Int) (n : Nat) : ∀ (k : Nat) (q r : Int), 2 * n + 2 ≤ k → Dig y yn1 yn0 un32 un1 q r → 4294967296 ≤ r + n * 2147483648 →
    ∃ k', k ≤ k' + 2 * n + 2 ∧ bits_Div64.l0 k y s yn1 yn0 un32 un1 un0 q r = bits_Div64.j2 k' y s yn1 yn0 un32 un1 un0 ((un32 * 4294967296 + un1) / y) := by
  induction n with
  | zero => intro k q r _ h hm; have := h.r1; omega
  | succ n ih =>
    intro k q r hk h hm
    obtain ⟨k, rfl⟩ : ∃ m, k = m + 2 := ⟨k - 2, by omega⟩
    have hr0 := h.r0; have hr1 := h.r1; have hq0 := h.q0; have hq1 := h.q1; have b1 := h.h1; have b2 := h.h1'; have b3 := h.hn1; have b4 := h.hn1'
    have w1 : IntKind.u64.wrap (r + yn1) = r + yn1 := by rw [u64w]; omega
    have goes : (4294967296 ≤ q ∨ 4294967296 * r + un1 < q * yn0) → ∃ k', k + 2 ≤ k' + 2 * (n + 1) + 2 ∧ bits_Div64.j1 (k + 1) y s yn1 yn0 un32 un1 un0 q r true = bits_Div64.j2 k' y s yn1 yn0 un32 un1 un0 ((un32 * 4294967296 + un1) / y) := by
      intro hc
      have hq2 := (h.yes hc).2
      have w2 : IntKind.u64.wrap (q - 1) = q - 1 := by rw [u64w]; omega
      simp only [bits_Div64.j1, if_true, w1, w2]
      by_cases hs : r + yn1 ≥ 4294967296
      · rw [if_pos hs, h.stop hc hs]
        exact ⟨k, by omega, rfl⟩
      · rw [if_neg hs]
        obtain ⟨k', hk', e⟩ := ih k (q - 1) (r + yn1) (by omega) (h.next hc (by omega)) (by omega)
        exact ⟨k', by omega, e⟩
    simp only [bits_Div64.l0]
    by_cases hb : q ≥ 4294967296
    · rw [if_pos hb]
      exact goes (.inl hb)
    · rw [if_neg hb]
      have hp := h.prod (by omega)
      have w3 : IntKind.u64.wrap (q * yn0) = q * yn0 := by rw [u64w]; omega
      have w4 : IntKind.u64.wrap (IntKind.u64.wrap (4294967296 * r) + un1) = 4294967296 * r + un1 := by simp only [u64w]; omega
      rw [w3, w4]
      by_cases hc : q * yn0 > 4294967296 * r + un1
      · rw [decide_eq_true hc]
        exact goes (.inr hc)
      · rw [decide_eq_false hc]
        simp only [bits_Div64.j1]
        rw [if_neg (by decide), ← h.no (by omega)]
        exact ⟨k, by omega, rfl⟩
theorem l1_eq (y s yn1 yn0 un0 q1 un21 : Int) (hs0 : 0 ≤ s) (n : Nat) : ∀ (k : Nat) (q r : Int), 2 * n + 2 ≤ k → Dig y yn1 yn0 un21 un0 q r → 4294967296 ≤ r + n * 2147483648 →
    bits_Div64.l1 k y s yn1 yn0 un0 q1 r un21 q = some (IntKind.u64.wrap ((IntKind.u64.wrap (q1 * 4294967296)) + (un21 * 4294967296 + un0) / y), shr .u64 (IntKind.u64.wrap ((IntKind.u64.wrap ((IntKind.u64.wrap (un21 * 4294967296)) + un0)) - (IntKind.u64.wrap ((un21 * 4294967296 + un0) / y * y)))) s) := by
  induction n with
  | zero => intro k q r _ h hm; have := h.r1; omega
  | succ n ih =>
    intro k q r hk h hm
    obtain ⟨k, rfl⟩ : ∃ m, k = m + 2 := ⟨k - 2, by omega⟩
    have hr0 := h.r0; have hr1 := h.r1; have hq0 := h.q0; have hq1 := h.q1; have b1 := h.h1; have b2 := h.h1'; have b3 := h.hn1; have b4 := h.hn1'
    have w1 : IntKind.u64.wrap (r + yn1) = r + yn1 := by rw [u64w]; omega
    have goes : (4294967296 ≤ q ∨ 4294967296 * r + un0 < q * yn0) → bits_Div64.j4 (k + 1) y s yn1 yn0 un0 q1 r un21 q true = some (IntKind.u64.wrap ((IntKind.u64.wrap (q1 * 4294967296)) + (un21 * 4294967296 + un0) / y), shr .u64 (IntKind.u64.wrap ((IntKind.u64.wrap ((IntKind.u64.wrap (un21 * 4294967296)) + un0)) - (IntKind.u64.wrap ((un21 * 4294967296 + un0) / y * y)))) s) := by
      intro hc
      have hq2 := (h.yes hc).2
      have w2 : IntKind.u64.wrap (q - 1) = q - 1 := by rw [u64w]; omega
      simp only [bits_Div64.j4, if_true, w1, w2]
      by_cases hs : r + yn1 ≥ 4294967296
      · rw [if_pos hs, if_pos hs0, h.stop hc hs]
      · rw [if_neg hs]
        exact ih k (q - 1) (r + yn1) (by omega) (h.next hc (by omega)) (by omega)
    simp only [bits_Div64.l1]
    by_cases hb : q ≥ 4294967296
    · rw [if_pos hb]
      exact goes (.inl hb)
    · rw [if_neg hb]
      have hp := h.prod (by omega)
      have w3 : IntKind.u64.wrap (q * yn0) = q * yn0 := by rw [u64w]; omega
      have w4 : IntKind.u64.wrap (IntKind.u64.wrap (4294967296 * r) + un0) = 4294967296 * r + un0 := by simp only [u64w]; omega
      rw [w3, w4]
      by_cases hc : q * yn0 > 4294967296 * r + un0
      · rw [decide_eq_true hc]
        exact goes (.inr hc)
      · rw [decide_eq_false hc]
        simp only [bits_Div64.j4]
        rw [if_neg (by decide), if_pos hs0, ← h.no (by omega)]
theorem bitLenAux_le (f x : Nat) : Lib.bitLenAux f x ≤ f := by
  induction f generalizing x with
  | zero => exact Nat.le_refl _
  | succ f ih =>
    unfold Lib.bitLenAux
    split
    · omega
    · have := ih (x / 2); omega
theorem bitLenAux_spec (f : Nat) : ∀ x : Nat, x ≠ 0 → x < 2 ^ f → 1 ≤ Lib.bitLenAux f x ∧ 2 ^ (Lib.bitLenAux f x - 1) ≤ x ∧ x < 2 ^ Lib.bitLenAux f x := by
  induction f with
  | zero => intro x h0 h1; simp at h1; omega
  | succ f ih =>
    intro x h0 h1
    unfold Lib.bitLenAux
    rw [if_neg h0]
    by_cases hz : x / 2 = 0
    · have e : Lib.bitLenAux f (x / 2) = 0 := by rw [hz]; cases f <;> simp [Lib.bitLenAux]
      rw [e]
      refine ⟨by omega, ?_, ?_⟩
      · simp; omega
      · simp; omega
    · obtain ⟨g0, g1, g2⟩ := ih (x / 2) hz (by rw [Nat.pow_succ] at h1; omega)
      refine ⟨by omega, ?_, ?_⟩
      · rw [show 1 + Lib.bitLenAux f (x / 2) - 1 = (Lib.bitLenAux f (x / 2) - 1) + 1 by omega, Nat.pow_succ]; omega
      · rw [show 1 + Lib.bitLenAux f (x / 2) = Lib.bitLenAux f (x / 2) + 1 by omega, Nat.pow_succ]; omega
theorem norm (y : Int) (h0 : 0 < y) (h1 : y < 18446744073709551616) :
    ∃ s : Nat, s ≤ 63 ∧ (64 - (Lib.bitLen y.toNat : Int)) = s ∧ 9223372036854775808 ≤ y * 2 ^ s ∧ y * 2 ^ s < 18446744073709551616 := by
  obtain ⟨n, rfl⟩ := Int.eq_ofNat_of_zero_le (Int.le_of_lt h0)
  have hn0 : n ≠ 0 := by omega
  obtain ⟨g0, g1, g2⟩ := bitLenAux_spec 64 n hn0 (by omega)
  have g3 := bitLenAux_le 64 n
  have hb : Lib.bitLen (n : Int).toNat = Lib.bitLenAux 64 n := rfl
  rw [hb]
  generalize Lib.bitLenAux 64 n = L at *
  refine ⟨64 - L, by omega, by omega, ?_, ?_⟩
  · have e : 2 ^ (L - 1) * 2 ^ (64 - L) = 9223372036854775808 := by
      rw [← Nat.pow_add, show L - 1 + (64 - L) = 63 by omega]
    have := Nat.mul_le_mul_right (2 ^ (64 - L)) g1
    rw [e] at this
    have z : ((n * 2 ^ (64 - L) : Nat) : Int) = (n : Int) * 2 ^ (64 - L) := by simp
    rw [← z]
    omega
  · have e : 2 ^ L * 2 ^ (64 - L) = 18446744073709551616 := by
      rw [← Nat.pow_add, show L + (64 - L) = 64 by omega]
    have := Nat.mul_lt_mul_of_pos_right g2 (Nat.two_pow_pos (64 - L))
    rw [e] at this
    have z : ((n * 2 ^ (64 - L) : Nat) : Int) = (n : Int) * 2 ^ (64 - L) := by simp
    rw [← z]
    omega
theorem shl_eq (x : Int) (s : Nat) (hs : s ≤ 64) : shl .u64 x s = (x * 2 ^ s) % 18446744073709551616 := by
  unfold shl
  rw [u64w]
  have e : min (s : Int).toNat IntKind.u64.bits = s := by show min s 64 = s; omega
  rw [e]
theorem shr_eq (x : Int) (s : Nat) (hs : s ≤ 64) : shr .u64 x s = x / 2 ^ s := by
  unfold shr
  have e : min (s : Int).toNat IntKind.u64.bits = s := by show min s 64 = s; omega
  rw [e]
theorem div64_eq {k : Nat} (hk : 20 ≤ k) {hi lo y : Int} (h0 : 0 ≤ hi) (hy : hi < y) (hy1 : y < 18446744073709551616) (l0 : 0 ≤ lo) (l1 : lo < 18446744073709551616) :
    bits_Div64.f k hi lo y = some ((hi * 18446744073709551616 + lo) / y, (hi * 18446744073709551616 + lo) % y) := by
  unfold bits_Div64.f
  rw [if_neg (by omega), if_neg (by omega)]
  by_cases hz : hi = 0
  · rw [if_pos hz]
    subst hz
    have e1 : lo.tdiv y = lo / y := Int.tdiv_eq_ediv_of_nonneg l0
    have e2 : lo.tmod y = lo % y := Int.tmod_eq_emod_of_nonneg l0
    rw [e1, e2, u64w]
    have d1 := Int.ediv_nonneg l0 (show 0 ≤ y by omega)
    have d2 := Int.ediv_le_self y l0
    rw [Int.emod_eq_of_lt d1 (by omega)]
    simp
  rw [if_neg hz]
  obtain ⟨s, hs, es, n1, n2⟩ := norm y (by omega) hy1
  unfold bits_LeadingZeros64.f
  rw [if_pos (by omega), if_pos (by omega), es]
  simp only [Option.bind_some]
  have ws : IntKind.u64.wrap (s : Int) = s := by rw [u64w]; omega
  have ws2 : IntKind.u64.wrap (64 - (s : Int)) = ((64 - s : Nat) : Int) := by rw [u64w]; omega
  rw [ws, ws2, if_pos (by omega), if_pos (by omega)]
  simp only [shl_eq _ s (by omega), shr_eq _ (64 - s) (by omega)]
  obtain ⟨p, hp⟩ : ∃ p : Int, (2 : Int) ^ s = p := ⟨_, rfl⟩
  obtain ⟨p', hp'⟩ : ∃ p' : Int, (2 : Int) ^ (64 - s) = p' := ⟨_, rfl⟩
  have hpp : p * p' = 18446744073709551616 := by
    rw [← hp, ← hp', ← Int.pow_add, show s + (64 - s) = 64 by omega]
    decide
  have hp0 : 0 < p := by rw [← hp]; exact Int.pow_pos (by decide)
  have hp0' : 0 < p' := by rw [← hp']; exact Int.pow_pos (by decide)
  rw [hp] at n1 n2
  rw [hp, hp']
  have hyn : y * p % 18446744073709551616 = y * p := Int.emod_eq_of_lt (by omega) n2
  have hhi : hi * p % 18446744073709551616 = hi * p := by
    have := Int.mul_lt_mul_of_pos_right hy hp0
    exact Int.emod_eq_of_lt (Int.mul_nonneg h0 (by omega)) (by omega)
  rw [hyn, hhi]
  have l2 := Int.emod_add_mul_ediv lo p'
  have l3 := Int.emod_nonneg lo (show p' ≠ 0 by omega)
  have l4 := Int.emod_lt_of_pos lo hp0'
  have l5 : lo / p' < p := (Int.ediv_lt_iff_lt_mul hp0').2 (by omega)
  have l6 : 0 ≤ lo / p' := Int.ediv_nonneg l0 (by omega)
  have l7 : lo * p = (lo / p') * 18446744073709551616 + lo % p' * p := by
    have : lo * p = (lo % p' + p' * (lo / p')) * p := by rw [l2]
    rw [this, ← hpp]; grind
  have l8 : lo % p' * p < 18446744073709551616 := by
    have := Int.mul_lt_mul_of_pos_right l4 hp0
    rw [Int.mul_comm p' p, hpp] at this
    exact this
  have l9 : 0 ≤ lo % p' * p := Int.mul_nonneg l3 (by omega)
  have l10 : lo * p % 18446744073709551616 = lo % p' * p := by omega
  have h1 : hi * p + p ≤ y * p := by
    have := Int.mul_le_mul_of_nonneg_right (show hi + 1 ≤ y by omega) (show 0 ≤ p by omega)
    have e : (hi + 1) * p = hi * p + p := by grind
    omega
  have h2 : 0 ≤ hi * p := Int.mul_nonneg h0 (by omega)
  have hor : Go.bits .or .u64 (hi * p) (lo / p') = hi * p + lo / p' := by
    refine bits_join .u64 64 (by decide) wraps_u64 s _ _ h2 ?_ (by omega) l6 (by rw [hp]; exact l5) (by omega)
    rw [hp]; exact Int.mul_emod_left _ _
  rw [hor, l10]
  have hT : (hi * 18446744073709551616 + lo) * p = (hi * p + lo / p') * 18446744073709551616 + lo % p' * p := by
    have : (hi * 18446744073709551616 + lo) * p = hi * p * 18446744073709551616 + lo * p := by grind
    rw [this, l7]; grind
  have eq1 : (hi * 18446744073709551616 + lo) / y = (hi * 18446744073709551616 + lo) * p / (y * p) := (Int.mul_ediv_mul_of_pos_left _ _ hp0).symm
  have eq2 : (hi * 18446744073709551616 + lo) % y = (hi * 18446744073709551616 + lo) * p % (y * p) / p := by
    rw [Int.mul_comm _ p, Int.mul_comm y p, Int.mul_emod_mul_of_pos _ _ hp0, Int.mul_ediv_cancel_left _ (by omega)]
  rw [eq1, eq2, hT]
  have hup : hi * p + lo / p' < y * p := by omega
  have hun : 0 ≤ hi * p + lo / p' := by omega
  generalize hi * p + lo / p' = u at *
  generalize lo % p' * p = v at *
  generalize y * p = yn at *
  clear eq1 eq2 hT h1 h2 hor l2 l3 l4 l5 l6 l7 l10 hhi hyn
  rw [and_low yn (by omega) n2, and_low v l9 l8]
  rw [if_neg (by omega)]
  obtain ⟨y1, hy1⟩ : ∃ x, yn / 4294967296 = x := ⟨_, rfl⟩
  obtain ⟨y0, hy0⟩ : ∃ x, yn % 4294967296 = x := ⟨_, rfl⟩
  obtain ⟨v1, hv1⟩ : ∃ x, v / 4294967296 = x := ⟨_, rfl⟩
  obtain ⟨v0, hv0⟩ : ∃ x, v % 4294967296 = x := ⟨_, rfl⟩
  rw [hy1, hy0, hv1, hv0]
  have S := Dig.start (y := yn) (yn1 := y1) (yn0 := y0) (un32 := u) (un1 := v1) (by omega) (by omega) (by omega) (by omega) (by omega) hun hup (by omega) (by omega)
  have t1 : u.tdiv y1 = u / y1 := Int.tdiv_eq_ediv_of_nonneg hun
  have hS0 := S.q0; have hS1 := S.q1; have hSr := S.rr; have hSr0 := S.r0; have hSr1 := S.r1
  have t2 : IntKind.u64.wrap (u / y1) = u / y1 := by rw [u64w]; omega
  have t3 : IntKind.u64.wrap (u - IntKind.u64.wrap (u / y1 * y1)) = u - u / y1 * y1 := by simp only [u64w]; omega
  rw [t1, t2, t3]
  obtain ⟨k', hk', e⟩ := l0_eq yn s y1 y0 u v1 v0 2 k _ _ (by omega) S (by omega)
  rw [e]
  obtain ⟨k', rfl⟩ : ∃ m, k' = m + 1 := ⟨k' - 1, by omega⟩
  simp only [bits_Div64.j2]
  rw [if_neg (by omega)]
  have hyp : 0 < yn := by omega
  have c1 := Int.emod_add_mul_ediv (u * 4294967296 + v1) yn
  have c2 := Int.emod_nonneg (u * 4294967296 + v1) (show yn ≠ 0 by omega)
  have c3 := Int.emod_lt_of_pos (u * 4294967296 + v1) hyp
  have c4 : (u * 4294967296 + v1) / yn < 4294967296 := (Int.ediv_lt_iff_lt_mul hyp).2 (by omega)
  have c5 : 0 ≤ (u * 4294967296 + v1) / yn := Int.ediv_nonneg (by omega) (by omega)
  have c6 : (u * 4294967296 + v1) / yn * yn = yn * ((u * 4294967296 + v1) / yn) := Int.mul_comm _ _
  obtain ⟨q1, hq1⟩ : ∃ x, (u * 4294967296 + v1) / yn = x := ⟨_, rfl⟩
  obtain ⟨r1, hr1⟩ : ∃ x, (u * 4294967296 + v1) % yn = x := ⟨_, rfl⟩
  rw [hq1] at c1 c4 c5 c6 ⊢
  rw [hr1] at c1 c2 c3
  rw [c6]
  have w21 : IntKind.u64.wrap (IntKind.u64.wrap (IntKind.u64.wrap (u * 4294967296) + v1) - IntKind.u64.wrap (yn * q1)) = r1 := by simp only [u64w]; omega
  rw [w21]
  have S2 := Dig.start (y := yn) (yn1 := y1) (yn0 := y0) (un32 := r1) (un1 := v0) (by omega) (by omega) (by omega) (by omega) (by omega) c2 c3 (by omega) (by omega)
  have t4 : r1.tdiv y1 = r1 / y1 := Int.tdiv_eq_ediv_of_nonneg c2
  have hZ0 := S2.q0; have hZ1 := S2.q1; have hZr := S2.rr; have hZr0 := S2.r0; have hZr1 := S2.r1
  have t5 : IntKind.u64.wrap (r1 / y1) = r1 / y1 := by rw [u64w]; omega
  have t6 : IntKind.u64.wrap (r1 - IntKind.u64.wrap (r1 / y1 * y1)) = r1 - r1 / y1 * y1 := by simp only [u64w]; omega
  rw [t4, t5, t6, l1_eq yn s y1 y0 v0 q1 r1 (by omega) 2 k' _ _ (by omega) S2 (by omega), shr_eq _ s (by omega), hp]
  have f1 := Int.emod_add_mul_ediv (r1 * 4294967296 + v0) yn
  have f2 := Int.emod_nonneg (r1 * 4294967296 + v0) (show yn ≠ 0 by omega)
  have f3 := Int.emod_lt_of_pos (r1 * 4294967296 + v0) hyp
  have f4 : (r1 * 4294967296 + v0) / yn < 4294967296 := (Int.ediv_lt_iff_lt_mul hyp).2 (by omega)
  have f5 : 0 ≤ (r1 * 4294967296 + v0) / yn := Int.ediv_nonneg (by omega) (by omega)
  have f6 : (r1 * 4294967296 + v0) / yn * yn = yn * ((r1 * 4294967296 + v0) / yn) := Int.mul_comm _ _
  obtain ⟨q0, hq0⟩ : ∃ x, (r1 * 4294967296 + v0) / yn = x := ⟨_, rfl⟩
  obtain ⟨r0, hr0⟩ : ∃ x, (r1 * 4294967296 + v0) % yn = x := ⟨_, rfl⟩
  rw [hq0] at f1 f4 f5 f6 ⊢
  rw [hr0] at f1 f2 f3
  rw [f6]
  have w22 : IntKind.u64.wrap (IntKind.u64.wrap (IntKind.u64.wrap (r1 * 4294967296) + v0) - IntKind.u64.wrap (yn * q0)) = r0 := by simp only [u64w]; omega
  have w23 : IntKind.u64.wrap (IntKind.u64.wrap (q1 * 4294967296) + q0) = q1 * 4294967296 + q0 := by simp only [u64w]; omega
  rw [w22, w23]
  have fin := (Int.ediv_emod_unique (a := u * 18446744073709551616 + v) (b := yn) (r := r0) (q := q1 * 4294967296 + q0) hyp).2 ⟨by
    have e1 : yn * (q1 * 4294967296 + q0) = yn * q1 * 4294967296 + yn * q0 := by grind
    rw [e1]; omega, f2, f3⟩
  rw [fin.1, fin.2]
end Go.Proofs.Ytemnfnbjapobcaa.FS
end
