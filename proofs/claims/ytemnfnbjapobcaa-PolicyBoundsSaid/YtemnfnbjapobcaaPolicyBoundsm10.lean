-- Laid together by wip/shake.py out of: Bounds1 Pbx0
import Derived.Test.YtemnfnbjapobcaaPolicyBoundsm9
import Derived.Test.YtemnfnbjapobcaaProg
import Derived.Below
import Derived.Deep.Draws
import Derived.Deep.AppendLies
import Derived.Maps.AppendAt
import Derived.OwnWalk
import Derived.Laws.BytesArg
import Derived.Laws.MakeOwn
import Derived.Laws.OwnMore
import Derived.Deep.OwnRows
import Derived.Tactics
import Derived.Lib.ConvBytes
import Derived.Laws.Slices
import Derived.WalkKit
import Derived.KernelRfl
import Derived.RowKit3
import Derived.Deep.LoopGhost
import Derived.Deep.QuietTactic
import Derived.BigQuiet
import Derived.WideLaws
import Derived.Deep.DeepCutAuto
import Derived.Deep.CutBlock
import Derived.Deep.RegionHeld3
import Derived.Laws.Rows
import Derived.Lib.AppendStr
import Derived.ArgAppend
import Derived.Laws.IdiomCopy
import Derived.OrdersHeld
import Derived.Laws.BitsLemmas
import Derived.RowKit
section
namespace Go.Proofs.Ytemnfnbjapobcaa.Ho
open Go.RowKit Go.Proofs.YtemnfnbjapobcaaW.PrintWords Go.Proofs.YtemnfnbjapobcaaW.PrintLast Go.Proofs.YtemnfnbjapobcaaW.PrintMore
open Go.Proofs.Ytemnfnbjapobcaa.FS Go.Proofs.Ytemnfnbjapobcaa.HS Go.Proofs.Ytemnfnbjapobcaa.FM Go.Proofs.Ytemnfnbjapobcaa.PS Go.Proofs.Ytemnfnbjapobcaa.Pr
set_option linter.unusedVariables false
set_option linter.unusedSimpArgs false
abbrev Alive26 : Prop := ∀ W : World, Calls Try.prog 47 #[] W fun e w' => e = .returned (.bool true) ∧ Below W.heap.size W w'
theorem num26_calls (x : Int) (w : World) : Calls Try.prog 51 #[.int .i64 x] w fun e w' => e = .returned (.int .i64 x) ∧ Drawn0 w w' := by
  go_enter Try.func51, Try.ntmps51
  go_wp2
  go_ret
  exact ⟨rfl, Drawn0.refl _⟩
def Env2 (s : Nat) (p : Pol) (prev : Dec) (W : World) : Prop := W.heap[s]? = some (.cells (polCells p) 65 (0, 0)) ∧ W.heap[s + 1]? = some (.cells (decCells prev) 68 (0, 0))
theorem Env2.below {s : Nat} {p : Pol} {prev : Dec} {W W' : World} (h : Env2 s p prev W) (hb : Below W.heap.size W W') : Env2 s p prev W' := ⟨blk_below h.1 hb, blk_below h.2 hb⟩
theorem env2 (w : World) (p : Pol) (prev : Dec) : Env2 w.heap.size p prev ((w.alloc (.cells (polCells p) 65)).alloc (.cells (decCells prev) 68)) := by
  refine ⟨blk_alloc (blk_new w _) _, ?_⟩
  have := blk_new (w.alloc (.cells (polCells p) 65)) (.cells (decCells prev) 68)
  rwa [size_alloc_] at this
set_option maxRecDepth 100000 in
set_option maxHeartbeats 8000000 in
theorem bounds_calls (HA : Aside0 Alive26) (HS : Aside0 SeasonMiss) (HC : Aside0 SeasonCast) (p : Pol) (now : Int) (A : Option Addr) (c : Nat) (load : List S70) (plan : Int) (prev : Dec) (ch : Int) (w : World) (hr : Kd.C k70 w A load.length load) (hc : load.length ≤ c) (hs : sIn load) (hper : FS.In p.per) (hcool : FS.In p.cool) (hch : FS.In ch) :
    Calls Try.prog 13 #[polV p, .int .i64 now, .slice A load.length c, .int .i64 plan, decV prev, .int .i64 ch] w fun e w' => e = .returned (.bool true) ∧ Below w.heap.size w w' := by
  have HR := Aside0.mk hr
  clear hr
  have E0 := Aside0.mk (env2 w p prev)
  have HB0 : Aside0 (Below w.heap.size w ((w.alloc (.cells (polCells p) 65)).alloc (.cells (decCells prev) 68))) := ⟨below_alloc (below_alloc (Below.refl _ _) _) _⟩
  by_cases g1 : load.length > 400
  · have c1 : decide ((load.length : Int) > 400) = true := decide_eq_true (by omega)
    have c1' : decide (400 < load.length) = true := decide_eq_true g1
    clear g1
    obtain ⟨mn, mx, per, stale, step, ahead, cool, season⟩ := p
    obtain ⟨pt, pr, pf, pp, pc⟩ := prev
    dsimp only [polV, decV, polCells, decCells] at *
    go_enter Try.func13, Try.ntmps13
    go_wp2_with (first | (go_at_call 47; (with_reducible refine (HA.out _).mono ?_); rintro e w1 ⟨rfl, hb⟩; have E1 := Aside0.mk (Env2.below E0.out hb); have HB1 := Aside0.mk (HB0.out.trans (hb.mono HB0.out.size)); clear hb; have x0 := blk_cell E1.out.1 0; have x1 := blk_cell E1.out.1 1; have x2 := blk_cell E1.out.1 2; have x3 := blk_cell E1.out.1 3; have x4 := blk_cell E1.out.1 4; have x5 := blk_cell E1.out.1 5; have x6 := blk_cell E1.out.1 6; have x7 := blk_cell E1.out.1 7; simp only [polCells, List.getElem?_toArray, List.getElem?_cons_zero, List.getElem?_cons_succ] at x0 x1 x2 x3 x4 x5 x6 x7; have y0 := blk_cell E1.out.2 0; have y1 := blk_cell E1.out.2 1; have y2 := blk_cell E1.out.2 2; have y3 := blk_cell E1.out.2 3; have y4 := blk_cell E1.out.2 4; simp only [decCells, List.getElem?_toArray, List.getElem?_cons_zero, List.getElem?_cons_succ] at y0 y1 y2 y3 y4))
    go_ret
    first | exact ⟨rfl, HB1.out⟩ | exact ⟨rfl, pw_below_drewN HB1.out _⟩
  have c1 : decide ((load.length : Int) > 400) = false := decide_eq_false (by omega)
  have c1' : decide (400 < load.length) = false := decide_eq_false g1
  by_cases g2 : p.season > 60
  · have c2 : decide (p.season > 60) = true := decide_eq_true g2
    clear g1 g2
    obtain ⟨mn, mx, per, stale, step, ahead, cool, season⟩ := p
    obtain ⟨pt, pr, pf, pp, pc⟩ := prev
    dsimp only [polV, decV, polCells, decCells] at *
    go_enter Try.func13, Try.ntmps13
    go_wp2_with (first | (go_at_call 47; (with_reducible refine (HA.out _).mono ?_); rintro e w1 ⟨rfl, hb⟩; have E1 := Aside0.mk (Env2.below E0.out hb); have HB1 := Aside0.mk (HB0.out.trans (hb.mono HB0.out.size)); clear hb; have x0 := blk_cell E1.out.1 0; have x1 := blk_cell E1.out.1 1; have x2 := blk_cell E1.out.1 2; have x3 := blk_cell E1.out.1 3; have x4 := blk_cell E1.out.1 4; have x5 := blk_cell E1.out.1 5; have x6 := blk_cell E1.out.1 6; have x7 := blk_cell E1.out.1 7; simp only [polCells, List.getElem?_toArray, List.getElem?_cons_zero, List.getElem?_cons_succ] at x0 x1 x2 x3 x4 x5 x6 x7; have y0 := blk_cell E1.out.2 0; have y1 := blk_cell E1.out.2 1; have y2 := blk_cell E1.out.2 2; have y3 := blk_cell E1.out.2 3; have y4 := blk_cell E1.out.2 4; simp only [decCells, List.getElem?_toArray, List.getElem?_cons_zero, List.getElem?_cons_succ] at y0 y1 y2 y3 y4))
    go_ret
    first | exact ⟨rfl, HB1.out⟩ | exact ⟨rfl, pw_below_drewN HB1.out _⟩
  have c2 : decide (p.season > 60) = false := decide_eq_false g2
  have KD0 := fun W (h : Kd.C k70 W A load.length load) => pdecide_calls HS HC p now A c load plan prev ch W h hc hs hper hch (by omega)
  rcases decideP_cases p now load prev ch with ⟨er, h0, hd⟩ | ⟨hp, hd⟩
  · rw [hd plan] at KD0
    obtain ⟨dt, hdt⟩ : ∃ x : Int, (0 : Int) = x := ⟨_, rfl⟩
    have KD : Aside0 (∀ W, Kd.C k70 W A load.length load → Calls Try.prog 49 #[polV p, .int .i64 now, .slice A load.length c, .int .i64 plan, decV prev, .int .i64 ch] W fun e w' => e = .returned (.tuple #[.agg #[.int .i64 0, .int .i64 0, .int .i64 0, .int .i64 0, .int .i64 0], .int .i64 0, .int .i64 er]) ∧ Below W.heap.size W w') := ⟨KD0⟩
    have c3 : (er != 0) = true := by simp [h0]
    have c3' : (er = 0) = False := eq_false h0
    clear KD0 hd h0 g1 g2 hdt dt
    obtain ⟨mn, mx, per, stale, step, ahead, cool, season⟩ := p
    obtain ⟨pt, pr, pf, pp, pc⟩ := prev
    dsimp only [polV, decV, polCells, decCells] at *
    go_enter Try.func13, Try.ntmps13
    go_wp2_with (first | (go_at_call 47; (with_reducible refine (HA.out _).mono ?_); rintro e w1 ⟨rfl, hb⟩; have E1 := Aside0.mk (Env2.below E0.out hb); have HB1 := Aside0.mk (HB0.out.trans (hb.mono HB0.out.size)); clear hb; have x0 := blk_cell E1.out.1 0; have x1 := blk_cell E1.out.1 1; have x2 := blk_cell E1.out.1 2; have x3 := blk_cell E1.out.1 3; have x4 := blk_cell E1.out.1 4; have x5 := blk_cell E1.out.1 5; have x6 := blk_cell E1.out.1 6; have x7 := blk_cell E1.out.1 7; simp only [polCells, List.getElem?_toArray, List.getElem?_cons_zero, List.getElem?_cons_succ] at x0 x1 x2 x3 x4 x5 x6 x7; have y0 := blk_cell E1.out.2 0; have y1 := blk_cell E1.out.2 1; have y2 := blk_cell E1.out.2 2; have y3 := blk_cell E1.out.2 3; have y4 := blk_cell E1.out.2 4; simp only [decCells, List.getElem?_toArray, List.getElem?_cons_zero, List.getElem?_cons_succ] at y0 y1 y2 y3 y4) | (go_at_call 49; (with_reducible refine (KD.out _ (Kd.C_below HR.out HB1.out)).mono ?_); rintro e w2 ⟨rfl, hb⟩; have E2 := Aside0.mk (Env2.below (Env2.below E1.out hb) (below_alloc (Below.refl _ _) (.cells #[.int .i64 0, .int .i64 0, .int .i64 0, .int .i64 0, .int .i64 0] 68))); have HB2 := Aside0.mk ((HB1.out.trans (hb.mono HB1.out.size)).alloc (HB1.out.trans (hb.mono HB1.out.size)).size (.cells #[.int .i64 0, .int .i64 0, .int .i64 0, .int .i64 0, .int .i64 0] 68)); clear hb x0 x1 x2 x3 x4 x5 x6 x7 y0 y1 y2 y3 y4; have x0 := blk_cell E2.out.1 0; have x1 := blk_cell E2.out.1 1; have x2 := blk_cell E2.out.1 2; have x3 := blk_cell E2.out.1 3; have x4 := blk_cell E2.out.1 4; have x5 := blk_cell E2.out.1 5; have x6 := blk_cell E2.out.1 6; have x7 := blk_cell E2.out.1 7; simp only [polCells, List.getElem?_toArray, List.getElem?_cons_zero, List.getElem?_cons_succ] at x0 x1 x2 x3 x4 x5 x6 x7; have y0 := blk_cell E2.out.2 0; have y1 := blk_cell E2.out.2 1; have y2 := blk_cell E2.out.2 2; have y3 := blk_cell E2.out.2 3; have y4 := blk_cell E2.out.2 4; simp only [decCells, List.getElem?_toArray, List.getElem?_cons_zero, List.getElem?_cons_succ] at y0 y1 y2 y3 y4) | (go_at_call 51; (with_reducible refine (num26_calls _ _).mono ?_); rintro e w' ⟨rfl, ⟨nd, rfl⟩⟩))
    go_ret
    first | exact ⟨rfl, HB2.out⟩ | exact ⟨rfl, pw_below_drewN HB2.out _⟩
  rw [hd plan] at KD0
  obtain ⟨l, hll⟩ : ∃ l, load.take (untilN load now) = l := ⟨_, rfl⟩
  rw [hll] at KD0
  obtain ⟨D, hD⟩ : ∃ D : Dr, D = ⟨p, now, plan, prev, ch⟩ := ⟨_, rfl⟩
  rw [← hD] at KD0
  obtain ⟨r, hrr⟩ : ∃ r, repD D l = r := ⟨_, rfl⟩
  obtain ⟨fl, hfl⟩ : ∃ x, floorD D l = x := ⟨_, rfl⟩
  obtain ⟨ca, hca⟩ : ∃ x, castD D l = x := ⟨_, rfl⟩
  obtain ⟨cg, hcg⟩ : ∃ x, chgD D l = x := ⟨_, rfl⟩
  have edec : decV (decD D l) = .agg #[.int .i64 now, .int .i64 r, .int .i64 fl, .int .i64 plan, .int .i64 ca] := by unfold decV decD; rw [hrr, hfl, hca, hD]
  have KD : Aside0 (∀ W, Kd.C k70 W A load.length load → Calls Try.prog 49 #[polV p, .int .i64 now, .slice A load.length c, .int .i64 plan, decV prev, .int .i64 ch] W fun e w' => e = .returned (.tuple #[.agg #[.int .i64 now, .int .i64 r, .int .i64 fl, .int .i64 plan, .int .i64 ca], .int .i64 cg, .int .i64 0]) ∧ Below W.heap.size W w') := ⟨fun W h => by
    have := KD0 W h
    dsimp only at this
    rwa [edec, hcg] at this⟩
  have hpD : okP D.p := by rw [hD]; exact hp
  have hw := want_in hpD l
  have hge := want_ge hpD l (x := if (if fl < plan then plan else fl) > p.mx then p.mx else (if fl < plan then plan else fl))
  have es : D.some ↔ prev.t ≠ -9223372036854775808 := by rw [hD]; exact Iff.rfl
  have ere : D.rests ↔ (ch > 9223372036854775807 - p.cool ∨ now < ch + p.cool) := by rw [hD]; exact Iff.rfl
  have eb : D.bounded D.prev.rep = clampS prev.rep p.mn p.mx := by rw [hD]; rfl
  have erep : r = if D.some ∧ wantD D l < clampS prev.rep p.mn p.mx ∧ D.rests then clampS prev.rep p.mn p.mx else wantD D l := by rw [← hrr]; unfold repD; rw [eb]
  have ech : cg = if ¬ D.some ∨ r ≠ prev.rep then now else ch := by rw [← hcg]; unfold chgD; rw [hrr, hD]
  have e1 : D.p = p := by rw [hD]
  have e2 : D.plan = plan := by rw [hD]
  rw [e1] at hw hge
  rw [e2, hfl] at hge
  have hab : p.mn ≤ p.mx := hp.2.1
  have hg0 := hp.2.2.2.2.2.2.1
  have hcl := clamp_in (x := prev.rep) hab
  have hrep : p.mn ≤ r ∧ r ≤ p.mx ∧ wantD D l ≤ r := by
    rw [erep]
    split
    · rename_i hh
      have := hh.2.1
      omega
    · omega
  have hleast : (if (if fl < plan then plan else fl) > p.mx then p.mx else (if fl < plan then plan else fl)) ≤ r := by
    refine Int.le_trans (hge ?_ ?_) hrep.2.2
    · repeat' split
      all_goals omega
    · repeat' split
      all_goals omega
  clear hge hrr hfl hca hcg edec KD0 hd hll e1 e2
  have hlow : prev.t ≠ -9223372036854775808 → p.mn ≤ prev.rep → prev.rep ≤ p.mx → r < prev.rep → ¬ addS ch p.cool > now := by
    intro h0 h1 h2 h3
    have hq : clampS prev.rep p.mn p.mx = prev.rep := by unfold clampS; rw [if_neg (by omega), if_neg (by omega)]
    rw [hq] at erep
    by_cases hh : D.some ∧ wantD D l < prev.rep ∧ D.rests
    · rw [if_pos hh] at erep; omega
    · rw [if_neg hh] at erep
      have hn : ¬ D.rests := fun h2 => hh ⟨es.mpr h0, by omega, h2⟩
      rw [ere] at hn
      obtain ⟨c1, c2⟩ := hch
      unfold addS sat
      repeat' split
      all_goals omega
  have hch0 := hch
  have hcg1 : prev.t = -9223372036854775808 → cg = now := fun h => by rw [ech, if_pos (.inl (fun h2 => (es.mp h2) h))]
  have hcg2 : prev.t ≠ -9223372036854775808 → r = prev.rep → cg = ch := fun h h2 => by rw [ech, if_neg (by rintro (h3 | h3); exact h3 (es.mpr h); exact h3 h2)]
  have hcg3 : r ≠ prev.rep → cg = now := fun h => by rw [ech, if_pos (.inr h)]
  obtain ⟨r1, r2, r3⟩ := hrep
  have c4 : decide (r < p.mn) = false := decide_eq_false (by omega)
  have c5 : decide (r > p.mx) = false := decide_eq_false (by omega)
  clear r3 erep ech hw hcl hab hg0 es ere eb hp hpD hD D l
  obtain ⟨sm, has⟩ : ∃ x, addS ch p.cool = x := ⟨_, rfl⟩
  have rAdd' : ∀ W, Calls Try.prog 55 #[.int .i64 ch, .int .i64 p.cool] W fun e w' => e = .returned (.int .i64 sm) ∧ Below W.heap.size W w' := fun W => has ▸ ((rAdd hch hcool W).mono fun _ _ ⟨he, hw⟩ => ⟨he, hw.below⟩)
  rw [has] at hlow
  have KA := Aside0.mk rAdd'
  clear rAdd' has hch0
  by_cases g3 : fl < plan
  · rw [if_pos g3] at hleast
    have c11 : decide (plan > fl) = true := decide_eq_true g3
    clear g3
    by_cases g4 : plan > p.mx
    · rw [if_pos g4] at hleast
      have c12 : decide (plan > p.mx) = true := decide_eq_true g4
      have c13 : decide (r < p.mx) = false := decide_eq_false (by omega)
      clear g4
      by_cases g5 : prev.t = -9223372036854775808
      · rw [hcg1 g5] at KD
        have c6 : (prev.t != -9223372036854775808) = false := by simp [g5]
        clear g5 hlow hleast hcg1 hcg2 hcg3 r1 r2 g1 g2 hch hcool hper hs
        obtain ⟨mn, mx, per, stale, step, ahead, cool, season⟩ := p
        obtain ⟨pt, pr, pf, pp, pc⟩ := prev
        dsimp only [polV, decV, polCells, decCells] at *
        go_enter Try.func13, Try.ntmps13
        go_wp2_with (first | (go_at_call 47; (with_reducible refine (HA.out _).mono ?_); rintro e w1 ⟨rfl, hb⟩; have E1 := Aside0.mk (Env2.below E0.out hb); have HB1 := Aside0.mk (HB0.out.trans (hb.mono HB0.out.size)); clear hb; have x0 := blk_cell E1.out.1 0; have x1 := blk_cell E1.out.1 1; have x2 := blk_cell E1.out.1 2; have x3 := blk_cell E1.out.1 3; have x4 := blk_cell E1.out.1 4; have x5 := blk_cell E1.out.1 5; have x6 := blk_cell E1.out.1 6; have x7 := blk_cell E1.out.1 7; simp only [polCells, List.getElem?_toArray, List.getElem?_cons_zero, List.getElem?_cons_succ] at x0 x1 x2 x3 x4 x5 x6 x7; have y0 := blk_cell E1.out.2 0; have y1 := blk_cell E1.out.2 1; have y2 := blk_cell E1.out.2 2; have y3 := blk_cell E1.out.2 3; have y4 := blk_cell E1.out.2 4; simp only [decCells, List.getElem?_toArray, List.getElem?_cons_zero, List.getElem?_cons_succ] at y0 y1 y2 y3 y4) | (go_at_call 49; (with_reducible refine (KD.out _ (Kd.C_below HR.out HB1.out)).mono ?_); rintro e w2 ⟨rfl, hb⟩; have E2 := Aside0.mk (Env2.below (Env2.below E1.out hb) (below_alloc (Below.refl _ _) (.cells #[.int .i64 now, .int .i64 r, .int .i64 fl, .int .i64 plan, .int .i64 ca] 68))); have HB2 := Aside0.mk ((HB1.out.trans (hb.mono HB1.out.size)).alloc (HB1.out.trans (hb.mono HB1.out.size)).size (.cells #[.int .i64 now, .int .i64 r, .int .i64 fl, .int .i64 plan, .int .i64 ca] 68)); clear hb x0 x1 x2 x3 x4 x5 x6 x7 y0 y1 y2 y3 y4; have x0 := blk_cell E2.out.1 0; have x1 := blk_cell E2.out.1 1; have x2 := blk_cell E2.out.1 2; have x3 := blk_cell E2.out.1 3; have x4 := blk_cell E2.out.1 4; have x5 := blk_cell E2.out.1 5; have x6 := blk_cell E2.out.1 6; have x7 := blk_cell E2.out.1 7; simp only [polCells, List.getElem?_toArray, List.getElem?_cons_zero, List.getElem?_cons_succ] at x0 x1 x2 x3 x4 x5 x6 x7; have y0 := blk_cell E2.out.2 0; have y1 := blk_cell E2.out.2 1; have y2 := blk_cell E2.out.2 2; have y3 := blk_cell E2.out.2 3; have y4 := blk_cell E2.out.2 4; simp only [decCells, List.getElem?_toArray, List.getElem?_cons_zero, List.getElem?_cons_succ] at y0 y1 y2 y3 y4) | (go_at_call 51; (with_reducible refine (num26_calls _ _).mono ?_); rintro e w' ⟨rfl, ⟨nd, rfl⟩⟩))
        go_ret
        first | exact ⟨rfl, HB2.out⟩ | exact ⟨rfl, pw_below_drewN HB2.out _⟩
      have c6 : (prev.t != -9223372036854775808) = true := by simp [g5]
      by_cases g6 : prev.rep < p.mn
      · have c7g6 : decide (prev.rep < p.mn) = true := decide_eq_true g6
        clear g5 g6 hlow hleast hcg1 hcg2 hcg3 r1 r2 g1 g2 hch hcool hper hs
        obtain ⟨mn, mx, per, stale, step, ahead, cool, season⟩ := p
        obtain ⟨pt, pr, pf, pp, pc⟩ := prev
        dsimp only [polV, decV, polCells, decCells] at *
        go_enter Try.func13, Try.ntmps13
        go_wp2_with (first | (go_at_call 47; (with_reducible refine (HA.out _).mono ?_); rintro e w1 ⟨rfl, hb⟩; have E1 := Aside0.mk (Env2.below E0.out hb); have HB1 := Aside0.mk (HB0.out.trans (hb.mono HB0.out.size)); clear hb; have x0 := blk_cell E1.out.1 0; have x1 := blk_cell E1.out.1 1; have x2 := blk_cell E1.out.1 2; have x3 := blk_cell E1.out.1 3; have x4 := blk_cell E1.out.1 4; have x5 := blk_cell E1.out.1 5; have x6 := blk_cell E1.out.1 6; have x7 := blk_cell E1.out.1 7; simp only [polCells, List.getElem?_toArray, List.getElem?_cons_zero, List.getElem?_cons_succ] at x0 x1 x2 x3 x4 x5 x6 x7; have y0 := blk_cell E1.out.2 0; have y1 := blk_cell E1.out.2 1; have y2 := blk_cell E1.out.2 2; have y3 := blk_cell E1.out.2 3; have y4 := blk_cell E1.out.2 4; simp only [decCells, List.getElem?_toArray, List.getElem?_cons_zero, List.getElem?_cons_succ] at y0 y1 y2 y3 y4) | (go_at_call 49; (with_reducible refine (KD.out _ (Kd.C_below HR.out HB1.out)).mono ?_); rintro e w2 ⟨rfl, hb⟩; have E2 := Aside0.mk (Env2.below (Env2.below E1.out hb) (below_alloc (Below.refl _ _) (.cells #[.int .i64 now, .int .i64 r, .int .i64 fl, .int .i64 plan, .int .i64 ca] 68))); have HB2 := Aside0.mk ((HB1.out.trans (hb.mono HB1.out.size)).alloc (HB1.out.trans (hb.mono HB1.out.size)).size (.cells #[.int .i64 now, .int .i64 r, .int .i64 fl, .int .i64 plan, .int .i64 ca] 68)); clear hb x0 x1 x2 x3 x4 x5 x6 x7 y0 y1 y2 y3 y4; have x0 := blk_cell E2.out.1 0; have x1 := blk_cell E2.out.1 1; have x2 := blk_cell E2.out.1 2; have x3 := blk_cell E2.out.1 3; have x4 := blk_cell E2.out.1 4; have x5 := blk_cell E2.out.1 5; have x6 := blk_cell E2.out.1 6; have x7 := blk_cell E2.out.1 7; simp only [polCells, List.getElem?_toArray, List.getElem?_cons_zero, List.getElem?_cons_succ] at x0 x1 x2 x3 x4 x5 x6 x7; have y0 := blk_cell E2.out.2 0; have y1 := blk_cell E2.out.2 1; have y2 := blk_cell E2.out.2 2; have y3 := blk_cell E2.out.2 3; have y4 := blk_cell E2.out.2 4; simp only [decCells, List.getElem?_toArray, List.getElem?_cons_zero, List.getElem?_cons_succ] at y0 y1 y2 y3 y4) | (go_at_call 51; (with_reducible refine (num26_calls _ _).mono ?_); rintro e w' ⟨rfl, ⟨nd, rfl⟩⟩))
        go_ret
        first | exact ⟨rfl, HB2.out⟩ | exact ⟨rfl, pw_below_drewN HB2.out _⟩
      have c7g6 : decide (prev.rep < p.mn) = false := decide_eq_false g6
      by_cases g7 : prev.rep > p.mx
      · have c7g7 : decide (prev.rep > p.mx) = true := decide_eq_true g7
        clear g5 g7 hlow hleast hcg1 hcg2 hcg3 r1 r2 g1 g2 hch hcool hper hs g6
        obtain ⟨mn, mx, per, stale, step, ahead, cool, season⟩ := p
        obtain ⟨pt, pr, pf, pp, pc⟩ := prev
        dsimp only [polV, decV, polCells, decCells] at *
        go_enter Try.func13, Try.ntmps13
        go_wp2_with (first | (go_at_call 47; (with_reducible refine (HA.out _).mono ?_); rintro e w1 ⟨rfl, hb⟩; have E1 := Aside0.mk (Env2.below E0.out hb); have HB1 := Aside0.mk (HB0.out.trans (hb.mono HB0.out.size)); clear hb; have x0 := blk_cell E1.out.1 0; have x1 := blk_cell E1.out.1 1; have x2 := blk_cell E1.out.1 2; have x3 := blk_cell E1.out.1 3; have x4 := blk_cell E1.out.1 4; have x5 := blk_cell E1.out.1 5; have x6 := blk_cell E1.out.1 6; have x7 := blk_cell E1.out.1 7; simp only [polCells, List.getElem?_toArray, List.getElem?_cons_zero, List.getElem?_cons_succ] at x0 x1 x2 x3 x4 x5 x6 x7; have y0 := blk_cell E1.out.2 0; have y1 := blk_cell E1.out.2 1; have y2 := blk_cell E1.out.2 2; have y3 := blk_cell E1.out.2 3; have y4 := blk_cell E1.out.2 4; simp only [decCells, List.getElem?_toArray, List.getElem?_cons_zero, List.getElem?_cons_succ] at y0 y1 y2 y3 y4) | (go_at_call 49; (with_reducible refine (KD.out _ (Kd.C_below HR.out HB1.out)).mono ?_); rintro e w2 ⟨rfl, hb⟩; have E2 := Aside0.mk (Env2.below (Env2.below E1.out hb) (below_alloc (Below.refl _ _) (.cells #[.int .i64 now, .int .i64 r, .int .i64 fl, .int .i64 plan, .int .i64 ca] 68))); have HB2 := Aside0.mk ((HB1.out.trans (hb.mono HB1.out.size)).alloc (HB1.out.trans (hb.mono HB1.out.size)).size (.cells #[.int .i64 now, .int .i64 r, .int .i64 fl, .int .i64 plan, .int .i64 ca] 68)); clear hb x0 x1 x2 x3 x4 x5 x6 x7 y0 y1 y2 y3 y4; have x0 := blk_cell E2.out.1 0; have x1 := blk_cell E2.out.1 1; have x2 := blk_cell E2.out.1 2; have x3 := blk_cell E2.out.1 3; have x4 := blk_cell E2.out.1 4; have x5 := blk_cell E2.out.1 5; have x6 := blk_cell E2.out.1 6; have x7 := blk_cell E2.out.1 7; simp only [polCells, List.getElem?_toArray, List.getElem?_cons_zero, List.getElem?_cons_succ] at x0 x1 x2 x3 x4 x5 x6 x7; have y0 := blk_cell E2.out.2 0; have y1 := blk_cell E2.out.2 1; have y2 := blk_cell E2.out.2 2; have y3 := blk_cell E2.out.2 3; have y4 := blk_cell E2.out.2 4; simp only [decCells, List.getElem?_toArray, List.getElem?_cons_zero, List.getElem?_cons_succ] at y0 y1 y2 y3 y4) | (go_at_call 51; (with_reducible refine (num26_calls _ _).mono ?_); rintro e w' ⟨rfl, ⟨nd, rfl⟩⟩))
        go_ret
        first | exact ⟨rfl, HB2.out⟩ | exact ⟨rfl, pw_below_drewN HB2.out _⟩
      have c7g7 : decide (prev.rep > p.mx) = false := decide_eq_false g7
      by_cases g8 : r < prev.rep
      · have c8 : decide (r < prev.rep) = true := decide_eq_true g8
        have c9 : decide (sm > now) = false := decide_eq_false (hlow g5 (by omega) (by omega) g8)
        have c10 : (r == prev.rep) = false := by simp; omega
        have c10' : (r = prev.rep) = False := eq_false (by omega)
        rw [hcg3 (by omega)] at KD
        clear g5 g6 g7 g8 hlow hleast hcg1 hcg2 hcg3 r1 r2 g1 g2 hch hcool hper hs
        obtain ⟨mn, mx, per, stale, step, ahead, cool, season⟩ := p
        obtain ⟨pt, pr, pf, pp, pc⟩ := prev
        dsimp only [polV, decV, polCells, decCells] at *
        go_enter Try.func13, Try.ntmps13
        go_wp2_with (first | (go_at_call 47; (with_reducible refine (HA.out _).mono ?_); rintro e w1 ⟨rfl, hb⟩; have E1 := Aside0.mk (Env2.below E0.out hb); have HB1 := Aside0.mk (HB0.out.trans (hb.mono HB0.out.size)); clear hb; have x0 := blk_cell E1.out.1 0; have x1 := blk_cell E1.out.1 1; have x2 := blk_cell E1.out.1 2; have x3 := blk_cell E1.out.1 3; have x4 := blk_cell E1.out.1 4; have x5 := blk_cell E1.out.1 5; have x6 := blk_cell E1.out.1 6; have x7 := blk_cell E1.out.1 7; simp only [polCells, List.getElem?_toArray, List.getElem?_cons_zero, List.getElem?_cons_succ] at x0 x1 x2 x3 x4 x5 x6 x7; have y0 := blk_cell E1.out.2 0; have y1 := blk_cell E1.out.2 1; have y2 := blk_cell E1.out.2 2; have y3 := blk_cell E1.out.2 3; have y4 := blk_cell E1.out.2 4; simp only [decCells, List.getElem?_toArray, List.getElem?_cons_zero, List.getElem?_cons_succ] at y0 y1 y2 y3 y4) | (go_at_call 49; (with_reducible refine (KD.out _ (Kd.C_below HR.out HB1.out)).mono ?_); rintro e w2 ⟨rfl, hb⟩; have E2 := Aside0.mk (Env2.below (Env2.below E1.out hb) (below_alloc (Below.refl _ _) (.cells #[.int .i64 now, .int .i64 r, .int .i64 fl, .int .i64 plan, .int .i64 ca] 68))); have HB2 := Aside0.mk ((HB1.out.trans (hb.mono HB1.out.size)).alloc (HB1.out.trans (hb.mono HB1.out.size)).size (.cells #[.int .i64 now, .int .i64 r, .int .i64 fl, .int .i64 plan, .int .i64 ca] 68)); clear hb x0 x1 x2 x3 x4 x5 x6 x7 y0 y1 y2 y3 y4; have x0 := blk_cell E2.out.1 0; have x1 := blk_cell E2.out.1 1; have x2 := blk_cell E2.out.1 2; have x3 := blk_cell E2.out.1 3; have x4 := blk_cell E2.out.1 4; have x5 := blk_cell E2.out.1 5; have x6 := blk_cell E2.out.1 6; have x7 := blk_cell E2.out.1 7; simp only [polCells, List.getElem?_toArray, List.getElem?_cons_zero, List.getElem?_cons_succ] at x0 x1 x2 x3 x4 x5 x6 x7; have y0 := blk_cell E2.out.2 0; have y1 := blk_cell E2.out.2 1; have y2 := blk_cell E2.out.2 2; have y3 := blk_cell E2.out.2 3; have y4 := blk_cell E2.out.2 4; simp only [decCells, List.getElem?_toArray, List.getElem?_cons_zero, List.getElem?_cons_succ] at y0 y1 y2 y3 y4) | (go_at_call 51; (with_reducible refine (num26_calls _ _).mono ?_); rintro e w' ⟨rfl, ⟨nd, rfl⟩⟩) | (go_at_call 55; (with_reducible refine (KA.out _).mono ?_); rintro e w4 ⟨rfl, hb⟩; have N4 := Aside0.mk (blk_below (blk_drewN (blk_new w2 (.cells #[.int .i64 now, .int .i64 r, .int .i64 fl, .int .i64 plan, .int .i64 ca] 68)) _) hb); have E4 := Aside0.mk (Env2.below (Env2.below E2.out (pw_below_drewN (Below.refl _ _) _)) hb); have HB4 := Aside0.mk ((pw_below_drewN HB2.out _).trans (hb.mono HB2.out.size)); clear hb x0 x1 x2 x3 x4 x5 x6 x7 y0 y1 y2 y3 y4; have x0 := blk_cell E4.out.1 0; have x1 := blk_cell E4.out.1 1; have x2 := blk_cell E4.out.1 2; have x3 := blk_cell E4.out.1 3; have x4 := blk_cell E4.out.1 4; have x5 := blk_cell E4.out.1 5; have x6 := blk_cell E4.out.1 6; have x7 := blk_cell E4.out.1 7; simp only [polCells, List.getElem?_toArray, List.getElem?_cons_zero, List.getElem?_cons_succ] at x0 x1 x2 x3 x4 x5 x6 x7; have y0 := blk_cell E4.out.2 0; have y1 := blk_cell E4.out.2 1; have y2 := blk_cell E4.out.2 2; have y3 := blk_cell E4.out.2 3; have y4 := blk_cell E4.out.2 4; simp only [decCells, List.getElem?_toArray, List.getElem?_cons_zero, List.getElem?_cons_succ] at y0 y1 y2 y3 y4; have n1 := blk_cell N4.out 1; simp only [List.getElem?_toArray, List.getElem?_cons_zero, List.getElem?_cons_succ] at n1))
        go_ret
        first | exact ⟨rfl, HB4.out⟩ | exact ⟨rfl, pw_below_drewN HB4.out _⟩
      have c8 : decide (r < prev.rep) = false := decide_eq_false g8
      by_cases g9 : r = prev.rep
      · rw [hcg2 g5 g9] at KD
        have c10 : (r == prev.rep) = true := by simp [g9]
        have c10' : (r = prev.rep) = True := eq_true g9
        clear g5 g6 g7 g8 g9 hlow hleast hcg1 hcg2 hcg3 r1 r2 g1 g2 hch hcool hper hs
        obtain ⟨mn, mx, per, stale, step, ahead, cool, season⟩ := p
        obtain ⟨pt, pr, pf, pp, pc⟩ := prev
        dsimp only [polV, decV, polCells, decCells] at *
        go_enter Try.func13, Try.ntmps13
        go_wp2_with (first | (go_at_call 47; (with_reducible refine (HA.out _).mono ?_); rintro e w1 ⟨rfl, hb⟩; have E1 := Aside0.mk (Env2.below E0.out hb); have HB1 := Aside0.mk (HB0.out.trans (hb.mono HB0.out.size)); clear hb; have x0 := blk_cell E1.out.1 0; have x1 := blk_cell E1.out.1 1; have x2 := blk_cell E1.out.1 2; have x3 := blk_cell E1.out.1 3; have x4 := blk_cell E1.out.1 4; have x5 := blk_cell E1.out.1 5; have x6 := blk_cell E1.out.1 6; have x7 := blk_cell E1.out.1 7; simp only [polCells, List.getElem?_toArray, List.getElem?_cons_zero, List.getElem?_cons_succ] at x0 x1 x2 x3 x4 x5 x6 x7; have y0 := blk_cell E1.out.2 0; have y1 := blk_cell E1.out.2 1; have y2 := blk_cell E1.out.2 2; have y3 := blk_cell E1.out.2 3; have y4 := blk_cell E1.out.2 4; simp only [decCells, List.getElem?_toArray, List.getElem?_cons_zero, List.getElem?_cons_succ] at y0 y1 y2 y3 y4) | (go_at_call 49; (with_reducible refine (KD.out _ (Kd.C_below HR.out HB1.out)).mono ?_); rintro e w2 ⟨rfl, hb⟩; have E2 := Aside0.mk (Env2.below (Env2.below E1.out hb) (below_alloc (Below.refl _ _) (.cells #[.int .i64 now, .int .i64 r, .int .i64 fl, .int .i64 plan, .int .i64 ca] 68))); have HB2 := Aside0.mk ((HB1.out.trans (hb.mono HB1.out.size)).alloc (HB1.out.trans (hb.mono HB1.out.size)).size (.cells #[.int .i64 now, .int .i64 r, .int .i64 fl, .int .i64 plan, .int .i64 ca] 68)); clear hb x0 x1 x2 x3 x4 x5 x6 x7 y0 y1 y2 y3 y4; have x0 := blk_cell E2.out.1 0; have x1 := blk_cell E2.out.1 1; have x2 := blk_cell E2.out.1 2; have x3 := blk_cell E2.out.1 3; have x4 := blk_cell E2.out.1 4; have x5 := blk_cell E2.out.1 5; have x6 := blk_cell E2.out.1 6; have x7 := blk_cell E2.out.1 7; simp only [polCells, List.getElem?_toArray, List.getElem?_cons_zero, List.getElem?_cons_succ] at x0 x1 x2 x3 x4 x5 x6 x7; have y0 := blk_cell E2.out.2 0; have y1 := blk_cell E2.out.2 1; have y2 := blk_cell E2.out.2 2; have y3 := blk_cell E2.out.2 3; have y4 := blk_cell E2.out.2 4; simp only [decCells, List.getElem?_toArray, List.getElem?_cons_zero, List.getElem?_cons_succ] at y0 y1 y2 y3 y4) | (go_at_call 51; (with_reducible refine (num26_calls _ _).mono ?_); rintro e w' ⟨rfl, ⟨nd, rfl⟩⟩))
        go_ret
        first | exact ⟨rfl, HB2.out⟩ | exact ⟨rfl, pw_below_drewN HB2.out _⟩
      have c10 : (r == prev.rep) = false := by simp [g9]
      have c10' : (r = prev.rep) = False := eq_false g9
      rw [hcg3 g9] at KD
      clear g5 g6 g7 g8 g9 hlow hleast hcg1 hcg2 hcg3 r1 r2 g1 g2 hch hcool hper hs
      obtain ⟨mn, mx, per, stale, step, ahead, cool, season⟩ := p
      obtain ⟨pt, pr, pf, pp, pc⟩ := prev
      dsimp only [polV, decV, polCells, decCells] at *
      go_enter Try.func13, Try.ntmps13
      go_wp2_with (first | (go_at_call 47; (with_reducible refine (HA.out _).mono ?_); rintro e w1 ⟨rfl, hb⟩; have E1 := Aside0.mk (Env2.below E0.out hb); have HB1 := Aside0.mk (HB0.out.trans (hb.mono HB0.out.size)); clear hb; have x0 := blk_cell E1.out.1 0; have x1 := blk_cell E1.out.1 1; have x2 := blk_cell E1.out.1 2; have x3 := blk_cell E1.out.1 3; have x4 := blk_cell E1.out.1 4; have x5 := blk_cell E1.out.1 5; have x6 := blk_cell E1.out.1 6; have x7 := blk_cell E1.out.1 7; simp only [polCells, List.getElem?_toArray, List.getElem?_cons_zero, List.getElem?_cons_succ] at x0 x1 x2 x3 x4 x5 x6 x7; have y0 := blk_cell E1.out.2 0; have y1 := blk_cell E1.out.2 1; have y2 := blk_cell E1.out.2 2; have y3 := blk_cell E1.out.2 3; have y4 := blk_cell E1.out.2 4; simp only [decCells, List.getElem?_toArray, List.getElem?_cons_zero, List.getElem?_cons_succ] at y0 y1 y2 y3 y4) | (go_at_call 49; (with_reducible refine (KD.out _ (Kd.C_below HR.out HB1.out)).mono ?_); rintro e w2 ⟨rfl, hb⟩; have E2 := Aside0.mk (Env2.below (Env2.below E1.out hb) (below_alloc (Below.refl _ _) (.cells #[.int .i64 now, .int .i64 r, .int .i64 fl, .int .i64 plan, .int .i64 ca] 68))); have HB2 := Aside0.mk ((HB1.out.trans (hb.mono HB1.out.size)).alloc (HB1.out.trans (hb.mono HB1.out.size)).size (.cells #[.int .i64 now, .int .i64 r, .int .i64 fl, .int .i64 plan, .int .i64 ca] 68)); clear hb x0 x1 x2 x3 x4 x5 x6 x7 y0 y1 y2 y3 y4; have x0 := blk_cell E2.out.1 0; have x1 := blk_cell E2.out.1 1; have x2 := blk_cell E2.out.1 2; have x3 := blk_cell E2.out.1 3; have x4 := blk_cell E2.out.1 4; have x5 := blk_cell E2.out.1 5; have x6 := blk_cell E2.out.1 6; have x7 := blk_cell E2.out.1 7; simp only [polCells, List.getElem?_toArray, List.getElem?_cons_zero, List.getElem?_cons_succ] at x0 x1 x2 x3 x4 x5 x6 x7; have y0 := blk_cell E2.out.2 0; have y1 := blk_cell E2.out.2 1; have y2 := blk_cell E2.out.2 2; have y3 := blk_cell E2.out.2 3; have y4 := blk_cell E2.out.2 4; simp only [decCells, List.getElem?_toArray, List.getElem?_cons_zero, List.getElem?_cons_succ] at y0 y1 y2 y3 y4) | (go_at_call 51; (with_reducible refine (num26_calls _ _).mono ?_); rintro e w' ⟨rfl, ⟨nd, rfl⟩⟩))
      go_ret
      first | exact ⟨rfl, HB2.out⟩ | exact ⟨rfl, pw_below_drewN HB2.out _⟩
    · rw [if_neg g4] at hleast
      have c12 : decide (plan > p.mx) = false := decide_eq_false g4
      have c13 : decide (r < plan) = false := decide_eq_false (by omega)
      clear g4
      by_cases g5 : prev.t = -9223372036854775808
      · rw [hcg1 g5] at KD
        have c6 : (prev.t != -9223372036854775808) = false := by simp [g5]
        clear g5 hlow hleast hcg1 hcg2 hcg3 r1 r2 g1 g2 hch hcool hper hs
        obtain ⟨mn, mx, per, stale, step, ahead, cool, season⟩ := p
        obtain ⟨pt, pr, pf, pp, pc⟩ := prev
        dsimp only [polV, decV, polCells, decCells] at *
        go_enter Try.func13, Try.ntmps13
        go_wp2_with (first | (go_at_call 47; (with_reducible refine (HA.out _).mono ?_); rintro e w1 ⟨rfl, hb⟩; have E1 := Aside0.mk (Env2.below E0.out hb); have HB1 := Aside0.mk (HB0.out.trans (hb.mono HB0.out.size)); clear hb; have x0 := blk_cell E1.out.1 0; have x1 := blk_cell E1.out.1 1; have x2 := blk_cell E1.out.1 2; have x3 := blk_cell E1.out.1 3; have x4 := blk_cell E1.out.1 4; have x5 := blk_cell E1.out.1 5; have x6 := blk_cell E1.out.1 6; have x7 := blk_cell E1.out.1 7; simp only [polCells, List.getElem?_toArray, List.getElem?_cons_zero, List.getElem?_cons_succ] at x0 x1 x2 x3 x4 x5 x6 x7; have y0 := blk_cell E1.out.2 0; have y1 := blk_cell E1.out.2 1; have y2 := blk_cell E1.out.2 2; have y3 := blk_cell E1.out.2 3; have y4 := blk_cell E1.out.2 4; simp only [decCells, List.getElem?_toArray, List.getElem?_cons_zero, List.getElem?_cons_succ] at y0 y1 y2 y3 y4) | (go_at_call 49; (with_reducible refine (KD.out _ (Kd.C_below HR.out HB1.out)).mono ?_); rintro e w2 ⟨rfl, hb⟩; have E2 := Aside0.mk (Env2.below (Env2.below E1.out hb) (below_alloc (Below.refl _ _) (.cells #[.int .i64 now, .int .i64 r, .int .i64 fl, .int .i64 plan, .int .i64 ca] 68))); have HB2 := Aside0.mk ((HB1.out.trans (hb.mono HB1.out.size)).alloc (HB1.out.trans (hb.mono HB1.out.size)).size (.cells #[.int .i64 now, .int .i64 r, .int .i64 fl, .int .i64 plan, .int .i64 ca] 68)); clear hb x0 x1 x2 x3 x4 x5 x6 x7 y0 y1 y2 y3 y4; have x0 := blk_cell E2.out.1 0; have x1 := blk_cell E2.out.1 1; have x2 := blk_cell E2.out.1 2; have x3 := blk_cell E2.out.1 3; have x4 := blk_cell E2.out.1 4; have x5 := blk_cell E2.out.1 5; have x6 := blk_cell E2.out.1 6; have x7 := blk_cell E2.out.1 7; simp only [polCells, List.getElem?_toArray, List.getElem?_cons_zero, List.getElem?_cons_succ] at x0 x1 x2 x3 x4 x5 x6 x7; have y0 := blk_cell E2.out.2 0; have y1 := blk_cell E2.out.2 1; have y2 := blk_cell E2.out.2 2; have y3 := blk_cell E2.out.2 3; have y4 := blk_cell E2.out.2 4; simp only [decCells, List.getElem?_toArray, List.getElem?_cons_zero, List.getElem?_cons_succ] at y0 y1 y2 y3 y4) | (go_at_call 51; (with_reducible refine (num26_calls _ _).mono ?_); rintro e w' ⟨rfl, ⟨nd, rfl⟩⟩))
        go_ret
        first | exact ⟨rfl, HB2.out⟩ | exact ⟨rfl, pw_below_drewN HB2.out _⟩
      have c6 : (prev.t != -9223372036854775808) = true := by simp [g5]
      by_cases g6 : prev.rep < p.mn
      · have c7g6 : decide (prev.rep < p.mn) = true := decide_eq_true g6
        clear g5 g6 hlow hleast hcg1 hcg2 hcg3 r1 r2 g1 g2 hch hcool hper hs
        obtain ⟨mn, mx, per, stale, step, ahead, cool, season⟩ := p
        obtain ⟨pt, pr, pf, pp, pc⟩ := prev
        dsimp only [polV, decV, polCells, decCells] at *
        go_enter Try.func13, Try.ntmps13
        go_wp2_with (first | (go_at_call 47; (with_reducible refine (HA.out _).mono ?_); rintro e w1 ⟨rfl, hb⟩; have E1 := Aside0.mk (Env2.below E0.out hb); have HB1 := Aside0.mk (HB0.out.trans (hb.mono HB0.out.size)); clear hb; have x0 := blk_cell E1.out.1 0; have x1 := blk_cell E1.out.1 1; have x2 := blk_cell E1.out.1 2; have x3 := blk_cell E1.out.1 3; have x4 := blk_cell E1.out.1 4; have x5 := blk_cell E1.out.1 5; have x6 := blk_cell E1.out.1 6; have x7 := blk_cell E1.out.1 7; simp only [polCells, List.getElem?_toArray, List.getElem?_cons_zero, List.getElem?_cons_succ] at x0 x1 x2 x3 x4 x5 x6 x7; have y0 := blk_cell E1.out.2 0; have y1 := blk_cell E1.out.2 1; have y2 := blk_cell E1.out.2 2; have y3 := blk_cell E1.out.2 3; have y4 := blk_cell E1.out.2 4; simp only [decCells, List.getElem?_toArray, List.getElem?_cons_zero, List.getElem?_cons_succ] at y0 y1 y2 y3 y4) | (go_at_call 49; (with_reducible refine (KD.out _ (Kd.C_below HR.out HB1.out)).mono ?_); rintro e w2 ⟨rfl, hb⟩; have E2 := Aside0.mk (Env2.below (Env2.below E1.out hb) (below_alloc (Below.refl _ _) (.cells #[.int .i64 now, .int .i64 r, .int .i64 fl, .int .i64 plan, .int .i64 ca] 68))); have HB2 := Aside0.mk ((HB1.out.trans (hb.mono HB1.out.size)).alloc (HB1.out.trans (hb.mono HB1.out.size)).size (.cells #[.int .i64 now, .int .i64 r, .int .i64 fl, .int .i64 plan, .int .i64 ca] 68)); clear hb x0 x1 x2 x3 x4 x5 x6 x7 y0 y1 y2 y3 y4; have x0 := blk_cell E2.out.1 0; have x1 := blk_cell E2.out.1 1; have x2 := blk_cell E2.out.1 2; have x3 := blk_cell E2.out.1 3; have x4 := blk_cell E2.out.1 4; have x5 := blk_cell E2.out.1 5; have x6 := blk_cell E2.out.1 6; have x7 := blk_cell E2.out.1 7; simp only [polCells, List.getElem?_toArray, List.getElem?_cons_zero, List.getElem?_cons_succ] at x0 x1 x2 x3 x4 x5 x6 x7; have y0 := blk_cell E2.out.2 0; have y1 := blk_cell E2.out.2 1; have y2 := blk_cell E2.out.2 2; have y3 := blk_cell E2.out.2 3; have y4 := blk_cell E2.out.2 4; simp only [decCells, List.getElem?_toArray, List.getElem?_cons_zero, List.getElem?_cons_succ] at y0 y1 y2 y3 y4) | (go_at_call 51; (with_reducible refine (num26_calls _ _).mono ?_); rintro e w' ⟨rfl, ⟨nd, rfl⟩⟩))
        go_ret
        first | exact ⟨rfl, HB2.out⟩ | exact ⟨rfl, pw_below_drewN HB2.out _⟩
      have c7g6 : decide (prev.rep < p.mn) = false := decide_eq_false g6
      by_cases g7 : prev.rep > p.mx
      · have c7g7 : decide (prev.rep > p.mx) = true := decide_eq_true g7
        clear g5 g7 hlow hleast hcg1 hcg2 hcg3 r1 r2 g1 g2 hch hcool hper hs g6
        obtain ⟨mn, mx, per, stale, step, ahead, cool, season⟩ := p
        obtain ⟨pt, pr, pf, pp, pc⟩ := prev
        dsimp only [polV, decV, polCells, decCells] at *
        go_enter Try.func13, Try.ntmps13
        go_wp2_with (first | (go_at_call 47; (with_reducible refine (HA.out _).mono ?_); rintro e w1 ⟨rfl, hb⟩; have E1 := Aside0.mk (Env2.below E0.out hb); have HB1 := Aside0.mk (HB0.out.trans (hb.mono HB0.out.size)); clear hb; have x0 := blk_cell E1.out.1 0; have x1 := blk_cell E1.out.1 1; have x2 := blk_cell E1.out.1 2; have x3 := blk_cell E1.out.1 3; have x4 := blk_cell E1.out.1 4; have x5 := blk_cell E1.out.1 5; have x6 := blk_cell E1.out.1 6; have x7 := blk_cell E1.out.1 7; simp only [polCells, List.getElem?_toArray, List.getElem?_cons_zero, List.getElem?_cons_succ] at x0 x1 x2 x3 x4 x5 x6 x7; have y0 := blk_cell E1.out.2 0; have y1 := blk_cell E1.out.2 1; have y2 := blk_cell E1.out.2 2; have y3 := blk_cell E1.out.2 3; have y4 := blk_cell E1.out.2 4; simp only [decCells, List.getElem?_toArray, List.getElem?_cons_zero, List.getElem?_cons_succ] at y0 y1 y2 y3 y4) | (go_at_call 49; (with_reducible refine (KD.out _ (Kd.C_below HR.out HB1.out)).mono ?_); rintro e w2 ⟨rfl, hb⟩; have E2 := Aside0.mk (Env2.below (Env2.below E1.out hb) (below_alloc (Below.refl _ _) (.cells #[.int .i64 now, .int .i64 r, .int .i64 fl, .int .i64 plan, .int .i64 ca] 68))); have HB2 := Aside0.mk ((HB1.out.trans (hb.mono HB1.out.size)).alloc (HB1.out.trans (hb.mono HB1.out.size)).size (.cells #[.int .i64 now, .int .i64 r, .int .i64 fl, .int .i64 plan, .int .i64 ca] 68)); clear hb x0 x1 x2 x3 x4 x5 x6 x7 y0 y1 y2 y3 y4; have x0 := blk_cell E2.out.1 0; have x1 := blk_cell E2.out.1 1; have x2 := blk_cell E2.out.1 2; have x3 := blk_cell E2.out.1 3; have x4 := blk_cell E2.out.1 4; have x5 := blk_cell E2.out.1 5; have x6 := blk_cell E2.out.1 6; have x7 := blk_cell E2.out.1 7; simp only [polCells, List.getElem?_toArray, List.getElem?_cons_zero, List.getElem?_cons_succ] at x0 x1 x2 x3 x4 x5 x6 x7; have y0 := blk_cell E2.out.2 0; have y1 := blk_cell E2.out.2 1; have y2 := blk_cell E2.out.2 2; have y3 := blk_cell E2.out.2 3; have y4 := blk_cell E2.out.2 4; simp only [decCells, List.getElem?_toArray, List.getElem?_cons_zero, List.getElem?_cons_succ] at y0 y1 y2 y3 y4) | (go_at_call 51; (with_reducible refine (num26_calls _ _).mono ?_); rintro e w' ⟨rfl, ⟨nd, rfl⟩⟩))
        go_ret
        first | exact ⟨rfl, HB2.out⟩ | exact ⟨rfl, pw_below_drewN HB2.out _⟩
      have c7g7 : decide (prev.rep > p.mx) = false := decide_eq_false g7
      by_cases g8 : r < prev.rep
      · have c8 : decide (r < prev.rep) = true := decide_eq_true g8
        have c9 : decide (sm > now) = false := decide_eq_false (hlow g5 (by omega) (by omega) g8)
        have c10 : (r == prev.rep) = false := by simp; omega
        have c10' : (r = prev.rep) = False := eq_false (by omega)
        rw [hcg3 (by omega)] at KD
        clear g5 g6 g7 g8 hlow hleast hcg1 hcg2 hcg3 r1 r2 g1 g2 hch hcool hper hs
        obtain ⟨mn, mx, per, stale, step, ahead, cool, season⟩ := p
        obtain ⟨pt, pr, pf, pp, pc⟩ := prev
        dsimp only [polV, decV, polCells, decCells] at *
        go_enter Try.func13, Try.ntmps13
        go_wp2_with (first | (go_at_call 47; (with_reducible refine (HA.out _).mono ?_); rintro e w1 ⟨rfl, hb⟩; have E1 := Aside0.mk (Env2.below E0.out hb); have HB1 := Aside0.mk (HB0.out.trans (hb.mono HB0.out.size)); clear hb; have x0 := blk_cell E1.out.1 0; have x1 := blk_cell E1.out.1 1; have x2 := blk_cell E1.out.1 2; have x3 := blk_cell E1.out.1 3; have x4 := blk_cell E1.out.1 4; have x5 := blk_cell E1.out.1 5; have x6 := blk_cell E1.out.1 6; have x7 := blk_cell E1.out.1 7; simp only [polCells, List.getElem?_toArray, List.getElem?_cons_zero, List.getElem?_cons_succ] at x0 x1 x2 x3 x4 x5 x6 x7; have y0 := blk_cell E1.out.2 0; have y1 := blk_cell E1.out.2 1; have y2 := blk_cell E1.out.2 2; have y3 := blk_cell E1.out.2 3; have y4 := blk_cell E1.out.2 4; simp only [decCells, List.getElem?_toArray, List.getElem?_cons_zero, List.getElem?_cons_succ] at y0 y1 y2 y3 y4) | (go_at_call 49; (with_reducible refine (KD.out _ (Kd.C_below HR.out HB1.out)).mono ?_); rintro e w2 ⟨rfl, hb⟩; have E2 := Aside0.mk (Env2.below (Env2.below E1.out hb) (below_alloc (Below.refl _ _) (.cells #[.int .i64 now, .int .i64 r, .int .i64 fl, .int .i64 plan, .int .i64 ca] 68))); have HB2 := Aside0.mk ((HB1.out.trans (hb.mono HB1.out.size)).alloc (HB1.out.trans (hb.mono HB1.out.size)).size (.cells #[.int .i64 now, .int .i64 r, .int .i64 fl, .int .i64 plan, .int .i64 ca] 68)); clear hb x0 x1 x2 x3 x4 x5 x6 x7 y0 y1 y2 y3 y4; have x0 := blk_cell E2.out.1 0; have x1 := blk_cell E2.out.1 1; have x2 := blk_cell E2.out.1 2; have x3 := blk_cell E2.out.1 3; have x4 := blk_cell E2.out.1 4; have x5 := blk_cell E2.out.1 5; have x6 := blk_cell E2.out.1 6; have x7 := blk_cell E2.out.1 7; simp only [polCells, List.getElem?_toArray, List.getElem?_cons_zero, List.getElem?_cons_succ] at x0 x1 x2 x3 x4 x5 x6 x7; have y0 := blk_cell E2.out.2 0; have y1 := blk_cell E2.out.2 1; have y2 := blk_cell E2.out.2 2; have y3 := blk_cell E2.out.2 3; have y4 := blk_cell E2.out.2 4; simp only [decCells, List.getElem?_toArray, List.getElem?_cons_zero, List.getElem?_cons_succ] at y0 y1 y2 y3 y4) | (go_at_call 51; (with_reducible refine (num26_calls _ _).mono ?_); rintro e w' ⟨rfl, ⟨nd, rfl⟩⟩) | (go_at_call 55; (with_reducible refine (KA.out _).mono ?_); rintro e w4 ⟨rfl, hb⟩; have N4 := Aside0.mk (blk_below (blk_drewN (blk_new w2 (.cells #[.int .i64 now, .int .i64 r, .int .i64 fl, .int .i64 plan, .int .i64 ca] 68)) _) hb); have E4 := Aside0.mk (Env2.below (Env2.below E2.out (pw_below_drewN (Below.refl _ _) _)) hb); have HB4 := Aside0.mk ((pw_below_drewN HB2.out _).trans (hb.mono HB2.out.size)); clear hb x0 x1 x2 x3 x4 x5 x6 x7 y0 y1 y2 y3 y4; have x0 := blk_cell E4.out.1 0; have x1 := blk_cell E4.out.1 1; have x2 := blk_cell E4.out.1 2; have x3 := blk_cell E4.out.1 3; have x4 := blk_cell E4.out.1 4; have x5 := blk_cell E4.out.1 5; have x6 := blk_cell E4.out.1 6; have x7 := blk_cell E4.out.1 7; simp only [polCells, List.getElem?_toArray, List.getElem?_cons_zero, List.getElem?_cons_succ] at x0 x1 x2 x3 x4 x5 x6 x7; have y0 := blk_cell E4.out.2 0; have y1 := blk_cell E4.out.2 1; have y2 := blk_cell E4.out.2 2; have y3 := blk_cell E4.out.2 3; have y4 := blk_cell E4.out.2 4; simp only [decCells, List.getElem?_toArray, List.getElem?_cons_zero, List.getElem?_cons_succ] at y0 y1 y2 y3 y4; have n1 := blk_cell N4.out 1; simp only [List.getElem?_toArray, List.getElem?_cons_zero, List.getElem?_cons_succ] at n1))
        go_ret
        first | exact ⟨rfl, HB4.out⟩ | exact ⟨rfl, pw_below_drewN HB4.out _⟩
      have c8 : decide (r < prev.rep) = false := decide_eq_false g8
      by_cases g9 : r = prev.rep
      · rw [hcg2 g5 g9] at KD
        have c10 : (r == prev.rep) = true := by simp [g9]
        have c10' : (r = prev.rep) = True := eq_true g9
        clear g5 g6 g7 g8 g9 hlow hleast hcg1 hcg2 hcg3 r1 r2 g1 g2 hch hcool hper hs
        obtain ⟨mn, mx, per, stale, step, ahead, cool, season⟩ := p
        obtain ⟨pt, pr, pf, pp, pc⟩ := prev
        dsimp only [polV, decV, polCells, decCells] at *
        go_enter Try.func13, Try.ntmps13
        go_wp2_with (first | (go_at_call 47; (with_reducible refine (HA.out _).mono ?_); rintro e w1 ⟨rfl, hb⟩; have E1 := Aside0.mk (Env2.below E0.out hb); have HB1 := Aside0.mk (HB0.out.trans (hb.mono HB0.out.size)); clear hb; have x0 := blk_cell E1.out.1 0; have x1 := blk_cell E1.out.1 1; have x2 := blk_cell E1.out.1 2; have x3 := blk_cell E1.out.1 3; have x4 := blk_cell E1.out.1 4; have x5 := blk_cell E1.out.1 5; have x6 := blk_cell E1.out.1 6; have x7 := blk_cell E1.out.1 7; simp only [polCells, List.getElem?_toArray, List.getElem?_cons_zero, List.getElem?_cons_succ] at x0 x1 x2 x3 x4 x5 x6 x7; have y0 := blk_cell E1.out.2 0; have y1 := blk_cell E1.out.2 1; have y2 := blk_cell E1.out.2 2; have y3 := blk_cell E1.out.2 3; have y4 := blk_cell E1.out.2 4; simp only [decCells, List.getElem?_toArray, List.getElem?_cons_zero, List.getElem?_cons_succ] at y0 y1 y2 y3 y4) | (go_at_call 49; (with_reducible refine (KD.out _ (Kd.C_below HR.out HB1.out)).mono ?_); rintro e w2 ⟨rfl, hb⟩; have E2 := Aside0.mk (Env2.below (Env2.below E1.out hb) (below_alloc (Below.refl _ _) (.cells #[.int .i64 now, .int .i64 r, .int .i64 fl, .int .i64 plan, .int .i64 ca] 68))); have HB2 := Aside0.mk ((HB1.out.trans (hb.mono HB1.out.size)).alloc (HB1.out.trans (hb.mono HB1.out.size)).size (.cells #[.int .i64 now, .int .i64 r, .int .i64 fl, .int .i64 plan, .int .i64 ca] 68)); clear hb x0 x1 x2 x3 x4 x5 x6 x7 y0 y1 y2 y3 y4; have x0 := blk_cell E2.out.1 0; have x1 := blk_cell E2.out.1 1; have x2 := blk_cell E2.out.1 2; have x3 := blk_cell E2.out.1 3; have x4 := blk_cell E2.out.1 4; have x5 := blk_cell E2.out.1 5; have x6 := blk_cell E2.out.1 6; have x7 := blk_cell E2.out.1 7; simp only [polCells, List.getElem?_toArray, List.getElem?_cons_zero, List.getElem?_cons_succ] at x0 x1 x2 x3 x4 x5 x6 x7; have y0 := blk_cell E2.out.2 0; have y1 := blk_cell E2.out.2 1; have y2 := blk_cell E2.out.2 2; have y3 := blk_cell E2.out.2 3; have y4 := blk_cell E2.out.2 4; simp only [decCells, List.getElem?_toArray, List.getElem?_cons_zero, List.getElem?_cons_succ] at y0 y1 y2 y3 y4) | (go_at_call 51; (with_reducible refine (num26_calls _ _).mono ?_); rintro e w' ⟨rfl, ⟨nd, rfl⟩⟩))
        go_ret
        first | exact ⟨rfl, HB2.out⟩ | exact ⟨rfl, pw_below_drewN HB2.out _⟩
      have c10 : (r == prev.rep) = false := by simp [g9]
      have c10' : (r = prev.rep) = False := eq_false g9
      rw [hcg3 g9] at KD
      clear g5 g6 g7 g8 g9 hlow hleast hcg1 hcg2 hcg3 r1 r2 g1 g2 hch hcool hper hs
      obtain ⟨mn, mx, per, stale, step, ahead, cool, season⟩ := p
      obtain ⟨pt, pr, pf, pp, pc⟩ := prev
      dsimp only [polV, decV, polCells, decCells] at *
      go_enter Try.func13, Try.ntmps13
      go_wp2_with (first | (go_at_call 47; (with_reducible refine (HA.out _).mono ?_); rintro e w1 ⟨rfl, hb⟩; have E1 := Aside0.mk (Env2.below E0.out hb); have HB1 := Aside0.mk (HB0.out.trans (hb.mono HB0.out.size)); clear hb; have x0 := blk_cell E1.out.1 0; have x1 := blk_cell E1.out.1 1; have x2 := blk_cell E1.out.1 2; have x3 := blk_cell E1.out.1 3; have x4 := blk_cell E1.out.1 4; have x5 := blk_cell E1.out.1 5; have x6 := blk_cell E1.out.1 6; have x7 := blk_cell E1.out.1 7; simp only [polCells, List.getElem?_toArray, List.getElem?_cons_zero, List.getElem?_cons_succ] at x0 x1 x2 x3 x4 x5 x6 x7; have y0 := blk_cell E1.out.2 0; have y1 := blk_cell E1.out.2 1; have y2 := blk_cell E1.out.2 2; have y3 := blk_cell E1.out.2 3; have y4 := blk_cell E1.out.2 4; simp only [decCells, List.getElem?_toArray, List.getElem?_cons_zero, List.getElem?_cons_succ] at y0 y1 y2 y3 y4) | (go_at_call 49; (with_reducible refine (KD.out _ (Kd.C_below HR.out HB1.out)).mono ?_); rintro e w2 ⟨rfl, hb⟩; have E2 := Aside0.mk (Env2.below (Env2.below E1.out hb) (below_alloc (Below.refl _ _) (.cells #[.int .i64 now, .int .i64 r, .int .i64 fl, .int .i64 plan, .int .i64 ca] 68))); have HB2 := Aside0.mk ((HB1.out.trans (hb.mono HB1.out.size)).alloc (HB1.out.trans (hb.mono HB1.out.size)).size (.cells #[.int .i64 now, .int .i64 r, .int .i64 fl, .int .i64 plan, .int .i64 ca] 68)); clear hb x0 x1 x2 x3 x4 x5 x6 x7 y0 y1 y2 y3 y4; have x0 := blk_cell E2.out.1 0; have x1 := blk_cell E2.out.1 1; have x2 := blk_cell E2.out.1 2; have x3 := blk_cell E2.out.1 3; have x4 := blk_cell E2.out.1 4; have x5 := blk_cell E2.out.1 5; have x6 := blk_cell E2.out.1 6; have x7 := blk_cell E2.out.1 7; simp only [polCells, List.getElem?_toArray, List.getElem?_cons_zero, List.getElem?_cons_succ] at x0 x1 x2 x3 x4 x5 x6 x7; have y0 := blk_cell E2.out.2 0; have y1 := blk_cell E2.out.2 1; have y2 := blk_cell E2.out.2 2; have y3 := blk_cell E2.out.2 3; have y4 := blk_cell E2.out.2 4; simp only [decCells, List.getElem?_toArray, List.getElem?_cons_zero, List.getElem?_cons_succ] at y0 y1 y2 y3 y4) | (go_at_call 51; (with_reducible refine (num26_calls _ _).mono ?_); rintro e w' ⟨rfl, ⟨nd, rfl⟩⟩))
      go_ret
      first | exact ⟨rfl, HB2.out⟩ | exact ⟨rfl, pw_below_drewN HB2.out _⟩
  · rw [if_neg g3] at hleast
    have c11 : decide (plan > fl) = false := decide_eq_false g3
    clear g3
    by_cases g4 : fl > p.mx
    · rw [if_pos g4] at hleast
      have c12 : decide (fl > p.mx) = true := decide_eq_true g4
      have c13 : decide (r < p.mx) = false := decide_eq_false (by omega)
      clear g4
      by_cases g5 : prev.t = -9223372036854775808
      · rw [hcg1 g5] at KD
        have c6 : (prev.t != -9223372036854775808) = false := by simp [g5]
        clear g5 hlow hleast hcg1 hcg2 hcg3 r1 r2 g1 g2 hch hcool hper hs
        obtain ⟨mn, mx, per, stale, step, ahead, cool, season⟩ := p
        obtain ⟨pt, pr, pf, pp, pc⟩ := prev
        dsimp only [polV, decV, polCells, decCells] at *
        go_enter Try.func13, Try.ntmps13
        go_wp2_with (first | (go_at_call 47; (with_reducible refine (HA.out _).mono ?_); rintro e w1 ⟨rfl, hb⟩; have E1 := Aside0.mk (Env2.below E0.out hb); have HB1 := Aside0.mk (HB0.out.trans (hb.mono HB0.out.size)); clear hb; have x0 := blk_cell E1.out.1 0; have x1 := blk_cell E1.out.1 1; have x2 := blk_cell E1.out.1 2; have x3 := blk_cell E1.out.1 3; have x4 := blk_cell E1.out.1 4; have x5 := blk_cell E1.out.1 5; have x6 := blk_cell E1.out.1 6; have x7 := blk_cell E1.out.1 7; simp only [polCells, List.getElem?_toArray, List.getElem?_cons_zero, List.getElem?_cons_succ] at x0 x1 x2 x3 x4 x5 x6 x7; have y0 := blk_cell E1.out.2 0; have y1 := blk_cell E1.out.2 1; have y2 := blk_cell E1.out.2 2; have y3 := blk_cell E1.out.2 3; have y4 := blk_cell E1.out.2 4; simp only [decCells, List.getElem?_toArray, List.getElem?_cons_zero, List.getElem?_cons_succ] at y0 y1 y2 y3 y4) | (go_at_call 49; (with_reducible refine (KD.out _ (Kd.C_below HR.out HB1.out)).mono ?_); rintro e w2 ⟨rfl, hb⟩; have E2 := Aside0.mk (Env2.below (Env2.below E1.out hb) (below_alloc (Below.refl _ _) (.cells #[.int .i64 now, .int .i64 r, .int .i64 fl, .int .i64 plan, .int .i64 ca] 68))); have HB2 := Aside0.mk ((HB1.out.trans (hb.mono HB1.out.size)).alloc (HB1.out.trans (hb.mono HB1.out.size)).size (.cells #[.int .i64 now, .int .i64 r, .int .i64 fl, .int .i64 plan, .int .i64 ca] 68)); clear hb x0 x1 x2 x3 x4 x5 x6 x7 y0 y1 y2 y3 y4; have x0 := blk_cell E2.out.1 0; have x1 := blk_cell E2.out.1 1; have x2 := blk_cell E2.out.1 2; have x3 := blk_cell E2.out.1 3; have x4 := blk_cell E2.out.1 4; have x5 := blk_cell E2.out.1 5; have x6 := blk_cell E2.out.1 6; have x7 := blk_cell E2.out.1 7; simp only [polCells, List.getElem?_toArray, List.getElem?_cons_zero, List.getElem?_cons_succ] at x0 x1 x2 x3 x4 x5 x6 x7; have y0 := blk_cell E2.out.2 0; have y1 := blk_cell E2.out.2 1; have y2 := blk_cell E2.out.2 2; have y3 := blk_cell E2.out.2 3; have y4 := blk_cell E2.out.2 4; simp only [decCells, List.getElem?_toArray, List.getElem?_cons_zero, List.getElem?_cons_succ] at y0 y1 y2 y3 y4) | (go_at_call 51; (with_reducible refine (num26_calls _ _).mono ?_); rintro e w' ⟨rfl, ⟨nd, rfl⟩⟩))
        go_ret
        first | exact ⟨rfl, HB2.out⟩ | exact ⟨rfl, pw_below_drewN HB2.out _⟩
      have c6 : (prev.t != -9223372036854775808) = true := by simp [g5]
      by_cases g6 : prev.rep < p.mn
      · have c7g6 : decide (prev.rep < p.mn) = true := decide_eq_true g6
        clear g5 g6 hlow hleast hcg1 hcg2 hcg3 r1 r2 g1 g2 hch hcool hper hs
        obtain ⟨mn, mx, per, stale, step, ahead, cool, season⟩ := p
        obtain ⟨pt, pr, pf, pp, pc⟩ := prev
        dsimp only [polV, decV, polCells, decCells] at *
        go_enter Try.func13, Try.ntmps13
        go_wp2_with (first | (go_at_call 47; (with_reducible refine (HA.out _).mono ?_); rintro e w1 ⟨rfl, hb⟩; have E1 := Aside0.mk (Env2.below E0.out hb); have HB1 := Aside0.mk (HB0.out.trans (hb.mono HB0.out.size)); clear hb; have x0 := blk_cell E1.out.1 0; have x1 := blk_cell E1.out.1 1; have x2 := blk_cell E1.out.1 2; have x3 := blk_cell E1.out.1 3; have x4 := blk_cell E1.out.1 4; have x5 := blk_cell E1.out.1 5; have x6 := blk_cell E1.out.1 6; have x7 := blk_cell E1.out.1 7; simp only [polCells, List.getElem?_toArray, List.getElem?_cons_zero, List.getElem?_cons_succ] at x0 x1 x2 x3 x4 x5 x6 x7; have y0 := blk_cell E1.out.2 0; have y1 := blk_cell E1.out.2 1; have y2 := blk_cell E1.out.2 2; have y3 := blk_cell E1.out.2 3; have y4 := blk_cell E1.out.2 4; simp only [decCells, List.getElem?_toArray, List.getElem?_cons_zero, List.getElem?_cons_succ] at y0 y1 y2 y3 y4) | (go_at_call 49; (with_reducible refine (KD.out _ (Kd.C_below HR.out HB1.out)).mono ?_); rintro e w2 ⟨rfl, hb⟩; have E2 := Aside0.mk (Env2.below (Env2.below E1.out hb) (below_alloc (Below.refl _ _) (.cells #[.int .i64 now, .int .i64 r, .int .i64 fl, .int .i64 plan, .int .i64 ca] 68))); have HB2 := Aside0.mk ((HB1.out.trans (hb.mono HB1.out.size)).alloc (HB1.out.trans (hb.mono HB1.out.size)).size (.cells #[.int .i64 now, .int .i64 r, .int .i64 fl, .int .i64 plan, .int .i64 ca] 68)); clear hb x0 x1 x2 x3 x4 x5 x6 x7 y0 y1 y2 y3 y4; have x0 := blk_cell E2.out.1 0; have x1 := blk_cell E2.out.1 1; have x2 := blk_cell E2.out.1 2; have x3 := blk_cell E2.out.1 3; have x4 := blk_cell E2.out.1 4; have x5 := blk_cell E2.out.1 5; have x6 := blk_cell E2.out.1 6; have x7 := blk_cell E2.out.1 7; simp only [polCells, List.getElem?_toArray, List.getElem?_cons_zero, List.getElem?_cons_succ] at x0 x1 x2 x3 x4 x5 x6 x7; have y0 := blk_cell E2.out.2 0; have y1 := blk_cell E2.out.2 1; have y2 := blk_cell E2.out.2 2; have y3 := blk_cell E2.out.2 3; have y4 := blk_cell E2.out.2 4; simp only [decCells, List.getElem?_toArray, List.getElem?_cons_zero, List.getElem?_cons_succ] at y0 y1 y2 y3 y4) | (go_at_call 51; (with_reducible refine (num26_calls _ _).mono ?_); rintro e w' ⟨rfl, ⟨nd, rfl⟩⟩))
        go_ret
        first | exact ⟨rfl, HB2.out⟩ | exact ⟨rfl, pw_below_drewN HB2.out _⟩
      have c7g6 : decide (prev.rep < p.mn) = false := decide_eq_false g6
      by_cases g7 : prev.rep > p.mx
      · have c7g7 : decide (prev.rep > p.mx) = true := decide_eq_true g7
        clear g5 g7 hlow hleast hcg1 hcg2 hcg3 r1 r2 g1 g2 hch hcool hper hs g6
        obtain ⟨mn, mx, per, stale, step, ahead, cool, season⟩ := p
        obtain ⟨pt, pr, pf, pp, pc⟩ := prev
        dsimp only [polV, decV, polCells, decCells] at *
        go_enter Try.func13, Try.ntmps13
        go_wp2_with (first | (go_at_call 47; (with_reducible refine (HA.out _).mono ?_); rintro e w1 ⟨rfl, hb⟩; have E1 := Aside0.mk (Env2.below E0.out hb); have HB1 := Aside0.mk (HB0.out.trans (hb.mono HB0.out.size)); clear hb; have x0 := blk_cell E1.out.1 0; have x1 := blk_cell E1.out.1 1; have x2 := blk_cell E1.out.1 2; have x3 := blk_cell E1.out.1 3; have x4 := blk_cell E1.out.1 4; have x5 := blk_cell E1.out.1 5; have x6 := blk_cell E1.out.1 6; have x7 := blk_cell E1.out.1 7; simp only [polCells, List.getElem?_toArray, List.getElem?_cons_zero, List.getElem?_cons_succ] at x0 x1 x2 x3 x4 x5 x6 x7; have y0 := blk_cell E1.out.2 0; have y1 := blk_cell E1.out.2 1; have y2 := blk_cell E1.out.2 2; have y3 := blk_cell E1.out.2 3; have y4 := blk_cell E1.out.2 4; simp only [decCells, List.getElem?_toArray, List.getElem?_cons_zero, List.getElem?_cons_succ] at y0 y1 y2 y3 y4) | (go_at_call 49; (with_reducible refine (KD.out _ (Kd.C_below HR.out HB1.out)).mono ?_); rintro e w2 ⟨rfl, hb⟩; have E2 := Aside0.mk (Env2.below (Env2.below E1.out hb) (below_alloc (Below.refl _ _) (.cells #[.int .i64 now, .int .i64 r, .int .i64 fl, .int .i64 plan, .int .i64 ca] 68))); have HB2 := Aside0.mk ((HB1.out.trans (hb.mono HB1.out.size)).alloc (HB1.out.trans (hb.mono HB1.out.size)).size (.cells #[.int .i64 now, .int .i64 r, .int .i64 fl, .int .i64 plan, .int .i64 ca] 68)); clear hb x0 x1 x2 x3 x4 x5 x6 x7 y0 y1 y2 y3 y4; have x0 := blk_cell E2.out.1 0; have x1 := blk_cell E2.out.1 1; have x2 := blk_cell E2.out.1 2; have x3 := blk_cell E2.out.1 3; have x4 := blk_cell E2.out.1 4; have x5 := blk_cell E2.out.1 5; have x6 := blk_cell E2.out.1 6; have x7 := blk_cell E2.out.1 7; simp only [polCells, List.getElem?_toArray, List.getElem?_cons_zero, List.getElem?_cons_succ] at x0 x1 x2 x3 x4 x5 x6 x7; have y0 := blk_cell E2.out.2 0; have y1 := blk_cell E2.out.2 1; have y2 := blk_cell E2.out.2 2; have y3 := blk_cell E2.out.2 3; have y4 := blk_cell E2.out.2 4; simp only [decCells, List.getElem?_toArray, List.getElem?_cons_zero, List.getElem?_cons_succ] at y0 y1 y2 y3 y4) | (go_at_call 51; (with_reducible refine (num26_calls _ _).mono ?_); rintro e w' ⟨rfl, ⟨nd, rfl⟩⟩))
        go_ret
        first | exact ⟨rfl, HB2.out⟩ | exact ⟨rfl, pw_below_drewN HB2.out _⟩
      have c7g7 : decide (prev.rep > p.mx) = false := decide_eq_false g7
      by_cases g8 : r < prev.rep
      · have c8 : decide (r < prev.rep) = true := decide_eq_true g8
        have c9 : decide (sm > now) = false := decide_eq_false (hlow g5 (by omega) (by omega) g8)
        have c10 : (r == prev.rep) = false := by simp; omega
        have c10' : (r = prev.rep) = False := eq_false (by omega)
        rw [hcg3 (by omega)] at KD
        clear g5 g6 g7 g8 hlow hleast hcg1 hcg2 hcg3 r1 r2 g1 g2 hch hcool hper hs
        obtain ⟨mn, mx, per, stale, step, ahead, cool, season⟩ := p
        obtain ⟨pt, pr, pf, pp, pc⟩ := prev
        dsimp only [polV, decV, polCells, decCells] at *
        go_enter Try.func13, Try.ntmps13
        go_wp2_with (first | (go_at_call 47; (with_reducible refine (HA.out _).mono ?_); rintro e w1 ⟨rfl, hb⟩; have E1 := Aside0.mk (Env2.below E0.out hb); have HB1 := Aside0.mk (HB0.out.trans (hb.mono HB0.out.size)); clear hb; have x0 := blk_cell E1.out.1 0; have x1 := blk_cell E1.out.1 1; have x2 := blk_cell E1.out.1 2; have x3 := blk_cell E1.out.1 3; have x4 := blk_cell E1.out.1 4; have x5 := blk_cell E1.out.1 5; have x6 := blk_cell E1.out.1 6; have x7 := blk_cell E1.out.1 7; simp only [polCells, List.getElem?_toArray, List.getElem?_cons_zero, List.getElem?_cons_succ] at x0 x1 x2 x3 x4 x5 x6 x7; have y0 := blk_cell E1.out.2 0; have y1 := blk_cell E1.out.2 1; have y2 := blk_cell E1.out.2 2; have y3 := blk_cell E1.out.2 3; have y4 := blk_cell E1.out.2 4; simp only [decCells, List.getElem?_toArray, List.getElem?_cons_zero, List.getElem?_cons_succ] at y0 y1 y2 y3 y4) | (go_at_call 49; (with_reducible refine (KD.out _ (Kd.C_below HR.out HB1.out)).mono ?_); rintro e w2 ⟨rfl, hb⟩; have E2 := Aside0.mk (Env2.below (Env2.below E1.out hb) (below_alloc (Below.refl _ _) (.cells #[.int .i64 now, .int .i64 r, .int .i64 fl, .int .i64 plan, .int .i64 ca] 68))); have HB2 := Aside0.mk ((HB1.out.trans (hb.mono HB1.out.size)).alloc (HB1.out.trans (hb.mono HB1.out.size)).size (.cells #[.int .i64 now, .int .i64 r, .int .i64 fl, .int .i64 plan, .int .i64 ca] 68)); clear hb x0 x1 x2 x3 x4 x5 x6 x7 y0 y1 y2 y3 y4; have x0 := blk_cell E2.out.1 0; have x1 := blk_cell E2.out.1 1; have x2 := blk_cell E2.out.1 2; have x3 := blk_cell E2.out.1 3; have x4 := blk_cell E2.out.1 4; have x5 := blk_cell E2.out.1 5; have x6 := blk_cell E2.out.1 6; have x7 := blk_cell E2.out.1 7; simp only [polCells, List.getElem?_toArray, List.getElem?_cons_zero, List.getElem?_cons_succ] at x0 x1 x2 x3 x4 x5 x6 x7; have y0 := blk_cell E2.out.2 0; have y1 := blk_cell E2.out.2 1; have y2 := blk_cell E2.out.2 2; have y3 := blk_cell E2.out.2 3; have y4 := blk_cell E2.out.2 4; simp only [decCells, List.getElem?_toArray, List.getElem?_cons_zero, List.getElem?_cons_succ] at y0 y1 y2 y3 y4) | (go_at_call 51; (with_reducible refine (num26_calls _ _).mono ?_); rintro e w' ⟨rfl, ⟨nd, rfl⟩⟩) | (go_at_call 55; (with_reducible refine (KA.out _).mono ?_); rintro e w4 ⟨rfl, hb⟩; have N4 := Aside0.mk (blk_below (blk_drewN (blk_new w2 (.cells #[.int .i64 now, .int .i64 r, .int .i64 fl, .int .i64 plan, .int .i64 ca] 68)) _) hb); have E4 := Aside0.mk (Env2.below (Env2.below E2.out (pw_below_drewN (Below.refl _ _) _)) hb); have HB4 := Aside0.mk ((pw_below_drewN HB2.out _).trans (hb.mono HB2.out.size)); clear hb x0 x1 x2 x3 x4 x5 x6 x7 y0 y1 y2 y3 y4; have x0 := blk_cell E4.out.1 0; have x1 := blk_cell E4.out.1 1; have x2 := blk_cell E4.out.1 2; have x3 := blk_cell E4.out.1 3; have x4 := blk_cell E4.out.1 4; have x5 := blk_cell E4.out.1 5; have x6 := blk_cell E4.out.1 6; have x7 := blk_cell E4.out.1 7; simp only [polCells, List.getElem?_toArray, List.getElem?_cons_zero, List.getElem?_cons_succ] at x0 x1 x2 x3 x4 x5 x6 x7; have y0 := blk_cell E4.out.2 0; have y1 := blk_cell E4.out.2 1; have y2 := blk_cell E4.out.2 2; have y3 := blk_cell E4.out.2 3; have y4 := blk_cell E4.out.2 4; simp only [decCells, List.getElem?_toArray, List.getElem?_cons_zero, List.getElem?_cons_succ] at y0 y1 y2 y3 y4; have n1 := blk_cell N4.out 1; simp only [List.getElem?_toArray, List.getElem?_cons_zero, List.getElem?_cons_succ] at n1))
        go_ret
        first | exact ⟨rfl, HB4.out⟩ | exact ⟨rfl, pw_below_drewN HB4.out _⟩
      have c8 : decide (r < prev.rep) = false := decide_eq_false g8
      by_cases g9 : r = prev.rep
      · rw [hcg2 g5 g9] at KD
        have c10 : (r == prev.rep) = true := by simp [g9]
        have c10' : (r = prev.rep) = True := eq_true g9
        clear g5 g6 g7 g8 g9 hlow hleast hcg1 hcg2 hcg3 r1 r2 g1 g2 hch hcool hper hs
        obtain ⟨mn, mx, per, stale, step, ahead, cool, season⟩ := p
        obtain ⟨pt, pr, pf, pp, pc⟩ := prev
        dsimp only [polV, decV, polCells, decCells] at *
        go_enter Try.func13, Try.ntmps13
        go_wp2_with (first | (go_at_call 47; (with_reducible refine (HA.out _).mono ?_); rintro e w1 ⟨rfl, hb⟩; have E1 := Aside0.mk (Env2.below E0.out hb); have HB1 := Aside0.mk (HB0.out.trans (hb.mono HB0.out.size)); clear hb; have x0 := blk_cell E1.out.1 0; have x1 := blk_cell E1.out.1 1; have x2 := blk_cell E1.out.1 2; have x3 := blk_cell E1.out.1 3; have x4 := blk_cell E1.out.1 4; have x5 := blk_cell E1.out.1 5; have x6 := blk_cell E1.out.1 6; have x7 := blk_cell E1.out.1 7; simp only [polCells, List.getElem?_toArray, List.getElem?_cons_zero, List.getElem?_cons_succ] at x0 x1 x2 x3 x4 x5 x6 x7; have y0 := blk_cell E1.out.2 0; have y1 := blk_cell E1.out.2 1; have y2 := blk_cell E1.out.2 2; have y3 := blk_cell E1.out.2 3; have y4 := blk_cell E1.out.2 4; simp only [decCells, List.getElem?_toArray, List.getElem?_cons_zero, List.getElem?_cons_succ] at y0 y1 y2 y3 y4) | (go_at_call 49; (with_reducible refine (KD.out _ (Kd.C_below HR.out HB1.out)).mono ?_); rintro e w2 ⟨rfl, hb⟩; have E2 := Aside0.mk (Env2.below (Env2.below E1.out hb) (below_alloc (Below.refl _ _) (.cells #[.int .i64 now, .int .i64 r, .int .i64 fl, .int .i64 plan, .int .i64 ca] 68))); have HB2 := Aside0.mk ((HB1.out.trans (hb.mono HB1.out.size)).alloc (HB1.out.trans (hb.mono HB1.out.size)).size (.cells #[.int .i64 now, .int .i64 r, .int .i64 fl, .int .i64 plan, .int .i64 ca] 68)); clear hb x0 x1 x2 x3 x4 x5 x6 x7 y0 y1 y2 y3 y4; have x0 := blk_cell E2.out.1 0; have x1 := blk_cell E2.out.1 1; have x2 := blk_cell E2.out.1 2; have x3 := blk_cell E2.out.1 3; have x4 := blk_cell E2.out.1 4; have x5 := blk_cell E2.out.1 5; have x6 := blk_cell E2.out.1 6; have x7 := blk_cell E2.out.1 7; simp only [polCells, List.getElem?_toArray, List.getElem?_cons_zero, List.getElem?_cons_succ] at x0 x1 x2 x3 x4 x5 x6 x7; have y0 := blk_cell E2.out.2 0; have y1 := blk_cell E2.out.2 1; have y2 := blk_cell E2.out.2 2; have y3 := blk_cell E2.out.2 3; have y4 := blk_cell E2.out.2 4; simp only [decCells, List.getElem?_toArray, List.getElem?_cons_zero, List.getElem?_cons_succ] at y0 y1 y2 y3 y4) | (go_at_call 51; (with_reducible refine (num26_calls _ _).mono ?_); rintro e w' ⟨rfl, ⟨nd, rfl⟩⟩))
        go_ret
        first | exact ⟨rfl, HB2.out⟩ | exact ⟨rfl, pw_below_drewN HB2.out _⟩
      have c10 : (r == prev.rep) = false := by simp [g9]
      have c10' : (r = prev.rep) = False := eq_false g9
      rw [hcg3 g9] at KD
      clear g5 g6 g7 g8 g9 hlow hleast hcg1 hcg2 hcg3 r1 r2 g1 g2 hch hcool hper hs
      obtain ⟨mn, mx, per, stale, step, ahead, cool, season⟩ := p
      obtain ⟨pt, pr, pf, pp, pc⟩ := prev
      dsimp only [polV, decV, polCells, decCells] at *
      go_enter Try.func13, Try.ntmps13
      go_wp2_with (first | (go_at_call 47; (with_reducible refine (HA.out _).mono ?_); rintro e w1 ⟨rfl, hb⟩; have E1 := Aside0.mk (Env2.below E0.out hb); have HB1 := Aside0.mk (HB0.out.trans (hb.mono HB0.out.size)); clear hb; have x0 := blk_cell E1.out.1 0; have x1 := blk_cell E1.out.1 1; have x2 := blk_cell E1.out.1 2; have x3 := blk_cell E1.out.1 3; have x4 := blk_cell E1.out.1 4; have x5 := blk_cell E1.out.1 5; have x6 := blk_cell E1.out.1 6; have x7 := blk_cell E1.out.1 7; simp only [polCells, List.getElem?_toArray, List.getElem?_cons_zero, List.getElem?_cons_succ] at x0 x1 x2 x3 x4 x5 x6 x7; have y0 := blk_cell E1.out.2 0; have y1 := blk_cell E1.out.2 1; have y2 := blk_cell E1.out.2 2; have y3 := blk_cell E1.out.2 3; have y4 := blk_cell E1.out.2 4; simp only [decCells, List.getElem?_toArray, List.getElem?_cons_zero, List.getElem?_cons_succ] at y0 y1 y2 y3 y4) | (go_at_call 49; (with_reducible refine (KD.out _ (Kd.C_below HR.out HB1.out)).mono ?_); rintro e w2 ⟨rfl, hb⟩; have E2 := Aside0.mk (Env2.below (Env2.below E1.out hb) (below_alloc (Below.refl _ _) (.cells #[.int .i64 now, .int .i64 r, .int .i64 fl, .int .i64 plan, .int .i64 ca] 68))); have HB2 := Aside0.mk ((HB1.out.trans (hb.mono HB1.out.size)).alloc (HB1.out.trans (hb.mono HB1.out.size)).size (.cells #[.int .i64 now, .int .i64 r, .int .i64 fl, .int .i64 plan, .int .i64 ca] 68)); clear hb x0 x1 x2 x3 x4 x5 x6 x7 y0 y1 y2 y3 y4; have x0 := blk_cell E2.out.1 0; have x1 := blk_cell E2.out.1 1; have x2 := blk_cell E2.out.1 2; have x3 := blk_cell E2.out.1 3; have x4 := blk_cell E2.out.1 4; have x5 := blk_cell E2.out.1 5; have x6 := blk_cell E2.out.1 6; have x7 := blk_cell E2.out.1 7; simp only [polCells, List.getElem?_toArray, List.getElem?_cons_zero, List.getElem?_cons_succ] at x0 x1 x2 x3 x4 x5 x6 x7; have y0 := blk_cell E2.out.2 0; have y1 := blk_cell E2.out.2 1; have y2 := blk_cell E2.out.2 2; have y3 := blk_cell E2.out.2 3; have y4 := blk_cell E2.out.2 4; simp only [decCells, List.getElem?_toArray, List.getElem?_cons_zero, List.getElem?_cons_succ] at y0 y1 y2 y3 y4) | (go_at_call 51; (with_reducible refine (num26_calls _ _).mono ?_); rintro e w' ⟨rfl, ⟨nd, rfl⟩⟩))
      go_ret
      first | exact ⟨rfl, HB2.out⟩ | exact ⟨rfl, pw_below_drewN HB2.out _⟩
    · rw [if_neg g4] at hleast
      have c12 : decide (fl > p.mx) = false := decide_eq_false g4
      have c13 : decide (r < fl) = false := decide_eq_false (by omega)
      clear g4
      by_cases g5 : prev.t = -9223372036854775808
      · rw [hcg1 g5] at KD
        have c6 : (prev.t != -9223372036854775808) = false := by simp [g5]
        clear g5 hlow hleast hcg1 hcg2 hcg3 r1 r2 g1 g2 hch hcool hper hs
        obtain ⟨mn, mx, per, stale, step, ahead, cool, season⟩ := p
        obtain ⟨pt, pr, pf, pp, pc⟩ := prev
        dsimp only [polV, decV, polCells, decCells] at *
        go_enter Try.func13, Try.ntmps13
        go_wp2_with (first | (go_at_call 47; (with_reducible refine (HA.out _).mono ?_); rintro e w1 ⟨rfl, hb⟩; have E1 := Aside0.mk (Env2.below E0.out hb); have HB1 := Aside0.mk (HB0.out.trans (hb.mono HB0.out.size)); clear hb; have x0 := blk_cell E1.out.1 0; have x1 := blk_cell E1.out.1 1; have x2 := blk_cell E1.out.1 2; have x3 := blk_cell E1.out.1 3; have x4 := blk_cell E1.out.1 4; have x5 := blk_cell E1.out.1 5; have x6 := blk_cell E1.out.1 6; have x7 := blk_cell E1.out.1 7; simp only [polCells, List.getElem?_toArray, List.getElem?_cons_zero, List.getElem?_cons_succ] at x0 x1 x2 x3 x4 x5 x6 x7; have y0 := blk_cell E1.out.2 0; have y1 := blk_cell E1.out.2 1; have y2 := blk_cell E1.out.2 2; have y3 := blk_cell E1.out.2 3; have y4 := blk_cell E1.out.2 4; simp only [decCells, List.getElem?_toArray, List.getElem?_cons_zero, List.getElem?_cons_succ] at y0 y1 y2 y3 y4) | (go_at_call 49; (with_reducible refine (KD.out _ (Kd.C_below HR.out HB1.out)).mono ?_); rintro e w2 ⟨rfl, hb⟩; have E2 := Aside0.mk (Env2.below (Env2.below E1.out hb) (below_alloc (Below.refl _ _) (.cells #[.int .i64 now, .int .i64 r, .int .i64 fl, .int .i64 plan, .int .i64 ca] 68))); have HB2 := Aside0.mk ((HB1.out.trans (hb.mono HB1.out.size)).alloc (HB1.out.trans (hb.mono HB1.out.size)).size (.cells #[.int .i64 now, .int .i64 r, .int .i64 fl, .int .i64 plan, .int .i64 ca] 68)); clear hb x0 x1 x2 x3 x4 x5 x6 x7 y0 y1 y2 y3 y4; have x0 := blk_cell E2.out.1 0; have x1 := blk_cell E2.out.1 1; have x2 := blk_cell E2.out.1 2; have x3 := blk_cell E2.out.1 3; have x4 := blk_cell E2.out.1 4; have x5 := blk_cell E2.out.1 5; have x6 := blk_cell E2.out.1 6; have x7 := blk_cell E2.out.1 7; simp only [polCells, List.getElem?_toArray, List.getElem?_cons_zero, List.getElem?_cons_succ] at x0 x1 x2 x3 x4 x5 x6 x7; have y0 := blk_cell E2.out.2 0; have y1 := blk_cell E2.out.2 1; have y2 := blk_cell E2.out.2 2; have y3 := blk_cell E2.out.2 3; have y4 := blk_cell E2.out.2 4; simp only [decCells, List.getElem?_toArray, List.getElem?_cons_zero, List.getElem?_cons_succ] at y0 y1 y2 y3 y4) | (go_at_call 51; (with_reducible refine (num26_calls _ _).mono ?_); rintro e w' ⟨rfl, ⟨nd, rfl⟩⟩))
        go_ret
        first | exact ⟨rfl, HB2.out⟩ | exact ⟨rfl, pw_below_drewN HB2.out _⟩
      have c6 : (prev.t != -9223372036854775808) = true := by simp [g5]
      by_cases g6 : prev.rep < p.mn
      · have c7g6 : decide (prev.rep < p.mn) = true := decide_eq_true g6
        clear g5 g6 hlow hleast hcg1 hcg2 hcg3 r1 r2 g1 g2 hch hcool hper hs
        obtain ⟨mn, mx, per, stale, step, ahead, cool, season⟩ := p
        obtain ⟨pt, pr, pf, pp, pc⟩ := prev
        dsimp only [polV, decV, polCells, decCells] at *
        go_enter Try.func13, Try.ntmps13
        go_wp2_with (first | (go_at_call 47; (with_reducible refine (HA.out _).mono ?_); rintro e w1 ⟨rfl, hb⟩; have E1 := Aside0.mk (Env2.below E0.out hb); have HB1 := Aside0.mk (HB0.out.trans (hb.mono HB0.out.size)); clear hb; have x0 := blk_cell E1.out.1 0; have x1 := blk_cell E1.out.1 1; have x2 := blk_cell E1.out.1 2; have x3 := blk_cell E1.out.1 3; have x4 := blk_cell E1.out.1 4; have x5 := blk_cell E1.out.1 5; have x6 := blk_cell E1.out.1 6; have x7 := blk_cell E1.out.1 7; simp only [polCells, List.getElem?_toArray, List.getElem?_cons_zero, List.getElem?_cons_succ] at x0 x1 x2 x3 x4 x5 x6 x7; have y0 := blk_cell E1.out.2 0; have y1 := blk_cell E1.out.2 1; have y2 := blk_cell E1.out.2 2; have y3 := blk_cell E1.out.2 3; have y4 := blk_cell E1.out.2 4; simp only [decCells, List.getElem?_toArray, List.getElem?_cons_zero, List.getElem?_cons_succ] at y0 y1 y2 y3 y4) | (go_at_call 49; (with_reducible refine (KD.out _ (Kd.C_below HR.out HB1.out)).mono ?_); rintro e w2 ⟨rfl, hb⟩; have E2 := Aside0.mk (Env2.below (Env2.below E1.out hb) (below_alloc (Below.refl _ _) (.cells #[.int .i64 now, .int .i64 r, .int .i64 fl, .int .i64 plan, .int .i64 ca] 68))); have HB2 := Aside0.mk ((HB1.out.trans (hb.mono HB1.out.size)).alloc (HB1.out.trans (hb.mono HB1.out.size)).size (.cells #[.int .i64 now, .int .i64 r, .int .i64 fl, .int .i64 plan, .int .i64 ca] 68)); clear hb x0 x1 x2 x3 x4 x5 x6 x7 y0 y1 y2 y3 y4; have x0 := blk_cell E2.out.1 0; have x1 := blk_cell E2.out.1 1; have x2 := blk_cell E2.out.1 2; have x3 := blk_cell E2.out.1 3; have x4 := blk_cell E2.out.1 4; have x5 := blk_cell E2.out.1 5; have x6 := blk_cell E2.out.1 6; have x7 := blk_cell E2.out.1 7; simp only [polCells, List.getElem?_toArray, List.getElem?_cons_zero, List.getElem?_cons_succ] at x0 x1 x2 x3 x4 x5 x6 x7; have y0 := blk_cell E2.out.2 0; have y1 := blk_cell E2.out.2 1; have y2 := blk_cell E2.out.2 2; have y3 := blk_cell E2.out.2 3; have y4 := blk_cell E2.out.2 4; simp only [decCells, List.getElem?_toArray, List.getElem?_cons_zero, List.getElem?_cons_succ] at y0 y1 y2 y3 y4) | (go_at_call 51; (with_reducible refine (num26_calls _ _).mono ?_); rintro e w' ⟨rfl, ⟨nd, rfl⟩⟩))
        go_ret
        first | exact ⟨rfl, HB2.out⟩ | exact ⟨rfl, pw_below_drewN HB2.out _⟩
      have c7g6 : decide (prev.rep < p.mn) = false := decide_eq_false g6
      by_cases g7 : prev.rep > p.mx
      · have c7g7 : decide (prev.rep > p.mx) = true := decide_eq_true g7
        clear g5 g7 hlow hleast hcg1 hcg2 hcg3 r1 r2 g1 g2 hch hcool hper hs g6
        obtain ⟨mn, mx, per, stale, step, ahead, cool, season⟩ := p
        obtain ⟨pt, pr, pf, pp, pc⟩ := prev
        dsimp only [polV, decV, polCells, decCells] at *
        go_enter Try.func13, Try.ntmps13
        go_wp2_with (first | (go_at_call 47; (with_reducible refine (HA.out _).mono ?_); rintro e w1 ⟨rfl, hb⟩; have E1 := Aside0.mk (Env2.below E0.out hb); have HB1 := Aside0.mk (HB0.out.trans (hb.mono HB0.out.size)); clear hb; have x0 := blk_cell E1.out.1 0; have x1 := blk_cell E1.out.1 1; have x2 := blk_cell E1.out.1 2; have x3 := blk_cell E1.out.1 3; have x4 := blk_cell E1.out.1 4; have x5 := blk_cell E1.out.1 5; have x6 := blk_cell E1.out.1 6; have x7 := blk_cell E1.out.1 7; simp only [polCells, List.getElem?_toArray, List.getElem?_cons_zero, List.getElem?_cons_succ] at x0 x1 x2 x3 x4 x5 x6 x7; have y0 := blk_cell E1.out.2 0; have y1 := blk_cell E1.out.2 1; have y2 := blk_cell E1.out.2 2; have y3 := blk_cell E1.out.2 3; have y4 := blk_cell E1.out.2 4; simp only [decCells, List.getElem?_toArray, List.getElem?_cons_zero, List.getElem?_cons_succ] at y0 y1 y2 y3 y4) | (go_at_call 49; (with_reducible refine (KD.out _ (Kd.C_below HR.out HB1.out)).mono ?_); rintro e w2 ⟨rfl, hb⟩; have E2 := Aside0.mk (Env2.below (Env2.below E1.out hb) (below_alloc (Below.refl _ _) (.cells #[.int .i64 now, .int .i64 r, .int .i64 fl, .int .i64 plan, .int .i64 ca] 68))); have HB2 := Aside0.mk ((HB1.out.trans (hb.mono HB1.out.size)).alloc (HB1.out.trans (hb.mono HB1.out.size)).size (.cells #[.int .i64 now, .int .i64 r, .int .i64 fl, .int .i64 plan, .int .i64 ca] 68)); clear hb x0 x1 x2 x3 x4 x5 x6 x7 y0 y1 y2 y3 y4; have x0 := blk_cell E2.out.1 0; have x1 := blk_cell E2.out.1 1; have x2 := blk_cell E2.out.1 2; have x3 := blk_cell E2.out.1 3; have x4 := blk_cell E2.out.1 4; have x5 := blk_cell E2.out.1 5; have x6 := blk_cell E2.out.1 6; have x7 := blk_cell E2.out.1 7; simp only [polCells, List.getElem?_toArray, List.getElem?_cons_zero, List.getElem?_cons_succ] at x0 x1 x2 x3 x4 x5 x6 x7; have y0 := blk_cell E2.out.2 0; have y1 := blk_cell E2.out.2 1; have y2 := blk_cell E2.out.2 2; have y3 := blk_cell E2.out.2 3; have y4 := blk_cell E2.out.2 4; simp only [decCells, List.getElem?_toArray, List.getElem?_cons_zero, List.getElem?_cons_succ] at y0 y1 y2 y3 y4) | (go_at_call 51; (with_reducible refine (num26_calls _ _).mono ?_); rintro e w' ⟨rfl, ⟨nd, rfl⟩⟩))
        go_ret
        first | exact ⟨rfl, HB2.out⟩ | exact ⟨rfl, pw_below_drewN HB2.out _⟩
      have c7g7 : decide (prev.rep > p.mx) = false := decide_eq_false g7
      by_cases g8 : r < prev.rep
      · have c8 : decide (r < prev.rep) = true := decide_eq_true g8
        have c9 : decide (sm > now) = false := decide_eq_false (hlow g5 (by omega) (by omega) g8)
        have c10 : (r == prev.rep) = false := by simp; omega
        have c10' : (r = prev.rep) = False := eq_false (by omega)
        rw [hcg3 (by omega)] at KD
        clear g5 g6 g7 g8 hlow hleast hcg1 hcg2 hcg3 r1 r2 g1 g2 hch hcool hper hs
        obtain ⟨mn, mx, per, stale, step, ahead, cool, season⟩ := p
        obtain ⟨pt, pr, pf, pp, pc⟩ := prev
        dsimp only [polV, decV, polCells, decCells] at *
        go_enter Try.func13, Try.ntmps13
        go_wp2_with (first | (go_at_call 47; (with_reducible refine (HA.out _).mono ?_); rintro e w1 ⟨rfl, hb⟩; have E1 := Aside0.mk (Env2.below E0.out hb); have HB1 := Aside0.mk (HB0.out.trans (hb.mono HB0.out.size)); clear hb; have x0 := blk_cell E1.out.1 0; have x1 := blk_cell E1.out.1 1; have x2 := blk_cell E1.out.1 2; have x3 := blk_cell E1.out.1 3; have x4 := blk_cell E1.out.1 4; have x5 := blk_cell E1.out.1 5; have x6 := blk_cell E1.out.1 6; have x7 := blk_cell E1.out.1 7; simp only [polCells, List.getElem?_toArray, List.getElem?_cons_zero, List.getElem?_cons_succ] at x0 x1 x2 x3 x4 x5 x6 x7; have y0 := blk_cell E1.out.2 0; have y1 := blk_cell E1.out.2 1; have y2 := blk_cell E1.out.2 2; have y3 := blk_cell E1.out.2 3; have y4 := blk_cell E1.out.2 4; simp only [decCells, List.getElem?_toArray, List.getElem?_cons_zero, List.getElem?_cons_succ] at y0 y1 y2 y3 y4) | (go_at_call 49; (with_reducible refine (KD.out _ (Kd.C_below HR.out HB1.out)).mono ?_); rintro e w2 ⟨rfl, hb⟩; have E2 := Aside0.mk (Env2.below (Env2.below E1.out hb) (below_alloc (Below.refl _ _) (.cells #[.int .i64 now, .int .i64 r, .int .i64 fl, .int .i64 plan, .int .i64 ca] 68))); have HB2 := Aside0.mk ((HB1.out.trans (hb.mono HB1.out.size)).alloc (HB1.out.trans (hb.mono HB1.out.size)).size (.cells #[.int .i64 now, .int .i64 r, .int .i64 fl, .int .i64 plan, .int .i64 ca] 68)); clear hb x0 x1 x2 x3 x4 x5 x6 x7 y0 y1 y2 y3 y4; have x0 := blk_cell E2.out.1 0; have x1 := blk_cell E2.out.1 1; have x2 := blk_cell E2.out.1 2; have x3 := blk_cell E2.out.1 3; have x4 := blk_cell E2.out.1 4; have x5 := blk_cell E2.out.1 5; have x6 := blk_cell E2.out.1 6; have x7 := blk_cell E2.out.1 7; simp only [polCells, List.getElem?_toArray, List.getElem?_cons_zero, List.getElem?_cons_succ] at x0 x1 x2 x3 x4 x5 x6 x7; have y0 := blk_cell E2.out.2 0; have y1 := blk_cell E2.out.2 1; have y2 := blk_cell E2.out.2 2; have y3 := blk_cell E2.out.2 3; have y4 := blk_cell E2.out.2 4; simp only [decCells, List.getElem?_toArray, List.getElem?_cons_zero, List.getElem?_cons_succ] at y0 y1 y2 y3 y4) | (go_at_call 51; (with_reducible refine (num26_calls _ _).mono ?_); rintro e w' ⟨rfl, ⟨nd, rfl⟩⟩) | (go_at_call 55; (with_reducible refine (KA.out _).mono ?_); rintro e w4 ⟨rfl, hb⟩; have N4 := Aside0.mk (blk_below (blk_drewN (blk_new w2 (.cells #[.int .i64 now, .int .i64 r, .int .i64 fl, .int .i64 plan, .int .i64 ca] 68)) _) hb); have E4 := Aside0.mk (Env2.below (Env2.below E2.out (pw_below_drewN (Below.refl _ _) _)) hb); have HB4 := Aside0.mk ((pw_below_drewN HB2.out _).trans (hb.mono HB2.out.size)); clear hb x0 x1 x2 x3 x4 x5 x6 x7 y0 y1 y2 y3 y4; have x0 := blk_cell E4.out.1 0; have x1 := blk_cell E4.out.1 1; have x2 := blk_cell E4.out.1 2; have x3 := blk_cell E4.out.1 3; have x4 := blk_cell E4.out.1 4; have x5 := blk_cell E4.out.1 5; have x6 := blk_cell E4.out.1 6; have x7 := blk_cell E4.out.1 7; simp only [polCells, List.getElem?_toArray, List.getElem?_cons_zero, List.getElem?_cons_succ] at x0 x1 x2 x3 x4 x5 x6 x7; have y0 := blk_cell E4.out.2 0; have y1 := blk_cell E4.out.2 1; have y2 := blk_cell E4.out.2 2; have y3 := blk_cell E4.out.2 3; have y4 := blk_cell E4.out.2 4; simp only [decCells, List.getElem?_toArray, List.getElem?_cons_zero, List.getElem?_cons_succ] at y0 y1 y2 y3 y4; have n1 := blk_cell N4.out 1; simp only [List.getElem?_toArray, List.getElem?_cons_zero, List.getElem?_cons_succ] at n1))
        go_ret
        first | exact ⟨rfl, HB4.out⟩ | exact ⟨rfl, pw_below_drewN HB4.out _⟩
      have c8 : decide (r < prev.rep) = false := decide_eq_false g8
      by_cases g9 : r = prev.rep
      · rw [hcg2 g5 g9] at KD
        have c10 : (r == prev.rep) = true := by simp [g9]
        have c10' : (r = prev.rep) = True := eq_true g9
        clear g5 g6 g7 g8 g9 hlow hleast hcg1 hcg2 hcg3 r1 r2 g1 g2 hch hcool hper hs
        obtain ⟨mn, mx, per, stale, step, ahead, cool, season⟩ := p
        obtain ⟨pt, pr, pf, pp, pc⟩ := prev
        dsimp only [polV, decV, polCells, decCells] at *
        go_enter Try.func13, Try.ntmps13
        go_wp2_with (first | (go_at_call 47; (with_reducible refine (HA.out _).mono ?_); rintro e w1 ⟨rfl, hb⟩; have E1 := Aside0.mk (Env2.below E0.out hb); have HB1 := Aside0.mk (HB0.out.trans (hb.mono HB0.out.size)); clear hb; have x0 := blk_cell E1.out.1 0; have x1 := blk_cell E1.out.1 1; have x2 := blk_cell E1.out.1 2; have x3 := blk_cell E1.out.1 3; have x4 := blk_cell E1.out.1 4; have x5 := blk_cell E1.out.1 5; have x6 := blk_cell E1.out.1 6; have x7 := blk_cell E1.out.1 7; simp only [polCells, List.getElem?_toArray, List.getElem?_cons_zero, List.getElem?_cons_succ] at x0 x1 x2 x3 x4 x5 x6 x7; have y0 := blk_cell E1.out.2 0; have y1 := blk_cell E1.out.2 1; have y2 := blk_cell E1.out.2 2; have y3 := blk_cell E1.out.2 3; have y4 := blk_cell E1.out.2 4; simp only [decCells, List.getElem?_toArray, List.getElem?_cons_zero, List.getElem?_cons_succ] at y0 y1 y2 y3 y4) | (go_at_call 49; (with_reducible refine (KD.out _ (Kd.C_below HR.out HB1.out)).mono ?_); rintro e w2 ⟨rfl, hb⟩; have E2 := Aside0.mk (Env2.below (Env2.below E1.out hb) (below_alloc (Below.refl _ _) (.cells #[.int .i64 now, .int .i64 r, .int .i64 fl, .int .i64 plan, .int .i64 ca] 68))); have HB2 := Aside0.mk ((HB1.out.trans (hb.mono HB1.out.size)).alloc (HB1.out.trans (hb.mono HB1.out.size)).size (.cells #[.int .i64 now, .int .i64 r, .int .i64 fl, .int .i64 plan, .int .i64 ca] 68)); clear hb x0 x1 x2 x3 x4 x5 x6 x7 y0 y1 y2 y3 y4; have x0 := blk_cell E2.out.1 0; have x1 := blk_cell E2.out.1 1; have x2 := blk_cell E2.out.1 2; have x3 := blk_cell E2.out.1 3; have x4 := blk_cell E2.out.1 4; have x5 := blk_cell E2.out.1 5; have x6 := blk_cell E2.out.1 6; have x7 := blk_cell E2.out.1 7; simp only [polCells, List.getElem?_toArray, List.getElem?_cons_zero, List.getElem?_cons_succ] at x0 x1 x2 x3 x4 x5 x6 x7; have y0 := blk_cell E2.out.2 0; have y1 := blk_cell E2.out.2 1; have y2 := blk_cell E2.out.2 2; have y3 := blk_cell E2.out.2 3; have y4 := blk_cell E2.out.2 4; simp only [decCells, List.getElem?_toArray, List.getElem?_cons_zero, List.getElem?_cons_succ] at y0 y1 y2 y3 y4) | (go_at_call 51; (with_reducible refine (num26_calls _ _).mono ?_); rintro e w' ⟨rfl, ⟨nd, rfl⟩⟩))
        go_ret
        first | exact ⟨rfl, HB2.out⟩ | exact ⟨rfl, pw_below_drewN HB2.out _⟩
      have c10 : (r == prev.rep) = false := by simp [g9]
      have c10' : (r = prev.rep) = False := eq_false g9
      rw [hcg3 g9] at KD
      clear g5 g6 g7 g8 g9 hlow hleast hcg1 hcg2 hcg3 r1 r2 g1 g2 hch hcool hper hs
      obtain ⟨mn, mx, per, stale, step, ahead, cool, season⟩ := p
      obtain ⟨pt, pr, pf, pp, pc⟩ := prev
      dsimp only [polV, decV, polCells, decCells] at *
      go_enter Try.func13, Try.ntmps13
      go_wp2_with (first | (go_at_call 47; (with_reducible refine (HA.out _).mono ?_); rintro e w1 ⟨rfl, hb⟩; have E1 := Aside0.mk (Env2.below E0.out hb); have HB1 := Aside0.mk (HB0.out.trans (hb.mono HB0.out.size)); clear hb; have x0 := blk_cell E1.out.1 0; have x1 := blk_cell E1.out.1 1; have x2 := blk_cell E1.out.1 2; have x3 := blk_cell E1.out.1 3; have x4 := blk_cell E1.out.1 4; have x5 := blk_cell E1.out.1 5; have x6 := blk_cell E1.out.1 6; have x7 := blk_cell E1.out.1 7; simp only [polCells, List.getElem?_toArray, List.getElem?_cons_zero, List.getElem?_cons_succ] at x0 x1 x2 x3 x4 x5 x6 x7; have y0 := blk_cell E1.out.2 0; have y1 := blk_cell E1.out.2 1; have y2 := blk_cell E1.out.2 2; have y3 := blk_cell E1.out.2 3; have y4 := blk_cell E1.out.2 4; simp only [decCells, List.getElem?_toArray, List.getElem?_cons_zero, List.getElem?_cons_succ] at y0 y1 y2 y3 y4) | (go_at_call 49; (with_reducible refine (KD.out _ (Kd.C_below HR.out HB1.out)).mono ?_); rintro e w2 ⟨rfl, hb⟩; have E2 := Aside0.mk (Env2.below (Env2.below E1.out hb) (below_alloc (Below.refl _ _) (.cells #[.int .i64 now, .int .i64 r, .int .i64 fl, .int .i64 plan, .int .i64 ca] 68))); have HB2 := Aside0.mk ((HB1.out.trans (hb.mono HB1.out.size)).alloc (HB1.out.trans (hb.mono HB1.out.size)).size (.cells #[.int .i64 now, .int .i64 r, .int .i64 fl, .int .i64 plan, .int .i64 ca] 68)); clear hb x0 x1 x2 x3 x4 x5 x6 x7 y0 y1 y2 y3 y4; have x0 := blk_cell E2.out.1 0; have x1 := blk_cell E2.out.1 1; have x2 := blk_cell E2.out.1 2; have x3 := blk_cell E2.out.1 3; have x4 := blk_cell E2.out.1 4; have x5 := blk_cell E2.out.1 5; have x6 := blk_cell E2.out.1 6; have x7 := blk_cell E2.out.1 7; simp only [polCells, List.getElem?_toArray, List.getElem?_cons_zero, List.getElem?_cons_succ] at x0 x1 x2 x3 x4 x5 x6 x7; have y0 := blk_cell E2.out.2 0; have y1 := blk_cell E2.out.2 1; have y2 := blk_cell E2.out.2 2; have y3 := blk_cell E2.out.2 3; have y4 := blk_cell E2.out.2 4; simp only [decCells, List.getElem?_toArray, List.getElem?_cons_zero, List.getElem?_cons_succ] at y0 y1 y2 y3 y4) | (go_at_call 51; (with_reducible refine (num26_calls _ _).mono ?_); rintro e w' ⟨rfl, ⟨nd, rfl⟩⟩))
      go_ret
      first | exact ⟨rfl, HB2.out⟩ | exact ⟨rfl, pw_below_drewN HB2.out _⟩
end Go.Proofs.Ytemnfnbjapobcaa.Ho
end
section
namespace Go.Proofs.Ytemnfnbjapobcaa.Pb
open Go.RowKit Go.Proofs.YtemnfnbjapobcaaW.PrintWords Go.Proofs.YtemnfnbjapobcaaW.PrintLast Go.Proofs.YtemnfnbjapobcaaW.PrintMore
attribute [local go_sem] max2_int min2_int max_two min_two max_three min_three max_four min_four   -- for this text's walks alone
set_option linter.unusedVariables false
set_option linter.unusedSimpArgs false
def errW : Option Int → Value
  | none => .nilIface
  | some c => .iface 0 (.int .i64 c)
theorem errW_none : errW none = .nilIface := rfl
theorem errW_some (c : Int) : errW (some c) = .iface 0 (.int .i64 c) := rfl
structure S70 where
  f0 : Int
  f1 : Int
def z70 : S70 := ⟨(0 : Int), (0 : Int)⟩
def k70 : Kd S70 := Kd.iso (Kd.pair (Kd.int .i64) (Kd.int .i64)) (fun x : S70 => (x.f0, x.f1))
theorem k70_open {w : World} {x : S70} {cs : List Value} (h : k70.K w x cs) : cs = [.int .i64 x.f0, .int .i64 x.f1] := by
  obtain ⟨_, _, rfl, rfl, rfl⟩ := h
  exact rfl
theorem k70_mk (w : World) (x : S70)  : k70.K w x [.int .i64 x.f0, .int .i64 x.f1] := ⟨[.int .i64 x.f0], [.int .i64 x.f1], rfl, rfl, rfl⟩
theorem k70_mkM (w : World) (base : Nat) (ok : Nat → Prop) (x : S70)  : k70.M w base ok x [.int .i64 x.f0, .int .i64 x.f1] := ⟨[.int .i64 x.f0], [.int .i64 x.f1], rfl, rfl, rfl⟩
def rd_T70 (xs : List S70) (i : Int) : S70 := xs.getD i.toNat z70
theorem at_T70 {w : World} {A : Option Addr} {n : Nat} {xs : List S70} (h : Kd.C k70 w A n xs) (i : Int) (h0 : 0 ≤ i) (h1 : i < n) : ∃ ad , A = some ad ∧ w.cell? (ad.add (i.toNat * 2)) = some (.int .i64 (rd_T70 xs i).f0) ∧ w.cell? ⟨(ad.add (i.toNat * 2)).block, (ad.add (i.toNat * 2)).off + 1, none⟩ = some (.int .i64 (rd_T70 xs i).f1) := by
  obtain ⟨ad, c, e, _, hK, hc0⟩ := Kd.C_get h z70 i h0 h1
  have hc : ∀ j u, c[j]? = some u → w.cell? (ad.add (i.toNat * 2 + j)) = some u := hc0
  obtain rfl := k70_open hK
  exact ⟨ad, e, hc 0 _ rfl, by rw [← add_field _ _ 1 (by omega)]; exact hc 1 _ rfl⟩
end Go.Proofs.Ytemnfnbjapobcaa.Pb
end
