-- Laid together by wip/shake.py out of: Pol6 Pol7 Extra3 PolSpec Bounds1 Rests1 Pgx0
import Derived.Test.YtemnfnbjapobcaaPolicyRestsm8
import Derived.Test.YtemnfnbjapobcaaProg
import Derived.Below
import Derived.Deep.Draws
import Derived.Deep.AppendLies
import Derived.Maps.AppendAt
import Derived.OwnWalk
import Derived.Laws.BytesArg
import Derived.Laws.MakeOwn
import Derived.Laws.OwnMore
import Derived.Deep.OwnRows
import Derived.Tactics
import Derived.Lib.ConvBytes
import Derived.Laws.Slices
import Derived.WalkKit
import Derived.KernelRfl
import Derived.RowKit3
import Derived.Deep.LoopGhost
import Derived.Deep.QuietTactic
import Derived.BigQuiet
import Derived.WideLaws
import Derived.Deep.DeepCutAuto
import Derived.Deep.CutBlock
import Derived.Deep.RegionHeld3
import Derived.Laws.Rows
import Derived.Lib.AppendStr
import Derived.ArgAppend
import Derived.Laws.IdiomCopy
import Derived.OrdersHeld
import Derived.Laws.BitsLemmas
import Derived.RowKit
section
namespace Go.Proofs.Ytemnfnbjapobcaa.PS
open Go.Proofs.Ytemnfnbjapobcaa.Pr
def max3 (a b c : Int) : Int := if (if a < b then b else a) < c then c else (if a < b then b else a)
def wantD (d : Dr) (l : List S70) : Int := d.bounded (max3 (floorD d l) d.plan (castD d l))
def repD (d : Dr) (l : List S70) : Int := if d.some ∧ wantD d l < d.bounded d.prev.rep ∧ d.rests then d.bounded d.prev.rep else wantD d l
def decD (d : Dr) (l : List S70) : Dec := ⟨d.now, repD d l, floorD d l, d.plan, castD d l⟩
def chgD (d : Dr) (l : List S70) : Int := if ¬ d.some ∨ repD d l ≠ d.prev.rep then d.now else d.changed
end Go.Proofs.Ytemnfnbjapobcaa.PS
namespace Go.Proofs.Ytemnfnbjapobcaa.Ho
open Go.RowKit Go.Proofs.YtemnfnbjapobcaaW.PrintWords Go.Proofs.YtemnfnbjapobcaaW.PrintLast Go.Proofs.YtemnfnbjapobcaaW.PrintMore
open Go.Proofs.Ytemnfnbjapobcaa.FS Go.Proofs.Ytemnfnbjapobcaa.HS Go.Proofs.Ytemnfnbjapobcaa.FM Go.Proofs.Ytemnfnbjapobcaa.PS Go.Proofs.Ytemnfnbjapobcaa.Pr
attribute [local go_sem] max2_int min2_int max_two min_two max_three min_three
set_option linter.unusedVariables false
set_option linter.unusedSimpArgs false
def decV (x : Dec) : Value := .agg #[.int .i64 x.t, .int .i64 x.rep, .int .i64 x.floor, .int .i64 x.plan, .int .i64 x.cast]
def decCells (x : Dec) : Array Value := #[.int .i64 x.t, .int .i64 x.rep, .int .i64 x.floor, .int .i64 x.plan, .int .i64 x.cast]
def zeroC : Array Value := #[.int .i64 0, .int .i64 0, .int .i64 0, .int .i64 0, .int .i64 0]
def set5 (W : World) (T : Nat) (x0 x1 x2 x3 x4 : Int) : World := ((((W.setCell ⟨T, 0, none⟩ (.int .i64 x0)).setCell ⟨T, 1, none⟩ (.int .i64 x1)).setCell ⟨T, 2, none⟩ (.int .i64 x2)).setCell ⟨T, 3, none⟩ (.int .i64 x3)).setCell ⟨T, 4, none⟩ (.int .i64 x4)
theorem set5_blk {W : World} {T : Nat} (h : W.heap[T]? = some (.cells zeroC 68 (0, 0))) (x0 x1 x2 x3 x4 : Int) : (set5 W T x0 x1 x2 x3 x4).heap[T]? = some (.cells #[.int .i64 x0, .int .i64 x1, .int .i64 x2, .int .i64 x3, .int .i64 x4] 68 (0, 0)) := blk_put (blk_put (blk_put (blk_put (blk_put h 0 _ rfl) 1 _ rfl) 2 _ rfl) 3 _ rfl) 4 _ rfl
theorem set5_below {w W : World} {T : Nat} (h : Below w.heap.size w W) (hT : w.heap.size ≤ T) (x0 x1 x2 x3 x4 : Int) : Below w.heap.size w (set5 W T x0 x1 x2 x3 x4) := ((((h.setCell hT _).setCell hT _).setCell hT _).setCell hT _).setCell hT _
theorem set5_far {W : World} {T : Nat} {p : Addr} {v : Value} (h : W.cell? p = some v) (hne : p.block ≠ T) (x0 x1 x2 x3 x4 : Int) : (set5 W T x0 x1 x2 x3 x4).cell? p = some v := by
  unfold set5
  rw [cell_far (p := ⟨T, 4, none⟩) hne, cell_far (p := ⟨T, 3, none⟩) hne, cell_far (p := ⟨T, 2, none⟩) hne, cell_far (p := ⟨T, 1, none⟩) hne, cell_far (p := ⟨T, 0, none⟩) hne]
  exact h
theorem drew_cell (W : World) (p : Addr) : W.drew.cell? p = W.cell? p := rfl
theorem set5_far' {W : World} {T : Nat} {p : Addr} {v : Value} (h : W.drew.cell? p = some v) (hne : p.block ≠ T) (x0 x1 x2 x3 x4 : Int) : (set5 W T x0 x1 x2 x3 x4).drew.cell? p = some v := (drew_cell _ _).trans (set5_far ((drew_cell _ _).symm.trans h) hne x0 x1 x2 x3 x4)
theorem drawn_blk {W W' : World} {g : Nat} {o : Obj} (h : W.heap[g]? = some o) (hD : Drawn0 W W') : W'.heap[g]? = some o := by
  obtain ⟨m, rfl⟩ := hD.out
  exact h
theorem key9 {w V w9 : World} {k B b T : Nat} {now fl plan ca rr z : Int} {d : Dr} {A : Option Addr} {n c : Nat} (hD : Drawn0 ((V.drewN k).setCell ⟨B, 1, none⟩ (.int .i64 rr)) w9) (h1 : DrAt V b d A n c) (h2 : V.heap[B]? = some (.cells #[.int .i64 now, .int .i64 z, .int .i64 fl, .int .i64 plan, .int .i64 ca] 68 (0, 0))) (h3 : V.heap[T]? = some (.cells zeroC 68 (0, 0))) (hb : b ≠ B) (hT : T ≠ B) (h4 : Below w.heap.size w V) (hB : w.heap.size ≤ B) :
    DrAt w9 b d A n c ∧ w9.heap[B]? = some (.cells #[.int .i64 now, .int .i64 rr, .int .i64 fl, .int .i64 plan, .int .i64 ca] 68 (0, 0)) ∧ w9.heap[T]? = some (.cells zeroC 68 (0, 0)) ∧ Below w.heap.size w w9 := by
  refine ⟨drawn_blk (blk_far (blk_drewN h1 k) hb _) hD, drawn_blk (blk_put (blk_drewN h2 k) 1 _ rfl) hD, drawn_blk (blk_far (blk_drewN h3 k) hT _) hD, ?_⟩
  obtain ⟨m, rfl⟩ := hD.out
  exact pw_below_drewN ((pw_below_drewN h4 k).setCell hB _) m
theorem DrAt.set {W : World} {b g i : Nat} {v : Value} {d : Dr} {A : Option Addr} {n c : Nat} (h : DrAt W b d A n c) (hne : b ≠ g) : DrAt (W.setCell ⟨g, i, none⟩ v) b d A n c := blk_far h hne _
set_option maxRecDepth 100000 in
set_option maxHeartbeats 8000000 in
theorem decide_calls (HS : Aside0 SeasonMiss) (HC : Aside0 SeasonCast) (b : Nat) (d : Dr) (A : Option Addr) (c : Nat) (l : List S70) (w : World) (h : DrAt w b d A l.length c) (hr : Kd.C k70 w A l.length l) (hc : l.length ≤ c) (hs : sIn l) (hp : okP d.p) (hper : FS.In d.p.per) (hn0 : -4503599627370496 ≤ d.now) (hn1 : d.now ≤ 4503599627370496) (hch : FS.In d.changed) (hl : l.length ≤ 1152921504606846976) :
    Calls Try.prog 84 #[.pointer (some ⟨b, 0, none⟩)] w fun e w' => e = .returned (.tuple #[decV (decD d l), .int .i64 (chgD d l)]) ∧ Below w.heap.size w w' := by
  have KFl := Aside0.mk (fun W (h : DrAt W b d A l.length c) (hr : Kd.C k70 W A l.length l) => dfloor_calls b d A c l W h hr hc hs hp hper hn0 hn1 hl)
  have KCa := Aside0.mk (fun W (h : DrAt W b d A l.length c) (hr : Kd.C k70 W A l.length l) => dcast_calls HS HC b d A c l W h hr hc hs hp hper hn0 hn1 hl)
  have KBo := Aside0.mk (fun W x (h : DrAt W b d A l.length c) => bounded_calls b d A l.length c x W h)
  have KSo := Aside0.mk (fun W (h : DrAt W b d A l.length c) => some_calls b d A l.length c W h)
  have KRe := Aside0.mk (fun W (h : DrAt W b d A l.length c) => rests_calls b d A l.length c W h hp.2.2.2.2.2.2.1.1 hp.2.2.2.2.2.2.1.2 hch)
  have HD := Aside0.mk h
  have HR := Aside0.mk hr
  obtain ⟨r, hrr⟩ : ∃ r, repD d l = r := ⟨_, rfl⟩
  obtain ⟨ch, hchg⟩ : ∃ ch, chgD d l = ch := ⟨_, rfl⟩
  have hres : decD d l = ⟨d.now, r, floorD d l, d.plan, castD d l⟩ := by unfold decD; rw [hrr]
  unfold chgD at hchg
  rw [hrr] at hchg
  have hcc : chgD d l = ch := by unfold chgD; rw [hrr]; exact hchg
  rw [hres, hcc]
  unfold repD wantD at hrr
  obtain ⟨fl, hfl⟩ : ∃ fl, floorD d l = fl := ⟨_, rfl⟩
  obtain ⟨ca, hca⟩ : ∃ ca, castD d l = ca := ⟨_, rfl⟩
  rw [hfl] at KFl hrr ⊢
  rw [hca] at KCa hrr ⊢
  clear hres hcc hfl hca h hr
  have d8 := HD.out.at 8 (.int .i64 d.now) rfl
  have d10 := HD.out.at 10 (.int .i64 d.plan) rfl
  have d12 := HD.out.at 12 (.int .i64 d.prev.rep) rfl
  have d16 := HD.out.at 16 (.int .i64 d.changed) rfl
  have hbb : b < w.heap.size := blk_lt HD.out
  obtain ⟨now, hnow⟩ : ∃ x, d.now = x := ⟨_, rfl⟩
  obtain ⟨plan, hplan⟩ : ∃ x, d.plan = x := ⟨_, rfl⟩
  obtain ⟨pr, hpr⟩ : ∃ x, d.prev.rep = x := ⟨_, rfl⟩
  obtain ⟨chd, hchd⟩ : ∃ x, d.changed = x := ⟨_, rfl⟩
  rw [hnow] at d8 hchg ⊢
  rw [hplan] at d10 hrr ⊢
  rw [hpr] at d12 hrr hchg
  rw [hchd] at d16 hchg
  obtain ⟨a, ha⟩ : ∃ a, (if fl < plan then plan else fl) = a := ⟨_, rfl⟩
  obtain ⟨M, hM⟩ : ∃ M, (if a < ca then ca else a) = M := ⟨_, rfl⟩
  have hm3 : max3 fl plan ca = M := by unfold max3; rw [ha]; exact hM
  rw [hm3] at hrr
  obtain ⟨n0, hn0'⟩ : ∃ n0, d.bounded M = n0 := ⟨_, rfl⟩
  obtain ⟨old, hold⟩ : ∃ old, d.bounded pr = old := ⟨_, rfl⟩
  rw [hn0', hold] at hrr
  have KB1 : Aside0 (∀ W, DrAt W b d A l.length c → Calls Try.prog 120 #[.pointer (some ⟨b, 0, none⟩), .int .i64 M] W fun e w' => e = .returned (.int .i64 n0) ∧ Drawn0 W w') := ⟨fun W h => hn0' ▸ KBo.out W M h⟩
  have KB2 : Aside0 (∀ W, DrAt W b d A l.length c → Calls Try.prog 120 #[.pointer (some ⟨b, 0, none⟩), .int .i64 pr] W fun e w' => e = .returned (.int .i64 old) ∧ Drawn0 W w') := ⟨fun W h => hold ▸ KBo.out W pr h⟩
  have HF := Aside0.mk (And.intro hrr hchg)
  have HE := Aside0.mk (And.intro hnow (And.intro hplan (And.intro hpr hchd)))
  have HM := Aside0.mk (And.intro ha hM)
  clear hm3 hn0' hold KBo ha hM
  clear hrr hchg hnow hplan hpr hchd hp hper hn0 hn1 hch hs hl
  dsimp only [decV]
  go_enter Try.func84, Try.ntmps84
  go_wp2
  obtain ⟨W0, hW0⟩ : ∃ W0, w.alloc (.cells #[.int .i64 0, .int .i64 0, .int .i64 0, .int .i64 0, .int .i64 0] 68) = W0 := ⟨_, rfl⟩
  rw [hW0]
  have hb0 : Below w.heap.size w W0 := hW0 ▸ below_alloc (Below.refl _ _) _
  have hz0 : W0.heap[w.heap.size]? = some (.cells zeroC 68 (0, 0)) := hW0 ▸ blk_new w _
  have hs0 : W0.heap.size = w.heap.size + 1 := by rw [← hW0]; exact size_alloc_ _ _
  have d8' : W0.drew.cell? ⟨b, 8, none⟩ = some (.int .i64 now) := pw_cell_below (below_drew hb0) d8
  have d10' : W0.drew.cell? ⟨b, 10, none⟩ = some (.int .i64 plan) := pw_cell_below (below_drew hb0) d10
  have H0 := Aside0.mk (And.intro hb0 (And.intro hz0 hs0))
  clear hb0 hz0 hW0
  refine start_ (n := 15) (S := (fun w' => w'.cell? ⟨b, 8, none⟩ = some (.int .i64 now) ∧ w'.cell? ⟨b, 10, none⟩ = some (.int .i64 plan))) (ds := [14]) #[false, false, false, false, false, false, false, false, false, false, false, false, false, false, false] (by kernel_rfl) rfl rfl ⟨d8', d10'⟩ (fun hHeld => ?_)
  refine pure_ (i := 0) (N := some 7) (v := ?_) (a' := ?_) #[true, false, false, false, false, false, false, false, false, false, false, false, false, false, false] rfl rfl (by kernel_rfl) (fun _ _ _ h => h) (Or.inl ⟨by rfl, ?_⟩) ?_ ?_
  rotate_left
  · intro w'
    go_simp
    with_reducible rfl
  rotate_left
  · simp only [Act.put, List.setIfInBounds_toArray, List.set_cons_zero, List.set_cons_succ, i64_w, i32_w]
    rfl
  refine pure_ (i := 1) (N := some 8) (v := ?_) (a' := ?_) #[true, true, false, false, false, false, false, false, false, false, false, false, false, false, false] rfl rfl (by kernel_rfl) (fun _ _ _ h => h) (Or.inl ⟨by rfl, ?_⟩) ?_ ?_
  rotate_left
  · intro w'
    go_simp
    with_reducible rfl
  rotate_left
  · simp only [Act.put, List.setIfInBounds_toArray, List.set_cons_zero, List.set_cons_succ, i64_w, i32_w]
    rfl
  refine pure_ (i := 2) (N := some 9) (v := ?_) (a' := ?_) #[true, true, true, false, false, false, false, false, false, false, false, false, false, false, false] rfl rfl (by kernel_rfl) (fun _ _ _ h => h) (Or.inl ⟨by rfl, ?_⟩) ?_ ?_
  rotate_left
  · intro w'
    go_simp
    with_reducible rfl
  rotate_left
  · simp only [Act.put, List.setIfInBounds_toArray, List.set_cons_zero, List.set_cons_succ, i64_w, i32_w]
    rfl
  refine pure_ (i := 4) (N := some 11) (v := ?_) (a' := ?_) #[true, true, true, false, true, false, false, false, false, false, false, false, false, false, false] rfl rfl (by kernel_rfl) (fun _ _ _ h => h) (Or.inl ⟨by rfl, ?_⟩) ?_ ?_
  rotate_left
  · intro w'
    go_simp
    with_reducible rfl
  rotate_left
  · simp only [Act.put, List.setIfInBounds_toArray, List.set_cons_zero, List.set_cons_succ, i64_w, i32_w]
    rfl
  refine pure_ (i := 6) (N := some 13) (v := ?_) (a' := ?_) #[true, true, true, false, true, false, true, false, false, false, false, false, false, false, false] rfl rfl (by kernel_rfl) (fun _ _ _ h => h) (Or.inl ⟨by rfl, ?_⟩) ?_ ?_
  rotate_left
  · intro w'
    go_simp
    with_reducible rfl
  rotate_left
  · simp only [Act.put, List.setIfInBounds_toArray, List.set_cons_zero, List.set_cons_succ, i64_w, i32_w]
    rfl
  refine pure_ (i := 7) (N := some 14) (v := ?_) (a' := ?_) #[true, true, true, false, true, false, true, true, false, false, false, false, false, false, false] rfl rfl (by kernel_rfl) (fun _ _ _ h => h) (Or.inl ⟨by rfl, ?_⟩) ?_ ?_
  rotate_left
  · intro w'
    go_simp
    with_reducible rfl
  rotate_left
  · simp only [Act.put, List.setIfInBounds_toArray, List.set_cons_zero, List.set_cons_succ, i64_w, i32_w]
    rfl
  refine pure_ (i := 8) (N := some 15) (v := ?_) (a' := ?_) #[true, true, true, false, true, false, true, true, true, false, false, false, false, false, false] rfl rfl (by kernel_rfl) (fun _ _ _ h => h) (Or.inl ⟨by rfl, ?_⟩) ?_ ?_
  rotate_left
  · intro w'
    go_simp
    with_reducible rfl
  rotate_left
  · simp only [Act.put, List.setIfInBounds_toArray, List.set_cons_zero, List.set_cons_succ, i64_w, i32_w]
    rfl
  refine pure_ (i := 10) (N := some 17) (v := ?_) (a' := ?_) #[true, true, true, false, true, false, true, true, true, false, true, false, false, false, false] rfl rfl (by kernel_rfl) (fun _ _ _ h => h) (Or.inl ⟨by rfl, ?_⟩) ?_ ?_
  rotate_left
  · intro w'
    go_simp
    with_reducible rfl
  rotate_left
  · simp only [Act.put, List.setIfInBounds_toArray, List.set_cons_zero, List.set_cons_succ, i64_w, i32_w]
    rfl
  refine take_ (i := 3) (N := some 10) (v := ?_) (a' := ?_) #[true, true, true, true, true, false, true, true, true, false, true, false, false, false, false] rfl rfl (by kernel_rfl) (fun _ _ _ h => h) (Or.inl ⟨by rfl, ?_⟩) hHeld ?_ ?_
  rotate_left
  · rintro w' ⟨s0, s1⟩
    go_simp
    with_reducible rfl
  rotate_left
  · simp only [Act.put, List.setIfInBounds_toArray, List.set_cons_zero, List.set_cons_succ, i64_w, i32_w]
    rfl
  refine take_ (i := 9) (N := some 16) (v := ?_) (a' := ?_) #[true, true, true, true, true, false, true, true, true, true, true, false, false, false, false] rfl rfl (by kernel_rfl) (fun _ _ _ h => h) (Or.inl ⟨by rfl, ?_⟩) hHeld ?_ ?_
  rotate_left
  · rintro w' ⟨s0, s1⟩
    go_simp
    with_reducible rfl
  rotate_left
  · simp only [Act.put, List.setIfInBounds_toArray, List.set_cons_zero, List.set_cons_succ, i64_w, i32_w]
    rfl
  refine join_ (σ := Nat) 1 #[true, true, true, true, true, true, true, true, true, true, true, true, true, true, false] (fun B => [(12, .int .i64 fl), (18, .int .i64 ca), (19, .agg #[.int .i64 now, .int .i64 0, .int .i64 fl, .int .i64 plan, .int .i64 ca]), (4, .pointer (some ⟨B, 0, none⟩))]) (fun B w' => (w'.cell? ⟨b, 8, none⟩ = some (.int .i64 now) ∧ w'.cell? ⟨b, 10, none⟩ = some (.int .i64 plan)) ∧ Aside0 (Below W0.heap.size W0 w' ∧ W0.heap.size ≤ B ∧ w'.heap[B]? = some (.cells zeroC 68 (0, 0)))) ?cont ?main
  case main =>
    intro HJ
    have q0 : Below W0.heap.size W0 W0.drew := below_drew (Below.refl _ _)
    refine two_ (i := 5) (j := 13) (Ni := some 12) (Nj := some 4) #[true, true, true, true, true, true, true, true, true, true, true, false, false, false, false] #[true, true, true, true, true, false, true, true, true, true, true, false, false, true, false] rfl rfl rfl rfl (by kernel_rfl) (by decide) (by decide) (fun K hK => ?_) (fun K hK => ?_)
    · refine goes_ Try.func118 (by kernel_rfl) rfl #[.pointer (some ⟨b, 0, none⟩)] (by rfl) rfl rfl (by simp [Act.eval]) ?_
      refine (KFl.out _ (HD.out.below (H0.out.1.trans (q0.mono H0.out.1.size))) (Kd.C_below HR.out (H0.out.1.trans (q0.mono H0.out.1.size)))).mono ?_
      rintro e u1 ⟨rfl, hb1⟩
      have q1 : Below W0.heap.size W0 u1 := q0.trans (hb1.mono q0.size)
      refine ⟨_, rfl, hK.out _ _ ⟨pw_cell_below hb1 hHeld.1, pw_cell_below hb1 hHeld.2⟩ (fun hHeld => ?_)⟩
      clear hK K
      refine norm_ (by simp only [Act.put, List.setIfInBounds_toArray, List.set_cons_zero, List.set_cons_succ, i64_w, i32_w]; rfl) ?_
      refine two_ (i := 11) (j := 13) (Ni := some 18) (Nj := some 4) #[true, true, true, true, true, true, true, true, true, true, true, true, false, false, false] #[true, true, true, true, true, true, true, true, true, true, true, false, false, true, false] rfl rfl rfl rfl (by kernel_rfl) (by decide) (by decide) (fun K hK => ?_) (fun K hK => ?_)
      · refine goes_ Try.func119 (by kernel_rfl) rfl #[.pointer (some ⟨b, 0, none⟩)] (by rfl) rfl rfl (by simp [Act.eval]) ?_
        refine (KCa.out _ (HD.out.below (H0.out.1.trans (q1.mono H0.out.1.size))) (Kd.C_below HR.out (H0.out.1.trans (q1.mono H0.out.1.size)))).mono ?_
        rintro e u2 ⟨rfl, hb2⟩
        have q2 : Below W0.heap.size W0 u2 := q1.trans (hb2.mono q1.size)
        refine ⟨_, rfl, hK.out _ _ ⟨pw_cell_below hb2 hHeld.1, pw_cell_below hb2 hHeld.2⟩ (fun hHeld => ?_)⟩
        clear hK K
        refine norm_ (by simp only [Act.put, List.setIfInBounds_toArray, List.set_cons_zero, List.set_cons_succ, i64_w, i32_w]; rfl) ?_
        refine pure_ (i := 12) (N := some 19) (v := ?_) (a' := ?_) #[true, true, true, true, true, true, true, true, true, true, true, true, true, false, false] rfl rfl (by kernel_rfl) (fun _ _ _ h => h) (Or.inl ⟨by rfl, ?_⟩) ?_ ?_
        rotate_left
        · intro w'
          go_simp
          with_reducible rfl
        rotate_left
        · simp only [Act.put, List.setIfInBounds_toArray, List.set_cons_zero, List.set_cons_succ, i64_w, i32_w]
          rfl
        refine one_ (i := 13) (N := some 4) #[true, true, true, true, true, true, true, true, true, true, true, true, true, true, false] rfl rfl (by kernel_rfl) (by decide) (fun K hK => ?_)
        refine value_ (w1 := (u2).alloc (.cells #[.int .i64 0, .int .i64 0, .int .i64 0, .int .i64 0, .int .i64 0] 68)) (v := .pointer (some ⟨(u2).heap.size, 0, none⟩)) (by rfl) rfl (by go_simp) ?_
        have q3 : Below W0.heap.size W0 ((u2).alloc (.cells #[.int .i64 0, .int .i64 0, .int .i64 0, .int .i64 0, .int .i64 0] 68)) := q2.alloc q2.size _
        have z3 : ((u2).alloc (.cells #[.int .i64 0, .int .i64 0, .int .i64 0, .int .i64 0, .int .i64 0] 68)).heap[(u2).heap.size]? = some (.cells zeroC 68 (0, 0)) := blk_new _ _
        have s3 : W0.heap.size ≤ (u2).heap.size := q2.size
        refine hK.out _ _ ⟨cell_alloc hHeld.1 _, cell_alloc hHeld.2 _⟩ (fun hHeld => ?_)
        clear hK K
        refine norm_ (by simp only [Act.put, List.setIfInBounds_toArray, List.set_cons_zero, List.set_cons_succ, i64_w, i32_w]; rfl) ?_
        refine norm_ (by simp only [putAll, Act.put, List.setIfInBounds_toArray, List.set_cons_zero, List.set_cons_succ] <;> rfl) (HJ (u2.heap.size) _ ⟨hHeld, ⟨q3, s3, z3⟩⟩)
      · refine value_ (w1 := (u1).alloc (.cells #[.int .i64 0, .int .i64 0, .int .i64 0, .int .i64 0, .int .i64 0] 68)) (v := .pointer (some ⟨(u1).heap.size, 0, none⟩)) (by rfl) rfl (by go_simp) ?_
        have q2 : Below W0.heap.size W0 ((u1).alloc (.cells #[.int .i64 0, .int .i64 0, .int .i64 0, .int .i64 0, .int .i64 0] 68)) := q1.alloc q1.size _
        have z2 : ((u1).alloc (.cells #[.int .i64 0, .int .i64 0, .int .i64 0, .int .i64 0, .int .i64 0] 68)).heap[(u1).heap.size]? = some (.cells zeroC 68 (0, 0)) := blk_new _ _
        have s2 : W0.heap.size ≤ (u1).heap.size := q1.size
        refine hK.out _ _ ⟨cell_alloc hHeld.1 _, cell_alloc hHeld.2 _⟩ (fun hHeld => ?_)
        clear hK K
        refine norm_ (by simp only [Act.put, List.setIfInBounds_toArray, List.set_cons_zero, List.set_cons_succ, i64_w, i32_w]; rfl) ?_
        refine one_ (i := 11) (N := some 18) #[true, true, true, true, true, true, true, true, true, true, true, true, false, true, false] rfl rfl (by kernel_rfl) (by decide) (fun K hK => ?_)
        refine goes_ Try.func119 (by kernel_rfl) rfl #[.pointer (some ⟨b, 0, none⟩)] (by rfl) rfl rfl (by simp [Act.eval]) ?_
        refine (KCa.out _ (HD.out.below (H0.out.1.trans (q2.mono H0.out.1.size))) (Kd.C_below HR.out (H0.out.1.trans (q2.mono H0.out.1.size)))).mono ?_
        rintro e u3 ⟨rfl, hb3⟩
        have q3 : Below W0.heap.size W0 u3 := q2.trans (hb3.mono q2.size)
        refine ⟨_, rfl, hK.out _ _ ⟨pw_cell_below hb3 hHeld.1, pw_cell_below hb3 hHeld.2⟩ (fun hHeld => ?_)⟩
        clear hK K
        refine norm_ (by simp only [Act.put, List.setIfInBounds_toArray, List.set_cons_zero, List.set_cons_succ, i64_w, i32_w]; rfl) ?_
        refine pure_ (i := 12) (N := some 19) (v := ?_) (a' := ?_) #[true, true, true, true, true, true, true, true, true, true, true, true, true, true, false] rfl rfl (by kernel_rfl) (fun _ _ _ h => h) (Or.inl ⟨by rfl, ?_⟩) ?_ ?_
        rotate_left
        · intro w'
          go_simp
          with_reducible rfl
        rotate_left
        · simp only [Act.put, List.setIfInBounds_toArray, List.set_cons_zero, List.set_cons_succ, i64_w, i32_w]
          rfl
        refine norm_ (by simp only [putAll, Act.put, List.setIfInBounds_toArray, List.set_cons_zero, List.set_cons_succ] <;> rfl) (HJ (u1.heap.size) _ ⟨hHeld, ⟨q3, s2, (blk_below z2 hb3)⟩⟩)
    · refine value_ (w1 := (W0.drew).alloc (.cells #[.int .i64 0, .int .i64 0, .int .i64 0, .int .i64 0, .int .i64 0] 68)) (v := .pointer (some ⟨(W0.drew).heap.size, 0, none⟩)) (by rfl) rfl (by go_simp) ?_
      have q1 : Below W0.heap.size W0 ((W0.drew).alloc (.cells #[.int .i64 0, .int .i64 0, .int .i64 0, .int .i64 0, .int .i64 0] 68)) := q0.alloc q0.size _
      have z1 : ((W0.drew).alloc (.cells #[.int .i64 0, .int .i64 0, .int .i64 0, .int .i64 0, .int .i64 0] 68)).heap[(W0.drew).heap.size]? = some (.cells zeroC 68 (0, 0)) := blk_new _ _
      have s1 : W0.heap.size ≤ (W0.drew).heap.size := q0.size
      refine hK.out _ _ ⟨cell_alloc hHeld.1 _, cell_alloc hHeld.2 _⟩ (fun hHeld => ?_)
      clear hK K
      refine norm_ (by simp only [Act.put, List.setIfInBounds_toArray, List.set_cons_zero, List.set_cons_succ, i64_w, i32_w]; rfl) ?_
      refine one_ (i := 5) (N := some 12) #[true, true, true, true, true, true, true, true, true, true, true, false, false, true, false] rfl rfl (by kernel_rfl) (by decide) (fun K hK => ?_)
      refine goes_ Try.func118 (by kernel_rfl) rfl #[.pointer (some ⟨b, 0, none⟩)] (by rfl) rfl rfl (by simp [Act.eval]) ?_
      refine (KFl.out _ (HD.out.below (H0.out.1.trans (q1.mono H0.out.1.size))) (Kd.C_below HR.out (H0.out.1.trans (q1.mono H0.out.1.size)))).mono ?_
      rintro e u2 ⟨rfl, hb2⟩
      have q2 : Below W0.heap.size W0 u2 := q1.trans (hb2.mono q1.size)
      refine ⟨_, rfl, hK.out _ _ ⟨pw_cell_below hb2 hHeld.1, pw_cell_below hb2 hHeld.2⟩ (fun hHeld => ?_)⟩
      clear hK K
      refine norm_ (by simp only [Act.put, List.setIfInBounds_toArray, List.set_cons_zero, List.set_cons_succ, i64_w, i32_w]; rfl) ?_
      refine one_ (i := 11) (N := some 18) #[true, true, true, true, true, true, true, true, true, true, true, true, false, true, false] rfl rfl (by kernel_rfl) (by decide) (fun K hK => ?_)
      refine goes_ Try.func119 (by kernel_rfl) rfl #[.pointer (some ⟨b, 0, none⟩)] (by rfl) rfl rfl (by simp [Act.eval]) ?_
      refine (KCa.out _ (HD.out.below (H0.out.1.trans (q2.mono H0.out.1.size))) (Kd.C_below HR.out (H0.out.1.trans (q2.mono H0.out.1.size)))).mono ?_
      rintro e u3 ⟨rfl, hb3⟩
      have q3 : Below W0.heap.size W0 u3 := q2.trans (hb3.mono q2.size)
      refine ⟨_, rfl, hK.out _ _ ⟨pw_cell_below hb3 hHeld.1, pw_cell_below hb3 hHeld.2⟩ (fun hHeld => ?_)⟩
      clear hK K
      refine norm_ (by simp only [Act.put, List.setIfInBounds_toArray, List.set_cons_zero, List.set_cons_succ, i64_w, i32_w]; rfl) ?_
      refine pure_ (i := 12) (N := some 19) (v := ?_) (a' := ?_) #[true, true, true, true, true, true, true, true, true, true, true, true, true, true, false] rfl rfl (by kernel_rfl) (fun _ _ _ h => h) (Or.inl ⟨by rfl, ?_⟩) ?_ ?_
      rotate_left
      · intro w'
        go_simp
        with_reducible rfl
      rotate_left
      · simp only [Act.put, List.setIfInBounds_toArray, List.set_cons_zero, List.set_cons_succ, i64_w, i32_w]
        rfl
      refine norm_ (by simp only [putAll, Act.put, List.setIfInBounds_toArray, List.set_cons_zero, List.set_cons_succ] <;> rfl) (HJ (W0.drew.heap.size) _ ⟨hHeld, ⟨q3, s1, (blk_below (blk_below z1 hb2) hb3)⟩⟩)
  case cont =>
    rintro B V0 ⟨hHeld, HB⟩
    refine norm_ (by simp only [putAll, Act.put, List.setIfInBounds_toArray, List.set_cons_zero, List.set_cons_succ]; rfl) ?_
    obtain ⟨hb1, hB, hzB⟩ := HB.out
    have e0 := blk_cell hzB 0
    have e1 := blk_cell hzB 1
    have e2 := blk_cell hzB 2
    have e3 := blk_cell hzB 3
    have e4 := blk_cell hzB 4
    simp only [zeroC, List.getElem?_toArray, List.getElem?_cons_zero, List.getElem?_cons_succ] at e0 e1 e2 e3 e4
    have z0 := blk_frozen hzB 0
    have z1 := blk_frozen hzB 1
    have z2 := blk_frozen hzB 2
    have z3 := blk_frozen hzB 3
    have z4 := blk_frozen hzB 4
    clear HB
    refine last_ (i := 14) (N := none) #[true, true, true, true, true, true, true, true, true, true, true, true, true, true, true] rfl rfl (by kernel_rfl) (by decide) (fun K hK => ?_)
    refine skip_ (w1 := ((((V0.setCell ⟨B, 0, none⟩ (.int .i64 now)).setCell ⟨B, 1, none⟩ (.int .i64 0)).setCell ⟨B, 2, none⟩ (.int .i64 fl)).setCell ⟨B, 3, none⟩ (.int .i64 plan)).setCell ⟨B, 4, none⟩ (.int .i64 ca)) (by rfl) rfl (by go_simp) ?_
    refine hK.out _ _ ?_
    clear hK K
    refine done_ (by kernel_rfl) ?_
    have hVb : Below W0.heap.size W0 (((((V0.setCell ⟨B, 0, none⟩ (.int .i64 now)).setCell ⟨B, 1, none⟩ (.int .i64 0)).setCell ⟨B, 2, none⟩ (.int .i64 fl)).setCell ⟨B, 3, none⟩ (.int .i64 plan)).setCell ⟨B, 4, none⟩ (.int .i64 ca)) := ((((hb1.setCell hB _).setCell hB _).setCell hB _).setCell hB _).setCell hB _
    have hVB : (((((V0.setCell ⟨B, 0, none⟩ (.int .i64 now)).setCell ⟨B, 1, none⟩ (.int .i64 0)).setCell ⟨B, 2, none⟩ (.int .i64 fl)).setCell ⟨B, 3, none⟩ (.int .i64 plan)).setCell ⟨B, 4, none⟩ (.int .i64 ca)).heap[B]? = some (.cells #[.int .i64 now, .int .i64 0, .int .i64 fl, .int .i64 plan, .int .i64 ca] 68 (0, 0)) := blk_put (blk_put (blk_put (blk_put (blk_put hzB 0 _ rfl) 1 _ rfl) 2 _ rfl) 3 _ rfl) 4 _ rfl
    obtain ⟨V, hV⟩ : ∃ V, (((((V0.setCell ⟨B, 0, none⟩ (.int .i64 now)).setCell ⟨B, 1, none⟩ (.int .i64 0)).setCell ⟨B, 2, none⟩ (.int .i64 fl)).setCell ⟨B, 3, none⟩ (.int .i64 plan)).setCell ⟨B, 4, none⟩ (.int .i64 ca)) = V := ⟨_, rfl⟩
    rw [hV] at hVb hVB ⊢
    have hVw : Below w.heap.size w V := H0.out.1.trans (hVb.mono H0.out.1.size)
    have hVz := blk_below H0.out.2.1 hVb
    have HV := Aside0.mk (And.intro hVw (And.intro hVB hVz))
    have HDV := Aside0.mk (HD.out.below hVw)
    have hB' : w.heap.size < B := by have := H0.out.2.2; omega
    clear hV hVb hVw hzB e0 e1 e2 e3 e4 z0 z1 z2 z3 z4 d8 d10 d12 d16 d8' d10' hb1 hHeld hB H0 HD HR KFl KCa
    have d8 : V.cell? ⟨b, 8, none⟩ = some (.int .i64 now) := HE.out.1 ▸ HDV.out.at 8 (.int .i64 d.now) rfl
    have d10 : V.cell? ⟨b, 10, none⟩ = some (.int .i64 plan) := HE.out.2.1 ▸ HDV.out.at 10 (.int .i64 d.plan) rfl
    have d12 : V.cell? ⟨b, 12, none⟩ = some (.int .i64 pr) := HE.out.2.2.1 ▸ HDV.out.at 12 (.int .i64 d.prev.rep) rfl
    have d16 : V.cell? ⟨b, 16, none⟩ = some (.int .i64 chd) := HE.out.2.2.2 ▸ HDV.out.at 16 (.int .i64 d.changed) rfl
    have f0 := blk_cell HV.out.2.1 0
    have f1 := blk_cell HV.out.2.1 1
    have f2 := blk_cell HV.out.2.1 2
    have f3 := blk_cell HV.out.2.1 3
    have f4 := blk_cell HV.out.2.1 4
    simp only [List.getElem?_toArray, List.getElem?_cons_zero, List.getElem?_cons_succ] at f0 f1 f2 f3 f4
    have y1 := blk_frozen HV.out.2.1 1
    obtain ⟨ha, hM⟩ := HM.out
    go_wp2
    go_quiet ((go_at_call 120; exact Calls.quiet_of (quiet_of (KB1.out _ (HDV.out.below (pw_below_drewN (Below.refl _ _) _))))))
    obtain ⟨hrr, hchg⟩ := HF.out
    have hbB : b ≠ B := by omega
    have hBb : B ≠ b := by omega
    clear ha hM HF KB1
    have hTB : w.heap.size ≠ B := by omega
    have hwB : w.heap.size ≤ B := by omega
    have hbT : b ≠ w.heap.size := by omega
    have hBT : B ≠ w.heap.size := by omega
    by_cases g1 : d.some
    rotate_left
    · rw [if_neg (fun h => g1 h.1)] at hrr
      subst hrr
      rw [if_pos (.inl g1)] at hchg
      subst hchg
      have KS1 : Aside0 (∀ W, DrAt W b d A l.length c → Calls Try.prog 121 #[.pointer (some ⟨b, 0, none⟩)] W fun e w' => e = .returned (.bool false) ∧ Drawn0 W w') := ⟨fun W h => by
        have := KSo.out W h
        rwa [decide_eq_false g1] at this⟩
      clear g1 KSo KRe
      go_wp2_with (first | (go_at_call 120; (with_reducible refine (KB2.out _ (HDV.out.below (pw_below_drewN (Below.refl _ _) _))).mono ?_); rintro e w' ⟨rfl, ⟨nd, rfl⟩⟩) | (go_at_call 121; (with_reducible refine (KS1.out _ (HDV.out.below (pw_below_drewN (Below.refl _ _) _))).mono ?_); rintro e w' ⟨rfl, ⟨nd, rfl⟩⟩) | (go_at_call 121; (with_reducible refine (KS1.out _ (DrAt.set (HDV.out.below (pw_below_drewN (Below.refl _ _) _)) hbB)).mono ?_); rintro e w9 ⟨rfl, hD9⟩; have H9 := Aside0.mk (key9 hD9 HDV.out HV.out.2.1 HV.out.2.2 hbB hTB HV.out.1 hwB); clear hD9; have g12 : w9.cell? ⟨b, 12, none⟩ = some (.int .i64 pr) := HE.out.2.2.1 ▸ H9.out.1.at 12 (.int .i64 d.prev.rep) rfl))
      have g8 : w9.cell? ⟨b, 8, none⟩ = some (.int .i64 now) := HE.out.1 ▸ H9.out.1.at 8 (.int .i64 d.now) rfl
      obtain ⟨_, hB9, hT9, hw9⟩ := H9.out
      have j0 := blk_cell hB9 0
      have j1 := blk_cell hB9 1
      have j2 := blk_cell hB9 2
      have j3 := blk_cell hB9 3
      have j4 := blk_cell hB9 4
      simp only [List.getElem?_toArray, List.getElem?_cons_zero, List.getElem?_cons_succ] at j0 j1 j2 j3 j4
      have k0 := blk_cell hT9 0
      have k1 := blk_cell hT9 1
      have k2 := blk_cell hT9 2
      have k3 := blk_cell hT9 3
      have k4 := blk_cell hT9 4
      simp only [zeroC, List.getElem?_toArray, List.getElem?_cons_zero, List.getElem?_cons_succ] at k0 k1 k2 k3 k4
      have l0 := blk_frozen hT9 0
      have l1 := blk_frozen hT9 1
      have l2 := blk_frozen hT9 2
      have l3 := blk_frozen hT9 3
      have l4 := blk_frozen hT9 4
      have H9' := Aside0.mk (And.intro hT9 hw9)
      clear hB9 hT9 hw9
      refine start_ (n := 7) (S := (fun w' => w'.cell? ⟨b, 8, none⟩ = some (.int .i64 now) ∧ w'.cell? ⟨B, 0, none⟩ = some (.int .i64 now) ∧ w'.cell? ⟨B, 1, none⟩ = some (.int .i64 n0) ∧ w'.cell? ⟨B, 2, none⟩ = some (.int .i64 fl) ∧ w'.cell? ⟨B, 3, none⟩ = some (.int .i64 plan) ∧ w'.cell? ⟨B, 4, none⟩ = some (.int .i64 ca))) (ds := []) #[false, false, false, false, false, false, false] (by kernel_rfl) rfl rfl ⟨g8, j0, j1, j2, j3, j4⟩ (fun hHeld => ?_)
      refine pure_ (i := 1) (N := some 65) (v := ?_) (a' := ?_) #[false, true, false, false, false, false, false] rfl rfl (by kernel_rfl) (fun _ _ _ h => h) (Or.inl ⟨by rfl, ?_⟩) ?_ ?_
      rotate_left
      · intro w'
        go_simp
        with_reducible rfl
      rotate_left
      · simp only [Act.put, List.setIfInBounds_toArray, List.set_cons_zero, List.set_cons_succ, i64_w, i32_w]
        rfl
      refine pure_ (i := 2) (N := some 66) (v := ?_) (a' := ?_) #[false, true, true, false, false, false, false] rfl rfl (by kernel_rfl) (fun _ _ _ h => h) (Or.inl ⟨by rfl, ?_⟩) ?_ ?_
      rotate_left
      · intro w'
        go_simp
        with_reducible rfl
      rotate_left
      · simp only [Act.put, List.setIfInBounds_toArray, List.set_cons_zero, List.set_cons_succ, i64_w, i32_w]
        rfl
      refine pure_ (i := 3) (N := some 67) (v := ?_) (a' := ?_) #[false, true, true, true, false, false, false] rfl rfl (by kernel_rfl) (fun _ _ _ h => h) (Or.inl ⟨by rfl, ?_⟩) ?_ ?_
      rotate_left
      · intro w'
        go_simp
        with_reducible rfl
      rotate_left
      · simp only [Act.put, List.setIfInBounds_toArray, List.set_cons_zero, List.set_cons_succ, i64_w, i32_w]
        rfl
      refine take_ (i := 0) (N := some 64) (v := ?_) (a' := ?_) #[true, true, true, true, false, false, false] rfl rfl (by kernel_rfl) (fun _ _ _ h => h) (Or.inl ⟨by rfl, ?_⟩) hHeld ?_ ?_
      rotate_left
      · rintro w' ⟨s0, s1, s2, s3, s4, s5⟩
        go_simp
        with_reducible rfl
      rotate_left
      · simp only [Act.put, List.setIfInBounds_toArray, List.set_cons_zero, List.set_cons_succ, i64_w, i32_w]
        rfl
      refine take_ (i := 4) (N := some 68) (v := ?_) (a' := ?_) #[true, true, true, true, true, false, false] rfl rfl (by kernel_rfl) (fun _ _ _ h => h) (Or.inl ⟨by rfl, ?_⟩) hHeld ?_ ?_
      rotate_left
      · rintro w' ⟨s0, s1, s2, s3, s4, s5⟩
        go_simp
        with_reducible rfl
      rotate_left
      · simp only [Act.put, List.setIfInBounds_toArray, List.set_cons_zero, List.set_cons_succ, i64_w, i32_w]
        rfl
      refine one_ (i := 5) (N := none) #[true, true, true, true, true, true, false] rfl rfl (by kernel_rfl) (by decide) (fun K hK => ?_)
      refine skip_ (w1 := (set5 w9 w.heap.size now n0 fl plan ca).drew) (by rfl) rfl (by unfold set5; first | (go_simp; done) | (go_simp; with_reducible rfl)) ?_
      refine hK.out _ _ ⟨set5_far' hHeld.1 hbT _ _ _ _ _, set5_far' hHeld.2.1 hBT _ _ _ _ _, set5_far' hHeld.2.2.1 hBT _ _ _ _ _, set5_far' hHeld.2.2.2.1 hBT _ _ _ _ _, set5_far' hHeld.2.2.2.2.1 hBT _ _ _ _ _, set5_far' hHeld.2.2.2.2.2 hBT _ _ _ _ _⟩ (fun hHeld => ?_)
      clear hK K
      refine pure_ (i := 6) (N := some 3) (v := ?_) (a' := ?_) #[true, true, true, true, true, true, true] rfl rfl (by kernel_rfl) (fun _ _ _ h => h) (Or.inl ⟨by rfl, ?_⟩) ?_ ?_
      rotate_left
      · intro w'
        go_simp
        with_reducible rfl
      rotate_left
      · simp only [Act.put, List.setIfInBounds_toArray, List.set_cons_zero, List.set_cons_succ, i64_w, i32_w]
        rfl
      refine done_ (by kernel_rfl) ?_
      have hfin : (set5 w9 w.heap.size now n0 fl plan ca).drew.heap[w.heap.size]? = some (.cells #[.int .i64 now, .int .i64 n0, .int .i64 fl, .int .i64 plan, .int .i64 ca] 68 (0, 0)) := blk_drew (set5_blk H9'.out.1 now n0 fl plan ca)
      have hfb : Below w.heap.size w (set5 w9 w.heap.size now n0 fl plan ca).drew := below_drew (set5_below H9'.out.2 (Nat.le_refl _) _ _ _ _ _)
      obtain ⟨Z, hZ⟩ : ∃ Z, (set5 w9 w.heap.size now n0 fl plan ca).drew = Z := ⟨_, rfl⟩
      rw [hZ] at hfin hfb ⊢
      have p0 := blk_cell hfin 0
      have p1 := blk_cell hfin 1
      have p2 := blk_cell hfin 2
      have p3 := blk_cell hfin 3
      have p4 := blk_cell hfin 4
      simp only [List.getElem?_toArray, List.getElem?_cons_zero, List.getElem?_cons_succ] at p0 p1 p2 p3 p4
      have HFB := Aside0.mk hfb
      clear hfin hfb hZ hHeld
      go_wp2
      refine bodyPost_ret (v := .tuple #[.agg #[.int .i64 now, .int .i64 n0, .int .i64 fl, .int .i64 plan, .int .i64 ca], .int .i64 now]) (by simp [results, Try.results84, go_sem, p0, p1, p2, p3, p4]) rfl ?_
      exact ⟨rfl, HFB.out⟩
    have KS1 : Aside0 (∀ W, DrAt W b d A l.length c → Calls Try.prog 121 #[.pointer (some ⟨b, 0, none⟩)] W fun e w' => e = .returned (.bool true) ∧ Drawn0 W w') := ⟨fun W h => by
      have := KSo.out W h
      rwa [decide_eq_true g1] at this⟩
    by_cases g2 : n0 < old
    rotate_left
    · rw [if_neg (fun h => g2 h.2.1)] at hrr
      subst hrr
      have c7 : decide (n0 < old) = false := decide_eq_false g2
      clear g2
      by_cases g4 : n0 = pr
      · rw [if_neg (fun h => h.elim (fun h => h g1) (fun h => h g4))] at hchg
        subst hchg
        have c8 : (n0 == pr) = true := by simp [g4]
        have c8' : (n0 != pr) = false := by simp [g4]
        have c8'' : (n0 = pr) = True := eq_true g4
        clear g1 g4 KSo KRe
        go_wp2_with (first | (go_at_call 120; (with_reducible refine (KB2.out _ (HDV.out.below (pw_below_drewN (Below.refl _ _) _))).mono ?_); rintro e w' ⟨rfl, ⟨nd, rfl⟩⟩) | (go_at_call 121; (with_reducible refine (KS1.out _ (HDV.out.below (pw_below_drewN (Below.refl _ _) _))).mono ?_); rintro e w' ⟨rfl, ⟨nd, rfl⟩⟩) | (go_at_call 121; (with_reducible refine (KS1.out _ (DrAt.set (HDV.out.below (pw_below_drewN (Below.refl _ _) _)) hbB)).mono ?_); rintro e w9 ⟨rfl, hD9⟩; have H9 := Aside0.mk (key9 hD9 HDV.out HV.out.2.1 HV.out.2.2 hbB hTB HV.out.1 hwB); clear hD9; have g12 : w9.cell? ⟨b, 12, none⟩ = some (.int .i64 pr) := HE.out.2.2.1 ▸ H9.out.1.at 12 (.int .i64 d.prev.rep) rfl))
        have g16 : w9.cell? ⟨b, 16, none⟩ = some (.int .i64 chd) := HE.out.2.2.2 ▸ H9.out.1.at 16 (.int .i64 d.changed) rfl
        obtain ⟨_, hB9, hT9, hw9⟩ := H9.out
        have j0 := blk_cell hB9 0
        have j1 := blk_cell hB9 1
        have j2 := blk_cell hB9 2
        have j3 := blk_cell hB9 3
        have j4 := blk_cell hB9 4
        simp only [List.getElem?_toArray, List.getElem?_cons_zero, List.getElem?_cons_succ] at j0 j1 j2 j3 j4
        have k0 := blk_cell hT9 0
        have k1 := blk_cell hT9 1
        have k2 := blk_cell hT9 2
        have k3 := blk_cell hT9 3
        have k4 := blk_cell hT9 4
        simp only [zeroC, List.getElem?_toArray, List.getElem?_cons_zero, List.getElem?_cons_succ] at k0 k1 k2 k3 k4
        have l0 := blk_frozen hT9 0
        have l1 := blk_frozen hT9 1
        have l2 := blk_frozen hT9 2
        have l3 := blk_frozen hT9 3
        have l4 := blk_frozen hT9 4
        have H9' := Aside0.mk (And.intro hT9 hw9)
        clear hB9 hT9 hw9
        refine start_ (n := 7) (S := (fun w' => w'.cell? ⟨b, 16, none⟩ = some (.int .i64 chd) ∧ w'.cell? ⟨B, 0, none⟩ = some (.int .i64 now) ∧ w'.cell? ⟨B, 1, none⟩ = some (.int .i64 n0) ∧ w'.cell? ⟨B, 2, none⟩ = some (.int .i64 fl) ∧ w'.cell? ⟨B, 3, none⟩ = some (.int .i64 plan) ∧ w'.cell? ⟨B, 4, none⟩ = some (.int .i64 ca))) (ds := []) #[false, false, false, false, false, false, false] (by kernel_rfl) rfl rfl ⟨g16, j0, j1, j2, j3, j4⟩ (fun hHeld => ?_)
        refine pure_ (i := 1) (N := some 70) (v := ?_) (a' := ?_) #[false, true, false, false, false, false, false] rfl rfl (by kernel_rfl) (fun _ _ _ h => h) (Or.inl ⟨by rfl, ?_⟩) ?_ ?_
        rotate_left
        · intro w'
          go_simp
          with_reducible rfl
        rotate_left
        · simp only [Act.put, List.setIfInBounds_toArray, List.set_cons_zero, List.set_cons_succ, i64_w, i32_w]
          rfl
        refine pure_ (i := 2) (N := some 71) (v := ?_) (a' := ?_) #[false, true, true, false, false, false, false] rfl rfl (by kernel_rfl) (fun _ _ _ h => h) (Or.inl ⟨by rfl, ?_⟩) ?_ ?_
        rotate_left
        · intro w'
          go_simp
          with_reducible rfl
        rotate_left
        · simp only [Act.put, List.setIfInBounds_toArray, List.set_cons_zero, List.set_cons_succ, i64_w, i32_w]
          rfl
        refine pure_ (i := 3) (N := some 72) (v := ?_) (a' := ?_) #[false, true, true, true, false, false, false] rfl rfl (by kernel_rfl) (fun _ _ _ h => h) (Or.inl ⟨by rfl, ?_⟩) ?_ ?_
        rotate_left
        · intro w'
          go_simp
          with_reducible rfl
        rotate_left
        · simp only [Act.put, List.setIfInBounds_toArray, List.set_cons_zero, List.set_cons_succ, i64_w, i32_w]
          rfl
        refine take_ (i := 0) (N := some 69) (v := ?_) (a' := ?_) #[true, true, true, true, false, false, false] rfl rfl (by kernel_rfl) (fun _ _ _ h => h) (Or.inl ⟨by rfl, ?_⟩) hHeld ?_ ?_
        rotate_left
        · rintro w' ⟨s0, s1, s2, s3, s4, s5⟩
          go_simp
          with_reducible rfl
        rotate_left
        · simp only [Act.put, List.setIfInBounds_toArray, List.set_cons_zero, List.set_cons_succ, i64_w, i32_w]
          rfl
        refine take_ (i := 4) (N := some 73) (v := ?_) (a' := ?_) #[true, true, true, true, true, false, false] rfl rfl (by kernel_rfl) (fun _ _ _ h => h) (Or.inl ⟨by rfl, ?_⟩) hHeld ?_ ?_
        rotate_left
        · rintro w' ⟨s0, s1, s2, s3, s4, s5⟩
          go_simp
          with_reducible rfl
        rotate_left
        · simp only [Act.put, List.setIfInBounds_toArray, List.set_cons_zero, List.set_cons_succ, i64_w, i32_w]
          rfl
        refine one_ (i := 5) (N := none) #[true, true, true, true, true, true, false] rfl rfl (by kernel_rfl) (by decide) (fun K hK => ?_)
        refine skip_ (w1 := (set5 w9 w.heap.size now n0 fl plan ca).drew) (by rfl) rfl (by unfold set5; first | (go_simp; done) | (go_simp; with_reducible rfl)) ?_
        refine hK.out _ _ ⟨set5_far' hHeld.1 hbT _ _ _ _ _, set5_far' hHeld.2.1 hBT _ _ _ _ _, set5_far' hHeld.2.2.1 hBT _ _ _ _ _, set5_far' hHeld.2.2.2.1 hBT _ _ _ _ _, set5_far' hHeld.2.2.2.2.1 hBT _ _ _ _ _, set5_far' hHeld.2.2.2.2.2 hBT _ _ _ _ _⟩ (fun hHeld => ?_)
        clear hK K
        refine pure_ (i := 6) (N := some 3) (v := ?_) (a' := ?_) #[true, true, true, true, true, true, true] rfl rfl (by kernel_rfl) (fun _ _ _ h => h) (Or.inl ⟨by rfl, ?_⟩) ?_ ?_
        rotate_left
        · intro w'
          go_simp
          with_reducible rfl
        rotate_left
        · simp only [Act.put, List.setIfInBounds_toArray, List.set_cons_zero, List.set_cons_succ, i64_w, i32_w]
          rfl
        refine done_ (by kernel_rfl) ?_
        have hfin : (set5 w9 w.heap.size now n0 fl plan ca).drew.heap[w.heap.size]? = some (.cells #[.int .i64 now, .int .i64 n0, .int .i64 fl, .int .i64 plan, .int .i64 ca] 68 (0, 0)) := blk_drew (set5_blk H9'.out.1 now n0 fl plan ca)
        have hfb : Below w.heap.size w (set5 w9 w.heap.size now n0 fl plan ca).drew := below_drew (set5_below H9'.out.2 (Nat.le_refl _) _ _ _ _ _)
        obtain ⟨Z, hZ⟩ : ∃ Z, (set5 w9 w.heap.size now n0 fl plan ca).drew = Z := ⟨_, rfl⟩
        rw [hZ] at hfin hfb ⊢
        have p0 := blk_cell hfin 0
        have p1 := blk_cell hfin 1
        have p2 := blk_cell hfin 2
        have p3 := blk_cell hfin 3
        have p4 := blk_cell hfin 4
        simp only [List.getElem?_toArray, List.getElem?_cons_zero, List.getElem?_cons_succ] at p0 p1 p2 p3 p4
        have HFB := Aside0.mk hfb
        clear hfin hfb hZ hHeld
        go_wp2
        refine bodyPost_ret (v := .tuple #[.agg #[.int .i64 now, .int .i64 n0, .int .i64 fl, .int .i64 plan, .int .i64 ca], .int .i64 chd]) (by simp [results, Try.results84, go_sem, p0, p1, p2, p3, p4]) rfl ?_
        exact ⟨rfl, HFB.out⟩
      · rw [if_pos (.inr g4)] at hchg
        subst hchg
        have c8 : (n0 == pr) = false := by simp [g4]
        have c8' : (n0 != pr) = true := by simp [g4]
        have c8'' : (n0 = pr) = False := eq_false g4
        clear g1 g4 KSo KRe
        go_wp2_with (first | (go_at_call 120; (with_reducible refine (KB2.out _ (HDV.out.below (pw_below_drewN (Below.refl _ _) _))).mono ?_); rintro e w' ⟨rfl, ⟨nd, rfl⟩⟩) | (go_at_call 121; (with_reducible refine (KS1.out _ (HDV.out.below (pw_below_drewN (Below.refl _ _) _))).mono ?_); rintro e w' ⟨rfl, ⟨nd, rfl⟩⟩) | (go_at_call 121; (with_reducible refine (KS1.out _ (DrAt.set (HDV.out.below (pw_below_drewN (Below.refl _ _) _)) hbB)).mono ?_); rintro e w9 ⟨rfl, hD9⟩; have H9 := Aside0.mk (key9 hD9 HDV.out HV.out.2.1 HV.out.2.2 hbB hTB HV.out.1 hwB); clear hD9; have g12 : w9.cell? ⟨b, 12, none⟩ = some (.int .i64 pr) := HE.out.2.2.1 ▸ H9.out.1.at 12 (.int .i64 d.prev.rep) rfl))
        have g8 : w9.cell? ⟨b, 8, none⟩ = some (.int .i64 now) := HE.out.1 ▸ H9.out.1.at 8 (.int .i64 d.now) rfl
        obtain ⟨_, hB9, hT9, hw9⟩ := H9.out
        have j0 := blk_cell hB9 0
        have j1 := blk_cell hB9 1
        have j2 := blk_cell hB9 2
        have j3 := blk_cell hB9 3
        have j4 := blk_cell hB9 4
        simp only [List.getElem?_toArray, List.getElem?_cons_zero, List.getElem?_cons_succ] at j0 j1 j2 j3 j4
        have k0 := blk_cell hT9 0
        have k1 := blk_cell hT9 1
        have k2 := blk_cell hT9 2
        have k3 := blk_cell hT9 3
        have k4 := blk_cell hT9 4
        simp only [zeroC, List.getElem?_toArray, List.getElem?_cons_zero, List.getElem?_cons_succ] at k0 k1 k2 k3 k4
        have l0 := blk_frozen hT9 0
        have l1 := blk_frozen hT9 1
        have l2 := blk_frozen hT9 2
        have l3 := blk_frozen hT9 3
        have l4 := blk_frozen hT9 4
        have H9' := Aside0.mk (And.intro hT9 hw9)
        clear hB9 hT9 hw9
        refine start_ (n := 7) (S := (fun w' => w'.cell? ⟨b, 8, none⟩ = some (.int .i64 now) ∧ w'.cell? ⟨B, 0, none⟩ = some (.int .i64 now) ∧ w'.cell? ⟨B, 1, none⟩ = some (.int .i64 n0) ∧ w'.cell? ⟨B, 2, none⟩ = some (.int .i64 fl) ∧ w'.cell? ⟨B, 3, none⟩ = some (.int .i64 plan) ∧ w'.cell? ⟨B, 4, none⟩ = some (.int .i64 ca))) (ds := []) #[false, false, false, false, false, false, false] (by kernel_rfl) rfl rfl ⟨g8, j0, j1, j2, j3, j4⟩ (fun hHeld => ?_)
        refine pure_ (i := 1) (N := some 65) (v := ?_) (a' := ?_) #[false, true, false, false, false, false, false] rfl rfl (by kernel_rfl) (fun _ _ _ h => h) (Or.inl ⟨by rfl, ?_⟩) ?_ ?_
        rotate_left
        · intro w'
          go_simp
          with_reducible rfl
        rotate_left
        · simp only [Act.put, List.setIfInBounds_toArray, List.set_cons_zero, List.set_cons_succ, i64_w, i32_w]
          rfl
        refine pure_ (i := 2) (N := some 66) (v := ?_) (a' := ?_) #[false, true, true, false, false, false, false] rfl rfl (by kernel_rfl) (fun _ _ _ h => h) (Or.inl ⟨by rfl, ?_⟩) ?_ ?_
        rotate_left
        · intro w'
          go_simp
          with_reducible rfl
        rotate_left
        · simp only [Act.put, List.setIfInBounds_toArray, List.set_cons_zero, List.set_cons_succ, i64_w, i32_w]
          rfl
        refine pure_ (i := 3) (N := some 67) (v := ?_) (a' := ?_) #[false, true, true, true, false, false, false] rfl rfl (by kernel_rfl) (fun _ _ _ h => h) (Or.inl ⟨by rfl, ?_⟩) ?_ ?_
        rotate_left
        · intro w'
          go_simp
          with_reducible rfl
        rotate_left
        · simp only [Act.put, List.setIfInBounds_toArray, List.set_cons_zero, List.set_cons_succ, i64_w, i32_w]
          rfl
        refine take_ (i := 0) (N := some 64) (v := ?_) (a' := ?_) #[true, true, true, true, false, false, false] rfl rfl (by kernel_rfl) (fun _ _ _ h => h) (Or.inl ⟨by rfl, ?_⟩) hHeld ?_ ?_
        rotate_left
        · rintro w' ⟨s0, s1, s2, s3, s4, s5⟩
          go_simp
          with_reducible rfl
        rotate_left
        · simp only [Act.put, List.setIfInBounds_toArray, List.set_cons_zero, List.set_cons_succ, i64_w, i32_w]
          rfl
        refine take_ (i := 4) (N := some 68) (v := ?_) (a' := ?_) #[true, true, true, true, true, false, false] rfl rfl (by kernel_rfl) (fun _ _ _ h => h) (Or.inl ⟨by rfl, ?_⟩) hHeld ?_ ?_
        rotate_left
        · rintro w' ⟨s0, s1, s2, s3, s4, s5⟩
          go_simp
          with_reducible rfl
        rotate_left
        · simp only [Act.put, List.setIfInBounds_toArray, List.set_cons_zero, List.set_cons_succ, i64_w, i32_w]
          rfl
        refine one_ (i := 5) (N := none) #[true, true, true, true, true, true, false] rfl rfl (by kernel_rfl) (by decide) (fun K hK => ?_)
        refine skip_ (w1 := (set5 w9 w.heap.size now n0 fl plan ca).drew) (by rfl) rfl (by unfold set5; first | (go_simp; done) | (go_simp; with_reducible rfl)) ?_
        refine hK.out _ _ ⟨set5_far' hHeld.1 hbT _ _ _ _ _, set5_far' hHeld.2.1 hBT _ _ _ _ _, set5_far' hHeld.2.2.1 hBT _ _ _ _ _, set5_far' hHeld.2.2.2.1 hBT _ _ _ _ _, set5_far' hHeld.2.2.2.2.1 hBT _ _ _ _ _, set5_far' hHeld.2.2.2.2.2 hBT _ _ _ _ _⟩ (fun hHeld => ?_)
        clear hK K
        refine pure_ (i := 6) (N := some 3) (v := ?_) (a' := ?_) #[true, true, true, true, true, true, true] rfl rfl (by kernel_rfl) (fun _ _ _ h => h) (Or.inl ⟨by rfl, ?_⟩) ?_ ?_
        rotate_left
        · intro w'
          go_simp
          with_reducible rfl
        rotate_left
        · simp only [Act.put, List.setIfInBounds_toArray, List.set_cons_zero, List.set_cons_succ, i64_w, i32_w]
          rfl
        refine done_ (by kernel_rfl) ?_
        have hfin : (set5 w9 w.heap.size now n0 fl plan ca).drew.heap[w.heap.size]? = some (.cells #[.int .i64 now, .int .i64 n0, .int .i64 fl, .int .i64 plan, .int .i64 ca] 68 (0, 0)) := blk_drew (set5_blk H9'.out.1 now n0 fl plan ca)
        have hfb : Below w.heap.size w (set5 w9 w.heap.size now n0 fl plan ca).drew := below_drew (set5_below H9'.out.2 (Nat.le_refl _) _ _ _ _ _)
        obtain ⟨Z, hZ⟩ : ∃ Z, (set5 w9 w.heap.size now n0 fl plan ca).drew = Z := ⟨_, rfl⟩
        rw [hZ] at hfin hfb ⊢
        have p0 := blk_cell hfin 0
        have p1 := blk_cell hfin 1
        have p2 := blk_cell hfin 2
        have p3 := blk_cell hfin 3
        have p4 := blk_cell hfin 4
        simp only [List.getElem?_toArray, List.getElem?_cons_zero, List.getElem?_cons_succ] at p0 p1 p2 p3 p4
        have HFB := Aside0.mk hfb
        clear hfin hfb hZ hHeld
        go_wp2
        refine bodyPost_ret (v := .tuple #[.agg #[.int .i64 now, .int .i64 n0, .int .i64 fl, .int .i64 plan, .int .i64 ca], .int .i64 now]) (by simp [results, Try.results84, go_sem, p0, p1, p2, p3, p4]) rfl ?_
        exact ⟨rfl, HFB.out⟩
    have c7 : decide (n0 < old) = true := decide_eq_true g2
    by_cases g3 : d.rests
    rotate_left
    · rw [if_neg (fun h => g3 h.2.2)] at hrr
      subst hrr
      have KR1 : Aside0 (∀ W, DrAt W b d A l.length c → Calls Try.prog 122 #[.pointer (some ⟨b, 0, none⟩)] W fun e w' => e = .returned (.bool false) ∧ Drawn0 W w') := ⟨fun W h => by
        have := KRe.out W h
        rwa [decide_eq_false g3] at this⟩
      clear g2 g3
      by_cases g4 : n0 = pr
      · rw [if_neg (fun h => h.elim (fun h => h g1) (fun h => h g4))] at hchg
        subst hchg
        have c8 : (n0 == pr) = true := by simp [g4]
        have c8' : (n0 != pr) = false := by simp [g4]
        have c8'' : (n0 = pr) = True := eq_true g4
        clear g1 g4 KSo KRe
        go_wp2_with (first | (go_at_call 120; (with_reducible refine (KB2.out _ (HDV.out.below (pw_below_drewN (Below.refl _ _) _))).mono ?_); rintro e w' ⟨rfl, ⟨nd, rfl⟩⟩) | (go_at_call 121; (with_reducible refine (KS1.out _ (HDV.out.below (pw_below_drewN (Below.refl _ _) _))).mono ?_); rintro e w' ⟨rfl, ⟨nd, rfl⟩⟩) | (go_at_call 121; (with_reducible refine (KS1.out _ (DrAt.set (HDV.out.below (pw_below_drewN (Below.refl _ _) _)) hbB)).mono ?_); rintro e w9 ⟨rfl, hD9⟩; have H9 := Aside0.mk (key9 hD9 HDV.out HV.out.2.1 HV.out.2.2 hbB hTB HV.out.1 hwB); clear hD9; have g12 : w9.cell? ⟨b, 12, none⟩ = some (.int .i64 pr) := HE.out.2.2.1 ▸ H9.out.1.at 12 (.int .i64 d.prev.rep) rfl) | (go_at_call 122; (with_reducible refine (KR1.out _ (HDV.out.below (pw_below_drewN (Below.refl _ _) _))).mono ?_); rintro e w' ⟨rfl, ⟨nd, rfl⟩⟩))
        have g16 : w9.cell? ⟨b, 16, none⟩ = some (.int .i64 chd) := HE.out.2.2.2 ▸ H9.out.1.at 16 (.int .i64 d.changed) rfl
        obtain ⟨_, hB9, hT9, hw9⟩ := H9.out
        have j0 := blk_cell hB9 0
        have j1 := blk_cell hB9 1
        have j2 := blk_cell hB9 2
        have j3 := blk_cell hB9 3
        have j4 := blk_cell hB9 4
        simp only [List.getElem?_toArray, List.getElem?_cons_zero, List.getElem?_cons_succ] at j0 j1 j2 j3 j4
        have k0 := blk_cell hT9 0
        have k1 := blk_cell hT9 1
        have k2 := blk_cell hT9 2
        have k3 := blk_cell hT9 3
        have k4 := blk_cell hT9 4
        simp only [zeroC, List.getElem?_toArray, List.getElem?_cons_zero, List.getElem?_cons_succ] at k0 k1 k2 k3 k4
        have l0 := blk_frozen hT9 0
        have l1 := blk_frozen hT9 1
        have l2 := blk_frozen hT9 2
        have l3 := blk_frozen hT9 3
        have l4 := blk_frozen hT9 4
        have H9' := Aside0.mk (And.intro hT9 hw9)
        clear hB9 hT9 hw9
        refine start_ (n := 7) (S := (fun w' => w'.cell? ⟨b, 16, none⟩ = some (.int .i64 chd) ∧ w'.cell? ⟨B, 0, none⟩ = some (.int .i64 now) ∧ w'.cell? ⟨B, 1, none⟩ = some (.int .i64 n0) ∧ w'.cell? ⟨B, 2, none⟩ = some (.int .i64 fl) ∧ w'.cell? ⟨B, 3, none⟩ = some (.int .i64 plan) ∧ w'.cell? ⟨B, 4, none⟩ = some (.int .i64 ca))) (ds := []) #[false, false, false, false, false, false, false] (by kernel_rfl) rfl rfl ⟨g16, j0, j1, j2, j3, j4⟩ (fun hHeld => ?_)
        refine pure_ (i := 1) (N := some 70) (v := ?_) (a' := ?_) #[false, true, false, false, false, false, false] rfl rfl (by kernel_rfl) (fun _ _ _ h => h) (Or.inl ⟨by rfl, ?_⟩) ?_ ?_
        rotate_left
        · intro w'
          go_simp
          with_reducible rfl
        rotate_left
        · simp only [Act.put, List.setIfInBounds_toArray, List.set_cons_zero, List.set_cons_succ, i64_w, i32_w]
          rfl
        refine pure_ (i := 2) (N := some 71) (v := ?_) (a' := ?_) #[false, true, true, false, false, false, false] rfl rfl (by kernel_rfl) (fun _ _ _ h => h) (Or.inl ⟨by rfl, ?_⟩) ?_ ?_
        rotate_left
        · intro w'
          go_simp
          with_reducible rfl
        rotate_left
        · simp only [Act.put, List.setIfInBounds_toArray, List.set_cons_zero, List.set_cons_succ, i64_w, i32_w]
          rfl
        refine pure_ (i := 3) (N := some 72) (v := ?_) (a' := ?_) #[false, true, true, true, false, false, false] rfl rfl (by kernel_rfl) (fun _ _ _ h => h) (Or.inl ⟨by rfl, ?_⟩) ?_ ?_
        rotate_left
        · intro w'
          go_simp
          with_reducible rfl
        rotate_left
        · simp only [Act.put, List.setIfInBounds_toArray, List.set_cons_zero, List.set_cons_succ, i64_w, i32_w]
          rfl
        refine take_ (i := 0) (N := some 69) (v := ?_) (a' := ?_) #[true, true, true, true, false, false, false] rfl rfl (by kernel_rfl) (fun _ _ _ h => h) (Or.inl ⟨by rfl, ?_⟩) hHeld ?_ ?_
        rotate_left
        · rintro w' ⟨s0, s1, s2, s3, s4, s5⟩
          go_simp
          with_reducible rfl
        rotate_left
        · simp only [Act.put, List.setIfInBounds_toArray, List.set_cons_zero, List.set_cons_succ, i64_w, i32_w]
          rfl
        refine take_ (i := 4) (N := some 73) (v := ?_) (a' := ?_) #[true, true, true, true, true, false, false] rfl rfl (by kernel_rfl) (fun _ _ _ h => h) (Or.inl ⟨by rfl, ?_⟩) hHeld ?_ ?_
        rotate_left
        · rintro w' ⟨s0, s1, s2, s3, s4, s5⟩
          go_simp
          with_reducible rfl
        rotate_left
        · simp only [Act.put, List.setIfInBounds_toArray, List.set_cons_zero, List.set_cons_succ, i64_w, i32_w]
          rfl
        refine one_ (i := 5) (N := none) #[true, true, true, true, true, true, false] rfl rfl (by kernel_rfl) (by decide) (fun K hK => ?_)
        refine skip_ (w1 := (set5 w9 w.heap.size now n0 fl plan ca).drew) (by rfl) rfl (by unfold set5; first | (go_simp; done) | (go_simp; with_reducible rfl)) ?_
        refine hK.out _ _ ⟨set5_far' hHeld.1 hbT _ _ _ _ _, set5_far' hHeld.2.1 hBT _ _ _ _ _, set5_far' hHeld.2.2.1 hBT _ _ _ _ _, set5_far' hHeld.2.2.2.1 hBT _ _ _ _ _, set5_far' hHeld.2.2.2.2.1 hBT _ _ _ _ _, set5_far' hHeld.2.2.2.2.2 hBT _ _ _ _ _⟩ (fun hHeld => ?_)
        clear hK K
        refine pure_ (i := 6) (N := some 3) (v := ?_) (a' := ?_) #[true, true, true, true, true, true, true] rfl rfl (by kernel_rfl) (fun _ _ _ h => h) (Or.inl ⟨by rfl, ?_⟩) ?_ ?_
        rotate_left
        · intro w'
          go_simp
          with_reducible rfl
        rotate_left
        · simp only [Act.put, List.setIfInBounds_toArray, List.set_cons_zero, List.set_cons_succ, i64_w, i32_w]
          rfl
        refine done_ (by kernel_rfl) ?_
        have hfin : (set5 w9 w.heap.size now n0 fl plan ca).drew.heap[w.heap.size]? = some (.cells #[.int .i64 now, .int .i64 n0, .int .i64 fl, .int .i64 plan, .int .i64 ca] 68 (0, 0)) := blk_drew (set5_blk H9'.out.1 now n0 fl plan ca)
        have hfb : Below w.heap.size w (set5 w9 w.heap.size now n0 fl plan ca).drew := below_drew (set5_below H9'.out.2 (Nat.le_refl _) _ _ _ _ _)
        obtain ⟨Z, hZ⟩ : ∃ Z, (set5 w9 w.heap.size now n0 fl plan ca).drew = Z := ⟨_, rfl⟩
        rw [hZ] at hfin hfb ⊢
        have p0 := blk_cell hfin 0
        have p1 := blk_cell hfin 1
        have p2 := blk_cell hfin 2
        have p3 := blk_cell hfin 3
        have p4 := blk_cell hfin 4
        simp only [List.getElem?_toArray, List.getElem?_cons_zero, List.getElem?_cons_succ] at p0 p1 p2 p3 p4
        have HFB := Aside0.mk hfb
        clear hfin hfb hZ hHeld
        go_wp2
        refine bodyPost_ret (v := .tuple #[.agg #[.int .i64 now, .int .i64 n0, .int .i64 fl, .int .i64 plan, .int .i64 ca], .int .i64 chd]) (by simp [results, Try.results84, go_sem, p0, p1, p2, p3, p4]) rfl ?_
        exact ⟨rfl, HFB.out⟩
      · rw [if_pos (.inr g4)] at hchg
        subst hchg
        have c8 : (n0 == pr) = false := by simp [g4]
        have c8' : (n0 != pr) = true := by simp [g4]
        have c8'' : (n0 = pr) = False := eq_false g4
        clear g1 g4 KSo KRe
        go_wp2_with (first | (go_at_call 120; (with_reducible refine (KB2.out _ (HDV.out.below (pw_below_drewN (Below.refl _ _) _))).mono ?_); rintro e w' ⟨rfl, ⟨nd, rfl⟩⟩) | (go_at_call 121; (with_reducible refine (KS1.out _ (HDV.out.below (pw_below_drewN (Below.refl _ _) _))).mono ?_); rintro e w' ⟨rfl, ⟨nd, rfl⟩⟩) | (go_at_call 121; (with_reducible refine (KS1.out _ (DrAt.set (HDV.out.below (pw_below_drewN (Below.refl _ _) _)) hbB)).mono ?_); rintro e w9 ⟨rfl, hD9⟩; have H9 := Aside0.mk (key9 hD9 HDV.out HV.out.2.1 HV.out.2.2 hbB hTB HV.out.1 hwB); clear hD9; have g12 : w9.cell? ⟨b, 12, none⟩ = some (.int .i64 pr) := HE.out.2.2.1 ▸ H9.out.1.at 12 (.int .i64 d.prev.rep) rfl) | (go_at_call 122; (with_reducible refine (KR1.out _ (HDV.out.below (pw_below_drewN (Below.refl _ _) _))).mono ?_); rintro e w' ⟨rfl, ⟨nd, rfl⟩⟩))
        have g8 : w9.cell? ⟨b, 8, none⟩ = some (.int .i64 now) := HE.out.1 ▸ H9.out.1.at 8 (.int .i64 d.now) rfl
        obtain ⟨_, hB9, hT9, hw9⟩ := H9.out
        have j0 := blk_cell hB9 0
        have j1 := blk_cell hB9 1
        have j2 := blk_cell hB9 2
        have j3 := blk_cell hB9 3
        have j4 := blk_cell hB9 4
        simp only [List.getElem?_toArray, List.getElem?_cons_zero, List.getElem?_cons_succ] at j0 j1 j2 j3 j4
        have k0 := blk_cell hT9 0
        have k1 := blk_cell hT9 1
        have k2 := blk_cell hT9 2
        have k3 := blk_cell hT9 3
        have k4 := blk_cell hT9 4
        simp only [zeroC, List.getElem?_toArray, List.getElem?_cons_zero, List.getElem?_cons_succ] at k0 k1 k2 k3 k4
        have l0 := blk_frozen hT9 0
        have l1 := blk_frozen hT9 1
        have l2 := blk_frozen hT9 2
        have l3 := blk_frozen hT9 3
        have l4 := blk_frozen hT9 4
        have H9' := Aside0.mk (And.intro hT9 hw9)
        clear hB9 hT9 hw9
        refine start_ (n := 7) (S := (fun w' => w'.cell? ⟨b, 8, none⟩ = some (.int .i64 now) ∧ w'.cell? ⟨B, 0, none⟩ = some (.int .i64 now) ∧ w'.cell? ⟨B, 1, none⟩ = some (.int .i64 n0) ∧ w'.cell? ⟨B, 2, none⟩ = some (.int .i64 fl) ∧ w'.cell? ⟨B, 3, none⟩ = some (.int .i64 plan) ∧ w'.cell? ⟨B, 4, none⟩ = some (.int .i64 ca))) (ds := []) #[false, false, false, false, false, false, false] (by kernel_rfl) rfl rfl ⟨g8, j0, j1, j2, j3, j4⟩ (fun hHeld => ?_)
        refine pure_ (i := 1) (N := some 65) (v := ?_) (a' := ?_) #[false, true, false, false, false, false, false] rfl rfl (by kernel_rfl) (fun _ _ _ h => h) (Or.inl ⟨by rfl, ?_⟩) ?_ ?_
        rotate_left
        · intro w'
          go_simp
          with_reducible rfl
        rotate_left
        · simp only [Act.put, List.setIfInBounds_toArray, List.set_cons_zero, List.set_cons_succ, i64_w, i32_w]
          rfl
        refine pure_ (i := 2) (N := some 66) (v := ?_) (a' := ?_) #[false, true, true, false, false, false, false] rfl rfl (by kernel_rfl) (fun _ _ _ h => h) (Or.inl ⟨by rfl, ?_⟩) ?_ ?_
        rotate_left
        · intro w'
          go_simp
          with_reducible rfl
        rotate_left
        · simp only [Act.put, List.setIfInBounds_toArray, List.set_cons_zero, List.set_cons_succ, i64_w, i32_w]
          rfl
        refine pure_ (i := 3) (N := some 67) (v := ?_) (a' := ?_) #[false, true, true, true, false, false, false] rfl rfl (by kernel_rfl) (fun _ _ _ h => h) (Or.inl ⟨by rfl, ?_⟩) ?_ ?_
        rotate_left
        · intro w'
          go_simp
          with_reducible rfl
        rotate_left
        · simp only [Act.put, List.setIfInBounds_toArray, List.set_cons_zero, List.set_cons_succ, i64_w, i32_w]
          rfl
        refine take_ (i := 0) (N := some 64) (v := ?_) (a' := ?_) #[true, true, true, true, false, false, false] rfl rfl (by kernel_rfl) (fun _ _ _ h => h) (Or.inl ⟨by rfl, ?_⟩) hHeld ?_ ?_
        rotate_left
        · rintro w' ⟨s0, s1, s2, s3, s4, s5⟩
          go_simp
          with_reducible rfl
        rotate_left
        · simp only [Act.put, List.setIfInBounds_toArray, List.set_cons_zero, List.set_cons_succ, i64_w, i32_w]
          rfl
        refine take_ (i := 4) (N := some 68) (v := ?_) (a' := ?_) #[true, true, true, true, true, false, false] rfl rfl (by kernel_rfl) (fun _ _ _ h => h) (Or.inl ⟨by rfl, ?_⟩) hHeld ?_ ?_
        rotate_left
        · rintro w' ⟨s0, s1, s2, s3, s4, s5⟩
          go_simp
          with_reducible rfl
        rotate_left
        · simp only [Act.put, List.setIfInBounds_toArray, List.set_cons_zero, List.set_cons_succ, i64_w, i32_w]
          rfl
        refine one_ (i := 5) (N := none) #[true, true, true, true, true, true, false] rfl rfl (by kernel_rfl) (by decide) (fun K hK => ?_)
        refine skip_ (w1 := (set5 w9 w.heap.size now n0 fl plan ca).drew) (by rfl) rfl (by unfold set5; first | (go_simp; done) | (go_simp; with_reducible rfl)) ?_
        refine hK.out _ _ ⟨set5_far' hHeld.1 hbT _ _ _ _ _, set5_far' hHeld.2.1 hBT _ _ _ _ _, set5_far' hHeld.2.2.1 hBT _ _ _ _ _, set5_far' hHeld.2.2.2.1 hBT _ _ _ _ _, set5_far' hHeld.2.2.2.2.1 hBT _ _ _ _ _, set5_far' hHeld.2.2.2.2.2 hBT _ _ _ _ _⟩ (fun hHeld => ?_)
        clear hK K
        refine pure_ (i := 6) (N := some 3) (v := ?_) (a' := ?_) #[true, true, true, true, true, true, true] rfl rfl (by kernel_rfl) (fun _ _ _ h => h) (Or.inl ⟨by rfl, ?_⟩) ?_ ?_
        rotate_left
        · intro w'
          go_simp
          with_reducible rfl
        rotate_left
        · simp only [Act.put, List.setIfInBounds_toArray, List.set_cons_zero, List.set_cons_succ, i64_w, i32_w]
          rfl
        refine done_ (by kernel_rfl) ?_
        have hfin : (set5 w9 w.heap.size now n0 fl plan ca).drew.heap[w.heap.size]? = some (.cells #[.int .i64 now, .int .i64 n0, .int .i64 fl, .int .i64 plan, .int .i64 ca] 68 (0, 0)) := blk_drew (set5_blk H9'.out.1 now n0 fl plan ca)
        have hfb : Below w.heap.size w (set5 w9 w.heap.size now n0 fl plan ca).drew := below_drew (set5_below H9'.out.2 (Nat.le_refl _) _ _ _ _ _)
        obtain ⟨Z, hZ⟩ : ∃ Z, (set5 w9 w.heap.size now n0 fl plan ca).drew = Z := ⟨_, rfl⟩
        rw [hZ] at hfin hfb ⊢
        have p0 := blk_cell hfin 0
        have p1 := blk_cell hfin 1
        have p2 := blk_cell hfin 2
        have p3 := blk_cell hfin 3
        have p4 := blk_cell hfin 4
        simp only [List.getElem?_toArray, List.getElem?_cons_zero, List.getElem?_cons_succ] at p0 p1 p2 p3 p4
        have HFB := Aside0.mk hfb
        clear hfin hfb hZ hHeld
        go_wp2
        refine bodyPost_ret (v := .tuple #[.agg #[.int .i64 now, .int .i64 n0, .int .i64 fl, .int .i64 plan, .int .i64 ca], .int .i64 now]) (by simp [results, Try.results84, go_sem, p0, p1, p2, p3, p4]) rfl ?_
        exact ⟨rfl, HFB.out⟩
    rw [if_pos ⟨g1, g2, g3⟩] at hrr
    subst hrr
    have KR1 : Aside0 (∀ W, DrAt W b d A l.length c → Calls Try.prog 122 #[.pointer (some ⟨b, 0, none⟩)] W fun e w' => e = .returned (.bool true) ∧ Drawn0 W w') := ⟨fun W h => by
      have := KRe.out W h
      rwa [decide_eq_true g3] at this⟩
    clear g2 g3
    by_cases g4 : old = pr
    · rw [if_neg (fun h => h.elim (fun h => h g1) (fun h => h g4))] at hchg
      subst hchg
      have c8 : (old == pr) = true := by simp [g4]
      have c8' : (old != pr) = false := by simp [g4]
      have c8'' : (old = pr) = True := eq_true g4
      clear g1 g4 KSo KRe
      go_wp2_with (first | (go_at_call 120; (with_reducible refine (KB2.out _ (HDV.out.below (pw_below_drewN (Below.refl _ _) _))).mono ?_); rintro e w' ⟨rfl, ⟨nd, rfl⟩⟩) | (go_at_call 121; (with_reducible refine (KS1.out _ (HDV.out.below (pw_below_drewN (Below.refl _ _) _))).mono ?_); rintro e w' ⟨rfl, ⟨nd, rfl⟩⟩) | (go_at_call 121; (with_reducible refine (KS1.out _ (DrAt.set (HDV.out.below (pw_below_drewN (Below.refl _ _) _)) hbB)).mono ?_); rintro e w9 ⟨rfl, hD9⟩; have H9 := Aside0.mk (key9 hD9 HDV.out HV.out.2.1 HV.out.2.2 hbB hTB HV.out.1 hwB); clear hD9; have g12 : w9.cell? ⟨b, 12, none⟩ = some (.int .i64 pr) := HE.out.2.2.1 ▸ H9.out.1.at 12 (.int .i64 d.prev.rep) rfl) | (go_at_call 122; (with_reducible refine (KR1.out _ (HDV.out.below (pw_below_drewN (Below.refl _ _) _))).mono ?_); rintro e w' ⟨rfl, ⟨nd, rfl⟩⟩))
      have g16 : w9.cell? ⟨b, 16, none⟩ = some (.int .i64 chd) := HE.out.2.2.2 ▸ H9.out.1.at 16 (.int .i64 d.changed) rfl
      obtain ⟨_, hB9, hT9, hw9⟩ := H9.out
      have j0 := blk_cell hB9 0
      have j1 := blk_cell hB9 1
      have j2 := blk_cell hB9 2
      have j3 := blk_cell hB9 3
      have j4 := blk_cell hB9 4
      simp only [List.getElem?_toArray, List.getElem?_cons_zero, List.getElem?_cons_succ] at j0 j1 j2 j3 j4
      have k0 := blk_cell hT9 0
      have k1 := blk_cell hT9 1
      have k2 := blk_cell hT9 2
      have k3 := blk_cell hT9 3
      have k4 := blk_cell hT9 4
      simp only [zeroC, List.getElem?_toArray, List.getElem?_cons_zero, List.getElem?_cons_succ] at k0 k1 k2 k3 k4
      have l0 := blk_frozen hT9 0
      have l1 := blk_frozen hT9 1
      have l2 := blk_frozen hT9 2
      have l3 := blk_frozen hT9 3
      have l4 := blk_frozen hT9 4
      have H9' := Aside0.mk (And.intro hT9 hw9)
      clear hB9 hT9 hw9
      refine start_ (n := 7) (S := (fun w' => w'.cell? ⟨b, 16, none⟩ = some (.int .i64 chd) ∧ w'.cell? ⟨B, 0, none⟩ = some (.int .i64 now) ∧ w'.cell? ⟨B, 1, none⟩ = some (.int .i64 old) ∧ w'.cell? ⟨B, 2, none⟩ = some (.int .i64 fl) ∧ w'.cell? ⟨B, 3, none⟩ = some (.int .i64 plan) ∧ w'.cell? ⟨B, 4, none⟩ = some (.int .i64 ca))) (ds := []) #[false, false, false, false, false, false, false] (by kernel_rfl) rfl rfl ⟨g16, j0, j1, j2, j3, j4⟩ (fun hHeld => ?_)
      refine pure_ (i := 1) (N := some 70) (v := ?_) (a' := ?_) #[false, true, false, false, false, false, false] rfl rfl (by kernel_rfl) (fun _ _ _ h => h) (Or.inl ⟨by rfl, ?_⟩) ?_ ?_
      rotate_left
      · intro w'
        go_simp
        with_reducible rfl
      rotate_left
      · simp only [Act.put, List.setIfInBounds_toArray, List.set_cons_zero, List.set_cons_succ, i64_w, i32_w]
        rfl
      refine pure_ (i := 2) (N := some 71) (v := ?_) (a' := ?_) #[false, true, true, false, false, false, false] rfl rfl (by kernel_rfl) (fun _ _ _ h => h) (Or.inl ⟨by rfl, ?_⟩) ?_ ?_
      rotate_left
      · intro w'
        go_simp
        with_reducible rfl
      rotate_left
      · simp only [Act.put, List.setIfInBounds_toArray, List.set_cons_zero, List.set_cons_succ, i64_w, i32_w]
        rfl
      refine pure_ (i := 3) (N := some 72) (v := ?_) (a' := ?_) #[false, true, true, true, false, false, false] rfl rfl (by kernel_rfl) (fun _ _ _ h => h) (Or.inl ⟨by rfl, ?_⟩) ?_ ?_
      rotate_left
      · intro w'
        go_simp
        with_reducible rfl
      rotate_left
      · simp only [Act.put, List.setIfInBounds_toArray, List.set_cons_zero, List.set_cons_succ, i64_w, i32_w]
        rfl
      refine take_ (i := 0) (N := some 69) (v := ?_) (a' := ?_) #[true, true, true, true, false, false, false] rfl rfl (by kernel_rfl) (fun _ _ _ h => h) (Or.inl ⟨by rfl, ?_⟩) hHeld ?_ ?_
      rotate_left
      · rintro w' ⟨s0, s1, s2, s3, s4, s5⟩
        go_simp
        with_reducible rfl
      rotate_left
      · simp only [Act.put, List.setIfInBounds_toArray, List.set_cons_zero, List.set_cons_succ, i64_w, i32_w]
        rfl
      refine take_ (i := 4) (N := some 73) (v := ?_) (a' := ?_) #[true, true, true, true, true, false, false] rfl rfl (by kernel_rfl) (fun _ _ _ h => h) (Or.inl ⟨by rfl, ?_⟩) hHeld ?_ ?_
      rotate_left
      · rintro w' ⟨s0, s1, s2, s3, s4, s5⟩
        go_simp
        with_reducible rfl
      rotate_left
      · simp only [Act.put, List.setIfInBounds_toArray, List.set_cons_zero, List.set_cons_succ, i64_w, i32_w]
        rfl
      refine one_ (i := 5) (N := none) #[true, true, true, true, true, true, false] rfl rfl (by kernel_rfl) (by decide) (fun K hK => ?_)
      refine skip_ (w1 := (set5 w9 w.heap.size now old fl plan ca).drew) (by rfl) rfl (by unfold set5; first | (go_simp; done) | (go_simp; with_reducible rfl)) ?_
      refine hK.out _ _ ⟨set5_far' hHeld.1 hbT _ _ _ _ _, set5_far' hHeld.2.1 hBT _ _ _ _ _, set5_far' hHeld.2.2.1 hBT _ _ _ _ _, set5_far' hHeld.2.2.2.1 hBT _ _ _ _ _, set5_far' hHeld.2.2.2.2.1 hBT _ _ _ _ _, set5_far' hHeld.2.2.2.2.2 hBT _ _ _ _ _⟩ (fun hHeld => ?_)
      clear hK K
      refine pure_ (i := 6) (N := some 3) (v := ?_) (a' := ?_) #[true, true, true, true, true, true, true] rfl rfl (by kernel_rfl) (fun _ _ _ h => h) (Or.inl ⟨by rfl, ?_⟩) ?_ ?_
      rotate_left
      · intro w'
        go_simp
        with_reducible rfl
      rotate_left
      · simp only [Act.put, List.setIfInBounds_toArray, List.set_cons_zero, List.set_cons_succ, i64_w, i32_w]
        rfl
      refine done_ (by kernel_rfl) ?_
      have hfin : (set5 w9 w.heap.size now old fl plan ca).drew.heap[w.heap.size]? = some (.cells #[.int .i64 now, .int .i64 old, .int .i64 fl, .int .i64 plan, .int .i64 ca] 68 (0, 0)) := blk_drew (set5_blk H9'.out.1 now old fl plan ca)
      have hfb : Below w.heap.size w (set5 w9 w.heap.size now old fl plan ca).drew := below_drew (set5_below H9'.out.2 (Nat.le_refl _) _ _ _ _ _)
      obtain ⟨Z, hZ⟩ : ∃ Z, (set5 w9 w.heap.size now old fl plan ca).drew = Z := ⟨_, rfl⟩
      rw [hZ] at hfin hfb ⊢
      have p0 := blk_cell hfin 0
      have p1 := blk_cell hfin 1
      have p2 := blk_cell hfin 2
      have p3 := blk_cell hfin 3
      have p4 := blk_cell hfin 4
      simp only [List.getElem?_toArray, List.getElem?_cons_zero, List.getElem?_cons_succ] at p0 p1 p2 p3 p4
      have HFB := Aside0.mk hfb
      clear hfin hfb hZ hHeld
      go_wp2
      refine bodyPost_ret (v := .tuple #[.agg #[.int .i64 now, .int .i64 old, .int .i64 fl, .int .i64 plan, .int .i64 ca], .int .i64 chd]) (by simp [results, Try.results84, go_sem, p0, p1, p2, p3, p4]) rfl ?_
      exact ⟨rfl, HFB.out⟩
    · rw [if_pos (.inr g4)] at hchg
      subst hchg
      have c8 : (old == pr) = false := by simp [g4]
      have c8' : (old != pr) = true := by simp [g4]
      have c8'' : (old = pr) = False := eq_false g4
      clear g1 g4 KSo KRe
      go_wp2_with (first | (go_at_call 120; (with_reducible refine (KB2.out _ (HDV.out.below (pw_below_drewN (Below.refl _ _) _))).mono ?_); rintro e w' ⟨rfl, ⟨nd, rfl⟩⟩) | (go_at_call 121; (with_reducible refine (KS1.out _ (HDV.out.below (pw_below_drewN (Below.refl _ _) _))).mono ?_); rintro e w' ⟨rfl, ⟨nd, rfl⟩⟩) | (go_at_call 121; (with_reducible refine (KS1.out _ (DrAt.set (HDV.out.below (pw_below_drewN (Below.refl _ _) _)) hbB)).mono ?_); rintro e w9 ⟨rfl, hD9⟩; have H9 := Aside0.mk (key9 hD9 HDV.out HV.out.2.1 HV.out.2.2 hbB hTB HV.out.1 hwB); clear hD9; have g12 : w9.cell? ⟨b, 12, none⟩ = some (.int .i64 pr) := HE.out.2.2.1 ▸ H9.out.1.at 12 (.int .i64 d.prev.rep) rfl) | (go_at_call 122; (with_reducible refine (KR1.out _ (HDV.out.below (pw_below_drewN (Below.refl _ _) _))).mono ?_); rintro e w' ⟨rfl, ⟨nd, rfl⟩⟩))
      have g8 : w9.cell? ⟨b, 8, none⟩ = some (.int .i64 now) := HE.out.1 ▸ H9.out.1.at 8 (.int .i64 d.now) rfl
      obtain ⟨_, hB9, hT9, hw9⟩ := H9.out
      have j0 := blk_cell hB9 0
      have j1 := blk_cell hB9 1
      have j2 := blk_cell hB9 2
      have j3 := blk_cell hB9 3
      have j4 := blk_cell hB9 4
      simp only [List.getElem?_toArray, List.getElem?_cons_zero, List.getElem?_cons_succ] at j0 j1 j2 j3 j4
      have k0 := blk_cell hT9 0
      have k1 := blk_cell hT9 1
      have k2 := blk_cell hT9 2
      have k3 := blk_cell hT9 3
      have k4 := blk_cell hT9 4
      simp only [zeroC, List.getElem?_toArray, List.getElem?_cons_zero, List.getElem?_cons_succ] at k0 k1 k2 k3 k4
      have l0 := blk_frozen hT9 0
      have l1 := blk_frozen hT9 1
      have l2 := blk_frozen hT9 2
      have l3 := blk_frozen hT9 3
      have l4 := blk_frozen hT9 4
      have H9' := Aside0.mk (And.intro hT9 hw9)
      clear hB9 hT9 hw9
      refine start_ (n := 7) (S := (fun w' => w'.cell? ⟨b, 8, none⟩ = some (.int .i64 now) ∧ w'.cell? ⟨B, 0, none⟩ = some (.int .i64 now) ∧ w'.cell? ⟨B, 1, none⟩ = some (.int .i64 old) ∧ w'.cell? ⟨B, 2, none⟩ = some (.int .i64 fl) ∧ w'.cell? ⟨B, 3, none⟩ = some (.int .i64 plan) ∧ w'.cell? ⟨B, 4, none⟩ = some (.int .i64 ca))) (ds := []) #[false, false, false, false, false, false, false] (by kernel_rfl) rfl rfl ⟨g8, j0, j1, j2, j3, j4⟩ (fun hHeld => ?_)
      refine pure_ (i := 1) (N := some 65) (v := ?_) (a' := ?_) #[false, true, false, false, false, false, false] rfl rfl (by kernel_rfl) (fun _ _ _ h => h) (Or.inl ⟨by rfl, ?_⟩) ?_ ?_
      rotate_left
      · intro w'
        go_simp
        with_reducible rfl
      rotate_left
      · simp only [Act.put, List.setIfInBounds_toArray, List.set_cons_zero, List.set_cons_succ, i64_w, i32_w]
        rfl
      refine pure_ (i := 2) (N := some 66) (v := ?_) (a' := ?_) #[false, true, true, false, false, false, false] rfl rfl (by kernel_rfl) (fun _ _ _ h => h) (Or.inl ⟨by rfl, ?_⟩) ?_ ?_
      rotate_left
      · intro w'
        go_simp
        with_reducible rfl
      rotate_left
      · simp only [Act.put, List.setIfInBounds_toArray, List.set_cons_zero, List.set_cons_succ, i64_w, i32_w]
        rfl
      refine pure_ (i := 3) (N := some 67) (v := ?_) (a' := ?_) #[false, true, true, true, false, false, false] rfl rfl (by kernel_rfl) (fun _ _ _ h => h) (Or.inl ⟨by rfl, ?_⟩) ?_ ?_
      rotate_left
      · intro w'
        go_simp
        with_reducible rfl
      rotate_left
      · simp only [Act.put, List.setIfInBounds_toArray, List.set_cons_zero, List.set_cons_succ, i64_w, i32_w]
        rfl
      refine take_ (i := 0) (N := some 64) (v := ?_) (a' := ?_) #[true, true, true, true, false, false, false] rfl rfl (by kernel_rfl) (fun _ _ _ h => h) (Or.inl ⟨by rfl, ?_⟩) hHeld ?_ ?_
      rotate_left
      · rintro w' ⟨s0, s1, s2, s3, s4, s5⟩
        go_simp
        with_reducible rfl
      rotate_left
      · simp only [Act.put, List.setIfInBounds_toArray, List.set_cons_zero, List.set_cons_succ, i64_w, i32_w]
        rfl
      refine take_ (i := 4) (N := some 68) (v := ?_) (a' := ?_) #[true, true, true, true, true, false, false] rfl rfl (by kernel_rfl) (fun _ _ _ h => h) (Or.inl ⟨by rfl, ?_⟩) hHeld ?_ ?_
      rotate_left
      · rintro w' ⟨s0, s1, s2, s3, s4, s5⟩
        go_simp
        with_reducible rfl
      rotate_left
      · simp only [Act.put, List.setIfInBounds_toArray, List.set_cons_zero, List.set_cons_succ, i64_w, i32_w]
        rfl
      refine one_ (i := 5) (N := none) #[true, true, true, true, true, true, false] rfl rfl (by kernel_rfl) (by decide) (fun K hK => ?_)
      refine skip_ (w1 := (set5 w9 w.heap.size now old fl plan ca).drew) (by rfl) rfl (by unfold set5; first | (go_simp; done) | (go_simp; with_reducible rfl)) ?_
      refine hK.out _ _ ⟨set5_far' hHeld.1 hbT _ _ _ _ _, set5_far' hHeld.2.1 hBT _ _ _ _ _, set5_far' hHeld.2.2.1 hBT _ _ _ _ _, set5_far' hHeld.2.2.2.1 hBT _ _ _ _ _, set5_far' hHeld.2.2.2.2.1 hBT _ _ _ _ _, set5_far' hHeld.2.2.2.2.2 hBT _ _ _ _ _⟩ (fun hHeld => ?_)
      clear hK K
      refine pure_ (i := 6) (N := some 3) (v := ?_) (a' := ?_) #[true, true, true, true, true, true, true] rfl rfl (by kernel_rfl) (fun _ _ _ h => h) (Or.inl ⟨by rfl, ?_⟩) ?_ ?_
      rotate_left
      · intro w'
        go_simp
        with_reducible rfl
      rotate_left
      · simp only [Act.put, List.setIfInBounds_toArray, List.set_cons_zero, List.set_cons_succ, i64_w, i32_w]
        rfl
      refine done_ (by kernel_rfl) ?_
      have hfin : (set5 w9 w.heap.size now old fl plan ca).drew.heap[w.heap.size]? = some (.cells #[.int .i64 now, .int .i64 old, .int .i64 fl, .int .i64 plan, .int .i64 ca] 68 (0, 0)) := blk_drew (set5_blk H9'.out.1 now old fl plan ca)
      have hfb : Below w.heap.size w (set5 w9 w.heap.size now old fl plan ca).drew := below_drew (set5_below H9'.out.2 (Nat.le_refl _) _ _ _ _ _)
      obtain ⟨Z, hZ⟩ : ∃ Z, (set5 w9 w.heap.size now old fl plan ca).drew = Z := ⟨_, rfl⟩
      rw [hZ] at hfin hfb ⊢
      have p0 := blk_cell hfin 0
      have p1 := blk_cell hfin 1
      have p2 := blk_cell hfin 2
      have p3 := blk_cell hfin 3
      have p4 := blk_cell hfin 4
      simp only [List.getElem?_toArray, List.getElem?_cons_zero, List.getElem?_cons_succ] at p0 p1 p2 p3 p4
      have HFB := Aside0.mk hfb
      clear hfin hfb hZ hHeld
      go_wp2
      refine bodyPost_ret (v := .tuple #[.agg #[.int .i64 now, .int .i64 old, .int .i64 fl, .int .i64 plan, .int .i64 ca], .int .i64 now]) (by simp [results, Try.results84, go_sem, p0, p1, p2, p3, p4]) rfl ?_
      exact ⟨rfl, HFB.out⟩
end Go.Proofs.Ytemnfnbjapobcaa.Ho
end
section
namespace Go.Proofs.Ytemnfnbjapobcaa.PS
open Go.Proofs.Ytemnfnbjapobcaa.Pr Go.Proofs.Ytemnfnbjapobcaa.Ho
def dec0 : Dec := ⟨0, 0, 0, 0, 0⟩
def decideP (p : Pol) (now : Int) (load : List S70) (plan : Int) (prev : Dec) (changed : Int) : Dec × Int × Int :=
  if ¬ okP p then (dec0, 0, 31) else if timedB now = false then (dec0, 0, 21) else if RS.ris load 0 load.length = false then (dec0, 0, 21)
  else (decD ⟨p, now, plan, prev, changed⟩ (load.take (untilN load now)), chgD ⟨p, now, plan, prev, changed⟩ (load.take (untilN load now)), 0)
end Go.Proofs.Ytemnfnbjapobcaa.PS
namespace Go.Proofs.Ytemnfnbjapobcaa.Ho
open Go.RowKit Go.Proofs.YtemnfnbjapobcaaW.PrintWords Go.Proofs.YtemnfnbjapobcaaW.PrintLast Go.Proofs.YtemnfnbjapobcaaW.PrintMore
open Go.Proofs.Ytemnfnbjapobcaa.FS Go.Proofs.Ytemnfnbjapobcaa.HS Go.Proofs.Ytemnfnbjapobcaa.FM Go.Proofs.Ytemnfnbjapobcaa.PS Go.Proofs.Ytemnfnbjapobcaa.Pr
set_option linter.unusedVariables false
set_option linter.unusedSimpArgs false
def polCells (p : Pol) : Array Value := #[.int .i64 p.mn, .int .i64 p.mx, .int .i64 p.per, .int .i64 p.stale, .int .i64 p.step, .int .i64 p.ahead, .int .i64 p.cool, .int .i64 p.season]
def Env (s : Nat) (p : Pol) (prev : Dec) (W : World) : Prop := W.heap[s]? = some (.cells (polCells p) 65 (0, 0)) ∧ W.heap[s + 1]? = some (.cells (decCells prev) 68 (0, 0)) ∧ W.heap[s + 2]? = some (.cells zeroC 68 (0, 0))
theorem Env.below {s : Nat} {p : Pol} {prev : Dec} {W W' : World} (h : Env s p prev W) (hb : Below W.heap.size W W') : Env s p prev W' := ⟨blk_below h.1 hb, blk_below h.2.1 hb, blk_below h.2.2 hb⟩
theorem env0 (w : World) (p : Pol) (prev : Dec) : Env w.heap.size p prev (((w.alloc (.cells (polCells p) 65)).alloc (.cells (decCells prev) 68)).alloc (.cells zeroC 68)) := by
  refine ⟨blk_alloc (blk_alloc (blk_new w _) _) _, ?_, ?_⟩
  · have := blk_new (w.alloc (.cells (polCells p) 65)) (.cells (decCells prev) 68)
    rw [size_alloc_] at this
    exact blk_alloc this _
  · have := blk_new ((w.alloc (.cells (polCells p) 65)).alloc (.cells (decCells prev) 68)) (.cells zeroC 68)
    rw [size_alloc_, size_alloc_] at this
    exact this
theorem take_C {W : World} {A : Option Addr} {l : List S70} {c : Nat} (h : Kd.C k70 W A l.length l) (n : Nat) (hn : n ≤ l.length) : Kd.C k70 W A (l.take n).length (l.take n) := by
  rw [List.length_take, Nat.min_eq_left hn]
  have := Kd.C_take h (m := n) hn
  rwa [List.length_take, Nat.min_eq_left hn] at this
set_option maxRecDepth 100000 in
set_option maxHeartbeats 8000000 in
theorem pdecide_calls (HS : Aside0 SeasonMiss) (HC : Aside0 SeasonCast) (p : Pol) (now : Int) (A : Option Addr) (c : Nat) (load : List S70) (plan : Int) (prev : Dec) (changed : Int) (w : World) (hr : Kd.C k70 w A load.length load) (hc : load.length ≤ c) (hs : sIn load) (hper : FS.In p.per) (hch : FS.In changed) (hl : load.length ≤ 1152921504606846976) :
    Calls Try.prog 49 #[polV p, .int .i64 now, .slice A load.length c, .int .i64 plan, decV prev, .int .i64 changed] w fun e w' => e = .returned (.tuple #[decV (decideP p now load plan prev changed).1, .int .i64 (decideP p now load plan prev changed).2.1, .int .i64 (decideP p now load plan prev changed).2.2]) ∧ Below w.heap.size w w' := by
  have HR := Aside0.mk hr
  clear hr
  obtain ⟨res, hres⟩ : ∃ x, decideP p now load plan prev changed = x := ⟨_, rfl⟩
  rw [hres]
  unfold decideP at hres
  have KC := Aside0.mk (fun W => pcheck_calls p W)
  have E0 := Aside0.mk (env0 w p prev)
  have hb0 : Below w.heap.size w (((w.alloc (.cells (polCells p) 65)).alloc (.cells (decCells prev) 68)).alloc (.cells zeroC 68)) := below_alloc (below_alloc (below_alloc (Below.refl _ _) _) _) _
  have HB0 := Aside0.mk hb0
  clear hb0
  have KT := Aside0.mk (fun W => ptimed_calls now W)
  have KR := Aside0.mk (fun W (h : Kd.C k70 W A load.length load) => rising_calls A c load W h hc hl)
  by_cases g1 : okP p
  rotate_left
  · rw [if_pos g1] at hres
    subst hres
    have c0 : checkP p = 31 := if_neg g1
    rw [c0] at KC
    clear g1 KT KR
    obtain ⟨mn, mx, per, stale, step, ahead, cool, season⟩ := p
    obtain ⟨pt, pr, pf, pp, pc⟩ := prev
    dsimp only [polV, decV, polCells, decCells, zeroC] at *
    clear c0
    go_enter Try.func49, Try.ntmps49
    go_wp2_with ((go_at_call 48; (with_reducible refine (KC.out _).mono ?_); rintro e w1 ⟨rfl, hb⟩; have E1 := Aside0.mk (Env.below E0.out hb); have HB1 := Aside0.mk (HB0.out.trans (hb.mono (HB0.out).size)); clear hb; have k0 := blk_cell E1.out.2.2 0; have k1 := blk_cell E1.out.2.2 1; have k2 := blk_cell E1.out.2.2 2; have k3 := blk_cell E1.out.2.2 3; have k4 := blk_cell E1.out.2.2 4; simp only [zeroC, List.getElem?_toArray, List.getElem?_cons_zero, List.getElem?_cons_succ] at k0 k1 k2 k3 k4; have l0 := blk_frozen E1.out.2.2 0; have l1 := blk_frozen E1.out.2.2 1; have l2 := blk_frozen E1.out.2.2 2; have l3 := blk_frozen E1.out.2.2 3; have l4 := blk_frozen E1.out.2.2 4))
    have hfin := set5_blk (W := w1) E1.out.2.2 0 0 0 0 0
    have hfb := set5_below HB1.out (Nat.le_add_right _ 2) 0 0 0 0 0
    unfold set5 at hfin hfb
    have p0 := blk_cell hfin 0
    have p1 := blk_cell hfin 1
    have p2 := blk_cell hfin 2
    have p3 := blk_cell hfin 3
    have p4 := blk_cell hfin 4
    simp only [List.getElem?_toArray, List.getElem?_cons_zero, List.getElem?_cons_succ] at p0 p1 p2 p3 p4
    refine bodyPost_ret (v := .tuple #[.agg #[.int .i64 0, .int .i64 0, .int .i64 0, .int .i64 0, .int .i64 0], .int .i64 0, .int .i64 31]) (by simp [results, Try.results49, go_sem, p0, p1, p2, p3, p4]) rfl ?_
    exact ⟨rfl, hfb⟩
  rw [if_neg (fun h => h g1)] at hres
  have c0 : checkP p = 0 := if_pos g1
  rw [c0] at KC
  clear c0
  by_cases g2 : timedB now = false
  · rw [if_pos g2] at hres
    subst hres
    rw [g2] at KT
    clear g1 g2 KR
    obtain ⟨mn, mx, per, stale, step, ahead, cool, season⟩ := p
    obtain ⟨pt, pr, pf, pp, pc⟩ := prev
    dsimp only [polV, decV, polCells, decCells, zeroC] at *
    go_enter Try.func49, Try.ntmps49
    go_wp2_with (first | (go_at_call 48; (with_reducible refine (KC.out _).mono ?_); rintro e w1 ⟨rfl, hb⟩; have E1 := Aside0.mk (Env.below E0.out hb); have HB1 := Aside0.mk (HB0.out.trans (hb.mono (HB0.out).size)); clear hb; skip) | (go_at_call 81; (with_reducible refine (KT.out _).mono ?_); rintro e w2 ⟨rfl, hb⟩; have E2 := Aside0.mk (Env.below E1.out hb.below); have HB2 := Aside0.mk (HB1.out.trans (hb.below.mono HB1.out.size)); clear hb; have k0 := blk_cell E2.out.2.2 0; have k1 := blk_cell E2.out.2.2 1; have k2 := blk_cell E2.out.2.2 2; have k3 := blk_cell E2.out.2.2 3; have k4 := blk_cell E2.out.2.2 4; simp only [zeroC, List.getElem?_toArray, List.getElem?_cons_zero, List.getElem?_cons_succ] at k0 k1 k2 k3 k4; have l0 := blk_frozen E2.out.2.2 0; have l1 := blk_frozen E2.out.2.2 1; have l2 := blk_frozen E2.out.2.2 2; have l3 := blk_frozen E2.out.2.2 3; have l4 := blk_frozen E2.out.2.2 4))
    have hfin := set5_blk (W := w2) E2.out.2.2 0 0 0 0 0
    have hfb := set5_below HB2.out (Nat.le_add_right _ 2) 0 0 0 0 0
    unfold set5 at hfin hfb
    have p0 := blk_cell hfin 0
    have p1 := blk_cell hfin 1
    have p2 := blk_cell hfin 2
    have p3 := blk_cell hfin 3
    have p4 := blk_cell hfin 4
    simp only [List.getElem?_toArray, List.getElem?_cons_zero, List.getElem?_cons_succ] at p0 p1 p2 p3 p4
    refine bodyPost_ret (v := .tuple #[.agg #[.int .i64 0, .int .i64 0, .int .i64 0, .int .i64 0, .int .i64 0], .int .i64 0, .int .i64 21]) (by simp [results, Try.results49, go_sem, p0, p1, p2, p3, p4]) rfl ?_
    exact ⟨rfl, hfb⟩
  have g2' : timedB now = true := by simpa using g2
  rw [if_neg g2] at hres
  rw [g2'] at KT
  by_cases g3 : RS.ris load 0 load.length = false
  · rw [if_pos g3] at hres
    subst hres
    rw [g3] at KR
    simp only [Bool.false_eq_true, if_false] at KR
    clear g1 g2 g2' g3
    obtain ⟨mn, mx, per, stale, step, ahead, cool, season⟩ := p
    obtain ⟨pt, pr, pf, pp, pc⟩ := prev
    dsimp only [polV, decV, polCells, decCells, zeroC] at *
    go_enter Try.func49, Try.ntmps49
    go_wp2_with (first | (go_at_call 48; (with_reducible refine (KC.out _).mono ?_); rintro e w1 ⟨rfl, hb⟩; have E1 := Aside0.mk (Env.below E0.out hb); have HB1 := Aside0.mk (HB0.out.trans (hb.mono (HB0.out).size)); clear hb; skip) | (go_at_call 81; (with_reducible refine (KT.out _).mono ?_); rintro e w2 ⟨rfl, hb⟩; have E2 := Aside0.mk (Env.below E1.out hb.below); have HB2 := Aside0.mk (HB1.out.trans (hb.below.mono HB1.out.size)); clear hb; skip) | (go_at_call 82; (with_reducible refine (KR.out _ (Kd.C_below HR.out HB2.out)).mono ?_); rintro e w3 ⟨rfl, hb⟩; have E3 := Aside0.mk (Env.below E2.out hb); have HB3 := Aside0.mk (HB2.out.trans (hb.mono HB2.out.size)); clear hb; have k0 := blk_cell E3.out.2.2 0; have k1 := blk_cell E3.out.2.2 1; have k2 := blk_cell E3.out.2.2 2; have k3 := blk_cell E3.out.2.2 3; have k4 := blk_cell E3.out.2.2 4; simp only [zeroC, List.getElem?_toArray, List.getElem?_cons_zero, List.getElem?_cons_succ] at k0 k1 k2 k3 k4; have l0 := blk_frozen E3.out.2.2 0; have l1 := blk_frozen E3.out.2.2 1; have l2 := blk_frozen E3.out.2.2 2; have l3 := blk_frozen E3.out.2.2 3; have l4 := blk_frozen E3.out.2.2 4))
    have hfin := set5_blk (W := w3) E3.out.2.2 0 0 0 0 0
    have hfb := set5_below HB3.out (Nat.le_add_right _ 2) 0 0 0 0 0
    unfold set5 at hfin hfb
    have p0 := blk_cell hfin 0
    have p1 := blk_cell hfin 1
    have p2 := blk_cell hfin 2
    have p3 := blk_cell hfin 3
    have p4 := blk_cell hfin 4
    simp only [List.getElem?_toArray, List.getElem?_cons_zero, List.getElem?_cons_succ] at p0 p1 p2 p3 p4
    refine bodyPost_ret (v := .tuple #[.agg #[.int .i64 0, .int .i64 0, .int .i64 0, .int .i64 0, .int .i64 0], .int .i64 0, .int .i64 21]) (by simp [results, Try.results49, go_sem, p0, p1, p2, p3, p4]) rfl ?_
    exact ⟨rfl, hfb⟩
  have g3' : RS.ris load 0 load.length = true := by simpa using g3
  rw [if_neg g3] at hres
  rw [g3'] at KR
  simp only [if_true] at KR
  obtain ⟨hn0, hn1⟩ : -4503599627370496 ≤ now ∧ now ≤ 4503599627370496 := by simpa [timedB] using g2'
  have hu := until_le load now
  have KU := Aside0.mk (fun W (h : Kd.C k70 W A load.length load) => until_calls A c load now W h hc hl)
  obtain ⟨l, hll⟩ : ∃ l, load.take (untilN load now) = l := ⟨_, rfl⟩
  have hlen : untilN load now = l.length := by rw [← hll, List.length_take, Nat.min_eq_left hu]
  have hsl : sIn l := fun x hx => hs x (List.mem_of_mem_take (hll ▸ hx))
  have KL : Aside0 (∀ W, Kd.C k70 W A load.length load → Kd.C k70 W A l.length l) := ⟨fun W h => hll ▸ take_C (c := c) h _ hu⟩
  rw [hll] at hres
  rw [hlen] at KU
  have KD := Aside0.mk (fun W b (h : DrAt W b ⟨p, now, plan, prev, changed⟩ A l.length l.length) (hr : Kd.C k70 W A l.length l) => decide_calls HS HC b ⟨p, now, plan, prev, changed⟩ A l.length l W h hr (Nat.le_refl _) hsl g1 hper hn0 hn1 hch (by omega))
  obtain ⟨D, hD⟩ : ∃ D, decD ⟨p, now, plan, prev, changed⟩ l = D := ⟨_, rfl⟩
  obtain ⟨ch, hch'⟩ : ∃ ch, chgD ⟨p, now, plan, prev, changed⟩ l = ch := ⟨_, rfl⟩
  rw [hD, hch'] at KD hres
  subst hres
  clear g1 g2 g2' g3 g3' hD hch' hsl hll hu hlen hn0 hn1 hs hper hch hl
  obtain ⟨dt, dr, df, dp, dc⟩ := D
  obtain ⟨mn, mx, per, stale, step, ahead, cool, season⟩ := p
  obtain ⟨pt, pr, pf, pp, pc⟩ := prev
  dsimp only [polV, decV, polCells, decCells, zeroC] at *
  go_enter Try.func49, Try.ntmps49
  go_wp2_with (first | (go_at_call 48; (with_reducible refine (KC.out _).mono ?_); rintro e w1 ⟨rfl, hb⟩; have E1 := Aside0.mk (Env.below E0.out hb); have HB1 := Aside0.mk (HB0.out.trans (hb.mono (HB0.out).size)); clear hb; skip) | (go_at_call 81; (with_reducible refine (KT.out _).mono ?_); rintro e w2 ⟨rfl, hb⟩; have E2 := Aside0.mk (Env.below E1.out hb.below); have HB2 := Aside0.mk (HB1.out.trans (hb.below.mono HB1.out.size)); clear hb; skip) | (go_at_call 82; (with_reducible refine (KR.out _ (Kd.C_below HR.out HB2.out)).mono ?_); rintro e w3 ⟨rfl, hb⟩; have E3 := Aside0.mk (Env.below E2.out hb); have HB3 := Aside0.mk (HB2.out.trans (hb.mono HB2.out.size)); clear hb; have x0 := blk_cell E3.out.1 0; have x1 := blk_cell E3.out.1 1; have x2 := blk_cell E3.out.1 2; have x3 := blk_cell E3.out.1 3; have x4 := blk_cell E3.out.1 4; have x5 := blk_cell E3.out.1 5; have x6 := blk_cell E3.out.1 6; have x7 := blk_cell E3.out.1 7; simp only [polCells, List.getElem?_toArray, List.getElem?_cons_zero, List.getElem?_cons_succ] at x0 x1 x2 x3 x4 x5 x6 x7; have y0 := blk_cell E3.out.2.1 0; have y1 := blk_cell E3.out.2.1 1; have y2 := blk_cell E3.out.2.1 2; have y3 := blk_cell E3.out.2.1 3; have y4 := blk_cell E3.out.2.1 4; simp only [decCells, List.getElem?_toArray, List.getElem?_cons_zero, List.getElem?_cons_succ] at y0 y1 y2 y3 y4))
  refine wp_region_quiet_tail 9 (by kernel_rfl) (by kernel_rfl) (fun _ _ _ _ _ h => h) ?_
  simp only [List.take_succ_cons, List.take_zero, List.drop_succ_cons, List.drop_zero]
  repeat (go_big_quiet_step ((go_at_call 83; exact Calls.quiet_of (quiet_of (KU.out _ (Kd.C_below HR.out (pw_below_drewN HB3.out _)))))))
  refine wpQuiet_nil ?_
  rintro W4 ⟨nq, hnq⟩
  have hb4 : Below w3.heap.size w3 W4 := hnq ▸ pw_below_drewN (Below.refl _ _) _
  have E4 := Aside0.mk (Env.below E3.out hb4)
  have HB4 := Aside0.mk (HB3.out.trans (hb4.mono HB3.out.size))
  have hDr : DrAt (W4.alloc (.cells #[.int .i64 mn, .int .i64 mx, .int .i64 per, .int .i64 stale, .int .i64 step, .int .i64 ahead, .int .i64 cool, .int .i64 season, .int .i64 now, .slice A l.length l.length, .int .i64 plan, .int .i64 pt, .int .i64 pr, .int .i64 pf, .int .i64 pp, .int .i64 pc, .int .i64 changed] 115)) W4.heap.size ⟨⟨mn, mx, per, stale, step, ahead, cool, season⟩, now, plan, ⟨pt, pr, pf, pp, pc⟩, changed⟩ A l.length l.length := blk_new _ _
  have HDr := Aside0.mk hDr
  have hb5 : Below W4.heap.size W4 (W4.alloc (.cells #[.int .i64 mn, .int .i64 mx, .int .i64 per, .int .i64 stale, .int .i64 step, .int .i64 ahead, .int .i64 cool, .int .i64 season, .int .i64 now, .slice A l.length l.length, .int .i64 plan, .int .i64 pt, .int .i64 pr, .int .i64 pf, .int .i64 pp, .int .i64 pc, .int .i64 changed] 115)) := below_alloc (Below.refl _ _) _
  have E5 := Aside0.mk (Env.below E4.out hb5)
  have HB5 := Aside0.mk (HB4.out.trans (hb5.mono HB4.out.size))
  clear hnq nq hb4 hb5 hDr x0 x1 x2 x3 x4 x5 x6 x7 y0 y1 y2 y3 y4
  go_wp2_with (go_at_call 84; (with_reducible refine (KD.out _ _ HDr.out (KL.out _ (Kd.C_below HR.out HB5.out))).mono ?_); rintro e w5 ⟨rfl, hb⟩; have E6 := Aside0.mk (Env.below E5.out hb); have HB6 := Aside0.mk (HB5.out.trans (hb.mono HB5.out.size)); clear hb; have E7 := Aside0.mk (Env.below E6.out (below_alloc (Below.refl _ _) (.cells #[.int .i64 dt, .int .i64 dr, .int .i64 df, .int .i64 dp, .int .i64 dc] 68))); have HB7 := Aside0.mk (HB6.out.alloc HB6.out.size (.cells #[.int .i64 dt, .int .i64 dr, .int .i64 df, .int .i64 dp, .int .i64 dc] 68)); have k0 := blk_cell E7.out.2.2 0; have k1 := blk_cell E7.out.2.2 1; have k2 := blk_cell E7.out.2.2 2; have k3 := blk_cell E7.out.2.2 3; have k4 := blk_cell E7.out.2.2 4; simp only [zeroC, List.getElem?_toArray, List.getElem?_cons_zero, List.getElem?_cons_succ] at k0 k1 k2 k3 k4; have l0 := blk_frozen E7.out.2.2 0; have l1 := blk_frozen E7.out.2.2 1; have l2 := blk_frozen E7.out.2.2 2; have l3 := blk_frozen E7.out.2.2 3; have l4 := blk_frozen E7.out.2.2 4)
  have hfin := set5_blk (W := w5.alloc (.cells #[.int .i64 dt, .int .i64 dr, .int .i64 df, .int .i64 dp, .int .i64 dc] 68)) E7.out.2.2 dt dr df dp dc
  have hfb := set5_below HB7.out (Nat.le_add_right _ 2) dt dr df dp dc
  unfold set5 at hfin hfb
  have p0 := blk_cell hfin 0
  have p1 := blk_cell hfin 1
  have p2 := blk_cell hfin 2
  have p3 := blk_cell hfin 3
  have p4 := blk_cell hfin 4
  simp only [List.getElem?_toArray, List.getElem?_cons_zero, List.getElem?_cons_succ] at p0 p1 p2 p3 p4
  refine bodyPost_ret (v := .tuple #[.agg #[.int .i64 dt, .int .i64 dr, .int .i64 df, .int .i64 dp, .int .i64 dc], .int .i64 ch, .int .i64 0]) (by simp [results, Try.results49, go_sem, p0, p1, p2, p3, p4]) rfl ?_
  exact ⟨rfl, hfb⟩
end Go.Proofs.Ytemnfnbjapobcaa.Ho
end
section
namespace Go.Proofs.Ytemnfnbjapobcaa
open Go.RowKit Go.Proofs.YtemnfnbjapobcaaW.PrintWords
theorem C_map {α β γ : Type} {d : Kd α} {f : β → α} {f' : γ → α} {g : β → γ} (hfg : ∀ x, f' (g x) = f x) {w : World} {A : Option Addr} {n : Nat} {xs : List β} (h : (Kd.iso d f).C w A n xs) : (Kd.iso d f').C w A n (xs.map g) := by
  obtain ⟨h1, h2, h3⟩ := h
  refine ⟨by rw [List.length_map]; exact h1, h2, fun h0 => ?_⟩
  obtain ⟨ad, e, hc⟩ := h3 h0
  refine ⟨ad, e, fun j p hj => ?_⟩
  rw [List.getElem?_map] at hj
  obtain ⟨y, hy, rfl⟩ := Option.map_eq_some_iff.mp hj
  obtain ⟨c, c1, c2, c3⟩ := hc j y hy
  refine ⟨c, c1, ?_, c3⟩
  show d.K w (f' (g y)) c
  rw [hfg]
  exact c2
def sInB (l : List Pr.S70) : Bool := l.all (fun x => HS.InB x.f0 && HS.InB x.f1)
theorem sInB_iff {l : List Pr.S70} : sInB l = true ↔ PS.sIn l := by
  unfold sInB PS.sIn
  rw [List.all_eq_true]
  constructor
  · intro h x hx
    have := h x hx
    rw [Bool.and_eq_true, HS.inB_iff, HS.inB_iff] at this
    exact this
  · intro h x hx
    rw [Bool.and_eq_true, HS.inB_iff, HS.inB_iff]
    exact h x hx
end Go.Proofs.Ytemnfnbjapobcaa
end
section
namespace Go.Proofs.Ytemnfnbjapobcaa.PS
open Go.Proofs.Ytemnfnbjapobcaa.Pr Go.Proofs.Ytemnfnbjapobcaa.HS
set_option linter.unusedVariables false
theorem floorP_ok {p : Pol} (h : okP p) (load : Int) : floorP p load = clampS (-(-(FS.cdivS load p.per) / 4294967296)) 0 p.mx := by unfold floorP; rw [if_pos h]
theorem decideP_ok {p : Pol} {now : Int} {l : List S70} (h1 : okP p) (h2 : Ho.timedB now = true) (h3 : RS.ris l 0 l.length = true) (plan : Int) (prev : Dec) (ch : Int) :
    decideP p now l plan prev ch = (decD ⟨p, now, plan, prev, ch⟩ (l.take (untilN l now)), chgD ⟨p, now, plan, prev, ch⟩ (l.take (untilN l now)), 0) := by
  unfold decideP
  rw [if_neg (fun h => h h1), if_neg (by rw [h2]; decide), if_neg (by rw [h3]; decide)]
end Go.Proofs.Ytemnfnbjapobcaa.PS
end
section
namespace Go.Proofs.Ytemnfnbjapobcaa.Ho
open Go.RowKit Go.Proofs.YtemnfnbjapobcaaW.PrintWords Go.Proofs.YtemnfnbjapobcaaW.PrintLast Go.Proofs.YtemnfnbjapobcaaW.PrintMore
open Go.Proofs.Ytemnfnbjapobcaa.FS Go.Proofs.Ytemnfnbjapobcaa.HS Go.Proofs.Ytemnfnbjapobcaa.FM Go.Proofs.Ytemnfnbjapobcaa.PS Go.Proofs.Ytemnfnbjapobcaa.Pr
set_option linter.unusedVariables false
set_option linter.unusedSimpArgs false
abbrev Alive26 : Prop := ∀ W : World, Calls Try.prog 47 #[] W fun e w' => e = .returned (.bool true) ∧ Below W.heap.size W w'
theorem num26_calls (x : Int) (w : World) : Calls Try.prog 51 #[.int .i64 x] w fun e w' => e = .returned (.int .i64 x) ∧ Drawn0 w w' := by
  go_enter Try.func51, Try.ntmps51
  go_wp2
  go_ret
  exact ⟨rfl, Drawn0.refl _⟩
def Env2 (s : Nat) (p : Pol) (prev : Dec) (W : World) : Prop := W.heap[s]? = some (.cells (polCells p) 65 (0, 0)) ∧ W.heap[s + 1]? = some (.cells (decCells prev) 68 (0, 0))
theorem Env2.below {s : Nat} {p : Pol} {prev : Dec} {W W' : World} (h : Env2 s p prev W) (hb : Below W.heap.size W W') : Env2 s p prev W' := ⟨blk_below h.1 hb, blk_below h.2 hb⟩
end Go.Proofs.Ytemnfnbjapobcaa.Ho
end
section
namespace Go.Proofs.Ytemnfnbjapobcaa.Ho
open Go.RowKit Go.Proofs.YtemnfnbjapobcaaW.PrintWords Go.Proofs.YtemnfnbjapobcaaW.PrintLast Go.Proofs.YtemnfnbjapobcaaW.PrintMore
open Go.Proofs.Ytemnfnbjapobcaa.FS Go.Proofs.Ytemnfnbjapobcaa.HS Go.Proofs.Ytemnfnbjapobcaa.FM Go.Proofs.Ytemnfnbjapobcaa.PS Go.Proofs.Ytemnfnbjapobcaa.Pr
set_option linter.unusedVariables false
set_option linter.unusedSimpArgs false
theorem one_rises {t v : Int} (h1 : -9007199254740992 ≤ t) (h2 : t ≤ 9007199254740992) : RS.ris [(⟨t, v⟩ : Pr.S70)] 0 [(⟨t, v⟩ : Pr.S70)].length = true := by
  refine RS.ris_of _ _ _ (fun j h3 h4 => ?_)
  obtain rfl : j = 0 := by simp at h4; omega
  unfold RS.okAt RS.tm
  show (decide (-9007199254740992 ≤ t) && (decide (t ≤ 9007199254740992) && (decide (0 = 0) || decide _))) = true
  rw [decide_eq_true h1, decide_eq_true h2]
  rfl
theorem one_until {t v now : Int} (h : t ≤ now) : [(⟨t, v⟩ : Pr.S70)].take (untilN [(⟨t, v⟩ : Pr.S70)] now) = [⟨t, v⟩] := by
  have e : untilN [(⟨t, v⟩ : Pr.S70)] now = 1 := by
    unfold untilN
    rw [if_pos h]
    rfl
  rw [e]
  rfl
theorem whole_floor {p : Pol} (hp : okP p) (h1 : p.per = 4294967296) {n : Int} (h0 : 0 ≤ n) (h2 : n ≤ p.mx) (h3 : p.mx ≤ 1048576) : floorP p (n * 4294967296) = n := by
  rw [floorP_ok hp, h1, FS.cdivS_pos (by decide)]
  have e1 : -(-(n * 4294967296 * 4294967296) / 4294967296) = n * 4294967296 := by omega
  rw [e1, FM.sat_id (by omega) (by omega)]
  have e2 : -(-(n * 4294967296) / 4294967296) = n := by omega
  rw [e2]
  unfold clampS
  rw [if_neg (by omega), if_neg (by omega)]
theorem one_gaps : ∀ i : Fin 11, gapsS [(⟨5000000, (i.val : Int) * 4294967296⟩ : Pr.S70)] 4999841 10 16 = (15, 0) := by decide +kernel
theorem rests_cast {load cool : Int} {prev : Dec} {ch : Int} (h0 : 0 ≤ load) (h1 : load ≤ 10) : castD ⟨⟨1, 10, 4294967296, 60, 10, 3, cool, 4⟩, 5000000, 0, prev, ch⟩ [(⟨5000000, load * 4294967296⟩ : Pr.S70)] = 0 := by
  have hg : gpsD ⟨⟨1, 10, 4294967296, 60, 10, 3, cool, 4⟩, 5000000, 0, prev, ch⟩ [(⟨5000000, load * 4294967296⟩ : Pr.S70)] = (15, 0) := by
    have := one_gaps ⟨load.toNat, by omega⟩
    have e : ((load.toNat : Nat) : Int) = load := by omega
    dsimp only at this
    rw [e] at this
    exact this
  have e15 : ((15 : Int), (0 : Int)).1 = 15 := rfl
  have e0 : ((15 : Int), (0 : Int)).2 = 0 := rfl
  unfold castD
  rw [hg]
  split
  · rfl
  split
  · rfl
  split
  · rfl
  split
  · rfl
  split
  · rfl
  · rename_i h
    exact absurd (show (4 : Int) * 4 / 2 < 15 by decide) h
def wantR (load : Int) : Int := if load < 1 then 1 else load
def repR (cool since before load : Int) : Int := if wantR load < before ∧ since < cool then before else wantR load
def chgR (cool since before load : Int) : Int := if repR cool since before load = before then 5000000 - since else 5000000
theorem rests_dec {cool since before load : Int} (h1 : ¬ cool < 0) (h2 : ¬ cool > 1000000) (h3 : ¬ since < 0) (h4 : ¬ since > 2000000) (h5 : ¬ before < 1) (h6 : ¬ before > 10) (h7 : ¬ load < 0) (h8 : ¬ load > 10) :
    ∃ t fl pl ca, decideP ⟨1, 10, 4294967296, 60, 10, 3, cool, 4⟩ 5000000 [(⟨5000000, load * 4294967296⟩ : Pr.S70)] 0 ⟨5000000 - since, before, 0, 0, 0⟩ (5000000 - since) = (⟨t, repR cool since before load, fl, pl, ca⟩, chgR cool since before load, 0) := by
  have hp : okP ⟨1, 10, 4294967296, 60, 10, 3, cool, 4⟩ := by unfold okP; dsimp only; omega
  have e := decideP_ok (p := ⟨1, 10, 4294967296, 60, 10, 3, cool, 4⟩) (now := 5000000) (l := [(⟨5000000, load * 4294967296⟩ : Pr.S70)]) hp (by decide) (one_rises (by omega) (by omega)) 0 ⟨5000000 - since, before, 0, 0, 0⟩ (5000000 - since)
  rw [one_until (by omega)] at e
  rw [e]
  obtain ⟨D, hD⟩ : ∃ D : Dr, D = ⟨⟨1, 10, 4294967296, 60, 10, 3, cool, 4⟩, 5000000, 0, ⟨5000000 - since, before, 0, 0, 0⟩, 5000000 - since⟩ := ⟨_, rfl⟩
  rw [← hD]
  obtain ⟨l, hl⟩ : ∃ l, l = [(⟨5000000, load * 4294967296⟩ : Pr.S70)] := ⟨_, rfl⟩
  rw [← hl]
  have hf : floorD D l = load := by
    unfold floorD
    have e1 : D.now = 5000000 := by rw [hD]
    have e2 : D.p.stale = 60 := by rw [hD]
    have e4 : lastS l = ⟨5000000, load * 4294967296⟩ := by rw [hl]; rfl
    have e5 : l.length = 1 := by rw [hl]; rfl
    rw [e1, e2, e4, e5, if_pos ⟨Nat.zero_lt_one, show (5000000 : Int) - 60 < 5000000 by decide⟩, hD]
    exact whole_floor hp rfl (by omega) (by show load ≤ 10; omega) (by show (10 : Int) ≤ 1048576; decide)
  have hc : castD D l = 0 := by rw [hD, hl]; exact rests_cast (by omega) (by omega)
  have hw : wantD D l = if load < 1 then 1 else load := by
    unfold wantD Dr.bounded max3
    rw [hf, hc, hD]
    unfold clampS
    dsimp only
    repeat' split
    all_goals omega
  have hsome : D.some := by rw [hD]; unfold Dr.some; dsimp only; omega
  have hrest : D.rests ↔ since < cool := by rw [hD]; unfold Dr.rests; dsimp only; omega
  have hold : D.bounded D.prev.rep = before := by
    rw [hD]
    unfold Dr.bounded clampS
    dsimp only
    rw [if_neg (by omega), if_neg (by omega)]
  have hrep : repD D l = if wantD D l < before ∧ since < cool then before else wantD D l := by
    unfold repD
    rw [hold]
    by_cases c : wantD D l < before ∧ since < cool
    · rw [if_pos c, if_pos ⟨hsome, c.1, hrest.mpr c.2⟩]
    · rw [if_neg c, if_neg (fun h => c ⟨h.2.1, hrest.mp h.2.2⟩)]
  have hchg : chgD D l = if repD D l = before then 5000000 - since else 5000000 := by
    unfold chgD
    have e1 : D.prev.rep = before := by rw [hD]
    have e2 : D.now = 5000000 := by rw [hD]
    have e3 : D.changed = 5000000 - since := by rw [hD]
    rw [e1, e2, e3]
    by_cases c : repD D l = before
    · rw [if_pos c, if_neg (by rintro (h | h); exact h hsome; exact h c)]
    · rw [if_neg c, if_pos (.inr c)]
  have hw' : wantD D l = wantR load := hw
  rw [hw'] at hrep
  have e1 : repD D l = repR cool since before load := hrep
  rw [e1] at hchg
  have e2 : chgD D l = chgR cool since before load := hchg
  refine ⟨(decD D l).t, (decD D l).floor, (decD D l).plan, (decD D l).cast, ?_⟩
  rw [← e1, ← e2]
  rfl
theorem plain_calls (w : World) : Calls Try.prog 56 #[] w fun e w' => e = .returned (.agg #[.int .i64 1, .int .i64 10, .int .i64 4294967296, .int .i64 60, .int .i64 10, .int .i64 3, .int .i64 0, .int .i64 4]) ∧ Below w.heap.size w w' := by
  go_enter Try.func56, Try.ntmps56
  go_wp2
  refine bodyPost_ret (v := .agg #[.int .i64 1, .int .i64 10, .int .i64 4294967296, .int .i64 60, .int .i64 10, .int .i64 3, .int .i64 0, .int .i64 4]) (by simp [results, Try.results56, go_sem]) rfl ?_
  exact ⟨rfl, by first | exact below_alloc (Below.refl _ _) _ | (repeat (first | exact below_alloc (Below.refl _ _) _ | refine Below.setCell ?_ (Nat.le_refl _) _))⟩
theorem blk_new2 (w : World) (o o' : Obj) : ((w.alloc o).alloc o').heap[w.heap.size + 1]? = some o' := by
  have := blk_new (w.alloc o) o'
  rwa [size_alloc_] at this
theorem one_C {W : World} {g : Nat} {a b : Int} (h : W.heap[g]? = some (.cells #[.int .i64 a, .int .i64 b] 70 (0, 0))) : Kd.C k70 W (some ⟨g, 0, none⟩) [(⟨a, b⟩ : Pr.S70)].length [(⟨a, b⟩ : Pr.S70)] := by
  refine ⟨rfl, by show 1 ≤ 9223372036854775807; decide, fun _ => ⟨⟨g, 0, none⟩, rfl, fun j p hj => ?_⟩⟩
  cases j with
  | succ j => simp at hj
  | zero =>
    obtain rfl : (⟨a, b⟩ : Pr.S70) = p := by simpa using hj
    refine ⟨[.int .i64 a, .int .i64 b], rfl, k70_mk W ⟨a, b⟩, fun i u hi => ?_⟩
    have hc := blk_cell h i
    have e : ((⟨g, 0, none⟩ : Addr).add (0 * k70.sz + i)) = ⟨g, i, none⟩ := by
      simp [Addr.add]
      exact fun h => h.symm
    rw [e, hc]
    simpa using hi
set_option maxRecDepth 100000 in
set_option maxHeartbeats 8000000 in
theorem rests26_calls (HA : Aside0 Alive26) (HS : Aside0 SeasonMiss) (HC : Aside0 SeasonCast) (cool since before load : Int) (w : World) :
    Calls Try.prog 15 #[.int .i64 cool, .int .i64 since, .int .i64 before, .int .i64 load] w fun e w' => e = .returned (.bool true) ∧ Below w.heap.size w w' := by
  by_cases h1 : cool < 0
  · have c1 : decide (cool < 0) = true := decide_eq_true h1
    clear h1
    go_enter Try.func15, Try.ntmps15
    go_wp2_with ((go_at_call 47; (with_reducible refine (HA.out _).mono ?_); rintro e w1 ⟨rfl, hb⟩; have HB1 := Aside0.mk hb; clear hb))
    go_ret
    exact ⟨rfl, HB1.out⟩
  have c1 : decide (cool < 0) = false := decide_eq_false h1
  by_cases h2 : cool > 1000000
  · have c2 : decide (cool > 1000000) = true := decide_eq_true h2
    clear h1 h2
    go_enter Try.func15, Try.ntmps15
    go_wp2_with ((go_at_call 47; (with_reducible refine (HA.out _).mono ?_); rintro e w1 ⟨rfl, hb⟩; have HB1 := Aside0.mk hb; clear hb))
    go_ret
    exact ⟨rfl, HB1.out⟩
  have c2 : decide (cool > 1000000) = false := decide_eq_false h2
  by_cases h3 : since < 0
  · have c3 : decide (since < 0) = true := decide_eq_true h3
    clear h1 h2 h3
    go_enter Try.func15, Try.ntmps15
    go_wp2_with ((go_at_call 47; (with_reducible refine (HA.out _).mono ?_); rintro e w1 ⟨rfl, hb⟩; have HB1 := Aside0.mk hb; clear hb))
    go_ret
    exact ⟨rfl, HB1.out⟩
  have c3 : decide (since < 0) = false := decide_eq_false h3
  by_cases h4 : since > 2000000
  · have c4 : decide (since > 2000000) = true := decide_eq_true h4
    clear h1 h2 h3 h4
    go_enter Try.func15, Try.ntmps15
    go_wp2_with ((go_at_call 47; (with_reducible refine (HA.out _).mono ?_); rintro e w1 ⟨rfl, hb⟩; have HB1 := Aside0.mk hb; clear hb))
    go_ret
    exact ⟨rfl, HB1.out⟩
  have c4 : decide (since > 2000000) = false := decide_eq_false h4
  by_cases h5 : before < 1
  · have c5 : decide (before < 1) = true := decide_eq_true h5
    clear h1 h2 h3 h4 h5
    go_enter Try.func15, Try.ntmps15
    go_wp2_with ((go_at_call 47; (with_reducible refine (HA.out _).mono ?_); rintro e w1 ⟨rfl, hb⟩; have HB1 := Aside0.mk hb; clear hb))
    go_ret
    exact ⟨rfl, HB1.out⟩
  have c5 : decide (before < 1) = false := decide_eq_false h5
  by_cases h6 : before > 10
  · have c6 : decide (before > 10) = true := decide_eq_true h6
    clear h1 h2 h3 h4 h5 h6
    go_enter Try.func15, Try.ntmps15
    go_wp2_with ((go_at_call 47; (with_reducible refine (HA.out _).mono ?_); rintro e w1 ⟨rfl, hb⟩; have HB1 := Aside0.mk hb; clear hb))
    go_ret
    exact ⟨rfl, HB1.out⟩
  have c6 : decide (before > 10) = false := decide_eq_false h6
  by_cases h7 : load < 0
  · have c7 : decide (load < 0) = true := decide_eq_true h7
    clear h1 h2 h3 h4 h5 h6 h7
    go_enter Try.func15, Try.ntmps15
    go_wp2_with ((go_at_call 47; (with_reducible refine (HA.out _).mono ?_); rintro e w1 ⟨rfl, hb⟩; have HB1 := Aside0.mk hb; clear hb))
    go_ret
    exact ⟨rfl, HB1.out⟩
  have c7 : decide (load < 0) = false := decide_eq_false h7
  by_cases h8 : load > 10
  · have c8 : decide (load > 10) = true := decide_eq_true h8
    clear h1 h2 h3 h4 h5 h6 h7 h8
    go_enter Try.func15, Try.ntmps15
    go_wp2_with ((go_at_call 47; (with_reducible refine (HA.out _).mono ?_); rintro e w1 ⟨rfl, hb⟩; have HB1 := Aside0.mk hb; clear hb))
    go_ret
    exact ⟨rfl, HB1.out⟩
  have c8 : decide (load > 10) = false := decide_eq_false h8
  obtain ⟨dt, df, dp, dc, hd⟩ := rests_dec h1 h2 h3 h4 h5 h6 h7 h8
  have w1' : wrap64 (5000000 - since) = 5000000 - since := wrap64_id (by omega) (by omega)
  have w2' : wrap64 (load * 4294967296) = load * 4294967296 := wrap64_id (by omega) (by omega)
  have w3' : IntKind.i64.wrap (load * 4294967296) = load * 4294967296 := (i64_w _).trans w2'
  obtain ⟨V, hV⟩ : ∃ V, load * 4294967296 = V := ⟨_, rfl⟩
  obtain ⟨S, hS⟩ : ∃ S, 5000000 - since = S := ⟨_, rfl⟩
  have hsl : sIn [(⟨5000000, V⟩ : Pr.S70)] := by
    intro x hx
    obtain rfl : x = ⟨5000000, V⟩ := by simpa using hx
    exact ⟨⟨by show _ ≤ (5000000 : Int); decide, by show (5000000 : Int) ≤ _; decide⟩, ⟨by show _ ≤ V; omega, by show V ≤ _; omega⟩⟩
  obtain ⟨r, hr⟩ : ∃ r, repR cool since before load = r := ⟨_, rfl⟩
  obtain ⟨cg, hcg⟩ : ∃ cg, chgR cool since before load = cg := ⟨_, rfl⟩
  have hcg' := hcg
  unfold chgR at hcg'
  rw [hr, hS] at hcg'
  have hr' := hr
  unfold repR wantR at hr'
  rw [hr, hcg, hV, hS] at hd
  have w1'' : wrap64 (5000000 - since) = S := w1'.trans hS
  have w2'' : wrap64 (load * 4294967296) = V := w2'.trans hV
  clear w1' w2' w3'
  have KD : Aside0 (∀ W (g : Nat), W.heap[g]? = some (.cells #[.int .i64 5000000, .int .i64 V] 70 (0, 0)) → Calls Try.prog 49 #[.agg #[.int .i64 1, .int .i64 10, .int .i64 4294967296, .int .i64 60, .int .i64 10, .int .i64 3, .int .i64 cool, .int .i64 4], .int .i64 5000000, .slice (some ⟨g, 0, none⟩) 1 1, .int .i64 0, .agg #[.int .i64 S, .int .i64 before, .int .i64 0, .int .i64 0, .int .i64 0], .int .i64 S] W fun e w' => e = .returned (.tuple #[.agg #[.int .i64 dt, .int .i64 r, .int .i64 df, .int .i64 dp, .int .i64 dc], .int .i64 cg, .int .i64 0]) ∧ Below W.heap.size W w') := ⟨fun W g h => by
    have K := pdecide_calls HS HC ⟨1, 10, 4294967296, 60, 10, 3, cool, 4⟩ 5000000 (some ⟨g, 0, none⟩) 1 [(⟨5000000, V⟩ : Pr.S70)] 0 ⟨S, before, 0, 0, 0⟩ S W (one_C h) (Nat.le_refl _) hsl ⟨by show _ ≤ (4294967296 : Int); decide, by show (4294967296 : Int) ≤ _; decide⟩ ⟨by omega, by omega⟩ (by show 1 ≤ _; decide)
    rw [hd] at K
    exact K⟩
  clear hd hsl hr hcg hS c1 c2 c3 c4 c5 c6 c7 c8
  have c1 : decide (cool < 0) = false := decide_eq_false h1
  have c2 : decide (cool > 1000000) = false := decide_eq_false h2
  have c3 : decide (since < 0) = false := decide_eq_false h3
  have c4 : decide (since > 2000000) = false := decide_eq_false h4
  have c5 : decide (before < 1) = false := decide_eq_false h5
  have c6 : decide (before > 10) = false := decide_eq_false h6
  have c7 : decide (load < 0) = false := decide_eq_false h7
  have c8 : decide (load > 10) = false := decide_eq_false h8
  by_cases k1 : load < 1
  · have d1 : decide (load < 1) = true := decide_eq_true k1
    simp only [if_pos k1] at hr'
    by_cases k2 : 1 < before
    · have d2 : decide (1 < before) = true := decide_eq_true k2
      by_cases k3 : since < cool
      · have d3 : decide (since < cool) = true := decide_eq_true k3
        rw [if_pos ⟨k2, k3⟩] at hr'
        subst hr'
        rw [if_pos rfl] at hcg'
        subst hcg'
        clear hV h1 h2 h3 h4 h5 h6 h7 h8 k1 k2 k3
        go_enter Try.func15, Try.ntmps15
        go_wp2_with (first | (go_at_call 47; (with_reducible refine (HA.out _).mono ?_); rintro e w1 ⟨rfl, hb⟩; have HB1 := Aside0.mk hb; clear hb) | (go_at_call 56; (with_reducible refine (plain_calls _).mono ?_); rintro e w2 ⟨rfl, hb⟩; have HB2 := Aside0.mk (HB1.out.trans (hb.mono HB1.out.size)); clear hb) | (go_at_call 49; (with_reducible refine (KD.out _ _ (blk_new2 _ _ _)).mono ?_); rintro e w3 ⟨rfl, hb⟩; have HB3 : Aside0 (Below w.heap.size w w3) := ⟨Below.trans (by repeat (first | exact HB2.out | refine below_alloc ?_ _ | refine Below.setCell ?_ HB2.out.size _)) (hb.mono (by have := HB2.out.size; simp; omega))⟩; clear hb) | (go_at_call 51; (with_reducible refine (num26_calls _ _).mono ?_); rintro e w' ⟨rfl, ⟨nd, rfl⟩⟩))
        go_ret
        first | exact ⟨rfl, pw_below_drewN (HB3.out.alloc HB3.out.size _) _⟩ | exact ⟨rfl, HB3.out.alloc HB3.out.size _⟩
      · have d3 : decide (since < cool) = false := decide_eq_false k3
        rw [if_neg (fun h => k3 h.2)] at hr'
        subst hr'
        rw [if_neg (by omega)] at hcg'
        subst hcg'
        have d4 : (1 == before) = false := by simp; omega
        have d4' : (1 = before) = False := eq_false (by omega)
        clear hV h1 h2 h3 h4 h5 h6 h7 h8 k1 k2 k3
        go_enter Try.func15, Try.ntmps15
        go_wp2_with (first | (go_at_call 47; (with_reducible refine (HA.out _).mono ?_); rintro e w1 ⟨rfl, hb⟩; have HB1 := Aside0.mk hb; clear hb) | (go_at_call 56; (with_reducible refine (plain_calls _).mono ?_); rintro e w2 ⟨rfl, hb⟩; have HB2 := Aside0.mk (HB1.out.trans (hb.mono HB1.out.size)); clear hb) | (go_at_call 49; (with_reducible refine (KD.out _ _ (blk_new2 _ _ _)).mono ?_); rintro e w3 ⟨rfl, hb⟩; have HB3 : Aside0 (Below w.heap.size w w3) := ⟨Below.trans (by repeat (first | exact HB2.out | refine below_alloc ?_ _ | refine Below.setCell ?_ HB2.out.size _)) (hb.mono (by have := HB2.out.size; simp; omega))⟩; clear hb) | (go_at_call 51; (with_reducible refine (num26_calls _ _).mono ?_); rintro e w' ⟨rfl, ⟨nd, rfl⟩⟩))
        go_ret
        first | exact ⟨rfl, pw_below_drewN (HB3.out.alloc HB3.out.size _) _⟩ | exact ⟨rfl, HB3.out.alloc HB3.out.size _⟩
    · have d2 : decide (1 < before) = false := decide_eq_false k2
      rw [if_neg (fun h => k2 h.1)] at hr'
      subst hr'
      by_cases k4 : 1 = before
      · rw [if_pos k4] at hcg'
        subst hcg'
        have d4 : (1 == before) = true := by simp [k4]
        have d4' : (1 = before) = True := eq_true k4
        clear hV h1 h2 h3 h4 h5 h6 h7 h8 k1 k2 k4
        go_enter Try.func15, Try.ntmps15
        go_wp2_with (first | (go_at_call 47; (with_reducible refine (HA.out _).mono ?_); rintro e w1 ⟨rfl, hb⟩; have HB1 := Aside0.mk hb; clear hb) | (go_at_call 56; (with_reducible refine (plain_calls _).mono ?_); rintro e w2 ⟨rfl, hb⟩; have HB2 := Aside0.mk (HB1.out.trans (hb.mono HB1.out.size)); clear hb) | (go_at_call 49; (with_reducible refine (KD.out _ _ (blk_new2 _ _ _)).mono ?_); rintro e w3 ⟨rfl, hb⟩; have HB3 : Aside0 (Below w.heap.size w w3) := ⟨Below.trans (by repeat (first | exact HB2.out | refine below_alloc ?_ _ | refine Below.setCell ?_ HB2.out.size _)) (hb.mono (by have := HB2.out.size; simp; omega))⟩; clear hb) | (go_at_call 51; (with_reducible refine (num26_calls _ _).mono ?_); rintro e w' ⟨rfl, ⟨nd, rfl⟩⟩))
        go_ret
        first | exact ⟨rfl, pw_below_drewN (HB3.out.alloc HB3.out.size _) _⟩ | exact ⟨rfl, HB3.out.alloc HB3.out.size _⟩
      · rw [if_neg k4] at hcg'
        subst hcg'
        have d4 : (1 == before) = false := by simp [k4]
        have d4' : (1 = before) = False := eq_false k4
        clear hV h1 h2 h3 h4 h5 h6 h7 h8 k1 k2 k4
        go_enter Try.func15, Try.ntmps15
        go_wp2_with (first | (go_at_call 47; (with_reducible refine (HA.out _).mono ?_); rintro e w1 ⟨rfl, hb⟩; have HB1 := Aside0.mk hb; clear hb) | (go_at_call 56; (with_reducible refine (plain_calls _).mono ?_); rintro e w2 ⟨rfl, hb⟩; have HB2 := Aside0.mk (HB1.out.trans (hb.mono HB1.out.size)); clear hb) | (go_at_call 49; (with_reducible refine (KD.out _ _ (blk_new2 _ _ _)).mono ?_); rintro e w3 ⟨rfl, hb⟩; have HB3 : Aside0 (Below w.heap.size w w3) := ⟨Below.trans (by repeat (first | exact HB2.out | refine below_alloc ?_ _ | refine Below.setCell ?_ HB2.out.size _)) (hb.mono (by have := HB2.out.size; simp; omega))⟩; clear hb) | (go_at_call 51; (with_reducible refine (num26_calls _ _).mono ?_); rintro e w' ⟨rfl, ⟨nd, rfl⟩⟩))
        go_ret
        first | exact ⟨rfl, pw_below_drewN (HB3.out.alloc HB3.out.size _) _⟩ | exact ⟨rfl, HB3.out.alloc HB3.out.size _⟩
  · have d1 : decide (load < 1) = false := decide_eq_false k1
    simp only [if_neg k1] at hr'
    by_cases k2 : load < before
    · have d2 : decide (load < before) = true := decide_eq_true k2
      by_cases k3 : since < cool
      · have d3 : decide (since < cool) = true := decide_eq_true k3
        rw [if_pos ⟨k2, k3⟩] at hr'
        subst hr'
        rw [if_pos rfl] at hcg'
        subst hcg'
        clear hV h1 h2 h3 h4 h5 h6 h7 h8 k1 k2 k3
        go_enter Try.func15, Try.ntmps15
        go_wp2_with (first | (go_at_call 47; (with_reducible refine (HA.out _).mono ?_); rintro e w1 ⟨rfl, hb⟩; have HB1 := Aside0.mk hb; clear hb) | (go_at_call 56; (with_reducible refine (plain_calls _).mono ?_); rintro e w2 ⟨rfl, hb⟩; have HB2 := Aside0.mk (HB1.out.trans (hb.mono HB1.out.size)); clear hb) | (go_at_call 49; (with_reducible refine (KD.out _ _ (blk_new2 _ _ _)).mono ?_); rintro e w3 ⟨rfl, hb⟩; have HB3 : Aside0 (Below w.heap.size w w3) := ⟨Below.trans (by repeat (first | exact HB2.out | refine below_alloc ?_ _ | refine Below.setCell ?_ HB2.out.size _)) (hb.mono (by have := HB2.out.size; simp; omega))⟩; clear hb) | (go_at_call 51; (with_reducible refine (num26_calls _ _).mono ?_); rintro e w' ⟨rfl, ⟨nd, rfl⟩⟩))
        go_ret
        first | exact ⟨rfl, pw_below_drewN (HB3.out.alloc HB3.out.size _) _⟩ | exact ⟨rfl, HB3.out.alloc HB3.out.size _⟩
      · have d3 : decide (since < cool) = false := decide_eq_false k3
        rw [if_neg (fun h => k3 h.2)] at hr'
        subst hr'
        rw [if_neg (by omega)] at hcg'
        subst hcg'
        have d4 : (load == before) = false := by simp; omega
        have d4' : (load = before) = False := eq_false (by omega)
        clear hV h1 h2 h3 h4 h5 h6 h7 h8 k1 k2 k3
        go_enter Try.func15, Try.ntmps15
        go_wp2_with (first | (go_at_call 47; (with_reducible refine (HA.out _).mono ?_); rintro e w1 ⟨rfl, hb⟩; have HB1 := Aside0.mk hb; clear hb) | (go_at_call 56; (with_reducible refine (plain_calls _).mono ?_); rintro e w2 ⟨rfl, hb⟩; have HB2 := Aside0.mk (HB1.out.trans (hb.mono HB1.out.size)); clear hb) | (go_at_call 49; (with_reducible refine (KD.out _ _ (blk_new2 _ _ _)).mono ?_); rintro e w3 ⟨rfl, hb⟩; have HB3 : Aside0 (Below w.heap.size w w3) := ⟨Below.trans (by repeat (first | exact HB2.out | refine below_alloc ?_ _ | refine Below.setCell ?_ HB2.out.size _)) (hb.mono (by have := HB2.out.size; simp; omega))⟩; clear hb) | (go_at_call 51; (with_reducible refine (num26_calls _ _).mono ?_); rintro e w' ⟨rfl, ⟨nd, rfl⟩⟩))
        go_ret
        first | exact ⟨rfl, pw_below_drewN (HB3.out.alloc HB3.out.size _) _⟩ | exact ⟨rfl, HB3.out.alloc HB3.out.size _⟩
    · have d2 : decide (load < before) = false := decide_eq_false k2
      rw [if_neg (fun h => k2 h.1)] at hr'
      subst hr'
      by_cases k4 : load = before
      · rw [if_pos k4] at hcg'
        subst hcg'
        have d4 : (load == before) = true := by simp [k4]
        have d4' : (load = before) = True := eq_true k4
        clear hV h1 h2 h3 h4 h5 h6 h7 h8 k1 k2 k4
        go_enter Try.func15, Try.ntmps15
        go_wp2_with (first | (go_at_call 47; (with_reducible refine (HA.out _).mono ?_); rintro e w1 ⟨rfl, hb⟩; have HB1 := Aside0.mk hb; clear hb) | (go_at_call 56; (with_reducible refine (plain_calls _).mono ?_); rintro e w2 ⟨rfl, hb⟩; have HB2 := Aside0.mk (HB1.out.trans (hb.mono HB1.out.size)); clear hb) | (go_at_call 49; (with_reducible refine (KD.out _ _ (blk_new2 _ _ _)).mono ?_); rintro e w3 ⟨rfl, hb⟩; have HB3 : Aside0 (Below w.heap.size w w3) := ⟨Below.trans (by repeat (first | exact HB2.out | refine below_alloc ?_ _ | refine Below.setCell ?_ HB2.out.size _)) (hb.mono (by have := HB2.out.size; simp; omega))⟩; clear hb) | (go_at_call 51; (with_reducible refine (num26_calls _ _).mono ?_); rintro e w' ⟨rfl, ⟨nd, rfl⟩⟩))
        go_ret
        first | exact ⟨rfl, pw_below_drewN (HB3.out.alloc HB3.out.size _) _⟩ | exact ⟨rfl, HB3.out.alloc HB3.out.size _⟩
      · rw [if_neg k4] at hcg'
        subst hcg'
        have d4 : (load == before) = false := by simp [k4]
        have d4' : (load = before) = False := eq_false k4
        clear hV h1 h2 h3 h4 h5 h6 h7 h8 k1 k2 k4
        go_enter Try.func15, Try.ntmps15
        go_wp2_with (first | (go_at_call 47; (with_reducible refine (HA.out _).mono ?_); rintro e w1 ⟨rfl, hb⟩; have HB1 := Aside0.mk hb; clear hb) | (go_at_call 56; (with_reducible refine (plain_calls _).mono ?_); rintro e w2 ⟨rfl, hb⟩; have HB2 := Aside0.mk (HB1.out.trans (hb.mono HB1.out.size)); clear hb) | (go_at_call 49; (with_reducible refine (KD.out _ _ (blk_new2 _ _ _)).mono ?_); rintro e w3 ⟨rfl, hb⟩; have HB3 : Aside0 (Below w.heap.size w w3) := ⟨Below.trans (by repeat (first | exact HB2.out | refine below_alloc ?_ _ | refine Below.setCell ?_ HB2.out.size _)) (hb.mono (by have := HB2.out.size; simp; omega))⟩; clear hb) | (go_at_call 51; (with_reducible refine (num26_calls _ _).mono ?_); rintro e w' ⟨rfl, ⟨nd, rfl⟩⟩))
        go_ret
        first | exact ⟨rfl, pw_below_drewN (HB3.out.alloc HB3.out.size _) _⟩ | exact ⟨rfl, HB3.out.alloc HB3.out.size _⟩
end Go.Proofs.Ytemnfnbjapobcaa.Ho
end
section
namespace Go.Proofs.Ytemnfnbjapobcaa.Pg
open Go.RowKit Go.Proofs.YtemnfnbjapobcaaW.PrintWords Go.Proofs.YtemnfnbjapobcaaW.PrintLast Go.Proofs.YtemnfnbjapobcaaW.PrintMore
attribute [local go_sem] max2_int min2_int max_two min_two max_three min_three max_four min_four   -- for this text's walks alone
set_option linter.unusedVariables false
set_option linter.unusedSimpArgs false
def errW : Option Int → Value
  | none => .nilIface
  | some c => .iface 0 (.int .i64 c)
theorem errW_none : errW none = .nilIface := rfl
theorem errW_some (c : Int) : errW (some c) = .iface 0 (.int .i64 c) := rfl
structure S70 where
  f0 : Int
  f1 : Int
def z70 : S70 := ⟨(0 : Int), (0 : Int)⟩
def k70 : Kd S70 := Kd.iso (Kd.pair (Kd.int .i64) (Kd.int .i64)) (fun x : S70 => (x.f0, x.f1))
theorem k70_open {w : World} {x : S70} {cs : List Value} (h : k70.K w x cs) : cs = [.int .i64 x.f0, .int .i64 x.f1] := by
  obtain ⟨_, _, rfl, rfl, rfl⟩ := h
  exact rfl
theorem k70_mk (w : World) (x : S70)  : k70.K w x [.int .i64 x.f0, .int .i64 x.f1] := ⟨[.int .i64 x.f0], [.int .i64 x.f1], rfl, rfl, rfl⟩
theorem k70_mkM (w : World) (base : Nat) (ok : Nat → Prop) (x : S70)  : k70.M w base ok x [.int .i64 x.f0, .int .i64 x.f1] := ⟨[.int .i64 x.f0], [.int .i64 x.f1], rfl, rfl, rfl⟩
def rd_T70 (xs : List S70) (i : Int) : S70 := xs.getD i.toNat z70
theorem at_T70 {w : World} {A : Option Addr} {n : Nat} {xs : List S70} (h : Kd.C k70 w A n xs) (i : Int) (h0 : 0 ≤ i) (h1 : i < n) : ∃ ad , A = some ad ∧ w.cell? (ad.add (i.toNat * 2)) = some (.int .i64 (rd_T70 xs i).f0) ∧ w.cell? ⟨(ad.add (i.toNat * 2)).block, (ad.add (i.toNat * 2)).off + 1, none⟩ = some (.int .i64 (rd_T70 xs i).f1) := by
  obtain ⟨ad, c, e, _, hK, hc0⟩ := Kd.C_get h z70 i h0 h1
  have hc : ∀ j u, c[j]? = some u → w.cell? (ad.add (i.toNat * 2 + j)) = some u := hc0
  obtain rfl := k70_open hK
  exact ⟨ad, e, hc 0 _ rfl, by rw [← add_field _ _ 1 (by omega)]; exact hc 1 _ rfl⟩
end Go.Proofs.Ytemnfnbjapobcaa.Pg
end
