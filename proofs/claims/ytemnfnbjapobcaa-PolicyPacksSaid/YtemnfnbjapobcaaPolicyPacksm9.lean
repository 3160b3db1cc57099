-- Laid together by wip/shake.py out of: Pol6 Pol7 Extra3 Pkx0 Pkx1 VarSpec
import Derived.Test.YtemnfnbjapobcaaPolicyPacksm8
import Derived.Test.YtemnfnbjapobcaaProg
import Derived.Below
import Derived.Deep.Draws
import Derived.Deep.AppendLies
import Derived.Maps.AppendAt
import Derived.OwnWalk
import Derived.Laws.BytesArg
import Derived.Laws.MakeOwn
import Derived.Laws.OwnMore
import Derived.Deep.OwnRows
import Derived.Tactics
import Derived.Lib.ConvBytes
import Derived.Laws.Slices
import Derived.WalkKit
import Derived.KernelRfl
import Derived.RowKit3
import Derived.Deep.LoopGhost
import Derived.Deep.QuietTactic
import Derived.BigQuiet
import Derived.WideLaws
import Derived.Deep.DeepCutAuto
import Derived.Deep.CutBlock
import Derived.Deep.RegionHeld3
import Derived.Laws.Rows
import Derived.Lib.AppendStr
import Derived.ArgAppend
import Derived.Laws.IdiomCopy
import Derived.OrdersHeld
import Derived.Laws.BitsLemmas
import Derived.RowKit
section
namespace Go.Proofs.Ytemnfnbjapobcaa.PS
open Go.Proofs.Ytemnfnbjapobcaa.Pr
def max3 (a b c : Int) : Int := if (if a < b then b else a) < c then c else (if a < b then b else a)
def wantD (d : Dr) (l : List S70) : Int := d.bounded (max3 (floorD d l) d.plan (castD d l))
def repD (d : Dr) (l : List S70) : Int := if d.some ∧ wantD d l < d.bounded d.prev.rep ∧ d.rests then d.bounded d.prev.rep else wantD d l
def decD (d : Dr) (l : List S70) : Dec := ⟨d.now, repD d l, floorD d l, d.plan, castD d l⟩
def chgD (d : Dr) (l : List S70) : Int := if ¬ d.some ∨ repD d l ≠ d.prev.rep then d.now else d.changed
end Go.Proofs.Ytemnfnbjapobcaa.PS
namespace Go.Proofs.Ytemnfnbjapobcaa.Ho
open Go.RowKit Go.Proofs.YtemnfnbjapobcaaW.PrintWords Go.Proofs.YtemnfnbjapobcaaW.PrintLast Go.Proofs.YtemnfnbjapobcaaW.PrintMore
open Go.Proofs.Ytemnfnbjapobcaa.FS Go.Proofs.Ytemnfnbjapobcaa.HS Go.Proofs.Ytemnfnbjapobcaa.FM Go.Proofs.Ytemnfnbjapobcaa.PS Go.Proofs.Ytemnfnbjapobcaa.Pr
attribute [local go_sem] max2_int min2_int max_two min_two max_three min_three
set_option linter.unusedVariables false
set_option linter.unusedSimpArgs false
def decV (x : Dec) : Value := .agg #[.int .i64 x.t, .int .i64 x.rep, .int .i64 x.floor, .int .i64 x.plan, .int .i64 x.cast]
def decCells (x : Dec) : Array Value := #[.int .i64 x.t, .int .i64 x.rep, .int .i64 x.floor, .int .i64 x.plan, .int .i64 x.cast]
def zeroC : Array Value := #[.int .i64 0, .int .i64 0, .int .i64 0, .int .i64 0, .int .i64 0]
def set5 (W : World) (T : Nat) (x0 x1 x2 x3 x4 : Int) : World := ((((W.setCell ⟨T, 0, none⟩ (.int .i64 x0)).setCell ⟨T, 1, none⟩ (.int .i64 x1)).setCell ⟨T, 2, none⟩ (.int .i64 x2)).setCell ⟨T, 3, none⟩ (.int .i64 x3)).setCell ⟨T, 4, none⟩ (.int .i64 x4)
theorem set5_blk {W : World} {T : Nat} (h : W.heap[T]? = some (.cells zeroC 68 (0, 0))) (x0 x1 x2 x3 x4 : Int) : (set5 W T x0 x1 x2 x3 x4).heap[T]? = some (.cells #[.int .i64 x0, .int .i64 x1, .int .i64 x2, .int .i64 x3, .int .i64 x4] 68 (0, 0)) := blk_put (blk_put (blk_put (blk_put (blk_put h 0 _ rfl) 1 _ rfl) 2 _ rfl) 3 _ rfl) 4 _ rfl
theorem set5_below {w W : World} {T : Nat} (h : Below w.heap.size w W) (hT : w.heap.size ≤ T) (x0 x1 x2 x3 x4 : Int) : Below w.heap.size w (set5 W T x0 x1 x2 x3 x4) := ((((h.setCell hT _).setCell hT _).setCell hT _).setCell hT _).setCell hT _
theorem set5_far {W : World} {T : Nat} {p : Addr} {v : Value} (h : W.cell? p = some v) (hne : p.block ≠ T) (x0 x1 x2 x3 x4 : Int) : (set5 W T x0 x1 x2 x3 x4).cell? p = some v := by
  unfold set5
  rw [cell_far (p := ⟨T, 4, none⟩) hne, cell_far (p := ⟨T, 3, none⟩) hne, cell_far (p := ⟨T, 2, none⟩) hne, cell_far (p := ⟨T, 1, none⟩) hne, cell_far (p := ⟨T, 0, none⟩) hne]
  exact h
theorem drew_cell (W : World) (p : Addr) : W.drew.cell? p = W.cell? p := rfl
theorem set5_far' {W : World} {T : Nat} {p : Addr} {v : Value} (h : W.drew.cell? p = some v) (hne : p.block ≠ T) (x0 x1 x2 x3 x4 : Int) : (set5 W T x0 x1 x2 x3 x4).drew.cell? p = some v := (drew_cell _ _).trans (set5_far ((drew_cell _ _).symm.trans h) hne x0 x1 x2 x3 x4)
theorem drawn_blk {W W' : World} {g : Nat} {o : Obj} (h : W.heap[g]? = some o) (hD : Drawn0 W W') : W'.heap[g]? = some o := by
  obtain ⟨m, rfl⟩ := hD.out
  exact h
theorem key9 {w V w9 : World} {k B b T : Nat} {now fl plan ca rr z : Int} {d : Dr} {A : Option Addr} {n c : Nat} (hD : Drawn0 ((V.drewN k).setCell ⟨B, 1, none⟩ (.int .i64 rr)) w9) (h1 : DrAt V b d A n c) (h2 : V.heap[B]? = some (.cells #[.int .i64 now, .int .i64 z, .int .i64 fl, .int .i64 plan, .int .i64 ca] 68 (0, 0))) (h3 : V.heap[T]? = some (.cells zeroC 68 (0, 0))) (hb : b ≠ B) (hT : T ≠ B) (h4 : Below w.heap.size w V) (hB : w.heap.size ≤ B) :
    DrAt w9 b d A n c ∧ w9.heap[B]? = some (.cells #[.int .i64 now, .int .i64 rr, .int .i64 fl, .int .i64 plan, .int .i64 ca] 68 (0, 0)) ∧ w9.heap[T]? = some (.cells zeroC 68 (0, 0)) ∧ Below w.heap.size w w9 := by
  refine ⟨drawn_blk (blk_far (blk_drewN h1 k) hb _) hD, drawn_blk (blk_put (blk_drewN h2 k) 1 _ rfl) hD, drawn_blk (blk_far (blk_drewN h3 k) hT _) hD, ?_⟩
  obtain ⟨m, rfl⟩ := hD.out
  exact pw_below_drewN ((pw_below_drewN h4 k).setCell hB _) m
theorem DrAt.set {W : World} {b g i : Nat} {v : Value} {d : Dr} {A : Option Addr} {n c : Nat} (h : DrAt W b d A n c) (hne : b ≠ g) : DrAt (W.setCell ⟨g, i, none⟩ v) b d A n c := blk_far h hne _
set_option maxRecDepth 100000 in
set_option maxHeartbeats 8000000 in
theorem decide_calls (HS : Aside0 SeasonMiss) (HC : Aside0 SeasonCast) (b : Nat) (d : Dr) (A : Option Addr) (c : Nat) (l : List S70) (w : World) (h : DrAt w b d A l.length c) (hr : Kd.C k70 w A l.length l) (hc : l.length ≤ c) (hs : sIn l) (hp : okP d.p) (hper : FS.In d.p.per) (hn0 : -4503599627370496 ≤ d.now) (hn1 : d.now ≤ 4503599627370496) (hch : FS.In d.changed) (hl : l.length ≤ 1152921504606846976) :
    Calls Try.prog 84 #[.pointer (some ⟨b, 0, none⟩)] w fun e w' => e = .returned (.tuple #[decV (decD d l), .int .i64 (chgD d l)]) ∧ Below w.heap.size w w' := by
  have KFl := Aside0.mk (fun W (h : DrAt W b d A l.length c) (hr : Kd.C k70 W A l.length l) => dfloor_calls b d A c l W h hr hc hs hp hper hn0 hn1 hl)
  have KCa := Aside0.mk (fun W (h : DrAt W b d A l.length c) (hr : Kd.C k70 W A l.length l) => dcast_calls HS HC b d A c l W h hr hc hs hp hper hn0 hn1 hl)
  have KBo := Aside0.mk (fun W x (h : DrAt W b d A l.length c) => bounded_calls b d A l.length c x W h)
  have KSo := Aside0.mk (fun W (h : DrAt W b d A l.length c) => some_calls b d A l.length c W h)
  have KRe := Aside0.mk (fun W (h : DrAt W b d A l.length c) => rests_calls b d A l.length c W h hp.2.2.2.2.2.2.1.1 hp.2.2.2.2.2.2.1.2 hch)
  have HD := Aside0.mk h
  have HR := Aside0.mk hr
  obtain ⟨r, hrr⟩ : ∃ r, repD d l = r := ⟨_, rfl⟩
  obtain ⟨ch, hchg⟩ : ∃ ch, chgD d l = ch := ⟨_, rfl⟩
  have hres : decD d l = ⟨d.now, r, floorD d l, d.plan, castD d l⟩ := by unfold decD; rw [hrr]
  unfold chgD at hchg
  rw [hrr] at hchg
  have hcc : chgD d l = ch := by unfold chgD; rw [hrr]; exact hchg
  rw [hres, hcc]
  unfold repD wantD at hrr
  obtain ⟨fl, hfl⟩ : ∃ fl, floorD d l = fl := ⟨_, rfl⟩
  obtain ⟨ca, hca⟩ : ∃ ca, castD d l = ca := ⟨_, rfl⟩
  rw [hfl] at KFl hrr ⊢
  rw [hca] at KCa hrr ⊢
  clear hres hcc hfl hca h hr
  have d8 := HD.out.at 8 (.int .i64 d.now) rfl
  have d10 := HD.out.at 10 (.int .i64 d.plan) rfl
  have d12 := HD.out.at 12 (.int .i64 d.prev.rep) rfl
  have d16 := HD.out.at 16 (.int .i64 d.changed) rfl
  have hbb : b < w.heap.size := blk_lt HD.out
  obtain ⟨now, hnow⟩ : ∃ x, d.now = x := ⟨_, rfl⟩
  obtain ⟨plan, hplan⟩ : ∃ x, d.plan = x := ⟨_, rfl⟩
  obtain ⟨pr, hpr⟩ : ∃ x, d.prev.rep = x := ⟨_, rfl⟩
  obtain ⟨chd, hchd⟩ : ∃ x, d.changed = x := ⟨_, rfl⟩
  rw [hnow] at d8 hchg ⊢
  rw [hplan] at d10 hrr ⊢
  rw [hpr] at d12 hrr hchg
  rw [hchd] at d16 hchg
  obtain ⟨a, ha⟩ : ∃ a, (if fl < plan then plan else fl) = a := ⟨_, rfl⟩
  obtain ⟨M, hM⟩ : ∃ M, (if a < ca then ca else a) = M := ⟨_, rfl⟩
  have hm3 : max3 fl plan ca = M := by unfold max3; rw [ha]; exact hM
  rw [hm3] at hrr
  obtain ⟨n0, hn0'⟩ : ∃ n0, d.bounded M = n0 := ⟨_, rfl⟩
  obtain ⟨old, hold⟩ : ∃ old, d.bounded pr = old := ⟨_, rfl⟩
  rw [hn0', hold] at hrr
  have KB1 : Aside0 (∀ W, DrAt W b d A l.length c → Calls Try.prog 120 #[.pointer (some ⟨b, 0, none⟩), .int .i64 M] W fun e w' => e = .returned (.int .i64 n0) ∧ Drawn0 W w') := ⟨fun W h => hn0' ▸ KBo.out W M h⟩
  have KB2 : Aside0 (∀ W, DrAt W b d A l.length c → Calls Try.prog 120 #[.pointer (some ⟨b, 0, none⟩), .int .i64 pr] W fun e w' => e = .returned (.int .i64 old) ∧ Drawn0 W w') := ⟨fun W h => hold ▸ KBo.out W pr h⟩
  have HF := Aside0.mk (And.intro hrr hchg)
  have HE := Aside0.mk (And.intro hnow (And.intro hplan (And.intro hpr hchd)))
  have HM := Aside0.mk (And.intro ha hM)
  clear hm3 hn0' hold KBo ha hM
  clear hrr hchg hnow hplan hpr hchd hp hper hn0 hn1 hch hs hl
  dsimp only [decV]
  go_enter Try.func84, Try.ntmps84
  go_wp2
  obtain ⟨W0, hW0⟩ : ∃ W0, w.alloc (.cells #[.int .i64 0, .int .i64 0, .int .i64 0, .int .i64 0, .int .i64 0] 68) = W0 := ⟨_, rfl⟩
  rw [hW0]
  have hb0 : Below w.heap.size w W0 := hW0 ▸ below_alloc (Below.refl _ _) _
  have hz0 : W0.heap[w.heap.size]? = some (.cells zeroC 68 (0, 0)) := hW0 ▸ blk_new w _
  have hs0 : W0.heap.size = w.heap.size + 1 := by rw [← hW0]; exact size_alloc_ _ _
  have d8' : W0.drew.cell? ⟨b, 8, none⟩ = some (.int .i64 now) := pw_cell_below (below_drew hb0) d8
  have d10' : W0.drew.cell? ⟨b, 10, none⟩ = some (.int .i64 plan) := pw_cell_below (below_drew hb0) d10
  have H0 := Aside0.mk (And.intro hb0 (And.intro hz0 hs0))
  clear hb0 hz0 hW0
  refine start_ (n := 15) (S := (fun w' => w'.cell? ⟨b, 8, none⟩ = some (.int .i64 now) ∧ w'.cell? ⟨b, 10, none⟩ = some (.int .i64 plan))) (ds := [14]) #[false, false, false, false, false, false, false, false, false, false, false, false, false, false, false] (by kernel_rfl) rfl rfl ⟨d8', d10'⟩ (fun hHeld => ?_)
  refine pure_ (i := 0) (N := some 7) (v := ?_) (a' := ?_) #[true, false, false, false, false, false, false, false, false, false, false, false, false, false, false] rfl rfl (by kernel_rfl) (fun _ _ _ h => h) (Or.inl ⟨by rfl, ?_⟩) ?_ ?_
  rotate_left
  · intro w'
    go_simp
    with_reducible rfl
  rotate_left
  · simp only [Act.put, List.setIfInBounds_toArray, List.set_cons_zero, List.set_cons_succ, i64_w, i32_w]
    rfl
  refine pure_ (i := 1) (N := some 8) (v := ?_) (a' := ?_) #[true, true, false, false, false, false, false, false, false, false, false, false, false, false, false] rfl rfl (by kernel_rfl) (fun _ _ _ h => h) (Or.inl ⟨by rfl, ?_⟩) ?_ ?_
  rotate_left
  · intro w'
    go_simp
    with_reducible rfl
  rotate_left
  · simp only [Act.put, List.setIfInBounds_toArray, List.set_cons_zero, List.set_cons_succ, i64_w, i32_w]
    rfl
  refine pure_ (i := 2) (N := some 9) (v := ?_) (a' := ?_) #[true, true, true, false, false, false, false, false, false, false, false, false, false, false, false] rfl rfl (by kernel_rfl) (fun _ _ _ h => h) (Or.inl ⟨by rfl, ?_⟩) ?_ ?_
  rotate_left
  · intro w'
    go_simp
    with_reducible rfl
  rotate_left
  · simp only [Act.put, List.setIfInBounds_toArray, List.set_cons_zero, List.set_cons_succ, i64_w, i32_w]
    rfl
  refine pure_ (i := 4) (N := some 11) (v := ?_) (a' := ?_) #[true, true, true, false, true, false, false, false, false, false, false, false, false, false, false] rfl rfl (by kernel_rfl) (fun _ _ _ h => h) (Or.inl ⟨by rfl, ?_⟩) ?_ ?_
  rotate_left
  · intro w'
    go_simp
    with_reducible rfl
  rotate_left
  · simp only [Act.put, List.setIfInBounds_toArray, List.set_cons_zero, List.set_cons_succ, i64_w, i32_w]
    rfl
  refine pure_ (i := 6) (N := some 13) (v := ?_) (a' := ?_) #[true, true, true, false, true, false, true, false, false, false, false, false, false, false, false] rfl rfl (by kernel_rfl) (fun _ _ _ h => h) (Or.inl ⟨by rfl, ?_⟩) ?_ ?_
  rotate_left
  · intro w'
    go_simp
    with_reducible rfl
  rotate_left
  · simp only [Act.put, List.setIfInBounds_toArray, List.set_cons_zero, List.set_cons_succ, i64_w, i32_w]
    rfl
  refine pure_ (i := 7) (N := some 14) (v := ?_) (a' := ?_) #[true, true, true, false, true, false, true, true, false, false, false, false, false, false, false] rfl rfl (by kernel_rfl) (fun _ _ _ h => h) (Or.inl ⟨by rfl, ?_⟩) ?_ ?_
  rotate_left
  · intro w'
    go_simp
    with_reducible rfl
  rotate_left
  · simp only [Act.put, List.setIfInBounds_toArray, List.set_cons_zero, List.set_cons_succ, i64_w, i32_w]
    rfl
  refine pure_ (i := 8) (N := some 15) (v := ?_) (a' := ?_) #[true, true, true, false, true, false, true, true, true, false, false, false, false, false, false] rfl rfl (by kernel_rfl) (fun _ _ _ h => h) (Or.inl ⟨by rfl, ?_⟩) ?_ ?_
  rotate_left
  · intro w'
    go_simp
    with_reducible rfl
  rotate_left
  · simp only [Act.put, List.setIfInBounds_toArray, List.set_cons_zero, List.set_cons_succ, i64_w, i32_w]
    rfl
  refine pure_ (i := 10) (N := some 17) (v := ?_) (a' := ?_) #[true, true, true, false, true, false, true, true, true, false, true, false, false, false, false] rfl rfl (by kernel_rfl) (fun _ _ _ h => h) (Or.inl ⟨by rfl, ?_⟩) ?_ ?_
  rotate_left
  · intro w'
    go_simp
    with_reducible rfl
  rotate_left
  · simp only [Act.put, List.setIfInBounds_toArray, List.set_cons_zero, List.set_cons_succ, i64_w, i32_w]
    rfl
  refine take_ (i := 3) (N := some 10) (v := ?_) (a' := ?_) #[true, true, true, true, true, false, true, true, true, false, true, false, false, false, false] rfl rfl (by kernel_rfl) (fun _ _ _ h => h) (Or.inl ⟨by rfl, ?_⟩) hHeld ?_ ?_
  rotate_left
  · rintro w' ⟨s0, s1⟩
    go_simp
    with_reducible rfl
  rotate_left
  · simp only [Act.put, List.setIfInBounds_toArray, List.set_cons_zero, List.set_cons_succ, i64_w, i32_w]
    rfl
  refine take_ (i := 9) (N := some 16) (v := ?_) (a' := ?_) #[true, true, true, true, true, false, true, true, true, true, true, false, false, false, false] rfl rfl (by kernel_rfl) (fun _ _ _ h => h) (Or.inl ⟨by rfl, ?_⟩) hHeld ?_ ?_
  rotate_left
  · rintro w' ⟨s0, s1⟩
    go_simp
    with_reducible rfl
  rotate_left
  · simp only [Act.put, List.setIfInBounds_toArray, List.set_cons_zero, List.set_cons_succ, i64_w, i32_w]
    rfl
  refine join_ (σ := Nat) 1 #[true, true, true, true, true, true, true, true, true, true, true, true, true, true, false] (fun B => [(12, .int .i64 fl), (18, .int .i64 ca), (19, .agg #[.int .i64 now, .int .i64 0, .int .i64 fl, .int .i64 plan, .int .i64 ca]), (4, .pointer (some ⟨B, 0, none⟩))]) (fun B w' => (w'.cell? ⟨b, 8, none⟩ = some (.int .i64 now) ∧ w'.cell? ⟨b, 10, none⟩ = some (.int .i64 plan)) ∧ Aside0 (Below W0.heap.size W0 w' ∧ W0.heap.size ≤ B ∧ w'.heap[B]? = some (.cells zeroC 68 (0, 0)))) ?cont ?main
  case main =>
    intro HJ
    have q0 : Below W0.heap.size W0 W0.drew := below_drew (Below.refl _ _)
    refine two_ (i := 5) (j := 13) (Ni := some 12) (Nj := some 4) #[true, true, true, true, true, true, true, true, true, true, true, false, false, false, false] #[true, true, true, true, true, false, true, true, true, true, true, false, false, true, false] rfl rfl rfl rfl (by kernel_rfl) (by decide) (by decide) (fun K hK => ?_) (fun K hK => ?_)
    · refine goes_ Try.func118 (by kernel_rfl) rfl #[.pointer (some ⟨b, 0, none⟩)] (by rfl) rfl rfl (by simp [Act.eval]) ?_
      refine (KFl.out _ (HD.out.below (H0.out.1.trans (q0.mono H0.out.1.size))) (Kd.C_below HR.out (H0.out.1.trans (q0.mono H0.out.1.size)))).mono ?_
      rintro e u1 ⟨rfl, hb1⟩
      have q1 : Below W0.heap.size W0 u1 := q0.trans (hb1.mono q0.size)
      refine ⟨_, rfl, hK.out _ _ ⟨pw_cell_below hb1 hHeld.1, pw_cell_below hb1 hHeld.2⟩ (fun hHeld => ?_)⟩
      clear hK K
      refine norm_ (by simp only [Act.put, List.setIfInBounds_toArray, List.set_cons_zero, List.set_cons_succ, i64_w, i32_w]; rfl) ?_
      refine two_ (i := 11) (j := 13) (Ni := some 18) (Nj := some 4) #[true, true, true, true, true, true, true, true, true, true, true, true, false, false, false] #[true, true, true, true, true, true, true, true, true, true, true, false, false, true, false] rfl rfl rfl rfl (by kernel_rfl) (by decide) (by decide) (fun K hK => ?_) (fun K hK => ?_)
      · refine goes_ Try.func119 (by kernel_rfl) rfl #[.pointer (some ⟨b, 0, none⟩)] (by rfl) rfl rfl (by simp [Act.eval]) ?_
        refine (KCa.out _ (HD.out.below (H0.out.1.trans (q1.mono H0.out.1.size))) (Kd.C_below HR.out (H0.out.1.trans (q1.mono H0.out.1.size)))).mono ?_
        rintro e u2 ⟨rfl, hb2⟩
        have q2 : Below W0.heap.size W0 u2 := q1.trans (hb2.mono q1.size)
        refine ⟨_, rfl, hK.out _ _ ⟨pw_cell_below hb2 hHeld.1, pw_cell_below hb2 hHeld.2⟩ (fun hHeld => ?_)⟩
        clear hK K
        refine norm_ (by simp only [Act.put, List.setIfInBounds_toArray, List.set_cons_zero, List.set_cons_succ, i64_w, i32_w]; rfl) ?_
        refine pure_ (i := 12) (N := some 19) (v := ?_) (a' := ?_) #[true, true, true, true, true, true, true, true, true, true, true, true, true, false, false] rfl rfl (by kernel_rfl) (fun _ _ _ h => h) (Or.inl ⟨by rfl, ?_⟩) ?_ ?_
        rotate_left
        · intro w'
          go_simp
          with_reducible rfl
        rotate_left
        · simp only [Act.put, List.setIfInBounds_toArray, List.set_cons_zero, List.set_cons_succ, i64_w, i32_w]
          rfl
        refine one_ (i := 13) (N := some 4) #[true, true, true, true, true, true, true, true, true, true, true, true, true, true, false] rfl rfl (by kernel_rfl) (by decide) (fun K hK => ?_)
        refine value_ (w1 := (u2).alloc (.cells #[.int .i64 0, .int .i64 0, .int .i64 0, .int .i64 0, .int .i64 0] 68)) (v := .pointer (some ⟨(u2).heap.size, 0, none⟩)) (by rfl) rfl (by go_simp) ?_
        have q3 : Below W0.heap.size W0 ((u2).alloc (.cells #[.int .i64 0, .int .i64 0, .int .i64 0, .int .i64 0, .int .i64 0] 68)) := q2.alloc q2.size _
        have z3 : ((u2).alloc (.cells #[.int .i64 0, .int .i64 0, .int .i64 0, .int .i64 0, .int .i64 0] 68)).heap[(u2).heap.size]? = some (.cells zeroC 68 (0, 0)) := blk_new _ _
        have s3 : W0.heap.size ≤ (u2).heap.size := q2.size
        refine hK.out _ _ ⟨cell_alloc hHeld.1 _, cell_alloc hHeld.2 _⟩ (fun hHeld => ?_)
        clear hK K
        refine norm_ (by simp only [Act.put, List.setIfInBounds_toArray, List.set_cons_zero, List.set_cons_succ, i64_w, i32_w]; rfl) ?_
        refine norm_ (by simp only [putAll, Act.put, List.setIfInBounds_toArray, List.set_cons_zero, List.set_cons_succ] <;> rfl) (HJ (u2.heap.size) _ ⟨hHeld, ⟨q3, s3, z3⟩⟩)
      · refine value_ (w1 := (u1).alloc (.cells #[.int .i64 0, .int .i64 0, .int .i64 0, .int .i64 0, .int .i64 0] 68)) (v := .pointer (some ⟨(u1).heap.size, 0, none⟩)) (by rfl) rfl (by go_simp) ?_
        have q2 : Below W0.heap.size W0 ((u1).alloc (.cells #[.int .i64 0, .int .i64 0, .int .i64 0, .int .i64 0, .int .i64 0] 68)) := q1.alloc q1.size _
        have z2 : ((u1).alloc (.cells #[.int .i64 0, .int .i64 0, .int .i64 0, .int .i64 0, .int .i64 0] 68)).heap[(u1).heap.size]? = some (.cells zeroC 68 (0, 0)) := blk_new _ _
        have s2 : W0.heap.size ≤ (u1).heap.size := q1.size
        refine hK.out _ _ ⟨cell_alloc hHeld.1 _, cell_alloc hHeld.2 _⟩ (fun hHeld => ?_)
        clear hK K
        refine norm_ (by simp only [Act.put, List.setIfInBounds_toArray, List.set_cons_zero, List.set_cons_succ, i64_w, i32_w]; rfl) ?_
        refine one_ (i := 11) (N := some 18) #[true, true, true, true, true, true, true, true, true, true, true, true, false, true, false] rfl rfl (by kernel_rfl) (by decide) (fun K hK => ?_)
        refine goes_ Try.func119 (by kernel_rfl) rfl #[.pointer (some ⟨b, 0, none⟩)] (by rfl) rfl rfl (by simp [Act.eval]) ?_
        refine (KCa.out _ (HD.out.below (H0.out.1.trans (q2.mono H0.out.1.size))) (Kd.C_below HR.out (H0.out.1.trans (q2.mono H0.out.1.size)))).mono ?_
        rintro e u3 ⟨rfl, hb3⟩
        have q3 : Below W0.heap.size W0 u3 := q2.trans (hb3.mono q2.size)
        refine ⟨_, rfl, hK.out _ _ ⟨pw_cell_below hb3 hHeld.1, pw_cell_below hb3 hHeld.2⟩ (fun hHeld => ?_)⟩
        clear hK K
        refine norm_ (by simp only [Act.put, List.setIfInBounds_toArray, List.set_cons_zero, List.set_cons_succ, i64_w, i32_w]; rfl) ?_
        refine pure_ (i := 12) (N := some 19) (v := ?_) (a' := ?_) #[true, true, true, true, true, true, true, true, true, true, true, true, true, true, false] rfl rfl (by kernel_rfl) (fun _ _ _ h => h) (Or.inl ⟨by rfl, ?_⟩) ?_ ?_
        rotate_left
        · intro w'
          go_simp
          with_reducible rfl
        rotate_left
        · simp only [Act.put, List.setIfInBounds_toArray, List.set_cons_zero, List.set_cons_succ, i64_w, i32_w]
          rfl
        refine norm_ (by simp only [putAll, Act.put, List.setIfInBounds_toArray, List.set_cons_zero, List.set_cons_succ] <;> rfl) (HJ (u1.heap.size) _ ⟨hHeld, ⟨q3, s2, (blk_below z2 hb3)⟩⟩)
    · refine value_ (w1 := (W0.drew).alloc (.cells #[.int .i64 0, .int .i64 0, .int .i64 0, .int .i64 0, .int .i64 0] 68)) (v := .pointer (some ⟨(W0.drew).heap.size, 0, none⟩)) (by rfl) rfl (by go_simp) ?_
      have q1 : Below W0.heap.size W0 ((W0.drew).alloc (.cells #[.int .i64 0, .int .i64 0, .int .i64 0, .int .i64 0, .int .i64 0] 68)) := q0.alloc q0.size _
      have z1 : ((W0.drew).alloc (.cells #[.int .i64 0, .int .i64 0, .int .i64 0, .int .i64 0, .int .i64 0] 68)).heap[(W0.drew).heap.size]? = some (.cells zeroC 68 (0, 0)) := blk_new _ _
      have s1 : W0.heap.size ≤ (W0.drew).heap.size := q0.size
      refine hK.out _ _ ⟨cell_alloc hHeld.1 _, cell_alloc hHeld.2 _⟩ (fun hHeld => ?_)
      clear hK K
      refine norm_ (by simp only [Act.put, List.setIfInBounds_toArray, List.set_cons_zero, List.set_cons_succ, i64_w, i32_w]; rfl) ?_
      refine one_ (i := 5) (N := some 12) #[true, true, true, true, true, true, true, true, true, true, true, false, false, true, false] rfl rfl (by kernel_rfl) (by decide) (fun K hK => ?_)
      refine goes_ Try.func118 (by kernel_rfl) rfl #[.pointer (some ⟨b, 0, none⟩)] (by rfl) rfl rfl (by simp [Act.eval]) ?_
      refine (KFl.out _ (HD.out.below (H0.out.1.trans (q1.mono H0.out.1.size))) (Kd.C_below HR.out (H0.out.1.trans (q1.mono H0.out.1.size)))).mono ?_
      rintro e u2 ⟨rfl, hb2⟩
      have q2 : Below W0.heap.size W0 u2 := q1.trans (hb2.mono q1.size)
      refine ⟨_, rfl, hK.out _ _ ⟨pw_cell_below hb2 hHeld.1, pw_cell_below hb2 hHeld.2⟩ (fun hHeld => ?_)⟩
      clear hK K
      refine norm_ (by simp only [Act.put, List.setIfInBounds_toArray, List.set_cons_zero, List.set_cons_succ, i64_w, i32_w]; rfl) ?_
      refine one_ (i := 11) (N := some 18) #[true, true, true, true, true, true, true, true, true, true, true, true, false, true, false] rfl rfl (by kernel_rfl) (by decide) (fun K hK => ?_)
      refine goes_ Try.func119 (by kernel_rfl) rfl #[.pointer (some ⟨b, 0, none⟩)] (by rfl) rfl rfl (by simp [Act.eval]) ?_
      refine (KCa.out _ (HD.out.below (H0.out.1.trans (q2.mono H0.out.1.size))) (Kd.C_below HR.out (H0.out.1.trans (q2.mono H0.out.1.size)))).mono ?_
      rintro e u3 ⟨rfl, hb3⟩
      have q3 : Below W0.heap.size W0 u3 := q2.trans (hb3.mono q2.size)
      refine ⟨_, rfl, hK.out _ _ ⟨pw_cell_below hb3 hHeld.1, pw_cell_below hb3 hHeld.2⟩ (fun hHeld => ?_)⟩
      clear hK K
      refine norm_ (by simp only [Act.put, List.setIfInBounds_toArray, List.set_cons_zero, List.set_cons_succ, i64_w, i32_w]; rfl) ?_
      refine pure_ (i := 12) (N := some 19) (v := ?_) (a' := ?_) #[true, true, true, true, true, true, true, true, true, true, true, true, true, true, false] rfl rfl (by kernel_rfl) (fun _ _ _ h => h) (Or.inl ⟨by rfl, ?_⟩) ?_ ?_
      rotate_left
      · intro w'
        go_simp
        with_reducible rfl
      rotate_left
      · simp only [Act.put, List.setIfInBounds_toArray, List.set_cons_zero, List.set_cons_succ, i64_w, i32_w]
        rfl
      refine norm_ (by simp only [putAll, Act.put, List.setIfInBounds_toArray, List.set_cons_zero, List.set_cons_succ] <;> rfl) (HJ (W0.drew.heap.size) _ ⟨hHeld, ⟨q3, s1, (blk_below (blk_below z1 hb2) hb3)⟩⟩)
  case cont =>
    rintro B V0 ⟨hHeld, HB⟩
    refine norm_ (by simp only [putAll, Act.put, List.setIfInBounds_toArray, List.set_cons_zero, List.set_cons_succ]; rfl) ?_
    obtain ⟨hb1, hB, hzB⟩ := HB.out
    have e0 := blk_cell hzB 0
    have e1 := blk_cell hzB 1
    have e2 := blk_cell hzB 2
    have e3 := blk_cell hzB 3
    have e4 := blk_cell hzB 4
    simp only [zeroC, List.getElem?_toArray, List.getElem?_cons_zero, List.getElem?_cons_succ] at e0 e1 e2 e3 e4
    have z0 := blk_frozen hzB 0
    have z1 := blk_frozen hzB 1
    have z2 := blk_frozen hzB 2
    have z3 := blk_frozen hzB 3
    have z4 := blk_frozen hzB 4
    clear HB
    refine last_ (i := 14) (N := none) #[true, true, true, true, true, true, true, true, true, true, true, true, true, true, true] rfl rfl (by kernel_rfl) (by decide) (fun K hK => ?_)
    refine skip_ (w1 := ((((V0.setCell ⟨B, 0, none⟩ (.int .i64 now)).setCell ⟨B, 1, none⟩ (.int .i64 0)).setCell ⟨B, 2, none⟩ (.int .i64 fl)).setCell ⟨B, 3, none⟩ (.int .i64 plan)).setCell ⟨B, 4, none⟩ (.int .i64 ca)) (by rfl) rfl (by go_simp) ?_
    refine hK.out _ _ ?_
    clear hK K
    refine done_ (by kernel_rfl) ?_
    have hVb : Below W0.heap.size W0 (((((V0.setCell ⟨B, 0, none⟩ (.int .i64 now)).setCell ⟨B, 1, none⟩ (.int .i64 0)).setCell ⟨B, 2, none⟩ (.int .i64 fl)).setCell ⟨B, 3, none⟩ (.int .i64 plan)).setCell ⟨B, 4, none⟩ (.int .i64 ca)) := ((((hb1.setCell hB _).setCell hB _).setCell hB _).setCell hB _).setCell hB _
    have hVB : (((((V0.setCell ⟨B, 0, none⟩ (.int .i64 now)).setCell ⟨B, 1, none⟩ (.int .i64 0)).setCell ⟨B, 2, none⟩ (.int .i64 fl)).setCell ⟨B, 3, none⟩ (.int .i64 plan)).setCell ⟨B, 4, none⟩ (.int .i64 ca)).heap[B]? = some (.cells #[.int .i64 now, .int .i64 0, .int .i64 fl, .int .i64 plan, .int .i64 ca] 68 (0, 0)) := blk_put (blk_put (blk_put (blk_put (blk_put hzB 0 _ rfl) 1 _ rfl) 2 _ rfl) 3 _ rfl) 4 _ rfl
    obtain ⟨V, hV⟩ : ∃ V, (((((V0.setCell ⟨B, 0, none⟩ (.int .i64 now)).setCell ⟨B, 1, none⟩ (.int .i64 0)).setCell ⟨B, 2, none⟩ (.int .i64 fl)).setCell ⟨B, 3, none⟩ (.int .i64 plan)).setCell ⟨B, 4, none⟩ (.int .i64 ca)) = V := ⟨_, rfl⟩
    rw [hV] at hVb hVB ⊢
    have hVw : Below w.heap.size w V := H0.out.1.trans (hVb.mono H0.out.1.size)
    have hVz := blk_below H0.out.2.1 hVb
    have HV := Aside0.mk (And.intro hVw (And.intro hVB hVz))
    have HDV := Aside0.mk (HD.out.below hVw)
    have hB' : w.heap.size < B := by have := H0.out.2.2; omega
    clear hV hVb hVw hzB e0 e1 e2 e3 e4 z0 z1 z2 z3 z4 d8 d10 d12 d16 d8' d10' hb1 hHeld hB H0 HD HR KFl KCa
    have d8 : V.cell? ⟨b, 8, none⟩ = some (.int .i64 now) := HE.out.1 ▸ HDV.out.at 8 (.int .i64 d.now) rfl
    have d10 : V.cell? ⟨b, 10, none⟩ = some (.int .i64 plan) := HE.out.2.1 ▸ HDV.out.at 10 (.int .i64 d.plan) rfl
    have d12 : V.cell? ⟨b, 12, none⟩ = some (.int .i64 pr) := HE.out.2.2.1 ▸ HDV.out.at 12 (.int .i64 d.prev.rep) rfl
    have d16 : V.cell? ⟨b, 16, none⟩ = some (.int .i64 chd) := HE.out.2.2.2 ▸ HDV.out.at 16 (.int .i64 d.changed) rfl
    have f0 := blk_cell HV.out.2.1 0
    have f1 := blk_cell HV.out.2.1 1
    have f2 := blk_cell HV.out.2.1 2
    have f3 := blk_cell HV.out.2.1 3
    have f4 := blk_cell HV.out.2.1 4
    simp only [List.getElem?_toArray, List.getElem?_cons_zero, List.getElem?_cons_succ] at f0 f1 f2 f3 f4
    have y1 := blk_frozen HV.out.2.1 1
    obtain ⟨ha, hM⟩ := HM.out
    go_wp2
    go_quiet ((go_at_call 120; exact Calls.quiet_of (quiet_of (KB1.out _ (HDV.out.below (pw_below_drewN (Below.refl _ _) _))))))
    obtain ⟨hrr, hchg⟩ := HF.out
    have hbB : b ≠ B := by omega
    have hBb : B ≠ b := by omega
    clear ha hM HF KB1
    have hTB : w.heap.size ≠ B := by omega
    have hwB : w.heap.size ≤ B := by omega
    have hbT : b ≠ w.heap.size := by omega
    have hBT : B ≠ w.heap.size := by omega
    by_cases g1 : d.some
    rotate_left
    · rw [if_neg (fun h => g1 h.1)] at hrr
      subst hrr
      rw [if_pos (.inl g1)] at hchg
      subst hchg
      have KS1 : Aside0 (∀ W, DrAt W b d A l.length c → Calls Try.prog 121 #[.pointer (some ⟨b, 0, none⟩)] W fun e w' => e = .returned (.bool false) ∧ Drawn0 W w') := ⟨fun W h => by
        have := KSo.out W h
        rwa [decide_eq_false g1] at this⟩
      clear g1 KSo KRe
      go_wp2_with (first | (go_at_call 120; (with_reducible refine (KB2.out _ (HDV.out.below (pw_below_drewN (Below.refl _ _) _))).mono ?_); rintro e w' ⟨rfl, ⟨nd, rfl⟩⟩) | (go_at_call 121; (with_reducible refine (KS1.out _ (HDV.out.below (pw_below_drewN (Below.refl _ _) _))).mono ?_); rintro e w' ⟨rfl, ⟨nd, rfl⟩⟩) | (go_at_call 121; (with_reducible refine (KS1.out _ (DrAt.set (HDV.out.below (pw_below_drewN (Below.refl _ _) _)) hbB)).mono ?_); rintro e w9 ⟨rfl, hD9⟩; have H9 := Aside0.mk (key9 hD9 HDV.out HV.out.2.1 HV.out.2.2 hbB hTB HV.out.1 hwB); clear hD9; have g12 : w9.cell? ⟨b, 12, none⟩ = some (.int .i64 pr) := HE.out.2.2.1 ▸ H9.out.1.at 12 (.int .i64 d.prev.rep) rfl))
      have g8 : w9.cell? ⟨b, 8, none⟩ = some (.int .i64 now) := HE.out.1 ▸ H9.out.1.at 8 (.int .i64 d.now) rfl
      obtain ⟨_, hB9, hT9, hw9⟩ := H9.out
      have j0 := blk_cell hB9 0
      have j1 := blk_cell hB9 1
      have j2 := blk_cell hB9 2
      have j3 := blk_cell hB9 3
      have j4 := blk_cell hB9 4
      simp only [List.getElem?_toArray, List.getElem?_cons_zero, List.getElem?_cons_succ] at j0 j1 j2 j3 j4
      have k0 := blk_cell hT9 0
      have k1 := blk_cell hT9 1
      have k2 := blk_cell hT9 2
      have k3 := blk_cell hT9 3
      have k4 := blk_cell hT9 4
      simp only [zeroC, List.getElem?_toArray, List.getElem?_cons_zero, List.getElem?_cons_succ] at k0 k1 k2 k3 k4
      have l0 := blk_frozen hT9 0
      have l1 := blk_frozen hT9 1
      have l2 := blk_frozen hT9 2
      have l3 := blk_frozen hT9 3
      have l4 := blk_frozen hT9 4
      have H9' := Aside0.mk (And.intro hT9 hw9)
      clear hB9 hT9 hw9
      refine start_ (n := 7) (S := (fun w' => w'.cell? ⟨b, 8, none⟩ = some (.int .i64 now) ∧ w'.cell? ⟨B, 0, none⟩ = some (.int .i64 now) ∧ w'.cell? ⟨B, 1, none⟩ = some (.int .i64 n0) ∧ w'.cell? ⟨B, 2, none⟩ = some (.int .i64 fl) ∧ w'.cell? ⟨B, 3, none⟩ = some (.int .i64 plan) ∧ w'.cell? ⟨B, 4, none⟩ = some (.int .i64 ca))) (ds := []) #[false, false, false, false, false, false, false] (by kernel_rfl) rfl rfl ⟨g8, j0, j1, j2, j3, j4⟩ (fun hHeld => ?_)
      refine pure_ (i := 1) (N := some 65) (v := ?_) (a' := ?_) #[false, true, false, false, false, false, false] rfl rfl (by kernel_rfl) (fun _ _ _ h => h) (Or.inl ⟨by rfl, ?_⟩) ?_ ?_
      rotate_left
      · intro w'
        go_simp
        with_reducible rfl
      rotate_left
      · simp only [Act.put, List.setIfInBounds_toArray, List.set_cons_zero, List.set_cons_succ, i64_w, i32_w]
        rfl
      refine pure_ (i := 2) (N := some 66) (v := ?_) (a' := ?_) #[false, true, true, false, false, false, false] rfl rfl (by kernel_rfl) (fun _ _ _ h => h) (Or.inl ⟨by rfl, ?_⟩) ?_ ?_
      rotate_left
      · intro w'
        go_simp
        with_reducible rfl
      rotate_left
      · simp only [Act.put, List.setIfInBounds_toArray, List.set_cons_zero, List.set_cons_succ, i64_w, i32_w]
        rfl
      refine pure_ (i := 3) (N := some 67) (v := ?_) (a' := ?_) #[false, true, true, true, false, false, false] rfl rfl (by kernel_rfl) (fun _ _ _ h => h) (Or.inl ⟨by rfl, ?_⟩) ?_ ?_
      rotate_left
      · intro w'
        go_simp
        with_reducible rfl
      rotate_left
      · simp only [Act.put, List.setIfInBounds_toArray, List.set_cons_zero, List.set_cons_succ, i64_w, i32_w]
        rfl
      refine take_ (i := 0) (N := some 64) (v := ?_) (a' := ?_) #[true, true, true, true, false, false, false] rfl rfl (by kernel_rfl) (fun _ _ _ h => h) (Or.inl ⟨by rfl, ?_⟩) hHeld ?_ ?_
      rotate_left
      · rintro w' ⟨s0, s1, s2, s3, s4, s5⟩
        go_simp
        with_reducible rfl
      rotate_left
      · simp only [Act.put, List.setIfInBounds_toArray, List.set_cons_zero, List.set_cons_succ, i64_w, i32_w]
        rfl
      refine take_ (i := 4) (N := some 68) (v := ?_) (a' := ?_) #[true, true, true, true, true, false, false] rfl rfl (by kernel_rfl) (fun _ _ _ h => h) (Or.inl ⟨by rfl, ?_⟩) hHeld ?_ ?_
      rotate_left
      · rintro w' ⟨s0, s1, s2, s3, s4, s5⟩
        go_simp
        with_reducible rfl
      rotate_left
      · simp only [Act.put, List.setIfInBounds_toArray, List.set_cons_zero, List.set_cons_succ, i64_w, i32_w]
        rfl
      refine one_ (i := 5) (N := none) #[true, true, true, true, true, true, false] rfl rfl (by kernel_rfl) (by decide) (fun K hK => ?_)
      refine skip_ (w1 := (set5 w9 w.heap.size now n0 fl plan ca).drew) (by rfl) rfl (by unfold set5; first | (go_simp; done) | (go_simp; with_reducible rfl)) ?_
      refine hK.out _ _ ⟨set5_far' hHeld.1 hbT _ _ _ _ _, set5_far' hHeld.2.1 hBT _ _ _ _ _, set5_far' hHeld.2.2.1 hBT _ _ _ _ _, set5_far' hHeld.2.2.2.1 hBT _ _ _ _ _, set5_far' hHeld.2.2.2.2.1 hBT _ _ _ _ _, set5_far' hHeld.2.2.2.2.2 hBT _ _ _ _ _⟩ (fun hHeld => ?_)
      clear hK K
      refine pure_ (i := 6) (N := some 3) (v := ?_) (a' := ?_) #[true, true, true, true, true, true, true] rfl rfl (by kernel_rfl) (fun _ _ _ h => h) (Or.inl ⟨by rfl, ?_⟩) ?_ ?_
      rotate_left
      · intro w'
        go_simp
        with_reducible rfl
      rotate_left
      · simp only [Act.put, List.setIfInBounds_toArray, List.set_cons_zero, List.set_cons_succ, i64_w, i32_w]
        rfl
      refine done_ (by kernel_rfl) ?_
      have hfin : (set5 w9 w.heap.size now n0 fl plan ca).drew.heap[w.heap.size]? = some (.cells #[.int .i64 now, .int .i64 n0, .int .i64 fl, .int .i64 plan, .int .i64 ca] 68 (0, 0)) := blk_drew (set5_blk H9'.out.1 now n0 fl plan ca)
      have hfb : Below w.heap.size w (set5 w9 w.heap.size now n0 fl plan ca).drew := below_drew (set5_below H9'.out.2 (Nat.le_refl _) _ _ _ _ _)
      obtain ⟨Z, hZ⟩ : ∃ Z, (set5 w9 w.heap.size now n0 fl plan ca).drew = Z := ⟨_, rfl⟩
      rw [hZ] at hfin hfb ⊢
      have p0 := blk_cell hfin 0
      have p1 := blk_cell hfin 1
      have p2 := blk_cell hfin 2
      have p3 := blk_cell hfin 3
      have p4 := blk_cell hfin 4
      simp only [List.getElem?_toArray, List.getElem?_cons_zero, List.getElem?_cons_succ] at p0 p1 p2 p3 p4
      have HFB := Aside0.mk hfb
      clear hfin hfb hZ hHeld
      go_wp2
      refine bodyPost_ret (v := .tuple #[.agg #[.int .i64 now, .int .i64 n0, .int .i64 fl, .int .i64 plan, .int .i64 ca], .int .i64 now]) (by simp [results, Try.results84, go_sem, p0, p1, p2, p3, p4]) rfl ?_
      exact ⟨rfl, HFB.out⟩
    have KS1 : Aside0 (∀ W, DrAt W b d A l.length c → Calls Try.prog 121 #[.pointer (some ⟨b, 0, none⟩)] W fun e w' => e = .returned (.bool true) ∧ Drawn0 W w') := ⟨fun W h => by
      have := KSo.out W h
      rwa [decide_eq_true g1] at this⟩
    by_cases g2 : n0 < old
    rotate_left
    · rw [if_neg (fun h => g2 h.2.1)] at hrr
      subst hrr
      have c7 : decide (n0 < old) = false := decide_eq_false g2
      clear g2
      by_cases g4 : n0 = pr
      · rw [if_neg (fun h => h.elim (fun h => h g1) (fun h => h g4))] at hchg
        subst hchg
        have c8 : (n0 == pr) = true := by simp [g4]
        have c8' : (n0 != pr) = false := by simp [g4]
        have c8'' : (n0 = pr) = True := eq_true g4
        clear g1 g4 KSo KRe
        go_wp2_with (first | (go_at_call 120; (with_reducible refine (KB2.out _ (HDV.out.below (pw_below_drewN (Below.refl _ _) _))).mono ?_); rintro e w' ⟨rfl, ⟨nd, rfl⟩⟩) | (go_at_call 121; (with_reducible refine (KS1.out _ (HDV.out.below (pw_below_drewN (Below.refl _ _) _))).mono ?_); rintro e w' ⟨rfl, ⟨nd, rfl⟩⟩) | (go_at_call 121; (with_reducible refine (KS1.out _ (DrAt.set (HDV.out.below (pw_below_drewN (Below.refl _ _) _)) hbB)).mono ?_); rintro e w9 ⟨rfl, hD9⟩; have H9 := Aside0.mk (key9 hD9 HDV.out HV.out.2.1 HV.out.2.2 hbB hTB HV.out.1 hwB); clear hD9; have g12 : w9.cell? ⟨b, 12, none⟩ = some (.int .i64 pr) := HE.out.2.2.1 ▸ H9.out.1.at 12 (.int .i64 d.prev.rep) rfl))
        have g16 : w9.cell? ⟨b, 16, none⟩ = some (.int .i64 chd) := HE.out.2.2.2 ▸ H9.out.1.at 16 (.int .i64 d.changed) rfl
        obtain ⟨_, hB9, hT9, hw9⟩ := H9.out
        have j0 := blk_cell hB9 0
        have j1 := blk_cell hB9 1
        have j2 := blk_cell hB9 2
        have j3 := blk_cell hB9 3
        have j4 := blk_cell hB9 4
        simp only [List.getElem?_toArray, List.getElem?_cons_zero, List.getElem?_cons_succ] at j0 j1 j2 j3 j4
        have k0 := blk_cell hT9 0
        have k1 := blk_cell hT9 1
        have k2 := blk_cell hT9 2
        have k3 := blk_cell hT9 3
        have k4 := blk_cell hT9 4
        simp only [zeroC, List.getElem?_toArray, List.getElem?_cons_zero, List.getElem?_cons_succ] at k0 k1 k2 k3 k4
        have l0 := blk_frozen hT9 0
        have l1 := blk_frozen hT9 1
        have l2 := blk_frozen hT9 2
        have l3 := blk_frozen hT9 3
        have l4 := blk_frozen hT9 4
        have H9' := Aside0.mk (And.intro hT9 hw9)
        clear hB9 hT9 hw9
        refine start_ (n := 7) (S := (fun w' => w'.cell? ⟨b, 16, none⟩ = some (.int .i64 chd) ∧ w'.cell? ⟨B, 0, none⟩ = some (.int .i64 now) ∧ w'.cell? ⟨B, 1, none⟩ = some (.int .i64 n0) ∧ w'.cell? ⟨B, 2, none⟩ = some (.int .i64 fl) ∧ w'.cell? ⟨B, 3, none⟩ = some (.int .i64 plan) ∧ w'.cell? ⟨B, 4, none⟩ = some (.int .i64 ca))) (ds := []) #[false, false, false, false, false, false, false] (by kernel_rfl) rfl rfl ⟨g16, j0, j1, j2, j3, j4⟩ (fun hHeld => ?_)
        refine pure_ (i := 1) (N := some 70) (v := ?_) (a' := ?_) #[false, true, false, false, false, false, false] rfl rfl (by kernel_rfl) (fun _ _ _ h => h) (Or.inl ⟨by rfl, ?_⟩) ?_ ?_
        rotate_left
        · intro w'
          go_simp
          with_reducible rfl
        rotate_left
        · simp only [Act.put, List.setIfInBounds_toArray, List.set_cons_zero, List.set_cons_succ, i64_w, i32_w]
          rfl
        refine pure_ (i := 2) (N := some 71) (v := ?_) (a' := ?_) #[false, true, true, false, false, false, false] rfl rfl (by kernel_rfl) (fun _ _ _ h => h) (Or.inl ⟨by rfl, ?_⟩) ?_ ?_
        rotate_left
        · intro w'
          go_simp
          with_reducible rfl
        rotate_left
        · simp only [Act.put, List.setIfInBounds_toArray, List.set_cons_zero, List.set_cons_succ, i64_w, i32_w]
          rfl
        refine pure_ (i := 3) (N := some 72) (v := ?_) (a' := ?_) #[false, true, true, true, false, false, false] rfl rfl (by kernel_rfl) (fun _ _ _ h => h) (Or.inl ⟨by rfl, ?_⟩) ?_ ?_
        rotate_left
        · intro w'
          go_simp
          with_reducible rfl
        rotate_left
        · simp only [Act.put, List.setIfInBounds_toArray, List.set_cons_zero, List.set_cons_succ, i64_w, i32_w]
          rfl
        refine take_ (i := 0) (N := some 69) (v := ?_) (a' := ?_) #[true, true, true, true, false, false, false] rfl rfl (by kernel_rfl) (fun _ _ _ h => h) (Or.inl ⟨by rfl, ?_⟩) hHeld ?_ ?_
        rotate_left
        · rintro w' ⟨s0, s1, s2, s3, s4, s5⟩
          go_simp
          with_reducible rfl
        rotate_left
        · simp only [Act.put, List.setIfInBounds_toArray, List.set_cons_zero, List.set_cons_succ, i64_w, i32_w]
          rfl
        refine take_ (i := 4) (N := some 73) (v := ?_) (a' := ?_) #[true, true, true, true, true, false, false] rfl rfl (by kernel_rfl) (fun _ _ _ h => h) (Or.inl ⟨by rfl, ?_⟩) hHeld ?_ ?_
        rotate_left
        · rintro w' ⟨s0, s1, s2, s3, s4, s5⟩
          go_simp
          with_reducible rfl
        rotate_left
        · simp only [Act.put, List.setIfInBounds_toArray, List.set_cons_zero, List.set_cons_succ, i64_w, i32_w]
          rfl
        refine one_ (i := 5) (N := none) #[true, true, true, true, true, true, false] rfl rfl (by kernel_rfl) (by decide) (fun K hK => ?_)
        refine skip_ (w1 := (set5 w9 w.heap.size now n0 fl plan ca).drew) (by rfl) rfl (by unfold set5; first | (go_simp; done) | (go_simp; with_reducible rfl)) ?_
        refine hK.out _ _ ⟨set5_far' hHeld.1 hbT _ _ _ _ _, set5_far' hHeld.2.1 hBT _ _ _ _ _, set5_far' hHeld.2.2.1 hBT _ _ _ _ _, set5_far' hHeld.2.2.2.1 hBT _ _ _ _ _, set5_far' hHeld.2.2.2.2.1 hBT _ _ _ _ _, set5_far' hHeld.2.2.2.2.2 hBT _ _ _ _ _⟩ (fun hHeld => ?_)
        clear hK K
        refine pure_ (i := 6) (N := some 3) (v := ?_) (a' := ?_) #[true, true, true, true, true, true, true] rfl rfl (by kernel_rfl) (fun _ _ _ h => h) (Or.inl ⟨by rfl, ?_⟩) ?_ ?_
        rotate_left
        · intro w'
          go_simp
          with_reducible rfl
        rotate_left
        · simp only [Act.put, List.setIfInBounds_toArray, List.set_cons_zero, List.set_cons_succ, i64_w, i32_w]
          rfl
        refine done_ (by kernel_rfl) ?_
        have hfin : (set5 w9 w.heap.size now n0 fl plan ca).drew.heap[w.heap.size]? = some (.cells #[.int .i64 now, .int .i64 n0, .int .i64 fl, .int .i64 plan, .int .i64 ca] 68 (0, 0)) := blk_drew (set5_blk H9'.out.1 now n0 fl plan ca)
        have hfb : Below w.heap.size w (set5 w9 w.heap.size now n0 fl plan ca).drew := below_drew (set5_below H9'.out.2 (Nat.le_refl _) _ _ _ _ _)
        obtain ⟨Z, hZ⟩ : ∃ Z, (set5 w9 w.heap.size now n0 fl plan ca).drew = Z := ⟨_, rfl⟩
        rw [hZ] at hfin hfb ⊢
        have p0 := blk_cell hfin 0
        have p1 := blk_cell hfin 1
        have p2 := blk_cell hfin 2
        have p3 := blk_cell hfin 3
        have p4 := blk_cell hfin 4
        simp only [List.getElem?_toArray, List.getElem?_cons_zero, List.getElem?_cons_succ] at p0 p1 p2 p3 p4
        have HFB := Aside0.mk hfb
        clear hfin hfb hZ hHeld
        go_wp2
        refine bodyPost_ret (v := .tuple #[.agg #[.int .i64 now, .int .i64 n0, .int .i64 fl, .int .i64 plan, .int .i64 ca], .int .i64 chd]) (by simp [results, Try.results84, go_sem, p0, p1, p2, p3, p4]) rfl ?_
        exact ⟨rfl, HFB.out⟩
      · rw [if_pos (.inr g4)] at hchg
        subst hchg
        have c8 : (n0 == pr) = false := by simp [g4]
        have c8' : (n0 != pr) = true := by simp [g4]
        have c8'' : (n0 = pr) = False := eq_false g4
        clear g1 g4 KSo KRe
        go_wp2_with (first | (go_at_call 120; (with_reducible refine (KB2.out _ (HDV.out.below (pw_below_drewN (Below.refl _ _) _))).mono ?_); rintro e w' ⟨rfl, ⟨nd, rfl⟩⟩) | (go_at_call 121; (with_reducible refine (KS1.out _ (HDV.out.below (pw_below_drewN (Below.refl _ _) _))).mono ?_); rintro e w' ⟨rfl, ⟨nd, rfl⟩⟩) | (go_at_call 121; (with_reducible refine (KS1.out _ (DrAt.set (HDV.out.below (pw_below_drewN (Below.refl _ _) _)) hbB)).mono ?_); rintro e w9 ⟨rfl, hD9⟩; have H9 := Aside0.mk (key9 hD9 HDV.out HV.out.2.1 HV.out.2.2 hbB hTB HV.out.1 hwB); clear hD9; have g12 : w9.cell? ⟨b, 12, none⟩ = some (.int .i64 pr) := HE.out.2.2.1 ▸ H9.out.1.at 12 (.int .i64 d.prev.rep) rfl))
        have g8 : w9.cell? ⟨b, 8, none⟩ = some (.int .i64 now) := HE.out.1 ▸ H9.out.1.at 8 (.int .i64 d.now) rfl
        obtain ⟨_, hB9, hT9, hw9⟩ := H9.out
        have j0 := blk_cell hB9 0
        have j1 := blk_cell hB9 1
        have j2 := blk_cell hB9 2
        have j3 := blk_cell hB9 3
        have j4 := blk_cell hB9 4
        simp only [List.getElem?_toArray, List.getElem?_cons_zero, List.getElem?_cons_succ] at j0 j1 j2 j3 j4
        have k0 := blk_cell hT9 0
        have k1 := blk_cell hT9 1
        have k2 := blk_cell hT9 2
        have k3 := blk_cell hT9 3
        have k4 := blk_cell hT9 4
        simp only [zeroC, List.getElem?_toArray, List.getElem?_cons_zero, List.getElem?_cons_succ] at k0 k1 k2 k3 k4
        have l0 := blk_frozen hT9 0
        have l1 := blk_frozen hT9 1
        have l2 := blk_frozen hT9 2
        have l3 := blk_frozen hT9 3
        have l4 := blk_frozen hT9 4
        have H9' := Aside0.mk (And.intro hT9 hw9)
        clear hB9 hT9 hw9
        refine start_ (n := 7) (S := (fun w' => w'.cell? ⟨b, 8, none⟩ = some (.int .i64 now) ∧ w'.cell? ⟨B, 0, none⟩ = some (.int .i64 now) ∧ w'.cell? ⟨B, 1, none⟩ = some (.int .i64 n0) ∧ w'.cell? ⟨B, 2, none⟩ = some (.int .i64 fl) ∧ w'.cell? ⟨B, 3, none⟩ = some (.int .i64 plan) ∧ w'.cell? ⟨B, 4, none⟩ = some (.int .i64 ca))) (ds := []) #[false, false, false, false, false, false, false] (by kernel_rfl) rfl rfl ⟨g8, j0, j1, j2, j3, j4⟩ (fun hHeld => ?_)
        refine pure_ (i := 1) (N := some 65) (v := ?_) (a' := ?_) #[false, true, false, false, false, false, false] rfl rfl (by kernel_rfl) (fun _ _ _ h => h) (Or.inl ⟨by rfl, ?_⟩) ?_ ?_
        rotate_left
        · intro w'
          go_simp
          with_reducible rfl
        rotate_left
        · simp only [Act.put, List.setIfInBounds_toArray, List.set_cons_zero, List.set_cons_succ, i64_w, i32_w]
          rfl
        refine pure_ (i := 2) (N := some 66) (v := ?_) (a' := ?_) #[false, true, true, false, false, false, false] rfl rfl (by kernel_rfl) (fun _ _ _ h => h) (Or.inl ⟨by rfl, ?_⟩) ?_ ?_
        rotate_left
        · intro w'
          go_simp
          with_reducible rfl
        rotate_left
        · simp only [Act.put, List.setIfInBounds_toArray, List.set_cons_zero, List.set_cons_succ, i64_w, i32_w]
          rfl
        refine pure_ (i := 3) (N := some 67) (v := ?_) (a' := ?_) #[false, true, true, true, false, false, false] rfl rfl (by kernel_rfl) (fun _ _ _ h => h) (Or.inl ⟨by rfl, ?_⟩) ?_ ?_
        rotate_left
        · intro w'
          go_simp
          with_reducible rfl
        rotate_left
        · simp only [Act.put, List.setIfInBounds_toArray, List.set_cons_zero, List.set_cons_succ, i64_w, i32_w]
          rfl
        refine take_ (i := 0) (N := some 64) (v := ?_) (a' := ?_) #[true, true, true, true, false, false, false] rfl rfl (by kernel_rfl) (fun _ _ _ h => h) (Or.inl ⟨by rfl, ?_⟩) hHeld ?_ ?_
        rotate_left
        · rintro w' ⟨s0, s1, s2, s3, s4, s5⟩
          go_simp
          with_reducible rfl
        rotate_left
        · simp only [Act.put, List.setIfInBounds_toArray, List.set_cons_zero, List.set_cons_succ, i64_w, i32_w]
          rfl
        refine take_ (i := 4) (N := some 68) (v := ?_) (a' := ?_) #[true, true, true, true, true, false, false] rfl rfl (by kernel_rfl) (fun _ _ _ h => h) (Or.inl ⟨by rfl, ?_⟩) hHeld ?_ ?_
        rotate_left
        · rintro w' ⟨s0, s1, s2, s3, s4, s5⟩
          go_simp
          with_reducible rfl
        rotate_left
        · simp only [Act.put, List.setIfInBounds_toArray, List.set_cons_zero, List.set_cons_succ, i64_w, i32_w]
          rfl
        refine one_ (i := 5) (N := none) #[true, true, true, true, true, true, false] rfl rfl (by kernel_rfl) (by decide) (fun K hK => ?_)
        refine skip_ (w1 := (set5 w9 w.heap.size now n0 fl plan ca).drew) (by rfl) rfl (by unfold set5; first | (go_simp; done) | (go_simp; with_reducible rfl)) ?_
        refine hK.out _ _ ⟨set5_far' hHeld.1 hbT _ _ _ _ _, set5_far' hHeld.2.1 hBT _ _ _ _ _, set5_far' hHeld.2.2.1 hBT _ _ _ _ _, set5_far' hHeld.2.2.2.1 hBT _ _ _ _ _, set5_far' hHeld.2.2.2.2.1 hBT _ _ _ _ _, set5_far' hHeld.2.2.2.2.2 hBT _ _ _ _ _⟩ (fun hHeld => ?_)
        clear hK K
        refine pure_ (i := 6) (N := some 3) (v := ?_) (a' := ?_) #[true, true, true, true, true, true, true] rfl rfl (by kernel_rfl) (fun _ _ _ h => h) (Or.inl ⟨by rfl, ?_⟩) ?_ ?_
        rotate_left
        · intro w'
          go_simp
          with_reducible rfl
        rotate_left
        · simp only [Act.put, List.setIfInBounds_toArray, List.set_cons_zero, List.set_cons_succ, i64_w, i32_w]
          rfl
        refine done_ (by kernel_rfl) ?_
        have hfin : (set5 w9 w.heap.size now n0 fl plan ca).drew.heap[w.heap.size]? = some (.cells #[.int .i64 now, .int .i64 n0, .int .i64 fl, .int .i64 plan, .int .i64 ca] 68 (0, 0)) := blk_drew (set5_blk H9'.out.1 now n0 fl plan ca)
        have hfb : Below w.heap.size w (set5 w9 w.heap.size now n0 fl plan ca).drew := below_drew (set5_below H9'.out.2 (Nat.le_refl _) _ _ _ _ _)
        obtain ⟨Z, hZ⟩ : ∃ Z, (set5 w9 w.heap.size now n0 fl plan ca).drew = Z := ⟨_, rfl⟩
        rw [hZ] at hfin hfb ⊢
        have p0 := blk_cell hfin 0
        have p1 := blk_cell hfin 1
        have p2 := blk_cell hfin 2
        have p3 := blk_cell hfin 3
        have p4 := blk_cell hfin 4
        simp only [List.getElem?_toArray, List.getElem?_cons_zero, List.getElem?_cons_succ] at p0 p1 p2 p3 p4
        have HFB := Aside0.mk hfb
        clear hfin hfb hZ hHeld
        go_wp2
        refine bodyPost_ret (v := .tuple #[.agg #[.int .i64 now, .int .i64 n0, .int .i64 fl, .int .i64 plan, .int .i64 ca], .int .i64 now]) (by simp [results, Try.results84, go_sem, p0, p1, p2, p3, p4]) rfl ?_
        exact ⟨rfl, HFB.out⟩
    have c7 : decide (n0 < old) = true := decide_eq_true g2
    by_cases g3 : d.rests
    rotate_left
    · rw [if_neg (fun h => g3 h.2.2)] at hrr
      subst hrr
      have KR1 : Aside0 (∀ W, DrAt W b d A l.length c → Calls Try.prog 122 #[.pointer (some ⟨b, 0, none⟩)] W fun e w' => e = .returned (.bool false) ∧ Drawn0 W w') := ⟨fun W h => by
        have := KRe.out W h
        rwa [decide_eq_false g3] at this⟩
      clear g2 g3
      by_cases g4 : n0 = pr
      · rw [if_neg (fun h => h.elim (fun h => h g1) (fun h => h g4))] at hchg
        subst hchg
        have c8 : (n0 == pr) = true := by simp [g4]
        have c8' : (n0 != pr) = false := by simp [g4]
        have c8'' : (n0 = pr) = True := eq_true g4
        clear g1 g4 KSo KRe
        go_wp2_with (first | (go_at_call 120; (with_reducible refine (KB2.out _ (HDV.out.below (pw_below_drewN (Below.refl _ _) _))).mono ?_); rintro e w' ⟨rfl, ⟨nd, rfl⟩⟩) | (go_at_call 121; (with_reducible refine (KS1.out _ (HDV.out.below (pw_below_drewN (Below.refl _ _) _))).mono ?_); rintro e w' ⟨rfl, ⟨nd, rfl⟩⟩) | (go_at_call 121; (with_reducible refine (KS1.out _ (DrAt.set (HDV.out.below (pw_below_drewN (Below.refl _ _) _)) hbB)).mono ?_); rintro e w9 ⟨rfl, hD9⟩; have H9 := Aside0.mk (key9 hD9 HDV.out HV.out.2.1 HV.out.2.2 hbB hTB HV.out.1 hwB); clear hD9; have g12 : w9.cell? ⟨b, 12, none⟩ = some (.int .i64 pr) := HE.out.2.2.1 ▸ H9.out.1.at 12 (.int .i64 d.prev.rep) rfl) | (go_at_call 122; (with_reducible refine (KR1.out _ (HDV.out.below (pw_below_drewN (Below.refl _ _) _))).mono ?_); rintro e w' ⟨rfl, ⟨nd, rfl⟩⟩))
        have g16 : w9.cell? ⟨b, 16, none⟩ = some (.int .i64 chd) := HE.out.2.2.2 ▸ H9.out.1.at 16 (.int .i64 d.changed) rfl
        obtain ⟨_, hB9, hT9, hw9⟩ := H9.out
        have j0 := blk_cell hB9 0
        have j1 := blk_cell hB9 1
        have j2 := blk_cell hB9 2
        have j3 := blk_cell hB9 3
        have j4 := blk_cell hB9 4
        simp only [List.getElem?_toArray, List.getElem?_cons_zero, List.getElem?_cons_succ] at j0 j1 j2 j3 j4
        have k0 := blk_cell hT9 0
        have k1 := blk_cell hT9 1
        have k2 := blk_cell hT9 2
        have k3 := blk_cell hT9 3
        have k4 := blk_cell hT9 4
        simp only [zeroC, List.getElem?_toArray, List.getElem?_cons_zero, List.getElem?_cons_succ] at k0 k1 k2 k3 k4
        have l0 := blk_frozen hT9 0
        have l1 := blk_frozen hT9 1
        have l2 := blk_frozen hT9 2
        have l3 := blk_frozen hT9 3
        have l4 := blk_frozen hT9 4
        have H9' := Aside0.mk (And.intro hT9 hw9)
        clear hB9 hT9 hw9
        refine start_ (n := 7) (S := (fun w' => w'.cell? ⟨b, 16, none⟩ = some (.int .i64 chd) ∧ w'.cell? ⟨B, 0, none⟩ = some (.int .i64 now) ∧ w'.cell? ⟨B, 1, none⟩ = some (.int .i64 n0) ∧ w'.cell? ⟨B, 2, none⟩ = some (.int .i64 fl) ∧ w'.cell? ⟨B, 3, none⟩ = some (.int .i64 plan) ∧ w'.cell? ⟨B, 4, none⟩ = some (.int .i64 ca))) (ds := []) #[false, false, false, false, false, false, false] (by kernel_rfl) rfl rfl ⟨g16, j0, j1, j2, j3, j4⟩ (fun hHeld => ?_)
        refine pure_ (i := 1) (N := some 70) (v := ?_) (a' := ?_) #[false, true, false, false, false, false, false] rfl rfl (by kernel_rfl) (fun _ _ _ h => h) (Or.inl ⟨by rfl, ?_⟩) ?_ ?_
        rotate_left
        · intro w'
          go_simp
          with_reducible rfl
        rotate_left
        · simp only [Act.put, List.setIfInBounds_toArray, List.set_cons_zero, List.set_cons_succ, i64_w, i32_w]
          rfl
        refine pure_ (i := 2) (N := some 71) (v := ?_) (a' := ?_) #[false, true, true, false, false, false, false] rfl rfl (by kernel_rfl) (fun _ _ _ h => h) (Or.inl ⟨by rfl, ?_⟩) ?_ ?_
        rotate_left
        · intro w'
          go_simp
          with_reducible rfl
        rotate_left
        · simp only [Act.put, List.setIfInBounds_toArray, List.set_cons_zero, List.set_cons_succ, i64_w, i32_w]
          rfl
        refine pure_ (i := 3) (N := some 72) (v := ?_) (a' := ?_) #[false, true, true, true, false, false, false] rfl rfl (by kernel_rfl) (fun _ _ _ h => h) (Or.inl ⟨by rfl, ?_⟩) ?_ ?_
        rotate_left
        · intro w'
          go_simp
          with_reducible rfl
        rotate_left
        · simp only [Act.put, List.setIfInBounds_toArray, List.set_cons_zero, List.set_cons_succ, i64_w, i32_w]
          rfl
        refine take_ (i := 0) (N := some 69) (v := ?_) (a' := ?_) #[true, true, true, true, false, false, false] rfl rfl (by kernel_rfl) (fun _ _ _ h => h) (Or.inl ⟨by rfl, ?_⟩) hHeld ?_ ?_
        rotate_left
        · rintro w' ⟨s0, s1, s2, s3, s4, s5⟩
          go_simp
          with_reducible rfl
        rotate_left
        · simp only [Act.put, List.setIfInBounds_toArray, List.set_cons_zero, List.set_cons_succ, i64_w, i32_w]
          rfl
        refine take_ (i := 4) (N := some 73) (v := ?_) (a' := ?_) #[true, true, true, true, true, false, false] rfl rfl (by kernel_rfl) (fun _ _ _ h => h) (Or.inl ⟨by rfl, ?_⟩) hHeld ?_ ?_
        rotate_left
        · rintro w' ⟨s0, s1, s2, s3, s4, s5⟩
          go_simp
          with_reducible rfl
        rotate_left
        · simp only [Act.put, List.setIfInBounds_toArray, List.set_cons_zero, List.set_cons_succ, i64_w, i32_w]
          rfl
        refine one_ (i := 5) (N := none) #[true, true, true, true, true, true, false] rfl rfl (by kernel_rfl) (by decide) (fun K hK => ?_)
        refine skip_ (w1 := (set5 w9 w.heap.size now n0 fl plan ca).drew) (by rfl) rfl (by unfold set5; first | (go_simp; done) | (go_simp; with_reducible rfl)) ?_
        refine hK.out _ _ ⟨set5_far' hHeld.1 hbT _ _ _ _ _, set5_far' hHeld.2.1 hBT _ _ _ _ _, set5_far' hHeld.2.2.1 hBT _ _ _ _ _, set5_far' hHeld.2.2.2.1 hBT _ _ _ _ _, set5_far' hHeld.2.2.2.2.1 hBT _ _ _ _ _, set5_far' hHeld.2.2.2.2.2 hBT _ _ _ _ _⟩ (fun hHeld => ?_)
        clear hK K
        refine pure_ (i := 6) (N := some 3) (v := ?_) (a' := ?_) #[true, true, true, true, true, true, true] rfl rfl (by kernel_rfl) (fun _ _ _ h => h) (Or.inl ⟨by rfl, ?_⟩) ?_ ?_
        rotate_left
        · intro w'
          go_simp
          with_reducible rfl
        rotate_left
        · simp only [Act.put, List.setIfInBounds_toArray, List.set_cons_zero, List.set_cons_succ, i64_w, i32_w]
          rfl
        refine done_ (by kernel_rfl) ?_
        have hfin : (set5 w9 w.heap.size now n0 fl plan ca).drew.heap[w.heap.size]? = some (.cells #[.int .i64 now, .int .i64 n0, .int .i64 fl, .int .i64 plan, .int .i64 ca] 68 (0, 0)) := blk_drew (set5_blk H9'.out.1 now n0 fl plan ca)
        have hfb : Below w.heap.size w (set5 w9 w.heap.size now n0 fl plan ca).drew := below_drew (set5_below H9'.out.2 (Nat.le_refl _) _ _ _ _ _)
        obtain ⟨Z, hZ⟩ : ∃ Z, (set5 w9 w.heap.size now n0 fl plan ca).drew = Z := ⟨_, rfl⟩
        rw [hZ] at hfin hfb ⊢
        have p0 := blk_cell hfin 0
        have p1 := blk_cell hfin 1
        have p2 := blk_cell hfin 2
        have p3 := blk_cell hfin 3
        have p4 := blk_cell hfin 4
        simp only [List.getElem?_toArray, List.getElem?_cons_zero, List.getElem?_cons_succ] at p0 p1 p2 p3 p4
        have HFB := Aside0.mk hfb
        clear hfin hfb hZ hHeld
        go_wp2
        refine bodyPost_ret (v := .tuple #[.agg #[.int .i64 now, .int .i64 n0, .int .i64 fl, .int .i64 plan, .int .i64 ca], .int .i64 chd]) (by simp [results, Try.results84, go_sem, p0, p1, p2, p3, p4]) rfl ?_
        exact ⟨rfl, HFB.out⟩
      · rw [if_pos (.inr g4)] at hchg
        subst hchg
        have c8 : (n0 == pr) = false := by simp [g4]
        have c8' : (n0 != pr) = true := by simp [g4]
        have c8'' : (n0 = pr) = False := eq_false g4
        clear g1 g4 KSo KRe
        go_wp2_with (first | (go_at_call 120; (with_reducible refine (KB2.out _ (HDV.out.below (pw_below_drewN (Below.refl _ _) _))).mono ?_); rintro e w' ⟨rfl, ⟨nd, rfl⟩⟩) | (go_at_call 121; (with_reducible refine (KS1.out _ (HDV.out.below (pw_below_drewN (Below.refl _ _) _))).mono ?_); rintro e w' ⟨rfl, ⟨nd, rfl⟩⟩) | (go_at_call 121; (with_reducible refine (KS1.out _ (DrAt.set (HDV.out.below (pw_below_drewN (Below.refl _ _) _)) hbB)).mono ?_); rintro e w9 ⟨rfl, hD9⟩; have H9 := Aside0.mk (key9 hD9 HDV.out HV.out.2.1 HV.out.2.2 hbB hTB HV.out.1 hwB); clear hD9; have g12 : w9.cell? ⟨b, 12, none⟩ = some (.int .i64 pr) := HE.out.2.2.1 ▸ H9.out.1.at 12 (.int .i64 d.prev.rep) rfl) | (go_at_call 122; (with_reducible refine (KR1.out _ (HDV.out.below (pw_below_drewN (Below.refl _ _) _))).mono ?_); rintro e w' ⟨rfl, ⟨nd, rfl⟩⟩))
        have g8 : w9.cell? ⟨b, 8, none⟩ = some (.int .i64 now) := HE.out.1 ▸ H9.out.1.at 8 (.int .i64 d.now) rfl
        obtain ⟨_, hB9, hT9, hw9⟩ := H9.out
        have j0 := blk_cell hB9 0
        have j1 := blk_cell hB9 1
        have j2 := blk_cell hB9 2
        have j3 := blk_cell hB9 3
        have j4 := blk_cell hB9 4
        simp only [List.getElem?_toArray, List.getElem?_cons_zero, List.getElem?_cons_succ] at j0 j1 j2 j3 j4
        have k0 := blk_cell hT9 0
        have k1 := blk_cell hT9 1
        have k2 := blk_cell hT9 2
        have k3 := blk_cell hT9 3
        have k4 := blk_cell hT9 4
        simp only [zeroC, List.getElem?_toArray, List.getElem?_cons_zero, List.getElem?_cons_succ] at k0 k1 k2 k3 k4
        have l0 := blk_frozen hT9 0
        have l1 := blk_frozen hT9 1
        have l2 := blk_frozen hT9 2
        have l3 := blk_frozen hT9 3
        have l4 := blk_frozen hT9 4
        have H9' := Aside0.mk (And.intro hT9 hw9)
        clear hB9 hT9 hw9
        refine start_ (n := 7) (S := (fun w' => w'.cell? ⟨b, 8, none⟩ = some (.int .i64 now) ∧ w'.cell? ⟨B, 0, none⟩ = some (.int .i64 now) ∧ w'.cell? ⟨B, 1, none⟩ = some (.int .i64 n0) ∧ w'.cell? ⟨B, 2, none⟩ = some (.int .i64 fl) ∧ w'.cell? ⟨B, 3, none⟩ = some (.int .i64 plan) ∧ w'.cell? ⟨B, 4, none⟩ = some (.int .i64 ca))) (ds := []) #[false, false, false, false, false, false, false] (by kernel_rfl) rfl rfl ⟨g8, j0, j1, j2, j3, j4⟩ (fun hHeld => ?_)
        refine pure_ (i := 1) (N := some 65) (v := ?_) (a' := ?_) #[false, true, false, false, false, false, false] rfl rfl (by kernel_rfl) (fun _ _ _ h => h) (Or.inl ⟨by rfl, ?_⟩) ?_ ?_
        rotate_left
        · intro w'
          go_simp
          with_reducible rfl
        rotate_left
        · simp only [Act.put, List.setIfInBounds_toArray, List.set_cons_zero, List.set_cons_succ, i64_w, i32_w]
          rfl
        refine pure_ (i := 2) (N := some 66) (v := ?_) (a' := ?_) #[false, true, true, false, false, false, false] rfl rfl (by kernel_rfl) (fun _ _ _ h => h) (Or.inl ⟨by rfl, ?_⟩) ?_ ?_
        rotate_left
        · intro w'
          go_simp
          with_reducible rfl
        rotate_left
        · simp only [Act.put, List.setIfInBounds_toArray, List.set_cons_zero, List.set_cons_succ, i64_w, i32_w]
          rfl
        refine pure_ (i := 3) (N := some 67) (v := ?_) (a' := ?_) #[false, true, true, true, false, false, false] rfl rfl (by kernel_rfl) (fun _ _ _ h => h) (Or.inl ⟨by rfl, ?_⟩) ?_ ?_
        rotate_left
        · intro w'
          go_simp
          with_reducible rfl
        rotate_left
        · simp only [Act.put, List.setIfInBounds_toArray, List.set_cons_zero, List.set_cons_succ, i64_w, i32_w]
          rfl
        refine take_ (i := 0) (N := some 64) (v := ?_) (a' := ?_) #[true, true, true, true, false, false, false] rfl rfl (by kernel_rfl) (fun _ _ _ h => h) (Or.inl ⟨by rfl, ?_⟩) hHeld ?_ ?_
        rotate_left
        · rintro w' ⟨s0, s1, s2, s3, s4, s5⟩
          go_simp
          with_reducible rfl
        rotate_left
        · simp only [Act.put, List.setIfInBounds_toArray, List.set_cons_zero, List.set_cons_succ, i64_w, i32_w]
          rfl
        refine take_ (i := 4) (N := some 68) (v := ?_) (a' := ?_) #[true, true, true, true, true, false, false] rfl rfl (by kernel_rfl) (fun _ _ _ h => h) (Or.inl ⟨by rfl, ?_⟩) hHeld ?_ ?_
        rotate_left
        · rintro w' ⟨s0, s1, s2, s3, s4, s5⟩
          go_simp
          with_reducible rfl
        rotate_left
        · simp only [Act.put, List.setIfInBounds_toArray, List.set_cons_zero, List.set_cons_succ, i64_w, i32_w]
          rfl
        refine one_ (i := 5) (N := none) #[true, true, true, true, true, true, false] rfl rfl (by kernel_rfl) (by decide) (fun K hK => ?_)
        refine skip_ (w1 := (set5 w9 w.heap.size now n0 fl plan ca).drew) (by rfl) rfl (by unfold set5; first | (go_simp; done) | (go_simp; with_reducible rfl)) ?_
        refine hK.out _ _ ⟨set5_far' hHeld.1 hbT _ _ _ _ _, set5_far' hHeld.2.1 hBT _ _ _ _ _, set5_far' hHeld.2.2.1 hBT _ _ _ _ _, set5_far' hHeld.2.2.2.1 hBT _ _ _ _ _, set5_far' hHeld.2.2.2.2.1 hBT _ _ _ _ _, set5_far' hHeld.2.2.2.2.2 hBT _ _ _ _ _⟩ (fun hHeld => ?_)
        clear hK K
        refine pure_ (i := 6) (N := some 3) (v := ?_) (a' := ?_) #[true, true, true, true, true, true, true] rfl rfl (by kernel_rfl) (fun _ _ _ h => h) (Or.inl ⟨by rfl, ?_⟩) ?_ ?_
        rotate_left
        · intro w'
          go_simp
          with_reducible rfl
        rotate_left
        · simp only [Act.put, List.setIfInBounds_toArray, List.set_cons_zero, List.set_cons_succ, i64_w, i32_w]
          rfl
        refine done_ (by kernel_rfl) ?_
        have hfin : (set5 w9 w.heap.size now n0 fl plan ca).drew.heap[w.heap.size]? = some (.cells #[.int .i64 now, .int .i64 n0, .int .i64 fl, .int .i64 plan, .int .i64 ca] 68 (0, 0)) := blk_drew (set5_blk H9'.out.1 now n0 fl plan ca)
        have hfb : Below w.heap.size w (set5 w9 w.heap.size now n0 fl plan ca).drew := below_drew (set5_below H9'.out.2 (Nat.le_refl _) _ _ _ _ _)
        obtain ⟨Z, hZ⟩ : ∃ Z, (set5 w9 w.heap.size now n0 fl plan ca).drew = Z := ⟨_, rfl⟩
        rw [hZ] at hfin hfb ⊢
        have p0 := blk_cell hfin 0
        have p1 := blk_cell hfin 1
        have p2 := blk_cell hfin 2
        have p3 := blk_cell hfin 3
        have p4 := blk_cell hfin 4
        simp only [List.getElem?_toArray, List.getElem?_cons_zero, List.getElem?_cons_succ] at p0 p1 p2 p3 p4
        have HFB := Aside0.mk hfb
        clear hfin hfb hZ hHeld
        go_wp2
        refine bodyPost_ret (v := .tuple #[.agg #[.int .i64 now, .int .i64 n0, .int .i64 fl, .int .i64 plan, .int .i64 ca], .int .i64 now]) (by simp [results, Try.results84, go_sem, p0, p1, p2, p3, p4]) rfl ?_
        exact ⟨rfl, HFB.out⟩
    rw [if_pos ⟨g1, g2, g3⟩] at hrr
    subst hrr
    have KR1 : Aside0 (∀ W, DrAt W b d A l.length c → Calls Try.prog 122 #[.pointer (some ⟨b, 0, none⟩)] W fun e w' => e = .returned (.bool true) ∧ Drawn0 W w') := ⟨fun W h => by
      have := KRe.out W h
      rwa [decide_eq_true g3] at this⟩
    clear g2 g3
    by_cases g4 : old = pr
    · rw [if_neg (fun h => h.elim (fun h => h g1) (fun h => h g4))] at hchg
      subst hchg
      have c8 : (old == pr) = true := by simp [g4]
      have c8' : (old != pr) = false := by simp [g4]
      have c8'' : (old = pr) = True := eq_true g4
      clear g1 g4 KSo KRe
      go_wp2_with (first | (go_at_call 120; (with_reducible refine (KB2.out _ (HDV.out.below (pw_below_drewN (Below.refl _ _) _))).mono ?_); rintro e w' ⟨rfl, ⟨nd, rfl⟩⟩) | (go_at_call 121; (with_reducible refine (KS1.out _ (HDV.out.below (pw_below_drewN (Below.refl _ _) _))).mono ?_); rintro e w' ⟨rfl, ⟨nd, rfl⟩⟩) | (go_at_call 121; (with_reducible refine (KS1.out _ (DrAt.set (HDV.out.below (pw_below_drewN (Below.refl _ _) _)) hbB)).mono ?_); rintro e w9 ⟨rfl, hD9⟩; have H9 := Aside0.mk (key9 hD9 HDV.out HV.out.2.1 HV.out.2.2 hbB hTB HV.out.1 hwB); clear hD9; have g12 : w9.cell? ⟨b, 12, none⟩ = some (.int .i64 pr) := HE.out.2.2.1 ▸ H9.out.1.at 12 (.int .i64 d.prev.rep) rfl) | (go_at_call 122; (with_reducible refine (KR1.out _ (HDV.out.below (pw_below_drewN (Below.refl _ _) _))).mono ?_); rintro e w' ⟨rfl, ⟨nd, rfl⟩⟩))
      have g16 : w9.cell? ⟨b, 16, none⟩ = some (.int .i64 chd) := HE.out.2.2.2 ▸ H9.out.1.at 16 (.int .i64 d.changed) rfl
      obtain ⟨_, hB9, hT9, hw9⟩ := H9.out
      have j0 := blk_cell hB9 0
      have j1 := blk_cell hB9 1
      have j2 := blk_cell hB9 2
      have j3 := blk_cell hB9 3
      have j4 := blk_cell hB9 4
      simp only [List.getElem?_toArray, List.getElem?_cons_zero, List.getElem?_cons_succ] at j0 j1 j2 j3 j4
      have k0 := blk_cell hT9 0
      have k1 := blk_cell hT9 1
      have k2 := blk_cell hT9 2
      have k3 := blk_cell hT9 3
      have k4 := blk_cell hT9 4
      simp only [zeroC, List.getElem?_toArray, List.getElem?_cons_zero, List.getElem?_cons_succ] at k0 k1 k2 k3 k4
      have l0 := blk_frozen hT9 0
      have l1 := blk_frozen hT9 1
      have l2 := blk_frozen hT9 2
      have l3 := blk_frozen hT9 3
      have l4 := blk_frozen hT9 4
      have H9' := Aside0.mk (And.intro hT9 hw9)
      clear hB9 hT9 hw9
      refine start_ (n := 7) (S := (fun w' => w'.cell? ⟨b, 16, none⟩ = some (.int .i64 chd) ∧ w'.cell? ⟨B, 0, none⟩ = some (.int .i64 now) ∧ w'.cell? ⟨B, 1, none⟩ = some (.int .i64 old) ∧ w'.cell? ⟨B, 2, none⟩ = some (.int .i64 fl) ∧ w'.cell? ⟨B, 3, none⟩ = some (.int .i64 plan) ∧ w'.cell? ⟨B, 4, none⟩ = some (.int .i64 ca))) (ds := []) #[false, false, false, false, false, false, false] (by kernel_rfl) rfl rfl ⟨g16, j0, j1, j2, j3, j4⟩ (fun hHeld => ?_)
      refine pure_ (i := 1) (N := some 70) (v := ?_) (a' := ?_) #[false, true, false, false, false, false, false] rfl rfl (by kernel_rfl) (fun _ _ _ h => h) (Or.inl ⟨by rfl, ?_⟩) ?_ ?_
      rotate_left
      · intro w'
        go_simp
        with_reducible rfl
      rotate_left
      · simp only [Act.put, List.setIfInBounds_toArray, List.set_cons_zero, List.set_cons_succ, i64_w, i32_w]
        rfl
      refine pure_ (i := 2) (N := some 71) (v := ?_) (a' := ?_) #[false, true, true, false, false, false, false] rfl rfl (by kernel_rfl) (fun _ _ _ h => h) (Or.inl ⟨by rfl, ?_⟩) ?_ ?_
      rotate_left
      · intro w'
        go_simp
        with_reducible rfl
      rotate_left
      · simp only [Act.put, List.setIfInBounds_toArray, List.set_cons_zero, List.set_cons_succ, i64_w, i32_w]
        rfl
      refine pure_ (i := 3) (N := some 72) (v := ?_) (a' := ?_) #[false, true, true, true, false, false, false] rfl rfl (by kernel_rfl) (fun _ _ _ h => h) (Or.inl ⟨by rfl, ?_⟩) ?_ ?_
      rotate_left
      · intro w'
        go_simp
        with_reducible rfl
      rotate_left
      · simp only [Act.put, List.setIfInBounds_toArray, List.set_cons_zero, List.set_cons_succ, i64_w, i32_w]
        rfl
      refine take_ (i := 0) (N := some 69) (v := ?_) (a' := ?_) #[true, true, true, true, false, false, false] rfl rfl (by kernel_rfl) (fun _ _ _ h => h) (Or.inl ⟨by rfl, ?_⟩) hHeld ?_ ?_
      rotate_left
      · rintro w' ⟨s0, s1, s2, s3, s4, s5⟩
        go_simp
        with_reducible rfl
      rotate_left
      · simp only [Act.put, List.setIfInBounds_toArray, List.set_cons_zero, List.set_cons_succ, i64_w, i32_w]
        rfl
      refine take_ (i := 4) (N := some 73) (v := ?_) (a' := ?_) #[true, true, true, true, true, false, false] rfl rfl (by kernel_rfl) (fun _ _ _ h => h) (Or.inl ⟨by rfl, ?_⟩) hHeld ?_ ?_
      rotate_left
      · rintro w' ⟨s0, s1, s2, s3, s4, s5⟩
        go_simp
        with_reducible rfl
      rotate_left
      · simp only [Act.put, List.setIfInBounds_toArray, List.set_cons_zero, List.set_cons_succ, i64_w, i32_w]
        rfl
      refine one_ (i := 5) (N := none) #[true, true, true, true, true, true, false] rfl rfl (by kernel_rfl) (by decide) (fun K hK => ?_)
      refine skip_ (w1 := (set5 w9 w.heap.size now old fl plan ca).drew) (by rfl) rfl (by unfold set5; first | (go_simp; done) | (go_simp; with_reducible rfl)) ?_
      refine hK.out _ _ ⟨set5_far' hHeld.1 hbT _ _ _ _ _, set5_far' hHeld.2.1 hBT _ _ _ _ _, set5_far' hHeld.2.2.1 hBT _ _ _ _ _, set5_far' hHeld.2.2.2.1 hBT _ _ _ _ _, set5_far' hHeld.2.2.2.2.1 hBT _ _ _ _ _, set5_far' hHeld.2.2.2.2.2 hBT _ _ _ _ _⟩ (fun hHeld => ?_)
      clear hK K
      refine pure_ (i := 6) (N := some 3) (v := ?_) (a' := ?_) #[true, true, true, true, true, true, true] rfl rfl (by kernel_rfl) (fun _ _ _ h => h) (Or.inl ⟨by rfl, ?_⟩) ?_ ?_
      rotate_left
      · intro w'
        go_simp
        with_reducible rfl
      rotate_left
      · simp only [Act.put, List.setIfInBounds_toArray, List.set_cons_zero, List.set_cons_succ, i64_w, i32_w]
        rfl
      refine done_ (by kernel_rfl) ?_
      have hfin : (set5 w9 w.heap.size now old fl plan ca).drew.heap[w.heap.size]? = some (.cells #[.int .i64 now, .int .i64 old, .int .i64 fl, .int .i64 plan, .int .i64 ca] 68 (0, 0)) := blk_drew (set5_blk H9'.out.1 now old fl plan ca)
      have hfb : Below w.heap.size w (set5 w9 w.heap.size now old fl plan ca).drew := below_drew (set5_below H9'.out.2 (Nat.le_refl _) _ _ _ _ _)
      obtain ⟨Z, hZ⟩ : ∃ Z, (set5 w9 w.heap.size now old fl plan ca).drew = Z := ⟨_, rfl⟩
      rw [hZ] at hfin hfb ⊢
      have p0 := blk_cell hfin 0
      have p1 := blk_cell hfin 1
      have p2 := blk_cell hfin 2
      have p3 := blk_cell hfin 3
      have p4 := blk_cell hfin 4
      simp only [List.getElem?_toArray, List.getElem?_cons_zero, List.getElem?_cons_succ] at p0 p1 p2 p3 p4
      have HFB := Aside0.mk hfb
      clear hfin hfb hZ hHeld
      go_wp2
      refine bodyPost_ret (v := .tuple #[.agg #[.int .i64 now, .int .i64 old, .int .i64 fl, .int .i64 plan, .int .i64 ca], .int .i64 chd]) (by simp [results, Try.results84, go_sem, p0, p1, p2, p3, p4]) rfl ?_
      exact ⟨rfl, HFB.out⟩
    · rw [if_pos (.inr g4)] at hchg
      subst hchg
      have c8 : (old == pr) = false := by simp [g4]
      have c8' : (old != pr) = true := by simp [g4]
      have c8'' : (old = pr) = False := eq_false g4
      clear g1 g4 KSo KRe
      go_wp2_with (first | (go_at_call 120; (with_reducible refine (KB2.out _ (HDV.out.below (pw_below_drewN (Below.refl _ _) _))).mono ?_); rintro e w' ⟨rfl, ⟨nd, rfl⟩⟩) | (go_at_call 121; (with_reducible refine (KS1.out _ (HDV.out.below (pw_below_drewN (Below.refl _ _) _))).mono ?_); rintro e w' ⟨rfl, ⟨nd, rfl⟩⟩) | (go_at_call 121; (with_reducible refine (KS1.out _ (DrAt.set (HDV.out.below (pw_below_drewN (Below.refl _ _) _)) hbB)).mono ?_); rintro e w9 ⟨rfl, hD9⟩; have H9 := Aside0.mk (key9 hD9 HDV.out HV.out.2.1 HV.out.2.2 hbB hTB HV.out.1 hwB); clear hD9; have g12 : w9.cell? ⟨b, 12, none⟩ = some (.int .i64 pr) := HE.out.2.2.1 ▸ H9.out.1.at 12 (.int .i64 d.prev.rep) rfl) | (go_at_call 122; (with_reducible refine (KR1.out _ (HDV.out.below (pw_below_drewN (Below.refl _ _) _))).mono ?_); rintro e w' ⟨rfl, ⟨nd, rfl⟩⟩))
      have g8 : w9.cell? ⟨b, 8, none⟩ = some (.int .i64 now) := HE.out.1 ▸ H9.out.1.at 8 (.int .i64 d.now) rfl
      obtain ⟨_, hB9, hT9, hw9⟩ := H9.out
      have j0 := blk_cell hB9 0
      have j1 := blk_cell hB9 1
      have j2 := blk_cell hB9 2
      have j3 := blk_cell hB9 3
      have j4 := blk_cell hB9 4
      simp only [List.getElem?_toArray, List.getElem?_cons_zero, List.getElem?_cons_succ] at j0 j1 j2 j3 j4
      have k0 := blk_cell hT9 0
      have k1 := blk_cell hT9 1
      have k2 := blk_cell hT9 2
      have k3 := blk_cell hT9 3
      have k4 := blk_cell hT9 4
      simp only [zeroC, List.getElem?_toArray, List.getElem?_cons_zero, List.getElem?_cons_succ] at k0 k1 k2 k3 k4
      have l0 := blk_frozen hT9 0
      have l1 := blk_frozen hT9 1
      have l2 := blk_frozen hT9 2
      have l3 := blk_frozen hT9 3
      have l4 := blk_frozen hT9 4
      have H9' := Aside0.mk (And.intro hT9 hw9)
      clear hB9 hT9 hw9
      refine start_ (n := 7) (S := (fun w' => w'.cell? ⟨b, 8, none⟩ = some (.int .i64 now) ∧ w'.cell? ⟨B, 0, none⟩ = some (.int .i64 now) ∧ w'.cell? ⟨B, 1, none⟩ = some (.int .i64 old) ∧ w'.cell? ⟨B, 2, none⟩ = some (.int .i64 fl) ∧ w'.cell? ⟨B, 3, none⟩ = some (.int .i64 plan) ∧ w'.cell? ⟨B, 4, none⟩ = some (.int .i64 ca))) (ds := []) #[false, false, false, false, false, false, false] (by kernel_rfl) rfl rfl ⟨g8, j0, j1, j2, j3, j4⟩ (fun hHeld => ?_)
      refine pure_ (i := 1) (N := some 65) (v := ?_) (a' := ?_) #[false, true, false, false, false, false, false] rfl rfl (by kernel_rfl) (fun _ _ _ h => h) (Or.inl ⟨by rfl, ?_⟩) ?_ ?_
      rotate_left
      · intro w'
        go_simp
        with_reducible rfl
      rotate_left
      · simp only [Act.put, List.setIfInBounds_toArray, List.set_cons_zero, List.set_cons_succ, i64_w, i32_w]
        rfl
      refine pure_ (i := 2) (N := some 66) (v := ?_) (a' := ?_) #[false, true, true, false, false, false, false] rfl rfl (by kernel_rfl) (fun _ _ _ h => h) (Or.inl ⟨by rfl, ?_⟩) ?_ ?_
      rotate_left
      · intro w'
        go_simp
        with_reducible rfl
      rotate_left
      · simp only [Act.put, List.setIfInBounds_toArray, List.set_cons_zero, List.set_cons_succ, i64_w, i32_w]
        rfl
      refine pure_ (i := 3) (N := some 67) (v := ?_) (a' := ?_) #[false, true, true, true, false, false, false] rfl rfl (by kernel_rfl) (fun _ _ _ h => h) (Or.inl ⟨by rfl, ?_⟩) ?_ ?_
      rotate_left
      · intro w'
        go_simp
        with_reducible rfl
      rotate_left
      · simp only [Act.put, List.setIfInBounds_toArray, List.set_cons_zero, List.set_cons_succ, i64_w, i32_w]
        rfl
      refine take_ (i := 0) (N := some 64) (v := ?_) (a' := ?_) #[true, true, true, true, false, false, false] rfl rfl (by kernel_rfl) (fun _ _ _ h => h) (Or.inl ⟨by rfl, ?_⟩) hHeld ?_ ?_
      rotate_left
      · rintro w' ⟨s0, s1, s2, s3, s4, s5⟩
        go_simp
        with_reducible rfl
      rotate_left
      · simp only [Act.put, List.setIfInBounds_toArray, List.set_cons_zero, List.set_cons_succ, i64_w, i32_w]
        rfl
      refine take_ (i := 4) (N := some 68) (v := ?_) (a' := ?_) #[true, true, true, true, true, false, false] rfl rfl (by kernel_rfl) (fun _ _ _ h => h) (Or.inl ⟨by rfl, ?_⟩) hHeld ?_ ?_
      rotate_left
      · rintro w' ⟨s0, s1, s2, s3, s4, s5⟩
        go_simp
        with_reducible rfl
      rotate_left
      · simp only [Act.put, List.setIfInBounds_toArray, List.set_cons_zero, List.set_cons_succ, i64_w, i32_w]
        rfl
      refine one_ (i := 5) (N := none) #[true, true, true, true, true, true, false] rfl rfl (by kernel_rfl) (by decide) (fun K hK => ?_)
      refine skip_ (w1 := (set5 w9 w.heap.size now old fl plan ca).drew) (by rfl) rfl (by unfold set5; first | (go_simp; done) | (go_simp; with_reducible rfl)) ?_
      refine hK.out _ _ ⟨set5_far' hHeld.1 hbT _ _ _ _ _, set5_far' hHeld.2.1 hBT _ _ _ _ _, set5_far' hHeld.2.2.1 hBT _ _ _ _ _, set5_far' hHeld.2.2.2.1 hBT _ _ _ _ _, set5_far' hHeld.2.2.2.2.1 hBT _ _ _ _ _, set5_far' hHeld.2.2.2.2.2 hBT _ _ _ _ _⟩ (fun hHeld => ?_)
      clear hK K
      refine pure_ (i := 6) (N := some 3) (v := ?_) (a' := ?_) #[true, true, true, true, true, true, true] rfl rfl (by kernel_rfl) (fun _ _ _ h => h) (Or.inl ⟨by rfl, ?_⟩) ?_ ?_
      rotate_left
      · intro w'
        go_simp
        with_reducible rfl
      rotate_left
      · simp only [Act.put, List.setIfInBounds_toArray, List.set_cons_zero, List.set_cons_succ, i64_w, i32_w]
        rfl
      refine done_ (by kernel_rfl) ?_
      have hfin : (set5 w9 w.heap.size now old fl plan ca).drew.heap[w.heap.size]? = some (.cells #[.int .i64 now, .int .i64 old, .int .i64 fl, .int .i64 plan, .int .i64 ca] 68 (0, 0)) := blk_drew (set5_blk H9'.out.1 now old fl plan ca)
      have hfb : Below w.heap.size w (set5 w9 w.heap.size now old fl plan ca).drew := below_drew (set5_below H9'.out.2 (Nat.le_refl _) _ _ _ _ _)
      obtain ⟨Z, hZ⟩ : ∃ Z, (set5 w9 w.heap.size now old fl plan ca).drew = Z := ⟨_, rfl⟩
      rw [hZ] at hfin hfb ⊢
      have p0 := blk_cell hfin 0
      have p1 := blk_cell hfin 1
      have p2 := blk_cell hfin 2
      have p3 := blk_cell hfin 3
      have p4 := blk_cell hfin 4
      simp only [List.getElem?_toArray, List.getElem?_cons_zero, List.getElem?_cons_succ] at p0 p1 p2 p3 p4
      have HFB := Aside0.mk hfb
      clear hfin hfb hZ hHeld
      go_wp2
      refine bodyPost_ret (v := .tuple #[.agg #[.int .i64 now, .int .i64 old, .int .i64 fl, .int .i64 plan, .int .i64 ca], .int .i64 now]) (by simp [results, Try.results84, go_sem, p0, p1, p2, p3, p4]) rfl ?_
      exact ⟨rfl, HFB.out⟩
end Go.Proofs.Ytemnfnbjapobcaa.Ho
end
section
namespace Go.Proofs.Ytemnfnbjapobcaa.PS
open Go.Proofs.Ytemnfnbjapobcaa.Pr Go.Proofs.Ytemnfnbjapobcaa.Ho
def dec0 : Dec := ⟨0, 0, 0, 0, 0⟩
def decideP (p : Pol) (now : Int) (load : List S70) (plan : Int) (prev : Dec) (changed : Int) : Dec × Int × Int :=
  if ¬ okP p then (dec0, 0, 31) else if timedB now = false then (dec0, 0, 21) else if RS.ris load 0 load.length = false then (dec0, 0, 21)
  else (decD ⟨p, now, plan, prev, changed⟩ (load.take (untilN load now)), chgD ⟨p, now, plan, prev, changed⟩ (load.take (untilN load now)), 0)
end Go.Proofs.Ytemnfnbjapobcaa.PS
namespace Go.Proofs.Ytemnfnbjapobcaa.Ho
open Go.RowKit Go.Proofs.YtemnfnbjapobcaaW.PrintWords Go.Proofs.YtemnfnbjapobcaaW.PrintLast Go.Proofs.YtemnfnbjapobcaaW.PrintMore
open Go.Proofs.Ytemnfnbjapobcaa.FS Go.Proofs.Ytemnfnbjapobcaa.HS Go.Proofs.Ytemnfnbjapobcaa.FM Go.Proofs.Ytemnfnbjapobcaa.PS Go.Proofs.Ytemnfnbjapobcaa.Pr
set_option linter.unusedVariables false
set_option linter.unusedSimpArgs false
def polCells (p : Pol) : Array Value := #[.int .i64 p.mn, .int .i64 p.mx, .int .i64 p.per, .int .i64 p.stale, .int .i64 p.step, .int .i64 p.ahead, .int .i64 p.cool, .int .i64 p.season]
def Env (s : Nat) (p : Pol) (prev : Dec) (W : World) : Prop := W.heap[s]? = some (.cells (polCells p) 65 (0, 0)) ∧ W.heap[s + 1]? = some (.cells (decCells prev) 68 (0, 0)) ∧ W.heap[s + 2]? = some (.cells zeroC 68 (0, 0))
theorem Env.below {s : Nat} {p : Pol} {prev : Dec} {W W' : World} (h : Env s p prev W) (hb : Below W.heap.size W W') : Env s p prev W' := ⟨blk_below h.1 hb, blk_below h.2.1 hb, blk_below h.2.2 hb⟩
theorem env0 (w : World) (p : Pol) (prev : Dec) : Env w.heap.size p prev (((w.alloc (.cells (polCells p) 65)).alloc (.cells (decCells prev) 68)).alloc (.cells zeroC 68)) := by
  refine ⟨blk_alloc (blk_alloc (blk_new w _) _) _, ?_, ?_⟩
  · have := blk_new (w.alloc (.cells (polCells p) 65)) (.cells (decCells prev) 68)
    rw [size_alloc_] at this
    exact blk_alloc this _
  · have := blk_new ((w.alloc (.cells (polCells p) 65)).alloc (.cells (decCells prev) 68)) (.cells zeroC 68)
    rw [size_alloc_, size_alloc_] at this
    exact this
theorem take_C {W : World} {A : Option Addr} {l : List S70} {c : Nat} (h : Kd.C k70 W A l.length l) (n : Nat) (hn : n ≤ l.length) : Kd.C k70 W A (l.take n).length (l.take n) := by
  rw [List.length_take, Nat.min_eq_left hn]
  have := Kd.C_take h (m := n) hn
  rwa [List.length_take, Nat.min_eq_left hn] at this
set_option maxRecDepth 100000 in
set_option maxHeartbeats 8000000 in
theorem pdecide_calls (HS : Aside0 SeasonMiss) (HC : Aside0 SeasonCast) (p : Pol) (now : Int) (A : Option Addr) (c : Nat) (load : List S70) (plan : Int) (prev : Dec) (changed : Int) (w : World) (hr : Kd.C k70 w A load.length load) (hc : load.length ≤ c) (hs : sIn load) (hper : FS.In p.per) (hch : FS.In changed) (hl : load.length ≤ 1152921504606846976) :
    Calls Try.prog 49 #[polV p, .int .i64 now, .slice A load.length c, .int .i64 plan, decV prev, .int .i64 changed] w fun e w' => e = .returned (.tuple #[decV (decideP p now load plan prev changed).1, .int .i64 (decideP p now load plan prev changed).2.1, .int .i64 (decideP p now load plan prev changed).2.2]) ∧ Below w.heap.size w w' := by
  have HR := Aside0.mk hr
  clear hr
  obtain ⟨res, hres⟩ : ∃ x, decideP p now load plan prev changed = x := ⟨_, rfl⟩
  rw [hres]
  unfold decideP at hres
  have KC := Aside0.mk (fun W => pcheck_calls p W)
  have E0 := Aside0.mk (env0 w p prev)
  have hb0 : Below w.heap.size w (((w.alloc (.cells (polCells p) 65)).alloc (.cells (decCells prev) 68)).alloc (.cells zeroC 68)) := below_alloc (below_alloc (below_alloc (Below.refl _ _) _) _) _
  have HB0 := Aside0.mk hb0
  clear hb0
  have KT := Aside0.mk (fun W => ptimed_calls now W)
  have KR := Aside0.mk (fun W (h : Kd.C k70 W A load.length load) => rising_calls A c load W h hc hl)
  by_cases g1 : okP p
  rotate_left
  · rw [if_pos g1] at hres
    subst hres
    have c0 : checkP p = 31 := if_neg g1
    rw [c0] at KC
    clear g1 KT KR
    obtain ⟨mn, mx, per, stale, step, ahead, cool, season⟩ := p
    obtain ⟨pt, pr, pf, pp, pc⟩ := prev
    dsimp only [polV, decV, polCells, decCells, zeroC] at *
    clear c0
    go_enter Try.func49, Try.ntmps49
    go_wp2_with ((go_at_call 48; (with_reducible refine (KC.out _).mono ?_); rintro e w1 ⟨rfl, hb⟩; have E1 := Aside0.mk (Env.below E0.out hb); have HB1 := Aside0.mk (HB0.out.trans (hb.mono (HB0.out).size)); clear hb; have k0 := blk_cell E1.out.2.2 0; have k1 := blk_cell E1.out.2.2 1; have k2 := blk_cell E1.out.2.2 2; have k3 := blk_cell E1.out.2.2 3; have k4 := blk_cell E1.out.2.2 4; simp only [zeroC, List.getElem?_toArray, List.getElem?_cons_zero, List.getElem?_cons_succ] at k0 k1 k2 k3 k4; have l0 := blk_frozen E1.out.2.2 0; have l1 := blk_frozen E1.out.2.2 1; have l2 := blk_frozen E1.out.2.2 2; have l3 := blk_frozen E1.out.2.2 3; have l4 := blk_frozen E1.out.2.2 4))
    have hfin := set5_blk (W := w1) E1.out.2.2 0 0 0 0 0
    have hfb := set5_below HB1.out (Nat.le_add_right _ 2) 0 0 0 0 0
    unfold set5 at hfin hfb
    have p0 := blk_cell hfin 0
    have p1 := blk_cell hfin 1
    have p2 := blk_cell hfin 2
    have p3 := blk_cell hfin 3
    have p4 := blk_cell hfin 4
    simp only [List.getElem?_toArray, List.getElem?_cons_zero, List.getElem?_cons_succ] at p0 p1 p2 p3 p4
    refine bodyPost_ret (v := .tuple #[.agg #[.int .i64 0, .int .i64 0, .int .i64 0, .int .i64 0, .int .i64 0], .int .i64 0, .int .i64 31]) (by simp [results, Try.results49, go_sem, p0, p1, p2, p3, p4]) rfl ?_
    exact ⟨rfl, hfb⟩
  rw [if_neg (fun h => h g1)] at hres
  have c0 : checkP p = 0 := if_pos g1
  rw [c0] at KC
  clear c0
  by_cases g2 : timedB now = false
  · rw [if_pos g2] at hres
    subst hres
    rw [g2] at KT
    clear g1 g2 KR
    obtain ⟨mn, mx, per, stale, step, ahead, cool, season⟩ := p
    obtain ⟨pt, pr, pf, pp, pc⟩ := prev
    dsimp only [polV, decV, polCells, decCells, zeroC] at *
    go_enter Try.func49, Try.ntmps49
    go_wp2_with (first | (go_at_call 48; (with_reducible refine (KC.out _).mono ?_); rintro e w1 ⟨rfl, hb⟩; have E1 := Aside0.mk (Env.below E0.out hb); have HB1 := Aside0.mk (HB0.out.trans (hb.mono (HB0.out).size)); clear hb; skip) | (go_at_call 81; (with_reducible refine (KT.out _).mono ?_); rintro e w2 ⟨rfl, hb⟩; have E2 := Aside0.mk (Env.below E1.out hb.below); have HB2 := Aside0.mk (HB1.out.trans (hb.below.mono HB1.out.size)); clear hb; have k0 := blk_cell E2.out.2.2 0; have k1 := blk_cell E2.out.2.2 1; have k2 := blk_cell E2.out.2.2 2; have k3 := blk_cell E2.out.2.2 3; have k4 := blk_cell E2.out.2.2 4; simp only [zeroC, List.getElem?_toArray, List.getElem?_cons_zero, List.getElem?_cons_succ] at k0 k1 k2 k3 k4; have l0 := blk_frozen E2.out.2.2 0; have l1 := blk_frozen E2.out.2.2 1; have l2 := blk_frozen E2.out.2.2 2; have l3 := blk_frozen E2.out.2.2 3; have l4 := blk_frozen E2.out.2.2 4))
    have hfin := set5_blk (W := w2) E2.out.2.2 0 0 0 0 0
    have hfb := set5_below HB2.out (Nat.le_add_right _ 2) 0 0 0 0 0
    unfold set5 at hfin hfb
    have p0 := blk_cell hfin 0
    have p1 := blk_cell hfin 1
    have p2 := blk_cell hfin 2
    have p3 := blk_cell hfin 3
    have p4 := blk_cell hfin 4
    simp only [List.getElem?_toArray, List.getElem?_cons_zero, List.getElem?_cons_succ] at p0 p1 p2 p3 p4
    refine bodyPost_ret (v := .tuple #[.agg #[.int .i64 0, .int .i64 0, .int .i64 0, .int .i64 0, .int .i64 0], .int .i64 0, .int .i64 21]) (by simp [results, Try.results49, go_sem, p0, p1, p2, p3, p4]) rfl ?_
    exact ⟨rfl, hfb⟩
  have g2' : timedB now = true := by simpa using g2
  rw [if_neg g2] at hres
  rw [g2'] at KT
  by_cases g3 : RS.ris load 0 load.length = false
  · rw [if_pos g3] at hres
    subst hres
    rw [g3] at KR
    simp only [Bool.false_eq_true, if_false] at KR
    clear g1 g2 g2' g3
    obtain ⟨mn, mx, per, stale, step, ahead, cool, season⟩ := p
    obtain ⟨pt, pr, pf, pp, pc⟩ := prev
    dsimp only [polV, decV, polCells, decCells, zeroC] at *
    go_enter Try.func49, Try.ntmps49
    go_wp2_with (first | (go_at_call 48; (with_reducible refine (KC.out _).mono ?_); rintro e w1 ⟨rfl, hb⟩; have E1 := Aside0.mk (Env.below E0.out hb); have HB1 := Aside0.mk (HB0.out.trans (hb.mono (HB0.out).size)); clear hb; skip) | (go_at_call 81; (with_reducible refine (KT.out _).mono ?_); rintro e w2 ⟨rfl, hb⟩; have E2 := Aside0.mk (Env.below E1.out hb.below); have HB2 := Aside0.mk (HB1.out.trans (hb.below.mono HB1.out.size)); clear hb; skip) | (go_at_call 82; (with_reducible refine (KR.out _ (Kd.C_below HR.out HB2.out)).mono ?_); rintro e w3 ⟨rfl, hb⟩; have E3 := Aside0.mk (Env.below E2.out hb); have HB3 := Aside0.mk (HB2.out.trans (hb.mono HB2.out.size)); clear hb; have k0 := blk_cell E3.out.2.2 0; have k1 := blk_cell E3.out.2.2 1; have k2 := blk_cell E3.out.2.2 2; have k3 := blk_cell E3.out.2.2 3; have k4 := blk_cell E3.out.2.2 4; simp only [zeroC, List.getElem?_toArray, List.getElem?_cons_zero, List.getElem?_cons_succ] at k0 k1 k2 k3 k4; have l0 := blk_frozen E3.out.2.2 0; have l1 := blk_frozen E3.out.2.2 1; have l2 := blk_frozen E3.out.2.2 2; have l3 := blk_frozen E3.out.2.2 3; have l4 := blk_frozen E3.out.2.2 4))
    have hfin := set5_blk (W := w3) E3.out.2.2 0 0 0 0 0
    have hfb := set5_below HB3.out (Nat.le_add_right _ 2) 0 0 0 0 0
    unfold set5 at hfin hfb
    have p0 := blk_cell hfin 0
    have p1 := blk_cell hfin 1
    have p2 := blk_cell hfin 2
    have p3 := blk_cell hfin 3
    have p4 := blk_cell hfin 4
    simp only [List.getElem?_toArray, List.getElem?_cons_zero, List.getElem?_cons_succ] at p0 p1 p2 p3 p4
    refine bodyPost_ret (v := .tuple #[.agg #[.int .i64 0, .int .i64 0, .int .i64 0, .int .i64 0, .int .i64 0], .int .i64 0, .int .i64 21]) (by simp [results, Try.results49, go_sem, p0, p1, p2, p3, p4]) rfl ?_
    exact ⟨rfl, hfb⟩
  have g3' : RS.ris load 0 load.length = true := by simpa using g3
  rw [if_neg g3] at hres
  rw [g3'] at KR
  simp only [if_true] at KR
  obtain ⟨hn0, hn1⟩ : -4503599627370496 ≤ now ∧ now ≤ 4503599627370496 := by simpa [timedB] using g2'
  have hu := until_le load now
  have KU := Aside0.mk (fun W (h : Kd.C k70 W A load.length load) => until_calls A c load now W h hc hl)
  obtain ⟨l, hll⟩ : ∃ l, load.take (untilN load now) = l := ⟨_, rfl⟩
  have hlen : untilN load now = l.length := by rw [← hll, List.length_take, Nat.min_eq_left hu]
  have hsl : sIn l := fun x hx => hs x (List.mem_of_mem_take (hll ▸ hx))
  have KL : Aside0 (∀ W, Kd.C k70 W A load.length load → Kd.C k70 W A l.length l) := ⟨fun W h => hll ▸ take_C (c := c) h _ hu⟩
  rw [hll] at hres
  rw [hlen] at KU
  have KD := Aside0.mk (fun W b (h : DrAt W b ⟨p, now, plan, prev, changed⟩ A l.length l.length) (hr : Kd.C k70 W A l.length l) => decide_calls HS HC b ⟨p, now, plan, prev, changed⟩ A l.length l W h hr (Nat.le_refl _) hsl g1 hper hn0 hn1 hch (by omega))
  obtain ⟨D, hD⟩ : ∃ D, decD ⟨p, now, plan, prev, changed⟩ l = D := ⟨_, rfl⟩
  obtain ⟨ch, hch'⟩ : ∃ ch, chgD ⟨p, now, plan, prev, changed⟩ l = ch := ⟨_, rfl⟩
  rw [hD, hch'] at KD hres
  subst hres
  clear g1 g2 g2' g3 g3' hD hch' hsl hll hu hlen hn0 hn1 hs hper hch hl
  obtain ⟨dt, dr, df, dp, dc⟩ := D
  obtain ⟨mn, mx, per, stale, step, ahead, cool, season⟩ := p
  obtain ⟨pt, pr, pf, pp, pc⟩ := prev
  dsimp only [polV, decV, polCells, decCells, zeroC] at *
  go_enter Try.func49, Try.ntmps49
  go_wp2_with (first | (go_at_call 48; (with_reducible refine (KC.out _).mono ?_); rintro e w1 ⟨rfl, hb⟩; have E1 := Aside0.mk (Env.below E0.out hb); have HB1 := Aside0.mk (HB0.out.trans (hb.mono (HB0.out).size)); clear hb; skip) | (go_at_call 81; (with_reducible refine (KT.out _).mono ?_); rintro e w2 ⟨rfl, hb⟩; have E2 := Aside0.mk (Env.below E1.out hb.below); have HB2 := Aside0.mk (HB1.out.trans (hb.below.mono HB1.out.size)); clear hb; skip) | (go_at_call 82; (with_reducible refine (KR.out _ (Kd.C_below HR.out HB2.out)).mono ?_); rintro e w3 ⟨rfl, hb⟩; have E3 := Aside0.mk (Env.below E2.out hb); have HB3 := Aside0.mk (HB2.out.trans (hb.mono HB2.out.size)); clear hb; have x0 := blk_cell E3.out.1 0; have x1 := blk_cell E3.out.1 1; have x2 := blk_cell E3.out.1 2; have x3 := blk_cell E3.out.1 3; have x4 := blk_cell E3.out.1 4; have x5 := blk_cell E3.out.1 5; have x6 := blk_cell E3.out.1 6; have x7 := blk_cell E3.out.1 7; simp only [polCells, List.getElem?_toArray, List.getElem?_cons_zero, List.getElem?_cons_succ] at x0 x1 x2 x3 x4 x5 x6 x7; have y0 := blk_cell E3.out.2.1 0; have y1 := blk_cell E3.out.2.1 1; have y2 := blk_cell E3.out.2.1 2; have y3 := blk_cell E3.out.2.1 3; have y4 := blk_cell E3.out.2.1 4; simp only [decCells, List.getElem?_toArray, List.getElem?_cons_zero, List.getElem?_cons_succ] at y0 y1 y2 y3 y4))
  refine wp_region_quiet_tail 9 (by kernel_rfl) (by kernel_rfl) (fun _ _ _ _ _ h => h) ?_
  simp only [List.take_succ_cons, List.take_zero, List.drop_succ_cons, List.drop_zero]
  repeat (go_big_quiet_step ((go_at_call 83; exact Calls.quiet_of (quiet_of (KU.out _ (Kd.C_below HR.out (pw_below_drewN HB3.out _)))))))
  refine wpQuiet_nil ?_
  rintro W4 ⟨nq, hnq⟩
  have hb4 : Below w3.heap.size w3 W4 := hnq ▸ pw_below_drewN (Below.refl _ _) _
  have E4 := Aside0.mk (Env.below E3.out hb4)
  have HB4 := Aside0.mk (HB3.out.trans (hb4.mono HB3.out.size))
  have hDr : DrAt (W4.alloc (.cells #[.int .i64 mn, .int .i64 mx, .int .i64 per, .int .i64 stale, .int .i64 step, .int .i64 ahead, .int .i64 cool, .int .i64 season, .int .i64 now, .slice A l.length l.length, .int .i64 plan, .int .i64 pt, .int .i64 pr, .int .i64 pf, .int .i64 pp, .int .i64 pc, .int .i64 changed] 115)) W4.heap.size ⟨⟨mn, mx, per, stale, step, ahead, cool, season⟩, now, plan, ⟨pt, pr, pf, pp, pc⟩, changed⟩ A l.length l.length := blk_new _ _
  have HDr := Aside0.mk hDr
  have hb5 : Below W4.heap.size W4 (W4.alloc (.cells #[.int .i64 mn, .int .i64 mx, .int .i64 per, .int .i64 stale, .int .i64 step, .int .i64 ahead, .int .i64 cool, .int .i64 season, .int .i64 now, .slice A l.length l.length, .int .i64 plan, .int .i64 pt, .int .i64 pr, .int .i64 pf, .int .i64 pp, .int .i64 pc, .int .i64 changed] 115)) := below_alloc (Below.refl _ _) _
  have E5 := Aside0.mk (Env.below E4.out hb5)
  have HB5 := Aside0.mk (HB4.out.trans (hb5.mono HB4.out.size))
  clear hnq nq hb4 hb5 hDr x0 x1 x2 x3 x4 x5 x6 x7 y0 y1 y2 y3 y4
  go_wp2_with (go_at_call 84; (with_reducible refine (KD.out _ _ HDr.out (KL.out _ (Kd.C_below HR.out HB5.out))).mono ?_); rintro e w5 ⟨rfl, hb⟩; have E6 := Aside0.mk (Env.below E5.out hb); have HB6 := Aside0.mk (HB5.out.trans (hb.mono HB5.out.size)); clear hb; have E7 := Aside0.mk (Env.below E6.out (below_alloc (Below.refl _ _) (.cells #[.int .i64 dt, .int .i64 dr, .int .i64 df, .int .i64 dp, .int .i64 dc] 68))); have HB7 := Aside0.mk (HB6.out.alloc HB6.out.size (.cells #[.int .i64 dt, .int .i64 dr, .int .i64 df, .int .i64 dp, .int .i64 dc] 68)); have k0 := blk_cell E7.out.2.2 0; have k1 := blk_cell E7.out.2.2 1; have k2 := blk_cell E7.out.2.2 2; have k3 := blk_cell E7.out.2.2 3; have k4 := blk_cell E7.out.2.2 4; simp only [zeroC, List.getElem?_toArray, List.getElem?_cons_zero, List.getElem?_cons_succ] at k0 k1 k2 k3 k4; have l0 := blk_frozen E7.out.2.2 0; have l1 := blk_frozen E7.out.2.2 1; have l2 := blk_frozen E7.out.2.2 2; have l3 := blk_frozen E7.out.2.2 3; have l4 := blk_frozen E7.out.2.2 4)
  have hfin := set5_blk (W := w5.alloc (.cells #[.int .i64 dt, .int .i64 dr, .int .i64 df, .int .i64 dp, .int .i64 dc] 68)) E7.out.2.2 dt dr df dp dc
  have hfb := set5_below HB7.out (Nat.le_add_right _ 2) dt dr df dp dc
  unfold set5 at hfin hfb
  have p0 := blk_cell hfin 0
  have p1 := blk_cell hfin 1
  have p2 := blk_cell hfin 2
  have p3 := blk_cell hfin 3
  have p4 := blk_cell hfin 4
  simp only [List.getElem?_toArray, List.getElem?_cons_zero, List.getElem?_cons_succ] at p0 p1 p2 p3 p4
  refine bodyPost_ret (v := .tuple #[.agg #[.int .i64 dt, .int .i64 dr, .int .i64 df, .int .i64 dp, .int .i64 dc], .int .i64 ch, .int .i64 0]) (by simp [results, Try.results49, go_sem, p0, p1, p2, p3, p4]) rfl ?_
  exact ⟨rfl, hfb⟩
end Go.Proofs.Ytemnfnbjapobcaa.Ho
end
section
namespace Go.Proofs.Ytemnfnbjapobcaa
open Go.RowKit Go.Proofs.YtemnfnbjapobcaaW.PrintWords
theorem C_map {α β γ : Type} {d : Kd α} {f : β → α} {f' : γ → α} {g : β → γ} (hfg : ∀ x, f' (g x) = f x) {w : World} {A : Option Addr} {n : Nat} {xs : List β} (h : (Kd.iso d f).C w A n xs) : (Kd.iso d f').C w A n (xs.map g) := by
  obtain ⟨h1, h2, h3⟩ := h
  refine ⟨by rw [List.length_map]; exact h1, h2, fun h0 => ?_⟩
  obtain ⟨ad, e, hc⟩ := h3 h0
  refine ⟨ad, e, fun j p hj => ?_⟩
  rw [List.getElem?_map] at hj
  obtain ⟨y, hy, rfl⟩ := Option.map_eq_some_iff.mp hj
  obtain ⟨c, c1, c2, c3⟩ := hc j y hy
  refine ⟨c, c1, ?_, c3⟩
  show d.K w (f' (g y)) c
  rw [hfg]
  exact c2
def sInB (l : List Pr.S70) : Bool := l.all (fun x => HS.InB x.f0 && HS.InB x.f1)
theorem sInB_iff {l : List Pr.S70} : sInB l = true ↔ PS.sIn l := by
  unfold sInB PS.sIn
  rw [List.all_eq_true]
  constructor
  · intro h x hx
    have := h x hx
    rw [Bool.and_eq_true, HS.inB_iff, HS.inB_iff] at this
    exact this
  · intro h x hx
    rw [Bool.and_eq_true, HS.inB_iff, HS.inB_iff]
    exact h x hx
end Go.Proofs.Ytemnfnbjapobcaa
end
section
namespace Go.Proofs.Ytemnfnbjapobcaa.Pk
open Go.RowKit Go.Proofs.YtemnfnbjapobcaaW.PrintWords Go.Proofs.YtemnfnbjapobcaaW.PrintLast Go.Proofs.YtemnfnbjapobcaaW.PrintMore
attribute [local go_sem] max2_int min2_int max_two min_two max_three min_three max_four min_four   -- for this text's walks alone
set_option linter.unusedVariables false
set_option linter.unusedSimpArgs false
def errW : Option Int → Value
  | none => .nilIface
  | some c => .iface 0 (.int .i64 c)
theorem errW_none : errW none = .nilIface := rfl
theorem errW_some (c : Int) : errW (some c) = .iface 0 (.int .i64 c) := rfl
theorem info3 : (Try.prog.info? 3).map (fun i => (i.zero, i.size, i.bytes)) = some (some (.int .i64 0), 1, 8) := by kernel_rfl
theorem info5 : (Try.prog.info? 5).map (fun i => (i.zero, i.size, i.bytes)) = some (some (.int .u8 0), 1, 1) := by kernel_rfl
end Go.Proofs.Ytemnfnbjapobcaa.Pk
end
section
namespace Go.Proofs.Ytemnfnbjapobcaa.Pk
open Go.RowKit Go.Proofs.YtemnfnbjapobcaaW.PrintWords Go.Proofs.YtemnfnbjapobcaaW.PrintLast Go.Proofs.YtemnfnbjapobcaaW.PrintMore
attribute [local go_sem] max2_int min2_int max_two min_two max_three min_three max_four min_four   -- for this text's walks alone
set_option linter.unusedVariables false
set_option linter.unusedSimpArgs false
def varint_Put.l0 : Nat → List Int → Int → Option (List Int)
  | 0, _, _ => none
  | k + 1, x3, x4 => if x4 ≥ 128 then (if x3.length < 140737488355328 then (varint_Put.l0 k (x3 ++ [Go.bits .or .u8 ((x4) % 256) 128]) (x4 / 128)) else (none)) else (if x3.length < 140737488355328 then (some (x3 ++ [(x4) % 256])) else (none))
def varint_Put.f (k : Nat) (a0 : Int) : Option (List Int) := varint_Put.l0 k ([] : List Int) (IntKind.u64.wrap (a0))
set_option maxHeartbeats 8000000 in
set_option maxRecDepth 100000 in
theorem varint_Put.calls (k : Nat) (a0 : Int) (r : List Int) (w : World) (h : varint_Put.f k a0 = some r) :
    Calls Try.prog 125 #[.int .i64 a0] w fun e w' => ∃ v0_ : Value, e = .returned (v0_) ∧ Kd.R (Kd.int .u8) 5 w' w.heap.size (fun _ => True) v0_ r ∧ Below w.heap.size w w' := by
  have HB := Aside0.mk (Below.refl w.heap.size w)
  have H : (varint_Put.l0 k ([] : List Int) (IntKind.u64.wrap (a0))) = some r := h
  clear h
  have H' := Aside0.mk H
  clear H
  go_enter Try.func125, Try.ntmps125
  go_wp2
  go_loopg [3, 4] k (fun kq v3 v4 w' => ∃ (x3_1 : List Int) (x4_1 : Int), v4 = .int .u64 x4_1 ∧ Aside0 (varint_Put.l0 kq x3_1 x4_1 = some r) ∧ Aside0 (kq ≤ k) ∧ Aside0 (Kd.R (Kd.int .u8) 5 w' w.heap.size (fun _ => True) v3 x3_1) ∧ Aside0 (Below w.heap.size w w'))
  case atStart => exact ⟨(([] : List Int)), (IntKind.u64.wrap (a0)), (by first | rfl | (simp; done) | (simp [*]; done)), H', ⟨Nat.le_refl _⟩, ⟨by first | exact Kd.R_nil _ _ _ _ _ | exact Kd.N_nil _ _ _ _ _ | exact Kd.V_nil _ _ _ _ _ | exact Kd.Q_nil _ _ _ _ _ | exact Kd.S_nil _ _ _ _ _⟩, ⟨by repeat (first | (with_reducible first | exact HB.out | apply below_alloc | apply pw_below_drewN | apply below_drew1) | exact HB.out)⟩⟩
  case round =>
    clear H'
    try clear c1
    obtain ⟨x3_1, x4_1, rfl, HA, HK1, HO_3, HB⟩ := hrel
    cases gk with
    | zero => exact absurd HA.out (by simp [varint_Put.l0])
    | succ k1 =>
      have H := HA.out
      clear HA
      simp only [varint_Put.l0] at H
      by_cases c2 : x4_1 ≥ 128
      · rw [if_pos c2] at H
        have c2b0 : decide (128 ≤ x4_1) = true := decide_eq_true c2
        clear c2
        by_cases c3 : x3_1.length < 140737488355328
        · rw [if_pos c3] at H
          have LMc3 := Aside0.mk c3
          clear c3
          obtain ⟨y101, hy101⟩ : ∃ y_ : List Int, y_ = (x3_1 ++ [Go.bits .or .u8 ((x4_1) % 256) 128]) := ⟨_, rfl⟩
          replace H : (varint_Put.l0 k1 y101 (x4_1 / 128)) = some r := by first | (rw [hy101]; with_reducible exact H) | (have H2_ := (Option.bind_some _ _).symm.trans H; rw [hy101]; with_reducible exact H2_) | (have H2_ := (Option.bind_some _ _).symm.trans H; with_reducible exact H2_) | with_reducible exact H | (rw [hy101]; exact H) | exact H
          have Ny101 := Aside0.mk hy101
          clear hy101
          have H' := Aside0.mk H
          clear H
          go_wp2_with (first | ((with_reducible refine gate_builtin (b := .append) (xs := #[.tmp 9, .tmp 13]) rfl ?_); at_builtin; refine Kd.R_append (Kd.int .u8) (w0 := w) w.heap.size rfl (.tmp 9) (.tmp 13) 88 5 (.int .u8 0) 1 rfl Try.underlying88 info5 rfl (by decide) (by omega) u3 x3_1 (Go.bits .or .u8 ((x4_1) % 256) 128) [.int .u8 (Go.bits .or .u8 ((x4_1) % 256) 128)] (fun _ => True) (fun _ => False) rfl rfl ?aP (fun _ hk => hk.elim) ?aF ?aO ?aB ?aS ?aL ?_; (case aP => exact rfl); (case aB => exact (by repeat (first | (with_reducible first | exact HB.out | apply below_alloc | apply pw_below_drewN | apply below_drew1) | exact HB.out))); (case aF => exact (fun _ _ => trivial)); (case aO => exact (by (with_reducible repeat (first | apply Kd.R_alloc | apply Kd.R_drewN | apply Kd.R_drew)); exact HO_3.out)); (case aS => exact (below_size (by repeat (first | (with_reducible first | exact HB.out | apply below_alloc | apply pw_below_drewN | apply below_drew1) | exact HB.out)))); (case aL => have := LMc3.out; omega); intro v102 w4 ho hb hg hat; rw [← Ny101.out] at ho; have n0_ := Aside0.mk (hb); have n1_ := Aside0.mk (ho); clear HB; clear HO_3; have HB := n0_; have HO103 := n1_; clear n0_ n1_; clear ho hb hg hat))
          go_roundg k1
          case measure => have := HK1.out; omega
          case rel => exact ⟨(y101), (x4_1 / 128), (by first | rfl | (simp; done) | (simp [*]; done)), H', ⟨by have := HK1.out; omega⟩, ⟨by (with_reducible repeat (first | apply Kd.R_alloc | apply Kd.R_drewN | apply Kd.R_drew)); exact HO103.out⟩, ⟨by repeat (first | (with_reducible first | exact HB.out | apply below_alloc | apply pw_below_drewN | apply below_drew1) | exact HB.out)⟩⟩
        · rw [if_neg c3] at H
          exact absurd H (by simp)
      · rw [if_neg c2] at H
        have c2b0 : decide (128 ≤ x4_1) = false := decide_eq_false c2
        clear c2
        by_cases c5 : x3_1.length < 140737488355328
        · rw [if_pos c5] at H
          have LMc5 := Aside0.mk c5
          clear c5
          obtain ⟨y104, hy104⟩ : ∃ y_ : List Int, y_ = (x3_1 ++ [(x4_1) % 256]) := ⟨_, rfl⟩
          replace H : (some y104) = some r := by first | (rw [hy104]; with_reducible exact H) | (have H2_ := (Option.bind_some _ _).symm.trans H; rw [hy104]; with_reducible exact H2_) | (have H2_ := (Option.bind_some _ _).symm.trans H; with_reducible exact H2_) | with_reducible exact H | (rw [hy104]; exact H) | exact H
          have Ny104 := Aside0.mk hy104
          clear hy104
          obtain rfl := Option.some.inj H
          go_wp2_with (first | ((with_reducible refine gate_builtin (b := .append) (xs := #[.tmp 17, .tmp 20]) rfl ?_); at_builtin; refine Kd.R_append (Kd.int .u8) (w0 := w) w.heap.size rfl (.tmp 17) (.tmp 20) 88 5 (.int .u8 0) 1 rfl Try.underlying88 info5 rfl (by decide) (by omega) u3 x3_1 ((x4_1) % 256) [.int .u8 ((x4_1) % 256)] (fun _ => True) (fun _ => False) rfl rfl ?aP (fun _ hk => hk.elim) ?aF ?aO ?aB ?aS ?aL ?_; (case aP => exact rfl); (case aB => exact (by repeat (first | (with_reducible first | exact HB.out | apply below_alloc | apply pw_below_drewN | apply below_drew1) | exact HB.out))); (case aF => exact (fun _ _ => trivial)); (case aO => exact (by (with_reducible repeat (first | apply Kd.R_alloc | apply Kd.R_drewN | apply Kd.R_drew)); exact HO_3.out)); (case aS => exact (below_size (by repeat (first | (with_reducible first | exact HB.out | apply below_alloc | apply pw_below_drewN | apply below_drew1) | exact HB.out)))); (case aL => have := LMc5.out; omega); intro v105 w6 ho hb hg hat; rw [← Ny104.out] at ho; have n0_ := Aside0.mk (hb); have n1_ := Aside0.mk (ho); clear HB; clear HO_3; have HB := n0_; have HO106 := n1_; clear n0_ n1_; clear ho hb hg hat))
          go_ret
          exact ⟨_, by first | rfl | (simp [errW_none, errW_some] <;> rfl) | (simp [*, errW_none, errW_some] <;> rfl), by (with_reducible repeat (first | apply Kd.R_alloc | apply Kd.R_drewN | apply Kd.R_drew)); exact HO106.out, by repeat (first | (with_reducible first | exact HB.out | apply below_alloc | apply pw_below_drewN | apply below_drew1) | exact HB.out)⟩
        · rw [if_neg c5] at H
          exact absurd H (by simp)
def varint_Zig.f (a0 : Int) : Option (Int) := some (wrap64 (Go.bits .xor .u64 (IntKind.u64.wrap ((IntKind.u64.wrap (a0)) * 2)) (IntKind.u64.wrap (a0 / 9223372036854775808))))
set_option maxHeartbeats 8000000 in
set_option maxRecDepth 100000 in
theorem varint_Zig.calls (a0 : Int) (r : Int) (w : World) (h : varint_Zig.f a0 = some r) :
    Calls Try.prog 126 #[.int .i64 a0] w fun e w' => e = .returned (.int .i64 r) ∧ Drawn0 w w' := by
  have H : (some (wrap64 (Go.bits .xor .u64 (IntKind.u64.wrap ((IntKind.u64.wrap (a0)) * 2)) (IntKind.u64.wrap (a0 / 9223372036854775808))))) = some r := h
  clear h
  obtain rfl := Option.some.inj H
  go_enter Try.func126, Try.ntmps126
  go_wp2
  go_ret
  exact ⟨by first | rfl | (simp; done) | (simp [*]; done), by repeat (first | exact Drawn0.refl _ | apply Drawn0.step)⟩
def varint_Signed.f (k : Nat) (a0 : Int) : Option (List Int) := (varint_Zig.f a0).bind fun t107 => ((varint_Put.f k t107).bind fun t108 => (some t108))
set_option maxHeartbeats 8000000 in
set_option maxRecDepth 100000 in
theorem varint_Signed.calls (k : Nat) (a0 : Int) (r : List Int) (w : World) (h : varint_Signed.f k a0 = some r) :
    Calls Try.prog 95 #[.int .i64 a0] w fun e w' => ∃ v0_ : Value, e = .returned (v0_) ∧ Kd.R (Kd.int .u8) 5 w' w.heap.size (fun _ => True) v0_ r ∧ Below w.heap.size w w' := by
  have HB := Aside0.mk (Below.refl w.heap.size w)
  have H : ((varint_Zig.f a0).bind fun t107 => ((varint_Put.f k t107).bind fun t108 => (some t108))) = some r := h
  clear h
  replace H := Option.bind_eq_some_iff.mp H
  obtain ⟨t107, A20, H⟩ := H
  replace H : ((varint_Put.f k t107).bind fun t108 => (some t108)) = some r := H
  have A2 := Aside0.mk A20
  clear A20
  replace H := Option.bind_eq_some_iff.mp H
  obtain ⟨t108, A30, H⟩ := H
  replace H : (some t108) = some r := H
  have A3 := Aside0.mk A30
  clear A30
  obtain rfl := Option.some.inj H
  go_enter Try.func95, Try.ntmps95
  go_wp2_with (first | ((with_reducible refine gate_callee (f := 126) rfl ?_); refine goesL_ (some 4) rfl rfl Try.func126 (by kernel_rfl) rfl #[.int .i64 a0] rfl (by (try simp only [List.map_toArray, List.map_cons, List.map_nil]); first | done | rfl | (simp only [List.length_drop, List.length_take]; rfl)) ?_; (with_reducible refine (varint_Zig.calls a0 t107 _ A2.out).mono ?_); rintro e w' ⟨rfl, ⟨nd, rfl⟩⟩; refine ⟨_, rfl, ?_⟩) | ((with_reducible refine gate_callee (f := 125) rfl ?_); refine goesL_ (some 5) rfl rfl Try.func125 (by kernel_rfl) rfl #[.int .i64 t107] rfl (by (try simp only [List.map_toArray, List.map_cons, List.map_nil]); first | done | rfl | (simp only [List.length_drop, List.length_take]; rfl)) ?_; (with_reducible refine (varint_Put.calls k t107 t108 _ A3.out).mono ?_); rintro e w4 ⟨v109, rfl, ho0, hb⟩; refine ⟨_, rfl, ?_⟩; have n0_ := Aside0.mk (Kd.R_lower ho0 (below_size (by repeat (first | (with_reducible first | exact HB.out | apply below_alloc | apply pw_below_drewN | apply below_drew1) | exact HB.out)))); have n1_ := Aside0.mk (below_step (by repeat (first | (with_reducible first | exact HB.out | apply below_alloc | apply pw_below_drewN | apply below_drew1) | exact HB.out)) hb); clear HB; have HO110 := n0_; have HB := n1_; clear n0_ n1_; (try clear hb); (try clear hb2); (try clear hk); (try clear hi); (try clear ho0)))
  go_ret
  exact ⟨_, by first | rfl | (simp [errW_none, errW_some] <;> rfl) | (simp [*, errW_none, errW_some] <;> rfl), by (with_reducible repeat (first | apply Kd.R_alloc | apply Kd.R_drewN | apply Kd.R_drew)); exact HO110.out, by repeat (first | (with_reducible first | exact HB.out | apply below_alloc | apply pw_below_drewN | apply below_drew1) | exact HB.out)⟩
mutual
def varint_Get.l0 : Nat → Int → List Int → Int → Int → Option (Int × Int × Int)
  | 0, _, _, _, _ => none
  | k + 1, x5, x8, x9, x10 => if x10 < x9 then (if 0 ≤ x10 then (if x10 < (x8.length : Int) then (if x10 = 9 then (varint_Get.j1 k x5 x10 (rd x8 x10) x8 x9 x10 (decide ((rd x8 x10) > 1))) else (varint_Get.j1 k x5 x10 (rd x8 x10) x8 x9 x10 false)) else (none)) else (none)) else (some (0, 0, 5))
def varint_Get.j1 : Nat → Int → Int → Int → List Int → Int → Int → Bool → Option (Int × Int × Int)
  | 0, _, _, _, _, _, _, _ => none
  | k + 1, x5, x6, x7, x8, x9, x10, x20 => if x20 = true then (some (0, 0, 5)) else (if 0 ≤ (wrap64 (7 * x6)) then (if x7 ≥ 128 then (varint_Get.l0 k (Go.bits .or .u64 x5 (shl .u64 (IntKind.u64.wrap (Go.bits .and .u8 x7 127)) (wrap64 (7 * x6)))) x8 x9 (wrap64 (x10 + 1))) else (if x7 = 0 then (if x6 > 0 then (some (0, 0, 5)) else (some (wrap64 (Go.bits .or .u64 x5 (shl .u64 (IntKind.u64.wrap (Go.bits .and .u8 x7 127)) (wrap64 (7 * x6)))), wrap64 (x6 + 1), 0))) else (some (wrap64 (Go.bits .or .u64 x5 (shl .u64 (IntKind.u64.wrap (Go.bits .and .u8 x7 127)) (wrap64 (7 * x6)))), wrap64 (x6 + 1), 0)))) else (none))
end
def varint_Get.f (k : Nat) (l0 : List Int) : Option (Int × Int × Int) := varint_Get.l0 k 0 l0 (l0.length : Int) 0
set_option maxHeartbeats 8000000 in
set_option maxRecDepth 100000 in
theorem varint_Get.calls (k : Nat) (A0 : Option Addr) (c0 : Nat) (l0 : List Int) (r1 : Int) (r2 : Int) (r3 : Int) (w : World) (hr0 : Kd.C (Kd.int .u8) w A0 l0.length l0) (hc0 : l0.length ≤ c0) (h : varint_Get.f k l0 = some (r1, r2, r3)) :
    Calls Try.prog 128 #[.slice A0 l0.length c0] w fun e w' => e = .returned (.tuple #[.int .i64 r1, .int .i64 r2, .int .i64 r3]) ∧ Drawn0 w w' := by
  have HR0 := Aside0.mk hr0
  have HC0 := Aside0.mk hc0
  clear hr0 hc0
  have H : (varint_Get.l0 k 0 l0 (l0.length : Int) 0) = some (r1, r2, r3) := h
  clear h
  have H' := Aside0.mk H
  clear H
  go_enter Try.func128, Try.ntmps128
  go_wp2
  go_loopg [5, 10] k (fun kq v5 v10 w' => ∃ (x5_1 : Int) (x10_1 : Int), v5 = .int .u64 x5_1 ∧ v10 = .int .i64 x10_1 ∧ Aside0 (varint_Get.l0 kq x5_1 l0 (l0.length : Int) x10_1 = some (r1, r2, r3)) ∧ Aside0 (kq ≤ k) ∧ Drawn0 w w')
  case atStart => exact ⟨(0), (0), (by first | rfl | (simp; done) | (simp [*]; done)), (by first | rfl | (simp; done) | (simp [*]; done)), H', ⟨Nat.le_refl _⟩, by repeat (first | exact Drawn0.refl _ | apply Drawn0.step)⟩
  case round =>
    clear H'
    try clear c1
    obtain ⟨x5_1, x10_1, rfl, rfl, HA, HK1, ⟨m1, rfl⟩⟩ := hrel
    cases gk with
    | zero => exact absurd HA.out (by simp [varint_Get.l0])
    | succ k1 =>
      have H := HA.out
      clear HA
      simp only [varint_Get.l0] at H
      by_cases c2 : x10_1 < (l0.length : Int)
      · rw [if_pos c2] at H
        have c2b0 : decide (x10_1 < (l0.length : Int)) = true := decide_eq_true c2
        clear c2
        by_cases c3 : 0 ≤ x10_1
        · rw [if_pos c3] at H
          have c3b0 : decide (0 ≤ x10_1) = true := decide_eq_true c3
          clear c3
          by_cases c4 : x10_1 < (l0.length : Int)
          · rw [if_pos c4] at H
            have c4b0 : decide (x10_1 < (l0.length : Int)) = true := decide_eq_true c4
            clear c4
            have HC5 := Aside0.mk H
            clear H
            have p111 : 0 ≤ (x10_1 : Int) := of_decide_eq_true (by first | (with_reducible assumption) | assumption)
            have q111 : x10_1 < (l0.length : Int) := of_decide_eq_true (by first | (with_reducible assumption) | assumption)
            obtain ⟨ad111, e111, hx111_0⟩ := Kd.at_int HR0.out x10_1 p111 q111
            cases e111
            replace p111 := eq_true p111
            replace q111 := eq_true q111
            go_upto_region 5 with (fail)
            go_cut [20] (fun v20 wc => ∃ (kq : Nat) (x20_4 : Bool), v20 = .bool x20_4 ∧ Aside0 (varint_Get.j1 kq x5_1 x10_1 (rd l0 x10_1) l0 (l0.length : Int) x10_1 x20_4 = some (r1, r2, r3)) ∧ Aside0 (kq ≤ k1) ∧ Drawn0 w wc)
            case first =>
              have H := HC5.out
              clear HC5
              by_cases c6 : x10_1 = 9
              · rw [if_pos c6] at H
                have c6b0 : (x10_1 == 9) = true := beq_iff_eq.mpr c6
                have c6b1 : (x10_1 != 9) = false := bne_eq_false_iff_eq.mpr c6
                clear c6
                (first | rw [c6b0] | (simp only [i64_w, i32_w]; rw [c6b0]) | skip)
                have H' := Aside0.mk H
                clear H
                go_wp2
                go_meet
                case rel => exact ⟨_, (decide ((rd l0 x10_1) > 1)), (by first | rfl | (simp; done) | (simp [*]; done)), H', ⟨by have := HK1.out; first | omega | exact Nat.le_refl _⟩, by repeat (first | exact Drawn0.refl _ | apply Drawn0.step)⟩
              · rw [if_neg c6] at H
                have c6b0 : (x10_1 == 9) = false := beq_eq_false_iff_ne.mpr c6
                have c6b1 : (x10_1 != 9) = true := bne_iff_ne.mpr c6
                (first | rw [c6b0] | (simp only [i64_w, i32_w]; rw [c6b0]) | skip)
                have H' := Aside0.mk H
                clear H
                go_wp2
                go_meet
                case rel => exact ⟨_, (false), (by first | rfl | (simp; done) | (simp [*]; done)), H', ⟨by have := HK1.out; first | omega | exact Nat.le_refl _⟩, by repeat (first | exact Drawn0.refl _ | apply Drawn0.step)⟩
            case rest =>
              clear HC5
              try clear c1
              try clear p1
              try clear q1
              try clear hx1
              try clear c2
              try clear c2b0
              try clear p2
              try clear c3
              try clear c3b0
              try clear c4
              try clear c4b0
              try clear c6
              try clear c6b0
              try clear c6b1
              try clear hx111_0
              try clear p111
              try clear q111
              obtain ⟨kq, x20_4, rfl, HA, HJ4, ⟨mc4, rfl⟩⟩ := hcut
              cases kq with
              | zero => exact absurd HA.out (by simp [varint_Get.j1])
              | succ kj4 =>
                have H := HA.out
                clear HA
                simp only [varint_Get.j1] at H
                by_cases c7 : x20_4 = true
                · subst c7
                  have H1 : (some (0, 0, 5)) = some (r1, r2, r3) := by rw [if_pos rfl] at H; exact H
                  clear H
                  have H := H1
                  clear H1
                  simp only [Option.some.injEq, Prod.mk.injEq] at H
                  obtain ⟨rfl, rfl, rfl⟩ := H
                  go_wp2
                  go_ret3
                  exact ⟨by first | rfl | (simp; done) | (simp [*]; done), by repeat (first | exact Drawn0.refl _ | apply Drawn0.step)⟩
                · replace c7 := Bool.eq_false_iff.mpr c7
                  subst c7
                  have H1 : (if 0 ≤ (wrap64 (7 * x10_1)) then (if (rd l0 x10_1) ≥ 128 then (varint_Get.l0 kj4 (Go.bits .or .u64 x5_1 (shl .u64 (IntKind.u64.wrap (Go.bits .and .u8 (rd l0 x10_1) 127)) (wrap64 (7 * x10_1)))) l0 (l0.length : Int) (wrap64 (x10_1 + 1))) else (if (rd l0 x10_1) = 0 then (if x10_1 > 0 then (some (0, 0, 5)) else (some (wrap64 (Go.bits .or .u64 x5_1 (shl .u64 (IntKind.u64.wrap (Go.bits .and .u8 (rd l0 x10_1) 127)) (wrap64 (7 * x10_1)))), wrap64 (x10_1 + 1), 0))) else (some (wrap64 (Go.bits .or .u64 x5_1 (shl .u64 (IntKind.u64.wrap (Go.bits .and .u8 (rd l0 x10_1) 127)) (wrap64 (7 * x10_1)))), wrap64 (x10_1 + 1), 0)))) else (none)) = some (r1, r2, r3) := by rw [if_neg (show ¬ (false = true) by decide)] at H; exact H
                  clear H
                  have H := H1
                  clear H1
                  obtain ⟨ji8, hji8⟩ : ∃ j_ : Int, (wrap64 (7 * x10_1)) = j_ := ⟨_, rfl⟩
                  replace H : (if 0 ≤ (ji8) then (if (rd l0 x10_1) ≥ 128 then (varint_Get.l0 kj4 (Go.bits .or .u64 x5_1 (shl .u64 (IntKind.u64.wrap (Go.bits .and .u8 (rd l0 x10_1) 127)) (ji8))) l0 (l0.length : Int) (wrap64 (x10_1 + 1))) else (if (rd l0 x10_1) = 0 then (if x10_1 > 0 then (some (0, 0, 5)) else (some (wrap64 (Go.bits .or .u64 x5_1 (shl .u64 (IntKind.u64.wrap (Go.bits .and .u8 (rd l0 x10_1) 127)) (ji8))), wrap64 (x10_1 + 1), 0))) else (some (wrap64 (Go.bits .or .u64 x5_1 (shl .u64 (IntKind.u64.wrap (Go.bits .and .u8 (rd l0 x10_1) 127)) (ji8))), wrap64 (x10_1 + 1), 0)))) else (none)) = some (r1, r2, r3) := by first | (rw [hji8] at H; exact H) | (simp only [hji8] at H ⊢; exact H)
                  have hji8w : (IntKind.i64.wrap (7 * x10_1)) = ji8 := (i64_w _).trans hji8
                  by_cases c9 : 0 ≤ (ji8)
                  · rw [if_pos c9] at H
                    have c9b0 := eq_true c9
                    have c9b1 : decide (0 ≤ (ji8)) = true := decide_eq_true c9
                    clear c9
                    obtain ⟨ji10, hji10⟩ : ∃ j_ : Int, (shl .u64 (IntKind.u64.wrap (Go.bits .and .u8 (rd l0 x10_1) 127)) (ji8)) = j_ := ⟨_, rfl⟩
                    replace H : (if (rd l0 x10_1) ≥ 128 then (varint_Get.l0 kj4 (Go.bits .or .u64 x5_1 (ji10)) l0 (l0.length : Int) (wrap64 (x10_1 + 1))) else (if (rd l0 x10_1) = 0 then (if x10_1 > 0 then (some (0, 0, 5)) else (some (wrap64 (Go.bits .or .u64 x5_1 (ji10)), wrap64 (x10_1 + 1), 0))) else (some (wrap64 (Go.bits .or .u64 x5_1 (ji10)), wrap64 (x10_1 + 1), 0)))) = some (r1, r2, r3) := by first | (rw [hji10] at H; exact H) | (simp only [hji10] at H ⊢; exact H)
                    have hji10_ : (IntKind.u64.wrap ((IntKind.u64.wrap (Go.bits .and .u8 (rd l0 x10_1) 127)) * 2 ^ min (ji8).toNat 64)) = ji10 := hji10
                    have hji10z : (ji8) ≤ 64 → (IntKind.u64.wrap ((IntKind.u64.wrap (Go.bits .and .u8 (rd l0 x10_1) 127)) * 2 ^ (ji8).toNat)) = ji10 := shl_small hji10
                    by_cases c11 : (rd l0 x10_1) ≥ 128
                    · rw [if_pos c11] at H
                      have c11b0 : decide (128 ≤ (rd l0 x10_1)) = true := decide_eq_true c11
                      clear c11
                      have H' := Aside0.mk H
                      clear H
                      go_wp2
                      go_roundg kj4
                      case measure => have := HK1.out; have := HJ4.out; omega
                      case rel => exact ⟨(Go.bits .or .u64 x5_1 (ji10)), (wrap64 (x10_1 + 1)), (by first | rfl | (simp; done) | (simp only [← hji10] <;> (first | rfl | simp)) | (simp [*]; done)), (by first | rfl | (simp; done) | (simp [*]; done)), H', ⟨by have := HK1.out; have := HJ4.out; omega⟩, by repeat (first | exact Drawn0.refl _ | apply Drawn0.step)⟩
                    · rw [if_neg c11] at H
                      have c11b0 : decide (128 ≤ (rd l0 x10_1)) = false := decide_eq_false c11
                      clear c11
                      by_cases c12 : (rd l0 x10_1) = 0
                      · rw [if_pos c12] at H
                        have c12b0 : ((rd l0 x10_1) == 0) = true := beq_iff_eq.mpr c12
                        have c12b1 : ((rd l0 x10_1) != 0) = false := bne_eq_false_iff_eq.mpr c12
                        clear c12
                        by_cases c13 : x10_1 > 0
                        · rw [if_pos c13] at H
                          have c13b0 : decide (0 < x10_1) = true := decide_eq_true c13
                          clear c13
                          simp only [Option.some.injEq, Prod.mk.injEq] at H
                          obtain ⟨rfl, rfl, rfl⟩ := H
                          go_wp2
                          go_ret3
                          exact ⟨by first | rfl | (simp; done) | (simp only [← hji8, ← hji10] <;> (first | rfl | simp)) | (simp [*]; done), by repeat (first | exact Drawn0.refl _ | apply Drawn0.step)⟩
                        · rw [if_neg c13] at H
                          have c13b0 : decide (0 < x10_1) = false := decide_eq_false c13
                          clear c13
                          simp only [Option.some.injEq, Prod.mk.injEq] at H
                          obtain ⟨rfl, rfl, rfl⟩ := H
                          go_wp2
                          go_ret3
                          exact ⟨by first | rfl | (simp; done) | (simp only [← hji8, ← hji10] <;> (first | rfl | simp)) | (simp [*]; done), by repeat (first | exact Drawn0.refl _ | apply Drawn0.step)⟩
                      · rw [if_neg c12] at H
                        have c12b0 : ((rd l0 x10_1) == 0) = false := beq_eq_false_iff_ne.mpr c12
                        have c12b1 : ((rd l0 x10_1) != 0) = true := bne_iff_ne.mpr c12
                        simp only [Option.some.injEq, Prod.mk.injEq] at H
                        obtain ⟨rfl, rfl, rfl⟩ := H
                        go_wp2
                        go_ret3
                        exact ⟨by first | rfl | (simp; done) | (simp only [← hji8, ← hji10] <;> (first | rfl | simp)) | (simp [*]; done), by repeat (first | exact Drawn0.refl _ | apply Drawn0.step)⟩
                  · rw [if_neg c9] at H
                    exact absurd H (by simp)
          · rw [if_neg c4] at H
            exact absurd H (by simp)
        · rw [if_neg c3] at H
          exact absurd H (by simp)
      · rw [if_neg c2] at H
        have c2b0 : decide (x10_1 < (l0.length : Int)) = false := decide_eq_false c2
        clear c2
        simp only [Option.some.injEq, Prod.mk.injEq] at H
        obtain ⟨rfl, rfl, rfl⟩ := H
        go_wp2
        go_ret3
        exact ⟨by first | rfl | (simp; done) | (simp [*]; done), by repeat (first | exact Drawn0.refl _ | apply Drawn0.step)⟩
def varint_Zag.f (a0 : Int) : Option (Int) := some (Go.bits .xor .i64 (wrap64 ((IntKind.u64.wrap (a0)) / 2)) (wrap64 (-(Go.bits .and .i64 a0 1))))
set_option maxHeartbeats 8000000 in
set_option maxRecDepth 100000 in
theorem varint_Zag.calls (a0 : Int) (r : Int) (w : World) (h : varint_Zag.f a0 = some r) :
    Calls Try.prog 129 #[.int .i64 a0] w fun e w' => e = .returned (.int .i64 r) ∧ Drawn0 w w' := by
  have H : (some (Go.bits .xor .i64 (wrap64 ((IntKind.u64.wrap (a0)) / 2)) (wrap64 (-(Go.bits .and .i64 a0 1))))) = some r := h
  clear h
  obtain rfl := Option.some.inj H
  go_enter Try.func129, Try.ntmps129
  go_wp2
  go_ret
  exact ⟨by first | rfl | (simp; done) | (simp [*]; done), by repeat (first | exact Drawn0.refl _ | apply Drawn0.step)⟩
def varint_GetSigned.f (k : Nat) (l0 : List Int) : Option (Int × Int × Int) := (varint_Get.f k l0).bind fun bt112 => (if bt112.2.2 = 0 then ((varint_Zag.f bt112.1).bind fun t115 => (some (t115, bt112.2.1, 0))) else (some (0, 0, bt112.2.2)))
set_option maxHeartbeats 8000000 in
set_option maxRecDepth 100000 in
theorem varint_GetSigned.calls (k : Nat) (A0 : Option Addr) (c0 : Nat) (l0 : List Int) (r1 : Int) (r2 : Int) (r3 : Int) (w : World) (hr0 : Kd.C (Kd.int .u8) w A0 l0.length l0) (hc0 : l0.length ≤ c0) (h : varint_GetSigned.f k l0 = some (r1, r2, r3)) :
    Calls Try.prog 97 #[.slice A0 l0.length c0] w fun e w' => e = .returned (.tuple #[.int .i64 r1, .int .i64 r2, .int .i64 r3]) ∧ Drawn0 w w' := by
  have HR0 := Aside0.mk hr0
  have HC0 := Aside0.mk hc0
  clear hr0 hc0
  have H : ((varint_Get.f k l0).bind fun bt112 => (if bt112.2.2 = 0 then ((varint_Zag.f bt112.1).bind fun t115 => (some (t115, bt112.2.1, 0))) else (some (0, 0, bt112.2.2)))) = some (r1, r2, r3) := h
  clear h
  replace H := Option.bind_eq_some_iff.mp H
  obtain ⟨⟨t112, t113, t114⟩, A20, H⟩ := H
  replace H : (if t114 = 0 then ((varint_Zag.f t112).bind fun t115 => (some (t115, t113, 0))) else (some (0, 0, t114))) = some (r1, r2, r3) := H
  have A2 := Aside0.mk A20
  clear A20
  by_cases c3 : t114 = 0
  · rw [if_pos c3] at H
    have c3b0 : (t114 == 0) = true := beq_iff_eq.mpr c3
    have c3b1 : (t114 != 0) = false := bne_eq_false_iff_eq.mpr c3
    clear c3
    replace H := Option.bind_eq_some_iff.mp H
    obtain ⟨t115, A40, H⟩ := H
    replace H : (some (t115, t113, 0)) = some (r1, r2, r3) := H
    have A4 := Aside0.mk A40
    clear A40
    simp only [Option.some.injEq, Prod.mk.injEq] at H
    obtain ⟨rfl, rfl, rfl⟩ := H
    go_enter Try.func97, Try.ntmps97
    go_wp2_with (first | ((with_reducible refine gate_callee (f := 128) rfl ?_); refine goesL_ (some 10) rfl rfl Try.func128 (by kernel_rfl) rfl #[.slice A0 l0.length c0] rfl (by (try simp only [List.map_toArray, List.map_cons, List.map_nil]); first | done | rfl | (simp only [List.length_drop, List.length_take]; rfl)) ?_; (with_reducible refine (varint_Get.calls k _ _ l0 t112 t113 t114 _ ?side1 ?side2 A2.out).mono ?_); (case side1 => repeat (first | exact HR0.out | (with_reducible refine Kd.C_alloc ?_ _) | (with_reducible refine Kd.C_drewN ?_ _) | (with_reducible refine Kd.C_drew ?_))); (case side2 => exact HC0.out); rintro e w' ⟨rfl, ⟨nd, rfl⟩⟩; refine ⟨_, rfl, ?_⟩) | ((with_reducible refine gate_callee (f := 129) rfl ?_); refine goesL_ (some 18) rfl rfl Try.func129 (by kernel_rfl) rfl #[.int .i64 t112] rfl (by (try simp only [List.map_toArray, List.map_cons, List.map_nil]); first | done | rfl | (simp only [List.length_drop, List.length_take]; rfl)) ?_; (with_reducible refine (varint_Zag.calls t112 t115 _ A4.out).mono ?_); rintro e w' ⟨rfl, ⟨nd, rfl⟩⟩; refine ⟨_, rfl, ?_⟩))
    go_ret3
    exact ⟨by first | rfl | (simp; done) | (simp [*]; done), by repeat (first | exact Drawn0.refl _ | apply Drawn0.step)⟩
  · rw [if_neg c3] at H
    have c3b0 : (t114 == 0) = false := beq_eq_false_iff_ne.mpr c3
    have c3b1 : (t114 != 0) = true := bne_iff_ne.mpr c3
    simp only [Option.some.injEq, Prod.mk.injEq] at H
    obtain ⟨rfl, rfl, rfl⟩ := H
    go_enter Try.func97, Try.ntmps97
    go_wp2_with (first | ((with_reducible refine gate_callee (f := 128) rfl ?_); refine goesL_ (some 10) rfl rfl Try.func128 (by kernel_rfl) rfl #[.slice A0 l0.length c0] rfl (by (try simp only [List.map_toArray, List.map_cons, List.map_nil]); first | done | rfl | (simp only [List.length_drop, List.length_take]; rfl)) ?_; (with_reducible refine (varint_Get.calls k _ _ l0 t112 t113 t114 _ ?side1 ?side2 A2.out).mono ?_); (case side1 => repeat (first | exact HR0.out | (with_reducible refine Kd.C_alloc ?_ _) | (with_reducible refine Kd.C_drewN ?_ _) | (with_reducible refine Kd.C_drew ?_))); (case side2 => exact HC0.out); rintro e w' ⟨rfl, ⟨nd, rfl⟩⟩; refine ⟨_, rfl, ?_⟩))
    go_ret3
    exact ⟨by first | rfl | (simp; done) | (simp [*]; done), by repeat (first | exact Drawn0.refl _ | apply Drawn0.step)⟩
def lysimeterref4_Put.l0 : Nat → Int → List Int → Option (List Int)
  | 0, _, _ => none
  | k + 1, x3, x4 => if x3 ≥ 128 then (if x4.length < 140737488355328 then (lysimeterref4_Put.l0 k (x3 / 128) (x4 ++ [Go.bits .or .u8 ((Go.bits .and .u64 x3 127) % 256) 128])) else (none)) else (if x4.length < 140737488355328 then (some (x4 ++ [(x3) % 256])) else (none))
def lysimeterref4_Put.f (k : Nat) (a0 : Int) : Option (List Int) := lysimeterref4_Put.l0 k (IntKind.u64.wrap (a0)) ([] : List Int)
set_option maxHeartbeats 8000000 in
set_option maxRecDepth 100000 in
theorem lysimeterref4_Put.calls (k : Nat) (a0 : Int) (r : List Int) (w : World) (h : lysimeterref4_Put.f k a0 = some r) :
    Calls Try.prog 132 #[.int .i64 a0] w fun e w' => ∃ v0_ : Value, e = .returned (v0_) ∧ Kd.R (Kd.int .u8) 5 w' w.heap.size (fun _ => True) v0_ r ∧ Below w.heap.size w w' := by
  have HB := Aside0.mk (Below.refl w.heap.size w)
  have H : (lysimeterref4_Put.l0 k (IntKind.u64.wrap (a0)) ([] : List Int)) = some r := h
  clear h
  have H' := Aside0.mk H
  clear H
  go_enter Try.func132, Try.ntmps132
  go_wp2
  go_loopg [3, 4] k (fun kq v3 v4 w' => ∃ (x3_1 : Int) (x4_1 : List Int), v3 = .int .u64 x3_1 ∧ Aside0 (lysimeterref4_Put.l0 kq x3_1 x4_1 = some r) ∧ Aside0 (kq ≤ k) ∧ Aside0 (Kd.R (Kd.int .u8) 5 w' w.heap.size (fun _ => True) v4 x4_1) ∧ Aside0 (Below w.heap.size w w'))
  case atStart => exact ⟨(IntKind.u64.wrap (a0)), (([] : List Int)), (by first | rfl | (simp; done) | (simp [*]; done)), H', ⟨Nat.le_refl _⟩, ⟨by first | exact Kd.R_nil _ _ _ _ _ | exact Kd.N_nil _ _ _ _ _ | exact Kd.V_nil _ _ _ _ _ | exact Kd.Q_nil _ _ _ _ _ | exact Kd.S_nil _ _ _ _ _⟩, ⟨by repeat (first | (with_reducible first | exact HB.out | apply below_alloc | apply pw_below_drewN | apply below_drew1) | exact HB.out)⟩⟩
  case round =>
    clear H'
    try clear c1
    obtain ⟨x3_1, x4_1, rfl, HA, HK1, HO_4, HB⟩ := hrel
    cases gk with
    | zero => exact absurd HA.out (by simp [lysimeterref4_Put.l0])
    | succ k1 =>
      have H := HA.out
      clear HA
      simp only [lysimeterref4_Put.l0] at H
      by_cases c2 : x3_1 ≥ 128
      · rw [if_pos c2] at H
        have c2b0 : decide (128 ≤ x3_1) = true := decide_eq_true c2
        clear c2
        by_cases c3 : x4_1.length < 140737488355328
        · rw [if_pos c3] at H
          have LMc3 := Aside0.mk c3
          clear c3
          obtain ⟨y116, hy116⟩ : ∃ y_ : List Int, y_ = (x4_1 ++ [Go.bits .or .u8 ((Go.bits .and .u64 x3_1 127) % 256) 128]) := ⟨_, rfl⟩
          replace H : (lysimeterref4_Put.l0 k1 (x3_1 / 128) y116) = some r := by first | (rw [hy116]; with_reducible exact H) | (have H2_ := (Option.bind_some _ _).symm.trans H; rw [hy116]; with_reducible exact H2_) | (have H2_ := (Option.bind_some _ _).symm.trans H; with_reducible exact H2_) | with_reducible exact H | (rw [hy116]; exact H) | exact H
          have Ny116 := Aside0.mk hy116
          clear hy116
          have H' := Aside0.mk H
          clear H
          go_wp2_with (first | ((with_reducible refine gate_builtin (b := .append) (xs := #[.tmp 9, .tmp 14]) rfl ?_); at_builtin; refine Kd.R_append (Kd.int .u8) (w0 := w) w.heap.size rfl (.tmp 9) (.tmp 14) 88 5 (.int .u8 0) 1 rfl Try.underlying88 info5 rfl (by decide) (by omega) u4 x4_1 (Go.bits .or .u8 ((Go.bits .and .u64 x3_1 127) % 256) 128) [.int .u8 (Go.bits .or .u8 ((Go.bits .and .u64 x3_1 127) % 256) 128)] (fun _ => True) (fun _ => False) rfl rfl ?aP (fun _ hk => hk.elim) ?aF ?aO ?aB ?aS ?aL ?_; (case aP => exact rfl); (case aB => exact (by repeat (first | (with_reducible first | exact HB.out | apply below_alloc | apply pw_below_drewN | apply below_drew1) | exact HB.out))); (case aF => exact (fun _ _ => trivial)); (case aO => exact (by (with_reducible repeat (first | apply Kd.R_alloc | apply Kd.R_drewN | apply Kd.R_drew)); exact HO_4.out)); (case aS => exact (below_size (by repeat (first | (with_reducible first | exact HB.out | apply below_alloc | apply pw_below_drewN | apply below_drew1) | exact HB.out)))); (case aL => have := LMc3.out; omega); intro v117 w4 ho hb hg hat; rw [← Ny116.out] at ho; have n0_ := Aside0.mk (hb); have n1_ := Aside0.mk (ho); clear HB; clear HO_4; have HB := n0_; have HO118 := n1_; clear n0_ n1_; clear ho hb hg hat))
          go_roundg k1
          case measure => have := HK1.out; omega
          case rel => exact ⟨(x3_1 / 128), (y116), (by first | rfl | (simp; done) | (simp [*]; done)), H', ⟨by have := HK1.out; omega⟩, ⟨by (with_reducible repeat (first | apply Kd.R_alloc | apply Kd.R_drewN | apply Kd.R_drew)); exact HO118.out⟩, ⟨by repeat (first | (with_reducible first | exact HB.out | apply below_alloc | apply pw_below_drewN | apply below_drew1) | exact HB.out)⟩⟩
        · rw [if_neg c3] at H
          exact absurd H (by simp)
      · rw [if_neg c2] at H
        have c2b0 : decide (128 ≤ x3_1) = false := decide_eq_false c2
        clear c2
        by_cases c5 : x4_1.length < 140737488355328
        · rw [if_pos c5] at H
          have LMc5 := Aside0.mk c5
          clear c5
          obtain ⟨y119, hy119⟩ : ∃ y_ : List Int, y_ = (x4_1 ++ [(x3_1) % 256]) := ⟨_, rfl⟩
          replace H : (some y119) = some r := by first | (rw [hy119]; with_reducible exact H) | (have H2_ := (Option.bind_some _ _).symm.trans H; rw [hy119]; with_reducible exact H2_) | (have H2_ := (Option.bind_some _ _).symm.trans H; with_reducible exact H2_) | with_reducible exact H | (rw [hy119]; exact H) | exact H
          have Ny119 := Aside0.mk hy119
          clear hy119
          obtain rfl := Option.some.inj H
          go_wp2_with (first | ((with_reducible refine gate_builtin (b := .append) (xs := #[.tmp 18, .tmp 21]) rfl ?_); at_builtin; refine Kd.R_append (Kd.int .u8) (w0 := w) w.heap.size rfl (.tmp 18) (.tmp 21) 88 5 (.int .u8 0) 1 rfl Try.underlying88 info5 rfl (by decide) (by omega) u4 x4_1 ((x3_1) % 256) [.int .u8 ((x3_1) % 256)] (fun _ => True) (fun _ => False) rfl rfl ?aP (fun _ hk => hk.elim) ?aF ?aO ?aB ?aS ?aL ?_; (case aP => exact rfl); (case aB => exact (by repeat (first | (with_reducible first | exact HB.out | apply below_alloc | apply pw_below_drewN | apply below_drew1) | exact HB.out))); (case aF => exact (fun _ _ => trivial)); (case aO => exact (by (with_reducible repeat (first | apply Kd.R_alloc | apply Kd.R_drewN | apply Kd.R_drew)); exact HO_4.out)); (case aS => exact (below_size (by repeat (first | (with_reducible first | exact HB.out | apply below_alloc | apply pw_below_drewN | apply below_drew1) | exact HB.out)))); (case aL => have := LMc5.out; omega); intro v120 w6 ho hb hg hat; rw [← Ny119.out] at ho; have n0_ := Aside0.mk (hb); have n1_ := Aside0.mk (ho); clear HB; clear HO_4; have HB := n0_; have HO121 := n1_; clear n0_ n1_; clear ho hb hg hat))
          go_ret
          exact ⟨_, by first | rfl | (simp [errW_none, errW_some] <;> rfl) | (simp [*, errW_none, errW_some] <;> rfl), by (with_reducible repeat (first | apply Kd.R_alloc | apply Kd.R_drewN | apply Kd.R_drew)); exact HO121.out, by repeat (first | (with_reducible first | exact HB.out | apply below_alloc | apply pw_below_drewN | apply below_drew1) | exact HB.out)⟩
        · rw [if_neg c5] at H
          exact absurd H (by simp)
def lysimeterref4_Zig.f (a0 : Int) : Option (Int) := if a0 < 0 then (some (wrap64 (Go.bits .xor .u64 18446744073709551615 (IntKind.u64.wrap ((IntKind.u64.wrap (a0)) * 2))))) else (some (wrap64 (IntKind.u64.wrap ((IntKind.u64.wrap (a0)) * 2))))
set_option maxHeartbeats 8000000 in
set_option maxRecDepth 100000 in
theorem lysimeterref4_Zig.calls (a0 : Int) (r : Int) (w : World) (h : lysimeterref4_Zig.f a0 = some r) :
    Calls Try.prog 133 #[.int .i64 a0] w fun e w' => e = .returned (.int .i64 r) ∧ Drawn0 w w' := by
  have H : (if a0 < 0 then (some (wrap64 (Go.bits .xor .u64 18446744073709551615 (IntKind.u64.wrap ((IntKind.u64.wrap (a0)) * 2))))) else (some (wrap64 (IntKind.u64.wrap ((IntKind.u64.wrap (a0)) * 2))))) = some r := h
  clear h
  by_cases c2 : a0 < 0
  · rw [if_pos c2] at H
    have c2b0 : decide (a0 < 0) = true := decide_eq_true c2
    clear c2
    obtain rfl := Option.some.inj H
    go_enter Try.func133, Try.ntmps133
    go_wp2
    go_ret
    exact ⟨by first | rfl | (simp; done) | (simp [*]; done), by repeat (first | exact Drawn0.refl _ | apply Drawn0.step)⟩
  · rw [if_neg c2] at H
    have c2b0 : decide (a0 < 0) = false := decide_eq_false c2
    clear c2
    obtain rfl := Option.some.inj H
    go_enter Try.func133, Try.ntmps133
    go_wp2
    go_ret
    exact ⟨by first | rfl | (simp; done) | (simp [*]; done), by repeat (first | exact Drawn0.refl _ | apply Drawn0.step)⟩
end Go.Proofs.Ytemnfnbjapobcaa.Pk
end
section
namespace Go.Proofs.Ytemnfnbjapobcaa.VS
set_option linter.unusedVariables false
def putN (u : Nat) : List Int := if u < 128 then [(u : Int)] else ((u % 128 + 128 : Nat) : Int) :: putN (u / 128)
theorem putN_eq (u : Nat) : putN u = if u < 128 then [(u : Int)] else ((u % 128 + 128 : Nat) : Int) :: putN (u / 128) := by rw [putN]
def getL (i v : Nat) : List Int → Option (Nat × Nat)
  | [] => none
  | x :: l => if i = 9 ∧ 1 < x then none else if 128 ≤ x then getL (i + 1) (v + (x.toNat - 128) * 128 ^ i) l else if x = 0 ∧ 0 < i then none else some (v + x.toNat * 128 ^ i, i + 1)
theorem get_put (rest : List Int) : ∀ (u i v : Nat), i ≤ 9 → u < 2 ^ (64 - 7 * i) → (0 < i → u ≠ 0) → getL i v (putN u ++ rest) = some (v + u * 128 ^ i, i + (putN u).length) := by
  intro u
  induction u using Nat.strongRecOn with
  | _ u ih =>
    intro i v hi hu h0
    have h9 : i = 9 → u < 2 := fun e => by subst e; simpa using hu
    rw [putN_eq]
    by_cases h : u < 128
    · rw [if_pos h]
      show getL i v ((u : Int) :: rest) = _
      unfold getL
      rw [if_neg (fun hh => by have := h9 hh.1; omega), if_neg (by omega), if_neg (fun hh => h0 hh.2 (by omega))]
      simp
    · rw [if_neg h]
      show getL i v (((u % 128 + 128 : Nat) : Int) :: (putN (u / 128) ++ rest)) = _
      unfold getL
      have hi9 : i ≠ 9 := fun e => by have := h9 e; omega
      rw [if_neg (fun hh => hi9 hh.1), if_pos (by omega)]
      have hlt : u / 128 < 2 ^ (64 - 7 * (i + 1)) := by
        rw [Nat.div_lt_iff_lt_mul (by decide)]
        have e : 64 - 7 * i = 64 - 7 * (i + 1) + 7 := by omega
        rw [e, Nat.pow_add] at hu
        exact hu
      rw [ih (u / 128) (by omega) (i + 1) _ (by omega) hlt (by omega)]
      have e1 : (((u % 128 + 128 : Nat) : Int).toNat - 128) = u % 128 := by omega
      rw [e1]
      have e2 : v + u % 128 * 128 ^ i + u / 128 * 128 ^ (i + 1) = v + u * 128 ^ i := by
        rw [Nat.pow_succ, Nat.add_assoc, Nat.mul_comm (128 ^ i) 128, ← Nat.mul_assoc (u / 128), ← Nat.add_mul, show u % 128 + u / 128 * 128 = u by omega]
      have e3 : i + 1 + (putN (u / 128)).length = i + (((u % 128 + 128 : Nat) : Int) :: putN (u / 128)).length := by
        rw [List.length_cons]
        omega
      rw [e2, e3]
theorem put_get : ∀ (l : List Int) (i v n k : Nat), (∀ x ∈ l, 0 ≤ x ∧ x < 256) → i ≤ 9 → getL i v l = some (n, k) → ∃ u, n = v + u * 128 ^ i ∧ l.take (k - i) = putN u ∧ i < k ∧ k ≤ i + l.length ∧ u < 2 ^ (64 - 7 * i) ∧ (0 < i → u ≠ 0) := by
  intro l
  induction l with
  | nil => intro i v n k _ _ h; cases h
  | cons x l ih =>
    intro i v n k hb hi h
    have hx := hb x (List.mem_cons_self ..)
    unfold getL at h
    by_cases h1 : i = 9 ∧ 1 < x
    · rw [if_pos h1] at h; cases h
    rw [if_neg h1] at h
    by_cases h2 : 128 ≤ x
    · rw [if_pos h2] at h
      have hi9 : i ≠ 9 := fun e => h1 ⟨e, by omega⟩
      obtain ⟨u, e1, e2, e3, e4, e5, e6⟩ := ih (i + 1) _ n k (fun y hy => hb y (List.mem_cons_of_mem _ hy)) (by omega) h
      have hu0 := e6 (by omega)
      refine ⟨x.toNat - 128 + 128 * u, ?_, ?_, by omega, by rw [List.length_cons]; omega, ?_, by omega⟩
      · rw [e1, Nat.pow_succ, Nat.add_assoc, Nat.add_mul]
        congr 2
        rw [Nat.mul_comm (128 ^ i) 128, ← Nat.mul_assoc, Nat.mul_comm u 128]
      · have e7 : k - i = k - (i + 1) + 1 := by omega
        rw [e7, List.take_succ_cons, e2, putN_eq (x.toNat - 128 + 128 * u), if_neg (by omega)]
        have e8 : (x.toNat - 128 + 128 * u) % 128 + 128 = x.toNat := by omega
        have e9 : (x.toNat - 128 + 128 * u) / 128 = u := by omega
        rw [e8, e9]
        congr 1
        omega
      · have e : 64 - 7 * i = 64 - 7 * (i + 1) + 7 := by omega
        rw [e, Nat.pow_add]
        have : 2 ^ 7 = 128 := rfl
        omega
    · rw [if_neg h2] at h
      by_cases h3 : x = 0 ∧ 0 < i
      · rw [if_pos h3] at h; cases h
      rw [if_neg h3] at h
      have h4 := Option.some.inj h
      rw [Prod.mk.injEq] at h4
      refine ⟨x.toNat, h4.1.symm, ?_, by omega, by rw [List.length_cons]; omega, ?_, fun hh => ?_⟩
      · have e7 : k - i = 1 := by omega
        rw [e7, putN_eq, if_pos (by omega)]
        show [x] = _
        congr 1
        omega
      · by_cases e : i = 9
        · subst e
          have : ¬ 1 < x := fun hh => h1 ⟨rfl, hh⟩
          show x.toNat < 2 ^ 1
          omega
        · have e8 : 7 ≤ 64 - 7 * i := by omega
          have : 2 ^ 7 ≤ 2 ^ (64 - 7 * i) := Nat.pow_le_pow_right (by decide) e8
          have : 2 ^ 7 = 128 := rfl
          omega
      · intro e
        exact h3 ⟨by omega, hh⟩
theorem putN_len : ∀ (k u : Nat), u < 128 ^ (k + 1) → (putN u).length ≤ k + 1 := by
  intro k
  induction k with
  | zero => intro u h; rw [putN_eq, if_pos (by simpa using h)]; exact Nat.le_refl _
  | succ k ih =>
    intro u h
    rw [putN_eq]
    split
    · exact Nat.succ_le_succ (Nat.zero_le _)
    · have := ih (u / 128) (by rw [Nat.div_lt_iff_lt_mul (by decide), ← Nat.pow_succ]; exact h)
      rw [List.length_cons]
      omega
theorem putN_byte : ∀ (u : Nat), ∀ x ∈ putN u, 0 ≤ x ∧ x < 256 := by
  intro u
  induction u using Nat.strongRecOn with
  | _ u ih =>
    rw [putN_eq]
    split
    · intro x hx
      rw [List.mem_singleton] at hx
      omega
    · intro x hx
      rcases List.mem_cons.mp hx with rfl | hx
      · omega
      · exact ih (u / 128) (by omega) x hx
def zigN (x : Int) : Nat := if x < 0 then (-2 * x - 1).toNat else (2 * x).toNat
def zagN (u : Nat) : Int := if u % 2 = 0 then (u / 2 : Nat) else -((u / 2 : Nat) : Int) - 1
theorem zag_zig (x : Int) : zagN (zigN x) = x := by
  unfold zagN zigN
  repeat' split
  all_goals omega
theorem zig_zag (u : Nat) : zigN (zagN u) = u := by
  unfold zagN zigN
  repeat' split
  all_goals omega
theorem zig_lt {x : Int} (h1 : -9223372036854775808 ≤ x) (h2 : x ≤ 9223372036854775807) : zigN x < 18446744073709551616 := by
  unfold zigN
  split <;> omega
theorem zag_in {u : Nat} (h : u < 18446744073709551616) : -9223372036854775808 ≤ zagN u ∧ zagN u ≤ 9223372036854775807 := by
  unfold zagN
  split <;> omega
def signS (x : Int) : List Int := putN (zigN x)
def getS (l : List Int) : Int × Int × Int := match getL 0 0 l with
  | none => (0, 0, 5)
  | some (n, k) => (zagN n, (k : Int), 0)
theorem getS_put {x : Int} (h1 : -9223372036854775808 ≤ x) (h2 : x ≤ 9223372036854775807) (rest : List Int) : getS (signS x ++ rest) = (x, ((signS x).length : Int), 0) := by
  unfold getS signS
  rw [get_put rest (zigN x) 0 0 (by decide) (zig_lt h1 h2) (fun h => absurd h (by decide))]
  simp [zag_zig]
def unpT : Nat → List Int → Option (List Int × List Int)
  | 0, l => some ([], l)
  | m + 1, l => if (getS l).2.2 = 0 then (unpT m (l.drop (getS l).2.1.toNat)).map (fun t => ((getS l).1 :: t.1, t.2)) else none
theorem unpT_put : ∀ (vs rest : List Int), (∀ x ∈ vs, -9223372036854775808 ≤ x ∧ x ≤ 9223372036854775807) → unpT vs.length ((vs.map signS).flatten ++ rest) = some (vs, rest) := by
  intro vs
  induction vs with
  | nil => intro rest _; rfl
  | cons x vs ih =>
    intro rest h
    have hx := h x (List.mem_cons_self ..)
    have e : ((x :: vs).map signS).flatten ++ rest = signS x ++ ((vs.map signS).flatten ++ rest) := by simp
    rw [e, List.length_cons]
    unfold unpT
    rw [getS_put hx.1 hx.2, if_pos rfl]
    dsimp only
    rw [Int.toNat_natCast, List.drop_left, ih rest (fun y hy => h y (List.mem_cons_of_mem _ hy))]
    rfl
theorem getS_ok {l : List Int} (hb : ∀ x ∈ l, 0 ≤ x ∧ x < 256) (h : (getS l).2.2 = 0) : 0 ≤ (getS l).2.1 ∧ (getS l).2.1 ≤ (l.length : Int) ∧ (-9223372036854775808 ≤ (getS l).1 ∧ (getS l).1 ≤ 9223372036854775807) ∧ l = signS (getS l).1 ++ l.drop (getS l).2.1.toNat := by
  unfold getS at h ⊢
  cases hg : getL 0 0 l with
  | none => rw [hg] at h; cases h
  | some r =>
    obtain ⟨n, k⟩ := r
    obtain ⟨u, e1, e2, e3, e4, e5, _⟩ := put_get l 0 0 n k hb (by decide) hg
    have e6 : n = u := by simpa using e1
    subst e6
    refine ⟨by show (0 : Int) ≤ (k : Int); omega, by show (k : Int) ≤ _; omega, zag_in e5, ?_⟩
    show l = signS (zagN n) ++ l.drop ((k : Int)).toNat
    unfold signS
    rw [zig_zag, Int.toNat_natCast, ← e2, Nat.sub_zero, List.take_append_drop]
theorem unpT_ok : ∀ (m : Nat) (l vs rest : List Int), (∀ x ∈ l, 0 ≤ x ∧ x < 256) → unpT m l = some (vs, rest) → l = (vs.map signS).flatten ++ rest ∧ vs.length = m ∧ (∀ x ∈ vs, -9223372036854775808 ≤ x ∧ x ≤ 9223372036854775807) := by
  intro m
  induction m with
  | zero =>
    intro l vs rest _ h
    cases h
    exact ⟨by simp, rfl, fun x hx => by cases hx⟩
  | succ m ih =>
    intro l vs rest hb h
    unfold unpT at h
    by_cases h0 : (getS l).2.2 = 0
    · rw [if_pos h0] at h
      obtain ⟨t, ht, e⟩ := Option.map_eq_some_iff.mp h
      obtain ⟨vs', rest'⟩ := t
      rw [Prod.mk.injEq] at e
      obtain ⟨rfl, rfl⟩ := e
      obtain ⟨h1, h2, h3, h4⟩ := getS_ok hb h0
      obtain ⟨i1, i2, i3⟩ := ih _ vs' rest' (fun x hx => hb x (List.mem_of_mem_drop hx)) ht
      refine ⟨?_, by rw [List.length_cons, i2], fun x hx => ?_⟩
      · rw [List.map_cons, List.flatten_cons, List.append_assoc, ← i1]
        exact h4
      · rcases List.mem_cons.mp hx with rfl | hx
        · exact h3
        · exact i3 x hx
    · rw [if_neg h0] at h
      cases h
end Go.Proofs.Ytemnfnbjapobcaa.VS
end
