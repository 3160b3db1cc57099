-- Laid together by wip/shake.py out of: Ch4 Ch5 Ch6 Cmx0 Cmx1 Cmx2 CmSpec Extra2 Pol1 Prx0
import Derived.Test.YtemnfnbjapobcaaPolicyPacksm5
import Derived.Test.YtemnfnbjapobcaaProg
import Derived.Below
import Derived.Deep.Draws
import Derived.Deep.AppendLies
import Derived.Maps.AppendAt
import Derived.OwnWalk
import Derived.Laws.BytesArg
import Derived.Laws.MakeOwn
import Derived.Laws.OwnMore
import Derived.Deep.OwnRows
import Derived.Tactics
import Derived.Lib.ConvBytes
import Derived.Laws.Slices
import Derived.WalkKit
import Derived.KernelRfl
import Derived.RowKit3
import Derived.Deep.LoopGhost
import Derived.Deep.QuietTactic
import Derived.BigQuiet
import Derived.WideLaws
import Derived.Deep.DeepCutAuto
import Derived.Deep.CutBlock
import Derived.Deep.RegionHeld3
import Derived.Laws.Rows
import Derived.Lib.AppendStr
import Derived.ArgAppend
import Derived.Laws.IdiomCopy
import Derived.OrdersHeld
import Derived.Laws.BitsLemmas
import Derived.RowKit
section
namespace Go.Proofs.Ytemnfnbjapobcaa.HS
open Go.Proofs.Ytemnfnbjapobcaa.Ho
def bestF (l : List Int) (s : Int) (q : Int × Int) (p : Mo × Nat) : Int × Int := if (missS l p.1 s).1 < q.2 then ((p.2 : Int) + 1, (missS l p.1 s).1) else q
def bestAt (l : List Int) (s : Int) : Nat → Int × Int
  | 0 => (0, 0)
  | i + 1 => ((mods s).zipIdx.take i).foldl (bestF l s) (0, (nmissS l s s).1)
def bestS (l : List Int) (s : Int) : Int × Int := bestAt l s 9
def noBest (l : List Int) (s : Int) : Prop := s < 1 ∨ s > 10000 ∨ (l.length : Int) / 3 < s
end Go.Proofs.Ytemnfnbjapobcaa.HS
namespace Go.Proofs.Ytemnfnbjapobcaa.Ho
open Go.RowKit Go.Proofs.YtemnfnbjapobcaaW.PrintWords Go.Proofs.YtemnfnbjapobcaaW.PrintLast Go.Proofs.YtemnfnbjapobcaaW.PrintMore
open Go.Proofs.Ytemnfnbjapobcaa.FS Go.Proofs.Ytemnfnbjapobcaa.HS Go.Proofs.Ytemnfnbjapobcaa.FM
set_option linter.unusedVariables false
set_option linter.unusedSimpArgs false
def zw : Int × Option Nat := (0, none)
theorem at_Way {w : World} {A : Option Addr} {n : Nat} {xs : List (Int × Option Nat)} (h : Kd.C kWay w A n xs) (i : Nat) (h1 : i < n) : ∃ ad, A = some ad ∧ w.cell? (ad.add (i * 2)) = some (.int .i64 (xs.getD i zw).1) ∧ w.cell? ⟨(ad.add (i * 2)).block, (ad.add (i * 2)).off + 1, none⟩ = some (ptr (xs.getD i zw).2) := by
  obtain ⟨ad, c, e, _, hK, hc0⟩ := Kd.C_get h zw (i : Int) (by omega) (by omega)
  rw [Int.toNat_natCast] at hK hc0
  have hc : ∀ j u, c[j]? = some u → w.cell? (ad.add (i * 2 + j)) = some u := hc0
  obtain rfl := kWay_open hK
  exact ⟨ad, e, hc 0 _ rfl, by rw [← add_field _ _ 1 (by omega)]; exact hc 1 _ rfl⟩
theorem mods_ok {s : Int} (h1 : 1 ≤ s) (h2 : s ≤ 10000) {m : Mo} (h : m ∈ mods s) : m.n = s ∧ checkS m = 0 := by
  simp only [mods, List.mem_cons, List.not_mem_nil, or_false] at h
  have ok : ∀ a b c : Int, okW a = true → okW b = true → okW c = true → checkS ⟨s, a, b, c⟩ = 0 := by
    intro a b c ha hb hc
    unfold checkS
    rw [if_neg (by simp only; omega)]
    simp only [ha, hb, hc, Bool.and_true, if_true]
  rcases h with rfl | rfl | rfl | rfl | rfl | rfl | rfl | rfl <;> exact ⟨rfl, ok _ _ _ (by decide) (by decide) (by decide)⟩
theorem miss_ok {l : List Int} {s : Int} (h : ¬ noBest l s) {m : Mo} (hm : m ∈ mods s) : (missS l m s).2 = 0 ∧ FS.In (missS l m s).1 := by
  unfold noBest at h
  obtain ⟨e1, e2⟩ := mods_ok (s := s) (by omega) (by omega) hm
  unfold missS
  rw [if_neg (by rw [e2]; decide), if_neg (by rw [e1]; omega)]
  exact ⟨rfl, misses_in _ _ _ (show FS.In 0 from ⟨by decide, by decide⟩)⟩
theorem nmiss_ok {l : List Int} {s : Int} (h : ¬ noBest l s) : (nmissS l s s).2 = 0 := by
  unfold noBest at h
  unfold nmissS
  rw [if_neg (by omega)]
theorem best_next {l : List Int} {s : Int} {j : Nat} {m : Mo} (h : (mods s)[j]? = some m) : bestAt l s (j + 2) = bestF l s (bestAt l s (j + 1)) (m, j) := by
  show ((mods s).zipIdx.take (j + 1)).foldl (bestF l s) (0, (nmissS l s s).1) = bestF l s (((mods s).zipIdx.take j).foldl (bestF l s) (0, (nmissS l s s).1)) (m, j)
  have hz : (mods s).zipIdx[j]? = some (m, j) := by simp [List.getElem?_zipIdx, h]
  obtain ⟨hl, e⟩ := List.getElem?_eq_some_iff.mp hz
  rw [List.take_succ_eq_append_getElem hl, List.foldl_append, e]
  rfl
theorem best_way (l : List Int) (s : Int) : ∀ i, i ≤ 9 → (bestAt l s i).1 = 0 ∨ ∃ (j : Nat) (m : Mo), (bestAt l s i).1 = (j : Int) + 1 ∧ (mods s)[j]? = some m
  | 0, _ => .inl rfl
  | 1, _ => .inl rfl
  | j + 2, h => by
    obtain ⟨m, hm⟩ : ∃ m, (mods s)[j]? = some m := ⟨_, List.getElem?_eq_getElem (show j < (mods s).length by simp [mods]; omega)⟩
    rw [best_next hm]
    unfold bestF
    split
    · exact .inr ⟨j, m, rfl, hm⟩
    · exact best_way l s (j + 1) (by omega)
def WayIn (W : World) (s : Int) (which : Int) (o : Option Nat) : Prop := (o = none ∧ which = 0) ∨ ∃ b j m, o = some b ∧ which = (j : Nat) + 1 ∧ (mods s)[j]? = some m ∧ W.heap[b]? = some (.cells (moCells m).toArray 29 (0, 0))
theorem WayIn.below {W W' : World} {s which : Int} {o : Option Nat} (h : WayIn W s which o) (hb : Below W.heap.size W W') : WayIn W' s which o := by
  rcases h with h | ⟨b, j, m, h1, h2, h3, h4⟩
  · exact .inl h
  · exact .inr ⟨b, j, m, h1, h2, h3, blk_below h4 hb⟩
def BestPost (w : World) (l : List Int) (s : Int) (e : Ending) (w' : World) : Prop :=
  (noBest l s → e = .returned (.tuple #[.agg #[.int .i64 0, .pointer none], .int .i64 0, .int .i64 0, .int .i64 1])) ∧
  (¬ noBest l s → ∃ o, e = .returned (.tuple #[.agg #[.int .i64 s, ptr o], .int .i64 (bestS l s).1, .int .i64 (bestS l s).2, .int .i64 0]) ∧ WayIn w' s (bestS l s).1 o) ∧ Below w.heap.size w w'
set_option maxRecDepth 100000 in
set_option maxHeartbeats 8000000 in
theorem best_calls (HS : Aside0 SeasonMiss) (A : Option Addr) (c : Nat) (l : List Int) (s : Int) (w : World) (hr : Kd.C (Kd.int .i64) w A l.length l) (hc : l.length ≤ c) (hin : AllIn l) (hs : FS.In s) (hll : l.length ≤ 1000000000) :
    Calls Try.prog 75 #[.slice A l.length c, .int .i64 s] w (BestPost w l s) := by
  obtain ⟨D, hD⟩ : ∃ D, l.length / 3 = D := ⟨_, rfl⟩
  have hD3 : (l.length : Int) / 3 = (D : Int) := by omega
  have t3 : Int.tdiv (l.length : Int) 3 = (D : Int) := by rw [Int.tdiv_eq_ediv_of_nonneg (by omega)]; exact hD3
  have t4 : wrap64 (D : Int) = (D : Int) := wrap64_id (by omega) (by omega)
  have HR := Aside0.mk hr
  clear hr
  by_cases h1 : s < 1 ∨ s > 10000
  · have c0 : decide (1 ≤ s ∧ s ≤ 10000) = false := decide_eq_false (by omega)
    have KC := Aside0.mk (fun W => c0 ▸ counted_calls s W)
    have hn : noBest l s := by unfold noBest; omega
    have HN := Aside0.mk hn
    clear hn c0 h1
    go_enter Try.func75, Try.ntmps75
    go_wp2_with (first | (go_at_call 77; (with_reducible refine (KC.out _).mono ?_); rintro e w' ⟨rfl, ⟨nd, rfl⟩⟩))
    refine bodyPost_ret (v := .tuple #[.agg #[.int .i64 0, .pointer none], .int .i64 0, .int .i64 0, .int .i64 1]) (by simp [results, Try.results75, go_sem]) rfl ?_
    exact ⟨fun _ => rfl, fun h => absurd HN.out h, ((pw_below_drewN (below_alloc (Below.refl _ _) _) _).setCell (Nat.le_refl _) _).setCell (Nat.le_refl _) _⟩
  have c0 : decide (1 ≤ s ∧ s ≤ 10000) = true := decide_eq_true (by omega)
  have KC := Aside0.mk (fun W => c0 ▸ counted_calls s W)
  obtain ⟨N, rfl⟩ := Int.eq_ofNat_of_zero_le (show 0 ≤ s by omega)
  clear c0
  by_cases h2 : (D : Int) < (N : Int)
  · have g2 : decide ((D : Int) < (N : Int)) = true := decide_eq_true h2
    have g3 : D < N := by omega
    have hn : noBest l (N : Int) := by unfold noBest; omega
    have HN := Aside0.mk hn
    clear hn h1 hD3 h2 hD
    go_enter Try.func75, Try.ntmps75
    go_wp2_with (first | (go_at_call 77; (with_reducible refine (KC.out _).mono ?_); rintro e w' ⟨rfl, ⟨nd, rfl⟩⟩))
    refine bodyPost_ret (v := .tuple #[.agg #[.int .i64 0, .pointer none], .int .i64 0, .int .i64 0, .int .i64 1]) (by simp [results, Try.results75, go_sem]) rfl ?_
    exact ⟨fun _ => rfl, fun h => absurd HN.out h, ((pw_below_drewN (below_alloc (Below.refl _ _) _) _).setCell (Nat.le_refl _) _).setCell (Nat.le_refl _) _⟩
  have g2 : decide ((D : Int) < (N : Int)) = false := decide_eq_false h2
  have g3 : ¬ D < N := by omega
  have hn : ¬ noBest l (N : Int) := by unfold noBest; omega
  have hms : modelsS (N : Int) = mods (N : Int) := if_neg h1
  have KW : Aside0 (∀ W, Calls Try.prog 114 #[.int .i64 (N : Int)] W fun e w' => ∃ (B : Option Addr) (d : Nat) (bs : List Nat), e = .returned (.slice B 9 d) ∧ 9 ≤ d ∧ bs.length = 8 ∧ Kd.C kWay w' B 9 (((N : Int), none) :: bs.map fun b => ((N : Int), some b)) ∧ (∀ (i b : Nat) (x : Mo), bs[i]? = some b → (mods (N : Int))[i]? = some x → w'.heap[b]? = some (.cells (moCells x).toArray 29 (0, 0))) ∧ Below W.heap.size W w') := ⟨fun W => by
    refine (hms ▸ ways_calls (N : Int) W).mono ?_
    rintro e w' ⟨v, bs, rfl, hbl, hwa, hb⟩
    obtain ⟨B, d, rfl, hd, hC⟩ := Kd.R_reads hwa.row
    have hn9 : (((N : Int), (none : Option Nat)) :: bs.map fun b => ((N : Int), some b)).length = 9 := by simp [hbl, mods]
    rw [hn9] at hC hd
    exact ⟨B, d, bs, by rw [hn9], hd, by simpa [mods] using hbl, hC, fun i b x h1 h2 => (hwa.cells i b x h1 h2).2, hb⟩⟩
  have HN := Aside0.mk (And.intro hn (show 1 ≤ N ∧ N ≤ 10000 by omega))
  have KN : Aside0 (∀ W, Kd.C (Kd.int .i64) W A l.length l → Calls Try.prog 115 #[.agg #[.int .i64 (N : Int), .pointer none], .slice A l.length c] W fun e w' => e = .returned (.tuple #[.int .i64 (nmissS l N N).1, .int .i64 0]) ∧ Below W.heap.size W w') := ⟨fun W h => by
    have := wayMiss_none HS A c l (N : Int) W h hc hin hs hll
    rwa [nmiss_ok hn] at this⟩
  have KS : Aside0 (∀ W m b, m ∈ mods (N : Int) → W.heap[b]? = some (.cells (moCells m).toArray 29 (0, 0)) → Kd.C (Kd.int .i64) W A l.length l → Calls Try.prog 115 #[.agg #[.int .i64 (N : Int), .pointer (some ⟨b, 0, none⟩)], .slice A l.length c] W fun e w' => e = .returned (.tuple #[.int .i64 (missS l m N).1, .int .i64 0]) ∧ Below W.heap.size W w') := ⟨fun W m b hm hb h => by
    have := wayMiss_some A c l (N : Int) b m W hb h hc hin hs (by rw [(mods_ok (s := (N : Int)) (by omega) (by omega) hm).1]; exact hs) hll
    rwa [(miss_ok hn hm).1] at this⟩
  clear hn hms h1 h2 hD3 hD
  go_enter Try.func75, Try.ntmps75
  go_wp2_with (first | (go_at_call 77; (with_reducible refine (KC.out _).mono ?_); rintro e w' ⟨rfl, ⟨nd, rfl⟩⟩) | (go_at_call 114; (with_reducible refine (KW.out _).mono ?_); rintro e w2 ⟨B, d, bs, rfl, hd, hbl, hC, hcl, hb⟩; have HW := Aside0.mk (And.intro hC (And.intro hcl (And.intro hbl hb))); clear hC hcl hbl hb))
  have hb2 : Below w.heap.size w w2 := (pw_below_drewN (below_alloc (Below.refl _ _) _) nd).trans (HW.out.2.2.2.mono (by simp))
  have hsz : w.heap.size < w2.heap.size := by have := HW.out.2.2.2.size; simp at this; omega
  have hblk : w2.heap[w.heap.size]? = some (.cells #[.int .i64 0, .pointer none] 105 (0, 0)) := blk_below (blk_drewN (blk_new w _) nd) HW.out.2.2.2
  have HB2 := Aside0.mk (And.intro hb2 (And.intro hblk hsz))
  clear hb2 hblk hsz
  go_loopg [9, 10, 30] 9 (fun kq v9 v10 v30 W' => ∃ (i : Nat) (q1 q2 : Int), v9 = .int .i64 q1 ∧ v10 = .int .i64 q2 ∧ v30 = .int .i64 (i : Int) ∧ Aside0 (bestAt l (N : Int) i = (q1, q2)) ∧ Aside0 (kq + i = 9) ∧ Aside0 (Below w2.heap.size w2 W'))
  case atStart => exact ⟨0, 0, 0, rfl, rfl, rfl, ⟨rfl⟩, ⟨rfl⟩, ⟨Below.refl _ _⟩⟩
  case round =>
    obtain ⟨i, q1, q2, rfl, rfl, rfl, HQ, HK, HB⟩ := hrel
    obtain ⟨U, rfl⟩ : ∃ U : World, U = wr := ⟨_, rfl⟩
    have hbw : Below w.heap.size w U := HB2.out.1.trans (HB.out.mono HB2.out.1.size)
    by_cases ci : i < 9
    · have c1 : decide ((i : Int) < 9) = true := decide_eq_true (by omega)
      obtain ⟨ad, e, r1, r2⟩ := at_Way (Kd.C_below HW.out.1 HB.out) i ci
      cases e
      have HBW := Aside0.mk hbw
      clear hbw
      cases gk with
      | zero => exact absurd HK.out (by omega)
      | succ k1 =>
        rcases Nat.eq_zero_or_pos i with hi | hi
        · have c2 : ((i : Int) == 0) = true := by simp [hi]
          have c3 : (i = 0) = True := eq_true hi
          have ew : (((N : Int), (none : Option Nat)) :: bs.map fun b => ((N : Int), some b)).getD i zw = ((N : Int), none) := by rw [hi]; rfl
          rw [ew] at r1 r2
          have r2' : U.cell? ⟨(ad.add (i * 2)).block, (ad.add (i * 2)).off + 1, none⟩ = some (.pointer none) := r2
          have HI := Aside0.mk hi
          clear r2 ew hi
          go_wp2_with (go_at_call 115; (with_reducible refine (KN.out _ (Kd.C_below HR.out (below_alloc HBW.out _))).mono ?_); rintro e w3 ⟨rfl, hb⟩; have HB3 := Aside0.mk hb; clear hb)
          go_roundg k1
          case measure => omega
          case rel =>
            refine ⟨i + 1, (i : Int), (nmissS l N N).1, rfl, rfl, by go_num, ⟨?_⟩, ⟨by have := HK.out; omega⟩, ⟨(HB.out.alloc HB.out.size _).trans (HB3.out.mono (by have := HB.out.size; simp; omega))⟩⟩
            rw [HI.out]
            rfl
        · obtain ⟨j, rfl⟩ : ∃ j, i = j + 1 := ⟨i - 1, by omega⟩
          have c2 : (((j + 1 : Nat) : Int) == 0) = false := by simp; omega
          have c3 : (j + 1 = 0) = False := eq_false (by omega)
          have c4 : ((j : Int) + 1 = 0) = False := eq_false (by omega)
          have hbl := HW.out.2.2.1
          obtain ⟨b, hbj⟩ : ∃ b, bs[j]? = some b := ⟨_, List.getElem?_eq_getElem (show j < bs.length by omega)⟩
          obtain ⟨m, hmj⟩ : ∃ m, (mods (N : Int))[j]? = some m := ⟨_, List.getElem?_eq_getElem (show j < (mods (N : Int)).length by simp [mods]; omega)⟩
          have ew : (((N : Int), (none : Option Nat)) :: bs.map fun b => ((N : Int), some b)).getD (j + 1) zw = ((N : Int), some b) := by
            rw [List.getD_cons_succ, List.getD_eq_getElem?_getD, List.getElem?_map, hbj]; rfl
          rw [ew] at r1 r2
          have r2' : U.cell? ⟨(ad.add ((j + 1) * 2)).block, (ad.add ((j + 1) * 2)).off + 1, none⟩ = some (.pointer (some ⟨b, 0, none⟩)) := r2
          have hbk := blk_alloc (blk_below (HW.out.2.1 j b m hbj hmj) HB.out) (.cells #[.int .i64 (N : Int), .pointer (some ⟨b, 0, none⟩)] 105)
          have hnx := best_next (l := l) hmj
          rw [show bestAt l (N : Int) (j + 1) = (q1, q2) from HQ.out] at hnx
          have KS1 : Aside0 (∀ W, W.heap[b]? = some (.cells (moCells m).toArray 29 (0, 0)) → Kd.C (Kd.int .i64) W A l.length l → Calls Try.prog 115 #[.agg #[.int .i64 (N : Int), .pointer (some ⟨b, 0, none⟩)], .slice A l.length c] W fun e w' => e = .returned (.tuple #[.int .i64 (missS l m N).1, .int .i64 0]) ∧ Below W.heap.size W w') := ⟨fun W => KS.out W m b (List.mem_of_getElem? hmj)⟩
          unfold bestF at hnx
          obtain ⟨x, hx⟩ : ∃ x, (missS l m N).1 = x := ⟨_, rfl⟩
          dsimp only at hnx
          rw [hx] at KS1 hnx
          have HX := Aside0.mk hbk
          have HV := Aside0.mk hnx
          clear r2 ew hbk hbj hmj hnx hx hbl hi
          by_cases cx : x < q2
          · have c5 : decide (x < q2) = true := decide_eq_true cx
            go_wp2_with (go_at_call 115; (with_reducible refine (KS1.out _ HX.out (Kd.C_below HR.out (below_alloc HBW.out _))).mono ?_); rintro e w3 ⟨rfl, hb⟩; have HB3 := Aside0.mk hb; clear hb)
            go_roundg k1
            case measure => omega
            case rel =>
              refine ⟨j + 2, ((j + 1 : Nat) : Int), x, rfl, rfl, by go_num, ⟨?_⟩, ⟨by have := HK.out; omega⟩, ⟨(HB.out.alloc HB.out.size _).trans (HB3.out.mono (by have := HB.out.size; simp; omega))⟩⟩
              rw [HV.out, if_pos cx]
              rfl
          · have c5 : decide (x < q2) = false := decide_eq_false cx
            go_wp2_with (go_at_call 115; (with_reducible refine (KS1.out _ HX.out (Kd.C_below HR.out (below_alloc HBW.out _))).mono ?_); rintro e w3 ⟨rfl, hb⟩; have HB3 := Aside0.mk hb; clear hb)
            go_roundg k1
            case measure => omega
            case rel =>
              refine ⟨j + 2, q1, q2, rfl, rfl, by go_num, ⟨?_⟩, ⟨by have := HK.out; omega⟩, ⟨(HB.out.alloc HB.out.size _).trans (HB3.out.mono (by have := HB.out.size; simp; omega))⟩⟩
              rw [HV.out, if_neg (Int.not_lt.mpr cx)]
    · have c1 : decide ((i : Int) < 9) = false := decide_eq_false (by omega)
      obtain rfl : i = 9 := by have := HK.out; omega
      obtain ⟨n, o, hn1, hn2, hn3, hn4⟩ : ∃ (n : Nat) (o : Option Nat), q1 = (n : Int) ∧ n < 9 ∧ (((N : Int), (none : Option Nat)) :: bs.map fun b => ((N : Int), some b)).getD n zw = ((N : Int), o) ∧ WayIn U (N : Int) (n : Int) o := by
        have hw := best_way l (N : Int) 9 (Nat.le_refl _)
        rw [show bestAt l (N : Int) 9 = (q1, q2) from HQ.out] at hw
        rcases hw with e0 | ⟨j, m, e1, hm⟩
        · exact ⟨0, none, e0, by decide, rfl, .inl ⟨rfl, rfl⟩⟩
        · have hj : j < 8 := by have := (List.getElem?_eq_some_iff.mp hm).1; simpa [mods] using this
          obtain ⟨b, hbj⟩ : ∃ b, bs[j]? = some b := ⟨_, List.getElem?_eq_getElem (show j < bs.length by have := HW.out.2.2.1; omega)⟩
          refine ⟨j + 1, some b, by rw [show q1 = _ from e1]; rfl, by omega, ?_, .inr ⟨b, j, m, rfl, rfl, hm, blk_below (HW.out.2.1 j b m hbj hm) HB.out⟩⟩
          rw [List.getD_cons_succ, List.getD_eq_getElem?_getD, List.getElem?_map, hbj]; rfl
      subst hn1
      obtain ⟨ad, e, r1, r2⟩ := at_Way (Kd.C_below HW.out.1 HB.out) n hn2
      cases e
      rw [hn3] at r1 r2
      have hbk := blk_below HB2.out.2.1 HB.out
      have d0 := blk_cell hbk 0
      have d1 := blk_cell hbk 1
      simp only [List.getElem?_toArray, List.getElem?_cons_zero, List.getElem?_cons_succ] at d0 d1
      have z0 := blk_frozen hbk 0
      have z1 := blk_frozen hbk 1
      have HBW := Aside0.mk hbw
      obtain ⟨po, hpo⟩ : ∃ po, ptr o = .pointer po := ⟨_, rfl⟩
      rw [hpo] at r2
      have HN4 := Aside0.mk (And.intro hn4 (And.intro hbk hpo))
      clear hbw hn4 hn3 hbk hpo
      go_wp2
      obtain ⟨hwi, hbk, hpo⟩ := HN4.out
      have hbk1 : ((U.setCell ⟨w.heap.size, 0, none⟩ (.int .i64 (N : Int))).setCell ⟨w.heap.size, 1, none⟩ (.pointer po)).heap[w.heap.size]? = some (.cells #[.int .i64 (N : Int), .pointer po] 105 (0, 0)) := blk_put (blk_put hbk 0 _ rfl) 1 _ rfl
      have e0 := blk_cell hbk1 0
      have e1 := blk_cell hbk1 1
      simp only [List.getElem?_toArray, List.getElem?_cons_zero, List.getElem?_cons_succ] at e0 e1
      refine bodyPost_ret (v := .tuple #[.agg #[.int .i64 (N : Int), .pointer po], .int .i64 (n : Int), .int .i64 q2, .int .i64 0]) (by simp [results, Try.results75, go_sem, e0, e1]) rfl ?_
      have hq : bestS l (N : Int) = ((n : Int), q2) := HQ.out
      refine ⟨fun h => absurd h HN.out.1, fun _ => ⟨o, by rw [hq, hpo], ?_⟩, (HBW.out.setCell (Nat.le_refl _) _).setCell (Nat.le_refl _) _⟩
      rw [hq]
      rcases hwi with h | ⟨b, j, m, h1, h2, h3, h4⟩
      · exact .inl h
      · exact .inr ⟨b, j, m, h1, h2, h3, by
          have hne : b ≠ w.heap.size := fun e => by
            rw [e] at h4
            rw [hbk] at h4
            simp at h4
          exact blk_far (blk_far h4 hne _) hne _⟩
end Go.Proofs.Ytemnfnbjapobcaa.Ho
end
section
namespace Go.Proofs.Ytemnfnbjapobcaa.HS
open Go.Proofs.Ytemnfnbjapobcaa.Ho
def naiveS (l : List Int) (s ahead : Int) : Int × Int :=
  if s < 1 ∨ s > 10000 ∨ ahead < 1 ∨ ahead > 10000 ∨ (l.length : Int) < s then (0, 1)
  else (l.getD (l.length - s.toNat + (ahead.toNat - 1) % s.toNat) 0, 0)
def castBy (l : List Int) (s : Int) (o : Option Mo) (ahead : Int) : Int × Int := match o with
  | none => naiveS l s ahead
  | some m => castOf (startS l m) ahead
def wayAt (s which : Int) : Option Mo := if which = 0 then none else (mods s)[(which - 1).toNat]?
def wayOf (l : List Int) (s : Int) : Option Mo := if (l.length : Int) / 3 < s then none else wayAt s (bestS l s).1
end Go.Proofs.Ytemnfnbjapobcaa.HS
namespace Go.Proofs.Ytemnfnbjapobcaa.Ho
open Go.RowKit Go.Proofs.YtemnfnbjapobcaaW.PrintWords Go.Proofs.YtemnfnbjapobcaaW.PrintLast Go.Proofs.YtemnfnbjapobcaaW.PrintMore
open Go.Proofs.Ytemnfnbjapobcaa.FS Go.Proofs.Ytemnfnbjapobcaa.HS Go.Proofs.Ytemnfnbjapobcaa.FM
set_option linter.unusedVariables false
set_option linter.unusedSimpArgs false
abbrev SeasonCast : Prop := ∀ (W : World) (A : Option Addr) (c : Nat) (l : List Int) (s ahead : Int), Kd.C (Kd.int .i64) W A l.length l → l.length ≤ c → AllIn l → FS.In s → FS.In ahead → l.length ≤ 1000000000 →
  Calls Try.prog 138 #[.slice A l.length c, .int .i64 s, .int .i64 ahead] W fun e w' => e = .returned (.tuple #[.int .i64 (naiveS l s ahead).1, .int .i64 (naiveS l s ahead).2]) ∧ Below W.heap.size W w'
def naiveFn (b1 b2 : Nat) : Value := .func (.func 137) #[] #[.pointer (some ⟨b1, 0, none⟩), .pointer (some ⟨b2, 0, none⟩)]
def modelFn (b : Nat) : Value := .func (.func 28) #[.pointer (some ⟨b, 0, none⟩)] #[]
def CastAt (W : World) (A : Option Addr) (c : Nat) (l : List Int) (s : Int) (o : Option Mo) (v : Value) : Prop := match o with
  | none => ∃ b1 b2, v = naiveFn b1 b2 ∧ W.heap[b1]? = some (.cells #[.slice A l.length c] 23 (0, 0)) ∧ W.heap[b2]? = some (.cells #[.int .i64 s, .pointer none] 105 (0, 0))
  | some m => ∃ b lo hi, v = modelFn b ∧ StAt W lo hi b m (startS l m)
theorem CastAt.below {W W' : World} {A : Option Addr} {c : Nat} {l : List Int} {s : Int} {o : Option Mo} {v : Value} (h : CastAt W A c l s o v) (hb : Below W.heap.size W W') : CastAt W' A c l s o v := by
  cases o with
  | none =>
    obtain ⟨b1, b2, e, h1, h2⟩ := h
    exact ⟨b1, b2, e, blk_below h1 hb, blk_below h2 hb⟩
  | some m =>
    obtain ⟨b, lo, hi, e, h1⟩ := h
    exact ⟨b, lo, hi, e, h1.kept (S := fun _ => False) (Kept.of_below hb _) (fun _ _ _ h => h)⟩
set_option maxRecDepth 100000 in
set_option maxHeartbeats 8000000 in
theorem cast1_calls (HS : Aside0 SeasonCast) (A : Option Addr) (c : Nat) (l : List Int) (s ahead : Int) (b1 b2 : Nat) (w : World) (h1 : w.heap[b1]? = some (.cells #[.slice A l.length c] 23 (0, 0))) (h2 : w.heap[b2]? = some (.cells #[.int .i64 s, .pointer none] 105 (0, 0))) (hr : Kd.C (Kd.int .i64) w A l.length l) (hc : l.length ≤ c) (hin : AllIn l) (hs : FS.In s) (ha : FS.In ahead) (hll : l.length ≤ 1000000000) :
    Calls Try.prog 137 #[.int .i64 ahead, .pointer (some ⟨b1, 0, none⟩), .pointer (some ⟨b2, 0, none⟩)] w fun e w' => e = .returned (.tuple #[.int .i64 (naiveS l s ahead).1, .int .i64 (naiveS l s ahead).2]) ∧ Below w.heap.size w w' := by
  obtain ⟨r, er⟩ : ∃ r, naiveS l s ahead = r := ⟨_, rfl⟩
  have KM : Aside0 (∀ W, Kd.C (Kd.int .i64) W A l.length l → Calls Try.prog 138 #[.slice A l.length c, .int .i64 s, .int .i64 ahead] W fun e w' => e = .returned (.tuple #[.int .i64 r.1, .int .i64 r.2]) ∧ Below W.heap.size W w') := ⟨fun W h => er ▸ HS.out W A c l s ahead h hc hin hs ha hll⟩
  have HR := Aside0.mk hr
  rw [er]
  have d0 := blk_cell h1 0
  have d1 := blk_cell h2 0
  simp only [List.getElem?_toArray, List.getElem?_cons_zero, List.getElem?_cons_succ] at d0 d1
  clear er hr h1 h2
  go_enter Try.func137, Try.ntmps137
  go_wp2_with (go_at_call 138; (with_reducible refine (KM.out _ HR.out).mono ?_); rintro e w2 ⟨rfl, hb⟩)
  go_ret2
  exact ⟨rfl, hb⟩
set_option maxRecDepth 100000 in
set_option maxHeartbeats 8000000 in
theorem wayCast_none (A : Option Addr) (c : Nat) (l : List Int) (s : Int) (w : World) :
    Calls Try.prog 116 #[.agg #[.int .i64 s, .pointer none], .slice A l.length c] w fun e w' => ∃ v, e = .returned (.tuple #[v, .int .i64 0]) ∧ CastAt w' A c l s none v ∧ Below w.heap.size w w' := by
  go_enter Try.func116, Try.ntmps116
  go_wp2
  go_ret2
  refine ⟨_, rfl, ⟨w.heap.size + 1, w.heap.size, rfl, ?_, blk_alloc (blk_new _ _) _⟩, below_alloc (below_alloc (Below.refl _ _) _) _⟩
  have := blk_new (w.alloc (.cells #[.int .i64 s, .pointer none] 105)) (.cells #[.slice A l.length c] 23)
  rwa [size_alloc_] at this
set_option maxRecDepth 100000 in
set_option maxHeartbeats 8000000 in
theorem wayCast_some (A : Option Addr) (c : Nat) (l : List Int) (s : Int) (b : Nat) (m : Mo) (w : World) (hb : w.heap[b]? = some (.cells (moCells m).toArray 29 (0, 0))) (hr : Kd.C (Kd.int .i64) w A l.length l) (hc : l.length ≤ c) (hin : AllIn l) (hm : FS.In m.n) (hll : l.length ≤ 1000000000) (h0 : startE l m = 0) :
    Calls Try.prog 116 #[.agg #[.int .i64 s, .pointer (some ⟨b, 0, none⟩)], .slice A l.length c] w fun e w' => ∃ v, e = .returned (.tuple #[v, .int .i64 0]) ∧ CastAt w' A c l s (some m) v ∧ Below w.heap.size w w' := by
  have HR := Aside0.mk hr
  have KM : Aside0 (∀ W, Kd.C (Kd.int .i64) W A l.length l → Calls Try.prog 24 #[.slice A l.length c, moV m] W fun e w' => ∃ b', e = .returned (.tuple #[.pointer (some ⟨b', 0, none⟩), .int .i64 0]) ∧ StAt w' W.heap.size w'.heap.size b' m (startS l m) ∧ Below W.heap.size W w') := ⟨fun W h => by
    refine (start_calls A c l m W h hc hin hm hll).mono (fun e w' h => ?_)
    unfold StartPost at h
    rwa [if_neg (by rw [h0]; decide)] at h⟩
  show Calls Try.prog 116 #[.agg #[.int .i64 s, .pointer (some ⟨b, 0, none⟩)], .slice A l.length c] w fun e w' => ∃ v, e = .returned (.tuple #[v, .int .i64 0]) ∧ (∃ b lo hi, v = modelFn b ∧ StAt w' lo hi b m (startS l m)) ∧ Below w.heap.size w w'
  obtain ⟨s0, hs0⟩ : ∃ s0, startS l m = s0 := ⟨_, rfl⟩
  rw [hs0] at KM ⊢
  have hb' := blk_alloc (blk_alloc hb (.cells #[.int .i64 s, .pointer (some ⟨b, 0, none⟩)] 105)) (.cells #[.slice A l.length c] 23)
  obtain ⟨n, ma, mb, mc⟩ := m
  dsimp only [moV, moCells] at *
  have d0 := blk_cell hb' 0
  have d1 := blk_cell hb' 1
  have d2 := blk_cell hb' 2
  have d3 := blk_cell hb' 3
  simp only [List.getElem?_toArray, List.getElem?_cons_zero, List.getElem?_cons_succ] at d0 d1 d2 d3
  clear hs0 hr hb hb' h0
  go_enter Try.func116, Try.ntmps116
  go_wp2
  refine wp_region_mid 5 (by kernel_rfl) (by kernel_rfl) rfl ?_
  simp only [List.take_succ_cons, List.take_zero, List.drop_succ_cons, List.drop_zero]
  repeat (go_big_quiet_step (fail))
  refine wpQuiet_nil ?_
  rintro W1 ⟨nq, hnq⟩ K1 hK
  have HB0 : Aside0 (Below w.heap.size w W1) := ⟨hnq ▸ pw_below_drewN (below_alloc (below_alloc (Below.refl _ _) _) _) _⟩
  clear hnq nq
  refine goes_ Try.func24 (by kernel_rfl) rfl #[.slice A l.length c, .agg #[.int .i64 n, .int .i64 ma, .int .i64 mb, .int .i64 mc]] (by rfl) rfl rfl (by simp [Act.eval]) ?_
  refine (KM.out _ (Kd.C_below HR.out HB0.out)).mono ?_
  rintro e w2 ⟨b', rfl, hst, hb2⟩
  refine ⟨_, rfl, hK _ _ ?_⟩
  have HB2 := Aside0.mk (And.intro (HB0.out.trans (hb2.mono HB0.out.size)) hst)
  clear hK K1 d0 d1 d2 d3 hb2 hst
  simp only [Act.put, List.setIfInBounds_toArray, List.set_cons_zero, List.set_cons_succ]
  repeat (go_big_quiet_step (fail))
  refine wpQuiet_nil ?_
  rintro w3 ⟨n3, rfl⟩
  go_wp2
  go_ret2
  exact ⟨_, rfl, ⟨b', W1.heap.size, w2.heap.size, rfl, HB2.out.2.kept (S := fun _ => False) ((Kept.refl _ _).drewN n3) (fun _ _ _ h => h)⟩, pw_below_drewN HB2.out.1 _⟩
theorem mods_get {s : Int} {j : Nat} {m : Mo} (h : (mods s)[j]? = some m) : m ∈ mods s := List.mem_of_getElem? h
theorem start_ok {l : List Int} {s : Int} {m : Mo} (hn : ¬ noBest l s) (hm : m ∈ mods s) : startE l m = 0 := by
  unfold noBest at hn
  obtain ⟨e1, e2⟩ := mods_ok (s := s) (by omega) (by omega) hm
  unfold startE
  rw [if_neg (by rw [e2]; decide), if_neg (by rw [e1]; omega)]
theorem wayCast_calls (A : Option Addr) (c : Nat) (l : List Int) (s which : Int) (o : Option Nat) (w : World) (hw : WayIn w s which o) (hr : Kd.C (Kd.int .i64) w A l.length l) (hc : l.length ≤ c) (hin : AllIn l) (hs : FS.In s) (hll : l.length ≤ 1000000000) (hn : ¬ noBest l s) :
    Calls Try.prog 116 #[.agg #[.int .i64 s, ptr o], .slice A l.length c] w fun e w' => ∃ v, e = .returned (.tuple #[v, .int .i64 0]) ∧ CastAt w' A c l s (wayAt s which) v ∧ Below w.heap.size w w' := by
  rcases hw with ⟨rfl, rfl⟩ | ⟨b, j, m, rfl, rfl, hm, hh⟩
  · exact wayCast_none A c l s w
  · have e : wayAt s ((j : Nat) + 1) = some m := by
      unfold wayAt
      rw [if_neg (by omega), show (((j : Nat) : Int) + 1 - 1).toNat = j by omega]
      exact hm
    have hmm := mods_get hm
    have hn' := hn
    unfold noBest at hn'
    have hmo := (mods_ok (s := s) (by omega) (by omega) hmm).1
    rw [e]
    exact wayCast_some A c l s b m w hh hr hc hin (by rw [hmo]; exact hs) hll (start_ok hn hmm)
def CastsPost (w : World) (A : Option Addr) (c : Nat) (l : List Int) (s : Int) (e : Ending) (w' : World) : Prop :=
  if (l.length : Int) < s then e = .returned (.tuple #[Value.nilFunc, .int .i64 1]) ∧ Below w.heap.size w w'
  else ∃ v, e = .returned (.tuple #[v, .int .i64 0]) ∧ CastAt w' A c l s (wayOf l s) v ∧ Below w.heap.size w w'
set_option maxRecDepth 100000 in
set_option maxHeartbeats 8000000 in
theorem casts_calls (HS : Aside0 SeasonMiss) (A : Option Addr) (c : Nat) (l : List Int) (s : Int) (w : World) (hr : Kd.C (Kd.int .i64) w A l.length l) (hc : l.length ≤ c) (hin : AllIn l) (h1 : 1 ≤ s) (h2 : s ≤ 10000) (hll : l.length ≤ 1000000000) :
    Calls Try.prog 78 #[.slice A l.length c, .int .i64 s] w (CastsPost w A c l s) := by
  have hs : FS.In s := ⟨by omega, by omega⟩
  unfold CastsPost
  have HR := Aside0.mk hr
  clear hr
  by_cases g : (l.length : Int) < s
  · simp only [if_pos g]
    have c1 : decide ((l.length : Int) < s) = true := decide_eq_true g
    clear g
    go_enter Try.func78, Try.ntmps78
    go_wp2
    go_ret2
    exact ⟨rfl, Below.refl _ _⟩
  simp only [if_neg g]
  have c1 : decide ((l.length : Int) < s) = false := decide_eq_false g
  obtain ⟨D, hD⟩ : ∃ D, l.length / 3 = D := ⟨_, rfl⟩
  have hD3 : (l.length : Int) / 3 = (D : Int) := by omega
  have t3 : Int.tdiv (l.length : Int) 3 = (D : Int) := by rw [Int.tdiv_eq_ediv_of_nonneg (by omega)]; exact hD3
  have t4 : wrap64 (D : Int) = (D : Int) := wrap64_id (by omega) (by omega)
  have ew : wayOf l s = if (D : Int) < s then none else wayAt s (bestS l s).1 := by unfold wayOf; rw [hD3]
  by_cases g2 : (D : Int) < s
  · have c2 : decide ((D : Int) < s) = true := decide_eq_true g2
    rw [if_pos g2] at ew
    rw [ew]
    have KC := Aside0.mk (fun W => wayCast_none A c l s W)
    clear ew g g2 hD3 hD
    go_enter Try.func78, Try.ntmps78
    go_wp2_with (go_at_call 116; (with_reducible refine (KC.out _).mono ?_); rintro e w2 ⟨v, rfl, hv, hb⟩; have HV := Aside0.mk (And.intro hv hb); clear hv hb)
    go_ret2
    exact ⟨_, rfl, HV.out.1, HV.out.2⟩
  · have c2 : decide ((D : Int) < s) = false := decide_eq_false g2
    rw [if_neg g2] at ew
    rw [ew]
    have hn : ¬ noBest l s := by unfold noBest; omega
    obtain ⟨r, er⟩ : ∃ r, bestS l s = r := ⟨_, rfl⟩
    have KB : Aside0 (∀ W, Kd.C (Kd.int .i64) W A l.length l → Calls Try.prog 75 #[.slice A l.length c, .int .i64 s] W fun e w' => ∃ o po, ptr o = .pointer po ∧ e = .returned (.tuple #[.agg #[.int .i64 s, .pointer po], .int .i64 r.1, .int .i64 r.2, .int .i64 0]) ∧ WayIn w' s r.1 o ∧ Below W.heap.size W w') := ⟨fun W h => (best_calls HS A c l s W h hc hin hs hll).mono (fun e w' h => by
      obtain ⟨o, q1, q2⟩ := h.2.1 hn
      rw [er] at q1 q2
      exact ⟨o, _, rfl, q1, q2, h.2.2⟩)⟩
    have KC : Aside0 (∀ W o po, ptr o = .pointer po → WayIn W s r.1 o → Kd.C (Kd.int .i64) W A l.length l → Calls Try.prog 116 #[.agg #[.int .i64 s, .pointer po], .slice A l.length c] W fun e w' => ∃ v, e = .returned (.tuple #[v, .int .i64 0]) ∧ CastAt w' A c l s (wayAt s r.1) v ∧ Below W.heap.size W w') := ⟨fun W o po hp hw h => hp ▸ wayCast_calls A c l s r.1 o W hw h hc hin hs hll hn⟩
    rw [er]
    clear ew er g g2 hD3 hD hn
    go_enter Try.func78, Try.ntmps78
    go_wp2_with (first | (go_at_call 75; (with_reducible refine (KB.out _ HR.out).mono ?_); rintro e w2 ⟨o, po, hpo, rfl, hw, hb⟩; have HW := Aside0.mk (And.intro hw (And.intro hb hpo)); clear hw hb hpo) | (go_at_call 116; (with_reducible refine (KC.out _ o po HW.out.2.2 (HW.out.1.below (below_alloc (Below.refl _ _) _)) (Kd.C_below HR.out (HW.out.2.1.alloc HW.out.2.1.size _))).mono ?_); rintro e w3 ⟨v, rfl, hv, hb⟩; have HV := Aside0.mk (And.intro hv hb); clear hv hb))
    go_ret2
    exact ⟨_, rfl, HV.out.1, (HW.out.2.1.alloc HW.out.2.1.size _).trans (HV.out.2.mono (by have := HW.out.2.1.size; simp; omega))⟩
end Go.Proofs.Ytemnfnbjapobcaa.Ho
end
section
namespace Go.Proofs.Ytemnfnbjapobcaa.HS
open Go.Proofs.Ytemnfnbjapobcaa.Ho
def noCast (l : List Int) (s ahead : Int) : Prop := s < 1 ∨ s > 10000 ∨ ahead < 1 ∨ ahead > 10000 ∨ (l.length : Int) < s
instance (l : List Int) (s ahead : Int) : Decidable (noCast l s ahead) := by unfold noCast; infer_instance
def peakAt (l : List Int) (s : Int) (o : Option Mo) : Nat → Int
  | 0 => -9223372036854775808
  | i + 1 => max (peakAt l s o i) (castBy l s o ((i : Int) + 1)).1
def peakS (l : List Int) (s ahead : Int) : Int × Int := if noCast l s ahead then (0, 1) else (peakAt l s (wayOf l s) ahead.toNat, 0)
end Go.Proofs.Ytemnfnbjapobcaa.HS
namespace Go.Proofs.Ytemnfnbjapobcaa.Ho
open Go.RowKit Go.Proofs.YtemnfnbjapobcaaW.PrintWords Go.Proofs.YtemnfnbjapobcaaW.PrintLast Go.Proofs.YtemnfnbjapobcaaW.PrintMore
open Go.Proofs.Ytemnfnbjapobcaa.FS Go.Proofs.Ytemnfnbjapobcaa.HS Go.Proofs.Ytemnfnbjapobcaa.FM
attribute [local go_sem] max2_int min2_int max_two min_two
set_option linter.unusedVariables false
set_option linter.unusedSimpArgs false
theorem way_mem {l : List Int} {s : Int} {m : Mo} (h : wayOf l s = some m) : ¬ (l.length : Int) / 3 < s ∧ m ∈ mods s := by
  unfold wayOf at h
  by_cases c : (l.length : Int) / 3 < s
  · rw [if_pos c] at h; cases h
  · rw [if_neg c] at h
    refine ⟨c, ?_⟩
    unfold wayAt at h
    split at h
    · cases h
    · exact List.mem_of_getElem? h
theorem castBy_ok {l : List Int} {s ahead : Int} (h : ¬ noCast l s ahead) : (castBy l s (wayOf l s) ahead).2 = 0 := by
  unfold noCast at h
  cases hw : wayOf l s with
  | none =>
    show (naiveS l s ahead).2 = 0
    unfold naiveS
    rw [if_neg (by omega)]
  | some m =>
    show (castOf (startS l m) ahead).2 = 0
    unfold castOf
    rw [if_neg (by omega)]
theorem noCast_le {l : List Int} {s ahead i : Int} (h : ¬ noCast l s ahead) (h1 : 1 ≤ i) (h2 : i ≤ ahead) : ¬ noCast l s i := by
  unfold noCast at *
  omega
theorem way_start {l : List Int} {s : Int} {m : Mo} (hs : 1 ≤ s) (hs2 : s ≤ 10000) (h : wayOf l s = some m) : startE l m = 0 := by
  obtain ⟨h1, h2⟩ := way_mem h
  exact start_ok (s := s) (by unfold noBest; omega) h2
theorem castFn (HC : Aside0 SeasonCast) (A : Option Addr) (c : Nat) (l : List Int) (s ahead : Int) (hc : l.length ≤ c) (hin : AllIn l) (hs : FS.In s) (ha : FS.In ahead) (hll : l.length ≤ 1000000000) (b1 b2 : Nat) (W : World) (h1 : W.heap[b1]? = some (.cells #[.slice A l.length c] 23 (0, 0)) ∧ W.heap[b2]? = some (.cells #[.int .i64 s, .pointer none] 105 (0, 0))) (hr : Kd.C (Kd.int .i64) W A l.length l) :
    Calls Try.prog 137 #[.int .i64 ahead, .pointer (some ⟨b1, 0, none⟩), .pointer (some ⟨b2, 0, none⟩)] W fun e w' => e = .returned (.tuple #[.int .i64 (castBy l s none ahead).1, .int .i64 (castBy l s none ahead).2]) ∧ Below W.heap.size W w' :=
  cast1_calls HC A c l s ahead b1 b2 W h1.1 h1.2 hr hc hin hs ha hll
theorem castFm (l : List Int) (s ahead : Int) (m : Mo) (hs : startE l m = 0) (ha : FS.In ahead) (hll : l.length ≤ 1000000000) (b lo hi : Nat) (W : World) (h1 : StAt W lo hi b m (startS l m)) :
    Calls Try.prog 28 #[.pointer (some ⟨b, 0, none⟩), .int .i64 ahead] W fun e w' => e = .returned (.tuple #[.int .i64 (castBy l s (some m) ahead).1, .int .i64 (castBy l s (some m) ahead).2]) ∧ Below W.heap.size W w' := by
  obtain ⟨n1, n2, n3, n4, s5, s6⟩ := start_len hs
  refine (castOf_calls lo hi b m (startS l m) ahead W h1 (begin_start_in l m) ha (by omega) (by omega) (by omega)).mono ?_
  rintro e w' ⟨rfl, ⟨nd, rfl⟩⟩
  exact ⟨rfl, pw_below_drewN (Below.refl _ _) _⟩
theorem counted_yes {n : Int} (h : 1 ≤ n ∧ n ≤ 10000) (W : World) : Calls Try.prog 77 #[.int .i64 n] W fun e w' => e = .returned (.bool true) ∧ Drawn0 W w' := by
  have := counted_calls n W
  rwa [decide_eq_true h] at this
theorem counted_no {n : Int} (h : ¬ (1 ≤ n ∧ n ≤ 10000)) (W : World) : Calls Try.prog 77 #[.int .i64 n] W fun e w' => e = .returned (.bool false) ∧ Drawn0 W w' := by
  have := counted_calls n W
  rwa [decide_eq_false h] at this
theorem casts_err (HS : Aside0 SeasonMiss) (A : Option Addr) (c : Nat) (l : List Int) (s : Int) (hc : l.length ≤ c) (hin : AllIn l) (h1 : 1 ≤ s) (h2 : s ≤ 10000) (hll : l.length ≤ 1000000000) (g : (l.length : Int) < s) (W : World) (hr : Kd.C (Kd.int .i64) W A l.length l) :
    Calls Try.prog 78 #[.slice A l.length c, .int .i64 s] W fun e w' => e = .returned (.tuple #[Value.nilFunc, .int .i64 1]) ∧ Below W.heap.size W w' := by
  refine (casts_calls HS A c l s W hr hc hin h1 h2 hll).mono (fun e w' h => ?_)
  unfold CastsPost at h
  rwa [if_pos g] at h
theorem casts_naive (HS : Aside0 SeasonMiss) (A : Option Addr) (c : Nat) (l : List Int) (s : Int) (hc : l.length ≤ c) (hin : AllIn l) (h1 : 1 ≤ s) (h2 : s ≤ 10000) (hll : l.length ≤ 1000000000) (g : ¬ (l.length : Int) < s) (ew : wayOf l s = none) (W : World) (hr : Kd.C (Kd.int .i64) W A l.length l) :
    Calls Try.prog 78 #[.slice A l.length c, .int .i64 s] W fun e w' => ∃ b1 b2, e = .returned (.tuple #[.func (.func 137) #[] #[.pointer (some ⟨b1, 0, none⟩), .pointer (some ⟨b2, 0, none⟩)], .int .i64 0]) ∧ (w'.heap[b1]? = some (.cells #[.slice A l.length c] 23 (0, 0)) ∧ w'.heap[b2]? = some (.cells #[.int .i64 s, .pointer none] 105 (0, 0))) ∧ Below W.heap.size W w' := by
  refine (casts_calls HS A c l s W hr hc hin h1 h2 hll).mono (fun e w' h => ?_)
  unfold CastsPost at h
  rw [if_neg g, ew] at h
  obtain ⟨v, rfl, ⟨b1, b2, rfl, p1, p2⟩, hb⟩ := h
  exact ⟨b1, b2, rfl, ⟨p1, p2⟩, hb⟩
theorem casts_model (HS : Aside0 SeasonMiss) (A : Option Addr) (c : Nat) (l : List Int) (s : Int) (m : Mo) (hc : l.length ≤ c) (hin : AllIn l) (h1 : 1 ≤ s) (h2 : s ≤ 10000) (hll : l.length ≤ 1000000000) (g : ¬ (l.length : Int) < s) (ew : wayOf l s = some m) (W : World) (hr : Kd.C (Kd.int .i64) W A l.length l) :
    Calls Try.prog 78 #[.slice A l.length c, .int .i64 s] W fun e w' => ∃ b lo hi, e = .returned (.tuple #[.func (.func 28) #[.pointer (some ⟨b, 0, none⟩)] #[], .int .i64 0]) ∧ StAt w' lo hi b m (startS l m) ∧ Below W.heap.size W w' := by
  refine (casts_calls HS A c l s W hr hc hin h1 h2 hll).mono (fun e w' h => ?_)
  unfold CastsPost at h
  rw [if_neg g, ew] at h
  obtain ⟨v, rfl, ⟨b, lo, hi, rfl, p1⟩, hb⟩ := h
  exact ⟨b, lo, hi, rfl, p1, hb⟩
set_option maxRecDepth 100000 in
set_option maxHeartbeats 8000000 in
theorem choPeak_calls (HS : Aside0 SeasonMiss) (HC : Aside0 SeasonCast) (A : Option Addr) (c : Nat) (l : List Int) (s ahead : Int) (w : World) (hr : Kd.C (Kd.int .i64) w A l.length l) (hc : l.length ≤ c) (hin : AllIn l) (hs : FS.In s) (ha : FS.In ahead) (hll : l.length ≤ 1000000000) :
    Calls Try.prog 45 #[.slice A l.length c, .int .i64 s, .int .i64 ahead] w fun e w' => e = .returned (.tuple #[.int .i64 (peakS l s ahead).1, .int .i64 (peakS l s ahead).2]) ∧ Below w.heap.size w w' := by
  have HR := Aside0.mk hr
  clear hr
  by_cases g1 : 1 ≤ s ∧ s ≤ 10000
  · have KC := Aside0.mk (counted_yes g1)
    by_cases g2 : 1 ≤ ahead ∧ ahead ≤ 10000
    · have KD := Aside0.mk (counted_yes g2)
      by_cases g3 : (l.length : Int) < s
      · have KK := Aside0.mk (casts_err HS A c l s hc hin g1.1 g1.2 hll g3)
        have e : peakS l s ahead = (0, 1) := by unfold peakS; rw [if_pos (by unfold noCast; omega)]
        rw [e]
        clear e g1 g2 g3
        go_enter Try.func45, Try.ntmps45
        go_wp2_with (first | (go_at_call 77; (with_reducible refine (KC.out _).mono ?_); rintro e w' ⟨rfl, ⟨nd, rfl⟩⟩) | (go_at_call 77; (with_reducible refine (KD.out _).mono ?_); rintro e w' ⟨rfl, ⟨nd, rfl⟩⟩) | (go_at_call 78; (with_reducible refine (KK.out _ (Kd.C_below HR.out (pw_below_drewN (Below.refl _ _) _))).mono ?_); rintro e w2 ⟨rfl, hb⟩; have HB : Aside0 (Below w.heap.size w w2) := ⟨(pw_below_drewN (Below.refl _ _) _).trans hb⟩; clear hb))
        go_ret2
        exact ⟨rfl, HB.out⟩
      · have hno : ¬ noCast l s ahead := by unfold noCast; omega
        have e : peakS l s ahead = (peakAt l s (wayOf l s) ahead.toNat, 0) := by unfold peakS; rw [if_neg hno]
        obtain ⟨N, rfl⟩ := Int.eq_ofNat_of_zero_le (show 0 ≤ ahead by omega)
        rw [e, Int.toNat_natCast]
        have ok : ∀ i : Nat, i < N → (castBy l s (wayOf l s) ((i : Int) + 1)).2 = 0 := fun i hi => castBy_ok (noCast_le (i := (i : Int) + 1) hno (by omega) (by omega))
        have bN : N ≤ 10000 := by omega
        cases ew : wayOf l s with
        | none =>
          rw [ew] at ok
          have KK := Aside0.mk (casts_naive HS A c l s hc hin g1.1 g1.2 hll g3 ew)
          have KF : Aside0 (∀ (i : Nat), i < N → ∀ b1 b2 W, (W.heap[b1]? = some (.cells #[.slice A l.length c] 23 (0, 0)) ∧ W.heap[b2]? = some (.cells #[.int .i64 s, .pointer none] 105 (0, 0))) → Kd.C (Kd.int .i64) W A l.length l → Calls Try.prog 137 #[.int .i64 ((i : Int) + 1), .pointer (some ⟨b1, 0, none⟩), .pointer (some ⟨b2, 0, none⟩)] W fun e w' => e = .returned (.tuple #[.int .i64 (castBy l s none ((i : Int) + 1)).1, .int .i64 0]) ∧ Below W.heap.size W w') := ⟨fun i hi b1 b2 W h1 h2 => by
            have := castFn HC A c l s ((i : Int) + 1) hc hin hs ⟨by omega, by omega⟩ hll b1 b2 W h1 h2
            rwa [ok i hi] at this⟩
          clear e g1 g2 g3 hno ew ok
          go_enter Try.func45, Try.ntmps45
          go_wp2_with (first | (go_at_call 77; (with_reducible refine (KC.out _).mono ?_); rintro e w' ⟨rfl, ⟨nd, rfl⟩⟩) | (go_at_call 77; (with_reducible refine (KD.out _).mono ?_); rintro e w' ⟨rfl, ⟨nd, rfl⟩⟩) | (go_at_call 78; (with_reducible refine (KK.out _ (Kd.C_below HR.out (pw_below_drewN (Below.refl _ _) _))).mono ?_); rintro e w2 ⟨b1, b2, rfl, hv, hb⟩; have hb' : Below w.heap.size w w2 := (pw_below_drewN (Below.refl _ _) _).trans hb; have HB := Aside0.mk (And.intro hv hb'); clear hv hb hb'))
          go_loopg [10, 32] N (fun kq v10 v32 W' => ∃ i : Nat, v10 = .int .i64 (peakAt l s none i) ∧ v32 = .int .i64 (i : Int) ∧ Aside0 (kq + i = N) ∧ Aside0 (Below w2.heap.size w2 W'))
          case atStart => exact ⟨0, rfl, rfl, ⟨rfl⟩, ⟨Below.refl _ _⟩⟩
          case round =>
            obtain ⟨i, rfl, rfl, HK, HQ⟩ := hrel
            obtain ⟨U, rfl⟩ : ∃ U : World, U = wr := ⟨_, rfl⟩
            by_cases ci : i < N
            · have c1 : decide ((i : Int) < (N : Int)) = true := decide_eq_true (by omega)
              have c2 : wrap64 ((i : Int) + 1) = (i : Int) + 1 := wrap64_id (by omega) (by omega)
              cases gk with
              | zero => exact absurd HK.out (by omega)
              | succ k1 =>
                have KFi := Aside0.mk (KF.out i ci)
                obtain ⟨x, hx⟩ : ∃ x, (castBy l s none ((i : Int) + 1)).1 = x := ⟨_, rfl⟩
                obtain ⟨p, hp⟩ : ∃ p, peakAt l s none i = p := ⟨_, rfl⟩
                rw [hx] at KFi
                rw [hp]
                have HX := Aside0.mk (And.intro hx hp)
                clear hx hp
                by_cases cx : p < x
                · have c5 : decide (p < x) = true := decide_eq_true cx
                  go_wp2_with (go_at_call 137; (with_reducible refine (KFi.out b1 b2 _ ⟨blk_below HB.out.1.1 HQ.out, blk_below HB.out.1.2 HQ.out⟩ (Kd.C_below HR.out (HB.out.2.trans (HQ.out.mono HB.out.2.size)))).mono ?_); rintro e w3 ⟨rfl, hb⟩; have HB3 := Aside0.mk hb; clear hb)
                  go_roundg k1
                  case measure => omega
                  case rel =>
                    refine ⟨i + 1, ?_, by go_num, ⟨by have := HK.out; omega⟩, ⟨HQ.out.trans (HB3.out.mono HQ.out.size)⟩⟩
                    show Value.int .i64 x = Value.int .i64 (max (peakAt l s none i) (castBy l s none ((i : Int) + 1)).1)
                    rw [HX.out.1, HX.out.2, show max p x = x by omega]
                · have c5 : decide (p < x) = false := decide_eq_false cx
                  go_wp2_with (go_at_call 137; (with_reducible refine (KFi.out b1 b2 _ ⟨blk_below HB.out.1.1 HQ.out, blk_below HB.out.1.2 HQ.out⟩ (Kd.C_below HR.out (HB.out.2.trans (HQ.out.mono HB.out.2.size)))).mono ?_); rintro e w3 ⟨rfl, hb⟩; have HB3 := Aside0.mk hb; clear hb)
                  go_roundg k1
                  case measure => omega
                  case rel =>
                    refine ⟨i + 1, ?_, by go_num, ⟨by have := HK.out; omega⟩, ⟨HQ.out.trans (HB3.out.mono HQ.out.size)⟩⟩
                    show Value.int .i64 p = Value.int .i64 (max (peakAt l s none i) (castBy l s none ((i : Int) + 1)).1)
                    rw [HX.out.1, HX.out.2, show max p x = p by omega]
            · have c1 : decide ((i : Int) < (N : Int)) = false := decide_eq_false (by omega)
              obtain rfl : i = N := by have := HK.out; omega
              go_wp2
              go_ret2
              exact ⟨rfl, HB.out.2.trans (HQ.out.mono HB.out.2.size)⟩
        | some m =>
          rw [ew] at ok
          have KK := Aside0.mk (casts_model HS A c l s m hc hin g1.1 g1.2 hll g3 ew)
          have KF : Aside0 (∀ (i : Nat), i < N → ∀ b lo hi W, StAt W lo hi b m (startS l m) → Calls Try.prog 28 #[.pointer (some ⟨b, 0, none⟩), .int .i64 ((i : Int) + 1)] W fun e w' => e = .returned (.tuple #[.int .i64 (castBy l s (some m) ((i : Int) + 1)).1, .int .i64 0]) ∧ Below W.heap.size W w') := ⟨fun i hi b lo hi' W h1 => by
            have := castFm l s ((i : Int) + 1) m (way_start g1.1 g1.2 ew) ⟨by omega, by omega⟩ hll b lo hi' W h1
            rwa [ok i hi] at this⟩
          clear e g1 g2 g3 hno ew ok
          go_enter Try.func45, Try.ntmps45
          go_wp2_with (first | (go_at_call 77; (with_reducible refine (KC.out _).mono ?_); rintro e w' ⟨rfl, ⟨nd, rfl⟩⟩) | (go_at_call 77; (with_reducible refine (KD.out _).mono ?_); rintro e w' ⟨rfl, ⟨nd, rfl⟩⟩) | (go_at_call 78; (with_reducible refine (KK.out _ (Kd.C_below HR.out (pw_below_drewN (Below.refl _ _) _))).mono ?_); rintro e w2 ⟨b, lo, hi, rfl, hv, hb⟩; have hb' : Below w.heap.size w w2 := (pw_below_drewN (Below.refl _ _) _).trans hb; have HB := Aside0.mk (And.intro hv hb'); clear hv hb hb'))
          go_loopg [10, 32] N (fun kq v10 v32 W' => ∃ i : Nat, v10 = .int .i64 (peakAt l s (some m) i) ∧ v32 = .int .i64 (i : Int) ∧ Aside0 (kq + i = N) ∧ Aside0 (Below w2.heap.size w2 W'))
          case atStart => exact ⟨0, rfl, rfl, ⟨rfl⟩, ⟨Below.refl _ _⟩⟩
          case round =>
            obtain ⟨i, rfl, rfl, HK, HQ⟩ := hrel
            obtain ⟨U, rfl⟩ : ∃ U : World, U = wr := ⟨_, rfl⟩
            by_cases ci : i < N
            · have c1 : decide ((i : Int) < (N : Int)) = true := decide_eq_true (by omega)
              have c2 : wrap64 ((i : Int) + 1) = (i : Int) + 1 := wrap64_id (by omega) (by omega)
              cases gk with
              | zero => exact absurd HK.out (by omega)
              | succ k1 =>
                have KFi := Aside0.mk (KF.out i ci)
                obtain ⟨x, hx⟩ : ∃ x, (castBy l s (some m) ((i : Int) + 1)).1 = x := ⟨_, rfl⟩
                obtain ⟨p, hp⟩ : ∃ p, peakAt l s (some m) i = p := ⟨_, rfl⟩
                rw [hx] at KFi
                rw [hp]
                have HX := Aside0.mk (And.intro hx hp)
                clear hx hp
                by_cases cx : p < x
                · have c5 : decide (p < x) = true := decide_eq_true cx
                  go_wp2_with (go_at_call 28; (with_reducible refine (KFi.out b lo hi _ (HB.out.1.kept (S := fun _ => False) (Kept.of_below HQ.out _) (fun _ _ _ h => h))).mono ?_); rintro e w3 ⟨rfl, hb⟩; have HB3 := Aside0.mk hb; clear hb)
                  go_roundg k1
                  case measure => omega
                  case rel =>
                    refine ⟨i + 1, ?_, by go_num, ⟨by have := HK.out; omega⟩, ⟨HQ.out.trans (HB3.out.mono HQ.out.size)⟩⟩
                    show Value.int .i64 x = Value.int .i64 (max (peakAt l s (some m) i) (castBy l s (some m) ((i : Int) + 1)).1)
                    rw [HX.out.1, HX.out.2, show max p x = x by omega]
                · have c5 : decide (p < x) = false := decide_eq_false cx
                  go_wp2_with (go_at_call 28; (with_reducible refine (KFi.out b lo hi _ (HB.out.1.kept (S := fun _ => False) (Kept.of_below HQ.out _) (fun _ _ _ h => h))).mono ?_); rintro e w3 ⟨rfl, hb⟩; have HB3 := Aside0.mk hb; clear hb)
                  go_roundg k1
                  case measure => omega
                  case rel =>
                    refine ⟨i + 1, ?_, by go_num, ⟨by have := HK.out; omega⟩, ⟨HQ.out.trans (HB3.out.mono HQ.out.size)⟩⟩
                    show Value.int .i64 p = Value.int .i64 (max (peakAt l s (some m) i) (castBy l s (some m) ((i : Int) + 1)).1)
                    rw [HX.out.1, HX.out.2, show max p x = p by omega]
            · have c1 : decide ((i : Int) < (N : Int)) = false := decide_eq_false (by omega)
              obtain rfl : i = N := by have := HK.out; omega
              go_wp2
              go_ret2
              exact ⟨rfl, HB.out.2.trans (HQ.out.mono HB.out.2.size)⟩
    · have KD := Aside0.mk (counted_no g2)
      have e : peakS l s ahead = (0, 1) := by unfold peakS; rw [if_pos (by unfold noCast; omega)]
      rw [e]
      clear e g1 g2
      go_enter Try.func45, Try.ntmps45
      go_wp2_with (first | (go_at_call 77; (with_reducible refine (KC.out _).mono ?_); rintro e w' ⟨rfl, ⟨nd, rfl⟩⟩) | (go_at_call 77; (with_reducible refine (KD.out _).mono ?_); rintro e w' ⟨rfl, ⟨nd, rfl⟩⟩))
      go_ret2
      exact ⟨rfl, pw_below_drewN (Below.refl _ _) _⟩
  · have KC := Aside0.mk (counted_no g1)
    have e : peakS l s ahead = (0, 1) := by unfold peakS; rw [if_pos (by unfold noCast; omega)]
    rw [e]
    clear e g1
    go_enter Try.func45, Try.ntmps45
    go_wp2_with (first | (go_at_call 77; (with_reducible refine (KC.out _).mono ?_); rintro e w' ⟨rfl, ⟨nd, rfl⟩⟩))
    go_ret2
    exact ⟨rfl, pw_below_drewN (Below.refl _ _) _⟩
end Go.Proofs.Ytemnfnbjapobcaa.Ho
end
section
namespace Go.Proofs.Ytemnfnbjapobcaa.Cm
open Go.RowKit Go.Proofs.YtemnfnbjapobcaaW.PrintWords Go.Proofs.YtemnfnbjapobcaaW.PrintLast Go.Proofs.YtemnfnbjapobcaaW.PrintMore
attribute [local go_sem] max2_int min2_int max_two min_two max_three min_three max_four min_four   -- for this text's walks alone
set_option linter.unusedVariables false
set_option linter.unusedSimpArgs false
def errW : Option Int → Value
  | none => .nilIface
  | some c => .iface 0 (.int .i64 c)
theorem errW_none : errW none = .nilIface := rfl
theorem errW_some (c : Int) : errW (some c) = .iface 0 (.int .i64 c) := rfl
theorem info3 : (Try.prog.info? 3).map (fun i => (i.zero, i.size, i.bytes)) = some (some (.int .i64 0), 1, 8) := by kernel_rfl
end Go.Proofs.Ytemnfnbjapobcaa.Cm
end
section
namespace Go.Proofs.Ytemnfnbjapobcaa.Cm
open Go.RowKit Go.Proofs.YtemnfnbjapobcaaW.PrintWords Go.Proofs.YtemnfnbjapobcaaW.PrintLast Go.Proofs.YtemnfnbjapobcaaW.PrintMore
attribute [local go_sem] max2_int min2_int max_two min_two max_three min_three max_four min_four   -- for this text's walks alone
set_option linter.unusedVariables false
set_option linter.unusedSimpArgs false
def fixed_Add.f (a0 : Int) (a1 : Int) : Option (Int) := if HS.InB a0 && HS.InB a1 then some (HS.addS a0 a1) else none
theorem fixed_Add.calls (a0 : Int) (a1 : Int) (r : Int) (w : World)  (h : fixed_Add.f a0 a1 = some r) :
    Calls Try.prog 67 #[.int .i64 a0, .int .i64 a1] w fun e w' => e = .returned (.int .i64 r) ∧ Drawn0 w w' := by
  unfold fixed_Add.f at h
  by_cases c : (HS.InB a0 && HS.InB a1) = true
  · rw [if_pos c] at h
    obtain rfl := Option.some.inj h
    simp only [Bool.and_eq_true, okL_iff, HS.inB_iff] at c
    exact fAdd c.1 c.2 w
  · rw [if_neg c] at h; cases h
def season_Distance.f (a0 : Int) (a1 : Int) : Option (Int) := if HS.InB a0 && HS.InB a1 then some (HS.distS a0 a1) else none
theorem season_Distance.calls (a0 : Int) (a1 : Int) (r : Int) (w : World)  (h : season_Distance.f a0 a1 = some r) :
    Calls Try.prog 73 #[.int .i64 a0, .int .i64 a1] w fun e w' => e = .returned (.int .i64 r) ∧ Drawn0 w w' := by
  unfold season_Distance.f at h
  by_cases c : (HS.InB a0 && HS.InB a1) = true
  · rw [if_pos c] at h
    obtain rfl := Option.some.inj h
    simp only [Bool.and_eq_true, okL_iff, HS.inB_iff] at c
    exact Ho.dist_calls a0 a1 c.1 c.2 w
  · rw [if_neg c] at h; cases h
def season_counted.f (a0 : Int) : Option (Bool) := if a0 ≥ 1 then (some (decide (a0 ≤ 10000))) else (some false)
set_option maxHeartbeats 8000000 in
set_option maxRecDepth 100000 in
theorem season_counted.calls (a0 : Int) (r : Bool) (w : World) (h : season_counted.f a0 = some r) :
    Calls Try.prog 143 #[.int .i64 a0] w fun e w' => e = .returned (.bool r) ∧ Drawn0 w w' := by
  have H : (if a0 ≥ 1 then (some (decide (a0 ≤ 10000))) else (some false)) = some r := h
  clear h
  by_cases c2 : a0 ≥ 1
  · rw [if_pos c2] at H
    have c2b0 : decide (1 ≤ a0) = true := decide_eq_true c2
    clear c2
    obtain rfl := Option.some.inj H
    go_enter Try.func143, Try.ntmps143
    go_wp2
    go_ret
    exact ⟨by first | rfl | (simp; done) | (simp [*]; done), by repeat (first | exact Drawn0.refl _ | apply Drawn0.step)⟩
  · rw [if_neg c2] at H
    have c2b0 : decide (1 ≤ a0) = false := decide_eq_false c2
    clear c2
    obtain rfl := Option.some.inj H
    go_enter Try.func143, Try.ntmps143
    go_wp2
    go_ret
    exact ⟨by first | rfl | (simp; done) | (simp [*]; done), by repeat (first | exact Drawn0.refl _ | apply Drawn0.step)⟩
end Go.Proofs.Ytemnfnbjapobcaa.Cm
end
section
namespace Go.Proofs.Ytemnfnbjapobcaa.Cm
open Go.RowKit Go.Proofs.YtemnfnbjapobcaaW.PrintWords Go.Proofs.YtemnfnbjapobcaaW.PrintLast Go.Proofs.YtemnfnbjapobcaaW.PrintMore
attribute [local go_sem] max2_int min2_int max_two min_two max_three min_three max_four min_four   -- for this text's walks alone
set_option linter.unusedVariables false
set_option linter.unusedSimpArgs false
def season_Miss_1.f (k : Nat) (l : List Int) (s : Int) (i : Int) : Option Int := if 0 ≤ i then (if i < (l.length : Int) then (if 0 ≤ (wrap64 (i - s)) then (if (wrap64 (i - s)) < (l.length : Int) then (season_Distance.f (rd l i) (rd l (wrap64 (i - s)))) else none) else none) else none) else none
def season_Miss.l0 : Nat → List Int → Int → Int → Int → Option (Int × Int)
  | 0, _, _, _, _ => none
  | k + 1, l, s, sum, i => if i < (l.length : Int) then ((season_Miss_1.f k l s i).bind fun d => ((fixed_Add.f sum d).bind fun t => (season_Miss.l0 k l s t (wrap64 (i + 1))))) else (some (sum, 0))
def season_Miss.f (k : Nat) (l0 : List Int) (a1 : Int) (a2 : Int) : Option (Int × Int) := (season_counted.f a1).bind fun c => (if c = true then (if (l0.length : Int) < a1 then (some (0, 1)) else (if a2 < 1 then (some (0, 1)) else (if a1 > (wrap64 ((l0.length : Int) - a2)) then (some (0, 1)) else (season_Miss.l0 k l0 a1 0 (wrap64 ((l0.length : Int) - a2)))))) else (some (0, 1)))
theorem season_Distance.quiet (a0 a1 r : Int) (w : World) (h : season_Distance.f a0 a1 = some r) :
    Calls Try.prog 73 #[.int .i64 a0, .int .i64 a1] w fun e w' => e = .returned (.int .i64 r) ∧ ∃ m, w' = w.drewN m :=
  (season_Distance.calls a0 a1 r w h).mono fun _ _ ⟨he, hw⟩ => ⟨he, hw.out⟩
set_option maxHeartbeats 4000000 in
set_option maxRecDepth 100000 in
theorem season_Miss_1.calls (k : Nat) (A : Option Addr) (c : Nat) (l : List Int) (s i r : Int) (bl bs : Nat) (w : World) (hl : w.cell? ⟨bl, 0, none⟩ = some (.slice A l.length c)) (hs : w.cell? ⟨bs, 0, none⟩ = some (.int .i64 s)) (hr : Kd.C (Kd.int .i64) w A l.length l) (h : season_Miss_1.f k l s i = some r) :
    Calls Try.prog 144 #[.int .i64 i, .pointer (some ⟨bl, 0, none⟩), .pointer (some ⟨bs, 0, none⟩)] w fun e w' => e = .returned (.int .i64 r) ∧ Drawn0 w w' := by
  unfold season_Miss_1.f at h
  by_cases h0 : 0 ≤ i
  · by_cases h1 : i < (l.length : Int)
    · obtain ⟨j, hj⟩ : ∃ j, wrap64 (i - s) = j := ⟨_, rfl⟩
      by_cases h2 : 0 ≤ j
      · by_cases h3 : j < (l.length : Int)
        · rw [if_pos h0, if_pos h1, hj, if_pos h2, if_pos h3] at h
          obtain ⟨ad, rfl, c1⟩ := Kd.at_int hr i h0 h1
          obtain ⟨ad', e2, c2⟩ := Kd.at_int hr j h2 h3
          cases e2
          have D := Aside0.mk h
          clear h
          have hjw : IntKind.i64.wrap (i - s) = j := (i64_w _).trans hj
          have g0 := eq_true h0
          have g1 := eq_true h1
          have g2 := eq_true h2
          have g3 := eq_true h3
          clear h0 h1 h2 h3
          go_enter Try.func144, Try.ntmps144
          go_wp2
          go_quiet ((go_at_call 73; exact Calls.quiet_of (season_Distance.quiet _ _ r _ D.out)))
          go_wp2
          go_ret
          exact ⟨rfl, by repeat (first | exact Drawn0.refl _ | apply Drawn0.step)⟩
        · rw [if_pos h0, if_pos h1, hj, if_pos h2, if_neg h3] at h; cases h
      · rw [if_pos h0, if_pos h1, hj, if_neg h2] at h; cases h
    · rw [if_pos h0, if_neg h1] at h; cases h
  · rw [if_neg h0] at h; cases h
set_option maxHeartbeats 4000000 in
set_option maxRecDepth 100000 in
theorem season_Miss.calls (k : Nat) (A0 : Option Addr) (c0 : Nat) (l0 : List Int) (a1 : Int) (a2 : Int) (r1 : Int) (r2 : Int) (w : World) (hr0 : Kd.C (Kd.int .i64) w A0 l0.length l0) (hc0 : l0.length ≤ c0) (h : season_Miss.f k l0 a1 a2 = some (r1, r2)) :
    Calls Try.prog 136 #[.slice A0 l0.length c0, .int .i64 a1, .int .i64 a2] w fun e w' => e = .returned (.tuple #[.int .i64 r1, .int .i64 r2]) ∧ Below w.heap.size w w' := by
  unfold season_Miss.f at h
  obtain ⟨c, A1, H⟩ := Option.bind_eq_some_iff.mp h
  have AC := Aside0.mk A1
  clear A1 h
  have bad : ∀ (e : Ending) (w' : World), e = .returned (.tuple #[.int .i64 0, .int .i64 1]) ∧ Below w.heap.size w w' → (some ((0 : Int), (1 : Int)) = some (r1, r2)) → e = .returned (.tuple #[.int .i64 r1, .int .i64 r2]) ∧ Below w.heap.size w w' := by
    intro e w' h1 h2
    obtain ⟨rfl, rfl⟩ := Prod.mk.inj (Option.some.inj h2)
    exact h1
  have fin : ∀ n : Nat, Below w.heap.size w (((w.alloc (.cells #[.slice A0 l0.length c0] 23)).alloc (.cells #[.int .i64 a1] 3)).drewN n) := fun n =>
    pw_below_drewN (below_alloc (below_alloc (Below.refl _ _) _) _) n
  cases c
  · rw [if_neg (by decide)] at H
    refine Calls.mono ?_ (fun e w' h1 => bad e w' h1 H)
    clear H bad
    have FIN := Aside0.mk fin
    clear fin
    go_enter Try.func136, Try.ntmps136
    go_wp2_with (go_at_call 143; (with_reducible refine (season_counted.calls a1 false _ AC.out).mono ?_); rintro e w' ⟨rfl, ⟨nd, rfl⟩⟩)
    go_ret2
    exact ⟨rfl, FIN.out _⟩
  · rw [if_pos rfl] at H
    by_cases h1 : (l0.length : Int) < a1
    · rw [if_pos h1] at H
      refine Calls.mono ?_ (fun e w' h1 => bad e w' h1 H)
      clear H bad
      have FIN := Aside0.mk fin
      clear fin
      have g1 : decide ((l0.length : Int) < a1) = true := decide_eq_true h1
      clear h1
      go_enter Try.func136, Try.ntmps136
      go_wp2_with (go_at_call 143; (with_reducible refine (season_counted.calls a1 true _ AC.out).mono ?_); rintro e w' ⟨rfl, ⟨nd, rfl⟩⟩)
      go_ret2
      exact ⟨rfl, FIN.out _⟩
    · rw [if_neg h1] at H
      have g1 : decide ((l0.length : Int) < a1) = false := decide_eq_false h1
      clear h1
      by_cases h2 : a2 < 1
      · rw [if_pos h2] at H
        refine Calls.mono ?_ (fun e w' h1 => bad e w' h1 H)
        clear H bad
        have FIN := Aside0.mk fin
        clear fin
        have g2 : decide (a2 < 1) = true := decide_eq_true h2
        clear h2
        go_enter Try.func136, Try.ntmps136
        go_wp2_with (go_at_call 143; (with_reducible refine (season_counted.calls a1 true _ AC.out).mono ?_); rintro e w' ⟨rfl, ⟨nd, rfl⟩⟩)
        go_ret2
        exact ⟨rfl, FIN.out _⟩
      · rw [if_neg h2] at H
        have g2 : decide (a2 < 1) = false := decide_eq_false h2
        clear h2
        obtain ⟨j, hj⟩ : ∃ j, wrap64 ((l0.length : Int) - a2) = j := ⟨_, rfl⟩
        rw [hj] at H
        have hjw : IntKind.i64.wrap ((l0.length : Int) - a2) = j := (i64_w _).trans hj
        by_cases h3 : a1 > j
        · rw [if_pos h3] at H
          refine Calls.mono ?_ (fun e w' h1 => bad e w' h1 H)
          clear H bad
          have FIN := Aside0.mk fin
          clear fin
          have g3 : decide (j < a1) = true := decide_eq_true h3
          clear h3
          go_enter Try.func136, Try.ntmps136
          go_wp2_with (go_at_call 143; (with_reducible refine (season_counted.calls a1 true _ AC.out).mono ?_); rintro e w' ⟨rfl, ⟨nd, rfl⟩⟩)
          go_ret2
          exact ⟨rfl, FIN.out _⟩
        · rw [if_neg h3] at H
          have g3 : decide (j < a1) = false := decide_eq_false h3
          clear h3 bad
          have FIN := Aside0.mk fin
          have H' := Aside0.mk H
          have HB1 : Aside0 (∀ n : Nat, (((w.alloc (.cells #[.slice A0 l0.length c0] 23)).alloc (.cells #[.int .i64 a1] 3)).drewN n).cell? ⟨w.heap.size, 0, none⟩ = some (.slice A0 l0.length c0)) := ⟨fun n => by go_simp⟩
          have HB2 : Aside0 (∀ n : Nat, (((w.alloc (.cells #[.slice A0 l0.length c0] 23)).alloc (.cells #[.int .i64 a1] 3)).drewN n).cell? ⟨w.heap.size + 1, 0, none⟩ = some (.int .i64 a1)) := ⟨fun n => by go_simp⟩
          have HB3 : Aside0 (∀ n : Nat, Kd.C (Kd.int .i64) (((w.alloc (.cells #[.slice A0 l0.length c0] 23)).alloc (.cells #[.int .i64 a1] 3)).drewN n) A0 l0.length l0) := ⟨fun n => Kd.C_below hr0 (fin n)⟩
          clear fin H hr0
          go_enter Try.func136, Try.ntmps136
          go_wp2_with (go_at_call 143; (with_reducible refine (season_counted.calls a1 true _ AC.out).mono ?_); rintro e w' ⟨rfl, ⟨nd, rfl⟩⟩)
          go_loopg [9, 10] k (fun kq v9 v10 w' => ∃ (sum i : Int) (m : Nat), v9 = .int .i64 sum ∧ v10 = .int .i64 i ∧ Aside0 (season_Miss.l0 kq l0 a1 sum i = some (r1, r2)) ∧ Aside0 (kq ≤ k) ∧ w' = ((w.alloc (.cells #[.slice A0 l0.length c0] 23)).alloc (.cells #[.int .i64 a1] 3)).drewN m)
          case atStart => exact ⟨0, j, _, rfl, rfl, H', ⟨Nat.le_refl _⟩, rfl⟩
          case round =>
            clear H'
            obtain ⟨sum, i, m, rfl, rfl, HA, HK1, rfl⟩ := hrel
            cases gk with
            | zero => exact absurd HA.out (by simp [season_Miss.l0])
            | succ k1 =>
              have H := HA.out
              clear HA
              simp only [season_Miss.l0] at H
              by_cases c9 : i < (l0.length : Int)
              · rw [if_pos c9] at H
                have c9b : decide (i < (l0.length : Int)) = true := decide_eq_true c9
                clear c9
                obtain ⟨d, A2, H⟩ := Option.bind_eq_some_iff.mp H
                have A2 := Aside0.mk A2
                obtain ⟨t, A3, H⟩ := Option.bind_eq_some_iff.mp H
                have A3 := Aside0.mk A3
                have H' := Aside0.mk H
                clear H
                go_wp2_with (first | (go_at_call 144; (with_reducible refine (season_Miss_1.calls k1 A0 c0 l0 a1 i d w.heap.size (w.heap.size + 1) _ (HB1.out _) (HB2.out _) (HB3.out _) A2.out).mono ?_); rintro e w' ⟨rfl, ⟨nd, rfl⟩⟩) | (go_at_call 67; (with_reducible refine (fixed_Add.calls sum d t _ A3.out).mono ?_); rintro e w' ⟨rfl, ⟨nd, rfl⟩⟩))
                go_roundg k1
                case measure => have := HK1.out; omega
                case rel => exact ⟨t, wrap64 (i + 1), _, rfl, rfl, H', ⟨by have := HK1.out; omega⟩, rfl⟩
              · rw [if_neg c9] at H
                have c9b : decide (i < (l0.length : Int)) = false := decide_eq_false c9
                clear c9
                obtain ⟨rfl, rfl⟩ := Prod.mk.inj (Option.some.inj H)
                go_wp2
                go_ret2
                exact ⟨rfl, FIN.out _⟩
def season_Cast.f (l0 : List Int) (a1 : Int) (a2 : Int) : Option (Int × Int) := (season_counted.f a1).bind fun t106 => (if t106 = true then ((season_counted.f a2).bind fun t107 => (if t107 = true then (if (l0.length : Int) < a1 then (some (0, 1)) else (if a1 = 0 then (none) else (if 0 ≤ (wrap64 ((wrap64 ((l0.length : Int) - a1)) + (Int.tmod (wrap64 (a2 - 1)) a1))) then (if (wrap64 ((wrap64 ((l0.length : Int) - a1)) + (Int.tmod (wrap64 (a2 - 1)) a1))) < (l0.length : Int) then (some (rd l0 (wrap64 ((wrap64 ((l0.length : Int) - a1)) + (Int.tmod (wrap64 (a2 - 1)) a1))), 0)) else (none)) else (none)))) else (some (0, 1)))) else (some (0, 1)))
set_option maxHeartbeats 8000000 in
set_option maxRecDepth 100000 in
theorem season_Cast.calls (A0 : Option Addr) (c0 : Nat) (l0 : List Int) (a1 : Int) (a2 : Int) (r1 : Int) (r2 : Int) (w : World) (hr0 : Kd.C (Kd.int .i64) w A0 l0.length l0) (hc0 : l0.length ≤ c0) (h : season_Cast.f l0 a1 a2 = some (r1, r2)) :
    Calls Try.prog 138 #[.slice A0 l0.length c0, .int .i64 a1, .int .i64 a2] w fun e w' => e = .returned (.tuple #[.int .i64 r1, .int .i64 r2]) ∧ Drawn0 w w' := by
  have HR0 := Aside0.mk hr0
  have HC0 := Aside0.mk hc0
  clear hr0 hc0
  have H : ((season_counted.f a1).bind fun t106 => (if t106 = true then ((season_counted.f a2).bind fun t107 => (if t107 = true then (if (l0.length : Int) < a1 then (some (0, 1)) else (if a1 = 0 then (none) else (if 0 ≤ (wrap64 ((wrap64 ((l0.length : Int) - a1)) + (Int.tmod (wrap64 (a2 - 1)) a1))) then (if (wrap64 ((wrap64 ((l0.length : Int) - a1)) + (Int.tmod (wrap64 (a2 - 1)) a1))) < (l0.length : Int) then (some (rd l0 (wrap64 ((wrap64 ((l0.length : Int) - a1)) + (Int.tmod (wrap64 (a2 - 1)) a1))), 0)) else (none)) else (none)))) else (some (0, 1)))) else (some (0, 1)))) = some (r1, r2) := h
  clear h
  replace H := Option.bind_eq_some_iff.mp H
  obtain ⟨t106, A40, H⟩ := H
  replace H : (if t106 = true then ((season_counted.f a2).bind fun t107 => (if t107 = true then (if (l0.length : Int) < a1 then (some (0, 1)) else (if a1 = 0 then (none) else (if 0 ≤ (wrap64 ((wrap64 ((l0.length : Int) - a1)) + (Int.tmod (wrap64 (a2 - 1)) a1))) then (if (wrap64 ((wrap64 ((l0.length : Int) - a1)) + (Int.tmod (wrap64 (a2 - 1)) a1))) < (l0.length : Int) then (some (rd l0 (wrap64 ((wrap64 ((l0.length : Int) - a1)) + (Int.tmod (wrap64 (a2 - 1)) a1))), 0)) else (none)) else (none)))) else (some (0, 1)))) else (some (0, 1))) = some (r1, r2) := H
  have A4 := Aside0.mk A40
  clear A40
  by_cases c5 : t106 = true
  · subst c5
    have H1 : ((season_counted.f a2).bind fun t107 => (if t107 = true then (if (l0.length : Int) < a1 then (some (0, 1)) else (if a1 = 0 then (none) else (if 0 ≤ (wrap64 ((wrap64 ((l0.length : Int) - a1)) + (Int.tmod (wrap64 (a2 - 1)) a1))) then (if (wrap64 ((wrap64 ((l0.length : Int) - a1)) + (Int.tmod (wrap64 (a2 - 1)) a1))) < (l0.length : Int) then (some (rd l0 (wrap64 ((wrap64 ((l0.length : Int) - a1)) + (Int.tmod (wrap64 (a2 - 1)) a1))), 0)) else (none)) else (none)))) else (some (0, 1)))) = some (r1, r2) := by rw [if_pos rfl] at H; exact H
    clear H
    have H := H1
    clear H1
    replace H := Option.bind_eq_some_iff.mp H
    obtain ⟨t107, A60, H⟩ := H
    replace H : (if t107 = true then (if (l0.length : Int) < a1 then (some (0, 1)) else (if a1 = 0 then (none) else (if 0 ≤ (wrap64 ((wrap64 ((l0.length : Int) - a1)) + (Int.tmod (wrap64 (a2 - 1)) a1))) then (if (wrap64 ((wrap64 ((l0.length : Int) - a1)) + (Int.tmod (wrap64 (a2 - 1)) a1))) < (l0.length : Int) then (some (rd l0 (wrap64 ((wrap64 ((l0.length : Int) - a1)) + (Int.tmod (wrap64 (a2 - 1)) a1))), 0)) else (none)) else (none)))) else (some (0, 1))) = some (r1, r2) := H
    have A6 := Aside0.mk A60
    clear A60
    by_cases c7 : t107 = true
    · subst c7
      have H1 : (if (l0.length : Int) < a1 then (some (0, 1)) else (if a1 = 0 then (none) else (if 0 ≤ (wrap64 ((wrap64 ((l0.length : Int) - a1)) + (Int.tmod (wrap64 (a2 - 1)) a1))) then (if (wrap64 ((wrap64 ((l0.length : Int) - a1)) + (Int.tmod (wrap64 (a2 - 1)) a1))) < (l0.length : Int) then (some (rd l0 (wrap64 ((wrap64 ((l0.length : Int) - a1)) + (Int.tmod (wrap64 (a2 - 1)) a1))), 0)) else (none)) else (none)))) = some (r1, r2) := by rw [if_pos rfl] at H; exact H
      clear H
      have H := H1
      clear H1
      by_cases c8 : (l0.length : Int) < a1
      · rw [if_pos c8] at H
        have c8b0 : decide ((l0.length : Int) < a1) = true := decide_eq_true c8
        clear c8
        simp only [Option.some.injEq, Prod.mk.injEq] at H
        obtain ⟨rfl, rfl⟩ := H
        go_enter Try.func138, Try.ntmps138
        go_wp2_with (first | ((with_reducible refine gate_callee (f := 143) rfl ?_); refine goesL_ (some 9) rfl rfl Try.func143 (by kernel_rfl) rfl #[.int .i64 a1] rfl (by (try simp only [List.map_toArray, List.map_cons, List.map_nil]); first | done | rfl | (simp only [List.length_drop, List.length_take]; rfl)) ?_; (with_reducible refine (season_counted.calls a1 true _ A4.out).mono ?_); rintro e w' ⟨rfl, ⟨nd, rfl⟩⟩; refine ⟨_, rfl, ?_⟩) | (go_at_call 143; (with_reducible refine (season_counted.calls a2 true _ A6.out).mono ?_); rintro e w' ⟨rfl, ⟨nd, rfl⟩⟩))
        go_ret2
        exact ⟨by first | rfl | (simp; done) | (simp [*]; done), by repeat (first | exact Drawn0.refl _ | apply Drawn0.step)⟩
      · rw [if_neg c8] at H
        have c8b0 : decide ((l0.length : Int) < a1) = false := decide_eq_false c8
        clear c8
        by_cases c9 : a1 = 0
        · rw [if_pos c9] at H
          exact absurd H (by simp)
        · rw [if_neg c9] at H
          have c9b0 : (a1 == 0) = false := beq_eq_false_iff_ne.mpr c9
          have c9b1 : (a1 != 0) = true := bne_iff_ne.mpr c9
          obtain ⟨ji10, hji10⟩ : ∃ j_ : Int, (wrap64 ((wrap64 ((l0.length : Int) - a1)) + (Int.tmod (wrap64 (a2 - 1)) a1))) = j_ := ⟨_, rfl⟩
          replace H : (if 0 ≤ (ji10) then (if (ji10) < (l0.length : Int) then (some (rd l0 (ji10), 0)) else (none)) else (none)) = some (r1, r2) := by first | (rw [hji10] at H; exact H) | (simp only [hji10] at H ⊢; exact H)
          (try rw [hji10] at A4)
          (try rw [hji10] at A6)
          have hji10w : (IntKind.i64.wrap ((wrap64 ((l0.length : Int) - a1)) + (Int.tmod (wrap64 (a2 - 1)) a1))) = ji10 := (i64_w _).trans hji10
          by_cases c11 : 0 ≤ (ji10)
          · rw [if_pos c11] at H
            have c11b0 : decide (0 ≤ (ji10)) = true := decide_eq_true c11
            clear c11
            by_cases c12 : (ji10) < (l0.length : Int)
            · rw [if_pos c12] at H
              have c12b0 : decide ((ji10) < (l0.length : Int)) = true := decide_eq_true c12
              clear c12
              simp only [Option.some.injEq, Prod.mk.injEq] at H
              obtain ⟨rfl, rfl⟩ := H
              go_enter Try.func138, Try.ntmps138
              go_wp2_with (first | ((with_reducible refine gate_callee (f := 143) rfl ?_); refine goesL_ (some 9) rfl rfl Try.func143 (by kernel_rfl) rfl #[.int .i64 a1] rfl (by (try simp only [List.map_toArray, List.map_cons, List.map_nil]); first | done | rfl | (simp only [List.length_drop, List.length_take]; rfl)) ?_; (with_reducible refine (season_counted.calls a1 true _ A4.out).mono ?_); rintro e w' ⟨rfl, ⟨nd, rfl⟩⟩; refine ⟨_, rfl, ?_⟩) | (go_at_call 143; (with_reducible refine (season_counted.calls a2 true _ A6.out).mono ?_); rintro e w' ⟨rfl, ⟨nd, rfl⟩⟩; have p108 : 0 ≤ ((ji10) : Int) := of_decide_eq_true (by first | (with_reducible assumption) | assumption); have q108 : (ji10) < (l0.length : Int) := of_decide_eq_true (by first | (with_reducible assumption) | assumption); obtain ⟨ad108, e108, hx108_0⟩ := Kd.at_int HR0.out (ji10) p108 q108; cases e108; replace p108 := eq_true p108; replace q108 := eq_true q108))
              go_ret2
              exact ⟨by first | rfl | (simp; done) | (simp only [← hji10] <;> (first | rfl | simp)) | (simp [*]; done), by repeat (first | exact Drawn0.refl _ | apply Drawn0.step)⟩
            · rw [if_neg c12] at H
              exact absurd H (by simp)
          · rw [if_neg c11] at H
            exact absurd H (by simp)
    · replace c7 := Bool.eq_false_iff.mpr c7
      subst c7
      have H1 : (some (0, 1)) = some (r1, r2) := by rw [if_neg (show ¬ (false = true) by decide)] at H; exact H
      clear H
      have H := H1
      clear H1
      simp only [Option.some.injEq, Prod.mk.injEq] at H
      obtain ⟨rfl, rfl⟩ := H
      go_enter Try.func138, Try.ntmps138
      go_wp2_with (first | ((with_reducible refine gate_callee (f := 143) rfl ?_); refine goesL_ (some 9) rfl rfl Try.func143 (by kernel_rfl) rfl #[.int .i64 a1] rfl (by (try simp only [List.map_toArray, List.map_cons, List.map_nil]); first | done | rfl | (simp only [List.length_drop, List.length_take]; rfl)) ?_; (with_reducible refine (season_counted.calls a1 true _ A4.out).mono ?_); rintro e w' ⟨rfl, ⟨nd, rfl⟩⟩; refine ⟨_, rfl, ?_⟩) | (go_at_call 143; (with_reducible refine (season_counted.calls a2 false _ A6.out).mono ?_); rintro e w' ⟨rfl, ⟨nd, rfl⟩⟩))
      go_ret2
      exact ⟨by first | rfl | (simp; done) | (simp [*]; done), by repeat (first | exact Drawn0.refl _ | apply Drawn0.step)⟩
  · replace c5 := Bool.eq_false_iff.mpr c5
    subst c5
    have H1 : (some (0, 1)) = some (r1, r2) := by rw [if_neg (show ¬ (false = true) by decide)] at H; exact H
    clear H
    have H := H1
    clear H1
    simp only [Option.some.injEq, Prod.mk.injEq] at H
    obtain ⟨rfl, rfl⟩ := H
    go_enter Try.func138, Try.ntmps138
    go_wp2_with (first | ((with_reducible refine gate_callee (f := 143) rfl ?_); refine goesL_ (some 9) rfl rfl Try.func143 (by kernel_rfl) rfl #[.int .i64 a1] rfl (by (try simp only [List.map_toArray, List.map_cons, List.map_nil]); first | done | rfl | (simp only [List.length_drop, List.length_take]; rfl)) ?_; (with_reducible refine (season_counted.calls a1 false _ A4.out).mono ?_); rintro e w' ⟨rfl, ⟨nd, rfl⟩⟩; refine ⟨_, rfl, ?_⟩))
    go_ret2
    exact ⟨by first | rfl | (simp; done) | (simp [*]; done), by repeat (first | exact Drawn0.refl _ | apply Drawn0.step)⟩
end Go.Proofs.Ytemnfnbjapobcaa.Cm
end
section
namespace Go.Proofs.Ytemnfnbjapobcaa.Cm
open Go.RowKit Go.Proofs.YtemnfnbjapobcaaW.PrintWords Go.Proofs.YtemnfnbjapobcaaW.PrintLast Go.Proofs.YtemnfnbjapobcaaW.PrintMore
open Go.Proofs.Ytemnfnbjapobcaa.FS Go.Proofs.Ytemnfnbjapobcaa.HS Go.Proofs.Ytemnfnbjapobcaa.FM
set_option linter.unusedVariables false
set_option linter.unusedSimpArgs false
theorem add_in {a b : Int} (ha : FS.In a) (hb : FS.In b) : fixed_Add.f a b = some (addS a b) := by
  unfold fixed_Add.f; rw [if_pos (by simp [inB_iff.mpr ha, inB_iff.mpr hb])]
theorem dist_in {a b : Int} (ha : FS.In a) (hb : FS.In b) : season_Distance.f a b = some (distS a b) := by
  unfold season_Distance.f; rw [if_pos (by simp [inB_iff.mpr ha, inB_iff.mpr hb])]
def mis (l : List Int) (s : Nat) (m : Int) (i d : Nat) : Int := (List.range' i d).foldl (fun q j => addS q (distS (l.getD j 0) (l.getD (j - s) 0))) m
theorem mis_zero (l : List Int) (s : Nat) (m : Int) (i : Nat) : mis l s m i 0 = m := rfl
theorem mis_succ (l : List Int) (s : Nat) (m : Int) (i d : Nat) : mis l s m i (d + 1) = mis l s (addS m (distS (l.getD i 0) (l.getD (i - s) 0))) (i + 1) d := by
  unfold mis; rw [List.range'_succ, List.foldl_cons]
theorem rd_nat (xs : List Int) (i : Nat) : rd xs (i : Int) = xs.getD i 0 := rfl
theorem dist_ok (a b : Int) : FS.In (distS a b) := by unfold distS; split <;> exact in_sat _
theorem miss_l0 (l : List Int) (hl : l.length ≤ 1000000000) (hin : AllIn l) (s d : Nat) : ∀ (i : Nat) (m : Int), i + d = l.length → s ≤ i → FS.In m → season_Miss.l0 (d + 1) l (s : Int) m (i : Int) = some (mis l s m i d, 0) := by
  induction d with
  | zero =>
    intro i m hi hs hm
    simp only [season_Miss.l0]
    rw [if_neg (by omega), mis_zero]
  | succ d ih =>
    intro i m hi hs hm
    have e : wrap64 ((i : Int) + 1) = ((i + 1 : Nat) : Int) := by rw [wrap64_id (by omega) (by omega)]; omega
    have e1 : wrap64 ((i : Int) - s) = ((i - s : Nat) : Int) := by rw [wrap64_id (by omega) (by omega)]; omega
    have a1 := allIn_getD hin i
    have a2 := allIn_getD hin (i - s)
    rw [season_Miss.l0, if_pos (by omega)]
    simp only [season_Miss_1.f]
    rw [if_pos (by omega), if_pos (by omega), e1, if_pos (by omega), if_pos (by omega), rd_nat, rd_nat, dist_in a1 a2, Option.bind_some, add_in hm (dist_ok _ _), Option.bind_some, e, mis_succ]
    exact ih (i + 1) _ (by omega) (by omega) (in_addS _ _)
theorem counted_eq (n : Int) : season_counted.f n = some (decide (1 ≤ n) && decide (n ≤ 10000)) := by
  unfold season_counted.f
  by_cases h : n ≥ 1
  · rw [if_pos h, decide_eq_true h]; rfl
  · rw [if_neg h, decide_eq_false h]; rfl
theorem miss_eq (l : List Int) (hl : l.length ≤ 1000000000) (hin : AllIn l) (s last : Int) (hs : FS.In s) (hla : FS.In last) : ∃ k, season_Miss.f k l s last = some (nmissS l s last) := by
  obtain ⟨b0, b1⟩ := hla
  by_cases c : s < 1 ∨ s > 10000 ∨ (l.length : Int) < s ∨ last < 1 ∨ s > (l.length : Int) - last
  · refine ⟨1, ?_⟩
    unfold nmissS
    rw [if_pos c]
    unfold season_Miss.f
    rw [counted_eq]
    simp only [Option.bind_some]
    by_cases h1 : 1 ≤ s ∧ s ≤ 10000
    · rw [if_pos (by simp [h1])]
      by_cases h3 : (l.length : Int) < s
      · rw [if_pos h3]
      · rw [if_neg h3]
        by_cases h4 : last < 1
        · rw [if_pos h4]
        · rw [if_neg h4, if_pos (by rw [wrap64_id (by omega) (by omega)]; omega)]
    · rw [if_neg (by simp; omega)]
  · obtain ⟨S, rfl⟩ := Int.eq_ofNat_of_zero_le (show 0 ≤ s by omega)
    obtain ⟨L, rfl⟩ := Int.eq_ofNat_of_zero_le (show 0 ≤ last by omega)
    refine ⟨L + 1, ?_⟩
    have e : wrap64 ((l.length : Int) - (L : Int)) = ((l.length - L : Nat) : Int) := by rw [wrap64_id (by omega) (by omega)]; omega
    unfold nmissS
    rw [if_neg c]
    unfold season_Miss.f
    rw [counted_eq]
    simp only [Option.bind_some]
    rw [if_pos (by simp; omega), if_neg (by omega), if_neg (by omega), e, if_neg (by omega), miss_l0 l hl hin S L (l.length - L) 0 (by omega) (by omega) ⟨by decide, by decide⟩]
    rfl
theorem place {n s a : Nat} (h1 : 1 ≤ s) (h2 : s ≤ n) (h3 : 1 ≤ a) (hn : n ≤ 1000000000) (ha : a ≤ 10000) : wrap64 (wrap64 ((n : Int) - (s : Int)) + Int.tmod (wrap64 ((a : Int) - 1)) (s : Int)) = ((n - s + (a - 1) % s : Nat) : Int) ∧ n - s + (a - 1) % s < n := by
  have hm : (a - 1) % s < s := Nat.mod_lt _ (by omega)
  have e1 : wrap64 ((a : Int) - 1) = ((a - 1 : Nat) : Int) := by rw [wrap64_id (by omega) (by omega)]; omega
  have e2 : Int.tmod ((a - 1 : Nat) : Int) (s : Int) = (((a - 1) % s : Nat) : Int) := rfl
  have e3 : wrap64 ((n : Int) - (s : Int)) = ((n - s : Nat) : Int) := by rw [wrap64_id (by omega) (by omega)]; omega
  refine ⟨?_, by omega⟩
  rw [e1, e2, e3, wrap64_id (by omega) (by omega)]
  omega
theorem cast_eq (l : List Int) (hl : l.length ≤ 1000000000) (s ahead : Int) (hs : FS.In s) (ha : FS.In ahead) : season_Cast.f l s ahead = some (naiveS l s ahead) := by
  unfold season_Cast.f naiveS
  rw [counted_eq, counted_eq]
  simp only [Option.bind_some]
  by_cases h1 : 1 ≤ s ∧ s ≤ 10000
  · rw [if_pos (by simp [h1])]
    by_cases h2 : 1 ≤ ahead ∧ ahead ≤ 10000
    · rw [if_pos (by simp [h2])]
      by_cases h3 : (l.length : Int) < s
      · rw [if_pos h3, if_pos (by omega)]
      · obtain ⟨S, rfl⟩ := Int.eq_ofNat_of_zero_le (show 0 ≤ s by omega)
        obtain ⟨L, rfl⟩ := Int.eq_ofNat_of_zero_le (show 0 ≤ ahead by omega)
        obtain ⟨p1, p2⟩ := place (n := l.length) (s := S) (a := L) (by omega) (by omega) (by omega) hl (by omega)
        rw [if_neg h3, if_neg (by omega), p1, if_pos (by omega), if_pos (by omega), if_neg (by omega)]
        rfl
    · rw [if_neg (by simp; omega), if_pos (by omega)]
  · rw [if_neg (by simp; omega), if_pos (by omega)]
theorem seasonMiss : Ho.SeasonMiss := fun W A c l s last h hc hin hs hla hll => by
  obtain ⟨k, e⟩ := miss_eq l hll hin s last hs hla
  exact season_Miss.calls k A c l s last _ _ W h hc e
theorem seasonCast : Ho.SeasonCast := fun W A c l s ahead h hc hin hs ha hll => by
  refine (season_Cast.calls A c l s ahead _ _ W h hc (cast_eq l hll s ahead hs ha)).mono ?_
  rintro e w' ⟨rfl, hd⟩
  obtain ⟨m, rfl⟩ := hd.out
  exact ⟨rfl, pw_below_drewN (Below.refl _ _) _⟩
end Go.Proofs.Ytemnfnbjapobcaa.Cm
end
section
namespace Go.Proofs.Ytemnfnbjapobcaa
open Go.RowKit Go.Proofs.YtemnfnbjapobcaaW.PrintWords
theorem sMiss : Aside0 Ho.SeasonMiss := ⟨Cm.seasonMiss⟩
theorem sCast : Aside0 Ho.SeasonCast := ⟨Cm.seasonCast⟩
end Go.Proofs.Ytemnfnbjapobcaa
end
section
namespace Go.Proofs.Ytemnfnbjapobcaa.PS
structure Pol where
  mn : Int
  mx : Int
  per : Int
  stale : Int
  step : Int
  ahead : Int
  cool : Int
  season : Int
def okP (p : Pol) : Prop := 1 ≤ p.mn ∧ p.mn ≤ p.mx ∧ p.mx ≤ 1048576 ∧ 0 < p.per ∧ (1 ≤ p.stale ∧ p.stale ≤ 9007199254740992) ∧ (1 ≤ p.step ∧ p.step ≤ 9007199254740992) ∧ (0 ≤ p.cool ∧ p.cool ≤ 9007199254740992) ∧ 1 ≤ p.ahead ∧ p.ahead ≤ 100 ∧ 1 ≤ p.season ∧ p.season ≤ 500
instance (p : Pol) : Decidable (okP p) := by unfold okP; infer_instance
def checkP (p : Pol) : Int := if okP p then 0 else 31
end Go.Proofs.Ytemnfnbjapobcaa.PS
namespace Go.Proofs.Ytemnfnbjapobcaa.Ho
open Go.RowKit Go.Proofs.YtemnfnbjapobcaaW.PrintWords Go.Proofs.YtemnfnbjapobcaaW.PrintLast Go.Proofs.YtemnfnbjapobcaaW.PrintMore
open Go.Proofs.Ytemnfnbjapobcaa.FS Go.Proofs.Ytemnfnbjapobcaa.HS Go.Proofs.Ytemnfnbjapobcaa.FM Go.Proofs.Ytemnfnbjapobcaa.PS
set_option linter.unusedVariables false
set_option linter.unusedSimpArgs false
def polV (p : Pol) : Value := .agg #[.int .i64 p.mn, .int .i64 p.mx, .int .i64 p.per, .int .i64 p.stale, .int .i64 p.step, .int .i64 p.ahead, .int .i64 p.cool, .int .i64 p.season]
theorem timed1_calls (n least : Int) (w : World) : Calls Try.prog 80 #[.int .i64 n, .int .i64 least] w fun e w' => e = .returned (.bool (decide (least ≤ n ∧ n ≤ 9007199254740992))) ∧ Drawn0 w w' := by
  by_cases h1 : n ≥ least
  · have c1 : decide (n ≥ least) = true := decide_eq_true h1
    by_cases h2 : n ≤ 9007199254740992
    · have c2 : decide (n ≤ 9007199254740992) = true := decide_eq_true h2
      have e : decide (least ≤ n ∧ n ≤ 9007199254740992) = true := decide_eq_true ⟨h1, h2⟩
      rw [e]
      clear h1 h2 e
      go_enter Try.func80, Try.ntmps80
      go_wp2
      go_ret
      exact ⟨rfl, Drawn0.refl _⟩
    · have c2 : decide (n ≤ 9007199254740992) = false := decide_eq_false h2
      have e : decide (least ≤ n ∧ n ≤ 9007199254740992) = false := decide_eq_false (fun h => h2 h.2)
      rw [e]
      clear h1 h2 e
      go_enter Try.func80, Try.ntmps80
      go_wp2
      go_ret
      exact ⟨rfl, Drawn0.refl _⟩
  · have c1 : decide (n ≥ least) = false := decide_eq_false h1
    have e : decide (least ≤ n ∧ n ≤ 9007199254740992) = false := decide_eq_false (fun h => h1 h.1)
    rw [e]
    clear h1 e
    go_enter Try.func80, Try.ntmps80
    go_wp2
    go_ret
    exact ⟨rfl, Drawn0.refl _⟩
theorem timed1_yes {n least : Int} (h : least ≤ n ∧ n ≤ 9007199254740992) (w : World) : Calls Try.prog 80 #[.int .i64 n, .int .i64 least] w fun e w' => e = .returned (.bool true) ∧ Drawn0 w w' := by
  have := timed1_calls n least w
  rwa [decide_eq_true h] at this
theorem timed1_no {n least : Int} (h : ¬ (least ≤ n ∧ n ≤ 9007199254740992)) (w : World) : Calls Try.prog 80 #[.int .i64 n, .int .i64 least] w fun e w' => e = .returned (.bool false) ∧ Drawn0 w w' := by
  have := timed1_calls n least w
  rwa [decide_eq_false h] at this
set_option maxRecDepth 100000 in
set_option maxHeartbeats 8000000 in
theorem pcheck_calls (p : Pol) (w : World) :
    Calls Try.prog 48 #[polV p] w fun e w' => e = .returned (.int .i64 (checkP p)) ∧ Below w.heap.size w w' := by
  obtain ⟨mn, mx, per, stale, step, ahead, cool, season⟩ := p
  dsimp only [polV]
  have bad : ¬ okP ⟨mn, mx, per, stale, step, ahead, cool, season⟩ → checkP ⟨mn, mx, per, stale, step, ahead, cool, season⟩ = 31 := fun h => if_neg h
  by_cases h1 : mn ≥ 1
  rotate_left
  · have e := bad (by unfold okP; dsimp only; omega)
    have c1 : decide (mn ≥ 1) = false := decide_eq_false h1
    rw [e]
    clear e bad h1
    go_enter Try.func48, Try.ntmps48
    go_wp2
    go_ret
    exact ⟨rfl, below_alloc (Below.refl _ _) _⟩
  have c1 : decide (mn ≥ 1) = true := decide_eq_true h1
  by_cases h2 : mn ≤ mx
  rotate_left
  · have e := bad (by unfold okP; dsimp only; omega)
    have c2 : decide (mn ≤ mx) = false := decide_eq_false h2
    rw [e]
    clear e bad h1 h2
    go_enter Try.func48, Try.ntmps48
    go_wp2
    go_ret
    exact ⟨rfl, below_alloc (Below.refl _ _) _⟩
  have c2 : decide (mn ≤ mx) = true := decide_eq_true h2
  by_cases h3 : mx ≤ 1048576
  rotate_left
  · have e := bad (by unfold okP; dsimp only; omega)
    have c3 : decide (mx ≤ 1048576) = false := decide_eq_false h3
    rw [e]
    clear e bad h1 h2 h3
    go_enter Try.func48, Try.ntmps48
    go_wp2
    go_ret
    exact ⟨rfl, below_alloc (Below.refl _ _) _⟩
  have c3 : decide (mx ≤ 1048576) = true := decide_eq_true h3
  by_cases h4 : per > 0
  rotate_left
  · have e := bad (by unfold okP; dsimp only; omega)
    have c4 : decide (per > 0) = false := decide_eq_false h4
    rw [e]
    clear e bad h1 h2 h3 h4
    go_enter Try.func48, Try.ntmps48
    go_wp2
    go_ret
    exact ⟨rfl, below_alloc (Below.refl _ _) _⟩
  have c4 : decide (per > 0) = true := decide_eq_true h4
  by_cases h5 : 1 ≤ stale ∧ stale ≤ 9007199254740992
  rotate_left
  · have e := bad (by unfold okP; dsimp only; omega)
    have c5 : _ := Aside0.mk (timed1_no h5)
    rw [e]
    clear e bad h1 h2 h3 h4 h5
    go_enter Try.func48, Try.ntmps48
    go_wp2_with (first | (go_at_call 80; (with_reducible refine (c5.out _).mono ?_); rintro e w' ⟨rfl, ⟨nd, rfl⟩⟩))
    go_ret
    exact ⟨rfl, pw_below_drewN (below_alloc (Below.refl _ _) _) _⟩
  have c5 : _ := Aside0.mk (timed1_yes h5)
  by_cases h6 : 1 ≤ step ∧ step ≤ 9007199254740992
  rotate_left
  · have e := bad (by unfold okP; dsimp only; omega)
    have c6 : _ := Aside0.mk (timed1_no h6)
    rw [e]
    clear e bad h1 h2 h3 h4 h5 h6
    go_enter Try.func48, Try.ntmps48
    go_wp2_with (first | (go_at_call 80; (with_reducible refine (c5.out _).mono ?_); rintro e w' ⟨rfl, ⟨nd, rfl⟩⟩) | (go_at_call 80; (with_reducible refine (c6.out _).mono ?_); rintro e w' ⟨rfl, ⟨nd, rfl⟩⟩))
    go_ret
    exact ⟨rfl, pw_below_drewN (below_alloc (Below.refl _ _) _) _⟩
  have c6 : _ := Aside0.mk (timed1_yes h6)
  by_cases h7 : 0 ≤ cool ∧ cool ≤ 9007199254740992
  rotate_left
  · have e := bad (by unfold okP; dsimp only; omega)
    have c7 : _ := Aside0.mk (timed1_no h7)
    rw [e]
    clear e bad h1 h2 h3 h4 h5 h6 h7
    go_enter Try.func48, Try.ntmps48
    go_wp2_with (first | (go_at_call 80; (with_reducible refine (c5.out _).mono ?_); rintro e w' ⟨rfl, ⟨nd, rfl⟩⟩) | (go_at_call 80; (with_reducible refine (c6.out _).mono ?_); rintro e w' ⟨rfl, ⟨nd, rfl⟩⟩) | (go_at_call 80; (with_reducible refine (c7.out _).mono ?_); rintro e w' ⟨rfl, ⟨nd, rfl⟩⟩))
    go_ret
    exact ⟨rfl, pw_below_drewN (below_alloc (Below.refl _ _) _) _⟩
  have c7 : _ := Aside0.mk (timed1_yes h7)
  by_cases h8 : ahead ≥ 1
  rotate_left
  · have e := bad (by unfold okP; dsimp only; omega)
    have c8 : decide (ahead ≥ 1) = false := decide_eq_false h8
    rw [e]
    clear e bad h1 h2 h3 h4 h5 h6 h7 h8
    go_enter Try.func48, Try.ntmps48
    go_wp2_with (first | (go_at_call 80; (with_reducible refine (c5.out _).mono ?_); rintro e w' ⟨rfl, ⟨nd, rfl⟩⟩) | (go_at_call 80; (with_reducible refine (c6.out _).mono ?_); rintro e w' ⟨rfl, ⟨nd, rfl⟩⟩) | (go_at_call 80; (with_reducible refine (c7.out _).mono ?_); rintro e w' ⟨rfl, ⟨nd, rfl⟩⟩))
    go_ret
    exact ⟨rfl, pw_below_drewN (below_alloc (Below.refl _ _) _) _⟩
  have c8 : decide (ahead ≥ 1) = true := decide_eq_true h8
  by_cases h9 : ahead ≤ 100
  rotate_left
  · have e := bad (by unfold okP; dsimp only; omega)
    have c9 : decide (ahead ≤ 100) = false := decide_eq_false h9
    rw [e]
    clear e bad h1 h2 h3 h4 h5 h6 h7 h8 h9
    go_enter Try.func48, Try.ntmps48
    go_wp2_with (first | (go_at_call 80; (with_reducible refine (c5.out _).mono ?_); rintro e w' ⟨rfl, ⟨nd, rfl⟩⟩) | (go_at_call 80; (with_reducible refine (c6.out _).mono ?_); rintro e w' ⟨rfl, ⟨nd, rfl⟩⟩) | (go_at_call 80; (with_reducible refine (c7.out _).mono ?_); rintro e w' ⟨rfl, ⟨nd, rfl⟩⟩))
    go_ret
    exact ⟨rfl, pw_below_drewN (below_alloc (Below.refl _ _) _) _⟩
  have c9 : decide (ahead ≤ 100) = true := decide_eq_true h9
  by_cases h10 : season ≥ 1
  rotate_left
  · have e := bad (by unfold okP; dsimp only; omega)
    have c10 : decide (season ≥ 1) = false := decide_eq_false h10
    rw [e]
    clear e bad h1 h2 h3 h4 h5 h6 h7 h8 h9 h10
    go_enter Try.func48, Try.ntmps48
    go_wp2_with (first | (go_at_call 80; (with_reducible refine (c5.out _).mono ?_); rintro e w' ⟨rfl, ⟨nd, rfl⟩⟩) | (go_at_call 80; (with_reducible refine (c6.out _).mono ?_); rintro e w' ⟨rfl, ⟨nd, rfl⟩⟩) | (go_at_call 80; (with_reducible refine (c7.out _).mono ?_); rintro e w' ⟨rfl, ⟨nd, rfl⟩⟩))
    go_ret
    exact ⟨rfl, pw_below_drewN (below_alloc (Below.refl _ _) _) _⟩
  have c10 : decide (season ≥ 1) = true := decide_eq_true h10
  by_cases h11 : season ≤ 500
  rotate_left
  · have e := bad (by unfold okP; dsimp only; omega)
    have c11 : decide (season ≤ 500) = false := decide_eq_false h11
    rw [e]
    clear e bad h1 h2 h3 h4 h5 h6 h7 h8 h9 h10 h11
    go_enter Try.func48, Try.ntmps48
    go_wp2_with (first | (go_at_call 80; (with_reducible refine (c5.out _).mono ?_); rintro e w' ⟨rfl, ⟨nd, rfl⟩⟩) | (go_at_call 80; (with_reducible refine (c6.out _).mono ?_); rintro e w' ⟨rfl, ⟨nd, rfl⟩⟩) | (go_at_call 80; (with_reducible refine (c7.out _).mono ?_); rintro e w' ⟨rfl, ⟨nd, rfl⟩⟩))
    go_ret
    exact ⟨rfl, pw_below_drewN (below_alloc (Below.refl _ _) _) _⟩
  have c11 : decide (season ≤ 500) = true := decide_eq_true h11
  have e : checkP ⟨mn, mx, per, stale, step, ahead, cool, season⟩ = 0 := if_pos (by unfold okP; dsimp only; omega)
  rw [e]
  clear e bad h1 h2 h3 h4 h5 h6 h7 h8 h9 h10 h11
  go_enter Try.func48, Try.ntmps48
  go_wp2_with (first | (go_at_call 80; (with_reducible refine (c5.out _).mono ?_); rintro e w' ⟨rfl, ⟨nd, rfl⟩⟩) | (go_at_call 80; (with_reducible refine (c6.out _).mono ?_); rintro e w' ⟨rfl, ⟨nd, rfl⟩⟩) | (go_at_call 80; (with_reducible refine (c7.out _).mono ?_); rintro e w' ⟨rfl, ⟨nd, rfl⟩⟩))
  go_ret
  exact ⟨rfl, pw_below_drewN (below_alloc (Below.refl _ _) _) _⟩
end Go.Proofs.Ytemnfnbjapobcaa.Ho
end
section
namespace Go.Proofs.Ytemnfnbjapobcaa.Pr
open Go.RowKit Go.Proofs.YtemnfnbjapobcaaW.PrintWords Go.Proofs.YtemnfnbjapobcaaW.PrintLast Go.Proofs.YtemnfnbjapobcaaW.PrintMore
attribute [local go_sem] max2_int min2_int max_two min_two max_three min_three max_four min_four   -- for this text's walks alone
set_option linter.unusedVariables false
set_option linter.unusedSimpArgs false
def errW : Option Int → Value
  | none => .nilIface
  | some c => .iface 0 (.int .i64 c)
theorem errW_none : errW none = .nilIface := rfl
theorem errW_some (c : Int) : errW (some c) = .iface 0 (.int .i64 c) := rfl
theorem info3 : (Try.prog.info? 3).map (fun i => (i.zero, i.size, i.bytes)) = some (some (.int .i64 0), 1, 8) := by kernel_rfl
structure S70 where
  f0 : Int
  f1 : Int
def z70 : S70 := ⟨(0 : Int), (0 : Int)⟩
def k70 : Kd S70 := Kd.iso (Kd.pair (Kd.int .i64) (Kd.int .i64)) (fun x : S70 => (x.f0, x.f1))
theorem k70_open {w : World} {x : S70} {cs : List Value} (h : k70.K w x cs) : cs = [.int .i64 x.f0, .int .i64 x.f1] := by
  obtain ⟨_, _, rfl, rfl, rfl⟩ := h
  exact rfl
theorem k70_mkM (w : World) (base : Nat) (ok : Nat → Prop) (x : S70)  : k70.M w base ok x [.int .i64 x.f0, .int .i64 x.f1] := ⟨[.int .i64 x.f0], [.int .i64 x.f1], rfl, rfl, rfl⟩
def rd_T70 (xs : List S70) (i : Int) : S70 := xs.getD i.toNat z70
theorem at_T70 {w : World} {A : Option Addr} {n : Nat} {xs : List S70} (h : Kd.C k70 w A n xs) (i : Int) (h0 : 0 ≤ i) (h1 : i < n) : ∃ ad , A = some ad ∧ w.cell? (ad.add (i.toNat * 2)) = some (.int .i64 (rd_T70 xs i).f0) ∧ w.cell? ⟨(ad.add (i.toNat * 2)).block, (ad.add (i.toNat * 2)).off + 1, none⟩ = some (.int .i64 (rd_T70 xs i).f1) := by
  obtain ⟨ad, c, e, _, hK, hc0⟩ := Kd.C_get h z70 i h0 h1
  have hc : ∀ j u, c[j]? = some u → w.cell? (ad.add (i.toNat * 2 + j)) = some u := hc0
  obtain rfl := k70_open hK
  exact ⟨ad, e, hc 0 _ rfl, by rw [← add_field _ _ 1 (by omega)]; exact hc 1 _ rfl⟩
end Go.Proofs.Ytemnfnbjapobcaa.Pr
end
