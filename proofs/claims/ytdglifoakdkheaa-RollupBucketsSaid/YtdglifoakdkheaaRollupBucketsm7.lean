/- Package rollup and the reference make the same buckets of all samples by every width, or tell the same reason why there are none. Conditions: none beyond the given row's. -/
-- Laid together by wip/shake.py out of: RolZ Rbx0 Rbx1 Rbx2 PureRollupBuckets LawRollupBuckets
import Derived.Test.YtdglifoakdkheaaRollupBucketsm6
import Derived.Test.YtdglifoakdkheaaProg
import Derived.Below
import Derived.Deep.Draws
import Derived.Deep.AppendLies
import Derived.Maps.AppendAt
import Derived.OwnWalk
import Derived.Laws.BytesArg
import Derived.Laws.MakeOwn
import Derived.Laws.OwnMore
import Derived.Deep.OwnRows
import Derived.Tactics
import Derived.Lib.ConvBytes
import Derived.Laws.Slices
import Derived.WalkKit
import Derived.KernelRfl
import Derived.RowKit3
import Derived.Deep.LoopGhost
import Derived.Deep.QuietTactic
import Derived.BigQuiet
import Derived.WideLaws
import Derived.Deep.DeepCutAuto
import Derived.Deep.CutBlock
import Derived.Deep.RegionHeld3
import Derived.Laws.Rows
import Derived.Lib.AppendStr
import Derived.ArgAppend
import Derived.Laws.IdiomCopy
import Derived.OrdersHeld
import Derived.Laws.BitsLemmas
import Derived.RowKit
import Derived.Test.YtdglifoakdkheaaRows
import Derived.ProofKit
import Derived.OpenShut
import Derived.ShutString
import Derived.ChangeOld
import Derived.SizedLaws
import Derived.Deep.Slices
import Derived.WideShapes
section
namespace Go.Proofs.Ytdglifoakdkheaa.Rk
open Go.RowKit Go.Proofs.YtdglifoakdkheaaW.PrintWords Go.Proofs.YtdglifoakdkheaaW.PrintLast Go.Proofs.YtdglifoakdkheaaW.PrintMore
set_option linter.unusedVariables false
def to41 (x : S41) : Roll.S41 := ⟨x.f0, x.f1⟩
def fr52 (x : Roll.S52) : S52 := ⟨x.f0, x.f1, x.f2, x.f3, x.f4, x.f5⟩
theorem round_ev (l : List S41) (w : Int) (hw : Roll.In w) (hl : l.length ≤ 100000) (i : Nat) (hi : i < l.length) (s : S41) (hs : l[i]? = some s) (h0 : Roll.In s.f0) (h1 : Roll.In s.f1) (o : List Roll.S52) (ho : o.length ≤ i) (hin : ∀ x ∈ o, Roll.In x.f2) {r : List S52 × Int}
    (K : Ev (fun k => lysimeterref16_Buckets.l0 k l w ((Roll.refS w o (Roll.oneS (to41 s))).map fr52) ((i + 1 : Nat) : Int)) r) : Ev (fun k => lysimeterref16_Buckets.l0 k l w (o.map fr52) (i : Int)) r := by
  have e0 : rd_T41 l (i : Int) = s := by
    unfold rd_T41
    rw [Int.toNat_natCast, List.getD_eq_getElem?_getD, hs]
    rfl
  have hF : lysimeterref16_Floor.f s.f0 w = some (Roll.floorS s.f0 w) := by
    unfold lysimeterref16_Floor.f
    rw [if_pos]
    rw [Bool.and_eq_true, Roll.inb_iff, Roll.inb_iff]
    exact ⟨h0, hw⟩
  have hi1 : wrap64 ((i : Int) + 1) = ((i + 1 : Nat) : Int) := by rw [Roll.wrap64_id (by omega) (by omega)]; omega
  refine Ev.step (fun k => ?_) K
  simp only [lysimeterref16_Buckets.l0]
  rw [if_pos (by omega), if_pos (by omega), e0, hF, Option.bind_some, hi1]
  rcases List.eq_nil_or_concat o with rfl | ⟨p, x, rfl⟩
  · rw [if_neg (by simp), if_pos (by simp)]
    rfl
  · have e1 : p.concat x = p ++ [x] := List.concat_eq_append ..
    rw [e1] at ho hin ⊢
    have hx := hin x (by simp)
    rw [List.length_append, List.length_singleton] at ho
    have e2 : (((p ++ [x]).map fr52).length : Int) = ((p.length + 1 : Nat) : Int) := by simp
    have e3 : wrap64 (((p ++ [x]).map fr52).length - 1 : Int) = (p.length : Int) := by rw [e2, Roll.wrap64_id (by omega) (by omega)]; omega
    have e4 : rd_T52 ((p ++ [x]).map fr52) (p.length : Int) = fr52 x := by
      unfold rd_T52
      rw [Int.toNat_natCast, List.getD_eq_getElem?_getD, List.getElem?_map, List.getElem?_append_right (Nat.le_refl _), Nat.sub_self]
      rfl
    rw [e3, e4, if_pos (by omega), if_pos (by omega), if_pos (by omega)]
    have e5 : (Roll.refS w (p ++ [x]) (Roll.oneS (to41 s))) = if x.f0 = Roll.floorS s.f0 w then p ++ [Roll.joinS x (Roll.lowS w (Roll.oneS (to41 s)))] else p ++ [x] ++ [Roll.lowS w (Roll.oneS (to41 s))] := by
      unfold Roll.refS
      rw [List.getLast?_concat, List.dropLast_concat]
      rfl
    rw [e5]
    by_cases c : x.f0 = Roll.floorS s.f0 w
    · have e6 : lysimeterref16_Join.f (fr52 x).f0 (fr52 x).f1 (fr52 x).f2 (fr52 x).f3 (fr52 x).f4 (fr52 x).f5 (Roll.floorS s.f0 w) 1 s.f1 s.f1 s.f1 s.f1 = some (lysimeterref16_Join.flat (Roll.joinS x (Roll.lowS w (Roll.oneS (to41 s))))) := by
        unfold lysimeterref16_Join.f
        rw [if_pos (by rw [Bool.and_eq_true, Roll.inb_iff, Roll.inb_iff]; exact ⟨hx, h1⟩)]
        unfold Roll.rjoinS
        rw [if_neg (by show ¬ (1 : Int) = 0; decide)]
        rfl
      rw [if_pos (show (fr52 x).f0 = _ from c), if_pos c, e6, Option.bind_some]
      congr 1
      rw [Int.toNat_natCast, List.map_append, List.map_append, List.set_append_right _ _ (by simp), List.length_map, Nat.sub_self]
      rfl
    · rw [if_neg (show ¬ (fr52 x).f0 = _ from c), if_neg c, if_pos (by simp; omega)]
      congr 1
      rw [List.map_append (l₁ := p ++ [x])]
      rfl
theorem ref_len (w : Int) (o : List Roll.S52) (b : Roll.S52) : (Roll.refS w o b).length ≤ o.length + 1 := by
  unfold Roll.refS
  split
  · simp
  · split
    · simp <;> omega
    · simp
theorem ref_in (w : Int) (o : List Roll.S52) (b : Roll.S52) (ho : ∀ x ∈ o, Roll.In x.f2) (hb : Roll.In b.f2) : ∀ x ∈ Roll.refS w o b, Roll.In x.f2 := by
  intro y hy
  unfold Roll.refS at hy
  split at hy
  · rcases List.mem_append.mp hy with h | h
    · exact ho y h
    · rw [List.mem_singleton] at h; rw [h]; exact hb
  · rename_i x hx
    split at hy
    · rcases List.mem_append.mp hy with h | h
      · exact ho y ((List.dropLast_sublist o).subset h)
      · rw [List.mem_singleton] at h; rw [h]; exact Roll.join_in (ho x (List.mem_of_getLast? hx)) hb
    · rcases List.mem_append.mp hy with h | h
      · exact ho y h
      · rw [List.mem_singleton] at h; rw [h]; exact hb
theorem loop_ev (l : List S41) (w : Int) (hw : Roll.In w) (hl : l.length ≤ 100000) (hin : ∀ s ∈ l, Roll.In s.f0 ∧ Roll.In s.f1) : ∀ (d i : Nat) (o : List Roll.S52), i + d = l.length → o.length ≤ i → (∀ x ∈ o, Roll.In x.f2) →
    Ev (fun k => lysimeterref16_Buckets.l0 k l w (o.map fr52) (i : Int)) ((((l.drop i).map (fun s => Roll.oneS (to41 s))).foldl (Roll.refS w) o).map fr52, 0) := by
  intro d
  induction d with
  | zero =>
    intro i o hi ho hx
    rw [List.drop_of_length_le (by omega)]
    refine Ev.step (f := fun _ => some (o.map fr52, 0)) (fun k => ?_) (Ev.now _)
    simp only [lysimeterref16_Buckets.l0]
    rw [if_neg (by omega)]
  | succ d ih =>
    intro i o hi ho hx
    have hlt : i < l.length := by omega
    have hs := hin l[i] (List.getElem_mem hlt)
    refine round_ev l w hw hl i hlt l[i] (List.getElem?_eq_getElem hlt) hs.1 hs.2 o ho hx ?_
    rw [List.drop_eq_getElem_cons hlt, List.map_cons, List.foldl_cons]
    exact ih (i + 1) _ (by omega) (by have := ref_len w o (Roll.oneS (to41 l[i])); omega) (ref_in w o _ hx hs.2)
theorem rbuckets_ev (l : List S41) (w : Int) (hw : Roll.In w) (hl : l.length ≤ 100000) (hin : ∀ s ∈ l, Roll.In s.f0 ∧ Roll.In s.f1) : Ev (fun k => lysimeterref16_Buckets.f k l w) ((Roll.bucketsS (l.map to41) w).1.map fr52, (Roll.bucketsS (l.map to41) w).2) := by
  have key : ∀ b : Bool, b = decide (w < 1 ∨ 9007199254740992 < w) → Ev (fun k => lysimeterref16_Buckets.j0 k l w b) ((Roll.bucketsS (l.map to41) w).1.map fr52, (Roll.bucketsS (l.map to41) w).2) := by
    intro b hb
    by_cases c : w < 1 ∨ 9007199254740992 < w
    · rw [decide_eq_true c] at hb
      subst hb
      unfold Roll.bucketsS
      rw [if_pos c]
      refine Ev.step (f := fun _ => some ([], 1)) (fun k => ?_) (Ev.now _)
      simp only [lysimeterref16_Buckets.j0]
      rfl
    · rw [decide_eq_false c] at hb
      subst hb
      have hT : lysimeterref16_Times.f l = some (l.map (·.f0)) := by unfold lysimeterref16_Times.f; rw [if_pos hl]
      have e1 : ∀ (d i : Nat), Roll.ris ((l.map (·.f0)).map lysimeterref4_Rising.mk) i d = Roll.ris (l.map to41) i d := by
        have et : ∀ j, Roll.tm ((l.map (·.f0)).map lysimeterref4_Rising.mk) j = Roll.tm (l.map to41) j := by
          intro j
          unfold Roll.tm
          rw [List.map_map, List.getD_eq_getElem?_getD, List.getD_eq_getElem?_getD, List.getElem?_map, List.getElem?_map]
          cases l[j]? <;> rfl
        intro d
        induction d with
        | zero => intro i; rfl
        | succ d ih =>
          intro i
          unfold Roll.ris Roll.okAt
          rw [et, et, ih]
      have hR : lysimeterref4_Rising.f (l.map (·.f0)) = some (Roll.ris (l.map to41) 0 l.length) := by
        unfold lysimeterref4_Rising.f
        rw [if_pos (by rw [List.length_map]; exact hl), e1, List.length_map]
      have eb : Roll.bucketsS (l.map to41) w = if Roll.ris (l.map to41) 0 l.length = true then (Roll.outS (Roll.stepsS w ((l.map to41).map Roll.oneS) ([], none)), 0) else ([], 21) := by
        unfold Roll.bucketsS
        rw [if_neg c, List.length_map]
      rw [eb]
      by_cases c2 : Roll.ris (l.map to41) 0 l.length = true
      · rw [if_pos c2]
        have hloop := loop_ev l w hw hl hin l.length 0 [] (by omega) (Nat.le_refl _) (fun x hx => by cases hx)
        rw [List.drop_zero] at hloop
        have e2 : ((l.map (fun s => Roll.oneS (to41 s))).foldl (Roll.refS w) []) = Roll.outS (Roll.stepsS w ((l.map to41).map Roll.oneS) ([], none)) := by
          have := Roll.ref_steps w ((l.map to41).map Roll.oneS) ([], none) (fun _ => rfl)
          rw [← this, List.map_map]
          rfl
        rw [e2] at hloop
        refine Ev.step (f := fun k => lysimeterref16_Buckets.l0 k l w [] 0) (fun k => ?_) hloop
        simp only [lysimeterref16_Buckets.j0]
        rw [if_neg (by simp), hT, Option.bind_some, hR, Option.bind_some, if_pos c2]
      · rw [if_neg c2]
        refine Ev.step (f := fun _ => some ([], 21)) (fun k => ?_) (Ev.now _)
        simp only [lysimeterref16_Buckets.j0]
        rw [if_neg (by simp), hT, Option.bind_some, hR, Option.bind_some, if_neg c2]
  by_cases c1 : w < 1
  · have := key true (by rw [decide_eq_true]; exact .inl c1)
    refine Ev.congr (fun k => ?_) this
    unfold lysimeterref16_Buckets.f
    rw [if_pos c1]
  · have := key (decide (w > 9007199254740992)) (by rw [Bool.eq_iff_iff, decide_eq_true_eq, decide_eq_true_eq]; omega)
    refine Ev.congr (fun k => ?_) this
    unfold lysimeterref16_Buckets.f
    rw [if_neg c1]
theorem rbuckets_calls (A0 : Option Addr) (c0 : Nat) (l0 : List S41) (a1 : Int) (w : World) (hr0 : Kd.C k41 w A0 l0.length l0) (hc0 : l0.length ≤ c0) (hin : ∀ s ∈ l0, Roll.In s.f0 ∧ Roll.In s.f1) (h1 : Roll.In a1) (hlen : l0.length ≤ 100000) :
    Calls Try.prog 26 #[.slice A0 l0.length c0, .int .i64 a1] w fun e w' => ∃ v, e = .returned (.tuple #[v, .int .i64 (Roll.bucketsS (l0.map to41) a1).2]) ∧ Kd.R k52 52 w' w.heap.size (fun _ => True) v ((Roll.bucketsS (l0.map to41) a1).1.map fr52) ∧ Below w.heap.size w w' := by
  obtain ⟨K, hK⟩ := rbuckets_ev l0 a1 h1 hlen hin
  exact lysimeterref16_Buckets.calls K A0 c0 l0 a1 _ _ w hr0 hc0 (hK K (Nat.le_refl _))
end Go.Proofs.Ytdglifoakdkheaa.Rk
end
section
namespace Go.Proofs.Ytdglifoakdkheaa.Rb
open Go.RowKit Go.Proofs.YtdglifoakdkheaaW.PrintWords Go.Proofs.YtdglifoakdkheaaW.PrintLast Go.Proofs.YtdglifoakdkheaaW.PrintMore
attribute [local go_sem] max2_int min2_int max_two min_two max_three min_three max_four min_four   -- for this text's walks alone
set_option linter.unusedVariables false
set_option linter.unusedSimpArgs false
def errW : Option Int → Value
  | none => .nilIface
  | some c => .iface 0 (.int .i64 c)
theorem errW_none : errW none = .nilIface := rfl
theorem errW_some (c : Int) : errW (some c) = .iface 0 (.int .i64 c) := rfl
theorem info52 : (Try.prog.info? 52).map (fun i => (i.zero, i.size, i.bytes)) = some (some (.agg #[(.int .i64 0), (.int .i64 0), (.int .i64 0), (.int .i64 0), (.int .i64 0), (.int .i64 0)]), 6, 48) := by kernel_rfl
structure S41 where
  f0 : Int
  f1 : Int
def z41 : S41 := ⟨(0 : Int), (0 : Int)⟩
def k41 : Kd S41 := Kd.iso (Kd.pair (Kd.int .i64) (Kd.int .i64)) (fun x : S41 => (x.f0, x.f1))
theorem k41_open {w : World} {x : S41} {cs : List Value} (h : k41.K w x cs) : cs = [.int .i64 x.f0, .int .i64 x.f1] := by
  obtain ⟨_, _, rfl, rfl, rfl⟩ := h
  exact rfl
theorem k41_mk (w : World) (x : S41)  : k41.K w x [.int .i64 x.f0, .int .i64 x.f1] := ⟨[.int .i64 x.f0], [.int .i64 x.f1], rfl, rfl, rfl⟩
theorem k41_mkM (w : World) (base : Nat) (ok : Nat → Prop) (x : S41)  : k41.M w base ok x [.int .i64 x.f0, .int .i64 x.f1] := ⟨[.int .i64 x.f0], [.int .i64 x.f1], rfl, rfl, rfl⟩
def rd_T41 (xs : List S41) (i : Int) : S41 := xs.getD i.toNat z41
theorem at_T41 {w : World} {A : Option Addr} {n : Nat} {xs : List S41} (h : Kd.C k41 w A n xs) (i : Int) (h0 : 0 ≤ i) (h1 : i < n) : ∃ ad , A = some ad ∧ w.cell? (ad.add (i.toNat * 2)) = some (.int .i64 (rd_T41 xs i).f0) ∧ w.cell? ⟨(ad.add (i.toNat * 2)).block, (ad.add (i.toNat * 2)).off + 1, none⟩ = some (.int .i64 (rd_T41 xs i).f1) := by
  obtain ⟨ad, c, e, _, hK, hc0⟩ := Kd.C_get h z41 i h0 h1
  have hc : ∀ j u, c[j]? = some u → w.cell? (ad.add (i.toNat * 2 + j)) = some u := hc0
  obtain rfl := k41_open hK
  exact ⟨ad, e, hc 0 _ rfl, by rw [← add_field _ _ 1 (by omega)]; exact hc 1 _ rfl⟩
structure S52 where
  f0 : Int
  f1 : Int
  f2 : Int
  f3 : Int
  f4 : Int
  f5 : Int
def z52 : S52 := ⟨(0 : Int), (0 : Int), (0 : Int), (0 : Int), (0 : Int), (0 : Int)⟩
def k52 : Kd S52 := Kd.iso (Kd.pair (Kd.int .i64) (Kd.pair (Kd.int .i64) (Kd.pair (Kd.int .i64) (Kd.pair (Kd.int .i64) (Kd.pair (Kd.int .i64) (Kd.int .i64)))))) (fun x : S52 => (x.f0, x.f1, x.f2, x.f3, x.f4, x.f5))
theorem k52_open {w : World} {x : S52} {cs : List Value} (h : k52.K w x cs) : cs = [.int .i64 x.f0, .int .i64 x.f1, .int .i64 x.f2, .int .i64 x.f3, .int .i64 x.f4, .int .i64 x.f5] := by
  obtain ⟨_, _, rfl, rfl, ⟨_, _, rfl, rfl, ⟨_, _, rfl, rfl, ⟨_, _, rfl, rfl, ⟨_, _, rfl, rfl, rfl⟩⟩⟩⟩⟩ := h
  exact rfl
theorem k52_openM {w : World} {base : Nat} {ok : Nat → Prop} {x : S52} {cs : List Value} (h : k52.M w base ok x cs) : cs = [.int .i64 x.f0, .int .i64 x.f1, .int .i64 x.f2, .int .i64 x.f3, .int .i64 x.f4, .int .i64 x.f5] := by
  obtain ⟨_, _, rfl, rfl, ⟨_, _, rfl, rfl, ⟨_, _, rfl, rfl, ⟨_, _, rfl, rfl, ⟨_, _, rfl, rfl, rfl⟩⟩⟩⟩⟩ := h
  exact rfl
theorem k52_mkM (w : World) (base : Nat) (ok : Nat → Prop) (x : S52)  : k52.M w base ok x [.int .i64 x.f0, .int .i64 x.f1, .int .i64 x.f2, .int .i64 x.f3, .int .i64 x.f4, .int .i64 x.f5] := ⟨[.int .i64 x.f0], [.int .i64 x.f1, .int .i64 x.f2, .int .i64 x.f3, .int .i64 x.f4, .int .i64 x.f5], rfl, rfl, ⟨[.int .i64 x.f1], [.int .i64 x.f2, .int .i64 x.f3, .int .i64 x.f4, .int .i64 x.f5], rfl, rfl, ⟨[.int .i64 x.f2], [.int .i64 x.f3, .int .i64 x.f4, .int .i64 x.f5], rfl, rfl, ⟨[.int .i64 x.f3], [.int .i64 x.f4, .int .i64 x.f5], rfl, rfl, ⟨[.int .i64 x.f4], [.int .i64 x.f5], rfl, rfl, rfl⟩⟩⟩⟩⟩
def rd_T52 (xs : List S52) (i : Int) : S52 := xs.getD i.toNat z52
theorem at_T52 {w : World} {A : Option Addr} {n : Nat} {xs : List S52} (h : Kd.C k52 w A n xs) (i : Int) (h0 : 0 ≤ i) (h1 : i < n) : ∃ ad , A = some ad ∧ w.cell? (ad.add (i.toNat * 6)) = some (.int .i64 (rd_T52 xs i).f0) ∧ w.cell? ⟨(ad.add (i.toNat * 6)).block, (ad.add (i.toNat * 6)).off + 1, none⟩ = some (.int .i64 (rd_T52 xs i).f1) ∧ w.cell? ⟨(ad.add (i.toNat * 6)).block, (ad.add (i.toNat * 6)).off + 2, none⟩ = some (.int .i64 (rd_T52 xs i).f2) ∧ w.cell? ⟨(ad.add (i.toNat * 6)).block, (ad.add (i.toNat * 6)).off + 3, none⟩ = some (.int .i64 (rd_T52 xs i).f3) ∧ w.cell? ⟨(ad.add (i.toNat * 6)).block, (ad.add (i.toNat * 6)).off + 4, none⟩ = some (.int .i64 (rd_T52 xs i).f4) ∧ w.cell? ⟨(ad.add (i.toNat * 6)).block, (ad.add (i.toNat * 6)).off + 5, none⟩ = some (.int .i64 (rd_T52 xs i).f5) := by
  obtain ⟨ad, c, e, _, hK, hc0⟩ := Kd.C_get h z52 i h0 h1
  have hc : ∀ j u, c[j]? = some u → w.cell? (ad.add (i.toNat * 6 + j)) = some u := hc0
  obtain rfl := k52_open hK
  exact ⟨ad, e, hc 0 _ rfl, by rw [← add_field _ _ 1 (by omega)]; exact hc 1 _ rfl, by rw [← add_field _ _ 2 (by omega)]; exact hc 2 _ rfl, by rw [← add_field _ _ 3 (by omega)]; exact hc 3 _ rfl, by rw [← add_field _ _ 4 (by omega)]; exact hc 4 _ rfl, by rw [← add_field _ _ 5 (by omega)]; exact hc 5 _ rfl⟩
end Go.Proofs.Ytdglifoakdkheaa.Rb
end
section
namespace Go.Proofs.Ytdglifoakdkheaa.Rb
open Go.RowKit Go.Proofs.YtdglifoakdkheaaW.PrintWords Go.Proofs.YtdglifoakdkheaaW.PrintLast Go.Proofs.YtdglifoakdkheaaW.PrintMore
attribute [local go_sem] max2_int min2_int max_two min_two max_three min_three max_four min_four   -- for this text's walks alone
set_option linter.unusedVariables false
set_option linter.unusedSimpArgs false
theorem eqA52 (d : Nat) (w : World) (x0 y0 : Int) (x1 y1 : Int) (x2 y2 : Int) (x3 y3 : Int) (x4 y4 : Int) (x5 y5 : Int) :
    (Op.equalIn (d + 2) 52 (.agg #[.int .i64 x0, .int .i64 x1, .int .i64 x2, .int .i64 x3, .int .i64 x4, .int .i64 x5]) (.agg #[.int .i64 y0, .int .i64 y1, .int .i64 y2, .int .i64 y3, .int .i64 y4, .int .i64 y5])).run Try.prog w = .ok (x0 == y0 && (x1 == y1 && (x2 == y2 && (x3 == y3 && (x4 == y4 && (x5 == y5)))))) w := by
  refine eqA_of Try.underlying52 (by kernel_rfl) ?_
  refine eqf_cons (by rfl) (by go_simp; rfl) (by go_simp; rfl) (by go_simp) ?_
  refine eqf_cons (by rfl) (by go_simp; rfl) (by go_simp; rfl) (by go_simp) ?_
  refine eqf_cons (by rfl) (by go_simp; rfl) (by go_simp; rfl) (by go_simp) ?_
  refine eqf_cons (by rfl) (by go_simp; rfl) (by go_simp; rfl) (by go_simp) ?_
  refine eqf_cons (by rfl) (by go_simp; rfl) (by go_simp; rfl) (by go_simp) ?_
  exact eqf_last (by rfl) (by go_simp; rfl) (by go_simp; rfl) (by go_simp)
end Go.Proofs.Ytdglifoakdkheaa.Rb
end
section
namespace Go.Proofs.Ytdglifoakdkheaa.Rb
open Go.RowKit Go.Proofs.YtdglifoakdkheaaW.PrintWords Go.Proofs.YtdglifoakdkheaaW.PrintLast Go.Proofs.YtdglifoakdkheaaW.PrintMore
attribute [local go_sem] max2_int min2_int max_two min_two max_three min_three max_four min_four   -- for this text's walks alone
set_option linter.unusedVariables false
set_option linter.unusedSimpArgs false
attribute [local go_sem high] eqA52
def rollup_Buckets.to (x : S41) : Roll.S41 := ⟨x.f0, x.f1⟩
def rollup_Buckets.fr (x : Roll.S52) : S52 := ⟨x.f0, x.f1, x.f2, x.f3, x.f4, x.f5⟩
def rollup_Buckets.f (l0 : List S41) (a1 : Int) : Option (List S52 × Int) := if Roll.inB l0.length (l0.map rollup_Buckets.to) a1 then some ((Roll.bucketsS (l0.map rollup_Buckets.to) a1).1.map rollup_Buckets.fr, (Roll.bucketsS (l0.map rollup_Buckets.to) a1).2) else none
theorem rollup_Buckets.calls (A0 : Option Addr) (c0 : Nat) (l0 : List (S41)) (a1 : Int) (r1 : List S52) (r2 : Int) (w : World) (hr0 : Kd.C k41 w A0 l0.length l0) (hc0 : l0.length ≤ c0) (h : rollup_Buckets.f l0 a1 = some (r1, r2)) :
    Calls Try.prog 25 #[.slice A0 l0.length c0, .int .i64 a1] w fun e w' => ∃ v0_ : Value, e = .returned (.tuple #[v0_, .int .i64 r2]) ∧ Kd.R k52 52 w' w.heap.size (fun _ => True) v0_ r1 ∧ Below w.heap.size w w' := by
  unfold rollup_Buckets.f at h
  by_cases c : Roll.inB l0.length (l0.map rollup_Buckets.to) a1 = true
  · rw [if_pos c] at h
    obtain ⟨rfl, rfl⟩ := Prod.mk.inj (Option.some.inj h)
    obtain ⟨k1, k2, k3⟩ := Roll.inB_iff.1 c
    have hC : Kd.C Roll.k41 w A0 (l0.map rollup_Buckets.to).length (l0.map rollup_Buckets.to) := by
      rw [List.length_map]
      exact C_map (f' := fun x : Roll.S41 => (x.f0, x.f1)) (g := rollup_Buckets.to) (fun x => rfl) hr0
    have K := Roll.buckets_calls A0 c0 (l0.map rollup_Buckets.to) a1 w hC (by rw [List.length_map]; exact hc0) k2 k3 (by rw [List.length_map]; exact k1)
    rw [List.length_map] at K
    refine K.mono ?_
    rintro e w' ⟨v, rfl, hR, hB⟩
    exact ⟨v, rfl, R_map (f' := fun x : S52 => (x.f0, x.f1, x.f2, x.f3, x.f4, x.f5)) (g := rollup_Buckets.fr) (fun x => rfl) hR, hB⟩
  · rw [if_neg c] at h; cases h
def lysimeterlaw19_num.f (a0 : Int) : Option (Int) := some a0
set_option maxHeartbeats 8000000 in
set_option maxRecDepth 100000 in
theorem lysimeterlaw19_num.calls (a0 : Int) (r : Int) (w : World) (h : lysimeterlaw19_num.f a0 = some r) :
    Calls Try.prog 27 #[.int .i64 a0] w fun e w' => e = .returned (.int .i64 r) ∧ Drawn0 w w' := by
  have H : (some a0) = some r := h
  clear h
  obtain rfl := Option.some.inj H
  go_enter Try.func27, Try.ntmps27
  go_wp2
  go_ret
  exact ⟨by first | rfl | (simp; done) | (simp [*]; done), by repeat (first | exact Drawn0.refl _ | apply Drawn0.step)⟩
def lysimeterlaw19_alive.f  : Option (Bool) := (rollup_Buckets.f (([(⟨1, 5⟩ : S41), (⟨2, 3⟩ : S41), (⟨11, 1⟩ : S41)] : List (S41))) 10).bind fun bt104 => ((lysimeterlaw19_num.f bt104.2).bind fun t108 => (if t108 = 0 then (if (bt104.1.length : Int) = 2 then (if 0 < (bt104.1.length : Int) then (if (((rd_T52 bt104.1 0).f0) == 0 && (((rd_T52 bt104.1 0).f1) == 2 && (((rd_T52 bt104.1 0).f2) == 8 && (((rd_T52 bt104.1 0).f3) == 3 && (((rd_T52 bt104.1 0).f4) == 5 && (((rd_T52 bt104.1 0).f5) == 3)))))) = true then (if 1 < (bt104.1.length : Int) then (some (((rd_T52 bt104.1 1).f0) == 10 && (((rd_T52 bt104.1 1).f1) == 1 && (((rd_T52 bt104.1 1).f2) == 1 && (((rd_T52 bt104.1 1).f3) == 1 && (((rd_T52 bt104.1 1).f4) == 1 && (((rd_T52 bt104.1 1).f5) == 1))))))) else (none)) else (some false)) else (none)) else (some false)) else (some false)))
set_option maxHeartbeats 8000000 in
set_option maxRecDepth 100000 in
theorem lysimeterlaw19_alive.calls  (r : Bool) (w : World) (h : lysimeterlaw19_alive.f  = some r) :
    Calls Try.prog 24 #[] w fun e w' => e = .returned (.bool r) ∧ Below w.heap.size w w' := by
  have hu41 := Try.underlying41
  have hu52 := Try.underlying52
  have HB := Aside0.mk (Below.refl w.heap.size w)
  have H : ((rollup_Buckets.f (([(⟨1, 5⟩ : S41), (⟨2, 3⟩ : S41), (⟨11, 1⟩ : S41)] : List (S41))) 10).bind fun bt104 => ((lysimeterlaw19_num.f bt104.2).bind fun t108 => (if t108 = 0 then (if (bt104.1.length : Int) = 2 then (if 0 < (bt104.1.length : Int) then (if (((rd_T52 bt104.1 0).f0) == 0 && (((rd_T52 bt104.1 0).f1) == 2 && (((rd_T52 bt104.1 0).f2) == 8 && (((rd_T52 bt104.1 0).f3) == 3 && (((rd_T52 bt104.1 0).f4) == 5 && (((rd_T52 bt104.1 0).f5) == 3)))))) = true then (if 1 < (bt104.1.length : Int) then (some (((rd_T52 bt104.1 1).f0) == 10 && (((rd_T52 bt104.1 1).f1) == 1 && (((rd_T52 bt104.1 1).f2) == 1 && (((rd_T52 bt104.1 1).f3) == 1 && (((rd_T52 bt104.1 1).f4) == 1 && (((rd_T52 bt104.1 1).f5) == 1))))))) else (none)) else (some false)) else (none)) else (some false)) else (some false)))) = some r := h
  clear h
  obtain ⟨y101, hy101⟩ : ∃ y_ : List (S41), y_ = (([(⟨1, 5⟩ : S41), (⟨2, 3⟩ : S41), (⟨11, 1⟩ : S41)] : List (S41))) := ⟨_, rfl⟩
  replace H : ((rollup_Buckets.f y101 10).bind fun bt104 => ((lysimeterlaw19_num.f bt104.2).bind fun t108 => (if t108 = 0 then (if (bt104.1.length : Int) = 2 then (if 0 < (bt104.1.length : Int) then (if (((rd_T52 bt104.1 0).f0) == 0 && (((rd_T52 bt104.1 0).f1) == 2 && (((rd_T52 bt104.1 0).f2) == 8 && (((rd_T52 bt104.1 0).f3) == 3 && (((rd_T52 bt104.1 0).f4) == 5 && (((rd_T52 bt104.1 0).f5) == 3)))))) = true then (if 1 < (bt104.1.length : Int) then (some (((rd_T52 bt104.1 1).f0) == 10 && (((rd_T52 bt104.1 1).f1) == 1 && (((rd_T52 bt104.1 1).f2) == 1 && (((rd_T52 bt104.1 1).f3) == 1 && (((rd_T52 bt104.1 1).f4) == 1 && (((rd_T52 bt104.1 1).f5) == 1))))))) else (none)) else (some false)) else (none)) else (some false)) else (some false)))) = some r := by first | (rw [hy101]; with_reducible exact H) | (have H2_ := (Option.bind_some _ _).symm.trans H; rw [hy101]; with_reducible exact H2_) | (have H2_ := (Option.bind_some _ _).symm.trans H; with_reducible exact H2_) | with_reducible exact H | (rw [hy101]; exact H) | exact H
  have Ny101 := Aside0.mk hy101
  clear hy101
  replace H := Option.bind_eq_some_iff.mp H
  obtain ⟨⟨t104, t105⟩, A10, H⟩ := H
  replace H : ((lysimeterlaw19_num.f t105).bind fun t108 => (if t108 = 0 then (if (t104.length : Int) = 2 then (if 0 < (t104.length : Int) then (if (((rd_T52 t104 0).f0) == 0 && (((rd_T52 t104 0).f1) == 2 && (((rd_T52 t104 0).f2) == 8 && (((rd_T52 t104 0).f3) == 3 && (((rd_T52 t104 0).f4) == 5 && (((rd_T52 t104 0).f5) == 3)))))) = true then (if 1 < (t104.length : Int) then (some (((rd_T52 t104 1).f0) == 10 && (((rd_T52 t104 1).f1) == 1 && (((rd_T52 t104 1).f2) == 1 && (((rd_T52 t104 1).f3) == 1 && (((rd_T52 t104 1).f4) == 1 && (((rd_T52 t104 1).f5) == 1))))))) else (none)) else (some false)) else (none)) else (some false)) else (some false))) = some r := H
  have A1 := Aside0.mk A10
  clear A10
  replace H := Option.bind_eq_some_iff.mp H
  obtain ⟨t108, A20, H⟩ := H
  replace H : (if t108 = 0 then (if (t104.length : Int) = 2 then (if 0 < (t104.length : Int) then (if (((rd_T52 t104 0).f0) == 0 && (((rd_T52 t104 0).f1) == 2 && (((rd_T52 t104 0).f2) == 8 && (((rd_T52 t104 0).f3) == 3 && (((rd_T52 t104 0).f4) == 5 && (((rd_T52 t104 0).f5) == 3)))))) = true then (if 1 < (t104.length : Int) then (some (((rd_T52 t104 1).f0) == 10 && (((rd_T52 t104 1).f1) == 1 && (((rd_T52 t104 1).f2) == 1 && (((rd_T52 t104 1).f3) == 1 && (((rd_T52 t104 1).f4) == 1 && (((rd_T52 t104 1).f5) == 1))))))) else (none)) else (some false)) else (none)) else (some false)) else (some false)) = some r := H
  have A2 := Aside0.mk A20
  clear A20
  by_cases c3 : t108 = 0
  · rw [if_pos c3] at H
    have c3b0 : (t108 == 0) = true := beq_iff_eq.mpr c3
    have c3b1 : (t108 != 0) = false := bne_eq_false_iff_eq.mpr c3
    clear c3
    by_cases c4 : (t104.length : Int) = 2
    · rw [if_pos c4] at H
      have c4b0 : ((t104.length : Int) == 2) = true := beq_iff_eq.mpr c4
      have c4b1 : ((t104.length : Int) != 2) = false := bne_eq_false_iff_eq.mpr c4
      clear c4
      by_cases c5 : 0 < (t104.length : Int)
      · rw [if_pos c5] at H
        have c5b0 : decide (0 < (t104.length : Int)) = true := decide_eq_true c5
        have c5b1 : decide (0 < t104.length) = true := decide_eq_true (by omega)
        clear c5
        by_cases c6 : (((rd_T52 t104 0).f0) == 0 && (((rd_T52 t104 0).f1) == 2 && (((rd_T52 t104 0).f2) == 8 && (((rd_T52 t104 0).f3) == 3 && (((rd_T52 t104 0).f4) == 5 && (((rd_T52 t104 0).f5) == 3)))))) = true
        · rw [if_pos c6] at H
          have c6b0 : (((rd_T52 t104 0).f0) == 0 && (((rd_T52 t104 0).f1) == 2 && (((rd_T52 t104 0).f2) == 8 && (((rd_T52 t104 0).f3) == 3 && (((rd_T52 t104 0).f4) == 5 && (((rd_T52 t104 0).f5) == 3)))))) = true := c6
          (try (have c6b1 : decide (((rd_T52 t104 0).f0) = 0 && (((rd_T52 t104 0).f1) == 2 && (((rd_T52 t104 0).f2) == 8 && (((rd_T52 t104 0).f3) == 3 && (((rd_T52 t104 0).f4) == 5 && (((rd_T52 t104 0).f5) == 3)))))) = true := by simpa using c6))
          (try (have c6b2 : (((rd_T52 t104 0).f0) == 0 && (((rd_T52 t104 0).f1) == 2 && (((rd_T52 t104 0).f2) == 8 && (((rd_T52 t104 0).f3) == 3 && (((rd_T52 t104 0).f4) == 5 && (((rd_T52 t104 0).f5) == 3)))))) = true := by simpa using c6))
          clear c6
          by_cases c7 : 1 < (t104.length : Int)
          · rw [if_pos c7] at H
            have c7b0 : decide (1 < (t104.length : Int)) = true := decide_eq_true c7
            have c7b1 : decide (1 < t104.length) = true := decide_eq_true (by omega)
            clear c7
            obtain rfl := Option.some.inj H
            go_enter Try.func24, Try.ntmps24
            go_wp2_with (first | ((with_reducible refine gate_dst (N := 7) rfl ?_); (try (refine gate_guard (by rfl) ?_; dsimp only)); refine Kd.R_lit k41 _ 41 ?hg (N := 7) ?hd (xs := ([(⟨1, 5⟩ : S41), (⟨2, 3⟩ : S41), (⟨11, 1⟩ : S41)] : List (S41))) (inner := [.int .i64 1, .int .i64 5, .int .i64 2, .int .i64 3, .int .i64 11, .int .i64 1]) (ok := fun _ => True) (okp := fun _ => True) ?hr ?hp (fun _ hk => hk) trivial (Below.refl _ _) (Nat.le_refl _) (by simp) ?_; (case hd => rfl); (case hg => rfl); (case hr => first | (go_simp; done) | (go_simp; rfl)); (case hp => exact (Reps.c2 (show Kd.M k41 _ _ _ (⟨1, 5⟩ : S41) [.int .i64 1, .int .i64 5] from (k41_mkM _ _ _ (⟨1, 5⟩ : S41) )) (Reps.c2 (show Kd.M k41 _ _ _ (⟨2, 3⟩ : S41) [.int .i64 2, .int .i64 3] from (k41_mkM _ _ _ (⟨2, 3⟩ : S41) )) (Reps.c2 (show Kd.M k41 _ _ _ (⟨11, 1⟩ : S41) [.int .i64 11, .int .i64 1] from (k41_mkM _ _ _ (⟨11, 1⟩ : S41) )) (Reps.none _ _))))); intro v102 w8 ho9 hb hg_ hnew_; clear hg_ hnew_; (first | rw [← Ny101.out] at ho9 | (simp only [Int.reduceToNat] at ho9; rw [← Ny101.out] at ho9)); have n0_ := Aside0.mk (Kd.R_lower ho9 (below_size (by repeat (first | (with_reducible first | exact HB.out | apply below_alloc | apply pw_below_drewN | apply below_drew1) | exact HB.out)))); have n1_ := Aside0.mk (below_step (by repeat (first | (with_reducible first | exact HB.out | apply below_alloc | apply pw_below_drewN | apply below_drew1) | exact HB.out)) hb); clear HB; have HO103 := n0_; have HB := n1_; clear n0_ n1_; clear hb ho9; obtain ⟨Ao10, co10, eo10⟩ := Kd.R_slice HO103.out; subst eo10) | ((with_reducible refine gate_callee (f := 25) rfl ?_); refine goesL_ (some 8) rfl rfl Try.func25 (by kernel_rfl) rfl #[.slice Ao10 y101.length co10, .int .i64 10] rfl (by (try simp only [List.map_toArray, List.map_cons, List.map_nil]); first | done | rfl | (simp only [List.length_drop, List.length_take]; rfl)) ?_; (with_reducible refine (rollup_Buckets.calls _ _ y101 10 t104 t105 _ ?side1 ?side2 A1.out).mono ?_); (case side1 => repeat (first | exact (Kd.R_reads' HO103.out).2.2 | (with_reducible refine Kd.C_alloc ?_ _) | (with_reducible refine Kd.C_drewN ?_ _) | (with_reducible refine Kd.C_drew ?_))); (case side2 => exact (Kd.R_reads' HO103.out).2.1); rintro e w11 ⟨v106, rfl, ho0, hb⟩; refine ⟨_, rfl, ?_⟩; have n0_ := Aside0.mk (Kd.R_below (by (with_reducible repeat (first | apply Kd.R_alloc | apply Kd.R_drewN | apply Kd.R_drew)); exact HO103.out) hb); have n1_ := Aside0.mk (Kd.R_lower ho0 (below_size (by repeat (first | (with_reducible first | exact HB.out | apply below_alloc | apply pw_below_drewN | apply below_drew1) | exact HB.out)))); have n2_ := Aside0.mk (below_step (by repeat (first | (with_reducible first | exact HB.out | apply below_alloc | apply pw_below_drewN | apply below_drew1) | exact HB.out)) hb); clear HO103; clear HB; have HO103 := n0_; have HO107 := n1_; have HB := n2_; clear n0_ n1_ n2_; (try clear hb); (try clear hb2); (try clear hk); (try clear hi); (try clear ho0)) | ((with_reducible refine gate_callee (f := 27) rfl ?_); refine goesL_ (some 12) rfl rfl Try.func27 (by kernel_rfl) rfl #[.int .i64 t105] rfl (by (try simp only [List.map_toArray, List.map_cons, List.map_nil]); first | done | rfl | (simp only [List.length_drop, List.length_take]; rfl)) ?_; (with_reducible refine (lysimeterlaw19_num.calls t105 t108 _ A2.out).mono ?_); rintro e w' ⟨rfl, ⟨nd, rfl⟩⟩; refine ⟨_, rfl, ?_⟩; obtain ⟨Ao12, co12, eo12⟩ := Kd.R_slice HO107.out; subst eo12; have p109 : 0 ≤ (0 : Int) := (by omega); have q109 : 0 < (t104.length : Int) := of_decide_eq_true (by first | (with_reducible assumption) | assumption); obtain ⟨ad109, e109, hx109_0, hx109_1, hx109_2, hx109_3, hx109_4, hx109_5⟩ := at_T52 (Kd.R_reads' HO107.out).2.2 0 p109 q109; cases e109; have qi109 : (0 < t104.length) = True := eq_true (by omega); (try rw [show ((0 : Int)).toNat = 0 from rfl] at hx109_0); (try rw [show 0 * 6 = 0 from rfl] at hx109_0); (try rw [Addr.add_zero'] at hx109_0); (try rw [show ((0 : Int)).toNat = 0 from rfl] at hx109_1); (try rw [show 0 * 6 = 0 from rfl] at hx109_1); (try rw [Addr.add_zero'] at hx109_1); (try rw [show ((0 : Int)).toNat = 0 from rfl] at hx109_2); (try rw [show 0 * 6 = 0 from rfl] at hx109_2); (try rw [Addr.add_zero'] at hx109_2); (try rw [show ((0 : Int)).toNat = 0 from rfl] at hx109_3); (try rw [show 0 * 6 = 0 from rfl] at hx109_3); (try rw [Addr.add_zero'] at hx109_3); (try rw [show ((0 : Int)).toNat = 0 from rfl] at hx109_4); (try rw [show 0 * 6 = 0 from rfl] at hx109_4); (try rw [Addr.add_zero'] at hx109_4); (try rw [show ((0 : Int)).toNat = 0 from rfl] at hx109_5); (try rw [show 0 * 6 = 0 from rfl] at hx109_5); (try rw [Addr.add_zero'] at hx109_5); replace p109 := eq_true p109; replace q109 := eq_true q109; have p110 : 0 ≤ (1 : Int) := (by omega); have q110 : 1 < (t104.length : Int) := of_decide_eq_true (by first | (with_reducible assumption) | assumption); obtain ⟨ad110, e110, hx110_0, hx110_1, hx110_2, hx110_3, hx110_4, hx110_5⟩ := at_T52 (Kd.R_reads' HO107.out).2.2 1 p110 q110; obtain rfl : ad109 = ad110 := (by injection e110); (try simp only [show (1 : Int).toNat = 1 from rfl, Nat.reduceMul, Nat.reduceEqDiff, Go.Addr.add, ↓reduceIte] at hx110_0); (try simp only [show (1 : Int).toNat = 1 from rfl, Nat.reduceMul, Nat.reduceEqDiff, Go.Addr.add, ↓reduceIte] at hx110_1); (try simp only [show (1 : Int).toNat = 1 from rfl, Nat.reduceMul, Nat.reduceEqDiff, Go.Addr.add, ↓reduceIte] at hx110_2); (try simp only [show (1 : Int).toNat = 1 from rfl, Nat.reduceMul, Nat.reduceEqDiff, Go.Addr.add, ↓reduceIte] at hx110_3); (try simp only [show (1 : Int).toNat = 1 from rfl, Nat.reduceMul, Nat.reduceEqDiff, Go.Addr.add, ↓reduceIte] at hx110_4); (try simp only [show (1 : Int).toNat = 1 from rfl, Nat.reduceMul, Nat.reduceEqDiff, Go.Addr.add, ↓reduceIte] at hx110_5); have qi110 : (1 < t104.length) = True := eq_true (by omega); (try rw [show ((1 : Int)).toNat = 1 from rfl] at hx110_0); (try rw [show 1 * 6 = 6 from rfl] at hx110_0); (try rw [show ((1 : Int)).toNat = 1 from rfl] at hx110_1); (try rw [show 1 * 6 = 6 from rfl] at hx110_1); (try rw [show ((1 : Int)).toNat = 1 from rfl] at hx110_2); (try rw [show 1 * 6 = 6 from rfl] at hx110_2); (try rw [show ((1 : Int)).toNat = 1 from rfl] at hx110_3); (try rw [show 1 * 6 = 6 from rfl] at hx110_3); (try rw [show ((1 : Int)).toNat = 1 from rfl] at hx110_4); (try rw [show 1 * 6 = 6 from rfl] at hx110_4); (try rw [show ((1 : Int)).toNat = 1 from rfl] at hx110_5); (try rw [show 1 * 6 = 6 from rfl] at hx110_5); replace p110 := eq_true p110; replace q110 := eq_true q110))
            go_ret
            exact ⟨by first | rfl | (simp [errW_none, errW_some] <;> rfl) | (simp [*, errW_none, errW_some] <;> rfl), by repeat (first | (with_reducible first | exact HB.out | apply below_alloc | apply pw_below_drewN | apply below_drew1) | exact HB.out)⟩
          · rw [if_neg c7] at H
            exact absurd H (by simp)
        · rw [if_neg c6] at H
          have c6b0 : (((rd_T52 t104 0).f0) == 0 && (((rd_T52 t104 0).f1) == 2 && (((rd_T52 t104 0).f2) == 8 && (((rd_T52 t104 0).f3) == 3 && (((rd_T52 t104 0).f4) == 5 && (((rd_T52 t104 0).f5) == 3)))))) = false := by simpa using c6
          (try (have c6b1 : decide (((rd_T52 t104 0).f0) = 0 && (((rd_T52 t104 0).f1) == 2 && (((rd_T52 t104 0).f2) == 8 && (((rd_T52 t104 0).f3) == 3 && (((rd_T52 t104 0).f4) == 5 && (((rd_T52 t104 0).f5) == 3)))))) = false := by simpa using c6))
          (try (have c6b2 : (((rd_T52 t104 0).f0) == 0 && (((rd_T52 t104 0).f1) == 2 && (((rd_T52 t104 0).f2) == 8 && (((rd_T52 t104 0).f3) == 3 && (((rd_T52 t104 0).f4) == 5 && (((rd_T52 t104 0).f5) == 3)))))) = false := by simpa using c6))
          (try (have c6b3 : ¬ (((rd_T52 t104 0).f0) = 0 && (((rd_T52 t104 0).f1) == 2 && (((rd_T52 t104 0).f2) == 8 && (((rd_T52 t104 0).f3) == 3 && (((rd_T52 t104 0).f4) == 5 && (((rd_T52 t104 0).f5) == 3)))))) := by simpa using c6))
          clear c6
          obtain rfl := Option.some.inj H
          go_enter Try.func24, Try.ntmps24
          go_wp2_with (first | ((with_reducible refine gate_dst (N := 7) rfl ?_); (try (refine gate_guard (by rfl) ?_; dsimp only)); refine Kd.R_lit k41 _ 41 ?hg (N := 7) ?hd (xs := ([(⟨1, 5⟩ : S41), (⟨2, 3⟩ : S41), (⟨11, 1⟩ : S41)] : List (S41))) (inner := [.int .i64 1, .int .i64 5, .int .i64 2, .int .i64 3, .int .i64 11, .int .i64 1]) (ok := fun _ => True) (okp := fun _ => True) ?hr ?hp (fun _ hk => hk) trivial (Below.refl _ _) (Nat.le_refl _) (by simp) ?_; (case hd => rfl); (case hg => rfl); (case hr => first | (go_simp; done) | (go_simp; rfl)); (case hp => exact (Reps.c2 (show Kd.M k41 _ _ _ (⟨1, 5⟩ : S41) [.int .i64 1, .int .i64 5] from (k41_mkM _ _ _ (⟨1, 5⟩ : S41) )) (Reps.c2 (show Kd.M k41 _ _ _ (⟨2, 3⟩ : S41) [.int .i64 2, .int .i64 3] from (k41_mkM _ _ _ (⟨2, 3⟩ : S41) )) (Reps.c2 (show Kd.M k41 _ _ _ (⟨11, 1⟩ : S41) [.int .i64 11, .int .i64 1] from (k41_mkM _ _ _ (⟨11, 1⟩ : S41) )) (Reps.none _ _))))); intro v102 w13 ho14 hb hg_ hnew_; clear hg_ hnew_; (first | rw [← Ny101.out] at ho14 | (simp only [Int.reduceToNat] at ho14; rw [← Ny101.out] at ho14)); have n0_ := Aside0.mk (Kd.R_lower ho14 (below_size (by repeat (first | (with_reducible first | exact HB.out | apply below_alloc | apply pw_below_drewN | apply below_drew1) | exact HB.out)))); have n1_ := Aside0.mk (below_step (by repeat (first | (with_reducible first | exact HB.out | apply below_alloc | apply pw_below_drewN | apply below_drew1) | exact HB.out)) hb); clear HB; have HO103 := n0_; have HB := n1_; clear n0_ n1_; clear hb ho14; obtain ⟨Ao15, co15, eo15⟩ := Kd.R_slice HO103.out; subst eo15) | ((with_reducible refine gate_callee (f := 25) rfl ?_); refine goesL_ (some 8) rfl rfl Try.func25 (by kernel_rfl) rfl #[.slice Ao15 y101.length co15, .int .i64 10] rfl (by (try simp only [List.map_toArray, List.map_cons, List.map_nil]); first | done | rfl | (simp only [List.length_drop, List.length_take]; rfl)) ?_; (with_reducible refine (rollup_Buckets.calls _ _ y101 10 t104 t105 _ ?side1 ?side2 A1.out).mono ?_); (case side1 => repeat (first | exact (Kd.R_reads' HO103.out).2.2 | (with_reducible refine Kd.C_alloc ?_ _) | (with_reducible refine Kd.C_drewN ?_ _) | (with_reducible refine Kd.C_drew ?_))); (case side2 => exact (Kd.R_reads' HO103.out).2.1); rintro e w16 ⟨v106, rfl, ho0, hb⟩; refine ⟨_, rfl, ?_⟩; have n0_ := Aside0.mk (Kd.R_below (by (with_reducible repeat (first | apply Kd.R_alloc | apply Kd.R_drewN | apply Kd.R_drew)); exact HO103.out) hb); have n1_ := Aside0.mk (Kd.R_lower ho0 (below_size (by repeat (first | (with_reducible first | exact HB.out | apply below_alloc | apply pw_below_drewN | apply below_drew1) | exact HB.out)))); have n2_ := Aside0.mk (below_step (by repeat (first | (with_reducible first | exact HB.out | apply below_alloc | apply pw_below_drewN | apply below_drew1) | exact HB.out)) hb); clear HO103; clear HB; have HO103 := n0_; have HO107 := n1_; have HB := n2_; clear n0_ n1_ n2_; (try clear hb); (try clear hb2); (try clear hk); (try clear hi); (try clear ho0)) | ((with_reducible refine gate_callee (f := 27) rfl ?_); refine goesL_ (some 12) rfl rfl Try.func27 (by kernel_rfl) rfl #[.int .i64 t105] rfl (by (try simp only [List.map_toArray, List.map_cons, List.map_nil]); first | done | rfl | (simp only [List.length_drop, List.length_take]; rfl)) ?_; (with_reducible refine (lysimeterlaw19_num.calls t105 t108 _ A2.out).mono ?_); rintro e w' ⟨rfl, ⟨nd, rfl⟩⟩; refine ⟨_, rfl, ?_⟩; obtain ⟨Ao17, co17, eo17⟩ := Kd.R_slice HO107.out; subst eo17; have p109 : 0 ≤ (0 : Int) := (by omega); have q109 : 0 < (t104.length : Int) := of_decide_eq_true (by first | (with_reducible assumption) | assumption); obtain ⟨ad109, e109, hx109_0, hx109_1, hx109_2, hx109_3, hx109_4, hx109_5⟩ := at_T52 (Kd.R_reads' HO107.out).2.2 0 p109 q109; cases e109; have qi109 : (0 < t104.length) = True := eq_true (by omega); (try rw [show ((0 : Int)).toNat = 0 from rfl] at hx109_0); (try rw [show 0 * 6 = 0 from rfl] at hx109_0); (try rw [Addr.add_zero'] at hx109_0); (try rw [show ((0 : Int)).toNat = 0 from rfl] at hx109_1); (try rw [show 0 * 6 = 0 from rfl] at hx109_1); (try rw [Addr.add_zero'] at hx109_1); (try rw [show ((0 : Int)).toNat = 0 from rfl] at hx109_2); (try rw [show 0 * 6 = 0 from rfl] at hx109_2); (try rw [Addr.add_zero'] at hx109_2); (try rw [show ((0 : Int)).toNat = 0 from rfl] at hx109_3); (try rw [show 0 * 6 = 0 from rfl] at hx109_3); (try rw [Addr.add_zero'] at hx109_3); (try rw [show ((0 : Int)).toNat = 0 from rfl] at hx109_4); (try rw [show 0 * 6 = 0 from rfl] at hx109_4); (try rw [Addr.add_zero'] at hx109_4); (try rw [show ((0 : Int)).toNat = 0 from rfl] at hx109_5); (try rw [show 0 * 6 = 0 from rfl] at hx109_5); (try rw [Addr.add_zero'] at hx109_5); replace p109 := eq_true p109; replace q109 := eq_true q109))
          go_ret
          exact ⟨by first | rfl | (simp [errW_none, errW_some] <;> rfl) | (simp [*, errW_none, errW_some] <;> rfl), by repeat (first | (with_reducible first | exact HB.out | apply below_alloc | apply pw_below_drewN | apply below_drew1) | exact HB.out)⟩
      · rw [if_neg c5] at H
        exact absurd H (by simp)
    · rw [if_neg c4] at H
      have c4b0 : ((t104.length : Int) == 2) = false := beq_eq_false_iff_ne.mpr c4
      have c4b1 : ((t104.length : Int) != 2) = true := bne_iff_ne.mpr c4
      obtain rfl := Option.some.inj H
      go_enter Try.func24, Try.ntmps24
      go_wp2_with (first | ((with_reducible refine gate_dst (N := 7) rfl ?_); (try (refine gate_guard (by rfl) ?_; dsimp only)); refine Kd.R_lit k41 _ 41 ?hg (N := 7) ?hd (xs := ([(⟨1, 5⟩ : S41), (⟨2, 3⟩ : S41), (⟨11, 1⟩ : S41)] : List (S41))) (inner := [.int .i64 1, .int .i64 5, .int .i64 2, .int .i64 3, .int .i64 11, .int .i64 1]) (ok := fun _ => True) (okp := fun _ => True) ?hr ?hp (fun _ hk => hk) trivial (Below.refl _ _) (Nat.le_refl _) (by simp) ?_; (case hd => rfl); (case hg => rfl); (case hr => first | (go_simp; done) | (go_simp; rfl)); (case hp => exact (Reps.c2 (show Kd.M k41 _ _ _ (⟨1, 5⟩ : S41) [.int .i64 1, .int .i64 5] from (k41_mkM _ _ _ (⟨1, 5⟩ : S41) )) (Reps.c2 (show Kd.M k41 _ _ _ (⟨2, 3⟩ : S41) [.int .i64 2, .int .i64 3] from (k41_mkM _ _ _ (⟨2, 3⟩ : S41) )) (Reps.c2 (show Kd.M k41 _ _ _ (⟨11, 1⟩ : S41) [.int .i64 11, .int .i64 1] from (k41_mkM _ _ _ (⟨11, 1⟩ : S41) )) (Reps.none _ _))))); intro v102 w18 ho19 hb hg_ hnew_; clear hg_ hnew_; (first | rw [← Ny101.out] at ho19 | (simp only [Int.reduceToNat] at ho19; rw [← Ny101.out] at ho19)); have n0_ := Aside0.mk (Kd.R_lower ho19 (below_size (by repeat (first | (with_reducible first | exact HB.out | apply below_alloc | apply pw_below_drewN | apply below_drew1) | exact HB.out)))); have n1_ := Aside0.mk (below_step (by repeat (first | (with_reducible first | exact HB.out | apply below_alloc | apply pw_below_drewN | apply below_drew1) | exact HB.out)) hb); clear HB; have HO103 := n0_; have HB := n1_; clear n0_ n1_; clear hb ho19; obtain ⟨Ao20, co20, eo20⟩ := Kd.R_slice HO103.out; subst eo20) | ((with_reducible refine gate_callee (f := 25) rfl ?_); refine goesL_ (some 8) rfl rfl Try.func25 (by kernel_rfl) rfl #[.slice Ao20 y101.length co20, .int .i64 10] rfl (by (try simp only [List.map_toArray, List.map_cons, List.map_nil]); first | done | rfl | (simp only [List.length_drop, List.length_take]; rfl)) ?_; (with_reducible refine (rollup_Buckets.calls _ _ y101 10 t104 t105 _ ?side1 ?side2 A1.out).mono ?_); (case side1 => repeat (first | exact (Kd.R_reads' HO103.out).2.2 | (with_reducible refine Kd.C_alloc ?_ _) | (with_reducible refine Kd.C_drewN ?_ _) | (with_reducible refine Kd.C_drew ?_))); (case side2 => exact (Kd.R_reads' HO103.out).2.1); rintro e w21 ⟨v106, rfl, ho0, hb⟩; refine ⟨_, rfl, ?_⟩; have n0_ := Aside0.mk (Kd.R_below (by (with_reducible repeat (first | apply Kd.R_alloc | apply Kd.R_drewN | apply Kd.R_drew)); exact HO103.out) hb); have n1_ := Aside0.mk (Kd.R_lower ho0 (below_size (by repeat (first | (with_reducible first | exact HB.out | apply below_alloc | apply pw_below_drewN | apply below_drew1) | exact HB.out)))); have n2_ := Aside0.mk (below_step (by repeat (first | (with_reducible first | exact HB.out | apply below_alloc | apply pw_below_drewN | apply below_drew1) | exact HB.out)) hb); clear HO103; clear HB; have HO103 := n0_; have HO107 := n1_; have HB := n2_; clear n0_ n1_ n2_; (try clear hb); (try clear hb2); (try clear hk); (try clear hi); (try clear ho0)) | ((with_reducible refine gate_callee (f := 27) rfl ?_); refine goesL_ (some 12) rfl rfl Try.func27 (by kernel_rfl) rfl #[.int .i64 t105] rfl (by (try simp only [List.map_toArray, List.map_cons, List.map_nil]); first | done | rfl | (simp only [List.length_drop, List.length_take]; rfl)) ?_; (with_reducible refine (lysimeterlaw19_num.calls t105 t108 _ A2.out).mono ?_); rintro e w' ⟨rfl, ⟨nd, rfl⟩⟩; refine ⟨_, rfl, ?_⟩; obtain ⟨Ao22, co22, eo22⟩ := Kd.R_slice HO107.out; subst eo22))
      go_ret
      exact ⟨by first | rfl | (simp [errW_none, errW_some] <;> rfl) | (simp [*, errW_none, errW_some] <;> rfl), by repeat (first | (with_reducible first | exact HB.out | apply below_alloc | apply pw_below_drewN | apply below_drew1) | exact HB.out)⟩
  · rw [if_neg c3] at H
    have c3b0 : (t108 == 0) = false := beq_eq_false_iff_ne.mpr c3
    have c3b1 : (t108 != 0) = true := bne_iff_ne.mpr c3
    obtain rfl := Option.some.inj H
    go_enter Try.func24, Try.ntmps24
    go_wp2_with (first | ((with_reducible refine gate_dst (N := 7) rfl ?_); (try (refine gate_guard (by rfl) ?_; dsimp only)); refine Kd.R_lit k41 _ 41 ?hg (N := 7) ?hd (xs := ([(⟨1, 5⟩ : S41), (⟨2, 3⟩ : S41), (⟨11, 1⟩ : S41)] : List (S41))) (inner := [.int .i64 1, .int .i64 5, .int .i64 2, .int .i64 3, .int .i64 11, .int .i64 1]) (ok := fun _ => True) (okp := fun _ => True) ?hr ?hp (fun _ hk => hk) trivial (Below.refl _ _) (Nat.le_refl _) (by simp) ?_; (case hd => rfl); (case hg => rfl); (case hr => first | (go_simp; done) | (go_simp; rfl)); (case hp => exact (Reps.c2 (show Kd.M k41 _ _ _ (⟨1, 5⟩ : S41) [.int .i64 1, .int .i64 5] from (k41_mkM _ _ _ (⟨1, 5⟩ : S41) )) (Reps.c2 (show Kd.M k41 _ _ _ (⟨2, 3⟩ : S41) [.int .i64 2, .int .i64 3] from (k41_mkM _ _ _ (⟨2, 3⟩ : S41) )) (Reps.c2 (show Kd.M k41 _ _ _ (⟨11, 1⟩ : S41) [.int .i64 11, .int .i64 1] from (k41_mkM _ _ _ (⟨11, 1⟩ : S41) )) (Reps.none _ _))))); intro v102 w23 ho24 hb hg_ hnew_; clear hg_ hnew_; (first | rw [← Ny101.out] at ho24 | (simp only [Int.reduceToNat] at ho24; rw [← Ny101.out] at ho24)); have n0_ := Aside0.mk (Kd.R_lower ho24 (below_size (by repeat (first | (with_reducible first | exact HB.out | apply below_alloc | apply pw_below_drewN | apply below_drew1) | exact HB.out)))); have n1_ := Aside0.mk (below_step (by repeat (first | (with_reducible first | exact HB.out | apply below_alloc | apply pw_below_drewN | apply below_drew1) | exact HB.out)) hb); clear HB; have HO103 := n0_; have HB := n1_; clear n0_ n1_; clear hb ho24; obtain ⟨Ao25, co25, eo25⟩ := Kd.R_slice HO103.out; subst eo25) | ((with_reducible refine gate_callee (f := 25) rfl ?_); refine goesL_ (some 8) rfl rfl Try.func25 (by kernel_rfl) rfl #[.slice Ao25 y101.length co25, .int .i64 10] rfl (by (try simp only [List.map_toArray, List.map_cons, List.map_nil]); first | done | rfl | (simp only [List.length_drop, List.length_take]; rfl)) ?_; (with_reducible refine (rollup_Buckets.calls _ _ y101 10 t104 t105 _ ?side1 ?side2 A1.out).mono ?_); (case side1 => repeat (first | exact (Kd.R_reads' HO103.out).2.2 | (with_reducible refine Kd.C_alloc ?_ _) | (with_reducible refine Kd.C_drewN ?_ _) | (with_reducible refine Kd.C_drew ?_))); (case side2 => exact (Kd.R_reads' HO103.out).2.1); rintro e w26 ⟨v106, rfl, ho0, hb⟩; refine ⟨_, rfl, ?_⟩; have n0_ := Aside0.mk (Kd.R_below (by (with_reducible repeat (first | apply Kd.R_alloc | apply Kd.R_drewN | apply Kd.R_drew)); exact HO103.out) hb); have n1_ := Aside0.mk (Kd.R_lower ho0 (below_size (by repeat (first | (with_reducible first | exact HB.out | apply below_alloc | apply pw_below_drewN | apply below_drew1) | exact HB.out)))); have n2_ := Aside0.mk (below_step (by repeat (first | (with_reducible first | exact HB.out | apply below_alloc | apply pw_below_drewN | apply below_drew1) | exact HB.out)) hb); clear HO103; clear HB; have HO103 := n0_; have HO107 := n1_; have HB := n2_; clear n0_ n1_ n2_; (try clear hb); (try clear hb2); (try clear hk); (try clear hi); (try clear ho0)) | ((with_reducible refine gate_callee (f := 27) rfl ?_); refine goesL_ (some 12) rfl rfl Try.func27 (by kernel_rfl) rfl #[.int .i64 t105] rfl (by (try simp only [List.map_toArray, List.map_cons, List.map_nil]); first | done | rfl | (simp only [List.length_drop, List.length_take]; rfl)) ?_; (with_reducible refine (lysimeterlaw19_num.calls t105 t108 _ A2.out).mono ?_); rintro e w' ⟨rfl, ⟨nd, rfl⟩⟩; refine ⟨_, rfl, ?_⟩))
    go_ret
    exact ⟨by first | rfl | (simp [errW_none, errW_some] <;> rfl) | (simp [*, errW_none, errW_some] <;> rfl), by repeat (first | (with_reducible first | exact HB.out | apply below_alloc | apply pw_below_drewN | apply below_drew1) | exact HB.out)⟩
def lysimeterref16_Buckets.to (x : S41) : Rk.S41 := ⟨x.f0, x.f1⟩
def lysimeterref16_Buckets.mid (x : Rk.S52) : S52 := ⟨x.f0, x.f1, x.f2, x.f3, x.f4, x.f5⟩
def lysimeterref16_Buckets.to2 (x : S41) : Roll.S41 := ⟨x.f0, x.f1⟩
def lysimeterref16_Buckets.fr (x : Roll.S52) : S52 := ⟨x.f0, x.f1, x.f2, x.f3, x.f4, x.f5⟩
def lysimeterref16_Buckets.f (l0 : List S41) (a1 : Int) : Option (List S52 × Int) := if Roll.inB l0.length (l0.map lysimeterref16_Buckets.to2) a1 then some ((Roll.bucketsS (l0.map lysimeterref16_Buckets.to2) a1).1.map lysimeterref16_Buckets.fr, (Roll.bucketsS (l0.map lysimeterref16_Buckets.to2) a1).2) else none
theorem lysimeterref16_Buckets.calls (A0 : Option Addr) (c0 : Nat) (l0 : List (S41)) (a1 : Int) (r1 : List S52) (r2 : Int) (w : World) (hr0 : Kd.C k41 w A0 l0.length l0) (hc0 : l0.length ≤ c0) (h : lysimeterref16_Buckets.f l0 a1 = some (r1, r2)) :
    Calls Try.prog 26 #[.slice A0 l0.length c0, .int .i64 a1] w fun e w' => ∃ v0_ : Value, e = .returned (.tuple #[v0_, .int .i64 r2]) ∧ Kd.R k52 52 w' w.heap.size (fun _ => True) v0_ r1 ∧ Below w.heap.size w w' := by
  unfold lysimeterref16_Buckets.f at h
  by_cases c : Roll.inB l0.length (l0.map lysimeterref16_Buckets.to2) a1 = true
  · rw [if_pos c] at h
    obtain ⟨rfl, rfl⟩ := Prod.mk.inj (Option.some.inj h)
    obtain ⟨k1, k2, k3⟩ := Roll.inB_iff.1 c
    have hC : Kd.C Rk.k41 w A0 (l0.map lysimeterref16_Buckets.to).length (l0.map lysimeterref16_Buckets.to) := by
      rw [List.length_map]
      exact C_map (f' := fun x : Rk.S41 => (x.f0, x.f1)) (g := lysimeterref16_Buckets.to) (fun x => rfl) hr0
    have K := Rk.rbuckets_calls A0 c0 (l0.map lysimeterref16_Buckets.to) a1 w hC (by rw [List.length_map]; exact hc0) (fun s hs => by
      obtain ⟨y, hy, rfl⟩ := List.mem_map.mp hs
      exact k2 (lysimeterref16_Buckets.to2 y) (List.mem_map.mpr ⟨y, hy, rfl⟩)) k3 (by rw [List.length_map]; exact k1)
    have e1 : (l0.map lysimeterref16_Buckets.to).map Rk.to41 = l0.map lysimeterref16_Buckets.to2 := by rw [List.map_map]; rfl
    rw [List.length_map, e1] at K
    refine K.mono ?_
    rintro e w' ⟨v, rfl, hR, hB⟩
    have hR2 := R_map (f' := fun x : S52 => (x.f0, x.f1, x.f2, x.f3, x.f4, x.f5)) (g := lysimeterref16_Buckets.mid) (fun x => rfl) hR
    rw [List.map_map] at hR2
    exact ⟨v, rfl, hR2, hB⟩
  · rw [if_neg c] at h; cases h
def lysimeterlaw19_Same.l0 : Nat → List (S52) → List (S52) → Int → Option (Bool)
  | 0, _, _, _ => none
  | k + 1, x0, x1, x5 => if x5 < (x0.length : Int) then (if 0 ≤ x5 then (if x5 < (x1.length : Int) then (if (!(((rd_T52 x0 x5).f0) == ((rd_T52 x1 x5).f0)) || (!(((rd_T52 x0 x5).f1) == ((rd_T52 x1 x5).f1)) || (!(((rd_T52 x0 x5).f2) == ((rd_T52 x1 x5).f2)) || (!(((rd_T52 x0 x5).f3) == ((rd_T52 x1 x5).f3)) || (!(((rd_T52 x0 x5).f4) == ((rd_T52 x1 x5).f4)) || (!(((rd_T52 x0 x5).f5) == ((rd_T52 x1 x5).f5)))))))) = true then (some false) else (lysimeterlaw19_Same.l0 k x0 x1 (wrap64 (x5 + 1)))) else (none)) else (none)) else (some true)
def lysimeterlaw19_Same.f (k : Nat) (l0 : List (S52)) (l1 : List (S52)) : Option (Bool) := if (l0.length : Int) = (l1.length : Int) then (lysimeterlaw19_Same.l0 k l0 l1 0) else (some false)
set_option maxHeartbeats 8000000 in
set_option maxRecDepth 100000 in
theorem lysimeterlaw19_Same.calls (k : Nat) (A0 : Option Addr) (c0 : Nat) (l0 : List (S52)) (A1 : Option Addr) (c1 : Nat) (l1 : List (S52)) (r : Bool) (w : World) (hr0 : Kd.C k52 w A0 l0.length l0) (hc0 : l0.length ≤ c0) (hr1 : Kd.C k52 w A1 l1.length l1) (hc1 : l1.length ≤ c1) (h : lysimeterlaw19_Same.f k l0 l1 = some r) :
    Calls Try.prog 28 #[.slice A0 l0.length c0, .slice A1 l1.length c1] w fun e w' => e = .returned (.bool r) ∧ Drawn0 w w' := by
  have hu52 := Try.underlying52
  have HR0 := Aside0.mk hr0
  have HC0 := Aside0.mk hc0
  clear hr0 hc0
  have HR1 := Aside0.mk hr1
  have HC1 := Aside0.mk hc1
  clear hr1 hc1
  have H : (if (l0.length : Int) = (l1.length : Int) then (lysimeterlaw19_Same.l0 k l0 l1 0) else (some false)) = some r := h
  clear h
  by_cases c3 : (l0.length : Int) = (l1.length : Int)
  · rw [if_pos c3] at H
    have c3b0 : ((l0.length : Int) == (l1.length : Int)) = true := beq_iff_eq.mpr c3
    have c3b1 : ((l0.length : Int) != (l1.length : Int)) = false := bne_eq_false_iff_eq.mpr c3
    have c3b2 : (l0.length == l1.length) = true := by first | simpa using c3 | (simp at c3 ⊢; omega)
    clear c3
    have H' := Aside0.mk H
    clear H
    go_enter Try.func28, Try.ntmps28
    go_wp2
    repeat (go_quiet (fail); try go_wp2)
    go_loopg [5] k (fun kq v5 w' => ∃ (x5_1 : Int), v5 = .int .i64 x5_1 ∧ Aside0 (lysimeterlaw19_Same.l0 kq l0 l1 x5_1 = some r) ∧ Aside0 (kq ≤ k) ∧ Drawn0 w w')
    case atStart => exact ⟨(0), (by first | rfl | (simp; done) | (simp [*]; done)), H', ⟨Nat.le_refl _⟩, by repeat (first | exact Drawn0.refl _ | apply Drawn0.step)⟩
    case round =>
      clear H'
      try clear c1
      try clear c2
      try clear p2
      try clear c3
      try clear c3b0
      try clear c3b1
      try clear c3b2
      obtain ⟨x5_1, rfl, HA, HK1, ⟨m1, rfl⟩⟩ := hrel
      cases gk with
      | zero => exact absurd HA.out (by simp [lysimeterlaw19_Same.l0])
      | succ k1 =>
        have H := HA.out
        clear HA
        simp only [lysimeterlaw19_Same.l0] at H
        by_cases c4 : x5_1 < (l0.length : Int)
        · rw [if_pos c4] at H
          have c4b0 : decide (x5_1 < (l0.length : Int)) = true := decide_eq_true c4
          clear c4
          by_cases c5 : 0 ≤ x5_1
          · rw [if_pos c5] at H
            have c5b0 : decide (0 ≤ x5_1) = true := decide_eq_true c5
            clear c5
            by_cases c6 : x5_1 < (l1.length : Int)
            · rw [if_pos c6] at H
              have c6b0 : decide (x5_1 < (l1.length : Int)) = true := decide_eq_true c6
              clear c6
              by_cases c7 : (!(((rd_T52 l0 x5_1).f0) == ((rd_T52 l1 x5_1).f0)) || (!(((rd_T52 l0 x5_1).f1) == ((rd_T52 l1 x5_1).f1)) || (!(((rd_T52 l0 x5_1).f2) == ((rd_T52 l1 x5_1).f2)) || (!(((rd_T52 l0 x5_1).f3) == ((rd_T52 l1 x5_1).f3)) || (!(((rd_T52 l0 x5_1).f4) == ((rd_T52 l1 x5_1).f4)) || (!(((rd_T52 l0 x5_1).f5) == ((rd_T52 l1 x5_1).f5)))))))) = true
              · rw [if_pos c7] at H
                have c7b0 : (!(((rd_T52 l0 x5_1).f0) == ((rd_T52 l1 x5_1).f0)) || (!(((rd_T52 l0 x5_1).f1) == ((rd_T52 l1 x5_1).f1)) || (!(((rd_T52 l0 x5_1).f2) == ((rd_T52 l1 x5_1).f2)) || (!(((rd_T52 l0 x5_1).f3) == ((rd_T52 l1 x5_1).f3)) || (!(((rd_T52 l0 x5_1).f4) == ((rd_T52 l1 x5_1).f4)) || (!(((rd_T52 l0 x5_1).f5) == ((rd_T52 l1 x5_1).f5)))))))) = true := c7
                clear c7
                obtain rfl := Option.some.inj H
                have p111 : 0 ≤ (x5_1 : Int) := of_decide_eq_true (by first | (with_reducible assumption) | assumption)
                have q111 : x5_1 < (l0.length : Int) := of_decide_eq_true (by first | (with_reducible assumption) | assumption)
                obtain ⟨ad111, e111, hx111_0, hx111_1, hx111_2, hx111_3, hx111_4, hx111_5⟩ := at_T52 HR0.out x5_1 p111 q111
                cases e111
                replace p111 := eq_true p111
                replace q111 := eq_true q111
                have p112 : 0 ≤ (x5_1 : Int) := of_decide_eq_true (by first | (with_reducible assumption) | assumption)
                have q112 : x5_1 < (l1.length : Int) := of_decide_eq_true (by first | (with_reducible assumption) | assumption)
                obtain ⟨ad112, e112, hx112_0, hx112_1, hx112_2, hx112_3, hx112_4, hx112_5⟩ := at_T52 HR1.out x5_1 p112 q112
                cases e112
                replace p112 := eq_true p112
                replace q112 := eq_true q112
                go_wp2
                repeat (go_quiet (fail); try go_wp2)
                go_ret
                exact ⟨by first | rfl | (simp; done) | (simp [*]; done), by repeat (first | exact Drawn0.refl _ | apply Drawn0.step)⟩
              · rw [if_neg c7] at H
                have c7b0 : (!(((rd_T52 l0 x5_1).f0) == ((rd_T52 l1 x5_1).f0)) || (!(((rd_T52 l0 x5_1).f1) == ((rd_T52 l1 x5_1).f1)) || (!(((rd_T52 l0 x5_1).f2) == ((rd_T52 l1 x5_1).f2)) || (!(((rd_T52 l0 x5_1).f3) == ((rd_T52 l1 x5_1).f3)) || (!(((rd_T52 l0 x5_1).f4) == ((rd_T52 l1 x5_1).f4)) || (!(((rd_T52 l0 x5_1).f5) == ((rd_T52 l1 x5_1).f5)))))))) = false := by simpa using c7
                clear c7
                have H' := Aside0.mk H
                clear H
                have p111 : 0 ≤ (x5_1 : Int) := of_decide_eq_true (by first | (with_reducible assumption) | assumption)
                have q111 : x5_1 < (l0.length : Int) := of_decide_eq_true (by first | (with_reducible assumption) | assumption)
                obtain ⟨ad111, e111, hx111_0, hx111_1, hx111_2, hx111_3, hx111_4, hx111_5⟩ := at_T52 HR0.out x5_1 p111 q111
                cases e111
                replace p111 := eq_true p111
                replace q111 := eq_true q111
                have p112 : 0 ≤ (x5_1 : Int) := of_decide_eq_true (by first | (with_reducible assumption) | assumption)
                have q112 : x5_1 < (l1.length : Int) := of_decide_eq_true (by first | (with_reducible assumption) | assumption)
                obtain ⟨ad112, e112, hx112_0, hx112_1, hx112_2, hx112_3, hx112_4, hx112_5⟩ := at_T52 HR1.out x5_1 p112 q112
                cases e112
                replace p112 := eq_true p112
                replace q112 := eq_true q112
                go_wp2
                repeat (go_quiet (fail); try go_wp2)
                go_roundg k1
                case measure => have := HK1.out; omega
                case rel => exact ⟨(wrap64 (x5_1 + 1)), (by first | rfl | (simp; done) | (simp [*]; done)), H', ⟨by have := HK1.out; omega⟩, by repeat (first | exact Drawn0.refl _ | apply Drawn0.step)⟩
            · rw [if_neg c6] at H
              exact absurd H (by simp)
          · rw [if_neg c5] at H
            exact absurd H (by simp)
        · rw [if_neg c4] at H
          have c4b0 : decide (x5_1 < (l0.length : Int)) = false := decide_eq_false c4
          clear c4
          obtain rfl := Option.some.inj H
          go_wp2
          repeat (go_quiet (fail); try go_wp2)
          go_ret
          exact ⟨by first | rfl | (simp; done) | (simp [*]; done), by repeat (first | exact Drawn0.refl _ | apply Drawn0.step)⟩
  · rw [if_neg c3] at H
    have c3b0 : ((l0.length : Int) == (l1.length : Int)) = false := beq_eq_false_iff_ne.mpr c3
    have c3b1 : ((l0.length : Int) != (l1.length : Int)) = true := bne_iff_ne.mpr c3
    have c3b2 : (l0.length == l1.length) = false := by first | simpa using c3 | (simp at c3 ⊢; omega)
    obtain rfl := Option.some.inj H
    go_enter Try.func28, Try.ntmps28
    go_wp2
    repeat (go_quiet (fail); try go_wp2)
    go_ret
    exact ⟨by first | rfl | (simp; done) | (simp [*]; done), by repeat (first | exact Drawn0.refl _ | apply Drawn0.step)⟩
def lysimeterlaw19_RollupBuckets.j0 : Nat → List (S41) → Int → Bool → Bool → Option (Bool)
  | 0, _, _, _, _ => none
  | k + 1, x0, x1, x5, x17 => if x17 = true then (some x5) else ((rollup_Buckets.f x0 x1).bind fun bt114 => ((lysimeterref16_Buckets.f x0 x1).bind fun bt118 => ((lysimeterlaw19_num.f bt114.2).bind fun t122 => (if t122 = bt118.2 then ((lysimeterlaw19_Same.f k bt114.1 bt118.1).bind fun t123 => (some t123)) else (some false)))))
def lysimeterlaw19_RollupBuckets.f (k : Nat) (l0 : List (S41)) (a1 : Int) : Option (Bool) := (lysimeterlaw19_alive.f).bind fun t113 => (if t113 = true then (lysimeterlaw19_RollupBuckets.j0 k l0 a1 t113 (decide ((l0.length : Int) > 1000))) else (lysimeterlaw19_RollupBuckets.j0 k l0 a1 t113 true))
set_option maxHeartbeats 8000000 in
set_option maxRecDepth 100000 in
theorem lysimeterlaw19_RollupBuckets.calls (k : Nat) (A0 : Option Addr) (c0 : Nat) (l0 : List (S41)) (a1 : Int) (r : Bool) (w : World) (hr0 : Kd.C k41 w A0 l0.length l0) (hc0 : l0.length ≤ c0) (h : lysimeterlaw19_RollupBuckets.f k l0 a1 = some r) :
    Calls Try.prog 8 #[.slice A0 l0.length c0, .int .i64 a1] w fun e w' => e = .returned (.bool r) ∧ Below w.heap.size w w' := by
  have HR0 := Aside0.mk hr0
  have HC0 := Aside0.mk hc0
  clear hr0 hc0
  have HB := Aside0.mk (Below.refl w.heap.size w)
  have H : ((lysimeterlaw19_alive.f).bind fun t113 => (if t113 = true then (lysimeterlaw19_RollupBuckets.j0 k l0 a1 t113 (decide ((l0.length : Int) > 1000))) else (lysimeterlaw19_RollupBuckets.j0 k l0 a1 t113 true))) = some r := h
  clear h
  replace H := Option.bind_eq_some_iff.mp H
  obtain ⟨t113, A30, H⟩ := H
  replace H : (if t113 = true then (lysimeterlaw19_RollupBuckets.j0 k l0 a1 t113 (decide ((l0.length : Int) > 1000))) else (lysimeterlaw19_RollupBuckets.j0 k l0 a1 t113 true)) = some r := H
  have A3 := Aside0.mk A30
  clear A30
  have HC4 := Aside0.mk H
  clear H
  go_enter Try.func8, Try.ntmps8
  go_upto_region 2 with (first | ((with_reducible refine gate_callee (f := 24) rfl ?_); refine goesL_ (some 10) rfl rfl Try.func24 (by kernel_rfl) rfl #[] rfl (by (try simp only [List.map_toArray, List.map_cons, List.map_nil]); first | done | rfl | (simp only [List.length_drop, List.length_take]; rfl)) ?_; (with_reducible refine (lysimeterlaw19_alive.calls  t113 _ A3.out).mono ?_); rintro e w5 ⟨rfl, hb⟩; refine ⟨_, rfl, ?_⟩; have n0_ := Aside0.mk (below_step (by repeat (first | (with_reducible first | exact HB.out | apply below_alloc | apply pw_below_drewN | apply below_drew1) | exact HB.out)) hb); clear HB; have HB := n0_; clear n0_; (try clear hb); (try clear hb2); (try clear hk); (try clear hi)))
  (try simp only [Act.put, List.setIfInBounds_toArray, List.set_cons_zero, List.set_cons_succ])
  go_cut [17] (fun v17 wc => ∃ (kq : Nat) (x17_3 : Bool), v17 = .bool x17_3 ∧ Aside0 (lysimeterlaw19_RollupBuckets.j0 kq l0 a1 t113 x17_3 = some r) ∧ Aside0 (kq ≤ k) ∧ Aside0 (Below w.heap.size w wc))
  case first =>
    have H := HC4.out
    clear HC4
    by_cases c6 : t113 = true
    · subst c6
      have H1 : (lysimeterlaw19_RollupBuckets.j0 k l0 a1 true (decide ((l0.length : Int) > 1000))) = some r := by rw [if_pos rfl] at H; exact H
      clear H
      have H := H1
      clear H1
      have H' := Aside0.mk H
      clear H
      go_wp2
      go_meet
      case rel => exact ⟨_, (decide ((l0.length : Int) > 1000)), (by first | rfl | (simp; done) | (simp [*]; done)), H', ⟨by first | omega | exact Nat.le_refl _⟩, ⟨by repeat (first | (with_reducible first | exact HB.out | apply below_alloc | apply pw_below_drewN | apply below_drew1) | exact HB.out)⟩⟩
    · replace c6 := Bool.eq_false_iff.mpr c6
      subst c6
      have H1 : (lysimeterlaw19_RollupBuckets.j0 k l0 a1 false true) = some r := by rw [if_neg (show ¬ (false = true) by decide)] at H; exact H
      clear H
      have H := H1
      clear H1
      have H' := Aside0.mk H
      clear H
      go_wp2
      go_meet
      case rel => exact ⟨_, (true), (by first | rfl | (simp; done) | (simp [*]; done)), H', ⟨by first | omega | exact Nat.le_refl _⟩, ⟨by repeat (first | (with_reducible first | exact HB.out | apply below_alloc | apply pw_below_drewN | apply below_drew1) | exact HB.out)⟩⟩
  case rest =>
    clear HC4
    try clear c2
    try clear p2
    try clear c6
    obtain ⟨kq, x17_3, rfl, HA, HJ3, HB⟩ := hcut
    cases kq with
    | zero => exact absurd HA.out (by simp [lysimeterlaw19_RollupBuckets.j0])
    | succ kj3 =>
      have H := HA.out
      clear HA
      simp only [lysimeterlaw19_RollupBuckets.j0] at H
      by_cases c7 : x17_3 = true
      · subst c7
        have H1 : (some t113) = some r := by rw [if_pos rfl] at H; exact H
        clear H
        have H := H1
        clear H1
        obtain rfl := Option.some.inj H
        go_wp2
        go_ret
        exact ⟨by first | rfl | (simp [errW_none, errW_some] <;> rfl) | (simp [*, errW_none, errW_some] <;> rfl), by repeat (first | (with_reducible first | exact HB.out | apply below_alloc | apply pw_below_drewN | apply below_drew1) | exact HB.out)⟩
      · replace c7 := Bool.eq_false_iff.mpr c7
        subst c7
        have H1 : ((rollup_Buckets.f l0 a1).bind fun bt114 => ((lysimeterref16_Buckets.f l0 a1).bind fun bt118 => ((lysimeterlaw19_num.f bt114.2).bind fun t122 => (if t122 = bt118.2 then ((lysimeterlaw19_Same.f kj3 bt114.1 bt118.1).bind fun t123 => (some t123)) else (some false))))) = some r := by rw [if_neg (show ¬ (false = true) by decide)] at H; exact H
        clear H
        have H := H1
        clear H1
        replace H := Option.bind_eq_some_iff.mp H
        obtain ⟨⟨t114, t115⟩, A80, H⟩ := H
        replace H : ((lysimeterref16_Buckets.f l0 a1).bind fun bt118 => ((lysimeterlaw19_num.f t115).bind fun t122 => (if t122 = bt118.2 then ((lysimeterlaw19_Same.f kj3 t114 bt118.1).bind fun t123 => (some t123)) else (some false)))) = some r := H
        have A8 := Aside0.mk A80
        clear A80
        replace H := Option.bind_eq_some_iff.mp H
        obtain ⟨⟨t118, t119⟩, A90, H⟩ := H
        replace H : ((lysimeterlaw19_num.f t115).bind fun t122 => (if t122 = t119 then ((lysimeterlaw19_Same.f kj3 t114 t118).bind fun t123 => (some t123)) else (some false))) = some r := H
        have A9 := Aside0.mk A90
        clear A90
        replace H := Option.bind_eq_some_iff.mp H
        obtain ⟨t122, A100, H⟩ := H
        replace H : (if t122 = t119 then ((lysimeterlaw19_Same.f kj3 t114 t118).bind fun t123 => (some t123)) else (some false)) = some r := H
        have A10 := Aside0.mk A100
        clear A100
        by_cases c11 : t122 = t119
        · rw [if_pos c11] at H
          have c11b0 : (t122 == t119) = true := beq_iff_eq.mpr c11
          have c11b1 : (t122 != t119) = false := bne_eq_false_iff_eq.mpr c11
          clear c11
          replace H := Option.bind_eq_some_iff.mp H
          obtain ⟨t123, A120, H⟩ := H
          replace H : (some t123) = some r := H
          have A12 := Aside0.mk A120
          clear A120
          obtain rfl := Option.some.inj H
          go_wp2_with (first | ((with_reducible refine gate_callee (f := 25) rfl ?_); refine goesL_ (some 22) rfl rfl Try.func25 (by kernel_rfl) rfl #[.slice A0 l0.length c0, .int .i64 a1] rfl (by (try simp only [List.map_toArray, List.map_cons, List.map_nil]); first | done | rfl | (simp only [List.length_drop, List.length_take]; rfl)) ?_; (with_reducible refine (rollup_Buckets.calls _ _ l0 a1 t114 t115 _ ?side1 ?side2 A8.out).mono ?_); (case side1 => repeat (first | exact (Kd.C_below HR0.out HB.out) | (with_reducible refine Kd.C_alloc ?_ _) | (with_reducible refine Kd.C_drewN ?_ _) | (with_reducible refine Kd.C_drew ?_))); (case side2 => exact HC0.out); rintro e w13 ⟨v116, rfl, ho0, hb⟩; refine ⟨_, rfl, ?_⟩; have n0_ := Aside0.mk (Kd.R_lower ho0 (below_size (by repeat (first | (with_reducible first | exact HB.out | apply below_alloc | apply pw_below_drewN | apply below_drew1) | exact HB.out)))); have n1_ := Aside0.mk (below_step (by repeat (first | (with_reducible first | exact HB.out | apply below_alloc | apply pw_below_drewN | apply below_drew1) | exact HB.out)) hb); clear HB; have HO117 := n0_; have HB := n1_; clear n0_ n1_; (try clear hb); (try clear hb2); (try clear hk); (try clear hi); (try clear ho0)) | ((with_reducible refine gate_callee (f := 26) rfl ?_); refine goesL_ (some 28) rfl rfl Try.func26 (by kernel_rfl) rfl #[.slice A0 l0.length c0, .int .i64 a1] rfl (by (try simp only [List.map_toArray, List.map_cons, List.map_nil]); first | done | rfl | (simp only [List.length_drop, List.length_take]; rfl)) ?_; (with_reducible refine (lysimeterref16_Buckets.calls _ _ l0 a1 t118 t119 _ ?side1 ?side2 A9.out).mono ?_); (case side1 => repeat (first | exact (Kd.C_below HR0.out HB.out) | (with_reducible refine Kd.C_alloc ?_ _) | (with_reducible refine Kd.C_drewN ?_ _) | (with_reducible refine Kd.C_drew ?_))); (case side2 => exact HC0.out); rintro e w14 ⟨v120, rfl, ho0, hb⟩; refine ⟨_, rfl, ?_⟩; have n0_ := Aside0.mk (Kd.R_elder' (by (with_reducible repeat (first | apply Kd.R_alloc | apply Kd.R_drewN | apply Kd.R_drew)); exact HO117.out) (Kd.R_base ho0) hb); have n1_ := Aside0.mk (Kd.R_lower (Kd.R_new' ho0 (Kd.R_lt (by (with_reducible repeat (first | apply Kd.R_alloc | apply Kd.R_drewN | apply Kd.R_drew)); exact HO117.out))) (below_size (by repeat (first | (with_reducible first | exact HB.out | apply below_alloc | apply pw_below_drewN | apply below_drew1) | exact HB.out)))); have n2_ := Aside0.mk (below_step (by repeat (first | (with_reducible first | exact HB.out | apply below_alloc | apply pw_below_drewN | apply below_drew1) | exact HB.out)) hb); clear HO117; clear HB; have HO117 := n0_; have HO121 := n1_; have HB := n2_; clear n0_ n1_ n2_; (try clear hb); (try clear hb2); (try clear hk); (try clear hi); (try clear ho0)) | ((with_reducible refine gate_callee (f := 27) rfl ?_); refine goesL_ (some 32) rfl rfl Try.func27 (by kernel_rfl) rfl #[.int .i64 t115] rfl (by (try simp only [List.map_toArray, List.map_cons, List.map_nil]); first | done | rfl | (simp only [List.length_drop, List.length_take]; rfl)) ?_; (with_reducible refine (lysimeterlaw19_num.calls t115 t122 _ A10.out).mono ?_); rintro e w' ⟨rfl, ⟨nd, rfl⟩⟩; refine ⟨_, rfl, ?_⟩; obtain ⟨Ao15, co15, eo15⟩ := Kd.R_slice HO117.out; subst eo15; obtain ⟨Ao16, co16, eo16⟩ := Kd.R_slice HO121.out; subst eo16) | (go_at_call 28; (with_reducible refine (lysimeterlaw19_Same.calls kj3 _ _ t114 _ _ t118 t123 _ ?side1 ?side2 ?side3 ?side4 A12.out).mono ?_); (case side1 => repeat (first | exact (Kd.R_reads' HO117.out).2.2 | (with_reducible refine Kd.C_alloc ?_ _) | (with_reducible refine Kd.C_drewN ?_ _) | (with_reducible refine Kd.C_drew ?_))); (case side2 => exact (Kd.R_reads' HO117.out).2.1); (case side3 => repeat (first | exact (Kd.R_reads' HO121.out).2.2 | (with_reducible refine Kd.C_alloc ?_ _) | (with_reducible refine Kd.C_drewN ?_ _) | (with_reducible refine Kd.C_drew ?_))); (case side4 => exact (Kd.R_reads' HO121.out).2.1); rintro e w' ⟨rfl, ⟨nd, rfl⟩⟩))
          go_ret
          exact ⟨by first | rfl | (simp [errW_none, errW_some] <;> rfl) | (simp [*, errW_none, errW_some] <;> rfl), by repeat (first | (with_reducible first | exact HB.out | apply below_alloc | apply pw_below_drewN | apply below_drew1) | exact HB.out)⟩
        · rw [if_neg c11] at H
          have c11b0 : (t122 == t119) = false := beq_eq_false_iff_ne.mpr c11
          have c11b1 : (t122 != t119) = true := bne_iff_ne.mpr c11
          obtain rfl := Option.some.inj H
          go_wp2_with (first | ((with_reducible refine gate_callee (f := 25) rfl ?_); refine goesL_ (some 22) rfl rfl Try.func25 (by kernel_rfl) rfl #[.slice A0 l0.length c0, .int .i64 a1] rfl (by (try simp only [List.map_toArray, List.map_cons, List.map_nil]); first | done | rfl | (simp only [List.length_drop, List.length_take]; rfl)) ?_; (with_reducible refine (rollup_Buckets.calls _ _ l0 a1 t114 t115 _ ?side1 ?side2 A8.out).mono ?_); (case side1 => repeat (first | exact (Kd.C_below HR0.out HB.out) | (with_reducible refine Kd.C_alloc ?_ _) | (with_reducible refine Kd.C_drewN ?_ _) | (with_reducible refine Kd.C_drew ?_))); (case side2 => exact HC0.out); rintro e w17 ⟨v116, rfl, ho0, hb⟩; refine ⟨_, rfl, ?_⟩; have n0_ := Aside0.mk (Kd.R_lower ho0 (below_size (by repeat (first | (with_reducible first | exact HB.out | apply below_alloc | apply pw_below_drewN | apply below_drew1) | exact HB.out)))); have n1_ := Aside0.mk (below_step (by repeat (first | (with_reducible first | exact HB.out | apply below_alloc | apply pw_below_drewN | apply below_drew1) | exact HB.out)) hb); clear HB; have HO117 := n0_; have HB := n1_; clear n0_ n1_; (try clear hb); (try clear hb2); (try clear hk); (try clear hi); (try clear ho0)) | ((with_reducible refine gate_callee (f := 26) rfl ?_); refine goesL_ (some 28) rfl rfl Try.func26 (by kernel_rfl) rfl #[.slice A0 l0.length c0, .int .i64 a1] rfl (by (try simp only [List.map_toArray, List.map_cons, List.map_nil]); first | done | rfl | (simp only [List.length_drop, List.length_take]; rfl)) ?_; (with_reducible refine (lysimeterref16_Buckets.calls _ _ l0 a1 t118 t119 _ ?side1 ?side2 A9.out).mono ?_); (case side1 => repeat (first | exact (Kd.C_below HR0.out HB.out) | (with_reducible refine Kd.C_alloc ?_ _) | (with_reducible refine Kd.C_drewN ?_ _) | (with_reducible refine Kd.C_drew ?_))); (case side2 => exact HC0.out); rintro e w18 ⟨v120, rfl, ho0, hb⟩; refine ⟨_, rfl, ?_⟩; have n0_ := Aside0.mk (Kd.R_elder' (by (with_reducible repeat (first | apply Kd.R_alloc | apply Kd.R_drewN | apply Kd.R_drew)); exact HO117.out) (Kd.R_base ho0) hb); have n1_ := Aside0.mk (Kd.R_lower (Kd.R_new' ho0 (Kd.R_lt (by (with_reducible repeat (first | apply Kd.R_alloc | apply Kd.R_drewN | apply Kd.R_drew)); exact HO117.out))) (below_size (by repeat (first | (with_reducible first | exact HB.out | apply below_alloc | apply pw_below_drewN | apply below_drew1) | exact HB.out)))); have n2_ := Aside0.mk (below_step (by repeat (first | (with_reducible first | exact HB.out | apply below_alloc | apply pw_below_drewN | apply below_drew1) | exact HB.out)) hb); clear HO117; clear HB; have HO117 := n0_; have HO121 := n1_; have HB := n2_; clear n0_ n1_ n2_; (try clear hb); (try clear hb2); (try clear hk); (try clear hi); (try clear ho0)) | ((with_reducible refine gate_callee (f := 27) rfl ?_); refine goesL_ (some 32) rfl rfl Try.func27 (by kernel_rfl) rfl #[.int .i64 t115] rfl (by (try simp only [List.map_toArray, List.map_cons, List.map_nil]); first | done | rfl | (simp only [List.length_drop, List.length_take]; rfl)) ?_; (with_reducible refine (lysimeterlaw19_num.calls t115 t122 _ A10.out).mono ?_); rintro e w' ⟨rfl, ⟨nd, rfl⟩⟩; refine ⟨_, rfl, ?_⟩))
          go_ret
          exact ⟨by first | rfl | (simp [errW_none, errW_some] <;> rfl) | (simp [*, errW_none, errW_some] <;> rfl), by repeat (first | (with_reducible first | exact HB.out | apply below_alloc | apply pw_below_drewN | apply below_drew1) | exact HB.out)⟩
def lysimeterlaw19_RollupBuckets.Pure : Prop := ∀ (l0 : List (S41)) (a1 : Int), l0.length ≤ maxLen → l0.length * 16 ≤ 140737488351232 → (∀ x ∈ l0, (Lit.int .i64 x.f0).wf = true ∧ (Lit.int .i64 x.f1).wf = true) → (Lit.int .i64 a1).wf = true → ∃ k, lysimeterlaw19_RollupBuckets.f k l0 a1 = some true
end Go.Proofs.Ytdglifoakdkheaa.Rb
end
section
namespace Go.Proofs.Ytdglifoakdkheaa.Pure
open Go.RowKit Go.Proofs.Ytdglifoakdkheaa.Rb Go.Proofs.YtdglifoakdkheaaW.PrintWords Go.Proofs.YtdglifoakdkheaaW.PrintLast
set_option linter.unusedVariables false
theorem b_alive_buckets : rollup_Buckets.f [⟨1, 5⟩, ⟨2, 3⟩, ⟨11, 1⟩] 10 = some ([⟨0, 2, 8, 3, 5, 3⟩, ⟨10, 1, 1, 1, 1, 1⟩], 0) := by
  kernel_rfl
theorem b_alive_eq : lysimeterlaw19_alive.f = some true := by
  unfold lysimeterlaw19_alive.f
  rw [b_alive_buckets]
  kernel_rfl
theorem b_same_l0 (a : List S52) (hl : a.length ≤ 100000) : ∀ d i : Nat, i + d = a.length → Ev (fun k => lysimeterlaw19_Same.l0 k a a (i : Int)) true := by
  intro d
  induction d with
  | zero =>
    intro i hi
    refine Ev.step (f := fun _ => some true) (fun k => ?_) (Ev.now _)
    simp only [lysimeterlaw19_Same.l0]
    rw [if_neg (by omega)]
  | succ d ih =>
    intro i hi
    refine Ev.step (fun k => ?_) (ih (i + 1) (by omega))
    simp only [lysimeterlaw19_Same.l0]
    have e : wrap64 ((i : Int) + 1) = ((i + 1 : Nat) : Int) := by rw [Roll.wrap64_id (by omega) (by omega)]; omega
    rw [if_pos (by omega), if_pos (by omega), if_pos (by omega), if_neg (by simp), e]
theorem b_same_ev (a : List S52) (hl : a.length ≤ 100000) : Ev (fun k => lysimeterlaw19_Same.f k a a) true := by
  refine Ev.congr (fun k => ?_) (b_same_l0 a hl a.length 0 (by omega))
  unfold lysimeterlaw19_Same.f
  rw [if_pos rfl]
  rfl
theorem fold_len (w : Int) : ∀ (l o : List Roll.S52), (l.foldl (Roll.refS w) o).length ≤ o.length + l.length
  | [], o => Nat.le_refl _
  | b :: l, o => by
    have h1 := fold_len w l (Roll.refS w o b)
    have h2 := Rk.ref_len w o b
    rw [List.foldl_cons, List.length_cons]
    omega
theorem buckets_len (l : List Roll.S41) (w : Int) : (Roll.bucketsS l w).1.length ≤ l.length := by
  unfold Roll.bucketsS
  split
  · exact Nat.zero_le _
  · split
    · have h1 := Roll.ref_steps w (l.map Roll.oneS) ([], none) (fun _ => rfl)
      show (Roll.outS _).length ≤ _
      rw [← h1]
      have h2 := fold_len w (l.map Roll.oneS) (Roll.outS ([], none))
      rw [List.length_map] at h2
      exact Nat.le_trans h2 (by simp [Roll.outS])
    · exact Nat.zero_le _
theorem RollupBuckets : lysimeterlaw19_RollupBuckets.Pure := by
  intro l w hml hbl hwf hww
  have hw := Roll.i64_of_wf hww
  have hin : ∀ x ∈ l, Roll.In x.f0 ∧ Roll.In x.f1 := fun x hx => ⟨Roll.i64_of_wf (hwf x hx).1, Roll.i64_of_wf (hwf x hx).2⟩
  refine Ev.rounds ?_
  refine Ev.congr (f := fun k => lysimeterlaw19_RollupBuckets.j0 k l w true (decide ((l.length : Int) > 1000))) (fun k => ?_) ?_
  · unfold lysimeterlaw19_RollupBuckets.f
    rw [b_alive_eq, Option.bind_some, if_pos rfl]
  · by_cases c1 : (l.length : Int) > 1000
    · rw [decide_eq_true c1]
      refine Ev.step (f := fun _ => some true) (fun k => ?_) (Ev.now _)
      simp only [lysimeterlaw19_RollupBuckets.j0]
      rw [if_pos trivial]
    · rw [decide_eq_false c1]
      have hb : Roll.inB l.length (l.map rollup_Buckets.to) w = true := by
        refine Roll.inB_iff.2 ⟨by omega, fun s hs => ?_, hw⟩
        obtain ⟨y, hy, rfl⟩ := List.mem_map.mp hs
        exact hin y hy
      have e1 : rollup_Buckets.f l w = some ((Roll.bucketsS (l.map rollup_Buckets.to) w).1.map rollup_Buckets.fr, (Roll.bucketsS (l.map rollup_Buckets.to) w).2) := by
        unfold rollup_Buckets.f
        rw [if_pos hb]
      have e2 : lysimeterref16_Buckets.f l w = some ((Roll.bucketsS (l.map rollup_Buckets.to) w).1.map rollup_Buckets.fr, (Roll.bucketsS (l.map rollup_Buckets.to) w).2) := by
        unfold lysimeterref16_Buckets.f
        exact if_pos hb
      have hl := buckets_len (l.map rollup_Buckets.to) w
      rw [List.length_map] at hl
      obtain ⟨a, ha⟩ : ∃ a, (Roll.bucketsS (l.map rollup_Buckets.to) w).1.map rollup_Buckets.fr = a := ⟨_, rfl⟩
      obtain ⟨e, he⟩ : ∃ e, (Roll.bucketsS (l.map rollup_Buckets.to) w).2 = e := ⟨_, rfl⟩
      have hla : a.length ≤ 100000 := by rw [← ha, List.length_map]; omega
      rw [ha, he] at e1 e2
      refine Ev.step (f := fun k => lysimeterlaw19_Same.f k a a) (fun k => ?_) (b_same_ev a hla)
      simp only [lysimeterlaw19_RollupBuckets.j0]
      rw [if_neg (by simp), e1, Option.bind_some, e2, Option.bind_some]
      show (if e = e then ((lysimeterlaw19_Same.f k a a).bind fun t123 => some t123) else some false) = _
      rw [if_pos rfl]
      cases lysimeterlaw19_Same.f k a a <;> rfl
end Go.Proofs.Ytdglifoakdkheaa.Pure
end
section
namespace Go.Proofs.Ytdglifoakdkheaa.rollupBuckets
open Go.ChangeShapes Go.WideShapes Go.ChangeAt Go.RowKit Go.Proofs.Ytdglifoakdkheaa.Rb
open Go.Proofs.YtdglifoakdkheaaW.PrintWords Go.Proofs.YtdglifoakdkheaaW.PrintLast
open Go.ChangeMaps (open_string shut_string)
set_option linter.unusedVariables false
theorem own : ownKnob Try.prog.godebug = none := by kernel_rfl
theorem laidOut : laidOutB Try.prog = true := by kernel_rfl
def IsRow (k : IntKind) (w : World) (a : Option Addr) (len cap : Nat) (zs : List Int) : Prop :=
  (a = none ∧ len = 0 ∧ cap = 0 ∧ zs = []) ∨
  ∃ x, a = some x ∧ len ≤ cap ∧ cap ≤ maxLen ∧ zs.length = cap ∧ (∀ i, i < zs.length → w.cell? (x.add i) = some (.int k (zs.getD i 0))) ∧ ∀ n ∈ zs, (Lit.int k n).wf = true
theorem cells41 : Try.prog.cellsOf 41 = 2 := by kernel_rfl
theorem cellsF41_3 : Try.prog.cellsOf 3 = 1 := by kernel_rfl
theorem bytes41 : Try.prog.bytesOf 41 = 16 := by kernel_rfl
theorem open_sl41 {H : Type} {enc : TypeId × Value → H} {W : World} {base : Nat} {spare : Nat → Bool} {held : Bool} {a : Option Addr} {len cap fuel : Nat} {x : DataW H × List MemPlace}
    (h : DataW.trod enc Try.prog W base spare held fuel 32 [.slice a len cap] = some x) :
    ∃ l : List S41, len = l.length ∧ Kd.C k41 W a l.length l ∧ l.length ≤ maxLen ∧ l.length ≤ cap ∧ (∀ y ∈ l, (Lit.int .i64 y.f0).wf = true ∧ (Lit.int .i64 y.f1).wf = true) ∧ (∃ D R, x.1 = .slice D R ∧ l.length ≤ D.length + R.length ∨ l = []) := by
  rcases Deep.open_slice Try.underlying32 h with ⟨hcs, _⟩ | ⟨x, l, c, m, n, D, Pl, hcs, _, hl, hm, hmm, hx0, hx⟩
  · simp only [List.cons.injEq, Value.slice.injEq, and_true] at hcs
    obtain ⟨rfl, rfl, rfl⟩ := hcs
    exact ⟨[], rfl, Kd.C_nil _ _, by simp, by simp, by simp, [], [], .inr rfl⟩
  · simp only [List.cons.injEq, Value.slice.injEq, and_true] at hcs
    obtain ⟨rfl, rfl, rfl⟩ := hcs
    have hlm : len ≤ m := by rw [hmm]; split <;> omega
    have key : ∀ i, i < len → ∃ y : S41, ((Lit.int .i64 y.f0).wf = true ∧ (Lit.int .i64 y.f1).wf = true) ∧ ∀ j u, [Value.int .i64 y.f0, Value.int .i64 y.f1][j]? = some u → W.cell? (x.add (i * 2 + j)) = some u := by
      intro i hi
      obtain ⟨cs', h1, h2⟩ := hx i (by omega)
      rw [cells41] at h1
      obtain ⟨xs, n', _, _, hlen, hxl, hf⟩ := DataW.trod_struct Try.underlying41 h2
      rw [cells41] at hlen
      obtain ⟨_, _, hcell⟩ := World.cells?_some h1
      match cs', hlen with
      | [c0, c1], _ =>
        have g0 := hf 0 _ rfl
        obtain ⟨n0, e0, _, w0⟩ := DataW.trod_int Try.underlying3 (g0.trans (List.getElem?_eq_getElem (by rw [hxl]; decide)))
        obtain rfl : c0 = .int .i64 n0 := by simpa [cellsF41_3] using e0
        have g1 := hf 1 _ rfl
        obtain ⟨n1, e1, _, w1⟩ := DataW.trod_int Try.underlying3 (g1.trans (List.getElem?_eq_getElem (by rw [hxl]; decide)))
        obtain rfl : c1 = .int .i64 n1 := by simpa [cellsF41_3] using e1
        refine ⟨⟨n0, n1⟩, ⟨w0, w1⟩, ?_⟩
        intro j u hu
        have hj : j < 2 := by obtain ⟨z, _⟩ := List.getElem?_eq_some_iff.1 hu; simpa using z
        have z := hcell j hj
        rw [Deep.add_add] at z
        rw [z]; exact hu
    obtain ⟨f, hf⟩ : ∃ f : Nat → S41, ∀ i, i < len → ((Lit.int .i64 (f i).f0).wf = true ∧ (Lit.int .i64 (f i).f1).wf = true) ∧ ∀ j u, [Value.int .i64 (f i).f0, Value.int .i64 (f i).f1][j]? = some u → W.cell? (x.add (i * 2 + j)) = some u := by
      haveI : Inhabited S41 := ⟨z41⟩
      exact Deep.choose_lt key
    refine ⟨(List.range len).map f, by simp, ⟨rfl, by simp only [List.length_map, List.length_range]; unfold maxLen at hm; omega, fun hn => ⟨x, rfl, fun j p hp => ?_⟩⟩, by simp only [List.length_map, List.length_range]; omega, by simpa using hl, ?_, ?_⟩
    · obtain ⟨hj, rfl⟩ := List.getElem?_eq_some_iff.1 hp
      simp only [List.length_map, List.length_range] at hj
      simp only [List.getElem_map, List.getElem_range]
      refine ⟨[Value.int .i64 (f j).f0, Value.int .i64 (f j).f1], rfl, k41_mk W (f j), fun i u hu => ?_⟩
      exact (hf j hj).2 i u hu
    · intro y hy
      simp only [List.mem_map, List.mem_range] at hy
      obtain ⟨i, hi, rfl⟩ := hy
      exact (hf i hi).1
    · refine ⟨_, _, .inl ⟨by rw [hx0], ?_⟩⟩
      simp only [List.length_map, List.length_range]
      omega
set_option maxRecDepth 100000 in
theorem lifted (os : Os) (started : os.Started) (H : Type) (enc : TypeId × Value → H) :
    ReturnsInHanded {} Try.checked os 8 .any (Rows.rollupBucketsSpec.pre6 enc Try.prog Try.f8 Rows.rollupBucketsRow.domain false) (Rows.rollupBucketsSpec.post enc Try.prog Try.f8 false true false false) := by
  refine returnsInHanded_of_change_sized (C := Try.checked) own started (by kernel_rfl) Try.func8
    (ChangeSpec.witness6 (enc := enc) (C := Try.checked) false ⟨#[], #[.slice none 0 0, .int .i64 0], []⟩ 8 (by kernel_rfl) (by kernel_rfl) (by kernel_rfl) (by kernel_rfl)) ?_
  intro W base args ds gs before hval0 hW hcnd hsz0 _
  have hsz : (DataW.weightsEach Try.prog (Try.f8.params.toList ++ Rows.rollupBucketsSpec.plain.varTypes Try.prog) (ds ++ gs)).all (· ≤ reachBytes) = true := hsz0
  have hval : ∀ (j : Nat) t v, Try.f8.params[j]? = some t → args[j]? = some v → Value.okWide Try.prog W .any base t v := hval0
  have hW' := hW
  obtain ⟨p, q, hA0, hV, rfl, hfz, hnd⟩ := hW
  have hA : DataW.TrodAll enc Try.prog W 0 (fun _ => true) true Try.f8.params.toList args.toList ds p := hA0
  rw [Try.params8] at hA hval hsz
  obtain ⟨v0, vs0, d0, ds0, p0, q0, hargs, rfl, rfl, h0, r0⟩ := trodAll_cons hA
  obtain ⟨v1, vs1, d1, ds1, p1, q1, rfl, rfl, rfl, h1, r1⟩ := trodAll_cons r0
  obtain ⟨rfl, rfl, rfl⟩ := trodAll_nil r1
  obtain rfl : args = #[v0, v1] := by cases args; simp_all
  obtain ⟨rfl, rfl⟩ := trodVars_none hV
  obtain ⟨a0, len0, cap0, rfl⟩ := okWide_slice Try.underlying32 (hval 0 32 v0 rfl rfl)
  have k0 := h0
  have lt0 : ∀ x ∈ p0, x.block < W.heap.size := by obtain ⟨m, hm⟩ := k0; exact DataW.trod_lt m _ _ _ hm
  obtain ⟨l0, rfl, hr0, hm0, hc0, hw0, y0⟩ : ∃ l : List S41, len0 = l.length ∧ Kd.C k41 W a0 l.length l ∧ l.length ≤ maxLen ∧ l.length ≤ cap0 ∧ (∀ y ∈ l, (Lit.int .i64 y.f0).wf = true ∧ (Lit.int .i64 y.f1).wf = true) ∧ l.length * 16 ≤ 140737488351232 := by
    obtain ⟨fuel, hf⟩ := h0
    obtain ⟨l, e1, e2, e3, e4, e5, D, R, e6⟩ := open_sl41 (by simpa [Value.cells] using hf)
    refine ⟨l, e1, e2, e3, e4, e5, ?_⟩
    rcases e6 with ⟨e6, e7⟩ | rfl
    · have e6' : d0 = .slice D R := e6
      subst e6'
      have z := sized_slice hsz (j := 0) (t := 32) (e := 41) rfl rfl Try.underlying32
      rw [bytes41] at z
      unfold reachBytes at z
      have z1 := Nat.mul_le_mul_right 16 e7
      omega
    · simp
  obtain ⟨a1, rfl, rfl, rfl, w1⟩ := open_int Try.underlying3 (hval 1 3 v1 rfl rfl) h1
  clear hA0 hval0 hsz0 hsz
  obtain ⟨k, hk⟩ := Pure.RollupBuckets l0 a1 hm0 y0 hw0 w1
  refine (lysimeterlaw19_RollupBuckets.calls k _ _ l0 a1 true W hr0 hc0 hk).mono ?_
  rintro e W' ⟨rfl, bel0⟩
  have bel : Below W.heap.size W W' := bel0
  exact ⟨_, rfl, _, _, _, [], _, [], hW', trodAll_mk1 (shut_bool Try.underlying4 _), (trodAll_cons_mk (Below.trod laidOut (by kernel_rfl) (of_decide_eq_true (by kernel_rfl)) k0 bel lt0) (trodAll_cons_mk (shut_int Try.underlying3 w1) trodAll_mk0)), rfl, bel.frame _, fun h => by cases h⟩
theorem over : Rows.rollupBucketsRow.holds Try.pinned (OpenSpec.ofChange Rows.rollupBucketsSpec) :=
  OpenClaim.holds_of_wide 8 Try.f8 rfl rfl rfl rfl rfl rfl rfl ⟨rfl, rfl, rfl, rfl, rfl⟩ rfl rfl rfl rfl rfl (by kernel_rfl) Try.func8 (by kernel_rfl)
    (of_decide_eq_true (by kernel_rfl)) (by unfold Func.isWrapper; first | (rw [if_pos (by decide +kernel)]; kernel_rfl) | (rw [if_neg (by decide +kernel)]; exact ⟨rfl, rfl⟩))
    (fun os started H enc _ => lifted os started H enc)
theorem proved : Rows.RollupBucketsSaid := over
#print axioms proved
end Go.Proofs.Ytdglifoakdkheaa.rollupBuckets
namespace Go.Proofs.Ytdglifoakdkheaa
theorem rollupBuckets_holds : Rows.RollupBucketsSaid := rollupBuckets.proved
end Go.Proofs.Ytdglifoakdkheaa
end
