-- Laid together by wip/shake.py out of: TBuc Rollx1 Rollx4 Rollx5 RolSpec BucC RolX
import Derived.Test.YtdglifoakdkheaaRollupBucketsm3
import Derived.Shelf.Abstract
import Derived.Shelf.RegionOpen
import Derived.OwnWalkIn
import Derived.TacticsInMore
import Derived.LoopNIn
import Derived.LoopIn
import Derived.StillTail
import Derived.StillTailTactics
section
namespace Go.Proofs.Ytdglifoakdkheaa.Roll
open Go.RowKit Go.Shelf Go.Proofs.YtdglifoakdkheaaW.PrintWords Go.Proofs.YtdglifoakdkheaaW.PrintLast Go.Proofs.YtdglifoakdkheaaW.PrintMore
attribute [local go_sem] Oper.semAt_some
set_option linter.unusedVariables false
def v52 (x : S52) : Value := .agg #[.int .i64 x.f0, .int .i64 x.f1, .int .i64 x.f2, .int .i64 x.f3, .int .i64 x.f4, .int .i64 x.f5]
theorem take_one_more (l0 : List S41) (k : Nat) (h : k < l0.length) : (l0.take (k + 1)).map rollup_one = (l0.take k).map rollup_one ++ [rollup_one (rd_T41 l0 (k : Int))] := by
  rw [List.take_succ_eq_append_getElem h, List.map_append]
  simp [rd_T41, List.getD_eq_getElem?_getD, List.getElem?_eq_getElem h]
set_option maxHeartbeats 4000000 in
set_option maxRecDepth 100000 in
theorem one_seq (n : Nat) (hn : 1 ≤ n) (bs : Nat) (A0 : Option Addr) (c0 : Nat) (l0 : List S41) (w : World) (hb : w.cell? ⟨bs, 0, none⟩ = some (.slice A0 l0.length c0)) (hr0 : Kd.C k41 w A0 l0.length l0) (hlen : l0.length ≤ 100000) :
    SeqJ Fence.wide n Try.prog 44 #[.pointer (some ⟨bs, 0, none⟩)] (fun x => #[v52 x]) 0 (l0.map rollup_one) w := by
  intro l J W hW hJ hY h0
  refine callsIn_of_wp Try.func44 rfl trivial ?_ rfl
  simp only [Try.ntmps44, List.size_toArray, List.length_cons, List.length_nil, Nat.reduceAdd, Nat.reduceSub, Array.replicate_succ, Array.replicate_zero, List.push_toArray, List.append_toArray, List.nil_append, List.cons_append]
  have hb' : W.cell? ⟨bs, 0, none⟩ = some (.slice A0 l0.length c0) := (hW.cell (p := ⟨bs, 0, none⟩) (World.block_lt_of_cell? _ _ hb)).trans hb
  gi_wp2
  gi_loopw [7] (fun v wr => ∃ k K : Nat, v = .int .i64 (k : Int) ∧ k ≤ l0.length ∧ K ≤ wr.heap.size ∧ J ((l0.take k).map rollup_one) K wr ∧ Below w.heap.size w wr ∧ W.heap.size ≤ wr.heap.size)
    (fun v wr => l0.length - (intOf v).toNat)
  case atStart => exact ⟨0, _, rfl, Nat.zero_le _, Nat.le_refl _, by simpa using h0, hW, Nat.le_refl _⟩
  case round =>
    obtain ⟨k, K, rfl, hk, hKw, hJs, hB, hsz⟩ := hrel
    by_cases c : k < l0.length
    · have c1 : decide ((k : Int) < (l0.length : Int)) = true := decide_eq_true (by omega)
      obtain ⟨ad, rfl, r0, r1⟩ := at_T41 (Kd.C_below hr0 hB) (k : Int) (by omega) (by omega)
      rw [Int.toNat_natCast] at r0 r1
      obtain ⟨fn, tmps, assign, body, hy, hR⟩ := hY ((l0.take k).map rollup_one) (rollup_one (rd_T41 l0 (k : Int))) K (wr.alloc (.cells #[.int .i64 (rd_T41 l0 (k : Int)).f0, .int .i64 (rd_T41 l0 (k : Int)).f1] 41))
        (hJ _ _ _ _ none hJs (World.grownBy_alloc _ _ none) (by simp)) (by simp; omega) (by simp; omega) (by rw [← take_one_more l0 k c]; exact (List.take_prefix _ _).map _)
      dsimp only [v52, rollup_one] at hy
      gi_wp2
      refine hR.mono ?_
      rintro e W' ⟨rfl, hJ', hK⟩
      gi_wp2
      go_roundw
      case rel =>
        refine ⟨k + 1, W'.heap.size, ?_, by omega, Nat.le_refl _, ?_, ?_, ?_⟩
        · simp
        · rw [take_one_more l0 k c]; exact hJ'
        · exact (hB.alloc hB.size _).trans hK.below
        · have := hK.below.size
          simp at this
          omega
      case measure =>
        simp [intOf]
        omega
    · have c1 : decide ((k : Int) < (l0.length : Int)) = false := decide_eq_false (by omega)
      gi_wp2
      go_end0
      refine ⟨⟨_, rfl⟩, ?_⟩
      have hk' : k = l0.length := by omega
      subst hk'
      rw [List.take_length] at hJs
      exact ⟨_, hKw, hJs⟩
def cs52 (x : S52) : List Value := [.int .i64 x.f0, .int .i64 x.f1, .int .i64 x.f2, .int .i64 x.f3, .int .i64 x.f4, .int .i64 x.f5]
def flat52 (xs : List S52) : List Value := xs.flatMap cs52
theorem flat52_snoc (xs : List S52) (x : S52) : flat52 (xs ++ [x]) = flat52 xs ++ cs52 x := by simp [flat52]
theorem reps52 (w : World) (base : Nat) (ok : Nat → Prop) (xs : List S52) : Reps (k52.M w base ok) 6 xs (flat52 xs) := by
  have key : ∀ (ys pre : List S52) (cs : List Value), Reps (k52.M w base ok) 6 pre cs → Reps (k52.M w base ok) 6 (pre ++ ys) (cs ++ flat52 ys) := by
    intro ys
    induction ys with
    | nil => intro pre cs h; simpa [flat52] using h
    | cons y ys ih =>
      intro pre cs h
      have h1 := ih (pre ++ [y]) (cs ++ cs52 y) (h.snoc (k52_mkM w base ok y) rfl)
      simpa [flat52] using h1
  simpa using key xs [] [] (Reps.none _ _)
theorem reps_rows {w : World} {base : Nat} {v : Value} {xs : List S52} (h : w.ownsRow base 52 6 v xs.length (flat52 xs)) : Kd.R k52 52 w base (fun _ => True) v xs :=
  ⟨fun _ _ => trivial, _, h, reps52 _ _ _ _⟩
theorem row_other {w w' : World} {base n : Nat} {v : Value} {xs : List Value} {row : Option Nat} (h : w.ownsRow base 52 6 v n xs) (hg : w.grownBy w' row) (hr : ∀ r, row = some r → r < base) : w'.ownsRow base 52 6 v n xs := by
  refine own_move h (fun k hk => hg.block k (own_lt h k hk) (fun e => ?_))
  have h1 := own_base h k hk
  have h2 := hr k e.symm
  omega
theorem row_otherK {w w' : World} {base n K : Nat} {v : Value} {xs : List Value} {row : Option Nat} (h : w.ownsRow base 52 6 v n xs) (hK : ∀ j, v.ownBlock = some j → j < K) (hg : w.grownBy w' row) (hr : ∀ r, row = some r → r < base ∨ K ≤ r) : w'.ownsRow base 52 6 v n xs := by
  refine own_move h (fun k hk => hg.block k (own_lt h k hk) (fun e => ?_))
  have h1 := own_base h k hk
  have h2 := hr k e.symm
  have h3 := hK k hk
  omega
theorem appended_J {W w1 : World} {n₀ a b base B K : Nat} {v v' : Value} {k m : Nat} {xs ys : List Value} {tmp : Obj}
    (hv : Boxed W B 42 v) (hrow : W.ownsRow base 52 6 v k xs) (hB : n₀ ≤ B) (ha : B < a) (hb : b ≤ base) (hn : n₀ ≤ base) (hW : n₀ ≤ W.heap.size) (hbW : b ≤ W.heap.size)
    (hown' : w1.ownsRow base 52 6 v' m ys) (hgrow : (W.alloc tmp).grownBy w1 v.ownBlock) (haK : a ≤ K) (hvK : ∀ j, v.ownBlock = some j → j < K) :
    Boxed w1 B 42 v ∧ Boxed (w1.setCell ⟨B, 0, none⟩ v') B 42 v' ∧ (w1.setCell ⟨B, 0, none⟩ v').ownsRow base 52 6 v' m ys ∧ KeptIn n₀ a b K W (w1.setCell ⟨B, 0, none⟩ v') ∧ ∀ j, v'.ownBlock = some j → j < (w1.setCell ⟨B, 0, none⟩ v').heap.size := by
  have hne : (42 : Nat) ≠ 52 := by decide
  have hv1 : Boxed w1 B 42 v := (hv.alloc tmp).kept hgrow (hv.not_row hne hrow)
  have hbase : ∀ j, v.ownBlock = some j → base ≤ j := fun j hj => own_base hrow j hj
  have hnew := hown'.kept (grownBy_setCell' w1 B v') (.inr (hv1.not_row hne hown').symm)
  refine ⟨hv1, hv1.set v', hnew, ⟨?_, ?_, ?_⟩, fun j hj => own_lt hnew j hj⟩
  · exact (((Below.refl n₀ W).alloc hW tmp).grown hgrow (by simp; omega) fun j ej => by have := hbase j ej; omega).setCell (p := ⟨B, 0, none⟩) hB v'
  · intro i h1 h2
    rw [Below.heap_setCell _ _ _ i (by simp; omega), hgrow.block i (by simp; omega) (fun e => by have := hbase i e.symm; omega)]
    exact Below.heap_alloc _ _ _ (by omega)
  · intro i h1 h2
    rw [Below.heap_setCell _ _ _ i (by simp; omega), hgrow.block i (by simp; omega) (fun e => by have := hvK i e.symm; omega)]
    exact Below.heap_alloc _ _ _ (by omega)
theorem cells_at {w : World} {b : Nat} {x : S52} (h : w.heap[b]? = some (.cells (cs52 x).toArray 52 (0, 0))) : w.cell? ⟨b, 0, none⟩ = some (.int .i64 x.f0) ∧ w.cell? ⟨b, 1, none⟩ = some (.int .i64 x.f1) ∧ w.cell? ⟨b, 2, none⟩ = some (.int .i64 x.f2) ∧ w.cell? ⟨b, 3, none⟩ = some (.int .i64 x.f3) ∧ w.cell? ⟨b, 4, none⟩ = some (.int .i64 x.f4) ∧ w.cell? ⟨b, 5, none⟩ = some (.int .i64 x.f5) := by
  refine ⟨?_, ?_, ?_, ?_, ?_, ?_⟩ <;> simp [World.cell?, h, cs52]
theorem cell_new_row (w : World) (cs : Array Value) (t : TypeId) (j : Nat) (u : Value) (h : cs[j]? = some u) : (w.alloc (.cells cs t)).cell? ((⟨w.heap.size, 0, none⟩ : Addr).add j) = some u := by
  have e := World.alloc_heap_new w (.cells cs t)
  have key : ∀ p : Addr, p.block = w.heap.size → p.off = j → p.spot = none → (w.alloc (.cells cs t)).cell? p = some u := by
    intro p h1 h2 h3
    unfold World.cell?
    rw [h1, e, h2, h3]
    simpa using h
  refine key _ ?_ ?_ ?_ <;> (unfold Addr.add; split <;> simp_all)
set_option maxHeartbeats 4000000 in
set_option maxRecDepth 100000 in
theorem gathered_in (n : Nat) (hn : 3 ≤ n) (gf : Nat) (lb : Array Value) (c : Nat) (xs : List S52) (hxs : xs.length ≤ 100000) (w : World) (eg : ∀ args w, (callFunc gf args).run Try.prog w = .ok (.enter gf args) w)
    (hseq : SeqJ Fence.wide (n - 1) Try.prog gf lb (fun x => #[v52 x]) c xs w) :
    CallsIn Fence.wide n Try.prog 45 #[.func (.func gf) #[] lb] w fun e w' => ∃ v, e = .returned v ∧ Kd.R k52 52 w' w.heap.size (fun _ => True) v xs ∧ Below w.heap.size w w' := by
  obtain ⟨i0, hi, hz0, hz1, hz2⟩ := info_parts info52
  have hu42 := Try.underlying42
  refine callsIn_of_wp_marks Try.func45 rfl trivial ?_ rfl
  simp only [Try.ntmps45, List.size_toArray, List.length_cons, List.length_nil, Nat.reduceAdd, Nat.reduceSub, Array.replicate_succ, Array.replicate_zero, List.push_toArray, List.append_toArray, List.nil_append, List.cons_append]
  gi_wp2
  obtain ⟨W, hW⟩ : ∃ W, w.alloc (.cells #[.slice none 0 0] 42) = W := ⟨_, rfl⟩
  rw [hW]
  have hsz : W.heap.size = w.heap.size + 1 := by rw [← hW]; simp
  have hB0 : Below w.heap.size w W := by rw [← hW]; exact (Below.refl _ w).alloc (Nat.le_refl _) _
  have bO : Boxed W w.heap.size 42 (.slice none 0 0) := by rw [← hW]; exact Boxed.new w 42 _
  refine wpIn_rangeFunc_J (c := c) (xs := xs) (enc := fun x => #[v52 x]) (w0 := w) rfl (by omega) rfl trivial eg hseq hB0 (fun _ => rfl)
    (fun pre K V => W.heap.size ≤ K ∧ ∃ v, Boxed V w.heap.size 42 v ∧ V.ownsRow (W.heap.size + 2 + c) 52 6 v pre.length (flat52 pre) ∧ Below w.heap.size w V ∧ ∀ j, v.ownBlock = some j → j < K) ?abides ?start ?round ?done
  case abides =>
    rintro pre K V V' row ⟨hWK, v, hv, hR, hB, hvK⟩ hg hr
    refine ⟨hWK, v, hv.kept hg (fun e => by have := hr _ e.symm; omega), row_otherK hR hvK hg (fun r e => by have := hr r e; omega), hB.grown hg (by have := hB.size; omega) (fun k e => by have := hr _ e; omega), hvK⟩
  case start =>
    exact ⟨Nat.le_refl _, _, bO, World.ownsRow_nil _ _ _ _, hB0, fun j e => by cases e⟩
  case round =>
    rintro l pre x K V ⟨hWK, v, hv, hR, hB, hvK⟩ hKV hge hpx
    have hlt : pre.length < xs.length := by have := hpx.length_le; simp at this; omega
    have hBs := hB.size
    simp only [v52]
    have HWK := Aside0.mk hWK
    have HKV := Aside0.mk hKV
    have HVK := Aside0.mk hvK
    clear hWK hKV hvK
    gi_wp2
    refine ⟨⟨(Below.refl _ _).alloc hBs _, fun k h1 h2 => Below.heap_alloc _ _ _ (by omega), fun k h1 h2 => Below.heap_alloc _ _ _ h2⟩, ?_⟩
    intro V2 hg2 hs2
    have hv2 : Boxed V2 w.heap.size 42 v := (hv.alloc _).kept hg2 (by simp; omega)
    have hR2 : V2.ownsRow (W.heap.size + 2 + c) 52 6 v pre.length (flat52 pre) := row_other (row_other hR (World.grownBy_alloc V _ none) (by simp)) hg2 (fun r e => by cases e; omega)
    have hB2 : Below w.heap.size w V2 := (hB.alloc hBs _).grown hg2 (by simp; omega) (fun k e => by cases e; omega)
    have hx2 : V2.heap[V.heap.size]? = some (.cells (cs52 x).toArray 52 (0, 0)) := (hg2.block _ (by simp) (by simp <;> omega)).trans (World.alloc_heap_new V _)
    obtain ⟨x0, x1, x2, x3, x4, x5⟩ := cells_at hx2
    simp at hs2
    have HS2 := Aside0.mk hs2
    have HSZ := Aside0.mk hsz
    clear hs2 hsz
    have hc := hv2.cell
    gi_wp2_with (gi_at_builtin; refine wpListIn_append_own _ rfl _ _ 42 rfl (W.heap.size + 2 + c) 52 i0 (.agg #[(.int .i64 0), (.int .i64 0), (.int .i64 0), (.int .i64 0), (.int .i64 0), (.int .i64 0)]) 6 48 Try.underlying42 hi hz0 hz1 hz2 rfl (by decide) _ _ _ rfl (row_other hR2 (World.grownBy_alloc V2 _ none) (by simp)) ⟨V2.heap.size, 0, none⟩ 1 1 (cs52 x) rfl rfl ?c1 ?c2 ?c3 ?c4 ?c5 ?_)
    case c1 => intro j u hj; exact cell_new_row V2 (cs52 x).toArray 52 j u (by simpa using hj)
    case c2 => intro u hu; simp [cs52] at hu; rcases hu with rfl | rfl | rfl | rfl | rfl | rfl <;> rfl
    case c3 => unfold maxLen; omega
    case c4 => omega
    case c5 => have := HS2.out; simp; omega
    intro v' w1 hown' hgrow _
    obtain ⟨g', cap', rfl⟩ := ownsRow_succ hown'
    obtain ⟨hv1, hv3, hr3, hk3, hk4⟩ := appended_J (n₀ := w.heap.size) (a := W.heap.size) (b := W.heap.size + 2 + c) (K := K) hv2 hR2 (Nat.le_refl _) (by have := HSZ.out; omega) (Nat.le_refl _) (by have := HSZ.out; omega) hB2.size (by have := HS2.out; omega) hown' hgrow HWK.out HVK.out
    have HK4 := Aside0.mk hk4
    clear hk4
    have hc1 := hv1.cell
    have hf1 := hv1.frozen
    gi_wp2
    refine ⟨hk3, by have := hk3.below.size; have := HS2.out; have := HWK.out; have := HKV.out; omega, _, hv3, ?_, hB2.trans hk3.below, HK4.out⟩
    rw [flat52_snoc, List.length_append]
    exact hr3
  case done =>
    rintro K0 V ⟨hWK, v, hv, hR, hB, hvK⟩ _ _ hK
    clear hvK hWK
    have hc := hv.cell
    have HSZ := Aside0.mk hsz
    clear hsz
    gi_wp2
    refine ⟨by simp, .inl ⟨_, _, rfl, run_takeDeferred hK, ?_⟩⟩
    have hsz := HSZ.out
    exact ⟨_, results_tmp rfl _ _ _, v, rfl, Kd.R_lower (reps_rows (ownsRow_putObj hR _ hK rfl)) (by omega), hB.trans (belowK_b (w := w) (Nat.le_refl _) V W.heap.size _ _ (by omega) hK rfl rfl)⟩
theorem steps_append (k : Nat) (a1 : Int) : ∀ (l m : List S52) st, rollup_steps k a1 (l ++ m) st = (rollup_steps k a1 l st).bind (rollup_steps k a1 m) := by
  intro l
  induction l with
  | nil => intro m st; rfl
  | cons b l ih =>
    intro m st
    show (rollup_step k a1 st b).bind (rollup_steps k a1 (l ++ m)) = ((rollup_step k a1 st b).bind (rollup_steps k a1 l)).bind (rollup_steps k a1 m)
    cases rollup_step k a1 st b with
    | none => rfl
    | some st' => exact ih m st'
theorem grownBy_set (W : World) (p : Addr) (v : Value) : W.grownBy (W.setCell p v) (some p.block) :=
  ⟨rfl, rfl, rfl, (KeepsWalks.setCell W _ v).size, fun k _ hk => Below.heap_setCell _ _ _ k (fun e => hk (by rw [e]))⟩
theorem grownBy_drewN (W : World) (n : Nat) : W.grownBy (W.drewN n) none := ⟨rfl, rfl, rfl, Nat.le_refl _, fun _ _ _ => rfl⟩
theorem KeptIn.set {n₀ a b K : Nat} {W W' : World} (h : KeptIn n₀ a b K W W') (p : Addr) (v : Value) (h0 : n₀ ≤ p.block) (h1 : p.block < a) (hK : a ≤ K) : KeptIn n₀ a b K W (W'.setCell p v) :=
  ⟨h.below.setCell h0 v, fun k h2 h3 => (Below.heap_setCell _ _ _ k (by omega)).trans (h.block k h2 h3), fun k h2 h3 => (Below.heap_setCell _ _ _ k (by omega)).trans (h.late k h2 h3)⟩
theorem KeptIn.drewN {n₀ a b K : Nat} {W W' : World} (h : KeptIn n₀ a b K W W') (n : Nat) : KeptIn n₀ a b K W (W'.drewN n) :=
  ⟨pw_below_drewN h.below n, fun k h2 h3 => h.block k h2 h3, fun k h2 h3 => h.late k h2 h3⟩
theorem KeptIn.grow {n₀ a b K : Nat} {W W' W'' : World} (h : KeptIn n₀ a b K W W') (hB : Below W'.heap.size W' W'') (h0 : n₀ ≤ W'.heap.size) (h1 : b ≤ W'.heap.size) : KeptIn n₀ a b K W W'' :=
  ⟨h.below.trans (hB.mono h0), fun k h2 h3 => (hB.block k (by omega)).trans (h.block k h2 h3), fun k h2 h3 => (hB.block k (by have := h.below.size; omega)).trans (h.late k h2 h3)⟩
theorem step_first {k : Nat} {a1 : Int} {s s' : List S52 × Option S52} {b : S52} (h : rollup_step k a1 s b = some s') : s.1 <+: s'.1 := by
  unfold rollup_step at h
  obtain ⟨t, _, h⟩ := Option.bind_eq_some_iff.mp h
  obtain ⟨d, c⟩ := s
  cases c with
  | none =>
    obtain ⟨n, _, h⟩ := Option.bind_eq_some_iff.mp h
    cases h
    exact List.prefix_refl _
  | some now =>
    dsimp only at h
    split at h
    · obtain ⟨n, _, h⟩ := Option.bind_eq_some_iff.mp h
      cases h
      exact List.prefix_refl _
    · obtain ⟨n, _, h⟩ := Option.bind_eq_some_iff.mp h
      cases h
      exact List.prefix_append _ _
theorem steps_first {k : Nat} {a1 : Int} : ∀ (l : List S52) {s s' : List S52 × Option S52}, rollup_steps k a1 l s = some s' → s.1 <+: s'.1 := by
  intro l
  induction l with
  | nil => intro s s' h; cases h; exact List.prefix_refl _
  | cons b l ih =>
    intro s s' h
    obtain ⟨m, h1, h2⟩ := Option.bind_eq_some_iff.mp (show (rollup_step k a1 s b).bind (rollup_steps k a1 l) = some s' from h)
    exact (step_first h1).trans (ih h2)
theorem out_first (s : List S52 × Option S52) : s.1 <+: rollup_out s := by
  obtain ⟨d, c⟩ := s
  cases c with
  | none => exact List.prefix_refl _
  | some now => exact List.prefix_append _ _
theorem yield_inner {n m l l2 : Nat} {P : Program} {args : Array Value} {W : World} {R : Ending → World → Prop} (h : YieldAt Fence.wide n P l args W R) : YieldAt (Fence.wide.inRound l2) m P l args W R := by
  obtain ⟨fn, tmps, assign, body, hy, hR⟩ := h
  exact ⟨fn, tmps, assign, body, hy, trivial, fun c cs _ => hR.2 c cs (room_wide _)⟩
set_option maxHeartbeats 4000000 in
set_option maxRecDepth 100000 in
theorem joined_seq (k n : Nat) (hn : 4 ≤ n) (a1 : Int) (gf : Nat) (lb : Array Value) (xs : List S52) (st : List S52 × Option S52) (bl bw : Nat) (w : World) (eg : ∀ args w, (callFunc gf args).run Try.prog w = .ok (.enter gf args) w)
    (hbl : w.cell? ⟨bl, 0, none⟩ = some (.func (.func gf) #[] lb)) (hbw : w.cell? ⟨bw, 0, none⟩ = some (.int .i64 a1))
    (hseq : SeqJ Fence.wide (n - 1) Try.prog gf lb (fun x => #[v52 x]) 0 xs w) (hst : rollup_steps k a1 xs ([], none) = some st) :
    SeqJ Fence.wide n Try.prog 52 #[.pointer (some ⟨bl, 0, none⟩), .pointer (some ⟨bw, 0, none⟩)] (fun x => #[v52 x]) 5 (rollup_out st) w := by
  intro l J W0 hW0 hJ hY h0
  have hl0 : W0.cell? ⟨bl, 0, none⟩ = some (.func (.func gf) #[] lb) := (hW0.cell (p := ⟨bl, 0, none⟩) (World.block_lt_of_cell? _ _ hbl)).trans hbl
  have hu52 := Try.underlying52
  refine callsIn_of_wp_marks Try.func52 rfl trivial ?_ rfl
  simp only [Try.ntmps52, List.size_toArray, List.length_cons, List.length_nil, Nat.reduceAdd, Nat.reduceSub, Array.replicate_succ, Array.replicate_zero, List.push_toArray, List.append_toArray, List.nil_append, List.cons_append]
  have hB3 : Below w.heap.size w (((W0.alloc (.cells #[.func (.yield l) #[] #[]] 64)).alloc (.cells #[.int .i64 0, .int .i64 0, .int .i64 0, .int .i64 0, .int .i64 0, .int .i64 0] 52)).alloc (.cells #[.bool false] 4)) :=
    ((hW0.alloc hW0.size _).alloc (by have := hW0.size; simp; omega) _).alloc (by have := hW0.size; simp; omega) _
  have hl3 : (((W0.alloc (.cells #[.func (.yield l) #[] #[]] 64)).alloc (.cells #[.int .i64 0, .int .i64 0, .int .i64 0, .int .i64 0, .int .i64 0, .int .i64 0] 52)).alloc (.cells #[.bool false] 4)).cell? ⟨bl, 0, none⟩ = some (.func (.func gf) #[] lb) := (hB3.cell (p := ⟨bl, 0, none⟩) (World.block_lt_of_cell? _ _ hbl)).trans hbl
  gi_wp2
  obtain ⟨W, hW⟩ : ∃ W, ((W0.alloc (.cells #[.func (.yield l) #[] #[]] 64)).alloc (.cells #[.int .i64 0, .int .i64 0, .int .i64 0, .int .i64 0, .int .i64 0, .int .i64 0] 52)).alloc (.cells #[.bool false] 4) = W := ⟨_, rfl⟩
  rw [hW]
  have hsz : W.heap.size = W0.heap.size + 3 := by rw [← hW]; simp
  rw [hW] at hB3
  have b0 : W.heap[W0.heap.size]? = some (.cells #[.func (.yield l) #[] #[]] 64 (0, 0)) := by
    rw [← hW, Below.heap_alloc _ _ _ (by simp; omega), Below.heap_alloc _ _ _ (by simp)]; exact World.alloc_heap_new W0 _
  have b1 : W.heap[W0.heap.size + 1]? = some (.cells (cs52 z52).toArray 52 (0, 0)) := by
    rw [← hW, Below.heap_alloc _ _ _ (by simp)]; have := World.alloc_heap_new (W0.alloc (.cells #[.func (.yield l) #[] #[]] 64)) (.cells #[.int .i64 0, .int .i64 0, .int .i64 0, .int .i64 0, .int .i64 0, .int .i64 0] 52); rwa [World.size_alloc] at this
  have b2 : W.heap[W0.heap.size + 2]? = some (.cells #[.bool false] 4 (0, 0)) := by
    rw [← hW]; have := World.alloc_heap_new ((W0.alloc (.cells #[.func (.yield l) #[] #[]] 64)).alloc (.cells #[.int .i64 0, .int .i64 0, .int .i64 0, .int .i64 0, .int .i64 0, .int .i64 0] 52)) (.cells #[.bool false] 4); rwa [World.size_alloc, World.size_alloc] at this
  have hJW : J [] W0.heap.size W := by
    rw [← hW]
    exact hJ _ _ _ _ none (hJ _ _ _ _ none (hJ _ _ _ _ none h0 (World.grownBy_alloc _ _ none) (by simp)) (World.grownBy_alloc _ _ none) (by simp)) (World.grownBy_alloc _ _ none) (by simp)
  refine wpIn_rangeFunc_J (c := 0) (xs := xs) (enc := fun x => #[v52 x]) (w0 := w) rfl (by omega) rfl trivial eg hseq hB3 (fun _ => rfl)
    (fun pre K V => W0.heap.size + 3 ≤ K ∧ ∃ s1 K', K' ≤ K ∧ rollup_steps k a1 pre ([], none) = some s1 ∧ V.heap[W0.heap.size]? = some (.cells #[.func (.yield l) #[] #[]] 64 (0, 0)) ∧ V.heap[W0.heap.size + 1]? = some (.cells (cs52 (s1.2.getD z52)).toArray 52 (0, 0)) ∧ V.heap[W0.heap.size + 2]? = some (.cells #[.bool s1.2.isSome] 4 (0, 0)) ∧ J s1.1 K' V ∧ Below w.heap.size w V) ?abides ?start ?round ?done
  case abides =>
    rintro pre K V V' row ⟨hK3, s1, K', hKK, h1, c0, c1, c2, hj, hB⟩ hg hr
    have hlt : W0.heap.size + 2 < V.heap.size := (Array.getElem?_eq_some_iff.1 c2).1
    refine ⟨hK3, s1, K', hKK, h1, (hg.block _ (by omega) (fun e => by have := hr _ e.symm; omega)).trans c0, (hg.block _ (by omega) (fun e => by have := hr _ e.symm; omega)).trans c1, (hg.block _ (by omega) (fun e => by have := hr _ e.symm; omega)).trans c2, hJ _ _ _ _ _ hj hg (fun r e => by have := hr r e; omega), hB.grown hg hB.size (fun r e => by have := hr r e; have := hW0.size; omega)⟩
  case start => exact ⟨by omega, ([], none), W0.heap.size, by omega, rfl, b0, b1, b2, hJW, hB3⟩
  case round =>
    rintro l2 pre x K V ⟨hK3, s1, K', hKK, h1, c0, c1, c2, hj, hB⟩ hKV hge hpx
    obtain ⟨rest, hrest⟩ := hpx
    have h2 := hst
    rw [← hrest, steps_append] at h2
    obtain ⟨s2, h2, h4⟩ := Option.bind_eq_some_iff.mp h2
    have hpre : s2.1 <+: rollup_out st := (steps_first rest h4).trans (out_first st)
    have h3 := h2
    rw [steps_append, h1] at h3
    replace h3 : (rollup_step k a1 s1 x).bind (rollup_steps k a1 []) = some s2 := h3
    obtain ⟨s2', h5, e⟩ := Option.bind_eq_some_iff.mp h3
    obtain rfl : s2' = s2 := Option.some.inj e
    clear e h3
    have h3 := h5
    clear h5
    rw [hsz] at hge ⊢
    have hBs := hB.size
    have h0s := hW0.size
    simp only [v52]
    have HKS := Aside0.mk (And.intro hK3 (And.intro hKK hKV))
    clear hK3 hKK hKV
    gi_wp2
    refine ⟨⟨(Below.refl _ _).alloc hBs _, fun k h1 h2 => Below.heap_alloc _ _ _ (by omega), fun k h1 h2 => Below.heap_alloc _ _ _ h2⟩, ?_⟩
    intro V2 hg2 hs2
    have d0 : V2.heap[W0.heap.size]? = some (.cells #[.func (.yield l) #[] #[]] 64 (0, 0)) := (hg2.block _ (by simp <;> omega) (by simp <;> omega)).trans ((Below.heap_alloc _ _ _ (by omega)).trans c0)
    have d1 : V2.heap[W0.heap.size + 1]? = some (.cells (cs52 (s1.2.getD z52)).toArray 52 (0, 0)) := (hg2.block _ (by simp <;> omega) (by simp <;> omega)).trans ((Below.heap_alloc _ _ _ (by omega)).trans c1)
    have d2 : V2.heap[W0.heap.size + 2]? = some (.cells #[.bool s1.2.isSome] 4 (0, 0)) := (hg2.block _ (by simp <;> omega) (by simp <;> omega)).trans ((Below.heap_alloc _ _ _ (by omega)).trans c2)
    have dx : V2.heap[V.heap.size]? = some (.cells (cs52 x).toArray 52 (0, 0)) := (hg2.block _ (by simp) (by simp <;> omega)).trans (World.alloc_heap_new V _)
    have hj2 : J s1.1 K' V2 := hJ _ _ _ _ _ (hJ _ _ _ _ none hj (World.grownBy_alloc _ _ none) (by simp)) hg2 (fun r e => by cases e; omega)
    have hB2 : Below w.heap.size w V2 := (hB.alloc hBs _).grown hg2 (by simp; omega) (fun r e => by cases e; omega)
    simp at hs2
    have HS2 := Aside0.mk hs2
    have HSZ := Aside0.mk hsz
    clear hs2 hsz
    have hw2 : V2.cell? ⟨bw, 0, none⟩ = some (.int .i64 a1) := (hB2.cell (p := ⟨bw, 0, none⟩) (World.block_lt_of_cell? _ _ hbw)).trans hbw
    obtain ⟨y0, y1, y2, y3, y4, y5⟩ := cells_at dx
    obtain ⟨n0, n1, n2, n3, n4, n5⟩ := cells_at d1
    have f0 : V2.cell? ⟨W0.heap.size, 0, none⟩ = some (.func (.yield l) #[] #[]) := by simp [World.cell?, d0]
    have f2 : V2.cell? ⟨W0.heap.size + 2, 0, none⟩ = some (.bool s1.2.isSome) := by simp [World.cell?, d2]
    have z0 : V2.frozen? ⟨W0.heap.size + 1, 0, none⟩ = false := by simp [World.frozen?, d1]
    have z1 : V2.frozen? ⟨W0.heap.size + 1, 1, none⟩ = false := by simp [World.frozen?, d1]
    have z2 : V2.frozen? ⟨W0.heap.size + 1, 2, none⟩ = false := by simp [World.frozen?, d1]
    have z3 : V2.frozen? ⟨W0.heap.size + 1, 3, none⟩ = false := by simp [World.frozen?, d1]
    have z4 : V2.frozen? ⟨W0.heap.size + 1, 4, none⟩ = false := by simp [World.frozen?, d1]
    have z5 : V2.frozen? ⟨W0.heap.size + 1, 5, none⟩ = false := by simp [World.frozen?, d1]
    have z6 : V2.frozen? ⟨W0.heap.size + 2, 0, none⟩ = false := by simp [World.frozen?, d2]
    have hn1 : 1 ≤ n - 1 - 1 := by omega
    unfold rollup_step at h3
    obtain ⟨t, hF, h3⟩ := Option.bind_eq_some_iff.mp h3
    have AF := Aside0.mk hF
    clear hF
    obtain ⟨done, cur⟩ := s1
    cases cur with
    | none =>
      simp only [Option.isSome_none, Option.getD_none] at f2 n0 n1 n2 n3 n4 n5
      have H3 := Aside0.mk h3
      clear h3
      gi_wp2
      refine ⟨trivial, ?_⟩
      refine (CallsIn.inRound l2 (callsIn_wide.2 (rollup_Floor.calls x.f0 a1 t _ AF.out))).mono ?_
      rintro e w' ⟨rfl, ⟨nd, rfl⟩⟩
      gi_wp2
      refine ⟨fun _ h => (by cases h), ?_⟩
      gi_wp2
      refine ⟨trivial, ?_⟩
      obtain ⟨V3, hV3⟩ : ∃ V3, (((((((V2.drewN nd).setCell ⟨W0.heap.size + 1, 0, none⟩ (.int .i64 t)).setCell ⟨W0.heap.size + 1, 1, none⟩ (.int .i64 0)).setCell ⟨W0.heap.size + 1, 2, none⟩ (.int .i64 0)).setCell ⟨W0.heap.size + 1, 3, none⟩ (.int .i64 0)).setCell ⟨W0.heap.size + 1, 4, none⟩ (.int .i64 0)).setCell ⟨W0.heap.size + 1, 5, none⟩ (.int .i64 0)).setCell ⟨W0.heap.size + 1 + 1, 0, none⟩ (.bool true) = V3 := ⟨_, rfl⟩
      rw [hV3]
      have e1 : V3.heap[W0.heap.size + 1]? = some (.cells #[.int .i64 t, .int .i64 0, .int .i64 0, .int .i64 0, .int .i64 0, .int .i64 0] 52 (0, 0)) := by
        rw [← hV3]
        refine blk_far ?_ (by simp) _
        refine blk_put (blk_put (blk_put (blk_put (blk_put (blk_put (blk_drewN d1 nd) 0 _ rfl) 1 _ rfl) 2 _ rfl) 3 _ rfl) 4 _ rfl) 5 _ rfl
      have e0 : V3.heap[W0.heap.size]? = some (.cells #[.func (.yield l) #[] #[]] 64 (0, 0)) := by
        rw [← hV3]
        exact blk_far (blk_far (blk_far (blk_far (blk_far (blk_far (blk_far (blk_drewN d0 nd) (by simp) _) (by simp) _) (by simp) _) (by simp) _) (by simp) _) (by simp) _) (by simp; omega) _
      have e2 : V3.heap[W0.heap.size + 2]? = some (.cells #[.bool true] 4 (0, 0)) := by
        rw [← hV3]
        exact blk_put (blk_far (blk_far (blk_far (blk_far (blk_far (blk_far (blk_drewN d2 nd) (by simp) _) (by simp) _) (by simp) _) (by simp) _) (by simp) _) (by simp) _) 0 _ rfl
      have hj3 : J done K' V3 := by
        rw [← hV3]
        exact hJ _ _ _ _ _ (hJ _ _ _ _ _ (hJ _ _ _ _ _ (hJ _ _ _ _ _ (hJ _ _ _ _ _ (hJ _ _ _ _ _ (hJ _ _ _ _ _ (hJ _ _ _ _ none hj2 (grownBy_drewN V2 nd) (by simp)) (grownBy_set _ _ _) (fun r e => by cases e; simp)) (grownBy_set _ _ _) (fun r e => by cases e; simp)) (grownBy_set _ _ _) (fun r e => by cases e; simp)) (grownBy_set _ _ _) (fun r e => by cases e; simp)) (grownBy_set _ _ _) (fun r e => by cases e; simp)) (grownBy_set _ _ _) (fun r e => by cases e; simp)) (grownBy_set _ _ _) (fun r e => by cases e; simp; omega)
      have q3 : KeptIn w.heap.size (W0.heap.size + 3) (W0.heap.size + 3 + 2 + 0) K V2 V3 := by
        have hK3 := HKS.out.1
        rw [← hV3]
        exact (((((((((KeptIn.refl _ _ _ _ V2).drewN nd).set _ _ (by simp; omega) (by simp) hK3).set _ _ (by simp; omega) (by simp) hK3).set _ _ (by simp; omega) (by simp) hK3).set _ _ (by simp; omega) (by simp) hK3).set _ _ (by simp; omega) (by simp) hK3).set _ _ (by simp; omega) (by simp) hK3).set _ _ (by simp; omega) (by simp) hK3)
      have h3 : (rollup_join2 k ⟨t, 0, 0, 0, 0, 0⟩ x).bind (fun now => some (done, some now)) = some s2' := H3.out
      obtain ⟨now', hjn, h3⟩ := Option.bind_eq_some_iff.mp h3
      obtain rfl := Option.some.inj h3
      unfold rollup_join2 at hjn
      obtain ⟨⟨r1, r2, r3, r4, r5, r6⟩, hjq, hn2⟩ := Option.bind_eq_some_iff.mp hjn
      obtain rfl := Option.some.inj hn2
      have hz : ∀ i, V3.frozen? ⟨W0.heap.size + 1, i, none⟩ = false := fun i => blk_frozen e1 i
      refine (CallsIn.inRound l2 (callsIn_wide.2 (rollup_Join.calls k t 0 0 0 0 0 x.f0 x.f1 x.f2 x.f3 x.f4 x.f5 r1 r2 r3 r4 r5 r6 V3 hjq))).mono ?_
      rintro e V4 ⟨rfl, hB4⟩
      have g0 := blk_below e0 hB4
      have g1 := blk_below e1 hB4
      have g2 := blk_below e2 hB4
      have hj4 : J done K' V4 := hJ _ _ _ _ none hj3 ⟨hB4.os, hB4.tape, hB4.output, hB4.size, fun k hk _ => hB4.block k hk⟩ (by simp)
      have m0 : V4.cell? ⟨W0.heap.size + 1, 0, none⟩ = some (.int .i64 t) := blk_cell g1 0
      have m1 : V4.cell? ⟨W0.heap.size + 1, 1, none⟩ = some (.int .i64 0) := blk_cell g1 1
      have m2 : V4.cell? ⟨W0.heap.size + 1, 2, none⟩ = some (.int .i64 0) := blk_cell g1 2
      have m3 : V4.cell? ⟨W0.heap.size + 1, 3, none⟩ = some (.int .i64 0) := blk_cell g1 3
      have m4 : V4.cell? ⟨W0.heap.size + 1, 4, none⟩ = some (.int .i64 0) := blk_cell g1 4
      have m5 : V4.cell? ⟨W0.heap.size + 1, 5, none⟩ = some (.int .i64 0) := blk_cell g1 5
      have z0 := blk_frozen g1 0
      have z1 := blk_frozen g1 1
      have z2 := blk_frozen g1 2
      have z3 := blk_frozen g1 3
      have z4 := blk_frozen g1 4
      have z5 := blk_frozen g1 5
      have hlt3 := blk_lt e2
      gi_wp2
      have q4 := q3.grow hB4 (by omega) (by have := q3.below.size; have := HS2.out; omega)
      have hK3 := HKS.out.1
      have q5 := (((((q4.set ⟨W0.heap.size + 1, 0, none⟩ (.int .i64 r1) (by simp; omega) (by simp) hK3).set ⟨W0.heap.size + 1, 1, none⟩ (.int .i64 r2) (by simp; omega) (by simp) hK3).set ⟨W0.heap.size + 1, 2, none⟩ (.int .i64 r3) (by simp; omega) (by simp) hK3).set ⟨W0.heap.size + 1, 3, none⟩ (.int .i64 r4) (by simp; omega) (by simp) hK3).set ⟨W0.heap.size + 1, 4, none⟩ (.int .i64 r5) (by simp; omega) (by simp) hK3).set ⟨W0.heap.size + 1, 5, none⟩ (.int .i64 r6) (by simp; omega) (by simp) hK3
      have hzz := q5.below.size
      refine ⟨q5, by have := HKS.out; have := HS2.out; omega, _, K', ?_, h2, ?_, ?_, ?_, ?_, hB2.trans q5.below⟩
      · have := HKS.out; have := HS2.out; omega
      · exact blk_far (blk_far (blk_far (blk_far (blk_far (blk_far g0 (by simp) _) (by simp) _) (by simp) _) (by simp) _) (by simp) _) (by simp) _
      · exact blk_put (blk_put (blk_put (blk_put (blk_put (blk_put g1 0 _ rfl) 1 _ rfl) 2 _ rfl) 3 _ rfl) 4 _ rfl) 5 _ rfl
      · exact blk_far (blk_far (blk_far (blk_far (blk_far (blk_far g2 (by simp) _) (by simp) _) (by simp) _) (by simp) _) (by simp) _) (by simp) _
      · exact hJ _ _ _ _ _ (hJ _ _ _ _ _ (hJ _ _ _ _ _ (hJ _ _ _ _ _ (hJ _ _ _ _ _ (hJ _ _ _ _ _ hj4 (grownBy_set _ _ _) (fun r e => by cases e; simp)) (grownBy_set _ _ _) (fun r e => by cases e; simp)) (grownBy_set _ _ _) (fun r e => by cases e; simp)) (grownBy_set _ _ _) (fun r e => by cases e; simp)) (grownBy_set _ _ _) (fun r e => by cases e; simp)) (grownBy_set _ _ _) (fun r e => by cases e; simp)
    | some now =>
      simp only [Option.isSome_some, Option.getD_some] at f2 n0 n1 n2 n3 n4 n5 d1 d2
      have H3 := Aside0.mk h3
      clear h3
      by_cases cq : now.f0 = t
      · subst cq
        gi_wp2
        refine ⟨trivial, ?_⟩
        refine (CallsIn.inRound l2 (callsIn_wide.2 (rollup_Floor.calls x.f0 a1 now.f0 _ AF.out))).mono ?_
        rintro e w' ⟨rfl, ⟨nd, rfl⟩⟩
        gi_wp2
        refine ⟨fun _ h => (by cases h), ?_⟩
        gi_wp2
        refine ⟨trivial, ?_⟩
        obtain ⟨V3, hV3⟩ : ∃ V3, V2.drewN nd = V3 := ⟨_, rfl⟩
        rw [hV3]
        have e0 : V3.heap[W0.heap.size]? = some (.cells #[.func (.yield l) #[] #[]] 64 (0, 0)) := by
          rw [← hV3]; exact blk_drewN d0 nd
        have e1 : V3.heap[W0.heap.size + 1]? = some (.cells #[.int .i64 now.f0, .int .i64 now.f1, .int .i64 now.f2, .int .i64 now.f3, .int .i64 now.f4, .int .i64 now.f5] 52 (0, 0)) := by
          rw [← hV3]; exact blk_drewN d1 nd
        have e2 : V3.heap[W0.heap.size + 2]? = some (.cells #[.bool true] 4 (0, 0)) := by
          rw [← hV3]; exact blk_drewN d2 nd
        have hj3 : J done K' V3 := by
          rw [← hV3]; exact hJ _ _ _ _ none hj2 (grownBy_drewN V2 nd) (by simp)
        have q3 : KeptIn w.heap.size (W0.heap.size + 3) (W0.heap.size + 3 + 2 + 0) K V2 V3 := by
          rw [← hV3]; exact (KeptIn.refl _ _ _ _ V2).drewN nd
        have h3 : (rollup_join2 k now x).bind (fun now => some (done, some now)) = some s2' := by
          have := H3.out
          rwa [if_pos trivial] at this
        obtain ⟨now', hjn, h3⟩ := Option.bind_eq_some_iff.mp h3
        obtain rfl := Option.some.inj h3
        unfold rollup_join2 at hjn
        obtain ⟨⟨r1, r2, r3, r4, r5, r6⟩, hjq, hn2⟩ := Option.bind_eq_some_iff.mp hjn
        obtain rfl := Option.some.inj hn2
        have hz : ∀ i, V3.frozen? ⟨W0.heap.size + 1, i, none⟩ = false := fun i => blk_frozen e1 i
        refine (CallsIn.inRound l2 (callsIn_wide.2 (rollup_Join.calls k now.f0 now.f1 now.f2 now.f3 now.f4 now.f5 x.f0 x.f1 x.f2 x.f3 x.f4 x.f5 r1 r2 r3 r4 r5 r6 V3 hjq))).mono ?_
        rintro e V4 ⟨rfl, hB4⟩
        have g0 := blk_below e0 hB4
        have g1 := blk_below e1 hB4
        have g2 := blk_below e2 hB4
        have hj4 : J done K' V4 := hJ _ _ _ _ none hj3 ⟨hB4.os, hB4.tape, hB4.output, hB4.size, fun k hk _ => hB4.block k hk⟩ (by simp)
        have m0 : V4.cell? ⟨W0.heap.size + 1, 0, none⟩ = some (.int .i64 now.f0) := blk_cell g1 0
        have m1 : V4.cell? ⟨W0.heap.size + 1, 1, none⟩ = some (.int .i64 now.f1) := blk_cell g1 1
        have m2 : V4.cell? ⟨W0.heap.size + 1, 2, none⟩ = some (.int .i64 now.f2) := blk_cell g1 2
        have m3 : V4.cell? ⟨W0.heap.size + 1, 3, none⟩ = some (.int .i64 now.f3) := blk_cell g1 3
        have m4 : V4.cell? ⟨W0.heap.size + 1, 4, none⟩ = some (.int .i64 now.f4) := blk_cell g1 4
        have m5 : V4.cell? ⟨W0.heap.size + 1, 5, none⟩ = some (.int .i64 now.f5) := blk_cell g1 5
        have z0 := blk_frozen g1 0
        have z1 := blk_frozen g1 1
        have z2 := blk_frozen g1 2
        have z3 := blk_frozen g1 3
        have z4 := blk_frozen g1 4
        have z5 := blk_frozen g1 5
        have hlt3 := blk_lt e2
        gi_wp2
        have q4 := q3.grow hB4 (by omega) (by have := q3.below.size; have := HS2.out; omega)
        have hK3 := HKS.out.1
        have q5 := (((((q4.set ⟨W0.heap.size + 1, 0, none⟩ (.int .i64 r1) (by simp; omega) (by simp) hK3).set ⟨W0.heap.size + 1, 1, none⟩ (.int .i64 r2) (by simp; omega) (by simp) hK3).set ⟨W0.heap.size + 1, 2, none⟩ (.int .i64 r3) (by simp; omega) (by simp) hK3).set ⟨W0.heap.size + 1, 3, none⟩ (.int .i64 r4) (by simp; omega) (by simp) hK3).set ⟨W0.heap.size + 1, 4, none⟩ (.int .i64 r5) (by simp; omega) (by simp) hK3).set ⟨W0.heap.size + 1, 5, none⟩ (.int .i64 r6) (by simp; omega) (by simp) hK3
        have hzz := q5.below.size
        refine ⟨q5, by have := HKS.out; have := HS2.out; omega, _, K', ?_, h2, ?_, ?_, ?_, ?_, hB2.trans q5.below⟩
        · have := HKS.out; have := HS2.out; omega
        · exact blk_far (blk_far (blk_far (blk_far (blk_far (blk_far g0 (by simp) _) (by simp) _) (by simp) _) (by simp) _) (by simp) _) (by simp) _
        · exact blk_put (blk_put (blk_put (blk_put (blk_put (blk_put g1 0 _ rfl) 1 _ rfl) 2 _ rfl) 3 _ rfl) 4 _ rfl) 5 _ rfl
        · exact blk_far (blk_far (blk_far (blk_far (blk_far (blk_far g2 (by simp) _) (by simp) _) (by simp) _) (by simp) _) (by simp) _) (by simp) _
        · exact hJ _ _ _ _ _ (hJ _ _ _ _ _ (hJ _ _ _ _ _ (hJ _ _ _ _ _ (hJ _ _ _ _ _ (hJ _ _ _ _ _ hj4 (grownBy_set _ _ _) (fun r e => by cases e; simp)) (grownBy_set _ _ _) (fun r e => by cases e; simp)) (grownBy_set _ _ _) (fun r e => by cases e; simp)) (grownBy_set _ _ _) (fun r e => by cases e; simp)) (grownBy_set _ _ _) (fun r e => by cases e; simp)) (grownBy_set _ _ _) (fun r e => by cases e; simp)
      · have cq1 : (now.f0 == t) = false := by simpa using cq
        have cq2 : (now.f0 != t) = true := by simpa using cq
        have h3 : (rollup_join2 k ⟨t, 0, 0, 0, 0, 0⟩ x).bind (fun new => some (done ++ [now], some new)) = some s2' := by
          have := H3.out
          dsimp only at this
          rwa [if_neg cq] at this
        have hpre2 : (done ++ [now]) <+: rollup_out st := by
          obtain ⟨now', _, e⟩ := Option.bind_eq_some_iff.mp h3
          have e := Option.some.inj e
          rw [← e] at hpre
          exact hpre
        have H3' := Aside0.mk h3
        clear h3 H3 cq
        gi_wp2
        refine ⟨trivial, ?_⟩
        refine (CallsIn.inRound l2 (callsIn_wide.2 (rollup_Floor.calls x.f0 a1 t _ AF.out))).mono ?_
        rintro e w' ⟨rfl, ⟨nd, rfl⟩⟩
        obtain ⟨fn, tmps, assign, body, hy, hR⟩ := yield_inner (l2 := l2) (m := n - 1 - 1 - 1) (hY done now K' (V2.drewN nd) (hJ _ _ _ _ none hj2 (grownBy_drewN V2 nd) (by simp)) (by have := HKS.out; have := HS2.out; show K' ≤ V2.heap.size; omega) (by have := HS2.out; show _ ≤ V2.heap.size; omega) hpre2)
        dsimp only [v52] at hy
        gi_wp2
        refine hR.mono ?_
        rintro e W' ⟨rfl, hj', hkp⟩
        have hsz' := hkp.below.size
        have hsz2 : V2.heap.size ≤ W'.heap.size := hsz'
        clear hsz'
        have g0 : W'.heap[W0.heap.size]? = some (.cells #[.func (.yield l) #[] #[]] 64 (0, 0)) := (hkp.block _ (by omega) (by omega)).trans (blk_drewN d0 nd)
        have g1 : W'.heap[W0.heap.size + 1]? = some (.cells (cs52 now).toArray 52 (0, 0)) := (hkp.block _ (by omega) (by omega)).trans (blk_drewN d1 nd)
        have g2 : W'.heap[W0.heap.size + 2]? = some (.cells #[.bool true] 4 (0, 0)) := (hkp.block _ (by omega) (by omega)).trans (blk_drewN d2 nd)
        have gx : W'.heap[V.heap.size]? = some (.cells (cs52 x).toArray 52 (0, 0)) := (hkp.late _ (by have := HKS.out; omega) (by have := HS2.out; show V.heap.size < V2.heap.size; omega)).trans (blk_drewN dx nd)
        have hq0 : KeptIn w.heap.size (W0.heap.size + 3) (W0.heap.size + 3 + 2 + 0) K V2 W' := ((KeptIn.refl _ _ _ _ V2).drewN nd).trans (hkp.sub (Nat.le_refl _) (by omega) (by omega) (by have := HKS.out; omega))
        have HSW := Aside0.mk hsz2
        clear hsz2 hkp
        clear y0 y1 y2 y3 y4 y5 n0 n1 n2 n3 n4 n5 z0 z1 z2 z3 z4 z5 z6 f0 f2 hw2
        obtain ⟨y0, y1, y2, y3, y4, y5⟩ := cells_at gx
        obtain ⟨n0, n1, n2, n3, n4, n5⟩ := cells_at g1
        have f2 : W'.cell? ⟨W0.heap.size + 2, 0, none⟩ = some (.bool true) := blk_cell g2 0
        have z0 := blk_frozen g1 0
        have z1 := blk_frozen g1 1
        have z2 := blk_frozen g1 2
        have z3 := blk_frozen g1 3
        have z4 := blk_frozen g1 4
        have z5 := blk_frozen g1 5
        have z6 := blk_frozen g2 0
        gi_wp2
        refine ⟨trivial, ?_⟩
        obtain ⟨V3, hV3⟩ : ∃ V3, ((((((W'.setCell ⟨W0.heap.size + 1, 0, none⟩ (.int .i64 t)).setCell ⟨W0.heap.size + 1, 1, none⟩ (.int .i64 0)).setCell ⟨W0.heap.size + 1, 2, none⟩ (.int .i64 0)).setCell ⟨W0.heap.size + 1, 3, none⟩ (.int .i64 0)).setCell ⟨W0.heap.size + 1, 4, none⟩ (.int .i64 0)).setCell ⟨W0.heap.size + 1, 5, none⟩ (.int .i64 0)).setCell ⟨W0.heap.size + 1 + 1, 0, none⟩ (.bool true) = V3 := ⟨_, rfl⟩
        rw [hV3]
        have e1 : V3.heap[W0.heap.size + 1]? = some (.cells #[.int .i64 t, .int .i64 0, .int .i64 0, .int .i64 0, .int .i64 0, .int .i64 0] 52 (0, 0)) := by
          rw [← hV3]
          refine blk_far ?_ (by simp) _
          refine blk_put (blk_put (blk_put (blk_put (blk_put (blk_put g1 0 _ rfl) 1 _ rfl) 2 _ rfl) 3 _ rfl) 4 _ rfl) 5 _ rfl
        have e0 : V3.heap[W0.heap.size]? = some (.cells #[.func (.yield l) #[] #[]] 64 (0, 0)) := by
          rw [← hV3]
          exact blk_far (blk_far (blk_far (blk_far (blk_far (blk_far (blk_far g0 (by simp) _) (by simp) _) (by simp) _) (by simp) _) (by simp) _) (by simp) _) (by simp; omega) _
        have e2 : V3.heap[W0.heap.size + 2]? = some (.cells #[.bool true] 4 (0, 0)) := by
          rw [← hV3]
          exact blk_put (blk_far (blk_far (blk_far (blk_far (blk_far (blk_far g2 (by simp) _) (by simp) _) (by simp) _) (by simp) _) (by simp) _) (by simp) _) 0 _ rfl
        have hj3 : J (done ++ [now]) W'.heap.size V3 := by
          rw [← hV3]
          exact hJ _ _ _ _ _ (hJ _ _ _ _ _ (hJ _ _ _ _ _ (hJ _ _ _ _ _ (hJ _ _ _ _ _ (hJ _ _ _ _ _ (hJ _ _ _ _ _ hj' (grownBy_set _ _ _) (fun r e => by cases e; simp)) (grownBy_set _ _ _) (fun r e => by cases e; simp)) (grownBy_set _ _ _) (fun r e => by cases e; simp)) (grownBy_set _ _ _) (fun r e => by cases e; simp)) (grownBy_set _ _ _) (fun r e => by cases e; simp)) (grownBy_set _ _ _) (fun r e => by cases e; simp)) (grownBy_set _ _ _) (fun r e => by cases e; simp; omega)
        have q3 : KeptIn w.heap.size (W0.heap.size + 3) (W0.heap.size + 3 + 2 + 0) K V2 V3 := by
          have hK3 := HKS.out.1
          rw [← hV3]
          exact (((((((hq0.set _ _ (by simp; omega) (by simp) hK3).set _ _ (by simp; omega) (by simp) hK3).set _ _ (by simp; omega) (by simp) hK3).set _ _ (by simp; omega) (by simp) hK3).set _ _ (by simp; omega) (by simp) hK3).set _ _ (by simp; omega) (by simp) hK3).set _ _ (by simp; omega) (by simp) hK3)
        have hzle : W'.heap.size ≤ V3.heap.size := by
          rw [← hV3]; simp [World.setCell]
        have h3 := H3'.out
        obtain ⟨now', hjn, h3⟩ := Option.bind_eq_some_iff.mp h3
        obtain rfl := Option.some.inj h3
        unfold rollup_join2 at hjn
        obtain ⟨⟨r1, r2, r3, r4, r5, r6⟩, hjq, hn2⟩ := Option.bind_eq_some_iff.mp hjn
        obtain rfl := Option.some.inj hn2
        have hz : ∀ i, V3.frozen? ⟨W0.heap.size + 1, i, none⟩ = false := fun i => blk_frozen e1 i
        refine (CallsIn.inRound l2 (callsIn_wide.2 (rollup_Join.calls k t 0 0 0 0 0 x.f0 x.f1 x.f2 x.f3 x.f4 x.f5 r1 r2 r3 r4 r5 r6 V3 hjq))).mono ?_
        rintro e V4 ⟨rfl, hB4⟩
        have g0 := blk_below e0 hB4
        have g1 := blk_below e1 hB4
        have g2 := blk_below e2 hB4
        have hj4 : J (done ++ [now]) W'.heap.size V4 := hJ _ _ _ _ none hj3 ⟨hB4.os, hB4.tape, hB4.output, hB4.size, fun k hk _ => hB4.block k hk⟩ (by simp)
        have m0 : V4.cell? ⟨W0.heap.size + 1, 0, none⟩ = some (.int .i64 t) := blk_cell g1 0
        have m1 : V4.cell? ⟨W0.heap.size + 1, 1, none⟩ = some (.int .i64 0) := blk_cell g1 1
        have m2 : V4.cell? ⟨W0.heap.size + 1, 2, none⟩ = some (.int .i64 0) := blk_cell g1 2
        have m3 : V4.cell? ⟨W0.heap.size + 1, 3, none⟩ = some (.int .i64 0) := blk_cell g1 3
        have m4 : V4.cell? ⟨W0.heap.size + 1, 4, none⟩ = some (.int .i64 0) := blk_cell g1 4
        have m5 : V4.cell? ⟨W0.heap.size + 1, 5, none⟩ = some (.int .i64 0) := blk_cell g1 5
        have z0 := blk_frozen g1 0
        have z1 := blk_frozen g1 1
        have z2 := blk_frozen g1 2
        have z3 := blk_frozen g1 3
        have z4 := blk_frozen g1 4
        have z5 := blk_frozen g1 5
        have hlt3 := blk_lt e2
        gi_wp2
        have q4 := q3.grow hB4 (by omega) (by have := q3.below.size; have := HS2.out; omega)
        have hK3 := HKS.out.1
        have q5 := (((((q4.set ⟨W0.heap.size + 1, 0, none⟩ (.int .i64 r1) (by simp; omega) (by simp) hK3).set ⟨W0.heap.size + 1, 1, none⟩ (.int .i64 r2) (by simp; omega) (by simp) hK3).set ⟨W0.heap.size + 1, 2, none⟩ (.int .i64 r3) (by simp; omega) (by simp) hK3).set ⟨W0.heap.size + 1, 3, none⟩ (.int .i64 r4) (by simp; omega) (by simp) hK3).set ⟨W0.heap.size + 1, 4, none⟩ (.int .i64 r5) (by simp; omega) (by simp) hK3).set ⟨W0.heap.size + 1, 5, none⟩ (.int .i64 r6) (by simp; omega) (by simp) hK3
        have hzz := q5.below.size
        refine ⟨q5, by have := HKS.out; have := HS2.out; omega, _, W'.heap.size, ?_, h2, ?_, ?_, ?_, ?_, hB2.trans q5.below⟩
        · have h8 := hB4.size; have h9 := hzle; refine Nat.le_trans (Nat.le_trans h9 h8) ?_; simp [World.setCell]
        · exact blk_far (blk_far (blk_far (blk_far (blk_far (blk_far g0 (by simp) _) (by simp) _) (by simp) _) (by simp) _) (by simp) _) (by simp) _
        · exact blk_put (blk_put (blk_put (blk_put (blk_put (blk_put g1 0 _ rfl) 1 _ rfl) 2 _ rfl) 3 _ rfl) 4 _ rfl) 5 _ rfl
        · exact blk_far (blk_far (blk_far (blk_far (blk_far (blk_far g2 (by simp) _) (by simp) _) (by simp) _) (by simp) _) (by simp) _) (by simp) _
        · exact hJ _ _ _ _ _ (hJ _ _ _ _ _ (hJ _ _ _ _ _ (hJ _ _ _ _ _ (hJ _ _ _ _ _ (hJ _ _ _ _ _ hj4 (grownBy_set _ _ _) (fun r e => by cases e; simp)) (grownBy_set _ _ _) (fun r e => by cases e; simp)) (grownBy_set _ _ _) (fun r e => by cases e; simp)) (grownBy_set _ _ _) (fun r e => by cases e; simp)) (grownBy_set _ _ _) (fun r e => by cases e; simp)) (grownBy_set _ _ _) (fun r e => by cases e; simp)
  case done =>
    rintro K0 V ⟨hK3, s1, K', hKK, h1, c0, c1, c2, hj, hB⟩ hKV hge hK
    have HKS := Aside0.mk (And.intro hK3 (And.intro hKK hKV))
    clear hK3 hKK hKV
    rw [hsz] at hge
    have e : s1 = st := by rw [hst] at h1; exact (Option.some.inj h1).symm
    subst e
    rw [hsz] at hK ⊢
    have HSZ := Aside0.mk hsz
    clear hsz
    have hlt := (Array.getElem?_eq_some_iff.1 hK).1
    have f0 : V.cell? ⟨W0.heap.size, 0, none⟩ = some (.func (.yield l) #[] #[]) := by simp [World.cell?, c0]
    obtain ⟨x0, x1, x2, x3, x4, x5⟩ := cells_at c1
    have f2 : V.cell? ⟨W0.heap.size + 2, 0, none⟩ = some (.bool s1.2.isSome) := by simp [World.cell?, c2]
    obtain ⟨done, cur⟩ := s1
    cases cur with
    | none =>
      simp only [Option.isSome_none] at f2
      gi_wp2
      refine ⟨by simp, .inl ⟨_, _, rfl, run_takeDeferred hK, ?_⟩⟩
      exact ⟨_, results_none rfl _ _ _, ⟨_, rfl⟩, K', by have := HKS.out; simp [World.putObj]; omega, hJ _ _ _ _ _ hj (grownBy_putObj' V _ _) (fun r e => by cases e; omega)⟩
    | some now =>
      simp only [Option.isSome_some, Option.getD_some] at f2 x0 x1 x2 x3 x4 x5
      obtain ⟨fn, tmps, assign, body, hy, hR⟩ := hY done now K' V hj (by have := HKS.out; omega) hge (List.prefix_refl _)
      dsimp only [v52] at hy
      have hn1 : 1 ≤ n := by omega
      gi_wp2
      refine hR.mono ?_
      rintro e W' ⟨rfl, hj', hkp⟩
      have hK' := (hkp.block (W0.heap.size + 3) (by omega) (by omega)).trans hK
      have hlt' := hkp.below.size
      gi_wp2
      refine ⟨by simp, .inl ⟨_, _, rfl, run_takeDeferred hK', ?_⟩⟩
      exact ⟨_, results_none rfl _ _ _, ⟨_, rfl⟩, W'.heap.size, by simp [World.putObj], hJ _ _ _ _ _ hj' (grownBy_putObj' W' _ _) (fun r e => by cases e; omega)⟩
end Go.Proofs.Ytdglifoakdkheaa.Roll
end
section
namespace Go.Proofs.Ytdglifoakdkheaa.Roll
open Go.RowKit Go.Proofs.YtdglifoakdkheaaW.PrintWords Go.Proofs.YtdglifoakdkheaaW.PrintLast Go.Proofs.YtdglifoakdkheaaW.PrintMore
attribute [local go_sem] max2_int min2_int max_two min_two max_three min_three max_four min_four   -- for this text's walks alone
set_option linter.unusedVariables false
set_option linter.unusedSimpArgs false
theorem eqA52 (d : Nat) (w : World) (x0 y0 : Int) (x1 y1 : Int) (x2 y2 : Int) (x3 y3 : Int) (x4 y4 : Int) (x5 y5 : Int) :
    (Op.equalIn (d + 2) 52 (.agg #[.int .i64 x0, .int .i64 x1, .int .i64 x2, .int .i64 x3, .int .i64 x4, .int .i64 x5]) (.agg #[.int .i64 y0, .int .i64 y1, .int .i64 y2, .int .i64 y3, .int .i64 y4, .int .i64 y5])).run Try.prog w = .ok (x0 == y0 && (x1 == y1 && (x2 == y2 && (x3 == y3 && (x4 == y4 && (x5 == y5)))))) w := by
  refine eqA_of Try.underlying52 (by kernel_rfl) ?_
  refine eqf_cons (by rfl) (by go_simp; rfl) (by go_simp; rfl) (by go_simp) ?_
  refine eqf_cons (by rfl) (by go_simp; rfl) (by go_simp; rfl) (by go_simp) ?_
  refine eqf_cons (by rfl) (by go_simp; rfl) (by go_simp; rfl) (by go_simp) ?_
  refine eqf_cons (by rfl) (by go_simp; rfl) (by go_simp; rfl) (by go_simp) ?_
  refine eqf_cons (by rfl) (by go_simp; rfl) (by go_simp; rfl) (by go_simp) ?_
  exact eqf_last (by rfl) (by go_simp; rfl) (by go_simp; rfl) (by go_simp)
end Go.Proofs.Ytdglifoakdkheaa.Roll
end
section
namespace Go.Proofs.Ytdglifoakdkheaa.Roll
open Go.RowKit Go.Proofs.YtdglifoakdkheaaW.PrintWords Go.Proofs.YtdglifoakdkheaaW.PrintLast Go.Proofs.YtdglifoakdkheaaW.PrintMore
attribute [local go_sem] max2_int min2_int max_two min_two max_three min_three max_four min_four   -- for this text's walks alone
set_option linter.unusedVariables false
set_option linter.unusedSimpArgs false
def lysimeterref4_Rising.l0 : Nat → List Int → Int → Option (Bool)
  | 0, _, _ => none
  | k + 1, x0, x3 => if x3 < (x0.length : Int) then (if 0 ≤ x3 then (if (rd x0 x3) < (-9007199254740992) then (some false) else (if (rd x0 x3) > 9007199254740992 then (some false) else (if x3 > 0 then (if 0 ≤ (wrap64 (x3 - 1)) then (if (wrap64 (x3 - 1)) < (x0.length : Int) then (if (rd x0 x3) ≤ (rd x0 (wrap64 (x3 - 1))) then (some false) else (lysimeterref4_Rising.l0 k x0 (wrap64 (x3 + 1)))) else (none)) else (none)) else (lysimeterref4_Rising.l0 k x0 (wrap64 (x3 + 1)))))) else (none)) else (some true)
def lysimeterref4_Rising.f (k : Nat) (l0 : List Int) : Option (Bool) := lysimeterref4_Rising.l0 k l0 0
set_option maxHeartbeats 8000000 in
set_option maxRecDepth 100000 in
theorem lysimeterref4_Rising.calls (k : Nat) (A0 : Option Addr) (c0 : Nat) (l0 : List Int) (r : Bool) (w : World) (hr0 : Kd.C (Kd.int .i64) w A0 l0.length l0) (hc0 : l0.length ≤ c0) (h : lysimeterref4_Rising.f k l0 = some r) :
    Calls Try.prog 40 #[.slice A0 l0.length c0] w fun e w' => e = .returned (.bool r) ∧ Drawn0 w w' := by
  have HR0 := Aside0.mk hr0
  have HC0 := Aside0.mk hc0
  clear hr0 hc0
  have H : (lysimeterref4_Rising.l0 k l0 0) = some r := h
  clear h
  have H' := Aside0.mk H
  clear H
  go_enter Try.func40, Try.ntmps40
  go_wp2
  repeat (go_quiet (fail); try go_wp2)
  go_loopg [3] k (fun kq v3 w' => ∃ (x3_1 : Int), v3 = .int .i64 x3_1 ∧ Aside0 (lysimeterref4_Rising.l0 kq l0 x3_1 = some r) ∧ Aside0 (kq ≤ k) ∧ Drawn0 w w')
  case atStart => exact ⟨(0), (by first | rfl | (simp; done) | (simp [*]; done)), H', ⟨Nat.le_refl _⟩, by repeat (first | exact Drawn0.refl _ | apply Drawn0.step)⟩
  case round =>
    clear H'
    obtain ⟨x3_1, rfl, HA, HK1, ⟨m1, rfl⟩⟩ := hrel
    cases gk with
    | zero => exact absurd HA.out (by simp [lysimeterref4_Rising.l0])
    | succ k1 =>
      have H := HA.out
      clear HA
      simp only [lysimeterref4_Rising.l0] at H
      by_cases c2 : x3_1 < (l0.length : Int)
      · rw [if_pos c2] at H
        have c2b0 : decide (x3_1 < (l0.length : Int)) = true := decide_eq_true c2
        clear c2
        by_cases c3 : 0 ≤ x3_1
        · rw [if_pos c3] at H
          have c3b0 : decide (0 ≤ x3_1) = true := decide_eq_true c3
          clear c3
          by_cases c4 : (rd l0 x3_1) < (-9007199254740992)
          · rw [if_pos c4] at H
            have c4b0 : decide ((rd l0 x3_1) < (-9007199254740992)) = true := decide_eq_true c4
            clear c4
            obtain rfl := Option.some.inj H
            have p110 : 0 ≤ (x3_1 : Int) := of_decide_eq_true (by first | (with_reducible assumption) | assumption)
            have q110 : x3_1 < (l0.length : Int) := of_decide_eq_true (by first | (with_reducible assumption) | assumption)
            obtain ⟨ad110, e110, hx110_0⟩ := Kd.at_int HR0.out x3_1 p110 q110
            cases e110
            replace p110 := eq_true p110
            replace q110 := eq_true q110
            go_wp2
            repeat (go_quiet (fail); try go_wp2)
            go_ret
            exact ⟨by first | rfl | (simp; done) | (simp [*]; done), by repeat (first | exact Drawn0.refl _ | apply Drawn0.step)⟩
          · rw [if_neg c4] at H
            have c4b0 : decide ((rd l0 x3_1) < (-9007199254740992)) = false := decide_eq_false c4
            clear c4
            by_cases c5 : (rd l0 x3_1) > 9007199254740992
            · rw [if_pos c5] at H
              have c5b0 : decide (9007199254740992 < (rd l0 x3_1)) = true := decide_eq_true c5
              clear c5
              obtain rfl := Option.some.inj H
              have p110 : 0 ≤ (x3_1 : Int) := of_decide_eq_true (by first | (with_reducible assumption) | assumption)
              have q110 : x3_1 < (l0.length : Int) := of_decide_eq_true (by first | (with_reducible assumption) | assumption)
              obtain ⟨ad110, e110, hx110_0⟩ := Kd.at_int HR0.out x3_1 p110 q110
              cases e110
              replace p110 := eq_true p110
              replace q110 := eq_true q110
              have p111 : 0 ≤ (x3_1 : Int) := of_decide_eq_true (by first | (with_reducible assumption) | assumption)
              have q111 : x3_1 < (l0.length : Int) := of_decide_eq_true (by first | (with_reducible assumption) | assumption)
              obtain ⟨ad111, e111, hx111_0⟩ := Kd.at_int HR0.out x3_1 p111 q111
              obtain rfl : ad110 = ad111 := (by injection e111)
              replace p111 := eq_true p111
              replace q111 := eq_true q111
              go_wp2
              repeat (go_quiet (fail); try go_wp2)
              go_ret
              exact ⟨by first | rfl | (simp; done) | (simp [*]; done), by repeat (first | exact Drawn0.refl _ | apply Drawn0.step)⟩
            · rw [if_neg c5] at H
              have c5b0 : decide (9007199254740992 < (rd l0 x3_1)) = false := decide_eq_false c5
              clear c5
              by_cases c6 : x3_1 > 0
              · rw [if_pos c6] at H
                have c6b0 : decide (0 < x3_1) = true := decide_eq_true c6
                clear c6
                obtain ⟨ji7, hji7⟩ : ∃ j_ : Int, (wrap64 (x3_1 - 1)) = j_ := ⟨_, rfl⟩
                replace H : (if 0 ≤ (ji7) then (if (ji7) < (l0.length : Int) then (if (rd l0 x3_1) ≤ (rd l0 (ji7)) then (some false) else (lysimeterref4_Rising.l0 k1 l0 (wrap64 (x3_1 + 1)))) else (none)) else (none)) = some r := by first | (rw [hji7] at H; exact H) | (simp only [hji7] at H ⊢; exact H)
                have hji7w : (IntKind.i64.wrap (x3_1 - 1)) = ji7 := (i64_w _).trans hji7
                by_cases c8 : 0 ≤ (ji7)
                · rw [if_pos c8] at H
                  have c8b0 : decide (0 ≤ (ji7)) = true := decide_eq_true c8
                  clear c8
                  by_cases c9 : (ji7) < (l0.length : Int)
                  · rw [if_pos c9] at H
                    have c9b0 : decide ((ji7) < (l0.length : Int)) = true := decide_eq_true c9
                    clear c9
                    by_cases c10 : (rd l0 x3_1) ≤ (rd l0 (ji7))
                    · rw [if_pos c10] at H
                      have c10b0 : decide ((rd l0 x3_1) ≤ (rd l0 (ji7))) = true := decide_eq_true c10
                      clear c10
                      obtain rfl := Option.some.inj H
                      have p110 : 0 ≤ (x3_1 : Int) := of_decide_eq_true (by first | (with_reducible assumption) | assumption)
                      have q110 : x3_1 < (l0.length : Int) := of_decide_eq_true (by first | (with_reducible assumption) | assumption)
                      obtain ⟨ad110, e110, hx110_0⟩ := Kd.at_int HR0.out x3_1 p110 q110
                      cases e110
                      replace p110 := eq_true p110
                      replace q110 := eq_true q110
                      have p111 : 0 ≤ (x3_1 : Int) := of_decide_eq_true (by first | (with_reducible assumption) | assumption)
                      have q111 : x3_1 < (l0.length : Int) := of_decide_eq_true (by first | (with_reducible assumption) | assumption)
                      obtain ⟨ad111, e111, hx111_0⟩ := Kd.at_int HR0.out x3_1 p111 q111
                      obtain rfl : ad110 = ad111 := (by injection e111)
                      replace p111 := eq_true p111
                      replace q111 := eq_true q111
                      have p112 : 0 ≤ (x3_1 : Int) := of_decide_eq_true (by first | (with_reducible assumption) | assumption)
                      have q112 : x3_1 < (l0.length : Int) := of_decide_eq_true (by first | (with_reducible assumption) | assumption)
                      obtain ⟨ad112, e112, hx112_0⟩ := Kd.at_int HR0.out x3_1 p112 q112
                      obtain rfl : ad110 = ad112 := (by injection e112)
                      replace p112 := eq_true p112
                      replace q112 := eq_true q112
                      have p113 : 0 ≤ ((ji7) : Int) := of_decide_eq_true (by first | (with_reducible assumption) | assumption)
                      have q113 : (ji7) < (l0.length : Int) := of_decide_eq_true (by first | (with_reducible assumption) | assumption)
                      obtain ⟨ad113, e113, hx113_0⟩ := Kd.at_int HR0.out (ji7) p113 q113
                      obtain rfl : ad110 = ad113 := (by injection e113)
                      replace p113 := eq_true p113
                      replace q113 := eq_true q113
                      go_wp2
                      repeat (go_quiet (fail); try go_wp2)
                      go_ret
                      exact ⟨by first | rfl | (simp; done) | (simp only [← hji7] <;> (first | rfl | simp)) | (simp [*]; done), by repeat (first | exact Drawn0.refl _ | apply Drawn0.step)⟩
                    · rw [if_neg c10] at H
                      have c10b0 : decide ((rd l0 x3_1) ≤ (rd l0 (ji7))) = false := decide_eq_false c10
                      clear c10
                      have H' := Aside0.mk H
                      clear H
                      have p110 : 0 ≤ (x3_1 : Int) := of_decide_eq_true (by first | (with_reducible assumption) | assumption)
                      have q110 : x3_1 < (l0.length : Int) := of_decide_eq_true (by first | (with_reducible assumption) | assumption)
                      obtain ⟨ad110, e110, hx110_0⟩ := Kd.at_int HR0.out x3_1 p110 q110
                      cases e110
                      replace p110 := eq_true p110
                      replace q110 := eq_true q110
                      have p111 : 0 ≤ (x3_1 : Int) := of_decide_eq_true (by first | (with_reducible assumption) | assumption)
                      have q111 : x3_1 < (l0.length : Int) := of_decide_eq_true (by first | (with_reducible assumption) | assumption)
                      obtain ⟨ad111, e111, hx111_0⟩ := Kd.at_int HR0.out x3_1 p111 q111
                      obtain rfl : ad110 = ad111 := (by injection e111)
                      replace p111 := eq_true p111
                      replace q111 := eq_true q111
                      have p112 : 0 ≤ (x3_1 : Int) := of_decide_eq_true (by first | (with_reducible assumption) | assumption)
                      have q112 : x3_1 < (l0.length : Int) := of_decide_eq_true (by first | (with_reducible assumption) | assumption)
                      obtain ⟨ad112, e112, hx112_0⟩ := Kd.at_int HR0.out x3_1 p112 q112
                      obtain rfl : ad110 = ad112 := (by injection e112)
                      replace p112 := eq_true p112
                      replace q112 := eq_true q112
                      have p113 : 0 ≤ ((ji7) : Int) := of_decide_eq_true (by first | (with_reducible assumption) | assumption)
                      have q113 : (ji7) < (l0.length : Int) := of_decide_eq_true (by first | (with_reducible assumption) | assumption)
                      obtain ⟨ad113, e113, hx113_0⟩ := Kd.at_int HR0.out (ji7) p113 q113
                      obtain rfl : ad110 = ad113 := (by injection e113)
                      replace p113 := eq_true p113
                      replace q113 := eq_true q113
                      go_wp2
                      repeat (go_quiet (fail); try go_wp2)
                      go_roundg k1
                      case measure => have := HK1.out; omega
                      case rel => exact ⟨(wrap64 (x3_1 + 1)), (by first | rfl | (simp; done) | (simp [*]; done)), H', ⟨by have := HK1.out; omega⟩, by repeat (first | exact Drawn0.refl _ | apply Drawn0.step)⟩
                  · rw [if_neg c9] at H
                    exact absurd H (by simp)
                · rw [if_neg c8] at H
                  exact absurd H (by simp)
              · rw [if_neg c6] at H
                have c6b0 : decide (0 < x3_1) = false := decide_eq_false c6
                clear c6
                have H' := Aside0.mk H
                clear H
                have p110 : 0 ≤ (x3_1 : Int) := of_decide_eq_true (by first | (with_reducible assumption) | assumption)
                have q110 : x3_1 < (l0.length : Int) := of_decide_eq_true (by first | (with_reducible assumption) | assumption)
                obtain ⟨ad110, e110, hx110_0⟩ := Kd.at_int HR0.out x3_1 p110 q110
                cases e110
                replace p110 := eq_true p110
                replace q110 := eq_true q110
                have p111 : 0 ≤ (x3_1 : Int) := of_decide_eq_true (by first | (with_reducible assumption) | assumption)
                have q111 : x3_1 < (l0.length : Int) := of_decide_eq_true (by first | (with_reducible assumption) | assumption)
                obtain ⟨ad111, e111, hx111_0⟩ := Kd.at_int HR0.out x3_1 p111 q111
                obtain rfl : ad110 = ad111 := (by injection e111)
                replace p111 := eq_true p111
                replace q111 := eq_true q111
                go_wp2
                repeat (go_quiet (fail); try go_wp2)
                go_roundg k1
                case measure => have := HK1.out; omega
                case rel => exact ⟨(wrap64 (x3_1 + 1)), (by first | rfl | (simp; done) | (simp [*]; done)), H', ⟨by have := HK1.out; omega⟩, by repeat (first | exact Drawn0.refl _ | apply Drawn0.step)⟩
        · rw [if_neg c3] at H
          exact absurd H (by simp)
      · rw [if_neg c2] at H
        have c2b0 : decide (x3_1 < (l0.length : Int)) = false := decide_eq_false c2
        clear c2
        obtain rfl := Option.some.inj H
        go_wp2
        repeat (go_quiet (fail); try go_wp2)
        go_ret
        exact ⟨by first | rfl | (simp; done) | (simp [*]; done), by repeat (first | exact Drawn0.refl _ | apply Drawn0.step)⟩
def lysimeterref16_Times.l0 : Nat → List (S41) → List Int → Int → Option (List Int)
  | 0, _, _, _ => none
  | k + 1, x0, x3, x4 => if x4 < (x0.length : Int) then (if 0 ≤ x4 then (if x3.length < 17592186044416 then (lysimeterref16_Times.l0 k x0 (x3 ++ [(rd_T41 x0 x4).f0]) (wrap64 (x4 + 1))) else (none)) else (none)) else (some x3)
def lysimeterref16_Times.f (k : Nat) (l0 : List (S41)) : Option (List Int) := lysimeterref16_Times.l0 k l0 ([] : List Int) 0
set_option maxHeartbeats 8000000 in
set_option maxRecDepth 100000 in
theorem lysimeterref16_Times.calls (k : Nat) (A0 : Option Addr) (c0 : Nat) (l0 : List (S41)) (r : List Int) (w : World) (hr0 : Kd.C k41 w A0 l0.length l0) (hc0 : l0.length ≤ c0) (h : lysimeterref16_Times.f k l0 = some r) :
    Calls Try.prog 41 #[.slice A0 l0.length c0] w fun e w' => ∃ v0_ : Value, e = .returned (v0_) ∧ Kd.R (Kd.int .i64) 3 w' w.heap.size (fun _ => True) v0_ r ∧ Below w.heap.size w w' := by
  have HR0 := Aside0.mk hr0
  have HC0 := Aside0.mk hc0
  clear hr0 hc0
  have HB := Aside0.mk (Below.refl w.heap.size w)
  have H : (lysimeterref16_Times.l0 k l0 ([] : List Int) 0) = some r := h
  clear h
  have H' := Aside0.mk H
  clear H
  go_enter Try.func41, Try.ntmps41
  go_wp2
  go_loopg [3, 4] k (fun kq v3 v4 w' => ∃ (x3_1 : List Int) (x4_1 : Int), v4 = .int .i64 x4_1 ∧ Aside0 (lysimeterref16_Times.l0 kq l0 x3_1 x4_1 = some r) ∧ Aside0 (kq ≤ k) ∧ Aside0 (Kd.R (Kd.int .i64) 3 w' w.heap.size (fun _ => True) v3 x3_1) ∧ Aside0 (Below w.heap.size w w'))
  case atStart => exact ⟨(([] : List Int)), (0), (by first | rfl | (simp; done) | (simp [*]; done)), H', ⟨Nat.le_refl _⟩, ⟨by first | exact Kd.R_nil _ _ _ _ _ | exact Kd.N_nil _ _ _ _ _ | exact Kd.V_nil _ _ _ _ _ | exact Kd.Q_nil _ _ _ _ _ | exact Kd.S_nil _ _ _ _ _⟩, ⟨by repeat (first | (with_reducible first | exact HB.out | apply below_alloc | apply pw_below_drewN | apply below_drew1) | exact HB.out)⟩⟩
  case round =>
    clear H'
    obtain ⟨x3_1, x4_1, rfl, HA, HK1, HO_3, HB⟩ := hrel
    cases gk with
    | zero => exact absurd HA.out (by simp [lysimeterref16_Times.l0])
    | succ k1 =>
      have H := HA.out
      clear HA
      simp only [lysimeterref16_Times.l0] at H
      by_cases c2 : x4_1 < (l0.length : Int)
      · rw [if_pos c2] at H
        have c2b0 : decide (x4_1 < (l0.length : Int)) = true := decide_eq_true c2
        clear c2
        by_cases c3 : 0 ≤ x4_1
        · rw [if_pos c3] at H
          have c3b0 : decide (0 ≤ x4_1) = true := decide_eq_true c3
          clear c3
          by_cases c4 : x3_1.length < 17592186044416
          · rw [if_pos c4] at H
            have LMc4 := Aside0.mk c4
            clear c4
            obtain ⟨y115, hy115⟩ : ∃ y_ : List Int, y_ = (x3_1 ++ [(rd_T41 l0 x4_1).f0]) := ⟨_, rfl⟩
            replace H : (lysimeterref16_Times.l0 k1 l0 y115 (wrap64 (x4_1 + 1))) = some r := by first | (rw [hy115]; with_reducible exact H) | (have H2_ := (Option.bind_some _ _).symm.trans H; rw [hy115]; with_reducible exact H2_) | (have H2_ := (Option.bind_some _ _).symm.trans H; with_reducible exact H2_) | with_reducible exact H | (rw [hy115]; exact H) | exact H
            have Ny115 := Aside0.mk hy115
            clear hy115
            have H' := Aside0.mk H
            clear H
            have p114 : 0 ≤ (x4_1 : Int) := of_decide_eq_true (by first | (with_reducible assumption) | assumption)
            have q114 : x4_1 < (l0.length : Int) := of_decide_eq_true (by first | (with_reducible assumption) | assumption)
            obtain ⟨ad114, e114, hx114_0, hx114_1⟩ := at_T41 HR0.out x4_1 p114 q114
            cases e114
            replace hx114_0 := (HB.out.cell (World.block_lt_of_cell? w _ hx114_0)).trans hx114_0
            replace hx114_1 := (HB.out.cell (World.block_lt_of_cell? w _ hx114_1)).trans hx114_1
            replace p114 := eq_true p114
            replace q114 := eq_true q114
            go_wp2_with (first | ((with_reducible refine gate_builtin (b := .append) (xs := #[.tmp 11, .tmp 17]) rfl ?_); at_builtin; refine Kd.R_append (Kd.int .i64) (w0 := w) w.heap.size rfl (.tmp 11) (.tmp 17) 22 3 (.int .i64 0) 8 rfl Try.underlying22 info3 rfl (by decide) (by omega) u3 x3_1 ((rd_T41 l0 x4_1).f0) [.int .i64 ((rd_T41 l0 x4_1).f0)] (fun _ => True) (fun _ => False) rfl rfl ?aP (fun _ hk => hk.elim) ?aF ?aO ?aB ?aS ?aL ?_; (case aP => exact rfl); (case aB => exact (by repeat (first | (with_reducible first | exact HB.out | apply below_alloc | apply pw_below_drewN | apply below_drew1) | exact HB.out))); (case aF => exact (fun _ _ => trivial)); (case aO => exact (by (with_reducible repeat (first | apply Kd.R_alloc | apply Kd.R_drewN | apply Kd.R_drew)); exact HO_3.out)); (case aS => exact (below_size (by repeat (first | (with_reducible first | exact HB.out | apply below_alloc | apply pw_below_drewN | apply below_drew1) | exact HB.out)))); (case aL => have := LMc4.out; omega); intro v116 w5 ho hb hg hat; rw [← Ny115.out] at ho; have n0_ := Aside0.mk (hb); have n1_ := Aside0.mk (ho); clear HB; clear HO_3; have HB := n0_; have HO117 := n1_; clear n0_ n1_; clear ho hb hg hat))
            go_roundg k1
            case measure => have := HK1.out; omega
            case rel => exact ⟨(y115), (wrap64 (x4_1 + 1)), (by first | rfl | (simp; done) | (simp [*]; done)), H', ⟨by have := HK1.out; omega⟩, ⟨by (with_reducible repeat (first | apply Kd.R_alloc | apply Kd.R_drewN | apply Kd.R_drew)); exact HO117.out⟩, ⟨by repeat (first | (with_reducible first | exact HB.out | apply below_alloc | apply pw_below_drewN | apply below_drew1) | exact HB.out)⟩⟩
          · rw [if_neg c4] at H
            exact absurd H (by simp)
        · rw [if_neg c3] at H
          exact absurd H (by simp)
      · rw [if_neg c2] at H
        have c2b0 : decide (x4_1 < (l0.length : Int)) = false := decide_eq_false c2
        clear c2
        obtain rfl := Option.some.inj H
        go_wp2
        go_ret
        exact ⟨_, by first | rfl | (simp [errW_none, errW_some] <;> rfl) | (simp [*, errW_none, errW_some] <;> rfl), by (with_reducible repeat (first | apply Kd.R_alloc | apply Kd.R_drewN | apply Kd.R_drew)); exact HO_3.out, by repeat (first | (with_reducible first | exact HB.out | apply below_alloc | apply pw_below_drewN | apply below_drew1) | exact HB.out)⟩
def lysimeterref1_Add.j0 : Nat → Int → Int → Bool → Option (Int)
  | 0, _, _, _ => none
  | k + 1, x0, x1, x12 => if x12 = true then (some 9223372036854775807) else (if x1 < 0 then (if x0 < (wrap64 ((-9223372036854775808) - x1)) then (some (-9223372036854775808)) else (some (wrap64 (x0 + x1)))) else (some (wrap64 (x0 + x1))))
def lysimeterref1_Add.f (k : Nat) (a0 : Int) (a1 : Int) : Option (Int) := if a1 > 0 then (lysimeterref1_Add.j0 k a0 a1 (decide (a0 > (wrap64 (9223372036854775807 - a1))))) else (lysimeterref1_Add.j0 k a0 a1 false)
set_option maxHeartbeats 8000000 in
set_option maxRecDepth 100000 in
theorem lysimeterref1_Add.calls (k : Nat) (a0 : Int) (a1 : Int) (r : Int) (w : World) (h : lysimeterref1_Add.f k a0 a1 = some r) :
    Calls Try.prog 36 #[.int .i64 a0, .int .i64 a1] w fun e w' => e = .returned (.int .i64 r) ∧ Drawn0 w w' := by
  have H : (if a1 > 0 then (lysimeterref1_Add.j0 k a0 a1 (decide (a0 > (wrap64 (9223372036854775807 - a1))))) else (lysimeterref1_Add.j0 k a0 a1 false)) = some r := h
  clear h
  have HC3 := Aside0.mk H
  clear H
  go_enter Try.func36, Try.ntmps36
  go_upto_region 1 with (fail)
  go_cut [12] (fun v12 wc => ∃ (kq : Nat) (x12_2 : Bool), v12 = .bool x12_2 ∧ Aside0 (lysimeterref1_Add.j0 kq a0 a1 x12_2 = some r) ∧ Aside0 (kq ≤ k) ∧ Drawn0 w wc)
  case first =>
    have H := HC3.out
    clear HC3
    by_cases c4 : a1 > 0
    · rw [if_pos c4] at H
      have c4b0 : decide (0 < a1) = true := decide_eq_true c4
      clear c4
      (first | rw [c4b0] | (simp only [i64_w, i32_w]; rw [c4b0]) | skip)
      have H' := Aside0.mk H
      clear H
      go_wp2
      go_meet
      case rel => exact ⟨_, (decide (a0 > (wrap64 (9223372036854775807 - a1)))), (by first | rfl | (simp; done) | (simp [*]; done)), H', ⟨by first | omega | exact Nat.le_refl _⟩, by repeat (first | exact Drawn0.refl _ | apply Drawn0.step)⟩
    · rw [if_neg c4] at H
      have c4b0 : decide (0 < a1) = false := decide_eq_false c4
      clear c4
      (first | rw [c4b0] | (simp only [i64_w, i32_w]; rw [c4b0]) | skip)
      have H' := Aside0.mk H
      clear H
      go_wp2
      go_meet
      case rel => exact ⟨_, (false), (by first | rfl | (simp; done) | (simp [*]; done)), H', ⟨by first | omega | exact Nat.le_refl _⟩, by repeat (first | exact Drawn0.refl _ | apply Drawn0.step)⟩
  case rest =>
    clear HC3
    try clear p2
    try clear c3
    try clear c4
    try clear c4b0
    obtain ⟨kq, x12_2, rfl, HA, HJ2, ⟨mc2, rfl⟩⟩ := hcut
    cases kq with
    | zero => exact absurd HA.out (by simp [lysimeterref1_Add.j0])
    | succ kj2 =>
      have H := HA.out
      clear HA
      simp only [lysimeterref1_Add.j0] at H
      by_cases c5 : x12_2 = true
      · subst c5
        have H1 : (some 9223372036854775807) = some r := by rw [if_pos rfl] at H; exact H
        clear H
        have H := H1
        clear H1
        obtain rfl := Option.some.inj H
        go_wp2
        go_ret
        exact ⟨by first | rfl | (simp; done) | (simp [*]; done), by repeat (first | exact Drawn0.refl _ | apply Drawn0.step)⟩
      · replace c5 := Bool.eq_false_iff.mpr c5
        subst c5
        have H1 : (if a1 < 0 then (if a0 < (wrap64 ((-9223372036854775808) - a1)) then (some (-9223372036854775808)) else (some (wrap64 (a0 + a1)))) else (some (wrap64 (a0 + a1)))) = some r := by rw [if_neg (show ¬ (false = true) by decide)] at H; exact H
        clear H
        have H := H1
        clear H1
        by_cases c6 : a1 < 0
        · rw [if_pos c6] at H
          have c6b0 : decide (a1 < 0) = true := decide_eq_true c6
          clear c6
          by_cases c7 : a0 < (wrap64 ((-9223372036854775808) - a1))
          · rw [if_pos c7] at H
            have c7b0 : decide (a0 < (wrap64 ((-9223372036854775808) - a1))) = true := decide_eq_true c7
            clear c7
            obtain rfl := Option.some.inj H
            go_wp2
            go_ret
            exact ⟨by first | rfl | (simp; done) | (simp [*]; done), by repeat (first | exact Drawn0.refl _ | apply Drawn0.step)⟩
          · rw [if_neg c7] at H
            have c7b0 : decide (a0 < (wrap64 ((-9223372036854775808) - a1))) = false := decide_eq_false c7
            clear c7
            obtain rfl := Option.some.inj H
            go_wp2
            go_ret
            exact ⟨by first | rfl | (simp; done) | (simp [*]; done), by repeat (first | exact Drawn0.refl _ | apply Drawn0.step)⟩
        · rw [if_neg c6] at H
          have c6b0 : decide (a1 < 0) = false := decide_eq_false c6
          clear c6
          obtain rfl := Option.some.inj H
          go_wp2
          go_ret
          exact ⟨by first | rfl | (simp; done) | (simp [*]; done), by repeat (first | exact Drawn0.refl _ | apply Drawn0.step)⟩
end Go.Proofs.Ytdglifoakdkheaa.Roll
end
section
namespace Go.Proofs.Ytdglifoakdkheaa.Roll
open Go.RowKit Go.Proofs.YtdglifoakdkheaaW.PrintWords Go.Proofs.YtdglifoakdkheaaW.PrintLast Go.Proofs.YtdglifoakdkheaaW.PrintMore
attribute [local go_sem] max2_int min2_int max_two min_two max_three min_three max_four min_four   -- for this text's walks alone
set_option linter.unusedVariables false
set_option linter.unusedSimpArgs false
attribute [local go_sem high] eqA52
def lysimeterlaw19_Same.l0 : Nat → List (S52) → List (S52) → Int → Option (Bool)
  | 0, _, _, _ => none
  | k + 1, x0, x1, x5 => if x5 < (x0.length : Int) then (if 0 ≤ x5 then (if x5 < (x1.length : Int) then (if (!(((rd_T52 x0 x5).f0) == ((rd_T52 x1 x5).f0)) || (!(((rd_T52 x0 x5).f1) == ((rd_T52 x1 x5).f1)) || (!(((rd_T52 x0 x5).f2) == ((rd_T52 x1 x5).f2)) || (!(((rd_T52 x0 x5).f3) == ((rd_T52 x1 x5).f3)) || (!(((rd_T52 x0 x5).f4) == ((rd_T52 x1 x5).f4)) || (!(((rd_T52 x0 x5).f5) == ((rd_T52 x1 x5).f5)))))))) = true then (some false) else (lysimeterlaw19_Same.l0 k x0 x1 (wrap64 (x5 + 1)))) else (none)) else (none)) else (some true)
def lysimeterlaw19_Same.f (k : Nat) (l0 : List (S52)) (l1 : List (S52)) : Option (Bool) := if (l0.length : Int) = (l1.length : Int) then (lysimeterlaw19_Same.l0 k l0 l1 0) else (some false)
set_option maxHeartbeats 8000000 in
set_option maxRecDepth 100000 in
theorem lysimeterlaw19_Same.calls (k : Nat) (A0 : Option Addr) (c0 : Nat) (l0 : List (S52)) (A1 : Option Addr) (c1 : Nat) (l1 : List (S52)) (r : Bool) (w : World) (hr0 : Kd.C k52 w A0 l0.length l0) (hc0 : l0.length ≤ c0) (hr1 : Kd.C k52 w A1 l1.length l1) (hc1 : l1.length ≤ c1) (h : lysimeterlaw19_Same.f k l0 l1 = some r) :
    Calls Try.prog 28 #[.slice A0 l0.length c0, .slice A1 l1.length c1] w fun e w' => e = .returned (.bool r) ∧ Drawn0 w w' := by
  have hu52 := Try.underlying52
  have HR0 := Aside0.mk hr0
  have HC0 := Aside0.mk hc0
  clear hr0 hc0
  have HR1 := Aside0.mk hr1
  have HC1 := Aside0.mk hc1
  clear hr1 hc1
  have H : (if (l0.length : Int) = (l1.length : Int) then (lysimeterlaw19_Same.l0 k l0 l1 0) else (some false)) = some r := h
  clear h
  by_cases c3 : (l0.length : Int) = (l1.length : Int)
  · rw [if_pos c3] at H
    have c3b0 : ((l0.length : Int) == (l1.length : Int)) = true := beq_iff_eq.mpr c3
    have c3b1 : ((l0.length : Int) != (l1.length : Int)) = false := bne_eq_false_iff_eq.mpr c3
    have c3b2 : (l0.length == l1.length) = true := by first | simpa using c3 | (simp at c3 ⊢; omega)
    clear c3
    have H' := Aside0.mk H
    clear H
    go_enter Try.func28, Try.ntmps28
    go_wp2
    repeat (go_quiet (fail); try go_wp2)
    go_loopg [5] k (fun kq v5 w' => ∃ (x5_1 : Int), v5 = .int .i64 x5_1 ∧ Aside0 (lysimeterlaw19_Same.l0 kq l0 l1 x5_1 = some r) ∧ Aside0 (kq ≤ k) ∧ Drawn0 w w')
    case atStart => exact ⟨(0), (by first | rfl | (simp; done) | (simp [*]; done)), H', ⟨Nat.le_refl _⟩, by repeat (first | exact Drawn0.refl _ | apply Drawn0.step)⟩
    case round =>
      clear H'
      try clear c1
      try clear c2
      try clear p2
      try clear c3
      try clear c3b0
      try clear c3b1
      try clear c3b2
      obtain ⟨x5_1, rfl, HA, HK1, ⟨m1, rfl⟩⟩ := hrel
      cases gk with
      | zero => exact absurd HA.out (by simp [lysimeterlaw19_Same.l0])
      | succ k1 =>
        have H := HA.out
        clear HA
        simp only [lysimeterlaw19_Same.l0] at H
        by_cases c4 : x5_1 < (l0.length : Int)
        · rw [if_pos c4] at H
          have c4b0 : decide (x5_1 < (l0.length : Int)) = true := decide_eq_true c4
          clear c4
          by_cases c5 : 0 ≤ x5_1
          · rw [if_pos c5] at H
            have c5b0 : decide (0 ≤ x5_1) = true := decide_eq_true c5
            clear c5
            by_cases c6 : x5_1 < (l1.length : Int)
            · rw [if_pos c6] at H
              have c6b0 : decide (x5_1 < (l1.length : Int)) = true := decide_eq_true c6
              clear c6
              by_cases c7 : (!(((rd_T52 l0 x5_1).f0) == ((rd_T52 l1 x5_1).f0)) || (!(((rd_T52 l0 x5_1).f1) == ((rd_T52 l1 x5_1).f1)) || (!(((rd_T52 l0 x5_1).f2) == ((rd_T52 l1 x5_1).f2)) || (!(((rd_T52 l0 x5_1).f3) == ((rd_T52 l1 x5_1).f3)) || (!(((rd_T52 l0 x5_1).f4) == ((rd_T52 l1 x5_1).f4)) || (!(((rd_T52 l0 x5_1).f5) == ((rd_T52 l1 x5_1).f5)))))))) = true
              · rw [if_pos c7] at H
                have c7b0 : (!(((rd_T52 l0 x5_1).f0) == ((rd_T52 l1 x5_1).f0)) || (!(((rd_T52 l0 x5_1).f1) == ((rd_T52 l1 x5_1).f1)) || (!(((rd_T52 l0 x5_1).f2) == ((rd_T52 l1 x5_1).f2)) || (!(((rd_T52 l0 x5_1).f3) == ((rd_T52 l1 x5_1).f3)) || (!(((rd_T52 l0 x5_1).f4) == ((rd_T52 l1 x5_1).f4)) || (!(((rd_T52 l0 x5_1).f5) == ((rd_T52 l1 x5_1).f5)))))))) = true := c7
                clear c7
                obtain rfl := Option.some.inj H
                have p118 : 0 ≤ (x5_1 : Int) := of_decide_eq_true (by first | (with_reducible assumption) | assumption)
                have q118 : x5_1 < (l0.length : Int) := of_decide_eq_true (by first | (with_reducible assumption) | assumption)
                obtain ⟨ad118, e118, hx118_0, hx118_1, hx118_2, hx118_3, hx118_4, hx118_5⟩ := at_T52 HR0.out x5_1 p118 q118
                cases e118
                replace p118 := eq_true p118
                replace q118 := eq_true q118
                have p119 : 0 ≤ (x5_1 : Int) := of_decide_eq_true (by first | (with_reducible assumption) | assumption)
                have q119 : x5_1 < (l1.length : Int) := of_decide_eq_true (by first | (with_reducible assumption) | assumption)
                obtain ⟨ad119, e119, hx119_0, hx119_1, hx119_2, hx119_3, hx119_4, hx119_5⟩ := at_T52 HR1.out x5_1 p119 q119
                cases e119
                replace p119 := eq_true p119
                replace q119 := eq_true q119
                go_wp2
                repeat (go_quiet (fail); try go_wp2)
                go_ret
                exact ⟨by first | rfl | (simp; done) | (simp [*]; done), by repeat (first | exact Drawn0.refl _ | apply Drawn0.step)⟩
              · rw [if_neg c7] at H
                have c7b0 : (!(((rd_T52 l0 x5_1).f0) == ((rd_T52 l1 x5_1).f0)) || (!(((rd_T52 l0 x5_1).f1) == ((rd_T52 l1 x5_1).f1)) || (!(((rd_T52 l0 x5_1).f2) == ((rd_T52 l1 x5_1).f2)) || (!(((rd_T52 l0 x5_1).f3) == ((rd_T52 l1 x5_1).f3)) || (!(((rd_T52 l0 x5_1).f4) == ((rd_T52 l1 x5_1).f4)) || (!(((rd_T52 l0 x5_1).f5) == ((rd_T52 l1 x5_1).f5)))))))) = false := by simpa using c7
                clear c7
                have H' := Aside0.mk H
                clear H
                have p118 : 0 ≤ (x5_1 : Int) := of_decide_eq_true (by first | (with_reducible assumption) | assumption)
                have q118 : x5_1 < (l0.length : Int) := of_decide_eq_true (by first | (with_reducible assumption) | assumption)
                obtain ⟨ad118, e118, hx118_0, hx118_1, hx118_2, hx118_3, hx118_4, hx118_5⟩ := at_T52 HR0.out x5_1 p118 q118
                cases e118
                replace p118 := eq_true p118
                replace q118 := eq_true q118
                have p119 : 0 ≤ (x5_1 : Int) := of_decide_eq_true (by first | (with_reducible assumption) | assumption)
                have q119 : x5_1 < (l1.length : Int) := of_decide_eq_true (by first | (with_reducible assumption) | assumption)
                obtain ⟨ad119, e119, hx119_0, hx119_1, hx119_2, hx119_3, hx119_4, hx119_5⟩ := at_T52 HR1.out x5_1 p119 q119
                cases e119
                replace p119 := eq_true p119
                replace q119 := eq_true q119
                go_wp2
                repeat (go_quiet (fail); try go_wp2)
                go_roundg k1
                case measure => have := HK1.out; omega
                case rel => exact ⟨(wrap64 (x5_1 + 1)), (by first | rfl | (simp; done) | (simp [*]; done)), H', ⟨by have := HK1.out; omega⟩, by repeat (first | exact Drawn0.refl _ | apply Drawn0.step)⟩
            · rw [if_neg c6] at H
              exact absurd H (by simp)
          · rw [if_neg c5] at H
            exact absurd H (by simp)
        · rw [if_neg c4] at H
          have c4b0 : decide (x5_1 < (l0.length : Int)) = false := decide_eq_false c4
          clear c4
          obtain rfl := Option.some.inj H
          go_wp2
          repeat (go_quiet (fail); try go_wp2)
          go_ret
          exact ⟨by first | rfl | (simp; done) | (simp [*]; done), by repeat (first | exact Drawn0.refl _ | apply Drawn0.step)⟩
  · rw [if_neg c3] at H
    have c3b0 : ((l0.length : Int) == (l1.length : Int)) = false := beq_eq_false_iff_ne.mpr c3
    have c3b1 : ((l0.length : Int) != (l1.length : Int)) = true := bne_iff_ne.mpr c3
    have c3b2 : (l0.length == l1.length) = false := by first | simpa using c3 | (simp at c3 ⊢; omega)
    obtain rfl := Option.some.inj H
    go_enter Try.func28, Try.ntmps28
    go_wp2
    repeat (go_quiet (fail); try go_wp2)
    go_ret
    exact ⟨by first | rfl | (simp; done) | (simp [*]; done), by repeat (first | exact Drawn0.refl _ | apply Drawn0.step)⟩
end Go.Proofs.Ytdglifoakdkheaa.Roll
end
section
namespace Go.Proofs.Ytdglifoakdkheaa.Roll
open Go.RowKit Go.Proofs.YtdglifoakdkheaaW.PrintWords Go.Proofs.YtdglifoakdkheaaW.PrintLast Go.Proofs.YtdglifoakdkheaaW.PrintMore
set_option linter.unusedVariables false
theorem wrap64_id {n : Int} (h0 : -9223372036854775808 ≤ n) (h1 : n ≤ 9223372036854775807) : wrap64 n = n := by unfold wrap64; omega
theorem i64_of_wf {x : Int} (h : (Lit.int .i64 x).wf = true) : -9223372036854775808 ≤ x ∧ x ≤ 9223372036854775807 := by
  have hmin : IntKind.i64.min = -9223372036854775808 := rfl
  have hmax : IntKind.i64.max = 9223372036854775807 := rfl
  simp only [Lit.wf, Bool.and_eq_true, decide_eq_true_eq] at h
  omega
theorem Ev.all {α : Type} {g : Nat → Option α} {r : α} (h : ∀ k, g k = some r) : Ev g r := ⟨0, fun k _ => h k⟩
theorem rd_nat (xs : List Int) (i : Nat) : rd xs (i : Int) = xs.getD i 0 := rfl
def tm (l : List S41) (i : Nat) : Int := (l.getD i z41).f0
theorem rd41 (l : List S41) (i : Nat) : rd_T41 l (i : Int) = l.getD i z41 := rfl
def okAt (l : List S41) (i : Nat) : Bool := decide (-9007199254740992 ≤ tm l i) && (decide (tm l i ≤ 9007199254740992) && (decide (i = 0) || decide (tm l (i - 1) < tm l i)))
def ris (l : List S41) : Nat → Nat → Bool
  | _, 0 => true
  | i, d + 1 => okAt l i && ris l (i + 1) d
theorem timed_eq (t : Int) : rollup_Timed.f t = some (decide (-9007199254740992 ≤ t) && decide (t ≤ 9007199254740992)) := by
  unfold rollup_Timed.f
  by_cases h : t ≥ -9007199254740992
  · rw [if_pos h, decide_eq_true h]; rfl
  · rw [if_neg h, decide_eq_false h]; rfl
theorem rising_l0 (l : List S41) (hl : l.length ≤ 1152921504606846976) (d : Nat) : ∀ i : Nat, i + d = l.length → Ev (fun k => rollup_Rising.l0 k l l (l.length : Int) (i : Int)) (if ris l i d then 0 else 21) := by
  induction d with
  | zero =>
    intro i hi
    refine Ev.step (f := fun _ => some 0) (fun k => ?_) (Ev.now _)
    simp only [rollup_Rising.l0]
    rw [if_neg (by omega)]
  | succ d ih =>
    intro i hi
    refine Ev.step (f := fun k => if okAt l i then rollup_Rising.l0 k l l (l.length : Int) ((i + 1 : Nat) : Int) else some 21) (fun k => ?_) ?_
    · simp only [rollup_Rising.l0]
      have e : wrap64 ((i : Int) + 1) = ((i + 1 : Nat) : Int) := by rw [wrap64_id (by omega) (by omega)]; omega
      rw [if_pos (by omega), if_pos (by omega), if_pos (by omega), rd41, timed_eq, Option.bind_some, e]
      unfold okAt tm
      by_cases h1 : -9007199254740992 ≤ (l.getD i z41).f0
      · by_cases h2 : (l.getD i z41).f0 ≤ 9007199254740992
        · simp only [decide_eq_true h1, decide_eq_true h2, Bool.true_and, if_true]
          by_cases h3 : i = 0
          · rw [if_neg (by omega), decide_eq_true h3]; simp
          · rw [if_pos (by omega), wrap64_id (by omega) (by omega), if_pos (by omega), if_pos (by omega)]
            have e2 : ((i : Int) - 1) = ((i - 1 : Nat) : Int) := by omega
            rw [e2, rd41, decide_eq_false h3]
            by_cases h4 : (l.getD i z41).f0 ≤ (l.getD (i - 1) z41).f0
            · rw [if_pos h4, decide_eq_false (by omega)]; simp
            · rw [if_neg h4, decide_eq_true (by omega)]; simp
        · simp only [decide_eq_false h2]; simp
      · simp only [decide_eq_false h1]; simp
    · simp only [ris]
      by_cases h : okAt l i = true
      · simp only [h, if_true, Bool.true_and]
        exact ih (i + 1) (by omega)
      · simp only [h, Bool.false_eq_true, if_false, Bool.false_and]
        exact Ev.now (21 : Int)
theorem rising_ev (l : List S41) (hl : l.length ≤ 1152921504606846976) : Ev (fun k => rollup_Rising.f k l) (if ris l 0 l.length then 0 else 21) := rising_l0 l hl l.length 0 (by omega)
def tms (l : List S41) : List Int := l.map (·.f0)
theorem tms_get (l : List S41) (i : Nat) (hi : i < l.length) : (tms l).getD i 0 = tm l i := by
  unfold tms tm
  simp [List.getD_eq_getElem?_getD, hi]
theorem times_l0 (l : List S41) (hl : l.length ≤ 1152921504606) (d : Nat) : ∀ (i : Nat) (acc : List Int), i + d = l.length → acc = (tms l).take i → Ev (fun k => lysimeterref16_Times.l0 k l acc (i : Int)) (tms l) := by
  have hlen : (tms l).length = l.length := by simp [tms]
  induction d with
  | zero =>
    intro i acc hi ha
    refine Ev.step (f := fun _ => some acc) (fun k => ?_) ?_
    · simp only [lysimeterref16_Times.l0]
      rw [if_neg (by omega)]
    · rw [ha, List.take_of_length_le (by omega)]; exact Ev.now _
  | succ d ih =>
    intro i acc hi ha
    have e : wrap64 ((i : Int) + 1) = ((i + 1 : Nat) : Int) := by rw [wrap64_id (by omega) (by omega)]; omega
    have hal : acc.length = i := by rw [ha, List.length_take]; omega
    refine Ev.step (f := fun k => lysimeterref16_Times.l0 k l (acc ++ [(l.getD i z41).f0]) ((i + 1 : Nat) : Int)) (fun k => ?_) (ih (i + 1) _ (by omega) ?_)
    · simp only [lysimeterref16_Times.l0]
      rw [if_pos (by omega), if_pos (by omega), if_pos (by omega), rd41, e]
    · rw [ha, List.take_succ_eq_append_getElem (by omega)]
      congr 2
      have := tms_get l i (by omega)
      unfold tm at this
      rw [← this]
      simp [List.getD_eq_getElem?_getD, show i < (tms l).length by omega]
theorem times_ev (l : List S41) (hl : l.length ≤ 1152921504606) : Ev (fun k => lysimeterref16_Times.f k l) (tms l) := times_l0 l hl l.length 0 [] (by omega) (by simp)
theorem rrising_l0 (l : List S41) (hl : l.length ≤ 1152921504606) (d : Nat) : ∀ i : Nat, i + d = l.length → Ev (fun k => lysimeterref4_Rising.l0 k (tms l) (i : Int)) (ris l i d) := by
  have hlen : (tms l).length = l.length := by simp [tms]
  induction d with
  | zero =>
    intro i hi
    refine Ev.step (f := fun _ => some true) (fun k => ?_) (Ev.now _)
    simp only [lysimeterref4_Rising.l0]
    rw [if_neg (by omega)]
  | succ d ih =>
    intro i hi
    have e : wrap64 ((i : Int) + 1) = ((i + 1 : Nat) : Int) := by rw [wrap64_id (by omega) (by omega)]; omega
    refine Ev.step (f := fun k => if okAt l i then lysimeterref4_Rising.l0 k (tms l) ((i + 1 : Nat) : Int) else some false) (fun k => ?_) ?_
    · simp only [lysimeterref4_Rising.l0]
      rw [if_pos (by omega), if_pos (by omega), rd_nat, tms_get l i (by omega), e]
      unfold okAt
      by_cases h1 : -9007199254740992 ≤ tm l i
      · by_cases h2 : tm l i ≤ 9007199254740992
        · rw [if_neg (by omega), if_neg (by omega)]
          simp only [decide_eq_true h1, decide_eq_true h2, Bool.true_and]
          by_cases h3 : i = 0
          · rw [if_neg (by omega), decide_eq_true h3]; simp
          · have e2 : wrap64 ((i : Int) - 1) = ((i - 1 : Nat) : Int) := by rw [wrap64_id (by omega) (by omega)]; omega
            rw [if_pos (by omega), e2, if_pos (by omega), if_pos (by omega), rd_nat, tms_get l (i - 1) (by omega), decide_eq_false h3]
            by_cases h4 : tm l i ≤ tm l (i - 1)
            · rw [if_pos h4, decide_eq_false (by omega)]; simp
            · rw [if_neg h4, decide_eq_true (by omega)]; simp
        · rw [if_neg (by omega), if_pos (by omega)]
          simp only [decide_eq_false h2]; simp
      · rw [if_pos (by omega)]
        simp only [decide_eq_false h1]; simp
    · by_cases h : okAt l i = true
      · simp only [ris, h, if_true, Bool.true_and]
        exact ih (i + 1) (by omega)
      · simp only [ris, h, Bool.false_eq_true, if_false, Bool.false_and]
        exact Ev.now false
theorem rrising_ev (l : List S41) (hl : l.length ≤ 1152921504606) : Ev (fun k => lysimeterref4_Rising.f k (tms l)) (ris l 0 l.length) := rrising_l0 l hl l.length 0 (by omega)
def In (x : Int) : Prop := -9223372036854775808 ≤ x ∧ x ≤ 9223372036854775807
def addS (x y : Int) : Int := if x + y < -9223372036854775808 then -9223372036854775808 else if 9223372036854775807 < x + y then 9223372036854775807 else x + y
theorem in_addS (x y : Int) : In (addS x y) := by unfold In addS; repeat' split
                                                  all_goals omega
theorem add_eq {k : Nat} (hk : 400 ≤ k) {a b : Int} (ha : In a) (hb : In b) : fixed_Add.f k a b = some (addS a b) := by
  obtain ⟨k, rfl⟩ : ∃ m, k = m + 1 := ⟨k - 1, by omega⟩
  obtain ⟨a0, a1⟩ := ha
  obtain ⟨b0, b1⟩ := hb
  unfold fixed_Add.f
  simp only [fixed_Add.j0]
  unfold wrap64 addS
  repeat' split
  all_goals first | (congr 1; omega) | (simp_all; done) | (simp_all; omega)
theorem radd_eq {k : Nat} (hk : 400 ≤ k) {a b : Int} (ha : In a) (hb : In b) : lysimeterref1_Add.f k a b = some (addS a b) := by
  obtain ⟨k, rfl⟩ : ∃ m, k = m + 1 := ⟨k - 1, by omega⟩
  obtain ⟨a0, a1⟩ := ha
  obtain ⟨b0, b1⟩ := hb
  unfold lysimeterref1_Add.f
  simp only [lysimeterref1_Add.j0]
  unfold wrap64 addS
  repeat' split
  all_goals first | (congr 1; omega) | (simp_all; done) | (simp_all; omega)
def floorS (t w : Int) : Int := if w < 1 then t else if t - t % w < -9223372036854775808 then -9223372036854775808 else t - t % w
def joinS (a b : S52) : S52 := if a.f1 = 0 then ⟨a.f0, b.f1, b.f2, b.f3, b.f4, b.f5⟩ else if b.f1 = 0 then a else ⟨a.f0, wrap64 (a.f1 + b.f1), addS a.f2 b.f2, min a.f3 b.f3, max a.f4 b.f4, b.f5⟩
def nilS (t : Int) : S52 := ⟨t, 0, 0, 0, 0, 0⟩
def stepS (w : Int) (st : List S52 × Option S52) (b : S52) : List S52 × Option S52 :=
  match st.2 with
  | none => (st.1, some (joinS (nilS (floorS b.f0 w)) b))
  | some now => if now.f0 = floorS b.f0 w then (st.1, some (joinS now b)) else (st.1 ++ [now], some (joinS (nilS (floorS b.f0 w)) b))
def stepsS (w : Int) (l : List S52) (st : List S52 × Option S52) : List S52 × Option S52 := l.foldl (stepS w) st
def outS (st : List S52 × Option S52) : List S52 := match st.2 with | none => st.1 | some now => st.1 ++ [now]
def oneS (s : S41) : S52 := ⟨s.f0, 1, s.f1, s.f1, s.f1, s.f1⟩
structure Rows (w : Int) (l : List S41) (G : List (Int × List S41)) : Prop where
  all : (G.map (·.2)).flatten = l
  each : ∀ p ∈ G, p.2 ≠ [] ∧ ∀ s ∈ p.2, floorS s.f0 w = p.1
def lowS (w : Int) (b : S52) : S52 := ⟨floorS b.f0 w, b.f1, b.f2, b.f3, b.f4, b.f5⟩
def refS (w : Int) (out : List S52) (b : S52) : List S52 := match out.getLast? with
  | none => out ++ [lowS w b]
  | some x => if x.f0 = floorS b.f0 w then out.dropLast ++ [joinS x (lowS w b)] else out ++ [lowS w b]
theorem ref_step (w : Int) (st : List S52 × Option S52) (b : S52) (h : st.2 = none → st.1 = []) : refS w (outS st) b = outS (stepS w st b) := by
  obtain ⟨done, cur⟩ := st
  cases cur with
  | none =>
    obtain rfl : done = [] := h rfl
    rfl
  | some now =>
    unfold refS
    have e : outS (done, some now) = done ++ [now] := rfl
    rw [e, List.getLast?_concat, List.dropLast_concat]
    dsimp only
    have e2 : stepS w (done, some now) b = if now.f0 = floorS b.f0 w then (done, some (joinS now b)) else (done ++ [now], some (joinS (nilS (floorS b.f0 w)) b)) := rfl
    rw [e2]
    by_cases c : now.f0 = floorS b.f0 w
    · rw [if_pos c, if_pos c]; rfl
    · rw [if_neg c, if_neg c]; rfl
theorem step_some (w : Int) (st : List S52 × Option S52) (b : S52) : (stepS w st b).2.isSome = true := by
  obtain ⟨done, cur⟩ := st
  cases cur with
  | none => rfl
  | some now =>
    show (if now.f0 = floorS b.f0 w then ((done, some (joinS now b)) : List S52 × Option S52) else (done ++ [now], some (joinS (nilS (floorS b.f0 w)) b))).2.isSome = true
    split <;> rfl
theorem ref_steps (w : Int) : ∀ (l : List S52) (st : List S52 × Option S52), (st.2 = none → st.1 = []) → l.foldl (refS w) (outS st) = outS (stepsS w l st) := by
  intro l
  induction l with
  | nil => intro st _; rfl
  | cons b l ih =>
    intro st h
    rw [List.foldl_cons, ref_step w st b h]
    exact ih (stepS w st b) (fun e => by have := step_some w st b; rw [e] at this; cases this)
theorem out_eq : rollup_out = outS := rfl
theorem ask_eq (w : Int) : rollup_ask.f w = some (if w < 1 ∨ 9007199254740992 < w then 1 else 0) := by
  unfold rollup_ask.f
  repeat' split
  all_goals first | rfl | omega
theorem tmod_emod (t w : Int) (hw : 1 ≤ w) : (0 ≤ Int.tmod t w → t % w = Int.tmod t w) ∧ (Int.tmod t w < 0 → t % w = Int.tmod t w + w) ∧ -w < Int.tmod t w ∧ Int.tmod t w < w := by
  have h1 := Int.tmod_add_mul_tdiv t w
  have h2 : Int.tmod t w < w := Int.tmod_lt_of_pos t (by omega)
  have h3 : -w < Int.tmod t w := by
    have := Int.tmod_lt_of_pos (-t) (show 0 < w by omega)
    rw [Int.neg_tmod] at this
    omega
  have e : t % w = Int.tmod t w % w := by
    conv => lhs; rw [← h1]
    exact Int.add_mul_emod_self_left _ _ _
  refine ⟨fun h => ?_, fun h => ?_, h3, h2⟩
  · rw [e]; exact Int.emod_eq_of_lt h h2
  · rw [e, ← Int.add_emod_right]; exact Int.emod_eq_of_lt (by omega) (by omega)
theorem floor_eq {t w : Int} (ht : In t) (hw : In w) : rollup_Floor.f t w = some (floorS t w) := by
  obtain ⟨t0, t1⟩ := ht
  obtain ⟨w0, w1⟩ := hw
  unfold rollup_Floor.f floorS
  by_cases h : w < 1
  · rw [if_pos h, if_pos h]
  · rw [if_neg h, if_neg h, if_neg (by omega)]
    obtain ⟨e1, e2, e3, e4⟩ := tmod_emod t w (by omega)
    obtain ⟨r, hr⟩ : ∃ r, Int.tmod t w = r := ⟨_, rfl⟩
    obtain ⟨q, hq⟩ : ∃ q, t % w = q := ⟨_, rfl⟩
    rw [hr] at e1 e2 e3 e4
    rw [hq] at e1 e2
    rw [hr, hq]
    by_cases c : r ≥ 0
    · rw [if_pos c, e1 c]
      have e5 : q = r := e1 c
      by_cases ht0 : 0 ≤ t
      · have : r ≤ t := by
          have h5 := Int.tmod_add_mul_tdiv t w
          have h6 : 0 ≤ w * Int.tdiv t w := Int.mul_nonneg (by omega) (Int.tdiv_nonneg ht0 (by omega))
          omega
        rw [if_neg (by omega), wrap64_id (by omega) (by omega)]
      · have : t < 0 := by omega
        have hr0 : r = 0 := by
          have h5 := Int.tmod_add_mul_tdiv t w
          have h6 : Int.tmod (-t) w = -r := by rw [Int.neg_tmod, hr]
          have h7 : 0 ≤ Int.tmod (-t) w := Int.tmod_nonneg w (by omega)
          omega
        rw [hr0, if_neg (by omega), wrap64_id (by omega) (by omega)]
    · rw [if_neg c, e2 (by omega)]
      have ht0 : t < 0 := by
        by_cases h : 0 ≤ t
        · have := Int.tmod_nonneg w h; omega
        · omega
      rw [wrap64_id (n := t - r) (by omega) (by omega), wrap64_id (n := -9223372036854775808 + w) (by omega) (by omega)]
      by_cases d : t - r < -9223372036854775808 + w
      · rw [if_pos d, if_pos (by omega)]
      · rw [if_neg d, if_neg (by omega), wrap64_id (by omega) (by omega)]
        congr 1
        omega
theorem rfloor_eq {t w : Int} (ht : In t) (hw : In w) : lysimeterref16_Floor.f t w = some (floorS t w) := by
  obtain ⟨t0, t1⟩ := ht
  obtain ⟨w0, w1⟩ := hw
  unfold lysimeterref16_Floor.f floorS
  by_cases h : w < 1
  · rw [if_pos h, if_pos h]
  · rw [if_neg h, if_neg h, if_neg (by omega)]
    obtain ⟨e1, e2, e3, e4⟩ := tmod_emod t w (by omega)
    obtain ⟨r, hr⟩ : ∃ r, Int.tmod t w = r := ⟨_, rfl⟩
    obtain ⟨q, hq⟩ : ∃ q, t % w = q := ⟨_, rfl⟩
    rw [hr] at e1 e2 e3 e4
    rw [hq] at e1 e2
    rw [hr, hq]
    by_cases c : r < 0
    · have ht0 : t < 0 := by
        by_cases h : 0 ≤ t
        · have := Int.tmod_nonneg w h; omega
        · omega
      rw [if_pos c, e2 c, wrap64_id (n := r + w) (by omega) (by omega), wrap64_id (n := -9223372036854775808 + (r + w)) (by omega) (by omega)]
      by_cases d : t < -9223372036854775808 + (r + w)
      · rw [if_pos d, if_pos (by omega)]
      · rw [if_neg d, if_neg (by omega), wrap64_id (by omega) (by omega)]
    · have e5 : q = r := e1 (by omega)
      rw [if_neg c, e5, wrap64_id (n := -9223372036854775808 + r) (by omega) (by omega)]
      by_cases d : t < -9223372036854775808 + r
      · rw [if_pos d, if_pos (by omega)]
      · rw [if_neg d, if_neg (by omega), wrap64_id (by omega) (by omega)]
theorem join2_eq {k : Nat} (hk : 400 ≤ k) (a b : S52) (ha : In a.f2) (hb : In b.f2) : rollup_join2 k a b = some (joinS a b) := by
  unfold rollup_join2 rollup_Join.f joinS rollup_sum_add.f
  rw [add_eq hk ha hb]
  by_cases h1 : a.f1 = 0
  · rw [if_pos h1, if_pos h1]; rfl
  · rw [if_neg h1, if_neg h1]
    by_cases h2 : b.f1 = 0
    · rw [if_pos h2, if_pos h2]; rfl
    · rw [if_neg h2, if_neg h2]
      simp only [Option.bind_some]
      congr 2
      · unfold mn; omega
      · unfold mx; omega
def okNow (st : List S52 × Option S52) : Prop := ∀ now, st.2 = some now → In now.f2
theorem join_in {a b : S52} (ha : In a.f2) (hb : In b.f2) : In (joinS a b).f2 := by
  unfold joinS
  repeat' split
  · exact hb
  · exact ha
  · exact in_addS _ _
theorem in_zero : In 0 := ⟨by decide, by decide⟩
theorem step_eq {k : Nat} (hk : 400 ≤ k) {w : Int} (hw : In w) {st : List S52 × Option S52} (hs : okNow st) {b : S52} (h0 : In b.f0) (h2 : In b.f2) : rollup_step k w st b = some (stepS w st b) ∧ okNow (stepS w st b) := by
  obtain ⟨d, c⟩ := st
  unfold rollup_step stepS
  rw [floor_eq h0 hw, Option.bind_some]
  cases c with
  | none =>
    dsimp only
    rw [join2_eq hk _ _ in_zero h2, Option.bind_some]
    refine ⟨rfl, fun now e => ?_⟩
    obtain rfl := Option.some.inj e
    exact join_in in_zero h2
  | some now =>
    have hn := hs now rfl
    dsimp only
    by_cases c : now.f0 = floorS b.f0 w
    · rw [if_pos c, if_pos c, join2_eq hk _ _ hn h2, Option.bind_some]
      refine ⟨rfl, fun now e => ?_⟩
      obtain rfl := Option.some.inj e
      exact join_in hn h2
    · rw [if_neg c, if_neg c, join2_eq hk _ _ in_zero h2, Option.bind_some]
      refine ⟨rfl, fun now e => ?_⟩
      obtain rfl := Option.some.inj e
      exact join_in in_zero h2
theorem steps_eq {k : Nat} (hk : 400 ≤ k) {w : Int} (hw : In w) : ∀ (l : List S52) {st : List S52 × Option S52}, okNow st → (∀ b ∈ l, In b.f0 ∧ In b.f2) → rollup_steps k w l st = some (stepsS w l st) := by
  intro l
  induction l with
  | nil => intro st _ _; rfl
  | cons b l ih =>
    intro st hs hb
    obtain ⟨h1, h2⟩ := step_eq hk hw hs (hb b (List.mem_cons_self ..)).1 (hb b (List.mem_cons_self ..)).2
    show (rollup_step k w st b).bind (rollup_steps k w l) = _
    rw [h1, Option.bind_some, ih h2 (fun x hx => hb x (List.mem_cons_of_mem _ hx))]
    rfl
theorem step_len (w : Int) (st : List S52 × Option S52) (b : S52) : (outS (stepS w st b)).length ≤ (outS st).length + 1 := by
  obtain ⟨d, c⟩ := st
  cases c with
  | none => simp [outS, stepS]
  | some now =>
    unfold stepS
    dsimp only
    split <;> simp [outS]
theorem steps_len (w : Int) : ∀ (l : List S52) (st : List S52 × Option S52), (outS (stepsS w l st)).length ≤ (outS st).length + l.length := by
  intro l
  induction l with
  | nil => intro st; exact Nat.le_refl _
  | cons b l ih =>
    intro st
    have h1 := ih (stepS w st b)
    have h2 := step_len w st b
    show (outS (stepsS w l (stepS w st b))).length ≤ _
    rw [List.length_cons]
    omega
def bucketsS (l : List S41) (w : Int) : List S52 × Int := if w < 1 ∨ 9007199254740992 < w then ([], 1) else if ris l 0 l.length = true then (outS (stepsS w (l.map oneS) ([], none)), 0) else ([], 21)
def In41 (l : List S41) : Prop := ∀ s ∈ l, In s.f0 ∧ In s.f1
theorem one_in {l : List S41} (h : In41 l) : ∀ b ∈ l.map oneS, In b.f0 ∧ In b.f2 := by
  intro b hb
  obtain ⟨s, hs, rfl⟩ := List.mem_map.mp hb
  exact h s hs
theorem ok_none : okNow ([], none) := fun _ e => by cases e
end Go.Proofs.Ytdglifoakdkheaa.Roll
end
section
namespace Go.Proofs.Ytdglifoakdkheaa.Roll
open Go.RowKit Go.Shelf Go.Proofs.YtdglifoakdkheaaW.PrintWords Go.Proofs.YtdglifoakdkheaaW.PrintLast Go.Proofs.YtdglifoakdkheaaW.PrintMore
set_option linter.unusedVariables false
set_option maxHeartbeats 4000000 in
set_option maxRecDepth 100000 in
theorem joined_calls (g : FuncId) (lb : Array Value) (a1 : Int) (w : World) :
    Calls Try.prog 46 #[.func (.func g) #[] lb, .int .i64 a1] w fun e w' => e = .returned (.func (.func 52) #[] #[.pointer (some ⟨w.heap.size, 0, none⟩), .pointer (some ⟨w.heap.size + 1, 0, none⟩)]) ∧ w' = (w.alloc (.cells #[.func (.func g) #[] lb] 67)).alloc (.cells #[.int .i64 a1] 3) := by
  go_enter Try.func46, Try.ntmps46
  go_wp2
  go_ret
  exact ⟨rfl, rfl⟩
theorem enters44 : ∀ args w, (callFunc 44 args).run Try.prog w = .ok (.enter 44 args) w := enters_of Try.func44 rfl rfl
theorem enters52 : ∀ args w, (callFunc 52 args).run Try.prog w = .ok (.enter 52 args) w := enters_of Try.func52 rfl rfl
theorem gather_joined (a1 : Int) (gf : Nat) (lb : Array Value) (xs : List S52) (hx : ∀ b ∈ xs, In b.f0 ∧ In b.f2) (h1 : In a1) (hlen : xs.length ≤ 100000) (bl bw : Nat) (w : World) (eg : ∀ args w, (callFunc gf args).run Try.prog w = .ok (.enter gf args) w)
    (hbl : w.cell? ⟨bl, 0, none⟩ = some (.func (.func gf) #[] lb)) (hbw : w.cell? ⟨bw, 0, none⟩ = some (.int .i64 a1))
    (hseq : SeqJ Fence.wide 8 Try.prog gf lb (fun x => #[v52 x]) 0 xs w) :
    Calls Try.prog 45 #[.func (.func 52) #[] #[.pointer (some ⟨bl, 0, none⟩), .pointer (some ⟨bw, 0, none⟩)]] w fun e w' => ∃ v, e = .returned v ∧ Kd.R k52 52 w' w.heap.size (fun _ => True) v (outS (stepsS a1 xs ([], none))) ∧ Below w.heap.size w w' := by
  have hs := steps_eq (k := 400) (Nat.le_refl _) h1 xs ok_none hx
  have hl := steps_len a1 xs ([], none)
  refine callsIn_wide.1 (gathered_in 10 (by decide) 52 _ 5 (rollup_out (stepsS a1 xs ([], none))) ?_ w enters52 ?_)
  · rw [out_eq]
    have : (outS (([], none) : List S52 × Option S52)).length = 0 := rfl
    omega
  · exact joined_seq 400 9 (by decide) a1 gf lb xs _ bl bw w eg hbl hbw hseq hs
set_option maxHeartbeats 4000000 in
set_option maxRecDepth 100000 in
theorem buckets_calls (A0 : Option Addr) (c0 : Nat) (l0 : List S41) (a1 : Int) (w : World) (hr0 : Kd.C k41 w A0 l0.length l0) (hc0 : l0.length ≤ c0) (hin : In41 l0) (h1 : In a1) (hlen : l0.length ≤ 100000) :
    Calls Try.prog 25 #[.slice A0 l0.length c0, .int .i64 a1] w fun e w' => ∃ v, e = .returned (.tuple #[v, .int .i64 (bucketsS l0 a1).2]) ∧ Kd.R k52 52 w' w.heap.size (fun _ => True) v (bucketsS l0 a1).1 ∧ Below w.heap.size w w' := by
  have AC := Aside0.mk (ask_eq a1)
  have fin0 : Below w.heap.size w (w.alloc (.cells #[.slice A0 l0.length c0] 32)) := below_alloc (Below.refl _ _) _
  have FIN := Aside0.mk fin0
  by_cases c1 : a1 < 1 ∨ 9007199254740992 < a1
  · unfold bucketsS
    rw [if_pos c1]
    rw [if_pos c1] at AC
    clear c1 hr0 hin h1 fin0
    go_enter Try.func25, Try.ntmps25
    go_wp2_with (go_at_call 42; (with_reducible refine (rollup_ask.calls a1 1 _ AC.out).mono ?_); rintro e w' ⟨rfl, ⟨nd, rfl⟩⟩)
    go_ret2
    exact ⟨_, rfl, Kd.R_nil _ _ _ _ _, pw_below_drewN FIN.out _⟩
  · rw [if_neg c1] at AC
    obtain ⟨K, hK⟩ := rising_ev l0 (by omega)
    have hK := hK K (Nat.le_refl _)
    by_cases c2 : ris l0 0 l0.length = true
    · rw [if_pos c2] at hK
      have eB : bucketsS l0 a1 = (outS (stepsS a1 (l0.map oneS) ([], none)), 0) := by
        unfold bucketsS
        rw [if_neg c1, if_pos c2]
      rw [eB]
      clear eB c1 c2
      have HK := Aside0.mk hK
      have HR := Aside0.mk hr0
      have HIN := Aside0.mk hin
      have HW := Aside0.mk h1
      have HL := Aside0.mk hlen
      have HC := Aside0.mk hc0
      clear hK hr0 hin h1 hlen hc0 fin0
      go_enter Try.func25, Try.ntmps25
      go_wp2_with (first
        | (go_at_call 42; (with_reducible refine (rollup_ask.calls a1 0 _ AC.out).mono ?_); rintro e w' ⟨rfl, ⟨nd, rfl⟩⟩)
        | (go_at_call 43; (with_reducible refine (rollup_Rising.calls K A0 c0 l0 0 _ (Kd.C_below HR.out (pw_below_drewN FIN.out _)) HC.out HK.out).mono ?_); rintro e w1 ⟨rfl, hb1⟩; have HB1 := Aside0.mk hb1; clear hb1)
        | (go_at_call 46; (with_reducible refine (joined_calls 44 _ a1 _).mono ?_); rintro e w' ⟨rfl, rfl⟩))
      have g0 : (w.alloc (.cells #[.slice A0 l0.length c0] 32)).heap[w.heap.size]? = some (.cells #[.slice A0 l0.length c0] 32 (0, 0)) := World.alloc_heap_new w _
      have g1 := blk_alloc (blk_alloc (blk_below (blk_drewN g0 nd) HB1.out) (.cells #[.func (.func 44) #[] #[.pointer (some ⟨w.heap.size, 0, none⟩)]] 67)) (.cells #[.int .i64 a1] 3)
      have hB2 : Below w.heap.size w ((w1.alloc (.cells #[.func (.func 44) #[] #[.pointer (some ⟨w.heap.size, 0, none⟩)]] 67)).alloc (.cells #[.int .i64 a1] 3)) := below_alloc (below_alloc ((pw_below_drewN FIN.out nd).trans (HB1.out.mono (by simp))) _) _
      refine (gather_joined a1 44 _ (l0.map oneS) (one_in HIN.out) HW.out (by rw [List.length_map]; exact HL.out) w1.heap.size (w1.heap.size + 1) _ enters44 (by go_simp) (by go_simp) (one_seq 8 (by decide) w.heap.size A0 c0 l0 _ (blk_cell g1 0) (Kd.C_below HR.out hB2) HL.out)).mono ?_
      rintro e w' ⟨v, rfl, hR, hb⟩
      have HRR := Aside0.mk (Kd.R_lower hR hB2.size)
      have HBB := Aside0.mk (hB2.trans (hb.mono hB2.size))
      clear hR hb hB2 g0 g1
      go_wp2
      go_ret2
      exact ⟨_, rfl, HRR.out, HBB.out⟩
    · rw [if_neg c2] at hK
      have eB : bucketsS l0 a1 = ([], 21) := by
        unfold bucketsS
        rw [if_neg c1, if_neg c2]
      rw [eB]
      clear eB c1 c2 h1 hin
      have HK := Aside0.mk hK
      have HR := Aside0.mk hr0
      have HC := Aside0.mk hc0
      clear hK hr0 hlen hc0 fin0
      go_enter Try.func25, Try.ntmps25
      go_wp2_with (first
        | (go_at_call 42; (with_reducible refine (rollup_ask.calls a1 0 _ AC.out).mono ?_); rintro e w' ⟨rfl, ⟨nd, rfl⟩⟩)
        | (go_at_call 43; (with_reducible refine (rollup_Rising.calls K A0 c0 l0 21 _ (Kd.C_below HR.out (pw_below_drewN FIN.out _)) HC.out HK.out).mono ?_); rintro e w1 ⟨rfl, hb1⟩))
      go_ret2
      exact ⟨_, rfl, Kd.R_nil _ _ _ _ _, (pw_below_drewN FIN.out _).trans (hb1.mono (by simp))⟩
end Go.Proofs.Ytdglifoakdkheaa.Roll
end
section
namespace Go.Proofs.Ytdglifoakdkheaa
open Go.RowKit Go.Proofs.YtdglifoakdkheaaW.PrintWords
theorem C_map {α β γ : Type} {d : Kd α} {f : β → α} {f' : γ → α} {g : β → γ} (hfg : ∀ x, f' (g x) = f x) {w : World} {A : Option Addr} {n : Nat} {xs : List β} (h : (Kd.iso d f).C w A n xs) : (Kd.iso d f').C w A n (xs.map g) := by
  obtain ⟨h1, h2, h3⟩ := h
  refine ⟨by rw [List.length_map]; exact h1, h2, fun h0 => ?_⟩
  obtain ⟨ad, e, hc⟩ := h3 h0
  refine ⟨ad, e, fun j p hj => ?_⟩
  rw [List.getElem?_map] at hj
  obtain ⟨y, hy, rfl⟩ := Option.map_eq_some_iff.mp hj
  obtain ⟨c, c1, c2, c3⟩ := hc j y hy
  refine ⟨c, c1, ?_, c3⟩
  show d.K w (f' (g y)) c
  rw [hfg]
  exact c2
theorem R_map {α β γ : Type} {d : Kd α} {f : β → α} {f' : γ → α} {g : β → γ} (hfg : ∀ x, f' (g x) = f x) {t : TypeId} {w : World} {base : Nat} {ok : Nat → Prop} {v : Value} {xs : List β} (h : (Kd.iso d f).R t w base ok v xs) : (Kd.iso d f').R t w base ok v (xs.map g) := by
  obtain ⟨h1, cs, h2, h3, h4⟩ := h
  refine ⟨h1, cs, by rw [List.length_map]; exact h2, by rw [List.length_map]; exact h3, fun j p hj => ?_⟩
  rw [List.getElem?_map] at hj
  obtain ⟨y, hy, rfl⟩ := Option.map_eq_some_iff.mp hj
  have := h4 j y hy
  show d.M w base (fun k => ok k ∧ some k ≠ v.ownBlock) (f' (g y)) _
  rw [hfg]
  exact this
namespace Roll
def InB (x : Int) : Bool := decide (-9223372036854775808 ≤ x) && decide (x ≤ 9223372036854775807)
theorem inb_iff {x : Int} : InB x = true ↔ In x := by unfold InB In; rw [Bool.and_eq_true, decide_eq_true_eq, decide_eq_true_eq]
def inB (n : Nat) (l : List S41) (w : Int) : Bool := decide (n ≤ 100000) && (l.all (fun s => InB s.f0 && InB s.f1) && InB w)
theorem inB_iff {n : Nat} {l : List S41} {w : Int} : inB n l w = true ↔ n ≤ 100000 ∧ In41 l ∧ In w := by
  unfold inB In41
  rw [Bool.and_eq_true, Bool.and_eq_true, decide_eq_true_eq, List.all_eq_true, inb_iff]
  constructor
  · rintro ⟨h1, h2, h3⟩
    refine ⟨h1, fun s hs => ?_, h3⟩
    have := h2 s hs
    rwa [Bool.and_eq_true, inb_iff, inb_iff] at this
  · rintro ⟨h1, h2, h3⟩
    refine ⟨h1, fun s hs => ?_, h3⟩
    rw [Bool.and_eq_true, inb_iff, inb_iff]
    exact h2 s hs
end Roll
end Go.Proofs.Ytdglifoakdkheaa
end
