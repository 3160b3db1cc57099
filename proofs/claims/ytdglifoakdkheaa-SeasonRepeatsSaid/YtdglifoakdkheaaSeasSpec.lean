/- What package season and its reference compute, as plain functions of the points. -/
import Derived.Test.YtdglifoakdkheaaSeasx
namespace Go.Proofs.Ytdglifoakdkheaa.SS
open Go.RowKit Go.Proofs.Ytdglifoakdkheaa.Seas Go.Proofs.YtdglifoakdkheaaW.PrintWords Go.Proofs.YtdglifoakdkheaaW.PrintLast Go.Proofs.YtdglifoakdkheaaW.PrintMore

theorem wrap64_id {n : Int} (h0 : -9223372036854775808 ≤ n) (h1 : n ≤ 9223372036854775807) : wrap64 n = n := by unfold wrap64; omega
theorem i64_of_wf {x : Int} (h : (Lit.int .i64 x).wf = true) : -9223372036854775808 ≤ x ∧ x ≤ 9223372036854775807 := by
  have hmin : IntKind.i64.min = -9223372036854775808 := rfl
  have hmax : IntKind.i64.max = 9223372036854775807 := rfl
  simp only [Lit.wf, Bool.and_eq_true, decide_eq_true_eq] at h
  omega
theorem Ev.eq {α : Type} {g f : Nat → Option α} {r : α} (h : g = f) (k : Ev f r) : Ev g r := h ▸ k
/-- From some number of rounds on. -/
theorem Ev.late {α : Type} {g : Nat → Option α} {r : α} (K : Nat) (h : ∀ k, K ≤ k → g k = some r) : Ev g r := ⟨K, h⟩
def In (x : Int) : Prop := -9223372036854775808 ≤ x ∧ x ≤ 9223372036854775807
def sat (z : Int) : Int := if z > 9223372036854775807 then 9223372036854775807 else if z < -9223372036854775808 then -9223372036854775808 else z
theorem sat_id {z : Int} (h0 : -9223372036854775808 ≤ z) (h1 : z ≤ 9223372036854775807) : sat z = z := by
  unfold sat; rw [if_neg (by omega), if_neg (by omega)]
theorem sat_hi {z : Int} (h : 9223372036854775807 ≤ z) : sat z = 9223372036854775807 := by
  unfold sat; split <;> omega
theorem sat_lo {z : Int} (h : z ≤ -9223372036854775808) : sat z = -9223372036854775808 := by
  unfold sat; rw [if_neg (by omega)]; split <;> omega
theorem sat_ge (z : Int) : -9223372036854775808 ≤ sat z := by unfold sat; split; omega; split <;> omega
theorem sat_le (z : Int) : sat z ≤ 9223372036854775807 := by unfold sat; split; omega; split <;> omega
theorem sat_mono {x y : Int} (h : x ≤ y) : sat x ≤ sat y := by unfold sat; repeat' split
                                                               all_goals omega
theorem in_sat (z : Int) : In (sat z) := ⟨sat_ge z, sat_le z⟩
theorem add_eq {k : Nat} (hk : 400 ≤ k) {a b : Int} (ha : In a) (hb : In b) : fixed_Add.f k a b = some (sat (a + b)) := by
  obtain ⟨k, rfl⟩ : ∃ m, k = m + 1 := ⟨k - 1, by omega⟩
  obtain ⟨a0, a1⟩ := ha
  obtain ⟨b0, b1⟩ := hb
  unfold fixed_Add.f
  simp only [fixed_Add.j0]
  unfold wrap64 sat
  repeat' split
  all_goals first | (congr 1; omega) | (simp_all; done) | (simp_all; omega)
theorem sub_eq {k : Nat} (hk : 400 ≤ k) {a b : Int} (ha : In a) (hb : In b) : fixed_Sub.f k a b = some (sat (a - b)) := by
  obtain ⟨k, rfl⟩ : ∃ m, k = m + 1 := ⟨k - 1, by omega⟩
  obtain ⟨a0, a1⟩ := ha
  obtain ⟨b0, b1⟩ := hb
  unfold fixed_Sub.f
  simp only [fixed_Sub.j0]
  unfold wrap64 sat
  repeat' split
  all_goals first | (congr 1; omega) | (simp_all; done) | (simp_all; omega)
theorem radd_eq {k : Nat} (hk : 400 ≤ k) {a b : Int} (ha : In a) (hb : In b) : lysimeterref1_Add.f k a b = some (sat (a + b)) := by
  obtain ⟨k, rfl⟩ : ∃ m, k = m + 1 := ⟨k - 1, by omega⟩
  obtain ⟨a0, a1⟩ := ha
  obtain ⟨b0, b1⟩ := hb
  unfold lysimeterref1_Add.f
  simp only [lysimeterref1_Add.j0]
  unfold wrap64 sat
  repeat' split
  all_goals first | (congr 1; omega) | (simp_all; done) | (simp_all; omega)
theorem rsub_eq {k : Nat} (hk : 400 ≤ k) {a b : Int} (ha : In a) (hb : In b) : lysimeterref1_Sub.f k a b = some (sat (a - b)) := by
  unfold lysimeterref1_Sub.f
  by_cases h : b = -9223372036854775808
  · rw [if_pos h]
    obtain ⟨a0, a1⟩ := ha
    unfold wrap64 sat
    repeat' split
    all_goals first | rfl | (congr 1; omega) | omega
  · rw [if_neg h]
    obtain ⟨b0, b1⟩ := hb
    have e : wrap64 (-b) = -b := wrap64_id (by omega) (by omega)
    rw [e, radd_eq hk ha ⟨by omega, by omega⟩]
    simp only [Option.bind_some]
    congr 2

def dst (a b : Int) : Int := sat (if a < b then b - a else a - b)
theorem dist_eq {k : Nat} (hk : 400 ≤ k) {a b : Int} (ha : In a) (hb : In b) : season_Distance.f k a b = some (dst a b) := by
  unfold season_Distance.f dst mx mn
  by_cases h : a < b
  · rw [if_pos h, if_neg (by omega), if_pos h, sub_eq hk hb ha]; rfl
  · rw [if_neg h, if_neg h]
    by_cases h2 : b < a
    · rw [if_pos h2, sub_eq hk ha hb]; rfl
    · rw [if_neg h2, sub_eq hk ha ha]
      simp only [Option.bind_some]
      rw [show b = a by omega]
theorem rdist_eq {k : Nat} (hk : 400 ≤ k) {a b : Int} (ha : In a) (hb : In b) : lysimeterref21_dist.f k a b = some (dst a b) := by
  unfold lysimeterref21_dist.f dst
  by_cases h : a < b
  · rw [if_pos h, if_pos h, rsub_eq hk hb ha]; rfl
  · rw [if_neg h, if_neg h, rsub_eq hk ha hb]; rfl
/-- What is missed from place i on, so much having been missed. -/
def misS (l : List Int) (s : Nat) : Int → Nat → Nat → Int
  | m, _, 0 => m
  | m, i, d + 1 => misS l s (sat (m + dst (l.getD i 0) (l.getD (i - s) 0))) (i + 1) d
def allIn (l : List Int) : Prop := ∀ i, i < l.length → In (l.getD i 0)
theorem rd_nat (xs : List Int) (i : Nat) : rd xs (i : Int) = xs.getD i 0 := rfl
theorem miss_l0 (l : List Int) (hl : l.length ≤ 1152921504606846976) (hin : allIn l) (s : Nat) (d : Nat) : ∀ (i : Nat) (m : Int), i + d = l.length → s ≤ i → In m → Ev (fun k => season_Miss.l0 k l (s : Int) m (i : Int)) (misS l s m i d, 0) := by
  induction d with
  | zero =>
    intro i m hi hs hm
    refine Ev.step (f := fun _ => some (m, 0)) (fun k => ?_) (Ev.now _)
    simp only [season_Miss.l0]
    rw [if_neg (by omega)]
  | succ d ih =>
    intro i m hi hs hm
    have e : wrap64 ((i : Int) + 1) = ((i + 1 : Nat) : Int) := by rw [wrap64_id (by omega) (by omega)]; omega
    have e1 : wrap64 ((i : Int) - s) = ((i - s : Nat) : Int) := by rw [wrap64_id (by omega) (by omega)]; omega
    have a1 := hin i (by omega)
    have a2 := hin (i - s) (by omega)
    refine Ev.step (f := fun k => (season_Distance.f k (l.getD i 0) (l.getD (i - s) 0)).bind fun d => ((fixed_Add.f k m d).bind fun t => season_Miss.l0 k l (s : Int) t ((i + 1 : Nat) : Int))) (fun k => ?_) ?_
    · simp only [season_Miss.l0, season_Miss_1.f]
      rw [if_pos (by omega), if_pos (by omega), if_pos (by omega), e1, if_pos (by omega), if_pos (by omega), rd_nat, rd_nat, e]
    · refine Ev.bind (Ev.late 400 fun k hk => dist_eq hk a1 a2) (Ev.bind (Ev.late 400 fun k hk => add_eq hk hm (in_sat _)) ?_)
      exact ih (i + 1) _ (by omega) (by omega) (in_sat _)
theorem rmiss_l0 (l : List Int) (hl : l.length ≤ 1152921504606846976) (hin : allIn l) (s : Nat) (d : Nat) : ∀ (i : Nat) (m : Int), i + d = l.length → s ≤ i → In m → Ev (fun k => lysimeterref21_NaiveMiss.l0 k l (s : Int) m (i : Int)) (misS l s m i d, 0) := by
  induction d with
  | zero =>
    intro i m hi hs hm
    refine Ev.step (f := fun _ => some (m, 0)) (fun k => ?_) (Ev.now _)
    simp only [lysimeterref21_NaiveMiss.l0]
    rw [if_neg (by omega)]
  | succ d ih =>
    intro i m hi hs hm
    have e : wrap64 ((i : Int) + 1) = ((i + 1 : Nat) : Int) := by rw [wrap64_id (by omega) (by omega)]; omega
    have e1 : wrap64 ((i : Int) - s) = ((i - s : Nat) : Int) := by rw [wrap64_id (by omega) (by omega)]; omega
    have a1 := hin i (by omega)
    have a2 := hin (i - s) (by omega)
    refine Ev.step (f := fun k => (lysimeterref21_dist.f k (l.getD i 0) (l.getD (i - s) 0)).bind fun d => ((lysimeterref1_Add.f k m d).bind fun t => lysimeterref21_NaiveMiss.l0 k l (s : Int) t ((i + 1 : Nat) : Int))) (fun k => ?_) ?_
    · simp only [lysimeterref21_NaiveMiss.l0]
      rw [if_pos (by omega), if_pos (by omega), e1, if_pos (by omega), if_pos (by omega), rd_nat, rd_nat, e]
    · refine Ev.bind (Ev.late 400 fun k hk => rdist_eq hk a1 a2) (Ev.bind (Ev.late 400 fun k hk => radd_eq hk hm (in_sat _)) ?_)
      exact ih (i + 1) _ (by omega) (by omega) (in_sat _)
theorem counted_eq (n : Int) : season_counted.f n = some (decide (1 ≤ n) && decide (n ≤ 10000)) := by
  unfold season_counted.f
  by_cases h : n ≥ 1
  · rw [if_pos h, decide_eq_true h]; rfl
  · rw [if_neg h, decide_eq_false h]; rfl
/-- May so much be asked? -/
def okM (l : List Int) (s last : Int) : Prop := 1 ≤ s ∧ s ≤ 10000 ∧ 1 ≤ last ∧ s ≤ (l.length : Int) - last
instance (l : List Int) (s last : Int) : Decidable (okM l s last) := by unfold okM; infer_instance
def missS (l : List Int) (s last : Int) : Int × Int := if okM l s last then (misS l s.toNat 0 ((l.length : Int) - last).toNat last.toNat, 0) else (0, 1)
theorem miss_ev (l : List Int) (hl : l.length ≤ 1152921504606846976) (hin : allIn l) (s last : Int) (_hs : In s) (hla : In last) : Ev (fun k => season_Miss.f k l s last) (missS l s last) := by
  unfold season_Miss.f missS
  simp only [counted_eq, Option.bind_some]
  obtain ⟨b0, b1⟩ := hla
  by_cases h1 : 1 ≤ s
  · by_cases h2 : s ≤ 10000
    · simp only [decide_eq_true h1, decide_eq_true h2, Bool.and_self, if_true]
      by_cases h3 : (l.length : Int) < s
      · simp only [if_pos h3]
        rw [if_neg (by unfold okM; omega)]; exact Ev.now _
      · simp only [if_neg h3]
        by_cases h4 : last < 1
        · simp only [if_pos h4]
          rw [if_neg (by unfold okM; omega)]; exact Ev.now _
        · simp only [if_neg h4]
          rw [wrap64_id (show -9223372036854775808 ≤ (l.length : Int) - last by omega) (by omega)]
          by_cases h5 : s > (l.length : Int) - last
          · simp only [if_pos h5]
            rw [if_neg (by unfold okM; omega)]; exact Ev.now _
          · simp only [if_neg h5]
            rw [if_pos (by unfold okM; omega)]
            have := miss_l0 l hl hin s.toNat last.toNat ((l.length : Int) - last).toNat 0 (by omega) (by omega) ⟨by decide, by decide⟩
            rw [show ((s.toNat : Nat) : Int) = s by omega, show ((((l.length : Int) - last).toNat : Nat) : Int) = (l.length : Int) - last by omega] at this
            exact this
    · simp only [decide_eq_true h1, decide_eq_false h2, Bool.and_false, Bool.false_eq_true, if_false]
      rw [if_neg (by unfold okM; omega)]; exact Ev.now _
  · simp only [decide_eq_false h1, Bool.false_and, Bool.false_eq_true, if_false]
    rw [if_neg (by unfold okM; omega)]; exact Ev.now _
theorem rmiss_ev (l : List Int) (hl : l.length ≤ 1152921504606846976) (hin : allIn l) (s last : Int) (_hs : In s) (hla : In last) : Ev (fun k => lysimeterref21_NaiveMiss.f k l s last) (missS l s last) := by
  unfold lysimeterref21_NaiveMiss.f missS
  obtain ⟨b0, b1⟩ := hla
  have out : ∀ b, b = true → Ev (fun k => lysimeterref21_NaiveMiss.j0 k l s last b) (0, 1) := by
    intro b hb
    refine Ev.step (f := fun _ => some (0, 1)) (fun k => ?_) (Ev.now _)
    simp only [lysimeterref21_NaiveMiss.j0]; rw [if_pos hb]
  by_cases h1 : s < 1
  · simp only [if_pos h1]; rw [if_neg (by unfold okM; omega)]; exact out _ rfl
  by_cases h2 : s > 10000
  · simp only [if_neg h1, if_pos h2]; rw [if_neg (by unfold okM; omega)]; exact out _ rfl
  by_cases h3 : last < 1
  · simp only [if_neg h1, if_neg h2, if_pos h3]; rw [if_neg (by unfold okM; omega)]; exact out _ rfl
  by_cases h4 : (l.length : Int) < s
  · simp only [if_neg h1, if_neg h2, if_neg h3, if_pos h4]; rw [if_neg (by unfold okM; omega)]; exact out _ rfl
  simp only [if_neg h1, if_neg h2, if_neg h3, if_neg h4]
  rw [wrap64_id (show -9223372036854775808 ≤ (l.length : Int) - s by omega) (by omega)]
  by_cases h5 : last > (l.length : Int) - s
  · rw [decide_eq_true h5, if_neg (by unfold okM; omega)]; exact out _ rfl
  · rw [decide_eq_false h5, if_pos (by unfold okM; omega)]
    have := rmiss_l0 l hl hin s.toNat last.toNat ((l.length : Int) - last).toNat 0 (by omega) (by omega) ⟨by decide, by decide⟩
    rw [show ((s.toNat : Nat) : Int) = s by omega, show ((((l.length : Int) - last).toNat : Nat) : Int) = (l.length : Int) - last by omega] at this
    refine Ev.step (f := fun k => lysimeterref21_NaiveMiss.l0 k l s 0 ((l.length : Int) - last)) (fun k => ?_) this
    simp only [lysimeterref21_NaiveMiss.j0]
    rw [if_neg (by decide), wrap64_id (by omega) (by omega)]
/-- What is cast. -/
def okC (l : List Int) (s ahead : Int) : Prop := 1 ≤ s ∧ s ≤ 10000 ∧ 1 ≤ ahead ∧ ahead ≤ 10000 ∧ s ≤ (l.length : Int)
instance (l : List Int) (s ahead : Int) : Decidable (okC l s ahead) := by unfold okC; infer_instance
def castS (l : List Int) (s ahead : Int) : Int × Int := if okC l s ahead then (rd l ((l.length : Int) - s + (ahead - 1) % s), 0) else (0, 1)
theorem cast_ix (l : List Int) (hl : l.length ≤ 1152921504606846976) (s ahead : Int) (h1 : 1 ≤ s) (h2 : s ≤ 10000) (h3 : 1 ≤ ahead) (h4 : ahead ≤ 10000) (h5 : s ≤ (l.length : Int)) :
    wrap64 ((wrap64 ((l.length : Int) - s)) + (Int.tmod (wrap64 (ahead - 1)) s)) = (l.length : Int) - s + (ahead - 1) % s ∧ 0 ≤ (l.length : Int) - s + (ahead - 1) % s ∧ (l.length : Int) - s + (ahead - 1) % s < l.length := by
  have m0 := Int.emod_nonneg (ahead - 1) (show s ≠ 0 by omega)
  have m1 := Int.emod_lt_of_pos (ahead - 1) (show 0 < s by omega)
  have e1 : wrap64 (ahead - 1) = ahead - 1 := wrap64_id (by omega) (by omega)
  have e2 : wrap64 ((l.length : Int) - s) = (l.length : Int) - s := wrap64_id (by omega) (by omega)
  rw [e1, e2, Int.tmod_eq_emod_of_nonneg (by omega)]
  exact ⟨wrap64_id (by omega) (by omega), by omega, by omega⟩
theorem cast_eq (l : List Int) (hl : l.length ≤ 1152921504606846976) (s ahead : Int) : season_Cast.f l s ahead = some (castS l s ahead) := by
  unfold season_Cast.f castS
  rw [counted_eq, Option.bind_some, counted_eq, Option.bind_some]
  by_cases h1 : 1 ≤ s
  · by_cases h2 : s ≤ 10000
    · rw [decide_eq_true h1, decide_eq_true h2, if_pos (by decide)]
      by_cases h3 : 1 ≤ ahead
      · by_cases h4 : ahead ≤ 10000
        · rw [decide_eq_true h3, decide_eq_true h4, if_pos (by decide)]
          by_cases h5 : (l.length : Int) < s
          · rw [if_pos h5, if_neg (by unfold okC; omega)]
          · obtain ⟨i0, i1, i2⟩ := cast_ix l hl s ahead h1 h2 h3 h4 (by omega)
            rw [if_neg h5, if_neg (by omega), i0, if_pos i1, if_pos i2, if_pos (by unfold okC; omega)]
        · rw [decide_eq_true h3, decide_eq_false h4, if_neg (by decide), if_neg (by unfold okC; omega)]
      · rw [decide_eq_false h3, Bool.false_and, if_neg (by decide), if_neg (by unfold okC; omega)]
    · rw [decide_eq_true h1, decide_eq_false h2, if_neg (by decide), if_neg (by unfold okC; omega)]
  · rw [decide_eq_false h1, Bool.false_and, if_neg (by decide), if_neg (by unfold okC; omega)]
theorem naive_eq (l : List Int) (hl : l.length ≤ 1152921504606846976) (s ahead : Int) : lysimeterref21_Naive.f l s ahead = some (castS l s ahead) := by
  unfold lysimeterref21_Naive.f castS
  by_cases h1 : s < 1
  · rw [if_pos h1, if_neg (by unfold okC; omega)]
  rw [if_neg h1]
  by_cases h2 : s > 10000
  · rw [if_pos h2, if_neg (by unfold okC; omega)]
  rw [if_neg h2]
  by_cases h3 : ahead < 1
  · rw [if_pos h3, if_neg (by unfold okC; omega)]
  rw [if_neg h3]
  by_cases h4 : ahead > 10000
  · rw [if_pos h4, if_neg (by unfold okC; omega)]
  rw [if_neg h4]
  by_cases h5 : (l.length : Int) < s
  · rw [if_pos h5, if_neg (by unfold okC; omega)]
  obtain ⟨i0, i1, i2⟩ := cast_ix l hl s ahead (by omega) (by omega) (by omega) (by omega) (by omega)
  rw [if_neg h5, if_neg (by omega), i0, if_pos i1, if_pos i2, if_pos (by unfold okC; omega)]
theorem alive_eq : lysimeterlaw22_alive.f = some true := by decide +kernel
theorem allIn_of {l : List Int} (h : ∀ x ∈ l, (Lit.int .i64 x).wf = true) : allIn l := by
  intro i hi
  refine i64_of_wf (h _ ?_)
  rw [List.getD_eq_getElem?_getD, List.getElem?_eq_getElem hi]
  exact List.getElem_mem hi
end Go.Proofs.Ytdglifoakdkheaa.SS
