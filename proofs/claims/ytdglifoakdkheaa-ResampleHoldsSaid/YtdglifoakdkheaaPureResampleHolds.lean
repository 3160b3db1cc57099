/- ResampleHolds: a point without a sample is the one ahead of it. Conditions: none beyond the statement's own. -/
import Derived.Test.YtdglifoakdkheaaResaSpec
namespace Go.Proofs.Ytdglifoakdkheaa.Pure
open Go.RowKit Go.Proofs.Ytdglifoakdkheaa.Resa Go.Proofs.Ytdglifoakdkheaa.RS Go.Proofs.YtdglifoakdkheaaW.PrintWords Go.Proofs.YtdglifoakdkheaaW.PrintLast Go.Proofs.YtdglifoakdkheaaW.PrintMore

/-- What stands at a place is a sample of that step. -/
theorem holds_place (l : List S41) (from_ step : Int) (n : Nat) (hs : 1 ≤ step) : ∀ j, j < n → 0 ≤ (plS l from_ step n).getD j 0 →
    ∃ k : Nat, k < l.length ∧ from_ + j * step ≤ tm l k ∧ tm l k < from_ + (j + 1) * step := by
  have key := plc_inv l from_ step n (fun _ out => out.length = n ∧ ∀ j, j < n → 0 ≤ out.getD j 0 → ∃ k : Nat, k < l.length ∧ from_ + j * step ≤ tm l k ∧ tm l k < from_ + (j + 1) * step) (by
    intro i out hi ⟨ho, hp⟩
    refine ⟨by rw [stp_length]; exact ho, fun j hj => ?_⟩
    unfold stp
    by_cases h1 : tm l i < from_
    · rw [if_pos h1]; exact hp j hj
    · rw [if_neg h1]
      by_cases h2 : (tm l i - from_) / step < n
      · have q0 := quo_nonneg hs h1
        rw [if_pos h2, getD_set _ _ _ _ _ (by omega)]
        by_cases h3 : ((tm l i - from_) / step).toNat = j
        · rw [if_pos h3]
          intro _
          have hj3 : (tm l i - from_) / step = j := by omega
          have g1 := Int.emod_add_mul_ediv (tm l i - from_) step
          have g2 := Int.emod_nonneg (tm l i - from_) (show step ≠ 0 by omega)
          have g3 := Int.emod_lt_of_pos (tm l i - from_) (show 0 < step by omega)
          rw [hj3] at g1
          have e1 : step * (j : Int) = j * step := Int.mul_comm _ _
          have e2 : ((j : Int) + 1) * step = j * step + step := by grind
          exact ⟨i, hi, by omega, by omega⟩
        · rw [if_neg h3]; exact hp j hj
      · rw [if_neg h2]; exact hp j hj) l.length 0 (none_ n) (by omega) ⟨by simp [none_], fun j hj h => by
        have : (none_ n).getD j 0 = -1 := getD_replicate n (-1) j hj
        omega⟩
  exact key.2
/-- Is there a sample of the step? -/
def some_ (l : List S41) (lo hi : Int) : Nat → Nat → Bool → Bool
  | _, 0, b => b
  | i, d + 1, b => some_ l lo hi (i + 1) d (b || (decide (tm l i ≥ lo) && decide (tm l i < hi)))
theorem some_true (l : List S41) (lo hi : Int) (d : Nat) : ∀ i, some_ l lo hi i d true = true := by
  induction d with
  | zero => intro i; rfl
  | succ d ih => intro i; simp only [some_, Bool.true_or]; exact ih (i + 1)
theorem some_of (l : List S41) (lo hi : Int) (d : Nat) : ∀ i b (j : Nat), i ≤ j → j < i + d → lo ≤ tm l j → tm l j < hi → some_ l lo hi i d b = true := by
  induction d with
  | zero => intro i b j h1 h2; omega
  | succ d ih =>
    intro i b j h1 h2 h3 h4
    simp only [some_]
    by_cases hj : j = i
    · subst hj
      rw [decide_eq_true (by omega), decide_eq_true (by omega)]
      simp only [Bool.and_self, Bool.or_true]
      exact some_true l lo hi d _
    · exact ih (i + 1) _ j (by omega) (by omega) h3 h4
theorem holds_l1 (l : List S41) (hl : l.length ≤ 500) (from_ step n : Int) (p : List Int) (i : Nat) (hi1 : 1 ≤ i) (hi : i < p.length) (hp : p.length ≤ 2000) (f0 : -9007199254740992 ≤ from_) (f1 : from_ ≤ 9007199254740992) (s0 : 1 ≤ step) (s1 : step ≤ 1099511627776)
    (next : Ev (fun k => lysimeterlaw21_ResampleHolds.l0 k l from_ step n p ((i + 1 : Nat) : Int)) true) (d : Nat) :
    ∀ (m : Nat) (b : Bool), m + d = l.length → (some_ l (from_ + i * step) (from_ + (i + 1) * step) m d b = false → p.getD i 0 = p.getD (i - 1) 0) → Ev (fun k => lysimeterlaw21_ResampleHolds.l1 k l from_ step n p (i : Int) b (m : Int)) true := by
  have p1 : (i : Int) * step ≤ 2000 * 1099511627776 := Int.mul_le_mul (by omega) s1 (by omega) (by decide)
  have p0 : 0 ≤ (i : Int) * step := Int.mul_nonneg (by omega) (by omega)
  have e2 : ((i : Int) + 1) * step = i * step + step := by grind
  have w1 : wrap64 ((i : Int) * step) = i * step := wrap64_id (by omega) (by omega)
  have w2 : wrap64 (from_ + i * step) = from_ + i * step := wrap64_id (by omega) (by omega)
  have w3 : wrap64 ((i : Int) + 1) = (i : Int) + 1 := wrap64_id (by omega) (by omega)
  have w4 : wrap64 (((i : Int) + 1) * step) = ((i : Int) + 1) * step := wrap64_id (by omega) (by omega)
  have w5 : wrap64 (from_ + ((i : Int) + 1) * step) = from_ + ((i : Int) + 1) * step := wrap64_id (by omega) (by omega)
  have w6 : wrap64 ((i : Int) - 1) = ((i - 1 : Nat) : Int) := by rw [wrap64_id (by omega) (by omega)]; omega
  have w7 : ((i : Int) + 1) = ((i + 1 : Nat) : Int) := by omega
  induction d with
  | zero =>
    intro m b hm h
    simp only [some_] at h
    refine Ev.step (f := fun k => lysimeterlaw21_ResampleHolds.l0 k l from_ step n p ((i + 1 : Nat) : Int)) (fun k => ?_) next
    simp only [lysimeterlaw21_ResampleHolds.l1]
    rw [if_neg (by omega)]
    cases b
    · rw [if_neg (by decide), if_pos (by omega), if_pos (by omega), w6, if_pos (by omega), if_pos (by omega), rd_nat, rd_nat, if_pos (h rfl), w3, w7]
    · rw [if_pos rfl, w3, w7]
  | succ d ih =>
    intro m b hm h
    have e : wrap64 ((m : Int) + 1) = ((m + 1 : Nat) : Int) := by rw [wrap64_id (by omega) (by omega)]; omega
    simp only [some_] at h
    refine Ev.step (f := fun k => lysimeterlaw21_ResampleHolds.l1 k l from_ step n p (i : Int) (b || (decide (tm l m ≥ from_ + i * step) && decide (tm l m < from_ + (i + 1) * step))) ((m + 1 : Nat) : Int)) (fun k => ?_) (ih (m + 1) _ (by omega) h)
    simp only [lysimeterlaw21_ResampleHolds.l1]
    rw [if_pos (by omega), e]
    cases b
    · rw [if_neg (by decide), if_pos (Int.natCast_nonneg m), w1, w2, w3, w4, w5, rd41]
      show (if tm l m ≥ from_ + i * step then _ else _) = _
      by_cases h1 : tm l m ≥ from_ + i * step
      · rw [if_pos h1, decide_eq_true h1]; rfl
      · rw [if_neg h1, decide_eq_false h1]; rfl
    · rw [if_pos rfl]; simp
theorem holds_l0 (l : List S41) (hl : l.length ≤ 500) (from_ step : Int) (n : Nat) (p : List Int) (hpn : p.length = n) (hp : n ≤ 2000) (f0 : -9007199254740992 ≤ from_) (f1 : from_ ≤ 9007199254740992) (s0 : 1 ≤ step) (s1 : step ≤ 1099511627776)
    (hh : ∀ i, 1 ≤ i → i < n → some_ l (from_ + i * step) (from_ + (i + 1) * step) 0 l.length false = false → p.getD i 0 = p.getD (i - 1) 0) (d : Nat) :
    ∀ i : Nat, 1 ≤ i → (i ≤ n + 1) → i + d = n + 1 → Ev (fun k => lysimeterlaw21_ResampleHolds.l0 k l from_ step (n : Int) p (i : Int)) true := by
  induction d with
  | zero =>
    intro i h1 h2 hi
    refine Ev.step (f := fun _ => some true) (fun k => ?_) (Ev.now _)
    simp only [lysimeterlaw21_ResampleHolds.l0]
    rw [if_neg (by omega), hpn]; simp
  | succ d ih =>
    intro i h1 h2 hi
    by_cases hin : i < n
    · refine Ev.step (f := fun k => lysimeterlaw21_ResampleHolds.l1 k l from_ step (n : Int) p (i : Int) false 0) (fun k => ?_) (holds_l1 l hl from_ step n p i h1 (by omega) (by omega) f0 f1 s0 s1 (ih (i + 1) (by omega) (by omega) (by omega)) l.length 0 false (by omega) (hh i h1 hin))
      simp only [lysimeterlaw21_ResampleHolds.l0]
      rw [if_pos (by omega)]
    · refine Ev.step (f := fun _ => some true) (fun k => ?_) (Ev.now _)
      simp only [lysimeterlaw21_ResampleHolds.l0]
      rw [if_neg (by omega), hpn]; simp
theorem ResampleHolds : lysimeterlaw21_ResampleHolds.Pure := by
  intro l from_ step n hm hz hw wf ws wn
  refine Ev.rounds ?_
  unfold lysimeterlaw21_ResampleHolds.f
  refine Ev.bind alive_ev ?_
  simp only [if_true]
  have out : Ev (fun k => lysimeterlaw21_ResampleHolds.j0 k l from_ step n true true) true := by
    refine Ev.step (f := fun _ => some true) (fun k => ?_) (Ev.now _)
    simp only [lysimeterlaw21_ResampleHolds.j0]; rfl
  by_cases h1 : (l.length : Int) > 500
  · simp only [if_pos h1]; exact out
  by_cases h2 : n > 2000
  · simp only [if_neg h1, if_pos h2]; exact out
  simp only [if_neg h1, if_neg h2]
  by_cases h3 : step > 1099511627776
  · rw [decide_eq_true h3]; exact out
  rw [decide_eq_false h3]
  have nil1 : ∀ c : Bool, (c = true) → Ev (fun k => lysimeterlaw21_ResampleHolds.j1 k l from_ step n [] c) true := by
    intro c hc
    refine Ev.step (f := fun _ => some true) (fun k => ?_) (Ev.now _)
    simp only [lysimeterlaw21_ResampleHolds.j1]
    rw [if_pos hc]; rfl
  refine Ev.step (f := fun k => (resample_Points.f k l from_ step n).bind fun bt209 => (if bt209.2 = 0 then (lysimeterlaw21_ResampleHolds.j1 k l from_ step n bt209.1 ((bt209.1.length : Int) == 0)) else (lysimeterlaw21_ResampleHolds.j1 k l from_ step n bt209.1 true))) (fun k => ?_) ?_
  · simp only [lysimeterlaw21_ResampleHolds.j0, lysimeterlaw21_num.f, Option.bind_some]
    rw [if_neg (by decide)]
  by_cases ha : askS l from_ step n = 0
  · obtain ⟨a0, ar⟩ := ask_ok ha
    obtain ⟨a1, a2, a3, a4, a5, a6⟩ := arg_ok a0
    obtain ⟨n, rfl⟩ := Int.eq_ofNat_of_zero_le a3
    refine Ev.bind (points_good l (by omega) from_ step n ha) ?_
    simp only [if_true]
    have hlen := plS_length l from_ step n
    unfold ptS
    rw [hlen]
    by_cases hf : fst (plS l from_ step n) 0 n < 0
    · rw [if_pos hf]; exact nil1 _ rfl
    · rw [if_neg hf]
      obtain ⟨v0, hv0⟩ : ∃ v, pv l (fst (plS l from_ step n) 0 n) = v := ⟨_, rfl⟩
      rw [hv0]
      have hfl : (filled l (plS l from_ step n) v0 n).length = n := by simp [filled]
      rw [hfl]
      by_cases hn0 : n = 0
      · subst hn0; exact nil1 _ rfl
      · have hb : (((n : Nat) : Int) == 0) = false := by simpa using hn0
        rw [hb]
        refine Ev.step (f := fun k => lysimeterlaw21_ResampleHolds.l0 k l from_ step (n : Int) (filled l (plS l from_ step n) v0 n) 1) (fun k => ?_) (holds_l0 l (by omega) from_ step n _ hfl (by omega) a5 a6 a1 (by omega) (fun i i1 i2 hs => ?_) n 1 (by omega) (by omega) (by omega))
        · simp only [lysimeterlaw21_ResampleHolds.j1]; rfl
        · unfold filled
          rw [getD_range _ _ _ i2, getD_range _ _ _ (by omega), fl_step]
          by_cases hx : (plS l from_ step n).getD i 0 ≥ 0
          · obtain ⟨k, k1, k2, k3⟩ := holds_place l from_ step n a1 i i2 hx
            rw [some_of l _ _ l.length 0 false k (by omega) (by omega) k2 k3] at hs
            cases hs
          · rw [if_neg hx]; unfold flv; rw [if_neg (by omega)]
  · refine Ev.bind (points_bad l (by omega) from_ step n ha) ?_
    simp only [if_neg ha]
    exact nil1 _ rfl
end Go.Proofs.Ytdglifoakdkheaa.Pure
