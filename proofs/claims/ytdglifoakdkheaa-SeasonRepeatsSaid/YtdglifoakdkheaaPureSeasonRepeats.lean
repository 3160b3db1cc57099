/- SeasonRepeats: points that repeat by a season are cast as they go on, without a miss. Conditions: none beyond the statement's own. -/
import Derived.Test.YtdglifoakdkheaaSeasSpec
namespace Go.Proofs.Ytdglifoakdkheaa.Pure
open Go.RowKit Go.Proofs.Ytdglifoakdkheaa.Seas Go.Proofs.Ytdglifoakdkheaa.SS Go.Proofs.YtdglifoakdkheaaW.PrintWords Go.Proofs.YtdglifoakdkheaaW.PrintLast Go.Proofs.YtdglifoakdkheaaW.PrintMore

/-- The part, so many times. -/
def reps (p : List Int) : Nat → List Int
  | 0 => []
  | m + 1 => reps p m ++ p
theorem reps_len (p : List Int) (m : Nat) : (reps p m).length = m * p.length := by
  induction m with
  | zero => simp [reps]
  | succ m ih => simp [reps, ih, Nat.add_mul]
theorem reps_get (p : List Int) (m : Nat) : ∀ i, i < m * p.length → (reps p m).getD i 0 = p.getD (i % p.length) 0 := by
  induction m with
  | zero => intro i hi; simp at hi
  | succ m ih =>
    intro i hi
    have e : (m + 1) * p.length = m * p.length + p.length := by grind
    by_cases h : i < m * p.length
    · rw [← ih i h]
      simp only [reps, List.getD_eq_getElem?_getD]
      rw [List.getElem?_append_left (by rw [reps_len]; exact h)]
    · have e2 : i % p.length = i - m * p.length := by
        have : i = (i - m * p.length) + p.length * m := by rw [Nat.mul_comm p.length m]; omega
        rw [this, Nat.add_mul_mod_self_left, Nat.mod_eq_of_lt (by omega)]
        rw [Nat.mul_comm p.length m]; omega
      simp only [reps, List.getD_eq_getElem?_getD]
      rw [List.getElem?_append_right (by rw [reps_len]; omega), reps_len, e2]
theorem mis_zero (l : List Int) (s : Nat) (d : Nat) : ∀ i, (∀ j, i ≤ j → j < i + d → l.getD j 0 = l.getD (j - s) 0) → misS l s 0 i d = 0 := by
  induction d with
  | zero => intro i _; rfl
  | succ d ih =>
    intro i h
    simp only [misS]
    have : sat (0 + dst (l.getD i 0) (l.getD (i - s) 0)) = 0 := by
      rw [h i (by omega) (by omega)]
      unfold dst sat
      simp
    rw [this]
    exact ih (i + 1) (fun j h1 h2 => h j (by omega) (by omega))
theorem reps_end (p : List Int) (m : Nat) (hm : 2 ≤ m) (hm10 : m ≤ 10) (hp1 : 1 ≤ p.length) (hp : p.length ≤ 100) (hin : allIn p) (ahead : Int) (a0 : 1 ≤ ahead) (a1 : ahead ≤ 1000) :
    season_Cast.f (reps p m) (p.length : Int) ahead = some (rd p ((ahead - 1) % (p.length : Int)), 0) ∧ Ev (fun k => season_Miss.f k (reps p m) (p.length : Int) (p.length : Int)) (0, 0) := by
  have hlen := reps_len p m
  have hb : m * p.length ≤ 10 * 100 := Nat.mul_le_mul hm10 hp
  have hb2 : 2 * p.length ≤ m * p.length := Nat.mul_le_mul_right _ hm
  have m0 := Int.emod_nonneg (ahead - 1) (show (p.length : Int) ≠ 0 by omega)
  have m1 := Int.emod_lt_of_pos (ahead - 1) (show 0 < (p.length : Int) by omega)
  have hl : (reps p m).length ≤ 1152921504606846976 := by omega
  have hin2 : allIn (reps p m) := by
    intro i hi
    rw [reps_get p m i (by omega)]
    exact hin _ (Nat.mod_lt _ (by omega))
  constructor
  · rw [SS.cast_eq _ hl]
    unfold castS
    rw [if_pos (by unfold okC; omega)]
    obtain ⟨q, hq⟩ := Int.eq_ofNat_of_zero_le m0
    have e : ((reps p m).length : Int) - p.length + (ahead - 1) % (p.length : Int) = (((m - 1) * p.length + q : Nat) : Int) := by
      rw [hq, hlen]
      obtain ⟨m, rfl⟩ : ∃ m', m = m' + 1 := ⟨m - 1, by omega⟩
      have e3 : (m + 1) * p.length = m * p.length + p.length := by grind
      rw [e3]
      simp only [Nat.add_sub_cancel]
      omega
    rw [e, hq, rd_nat, rd_nat, reps_get]
    · have : ((m - 1) * p.length + q) % p.length = q := by
        rw [Nat.add_comm, Nat.mul_comm, Nat.add_mul_mod_self_left, Nat.mod_eq_of_lt (by omega)]
      rw [this]
    · obtain ⟨m, rfl⟩ : ∃ m', m = m' + 1 := ⟨m - 1, by omega⟩
      have e3 : (m + 1) * p.length = m * p.length + p.length := by grind
      rw [e3]
      simp only [Nat.add_sub_cancel]
      omega
  · have := miss_ev (reps p m) hl hin2 (p.length : Int) (p.length : Int) ⟨by omega, by omega⟩ ⟨by omega, by omega⟩
    unfold missS at this
    rw [if_pos (by unfold okM; omega), mis_zero] at this
    · exact this
    · intro j h1 h2
      have hj : j < m * p.length := by omega
      have hj2 : p.length ≤ j := by omega
      rw [reps_get p m j hj, reps_get p m _ (by omega)]
      have : (j - ((p.length : Int)).toNat) % p.length = j % p.length := by
        have e5 : ((p.length : Int)).toNat = p.length := by omega
        rw [e5]
        conv => rhs; rw [show j = (j - p.length) + p.length by omega, Nat.add_mod_right]
      rw [this]
theorem reps_l0 (p : List Int) (times : Nat) (ht : 2 ≤ times) (ht10 : times ≤ 10) (hp1 : 1 ≤ p.length) (hp : p.length ≤ 100) (hin : allIn p) (ahead : Int) (a0 : 1 ≤ ahead) (a1 : ahead ≤ 1000) (d : Nat) :
    ∀ i : Nat, i + d = times → Ev (fun k => lysimeterlaw22_SeasonRepeats.l0 k p (times : Int) ahead (reps p i) (i : Int)) true := by
  have m0 := Int.emod_nonneg (ahead - 1) (show (p.length : Int) ≠ 0 by omega)
  have m1 := Int.emod_lt_of_pos (ahead - 1) (show 0 < (p.length : Int) by omega)
  induction d with
  | zero =>
    intro i hi
    obtain rfl : i = times := by omega
    obtain ⟨e1, e2⟩ := reps_end p i ht ht10 hp1 hp hin ahead a0 a1
    have t : (wrap64 (ahead - 1)).tmod (p.length : Int) = (ahead - 1) % (p.length : Int) := by
      rw [wrap64_id (by omega) (by omega), Int.tmod_eq_emod_of_nonneg (by omega)]
    have z : wrap64 (0 + 0) = 0 := wrap64_id (by decide) (by decide)
    refine Ev.step (f := fun k => (season_Miss.f k (reps p i) (p.length : Int) (p.length : Int)).bind fun bt148 => (if wrap64 (0 + bt148.2) = 0 then (some (bt148.1 == 0)) else some false)) (fun k => ?_) ?_
    · simp only [lysimeterlaw22_SeasonRepeats.l0, e1, lysimeterlaw22_num.f, Option.bind_some, t]
      rw [if_neg (by omega)]
      simp only [if_neg (show ¬ (p.length : Int) = 0 by omega), if_pos m0, if_pos m1, if_true]
    · refine Ev.bind e2 ?_
      simp only [z, if_true]
      exact Ev.now true
  | succ d ih =>
    intro i hi
    have e : wrap64 ((i : Int) + 1) = ((i + 1 : Nat) : Int) := by rw [wrap64_id (by omega) (by omega)]; omega
    refine Ev.step (f := fun k => lysimeterlaw22_SeasonRepeats.l0 k p (times : Int) ahead (reps p (i + 1)) ((i + 1 : Nat) : Int)) (fun k => ?_) (ih (i + 1) (by omega))
    have hb : i * p.length ≤ 10 * 100 := Nat.mul_le_mul (by omega) hp
    simp only [lysimeterlaw22_SeasonRepeats.l0]
    rw [if_pos (by omega), if_pos (by rw [reps_len]; omega), e]
    rfl
theorem SeasonRepeats : lysimeterlaw22_SeasonRepeats.Pure := by
  intro p times ahead hm hz hw wt wa
  refine Ev.rounds ?_
  unfold lysimeterlaw22_SeasonRepeats.f
  simp only [alive_eq, Option.bind_some, if_true]
  have out : Ev (fun k => lysimeterlaw22_SeasonRepeats.j0 k p times ahead true true) true := by
    refine Ev.step (f := fun _ => some true) (fun k => ?_) (Ev.now _)
    simp only [lysimeterlaw22_SeasonRepeats.j0]; rfl
  by_cases h1 : (p.length : Int) < 1
  · simp only [if_pos h1]; exact out
  by_cases h2 : (p.length : Int) > 100
  · simp only [if_neg h1, if_pos h2]; exact out
  by_cases h3 : times < 2
  · simp only [if_neg h1, if_neg h2, if_pos h3]; exact out
  by_cases h4 : times > 10
  · simp only [if_neg h1, if_neg h2, if_neg h3, if_pos h4]; exact out
  by_cases h5 : ahead < 1
  · simp only [if_neg h1, if_neg h2, if_neg h3, if_neg h4, if_pos h5]; exact out
  simp only [if_neg h1, if_neg h2, if_neg h3, if_neg h4, if_neg h5]
  by_cases h6 : ahead > 1000
  · rw [decide_eq_true h6]; exact out
  rw [decide_eq_false h6]
  obtain ⟨t, rfl⟩ := Int.eq_ofNat_of_zero_le (show 0 ≤ times by omega)
  refine Ev.step (f := fun k => lysimeterlaw22_SeasonRepeats.l0 k p (t : Int) ahead [] 0) (fun k => ?_) (reps_l0 p t (by omega) (by omega) (by omega) (by omega) (allIn_of hw) ahead (by omega) (by omega) t 0 (by omega))
  simp only [lysimeterlaw22_SeasonRepeats.j0]; rfl
end Go.Proofs.Ytdglifoakdkheaa.Pure
