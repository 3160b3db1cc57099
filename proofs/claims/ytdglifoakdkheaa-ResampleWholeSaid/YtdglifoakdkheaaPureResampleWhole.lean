/- ResampleWhole: samples at each step are the points themselves, without gaps. Conditions: none beyond the statement's own. -/
import Derived.Test.YtdglifoakdkheaaResaSpec
namespace Go.Proofs.Ytdglifoakdkheaa.Pure
open Go.RowKit Go.Proofs.Ytdglifoakdkheaa.Resa Go.Proofs.Ytdglifoakdkheaa.RS Go.Proofs.YtdglifoakdkheaaW.PrintWords Go.Proofs.YtdglifoakdkheaaW.PrintLast Go.Proofs.YtdglifoakdkheaaW.PrintMore

/-- The samples that the law makes. -/
def mk (vals : List Int) (from_ step : Int) (i : Nat) : S41 := ⟨from_ + i * step, vals.getD i 0⟩
def smp (vals : List Int) (from_ step : Int) (m : Nat) : List S41 := (List.range m).map (mk vals from_ step)
theorem smp_get (vals : List Int) (from_ step : Int) (m i : Nat) (hi : i < m) : (smp vals from_ step m).getD i z41 = mk vals from_ step i := by
  simp [smp, List.getD_eq_getElem?_getD, hi]
theorem smp_len (vals : List Int) (from_ step : Int) (m : Nat) : (smp vals from_ step m).length = m := by simp [smp]
theorem whole_times (vals : List Int) (from_ step : Int) (m : Nat) (hm : m ≤ 500) (f0 : 0 ≤ from_) (f1 : from_ ≤ 1099511627776) (s0 : 1 ≤ step) (s1 : step ≤ 1099511627776) : ris (smp vals from_ step m) 0 m = true := by
  refine ris_of _ m 0 (fun j _ hj => ?_)
  have t : ∀ i, i < m → tm (smp vals from_ step m) i = from_ + i * step := fun i hi => by unfold tm; rw [smp_get _ _ _ _ _ hi]; rfl
  have p1 : (j : Int) * step ≤ 500 * 1099511627776 := Int.mul_le_mul (by omega) s1 (by omega) (by decide)
  have p0 : 0 ≤ (j : Int) * step := Int.mul_nonneg (by omega) (by omega)
  unfold okAt
  rw [t j (by omega), decide_eq_true (by omega), decide_eq_true (by omega)]
  by_cases h : j = 0
  · simp [h]
  · rw [t (j - 1) (by omega), decide_eq_true (p := _ < _) (by
      have : ((j - 1 : Nat) : Int) = (j : Int) - 1 := by omega
      rw [this]
      have : ((j : Int) - 1) * step = j * step - step := by grind
      omega)]
    simp
theorem whole_places (vals : List Int) (from_ step : Int) (m : Nat) (hs : 1 ≤ step) : ∀ j, j < m → (plS (smp vals from_ step m) from_ step m).getD j 0 = j := by
  have key := plc_inv (smp vals from_ step m) from_ step m (fun i out => out.length = m ∧ ∀ j, j < m → out.getD j 0 = if j < i then (j : Int) else -1) (by
    intro i out hi ⟨ho, hp⟩
    rw [smp_len] at hi
    refine ⟨by rw [stp_length]; exact ho, fun j hj => ?_⟩
    have t : tm (smp vals from_ step m) i = from_ + i * step := by unfold tm; rw [smp_get _ _ _ _ _ hi]; rfl
    have p0 : 0 ≤ (i : Int) * step := Int.mul_nonneg (by omega) (by omega)
    have q : (from_ + i * step - from_) / step = i := by
      rw [show from_ + i * step - from_ = i * step by omega, Int.mul_ediv_cancel _ (by omega)]
    unfold stp
    rw [t, if_neg (by omega), q, if_pos (by omega), show (i : Int).toNat = i by omega, getD_set _ _ _ _ _ (by omega)]
    by_cases hj1 : i = j
    · subst hj1; rw [if_pos rfl, if_pos (by omega)]
    · rw [if_neg hj1, hp j hj]
      by_cases hj2 : j < i
      · rw [if_pos hj2, if_pos (by omega)]
      · rw [if_neg hj2, if_neg (by omega)]) (smp vals from_ step m).length 0 (none_ m) (by omega) ⟨by simp [none_], fun j hj => by rw [if_neg (by omega)]; exact getD_replicate m (-1) j hj⟩
  intro j hj
  have h := key.2 j hj
  rw [smp_len, if_pos hj] at h
  unfold plS
  rw [smp_len]
  exact h
theorem whole_cnt (at_ : List Int) (d : Nat) : ∀ i, (∀ j, i ≤ j → j < i + d → 0 ≤ at_.getD j 0) → cnt at_ i d = 0 := by
  induction d with
  | zero => intro i _; rfl
  | succ d ih =>
    intro i h
    simp only [cnt]
    rw [if_neg (by have := h i (by omega) (by omega); omega), ih (i + 1) (fun j h1 h2 => h j (by omega) (by omega))]
    rfl
theorem whole_main (vals : List Int) (from_ step : Int) (m : Nat) (hv : vals.length = m) (hm1 : 1 ≤ m) (hm : m ≤ 500) (f0 : 0 ≤ from_) (f1 : from_ ≤ 1099511627776) (s0 : 1 ≤ step) (s1 : step ≤ 1099511627776) :
    Ev (fun k => resample_Points.f k (smp vals from_ step m) from_ step (m : Int)) (vals, 0) ∧ Ev (fun k => resample_Gaps.f k (smp vals from_ step m) from_ step (m : Int)) (0, 0) := by
  have hask : askS (smp vals from_ step m) from_ step m = 0 := by
    have a : argOK from_ step m = true := by unfold argOK; simp only [Bool.and_eq_true, decide_eq_true_eq]; omega
    unfold askS
    rw [a, smp_len, whole_times vals from_ step m hm f0 f1 s0 s1]; rfl
  have hlen := plS_length (smp vals from_ step m) from_ step m
  have hpl := whole_places vals from_ step m s0
  have e1 := points_good (smp vals from_ step m) (by rw [smp_len]; omega) from_ step m hask
  have e2 := gaps_good (smp vals from_ step m) (by rw [smp_len]; omega) from_ step m hask
  rw [whole_cnt _ m 0 (fun j _ h2 => by rw [hpl j (by omega)]; omega)] at e2
  refine ⟨?_, e2⟩
  have : ptS (smp vals from_ step m) (plS (smp vals from_ step m) from_ step m) = vals := by
    have hf0 : fst (plS (smp vals from_ step m) from_ step m) 0 m = 0 := by
      obtain ⟨q, rfl⟩ : ∃ q, m = q + 1 := ⟨m - 1, by omega⟩
      rw [fst_yes (by rw [hpl 0 (by omega)]; omega), hpl 0 (by omega)]; rfl
    unfold ptS
    rw [hlen, hf0, if_neg (by decide)]
    refine ext_getD (by simp [filled, hv]) (fun j hj => ?_)
    have hj' : j < m := by simpa [filled] using hj
    rw [filled, getD_range _ _ _ hj', fl_step, hpl j hj', if_pos (by omega)]
    unfold pv
    rw [rd41, smp_get _ _ _ _ _ hj']
    rfl
  rw [this] at e1
  exact e1
theorem whole_l0 (vals : List Int) (from_ step : Int) (hv1 : 1 ≤ vals.length) (hv : vals.length ≤ 500) (f0 : 0 ≤ from_) (f1 : from_ ≤ 1099511627776) (s0 : 1 ≤ step) (s1 : step ≤ 1099511627776) (d : Nat) :
    ∀ i : Nat, i + d = vals.length → Ev (fun k => lysimeterlaw21_ResampleWhole.l0 k vals from_ step (smp vals from_ step i) (i : Int)) true := by
  induction d with
  | zero =>
    intro i hi
    obtain rfl : i = vals.length := by omega
    obtain ⟨e1, e2⟩ := whole_main vals from_ step vals.length rfl hv1 hv f0 f1 s0 s1
    refine Ev.step (f := fun k => (resample_Points.f k (smp vals from_ step vals.length) from_ step (vals.length : Int)).bind fun bt155 => ((resample_Gaps.f k (smp vals from_ step vals.length) from_ step (vals.length : Int)).bind fun bt159 => (if (wrap64 (bt155.2 + bt159.2)) = 0 then ((lysimeterlaw6_SameInts.f k bt155.1 vals).bind fun t163 => (if t163 = true then (some (bt159.1 == 0)) else (some false))) else (some false)))) (fun k => ?_) ?_
    · simp only [lysimeterlaw21_ResampleWhole.l0, lysimeterlaw21_num.f, Option.bind_some]
      rw [if_neg (by omega)]
    · refine Ev.bind e1 (Ev.bind e2 ?_)
      have w : wrap64 (0 + 0) = 0 := wrap64_id (by decide) (by decide)
      simp only [w, if_true]
      refine Ev.bind (same_ev vals (by omega)) ?_
      simpa using Ev.now true
  | succ d ih =>
    intro i hi
    have e : wrap64 ((i : Int) + 1) = ((i + 1 : Nat) : Int) := by rw [wrap64_id (by omega) (by omega)]; omega
    refine Ev.step (f := fun k => lysimeterlaw21_ResampleWhole.l0 k vals from_ step (smp vals from_ step (i + 1)) ((i + 1 : Nat) : Int)) (fun k => ?_) (ih (i + 1) (by omega))
    have p1 : (i : Int) * step ≤ 500 * 1099511627776 := Int.mul_le_mul (by omega) s1 (by omega) (by decide)
    have p0 : 0 ≤ (i : Int) * step := Int.mul_nonneg (by omega) (by omega)
    have w1 : wrap64 ((i : Int) * step) = i * step := wrap64_id (by omega) (by omega)
    have w2 : wrap64 (from_ + i * step) = from_ + i * step := wrap64_id (by omega) (by omega)
    simp only [lysimeterlaw21_ResampleWhole.l0]
    rw [if_pos (by omega), if_pos (by omega), if_pos (by rw [smp_len]; omega), w1, w2, e, rd_nat]
    have : smp vals from_ step i ++ [⟨from_ + i * step, vals.getD i 0⟩] = smp vals from_ step (i + 1) := by
      unfold smp; rw [List.range_succ, List.map_append]; rfl
    rw [this]
theorem ResampleWhole : lysimeterlaw21_ResampleWhole.Pure := by
  intro vals from_ step hm hz hw wf ws
  refine Ev.rounds ?_
  unfold lysimeterlaw21_ResampleWhole.f
  refine Ev.bind alive_ev ?_
  simp only [if_true]
  have out : Ev (fun k => lysimeterlaw21_ResampleWhole.j0 k vals from_ step true true) true := by
    refine Ev.step (f := fun _ => some true) (fun k => ?_) (Ev.now _)
    simp only [lysimeterlaw21_ResampleWhole.j0]; rfl
  by_cases h1 : (vals.length : Int) < 1
  · simp only [if_pos h1]; exact out
  by_cases h2 : (vals.length : Int) > 500
  · simp only [if_neg h1, if_pos h2]; exact out
  by_cases h3 : from_ < 0
  · simp only [if_neg h1, if_neg h2, if_pos h3]; exact out
  by_cases h4 : from_ > 1099511627776
  · simp only [if_neg h1, if_neg h2, if_neg h3, if_pos h4]; exact out
  by_cases h5 : step < 1
  · simp only [if_neg h1, if_neg h2, if_neg h3, if_neg h4, if_pos h5]; exact out
  simp only [if_neg h1, if_neg h2, if_neg h3, if_neg h4, if_neg h5]
  by_cases h6 : step > 1099511627776
  · rw [decide_eq_true h6]; exact out
  rw [decide_eq_false h6]
  refine Ev.step (f := fun k => lysimeterlaw21_ResampleWhole.l0 k vals from_ step [] 0) (fun k => ?_) (whole_l0 vals from_ step (by omega) (by omega) (by omega) (by omega) (by omega) (by omega) vals.length 0 (by omega))
  simp only [lysimeterlaw21_ResampleWhole.j0]; rfl
end Go.Proofs.Ytdglifoakdkheaa.Pure
