/- What the reference's points are: the same points, and as many gaps. -/
import Derived.Test.YtdglifoakdkheaaResaSpec
namespace Go.Proofs.Ytdglifoakdkheaa.RS
open Go.RowKit Go.Proofs.Ytdglifoakdkheaa.Resa Go.Proofs.YtdglifoakdkheaaW.PrintWords Go.Proofs.YtdglifoakdkheaaW.PrintLast Go.Proofs.YtdglifoakdkheaaW.PrintMore

/-! ### Times that rise -/
def tms (l : List S41) : List Int := l.map (·.f0)
theorem tms_get (l : List S41) (i : Nat) (hi : i < l.length) : (tms l).getD i 0 = tm l i := by
  unfold tms tm
  simp [List.getD_eq_getElem?_getD, hi]
theorem times_l0 (l : List S41) (hl : l.length ≤ 1152921504606) (d : Nat) : ∀ (i : Nat) (acc : List Int), i + d = l.length → acc = (tms l).take i → Ev (fun k => lysimeterref16_Times.l0 k l acc (i : Int)) (tms l) := by
  have hlen : (tms l).length = l.length := by simp [tms]
  induction d with
  | zero =>
    intro i acc hi ha
    refine Ev.step (f := fun _ => some acc) (fun k => ?_) ?_
    · simp only [lysimeterref16_Times.l0]
      rw [if_neg (by omega)]
    · rw [ha, List.take_of_length_le (by omega)]; exact Ev.now _
  | succ d ih =>
    intro i acc hi ha
    have e : wrap64 ((i : Int) + 1) = ((i + 1 : Nat) : Int) := by rw [wrap64_id (by omega) (by omega)]; omega
    have hal : acc.length = i := by rw [ha, List.length_take]; omega
    refine Ev.step (f := fun k => lysimeterref16_Times.l0 k l (acc ++ [(l.getD i z41).f0]) ((i + 1 : Nat) : Int)) (fun k => ?_) (ih (i + 1) _ (by omega) ?_)
    · simp only [lysimeterref16_Times.l0]
      rw [if_pos (by omega), if_pos (by omega), if_pos (by omega), rd41, e]
    · rw [ha, List.take_succ_eq_append_getElem (by omega)]
      congr 2
      have := tms_get l i (by omega)
      unfold tm at this
      rw [← this]
      simp [List.getD_eq_getElem?_getD, show i < (tms l).length by omega]
theorem times_ev (l : List S41) (hl : l.length ≤ 1152921504606) : Ev (fun k => lysimeterref16_Times.f k l) (tms l) := times_l0 l hl l.length 0 [] (by omega) (by simp)
theorem rrising_l0 (l : List S41) (hl : l.length ≤ 1152921504606) (d : Nat) : ∀ i : Nat, i + d = l.length → Ev (fun k => lysimeterref4_Rising.l0 k (tms l) (i : Int)) (ris l i d) := by
  have hlen : (tms l).length = l.length := by simp [tms]
  induction d with
  | zero =>
    intro i hi
    refine Ev.step (f := fun _ => some true) (fun k => ?_) (Ev.now _)
    simp only [lysimeterref4_Rising.l0]
    rw [if_neg (by omega)]
  | succ d ih =>
    intro i hi
    have e : wrap64 ((i : Int) + 1) = ((i + 1 : Nat) : Int) := by rw [wrap64_id (by omega) (by omega)]; omega
    refine Ev.step (f := fun k => if okAt l i then lysimeterref4_Rising.l0 k (tms l) ((i + 1 : Nat) : Int) else some false) (fun k => ?_) ?_
    · simp only [lysimeterref4_Rising.l0]
      rw [if_pos (by omega), if_pos (by omega), rd_nat, tms_get l i (by omega), e]
      unfold okAt
      by_cases h1 : -9007199254740992 ≤ tm l i
      · by_cases h2 : tm l i ≤ 9007199254740992
        · rw [if_neg (by omega), if_neg (by omega)]
          simp only [decide_eq_true h1, decide_eq_true h2, Bool.true_and]
          by_cases h3 : i = 0
          · rw [if_neg (by omega), decide_eq_true h3]; simp
          · have e2 : wrap64 ((i : Int) - 1) = ((i - 1 : Nat) : Int) := by rw [wrap64_id (by omega) (by omega)]; omega
            rw [if_pos (by omega), e2, if_pos (by omega), if_pos (by omega), rd_nat, tms_get l (i - 1) (by omega), decide_eq_false h3]
            by_cases h4 : tm l i ≤ tm l (i - 1)
            · rw [if_pos h4, decide_eq_false (by omega)]; simp
            · rw [if_neg h4, decide_eq_true (by omega)]; simp
        · rw [if_neg (by omega), if_pos (by omega)]
          simp only [decide_eq_false h2]; simp
      · rw [if_pos (by omega)]
        simp only [decide_eq_false h1]; simp
    · by_cases h : okAt l i = true
      · simp only [ris, h, if_true, Bool.true_and]
        exact ih (i + 1) (by omega)
      · simp only [ris, h, Bool.false_eq_true, if_false, Bool.false_and]
        exact Ev.now false
theorem rrising_ev (l : List S41) (hl : l.length ≤ 1152921504606) : Ev (fun k => lysimeterref4_Rising.f k (tms l)) (ris l 0 l.length) := rrising_l0 l hl l.length 0 (by omega)

/-! ### The reference's loops -/
def hf (e : Int) : Bool := decide (e ≥ 0)
def vf (l : List S41) (e : Int) : Int := if e ≥ 0 then pv l e else 0
theorem rdOf_map (at_ : List Int) (i : Nat) (hi : i < at_.length) : rdOf false (at_.map hf) (i : Int) = hf (at_.getD i 0) := by
  unfold rdOf
  simp [List.getD_eq_getElem?_getD, hi]
theorem ref_l0 (l : List S41) (hl : l.length ≤ 1152921504606) (from_ step : Int) (n : Nat) (_hn : n ≤ 10000) (hs : 1 ≤ step) (hf0 : -9007199254740992 ≤ from_ ∧ from_ ≤ 9007199254740992) (ht : timedAll l) (r : List Int × Int × Int) (d : Nat) :
    ∀ (i : Nat) (out : List Int), i + d = l.length → out.length = n →
      Ev (fun k => lysimeterref21_Points.l1 k (n : Int) ((plc l from_ step n i d out).map hf) ((plc l from_ step n i d out).map (vf l)) 0 (-1) 0) r →
      Ev (fun k => lysimeterref21_Points.l0 k l from_ step (n : Int) (out.map hf) (out.map (vf l)) (i : Int)) r := by
  induction d with
  | zero =>
    intro i out hi ho h
    refine Ev.step (f := fun k => lysimeterref21_Points.l1 k (n : Int) (out.map hf) (out.map (vf l)) 0 (-1) 0) (fun k => ?_) h
    simp only [lysimeterref21_Points.l0]
    rw [if_neg (by omega)]
  | succ d ih =>
    intro i out hi ho h
    refine Ev.step (f := fun k => lysimeterref21_Points.l0 k l from_ step (n : Int) ((stp l from_ step n out i).map hf) ((stp l from_ step n out i).map (vf l)) ((i + 1 : Nat) : Int)) (fun k => ?_) (ih (i + 1) _ (by omega) (by rw [stp_length]; exact ho) h)
    simp only [lysimeterref21_Points.l0]
    have e : wrap64 ((i : Int) + 1) = ((i + 1 : Nat) : Int) := by rw [wrap64_id (by omega) (by omega)]; omega
    obtain ⟨t0, t1⟩ := ht i (by omega)
    rw [if_pos (by omega), if_pos (by omega), rd41, e]
    show (if tm l i < from_ then _ else _) = _
    unfold stp
    by_cases h1 : tm l i < from_
    · rw [if_pos h1, if_pos h1]
    · rw [if_neg h1, if_neg h1, if_neg (by omega)]
      have e1 : wrap64 ((l.getD i z41).f0 - from_) = tm l i - from_ := wrap64_id (by unfold tm at *; omega) (by unfold tm at *; omega)
      have q0 := quo_nonneg hs h1
      have q1 := quo_le hs h1
      have e2 : wrap64 ((tm l i - from_).tdiv step) = (tm l i - from_) / step := by
        rw [Int.tdiv_eq_ediv_of_nonneg (by omega)]; exact wrap64_id (by omega) (by omega)
      rw [e1, e2]
      by_cases h2 : (tm l i - from_) / step < n
      · rw [if_pos h2, if_pos h2, if_pos q0, if_pos (by rw [List.length_map]; omega), if_pos (by rw [List.length_map]; omega), List.map_set, List.map_set]
        have e3 : hf (i : Int) = true := by unfold hf; exact decide_eq_true (by omega)
        have e4 : vf l (i : Int) = (l.getD i z41).f1 := by unfold vf; rw [if_pos (by omega)]; rfl
        rw [e3, e4]
      · rw [if_neg h2, if_neg h2]
/-- The first place that has a sample: its number; -1: none. -/
def fidx (at_ : List Int) : Nat → Nat → Int
  | _, 0 => -1
  | i, d + 1 => if at_.getD i 0 ≥ 0 then i else fidx at_ (i + 1) d
theorem fidx_spec (at_ : List Int) (d : Nat) : ∀ i, (fidx at_ i d = -1 ∧ fst at_ i d = -1) ∨ (∃ j : Nat, fidx at_ i d = j ∧ i ≤ j ∧ j < i + d ∧ at_.getD j 0 ≥ 0 ∧ fst at_ i d = at_.getD j 0 ∧ ∀ m, i ≤ m → m < j → ¬ at_.getD m 0 ≥ 0) := by
  induction d with
  | zero => intro i; exact .inl ⟨rfl, rfl⟩
  | succ d ih =>
    intro i
    by_cases h : at_.getD i 0 ≥ 0
    · right
      refine ⟨i, by simp only [fidx]; rw [if_pos h], by omega, by omega, h, fst_yes h, fun m h1 h2 => by omega⟩
    · rw [fst_no h]
      have e : fidx at_ i (d + 1) = fidx at_ (i + 1) d := by simp only [fidx]; rw [if_neg h]
      rw [e]
      rcases ih (i + 1) with h1 | ⟨j, h1, h2, h3, h4, h5, h6⟩
      · exact .inl h1
      · refine .inr ⟨j, h1, by omega, by omega, h4, h5, fun m g1 g2 => ?_⟩
        by_cases hm : m = i
        · subst hm; exact h
        · exact h6 m (by omega) g2
theorem ref_l1 (l : List S41) (at_ : List Int) (n : Nat) (hn : n ≤ 10000) (ha : at_.length = n) (r : List Int × Int × Int) (d : Nat) :
    ∀ (i : Nat) (g f : Int), i + d = n → 0 ≤ g → g ≤ i →
      (if (if f < 0 then fidx at_ i d else f) < 0 then r = ([], g + cnt at_ i d, 0) else Ev (fun k => lysimeterref21_Points.l2 k (n : Int) (at_.map hf) (at_.map (vf l)) (g + cnt at_ i d) (if f < 0 then fidx at_ i d else f) 0) r) →
      Ev (fun k => lysimeterref21_Points.l1 k (n : Int) (at_.map hf) (at_.map (vf l)) g f (i : Int)) r := by
  induction d with
  | zero =>
    intro i g f hi h0 h1 h
    simp only [cnt, Int.add_zero] at h
    by_cases hf' : f < 0
    · simp only [if_pos hf', fidx] at h
      rw [if_pos (by decide)] at h
      subst h
      refine Ev.step (f := fun _ => some ([], g, 0)) (fun k => ?_) (Ev.now _)
      simp only [lysimeterref21_Points.l1]
      rw [if_neg (by omega), if_pos hf']
    · simp only [if_neg hf'] at h
      refine Ev.step (f := fun k => lysimeterref21_Points.l2 k (n : Int) (at_.map hf) (at_.map (vf l)) g f 0) (fun k => ?_) h
      simp only [lysimeterref21_Points.l1]
      rw [if_neg (by omega), if_neg hf']
  | succ d ih =>
    intro i g f hi h0 h1 h
    have e : wrap64 ((i : Int) + 1) = ((i + 1 : Nat) : Int) := by rw [wrap64_id (by omega) (by omega)]; omega
    have eh := rdOf_map at_ i (by omega)
    by_cases hx : at_.getD i 0 ≥ 0
    · have c : cnt at_ i (d + 1) = cnt at_ (i + 1) d := by simp only [cnt]; rw [if_neg (by omega)]; omega
      have x : fidx at_ i (d + 1) = i := by simp only [fidx]; rw [if_pos hx]
      have ehx : hf (at_.getD i 0) = true := decide_eq_true hx
      rw [c, x] at h
      by_cases hf' : f < 0
      · rw [if_pos hf'] at h
        refine Ev.step (f := fun k => lysimeterref21_Points.l1 k (n : Int) (at_.map hf) (at_.map (vf l)) g (i : Int) ((i + 1 : Nat) : Int)) (fun k => ?_) (ih (i + 1) g i (by omega) h0 (by omega) ?_)
        · simp only [lysimeterref21_Points.l1]
          rw [if_pos (by omega), if_pos (by omega), if_pos (by rw [List.length_map]; omega), eh, ehx, if_pos rfl, if_pos hf', e]
        · rw [if_neg (show ¬ ((i : Int) < 0) by omega)]; exact h
      · rw [if_neg hf'] at h
        refine Ev.step (f := fun k => lysimeterref21_Points.l1 k (n : Int) (at_.map hf) (at_.map (vf l)) g f ((i + 1 : Nat) : Int)) (fun k => ?_) (ih (i + 1) g f (by omega) h0 (by omega) ?_)
        · simp only [lysimeterref21_Points.l1]
          rw [if_pos (by omega), if_pos (by omega), if_pos (by rw [List.length_map]; omega), eh, ehx, if_pos rfl, if_neg hf', e]
        · rw [if_neg hf']; exact h
    · have c : g + cnt at_ i (d + 1) = (g + 1) + cnt at_ (i + 1) d := by simp only [cnt]; rw [if_pos (by omega)]; omega
      have x : fidx at_ i (d + 1) = fidx at_ (i + 1) d := by simp only [fidx]; rw [if_neg hx]
      have ehx : hf (at_.getD i 0) = false := decide_eq_false hx
      rw [c, x] at h
      refine Ev.step (f := fun k => lysimeterref21_Points.l1 k (n : Int) (at_.map hf) (at_.map (vf l)) (g + 1) f ((i + 1 : Nat) : Int)) (fun k => ?_) (ih (i + 1) (g + 1) f (by omega) (by omega) (by omega) h)
      simp only [lysimeterref21_Points.l1]
      rw [if_pos (by omega), if_pos (by omega), if_pos (by rw [List.length_map]; omega), eh, ehx, if_neg (by decide), e, wrap64_id (show _ ≤ g + 1 by omega) (by omega)]
theorem ref_l3 (l : List S41) (at_ : List Int) (n : Nat) (hn : n ≤ 10000) (ha : at_.length = n) (v0 g : Int) (d : Nat) :
    ∀ (i : Nat) (v : List Int), 1 ≤ i → i + d = n → v.length = n → (∀ j, j < n → v.getD j 0 = if j < i then fl l at_ v0 j else vf l (at_.getD j 0)) →
      Ev (fun k => lysimeterref21_Points.l3 k (n : Int) (at_.map hf) v g (i : Int)) (filled l at_ v0 n, g, 0) := by
  induction d with
  | zero =>
    intro i v h1 hi hv hp
    refine Ev.step (f := fun _ => some (v, g, 0)) (fun k => ?_) ?_
    · simp only [lysimeterref21_Points.l3]
      rw [if_neg (by omega)]
    · have : v = filled l at_ v0 n := by
        refine ext_getD (by simp [filled, hv]) (fun j hj => ?_)
        rw [hp j (by omega), if_pos (by omega), filled, getD_range _ _ _ (by omega)]
      rw [this]; exact Ev.now _
  | succ d ih =>
    intro i v h1 hi hv hp
    have e : wrap64 ((i : Int) + 1) = ((i + 1 : Nat) : Int) := by rw [wrap64_id (by omega) (by omega)]; omega
    have e1 : wrap64 ((i : Int) - 1) = ((i - 1 : Nat) : Int) := by rw [wrap64_id (by omega) (by omega)]; omega
    have eh := rdOf_map at_ i (by omega)
    have hst := fl_step l at_ v0 i
    by_cases hx : at_.getD i 0 ≥ 0
    · have ehx : hf (at_.getD i 0) = true := decide_eq_true hx
      rw [if_pos hx] at hst
      refine Ev.step (f := fun k => lysimeterref21_Points.l3 k (n : Int) (at_.map hf) v g ((i + 1 : Nat) : Int)) (fun k => ?_) (ih (i + 1) v (by omega) (by omega) hv (fun j hj => ?_))
      · simp only [lysimeterref21_Points.l3]
        rw [if_pos (by omega), if_pos (by omega), if_pos (by rw [List.length_map]; omega), eh, ehx, if_pos rfl, e]
      · rw [hp j hj]
        by_cases hj1 : j < i
        · rw [if_pos hj1, if_pos (by omega)]
        · by_cases hj2 : j = i
          · subst hj2; rw [if_neg hj1, if_pos (by omega), hst]; unfold vf; rw [if_pos hx]
          · rw [if_neg hj1, if_neg (by omega)]
    · have ehx : hf (at_.getD i 0) = false := decide_eq_false hx
      rw [if_neg hx] at hst
      have hprev : v.getD (i - 1) 0 = fl l at_ v0 i := by
        rw [hp (i - 1) (by omega), if_pos (by omega), hst]
        unfold flv
        rw [if_neg (by omega)]
      refine Ev.step (f := fun k => lysimeterref21_Points.l3 k (n : Int) (at_.map hf) (v.set i (v.getD (i - 1) 0)) g ((i + 1 : Nat) : Int)) (fun k => ?_) (ih (i + 1) _ (by omega) (by omega) (by simpa using hv) (fun j hj => ?_))
      · simp only [lysimeterref21_Points.l3]
        rw [if_pos (by omega), if_pos (by omega), if_pos (by rw [List.length_map]; omega), eh, ehx, if_neg (by decide), e1, if_pos (by omega), if_pos (by omega), if_pos (by omega), rd_nat, e]
        have e2 : (i : Int).toNat = i := by omega
        rw [e2]
      · rw [getD_set _ _ _ _ _ (by omega)]
        by_cases hj2 : i = j
        · subst hj2; rw [if_pos rfl, if_pos (by omega), hprev]
        · rw [if_neg hj2, hp j hj]
          by_cases hj1 : j < i
          · rw [if_pos hj1, if_pos (by omega)]
          · rw [if_neg hj1, if_neg (by omega)]
theorem ref_l2 (l : List S41) (at_ : List Int) (n : Nat) (hn : n ≤ 10000) (ha : at_.length = n) (g : Int) (q : Nat) (hq : q < n) (hq1 : at_.getD q 0 ≥ 0) (hq2 : ∀ m, m < q → ¬ at_.getD m 0 ≥ 0) (d : Nat) :
    ∀ (i : Nat) (v : List Int), i + d = q → v.length = n → (∀ j, j < n → v.getD j 0 = if j < i then pv l (at_.getD q 0) else vf l (at_.getD j 0)) →
      Ev (fun k => lysimeterref21_Points.l2 k (n : Int) (at_.map hf) v g (q : Int) (i : Int)) (filled l at_ (pv l (at_.getD q 0)) n, g, 0) := by
  have low : ∀ j, j < q → fl l at_ (pv l (at_.getD q 0)) j = pv l (at_.getD q 0) := by
    intro j
    induction j with
    | zero => intro hj; simp only [fl]; rw [if_neg (hq2 0 hj)]
    | succ j ih => intro hj; simp only [fl]; rw [if_neg (hq2 (j + 1) hj)]; exact ih (by omega)
  induction d with
  | zero =>
    intro i v hi hv hp
    obtain rfl : i = q := by omega
    have e : wrap64 ((i : Int) + 1) = ((i + 1 : Nat) : Int) := by rw [wrap64_id (by omega) (by omega)]; omega
    refine Ev.step (f := fun k => lysimeterref21_Points.l3 k (n : Int) (at_.map hf) v g ((i + 1 : Nat) : Int)) (fun k => ?_) (ref_l3 l at_ n hn ha (pv l (at_.getD i 0)) g (n - (i + 1)) (i + 1) v (by omega) (by omega) hv (fun j hj => ?_))
    · simp only [lysimeterref21_Points.l2]
      rw [if_neg (by omega), e]
    · rw [hp j hj]
      by_cases hj1 : j < i
      · rw [if_pos hj1, if_pos (by omega), low j hj1]
      · by_cases hj2 : j = i
        · subst hj2
          rw [if_neg hj1, if_pos (by omega), fl_step, if_pos hq1]
          unfold vf; rw [if_pos hq1]
        · rw [if_neg hj1, if_neg (by omega)]
  | succ d ih =>
    intro i v hi hv hp
    have e : wrap64 ((i : Int) + 1) = ((i + 1 : Nat) : Int) := by rw [wrap64_id (by omega) (by omega)]; omega
    have hvq : v.getD q 0 = pv l (at_.getD q 0) := by
      rw [hp q hq, if_neg (by omega)]; unfold vf; rw [if_pos hq1]
    refine Ev.step (f := fun k => lysimeterref21_Points.l2 k (n : Int) (at_.map hf) (v.set i (v.getD q 0)) g (q : Int) ((i + 1 : Nat) : Int)) (fun k => ?_) (ih (i + 1) _ (by omega) (by simpa using hv) (fun j hj => ?_))
    · simp only [lysimeterref21_Points.l2]
      rw [if_pos (by omega), if_pos (by omega), if_pos (by omega), if_pos (by omega), if_pos (by omega), rd_nat, e]
      have e2 : (i : Int).toNat = i := by omega
      rw [e2]
    · rw [getD_set _ _ _ _ _ (by omega)]
      by_cases hj2 : i = j
      · subst hj2; rw [if_pos rfl, if_pos (by omega), hvq]
      · rw [if_neg hj2, hp j hj]
        by_cases hj1 : j < i
        · rw [if_pos hj1, if_pos (by omega)]
        · rw [if_neg hj1, if_neg (by omega)]

/-! ### The reference's call -/
theorem ref_bad_arg (l : List S41) (from_ step n : Int) (h : argOK from_ step n = false) : Ev (fun k => lysimeterref21_Points.f k l from_ step n) ([], 0, 1) := by
  have out : Ev (fun k => lysimeterref21_Points.j0 k l from_ step n true) ([], 0, 1) := by
    refine Ev.step (f := fun _ => some ([], 0, 1)) (fun k => ?_) (Ev.now _)
    simp only [lysimeterref21_Points.j0]; rfl
  unfold lysimeterref21_Points.f
  by_cases h1 : step < 1
  · simp only [if_pos h1]; exact out
  by_cases h2 : step > 9007199254740992
  · simp only [if_neg h1, if_pos h2]; exact out
  by_cases h3 : n < 0
  · simp only [if_neg h1, if_neg h2, if_pos h3]; exact out
  by_cases h4 : n > 10000
  · simp only [if_neg h1, if_neg h2, if_neg h3, if_pos h4]; exact out
  by_cases h5 : from_ < -9007199254740992
  · simp only [if_neg h1, if_neg h2, if_neg h3, if_neg h4, if_pos h5]; exact out
  simp only [if_neg h1, if_neg h2, if_neg h3, if_neg h4, if_neg h5]
  have h6 : from_ > 9007199254740992 := by
    rcases Int.lt_or_le 9007199254740992 from_ with h6 | h6
    · exact h6
    · have : argOK from_ step n = true := by
        unfold argOK; simp only [Bool.and_eq_true, decide_eq_true_eq]; omega
      rw [this] at h; cases h
  rw [decide_eq_true h6]; exact out
theorem ref_ev (l : List S41) (hl : l.length ≤ 1152921504606) (from_ step n : Int) :
    ∃ (p : List Int) (g x : Int), Ev (fun k => lysimeterref21_Points.f k l from_ step n) (p, g, x) ∧ Ev (fun k => resample_Points.f k l from_ step n) (p, x) ∧ Ev (fun k => resample_Gaps.f k l from_ step n) (g, x) ∧ p.length ≤ 10000 := by
  have hl' : l.length ≤ 1152921504606846976 := by omega
  cases ha : argOK from_ step n
  · have hx : askS l from_ step n = 1 := by unfold askS; rw [ha]; rfl
    have h1 := points_bad l hl' from_ step n (by omega)
    have h2 := gaps_bad l hl' from_ step n (by omega)
    rw [hx] at h1 h2
    exact ⟨[], 0, 1, ref_bad_arg l from_ step n ha, h1, h2, by simp⟩
  · obtain ⟨a1, a2, a3, a4, a5, a6⟩ := arg_ok ha
    obtain ⟨n, rfl⟩ := Int.eq_ofNat_of_zero_le a3
    have pre : ∀ r, Ev (fun k => lysimeterref21_Points.j0 k l from_ step (n : Int) false) r → Ev (fun k => lysimeterref21_Points.f k l from_ step (n : Int)) r := by
      intro r h
      unfold lysimeterref21_Points.f
      simp only [if_neg (show ¬ step < 1 by omega), if_neg (show ¬ step > 9007199254740992 by omega), if_neg (show ¬ (n : Int) < 0 by omega), if_neg (show ¬ (n : Int) > 10000 by omega), if_neg (show ¬ from_ < -9007199254740992 by omega)]
      rw [decide_eq_false (by omega)]; exact h
    have j0s : ∀ r, (if ris l 0 l.length then Ev (fun k => lysimeterref21_Points.l0 k l from_ step (n : Int) (List.replicate n false) (List.replicate n 0) 0) r else r = ([], 0, 21)) → Ev (fun k => lysimeterref21_Points.j0 k l from_ step (n : Int) false) r := by
      intro r h
      refine Ev.step (f := fun k => (lysimeterref16_Times.f k l).bind fun t => ((lysimeterref4_Rising.f k t).bind fun b => (if b = true then (lysimeterref21_Points.l0 k l from_ step (n : Int) (List.replicate n false) (List.replicate n 0) 0) else (some (([] : List Int), 0, 21))))) (fun k => ?_) ?_
      · simp only [lysimeterref21_Points.j0]
        rw [if_neg (by decide)]
        have e2 : (n : Int).toNat = n := by omega
        simp only [e2, if_pos (show 0 ≤ (n : Int) by omega), if_pos (show n ≤ 281474976710656 by omega), if_pos (show n ≤ 35184372088832 by omega)]
      · refine Ev.bind (times_ev l hl) (Ev.bind (rrising_ev l hl) ?_)
        cases hr : ris l 0 l.length
        · rw [hr] at h
          simp only [Bool.false_eq_true, if_false] at h ⊢
          subst h; exact Ev.now _
        · rw [hr] at h
          simp only [if_true] at h ⊢
          exact h
    cases hr : ris l 0 l.length
    · have hx : askS l from_ step n = 21 := by unfold askS; rw [ha, hr]; rfl
      have h1 := points_bad l hl' from_ step n (by omega)
      have h2 := gaps_bad l hl' from_ step n (by omega)
      rw [hx] at h1 h2
      refine ⟨[], 0, 21, pre _ (j0s _ ?_), h1, h2, by simp⟩
      rw [hr]; rfl
    · have hx : askS l from_ step n = 0 := by unfold askS; rw [ha, hr]; rfl
      have h1 := points_good l hl' from_ step n hx
      have h2 := gaps_good l hl' from_ step n hx
      have hlen := plS_length l from_ step n
      have hok := plS_ok l from_ step n a1
      refine ⟨_, _, 0, pre _ (j0s _ ?_), h1, h2, by unfold ptS; split <;> simp [filled, hlen]; omega⟩
      rw [hr]
      simp only [if_true]
      have z1 : List.replicate n false = (none_ n).map hf := by simp [none_, hf]
      have z2 : List.replicate n (0 : Int) = (none_ n).map (vf l) := by simp [none_, vf]
      rw [z1, z2]
      refine ref_l0 l hl from_ step n (by omega) a1 ⟨a5, a6⟩ (timedAll_of l hr) _ l.length 0 (none_ n) (by omega) (by simp [none_]) ?_
      show Ev (fun k => lysimeterref21_Points.l1 k (n : Int) ((plS l from_ step n).map hf) ((plS l from_ step n).map (vf l)) 0 (-1) 0) _
      refine ref_l1 l (plS l from_ step n) n (by omega) hlen _ n 0 0 (-1) (by omega) (by omega) (by omega) ?_
      rw [if_pos (show (-1 : Int) < 0 by omega), Int.zero_add]
      unfold ptS
      rw [hlen]
      rcases fidx_spec (plS l from_ step n) n 0 with ⟨f1, f2⟩ | ⟨q, f1, f2, f3, f4, f5, f6⟩
      · rw [f1, f2, if_pos (by decide), if_pos (by decide)]
      · rw [f1, f5, if_neg (by omega), if_neg (by omega)]
        exact ref_l2 l (plS l from_ step n) n (by omega) hlen _ q (by omega) f4 (fun m hm => f6 m (by omega) hm) q 0 _ (by omega) (by simp [hlen]) (fun j hj => by rw [if_neg (by omega), getD_map _ _ _ (by omega)])
end Go.Proofs.Ytdglifoakdkheaa.RS
