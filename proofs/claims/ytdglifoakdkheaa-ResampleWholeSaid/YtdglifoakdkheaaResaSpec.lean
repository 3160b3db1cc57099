/- What packages rollup (Rising) and resample compute, as plain functions of the samples: no program's memory is in sight. -/
import Derived.Test.YtdglifoakdkheaaResax
namespace Go.Proofs.Ytdglifoakdkheaa.RS
open Go.RowKit Go.Proofs.Ytdglifoakdkheaa.Resa Go.Proofs.YtdglifoakdkheaaW.PrintWords Go.Proofs.YtdglifoakdkheaaW.PrintLast Go.Proofs.YtdglifoakdkheaaW.PrintMore

theorem wrap64_id {n : Int} (h0 : -9223372036854775808 ≤ n) (h1 : n ≤ 9223372036854775807) : wrap64 n = n := by unfold wrap64; omega
theorem i64_of_wf {x : Int} (h : (Lit.int .i64 x).wf = true) : -9223372036854775808 ≤ x ∧ x ≤ 9223372036854775807 := by
  have hmin : IntKind.i64.min = -9223372036854775808 := rfl
  have hmax : IntKind.i64.max = 9223372036854775807 := rfl
  simp only [Lit.wf, Bool.and_eq_true, decide_eq_true_eq] at h
  omega
theorem Ev.eq {α : Type} {g f : Nat → Option α} {r : α} (h : g = f) (k : Ev f r) : Ev g r := h ▸ k
theorem Ev.const {α : Type} {x : Option α} {r : α} (h : x = some r) : Ev (fun _ => x) r := ⟨0, fun _ _ => h⟩
theorem Ev.all {α : Type} {g : Nat → Option α} {r : α} (h : ∀ k, g k = some r) : Ev g r := ⟨0, fun k _ => h k⟩
theorem Ev.bindSome {α β : Type} {x : Option α} {f : Nat → α → Option β} {a : α} {r : β} (h : x = some a) (k : Ev (fun n => f n a) r) : Ev (fun n => x.bind (f n)) r := by
  subst h; exact k

/-! ### Lists by their places -/
theorem rd_nat (xs : List Int) (i : Nat) : rd xs (i : Int) = xs.getD i 0 := rfl
theorem getD_set {α : Type} (xs : List α) (i j : Nat) (v d : α) (hi : i < xs.length) : (xs.set i v).getD j d = if i = j then v else xs.getD j d := by
  simp only [List.getD_eq_getElem?_getD, List.getElem?_set]
  split
  · rename_i h; subst h; simp
  · rfl
theorem ext_getD {xs ys : List Int} (hl : xs.length = ys.length) (h : ∀ j, j < xs.length → xs.getD j 0 = ys.getD j 0) : xs = ys := by
  apply List.ext_getElem hl
  intro j h1 h2
  have := h j h1
  simpa [List.getD_eq_getElem?_getD, h1, h2] using this
theorem getD_map (at_ : List Int) (f : Int → Int) (j : Nat) (hj : j < at_.length) : (at_.map f).getD j 0 = f (at_.getD j 0) := by
  simp [List.getD_eq_getElem?_getD, hj]
theorem getD_range (f : Nat → Int) (n j : Nat) (hj : j < n) : ((List.range n).map f).getD j 0 = f j := by
  simp [List.getD_eq_getElem?_getD, hj]
theorem getD_replicate (n : Nat) (v : Int) (j : Nat) (hj : j < n) : (List.replicate n v).getD j 0 = v := by
  simp [List.getD_eq_getElem?_getD, hj]

/-! ### Samples that rise -/
def tm (l : List S41) (i : Nat) : Int := (l.getD i z41).f0
def vl (l : List S41) (i : Nat) : Int := (l.getD i z41).f1
theorem rd41 (l : List S41) (i : Nat) : rd_T41 l (i : Int) = l.getD i z41 := rfl
def okAt (l : List S41) (i : Nat) : Bool := decide (-9007199254740992 ≤ tm l i) && (decide (tm l i ≤ 9007199254740992) && (decide (i = 0) || decide (tm l (i - 1) < tm l i)))
def ris (l : List S41) : Nat → Nat → Bool
  | _, 0 => true
  | i, d + 1 => okAt l i && ris l (i + 1) d
theorem timed_eq (t : Int) : rollup_Timed.f t = some (decide (-9007199254740992 ≤ t) && decide (t ≤ 9007199254740992)) := by
  unfold rollup_Timed.f
  by_cases h : t ≥ -9007199254740992
  · rw [if_pos h, decide_eq_true h]; rfl
  · rw [if_neg h, decide_eq_false h]; rfl
theorem rising_l0 (l : List S41) (hl : l.length ≤ 1152921504606846976) (d : Nat) : ∀ i : Nat, i + d = l.length → Ev (fun k => rollup_Rising.l0 k l l (l.length : Int) (i : Int)) (if ris l i d then 0 else 21) := by
  induction d with
  | zero =>
    intro i hi
    refine Ev.step (f := fun _ => some 0) (fun k => ?_) (Ev.now _)
    simp only [rollup_Rising.l0]
    rw [if_neg (by omega)]
  | succ d ih =>
    intro i hi
    refine Ev.step (f := fun k => if okAt l i then rollup_Rising.l0 k l l (l.length : Int) ((i + 1 : Nat) : Int) else some 21) (fun k => ?_) ?_
    · simp only [rollup_Rising.l0]
      have e : wrap64 ((i : Int) + 1) = ((i + 1 : Nat) : Int) := by rw [wrap64_id (by omega) (by omega)]; omega
      rw [if_pos (by omega), if_pos (by omega), if_pos (by omega), rd41, timed_eq, Option.bind_some, e]
      unfold okAt tm
      by_cases h1 : -9007199254740992 ≤ (l.getD i z41).f0
      · by_cases h2 : (l.getD i z41).f0 ≤ 9007199254740992
        · simp only [decide_eq_true h1, decide_eq_true h2, Bool.true_and, if_true]
          by_cases h3 : i = 0
          · rw [if_neg (by omega), decide_eq_true h3]; simp
          · rw [if_pos (by omega), wrap64_id (by omega) (by omega), if_pos (by omega), if_pos (by omega)]
            have e2 : ((i : Int) - 1) = ((i - 1 : Nat) : Int) := by omega
            rw [e2, rd41, decide_eq_false h3]
            by_cases h4 : (l.getD i z41).f0 ≤ (l.getD (i - 1) z41).f0
            · rw [if_pos h4, decide_eq_false (by omega)]; simp
            · rw [if_neg h4, decide_eq_true (by omega)]; simp
        · simp only [decide_eq_false h2]; simp
      · simp only [decide_eq_false h1]; simp
    · simp only [ris]
      by_cases h : okAt l i = true
      · simp only [h, if_true, Bool.true_and]
        exact ih (i + 1) (by omega)
      · simp only [h, Bool.false_eq_true, if_false, Bool.false_and]
        exact Ev.now (21 : Int)
theorem rising_ev (l : List S41) (hl : l.length ≤ 1152921504606846976) : Ev (fun k => rollup_Rising.f k l) (if ris l 0 l.length then 0 else 21) := rising_l0 l hl l.length 0 (by omega)
theorem ris_at (l : List S41) (d : Nat) : ∀ i, ris l i d = true → ∀ j, i ≤ j → j < i + d → okAt l j = true := by
  induction d with
  | zero => intro i _ j h1 h2; omega
  | succ d ih =>
    intro i h j h1 h2
    simp only [ris, Bool.and_eq_true] at h
    by_cases hj : j = i
    · subst hj; exact h.1
    · exact ih (i + 1) h.2 j (by omega) (by omega)
theorem ris_of (l : List S41) (d : Nat) : ∀ i, (∀ j, i ≤ j → j < i + d → okAt l j = true) → ris l i d = true := by
  induction d with
  | zero => intro i _; rfl
  | succ d ih =>
    intro i h
    simp only [ris, Bool.and_eq_true]
    exact ⟨h i (by omega) (by omega), ih (i + 1) (fun j h1 h2 => h j (by omega) (by omega))⟩
theorem ok_timed {l : List S41} {i : Nat} (h : okAt l i = true) : -9007199254740992 ≤ tm l i ∧ tm l i ≤ 9007199254740992 := by
  unfold okAt at h
  simp only [Bool.and_eq_true, decide_eq_true_eq] at h
  exact ⟨h.1, h.2.1⟩
/-- Every time may be. -/
def timedAll (l : List S41) : Prop := ∀ j, j < l.length → -9007199254740992 ≤ tm l j ∧ tm l j ≤ 9007199254740992
theorem timedAll_of (l : List S41) (h : ris l 0 l.length = true) : timedAll l := fun j hj => ok_timed (ris_at l l.length 0 h j (by omega) (by omega))

/-! ### resample.ask -/
def argOK (from_ step n : Int) : Bool := decide (1 ≤ step) && decide (step ≤ 9007199254740992) && decide (0 ≤ n) && decide (n ≤ 10000) && decide (-9007199254740992 ≤ from_) && decide (from_ ≤ 9007199254740992)
def askS (l : List S41) (from_ step n : Int) : Int := if argOK from_ step n then (if ris l 0 l.length then 0 else 21) else 1
theorem ask_ev (l : List S41) (hl : l.length ≤ 1152921504606846976) (from_ step n : Int) : Ev (fun k => resample_ask.f k l from_ step n) (askS l from_ step n) := by
  unfold resample_ask.f askS argOK
  by_cases h1 : step < 1
  · simp only [if_pos h1, decide_eq_false (show ¬ 1 ≤ step by omega)]; simpa using Ev.now (1 : Int)
  by_cases h2 : step > 9007199254740992
  · simp only [if_neg h1, if_pos h2, decide_eq_false (show ¬ step ≤ 9007199254740992 by omega)]; simpa using Ev.now (1 : Int)
  by_cases h3 : n < 0
  · simp only [if_neg h1, if_neg h2, if_pos h3, decide_eq_false (show ¬ 0 ≤ n by omega)]; simpa using Ev.now (1 : Int)
  by_cases h4 : n > 10000
  · simp only [if_neg h1, if_neg h2, if_neg h3, if_pos h4, decide_eq_false (show ¬ n ≤ 10000 by omega)]; simpa using Ev.now (1 : Int)
  simp only [if_neg h1, if_neg h2, if_neg h3, if_neg h4, timed_eq, Option.bind_some, decide_eq_true (show 1 ≤ step by omega), decide_eq_true (show step ≤ 9007199254740992 by omega), decide_eq_true (show 0 ≤ n by omega), decide_eq_true (show n ≤ 10000 by omega), Bool.true_and]
  cases hc : (decide (-9007199254740992 ≤ from_) && decide (from_ ≤ 9007199254740992))
  · simpa using Ev.now (1 : Int)
  · simp only [if_true]
    exact Ev.bind (rising_ev l hl) (Ev.now _)

/-! ### places: the last sample of each step -/
def stp (l : List S41) (from_ step : Int) (n : Nat) (out : List Int) (i : Nat) : List Int :=
  if tm l i < from_ then out else if (tm l i - from_) / step < n then out.set ((tm l i - from_) / step).toNat i else out
def plc (l : List S41) (from_ step : Int) (n : Nat) : Nat → Nat → List Int → List Int
  | _, 0, out => out
  | i, d + 1, out => plc l from_ step n (i + 1) d (stp l from_ step n out i)
theorem stp_length (l : List S41) (from_ step : Int) (n : Nat) (out : List Int) (i : Nat) : (stp l from_ step n out i).length = out.length := by
  unfold stp; split; rfl; split; simp; rfl
theorem plc_length (l : List S41) (from_ step : Int) (n : Nat) (d : Nat) : ∀ i out, (plc l from_ step n i d out).length = out.length := by
  induction d with
  | zero => intro i out; rfl
  | succ d ih => intro i out; simp only [plc]; rw [ih, stp_length]
/-- What holds ahead of the first sample, and is kept by each, holds of all places. -/
theorem plc_inv (l : List S41) (from_ step : Int) (n : Nat) (P : Nat → List Int → Prop) (hs : ∀ i out, i < l.length → P i out → P (i + 1) (stp l from_ step n out i)) (d : Nat) :
    ∀ i out, i + d = l.length → P i out → P l.length (plc l from_ step n i d out) := by
  induction d with
  | zero => intro i out h hp; simp only [plc]; obtain rfl : i = l.length := by omega
            exact hp
  | succ d ih => intro i out h hp; simp only [plc]; exact ih (i + 1) _ (by omega) (hs i out (by omega) hp)
theorem quo_nonneg {t from_ step : Int} (hs : 1 ≤ step) (h : ¬ t < from_) : 0 ≤ (t - from_) / step := Int.ediv_nonneg (by omega) (by omega)
theorem quo_le {t from_ step : Int} (_hs : 1 ≤ step) (h : ¬ t < from_) : (t - from_) / step ≤ t - from_ := Int.ediv_le_self _ (by omega)
theorem places_l1 (l : List S41) (hl : l.length ≤ 1152921504606846976) (from_ step : Int) (n : Nat) (hs : 1 ≤ step) (hf : -9007199254740992 ≤ from_ ∧ from_ ≤ 9007199254740992) (ht : timedAll l) (d : Nat) :
    ∀ (i : Nat) (out : List Int), i + d = l.length → out.length = n → Ev (fun k => resample_places.l1 k from_ step (n : Int) out l (l.length : Int) (i : Int)) (plc l from_ step n i d out) := by
  induction d with
  | zero =>
    intro i out hi ho
    refine Ev.step (f := fun _ => some out) (fun k => ?_) (Ev.now _)
    simp only [resample_places.l1]
    rw [if_neg (by omega)]
  | succ d ih =>
    intro i out hi ho
    refine Ev.step (f := fun k => resample_places.l1 k from_ step (n : Int) (stp l from_ step n out i) l (l.length : Int) ((i + 1 : Nat) : Int)) (fun k => ?_) ?_
    · simp only [resample_places.l1]
      have e : wrap64 ((i : Int) + 1) = ((i + 1 : Nat) : Int) := by rw [wrap64_id (by omega) (by omega)]; omega
      obtain ⟨t0, t1⟩ := ht i (by omega)
      rw [if_pos (by omega), if_pos (by omega), if_pos (by omega), rd41, e]
      show (if tm l i < from_ then _ else _) = _
      unfold stp
      by_cases h1 : tm l i < from_
      · rw [if_pos h1, if_pos h1]
      · rw [if_neg h1, if_neg h1, if_neg (by omega)]
        have e1 : wrap64 ((l.getD i z41).f0 - from_) = tm l i - from_ := wrap64_id (by unfold tm at *; omega) (by unfold tm at *; omega)
        have q0 := quo_nonneg hs h1
        have q1 := quo_le hs h1
        have e2 : wrap64 ((tm l i - from_).tdiv step) = (tm l i - from_) / step := by
          rw [Int.tdiv_eq_ediv_of_nonneg (by omega)]; exact wrap64_id (by omega) (by omega)
        rw [e1, e2]
        by_cases h2 : (tm l i - from_) / step < n
        · rw [if_pos h2, if_pos h2, if_pos q0, if_pos (by omega)]
        · rw [if_neg h2, if_neg h2]
    · exact ih (i + 1) _ (by omega) (by rw [stp_length]; exact ho)
def none_ (n : Nat) : List Int := List.replicate n (-1)
theorem set_mid (i d : Nat) : (List.replicate i (-1 : Int) ++ List.replicate (d + 1) 0).set i (-1) = List.replicate (i + 1) (-1) ++ List.replicate d 0 := by
  rw [List.set_append_right _ _ (by simp), List.replicate_succ (n := d), List.replicate_succ' (n := i)]
  simp
theorem places_l0 (l : List S41) (from_ step : Int) (n : Nat) (hn : n ≤ 10000) (r : List Int) (h : Ev (fun k => resample_places.l1 k from_ step (n : Int) (none_ n) l (l.length : Int) 0) r) (d : Nat) :
    ∀ i : Nat, i + d = n → Ev (fun k => resample_places.l0 k l from_ step (n : Int) (List.replicate i (-1) ++ List.replicate d 0) (n : Int) (i : Int)) r := by
  induction d with
  | zero =>
    intro i hi
    refine Ev.step (f := fun k => resample_places.l1 k from_ step (n : Int) (none_ n) l (l.length : Int) 0) (fun k => ?_) h
    simp only [resample_places.l0]
    rw [if_neg (by omega)]
    obtain rfl : i = n := by omega
    simp [none_]
  | succ d ih =>
    intro i hi
    refine Ev.step (f := fun k => resample_places.l0 k l from_ step (n : Int) (List.replicate (i + 1) (-1) ++ List.replicate d 0) (n : Int) ((i + 1 : Nat) : Int)) (fun k => ?_) (ih (i + 1) (by omega))
    simp only [resample_places.l0]
    have e : wrap64 ((i : Int) + 1) = ((i + 1 : Nat) : Int) := by rw [wrap64_id (by omega) (by omega)]; omega
    rw [if_pos (by omega), if_pos (by omega), if_pos (by simp; omega), e]
    have e2 : (i : Int).toNat = i := by omega
    rw [e2, set_mid]
def plS (l : List S41) (from_ step : Int) (n : Nat) : List Int := plc l from_ step n 0 l.length (none_ n)
theorem plS_length (l : List S41) (from_ step : Int) (n : Nat) : (plS l from_ step n).length = n := by unfold plS; rw [plc_length]; simp [none_]
theorem places_ev (l : List S41) (hl : l.length ≤ 1152921504606846976) (from_ step : Int) (n : Nat) (hn : n ≤ 10000) (hs : 1 ≤ step) (hf : -9007199254740992 ≤ from_ ∧ from_ ≤ 9007199254740992) (ht : timedAll l) :
    Ev (fun k => resample_places.f k l from_ step (n : Int)) (plS l from_ step n) := by
  have h1 := places_l1 l hl from_ step n hs hf ht l.length 0 (none_ n) (by omega) (by simp [none_])
  have h2 := places_l0 l from_ step n hn _ h1 n 0 (by omega)
  refine Ev.eq ?_ h2
  funext k
  unfold resample_places.f
  rw [if_pos (by omega), if_pos (by omega)]
  simp
/-- Each place is -1, or a sample's number. -/
def okPl (l : List S41) (at_ : List Int) : Prop := ∀ j, j < at_.length → at_.getD j 0 < l.length ∧ -1 ≤ at_.getD j 0
theorem plS_ok (l : List S41) (from_ step : Int) (n : Nat) (_hs : 1 ≤ step) : okPl l (plS l from_ step n) := by
  refine plc_inv l from_ step n (fun _ out => ∀ j, j < out.length → out.getD j 0 < l.length ∧ -1 ≤ out.getD j 0) ?_ l.length 0 _ (by omega) ?_
  · intro i out hi h j hj
    rw [stp_length] at hj
    unfold stp
    by_cases h1 : tm l i < from_
    · rw [if_pos h1]; exact h j hj
    · rw [if_neg h1]
      by_cases h2 : (tm l i - from_) / step < n
      · rw [if_pos h2]
        by_cases h3 : ((tm l i - from_) / step).toNat < out.length
        · rw [getD_set _ _ _ _ _ h3]
          split
          · omega
          · exact h j hj
        · rw [List.set_eq_of_length_le (by omega)]; exact h j hj
      · rw [if_neg h2]; exact h j hj
  · intro j hj
    have : (none_ n).getD j 0 = -1 := getD_replicate n (-1) j (by simpa [none_] using hj)
    rw [this]; omega

/-! ### resample.Points -/
/-- The first place that has a sample: what stands there; -1: none. -/
def fst (at_ : List Int) : Nat → Nat → Int
  | _, 0 => -1
  | i, d + 1 => if at_.getD i 0 ≥ 0 then at_.getD i 0 else fst at_ (i + 1) d
def pv (l : List S41) (e : Int) : Int := (rd_T41 l e).f1
/-- What is filled in, place by place. -/
def fl (l : List S41) (at_ : List Int) (v0 : Int) : Nat → Int
  | 0 => if at_.getD 0 0 ≥ 0 then pv l (at_.getD 0 0) else v0
  | j + 1 => if at_.getD (j + 1) 0 ≥ 0 then pv l (at_.getD (j + 1) 0) else fl l at_ v0 j
def flv (l : List S41) (at_ : List Int) (v0 : Int) (i : Nat) : Int := if i = 0 then v0 else fl l at_ v0 (i - 1)
theorem fl_step (l : List S41) (at_ : List Int) (v0 : Int) (i : Nat) : fl l at_ v0 i = if at_.getD i 0 ≥ 0 then pv l (at_.getD i 0) else flv l at_ v0 i := by
  cases i with
  | zero => simp [fl, flv]
  | succ i => simp [fl, flv]
def filled (l : List S41) (at_ : List Int) (v0 : Int) (n : Nat) : List Int := (List.range n).map (fl l at_ v0)
theorem fill_l1 (l : List S41) (_hl : l.length ≤ 1152921504606846976) (at_ : List Int) (n : Nat) (hn : n ≤ 10000) (ha : at_.length = n) (hk : okPl l at_) (v0 : Int) (d : Nat) :
    ∀ (i : Nat) (out : List Int), i + d = n → out.length = n → (∀ j, j < i → out.getD j 0 = fl l at_ v0 j) → Ev (fun k => resample_Points.l1 k l at_ out (flv l at_ v0 i) (n : Int) (i : Int)) (filled l at_ v0 n, 0) := by
  induction d with
  | zero =>
    intro i out hi ho hp
    refine Ev.step (f := fun _ => some (out, 0)) (fun k => ?_) ?_
    · simp only [resample_Points.l1]
      rw [if_neg (by omega)]
    · have : out = filled l at_ v0 n := by
        refine ext_getD (by simp [filled, ho]) (fun j hj => ?_)
        rw [hp j (by omega), filled, getD_range _ _ _ (by omega)]
      rw [this]
      exact Ev.now _
  | succ d ih =>
    intro i out hi ho hp
    have e : wrap64 ((i : Int) + 1) = ((i + 1 : Nat) : Int) := by rw [wrap64_id (by omega) (by omega)]; omega
    have hst := fl_step l at_ v0 i
    have next : ∀ v, v = fl l at_ v0 i → Ev (fun k => resample_Points.l1 k l at_ (out.set i v) v (n : Int) ((i + 1 : Nat) : Int)) (filled l at_ v0 n, 0) := by
      intro v hv
      have := ih (i + 1) (out.set i v) (by omega) (by simpa using ho) (fun j hj => by
        rw [getD_set _ _ _ _ _ (by omega)]
        split
        · rename_i h; subst h; exact hv
        · exact hp j (by omega))
      have e3 : flv l at_ v0 (i + 1) = v := by rw [hv]; simp [flv]
      rw [e3] at this
      exact this
    refine Ev.step (f := fun k => resample_Points.l1 k l at_ (out.set i (fl l at_ v0 i)) (fl l at_ v0 i) (n : Int) ((i + 1 : Nat) : Int)) (fun k => ?_) (next _ rfl)
    simp only [resample_Points.l1]
    rw [if_pos (by omega), if_pos (by omega), if_pos (by omega), rd_nat, e]
    obtain ⟨k1, k2⟩ := hk i (by omega)
    have e2 : (i : Int).toNat = i := by omega
    rw [e2]
    by_cases h1 : at_.getD i 0 ≥ 0
    · rw [if_pos h1] at hst
      rw [if_pos h1, if_pos h1, if_pos k1, if_pos (by omega), hst]
      rfl
    · rw [if_neg h1] at hst
      rw [if_neg h1, if_pos (by omega), hst]
theorem points_j1 (l : List S41) (hl : l.length ≤ 1152921504606846976) (at_ : List Int) (n : Nat) (hn : n ≤ 10000) (ha : at_.length = n) (hk : okPl l at_) (e : Int) (he : e < l.length) :
    Ev (fun k => resample_Points.j1 k l (n : Int) at_ e) (if e < 0 then ([], 0) else (filled l at_ (pv l e) n, 0)) := by
  by_cases h : e < 0
  · rw [if_pos h]
    refine Ev.step (f := fun _ => some ([], 0)) (fun k => ?_) (Ev.now _)
    simp only [resample_Points.j1]
    rw [if_pos h]
  · rw [if_neg h]
    have := fill_l1 l hl at_ n hn ha hk (pv l e) n 0 (List.replicate n 0) (by omega) (by simp) (fun j hj => by omega)
    refine Ev.step (f := fun k => resample_Points.l1 k l at_ (List.replicate n 0) (pv l e) (n : Int) 0) (fun k => ?_) this
    simp only [resample_Points.j1]
    rw [if_neg h, if_pos (by omega), if_pos (by omega), if_pos (by omega), if_pos he]
    have e2 : (n : Int).toNat = n := by omega
    rw [e2]; rfl
theorem fst_lt (l : List S41) (at_ : List Int) (hk : okPl l at_) (d : Nat) : ∀ i, i + d = at_.length → fst at_ i d < l.length := by
  induction d with
  | zero => intro i _; simp only [fst]; omega
  | succ d ih =>
    intro i hi
    simp only [fst]
    split
    · exact (hk i (by omega)).1
    · exact ih (i + 1) (by omega)
theorem fst_yes {at_ : List Int} {i d : Nat} (h : at_.getD i 0 ≥ 0) : fst at_ i (d + 1) = at_.getD i 0 := by simp only [fst]; rw [if_pos h]
theorem fst_no {at_ : List Int} {i d : Nat} (h : ¬ at_.getD i 0 ≥ 0) : fst at_ i (d + 1) = fst at_ (i + 1) d := by simp only [fst]; rw [if_neg h]
theorem points_l0 (l : List S41) (hl : l.length ≤ 1152921504606846976) (at_ : List Int) (n : Nat) (hn : n ≤ 10000) (ha : at_.length = n) (hk : okPl l at_) (d : Nat) :
    ∀ i : Nat, i + d = n → Ev (fun k => resample_Points.l0 k l (n : Int) at_ (-1) at_ (n : Int) (i : Int)) (if fst at_ i d < 0 then ([], 0) else (filled l at_ (pv l (fst at_ i d)) n, 0)) := by
  induction d with
  | zero =>
    intro i hi
    refine Ev.step (f := fun k => resample_Points.j1 k l (n : Int) at_ (-1)) (fun k => ?_) ?_
    · simp only [resample_Points.l0]
      rw [if_neg (by omega)]
    · have := points_j1 l hl at_ n hn ha hk (-1) (by omega)
      simpa [fst] using this
  | succ d ih =>
    intro i hi
    have e : wrap64 ((i : Int) + 1) = ((i + 1 : Nat) : Int) := by rw [wrap64_id (by omega) (by omega)]; omega
    by_cases h1 : at_.getD i 0 ≥ 0
    · refine Ev.step (f := fun k => resample_Points.j1 k l (n : Int) at_ (at_.getD i 0)) (fun k => ?_) ?_
      · simp only [resample_Points.l0]
        rw [if_pos (by omega), if_pos (by omega), if_pos (by omega), rd_nat, if_pos h1]
      · have := points_j1 l hl at_ n hn ha hk (at_.getD i 0) (hk i (by omega)).1
        rw [fst_yes h1]
        exact this
    · refine Ev.step (f := fun k => resample_Points.l0 k l (n : Int) at_ (-1) at_ (n : Int) ((i + 1 : Nat) : Int)) (fun k => ?_) ?_
      · simp only [resample_Points.l0]
        rw [if_pos (by omega), if_pos (by omega), if_pos (by omega), rd_nat, if_neg h1, e]
      · rw [fst_no h1]
        exact ih (i + 1) (by omega)
/-- The points of samples. -/
def ptS (l : List S41) (at_ : List Int) : List Int := if fst at_ 0 at_.length < 0 then [] else filled l at_ (pv l (fst at_ 0 at_.length)) at_.length
def cnt (at_ : List Int) : Nat → Nat → Int
  | _, 0 => 0
  | i, d + 1 => (if at_.getD i 0 < 0 then 1 else 0) + cnt at_ (i + 1) d
theorem cnt_bd (at_ : List Int) (d : Nat) : ∀ i, 0 ≤ cnt at_ i d ∧ cnt at_ i d ≤ d := by
  induction d with
  | zero => intro i; simp [cnt]
  | succ d ih => intro i; have := ih (i + 1); simp only [cnt]; split <;> omega
theorem gaps_l0 (at_ : List Int) (n : Nat) (hn : n ≤ 10000) (ha : at_.length = n) (d : Nat) :
    ∀ (i : Nat) (g : Int), i + d = n → 0 ≤ g → g ≤ i → Ev (fun k => resample_Gaps.l0 k g at_ (n : Int) (i : Int)) (g + cnt at_ i d, 0) := by
  induction d with
  | zero =>
    intro i g hi h0 h1
    refine Ev.step (f := fun _ => some (g + cnt at_ i 0, 0)) (fun k => ?_) (Ev.now _)
    simp only [resample_Gaps.l0]
    rw [if_neg (by omega)]
    simp [cnt]
  | succ d ih =>
    intro i g hi h0 h1
    have e : wrap64 ((i : Int) + 1) = ((i + 1 : Nat) : Int) := by rw [wrap64_id (by omega) (by omega)]; omega
    by_cases h : at_.getD i 0 < 0
    · refine Ev.step (f := fun k => resample_Gaps.l0 k (wrap64 (g + 1)) at_ (n : Int) ((i + 1 : Nat) : Int)) (fun k => ?_) ?_
      · simp only [resample_Gaps.l0]
        rw [if_pos (by omega), if_pos (by omega), if_pos (by omega), rd_nat, if_pos h, e]
      · rw [wrap64_id (by omega) (by omega)]
        have := ih (i + 1) (g + 1) (by omega) (by omega) (by omega)
        simp only [cnt]
        rw [if_pos h, ← Int.add_assoc]
        exact this
    · refine Ev.step (f := fun k => resample_Gaps.l0 k g at_ (n : Int) ((i + 1 : Nat) : Int)) (fun k => ?_) ?_
      · simp only [resample_Gaps.l0]
        rw [if_pos (by omega), if_pos (by omega), if_pos (by omega), rd_nat, if_neg h, e]
      · have := ih (i + 1) g (by omega) h0 (by omega)
        simp only [cnt]
        rw [if_neg h, Int.zero_add]
        exact this

/-! ### The whole calls -/
theorem points_bad (l : List S41) (hl : l.length ≤ 1152921504606846976) (from_ step n : Int) (h : askS l from_ step n ≠ 0) : Ev (fun k => resample_Points.f k l from_ step n) ([], askS l from_ step n) := by
  unfold resample_Points.f
  refine Ev.bind (ask_ev l hl from_ step n) ?_
  simp only [if_neg h]
  exact Ev.now _
theorem gaps_bad (l : List S41) (hl : l.length ≤ 1152921504606846976) (from_ step n : Int) (h : askS l from_ step n ≠ 0) : Ev (fun k => resample_Gaps.f k l from_ step n) (0, askS l from_ step n) := by
  unfold resample_Gaps.f
  refine Ev.bind (ask_ev l hl from_ step n) ?_
  simp only [if_neg h]
  exact Ev.now _
theorem ask_ok {l : List S41} {from_ step n : Int} (h : askS l from_ step n = 0) : argOK from_ step n = true ∧ ris l 0 l.length = true := by
  unfold askS at h
  split at h
  · rename_i h1
    refine ⟨h1, ?_⟩
    split at h
    · assumption
    · omega
  · omega
theorem arg_ok {from_ step n : Int} (h : argOK from_ step n = true) : 1 ≤ step ∧ step ≤ 9007199254740992 ∧ 0 ≤ n ∧ n ≤ 10000 ∧ -9007199254740992 ≤ from_ ∧ from_ ≤ 9007199254740992 := by
  unfold argOK at h
  simp only [Bool.and_eq_true, decide_eq_true_eq] at h
  omega
theorem points_good (l : List S41) (hl : l.length ≤ 1152921504606846976) (from_ step : Int) (n : Nat) (h : askS l from_ step n = 0) : Ev (fun k => resample_Points.f k l from_ step n) (ptS l (plS l from_ step n), 0) := by
  obtain ⟨h1, h2⟩ := ask_ok h
  obtain ⟨a1, a2, a3, a4, a5, a6⟩ := arg_ok h1
  unfold resample_Points.f
  refine Ev.bind (h ▸ ask_ev l hl from_ step n) ?_
  simp only [if_true]
  refine Ev.bind (places_ev l hl from_ step n (by omega) a1 ⟨a5, a6⟩ (timedAll_of l h2)) ?_
  have hlen := plS_length l from_ step n
  have := points_l0 l hl (plS l from_ step n) n (by omega) hlen (plS_ok l from_ step n a1) n 0 (by omega)
  simp only [hlen]
  unfold ptS
  rw [hlen]
  have e : (if fst (plS l from_ step n) 0 n < 0 then (([], 0) : List Int × Int) else (filled l (plS l from_ step n) (pv l (fst (plS l from_ step n) 0 n)) n, 0)) = (if fst (plS l from_ step n) 0 n < 0 then [] else filled l (plS l from_ step n) (pv l (fst (plS l from_ step n) 0 n)) n, 0) := by split <;> rfl
  rw [← e]
  exact this
theorem gaps_good (l : List S41) (hl : l.length ≤ 1152921504606846976) (from_ step : Int) (n : Nat) (h : askS l from_ step n = 0) : Ev (fun k => resample_Gaps.f k l from_ step n) (cnt (plS l from_ step n) 0 n, 0) := by
  obtain ⟨h1, h2⟩ := ask_ok h
  obtain ⟨a1, a2, a3, a4, a5, a6⟩ := arg_ok h1
  unfold resample_Gaps.f
  refine Ev.bind (h ▸ ask_ev l hl from_ step n) ?_
  simp only [if_true]
  refine Ev.bind (places_ev l hl from_ step n (by omega) a1 ⟨a5, a6⟩ (timedAll_of l h2)) ?_
  have hlen := plS_length l from_ step n
  have := gaps_l0 (plS l from_ step n) n (by omega) hlen n 0 0 (by omega) (by omega) (by omega)
  simp only [hlen]
  rw [Int.zero_add] at this
  exact this

/-! ### SameInts -/
theorem same_l0 (xs ys : List Int) (hl : xs.length ≤ 1152921504606846976) (he : xs = ys) (d : Nat) : ∀ i : Nat, i + d = xs.length → Ev (fun k => lysimeterlaw6_SameInts.l0 k xs ys (i : Int)) true := by
  subst he
  induction d with
  | zero =>
    intro i hi
    refine Ev.step (f := fun _ => some true) (fun k => ?_) (Ev.now _)
    simp only [lysimeterlaw6_SameInts.l0]
    rw [if_neg (by omega)]
  | succ d ih =>
    intro i hi
    refine Ev.step (f := fun k => lysimeterlaw6_SameInts.l0 k xs xs ((i + 1 : Nat) : Int)) (fun k => ?_) (ih (i + 1) (by omega))
    have e : wrap64 ((i : Int) + 1) = ((i + 1 : Nat) : Int) := by rw [wrap64_id (by omega) (by omega)]; omega
    simp only [lysimeterlaw6_SameInts.l0]
    rw [if_pos (by omega), if_pos (by omega), if_pos (by omega), if_pos trivial, e]
theorem same_ev (xs : List Int) (hl : xs.length ≤ 1152921504606846976) : Ev (fun k => lysimeterlaw6_SameInts.f k xs xs) true := by
  unfold lysimeterlaw6_SameInts.f
  simp only [if_true]
  exact same_l0 xs xs hl rfl xs.length 0 (by omega)
theorem alive_ev : Ev (fun k => lysimeterlaw21_alive.f k) true := by
  refine Ev.of lysimeterlaw21_alive.mono (k := 40) ?_
  decide +kernel
end Go.Proofs.Ytdglifoakdkheaa.RS
