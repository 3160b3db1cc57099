-- Laid together by wip/shake.py out of: PtSpec Pol3 Pol4 Pol5
import Derived.Test.YtemnfnbjapobcaaPolicyFloorsm9
section
namespace Go.Proofs.Ytemnfnbjapobcaa.RS
open Go.RowKit Go.Proofs.Ytemnfnbjapobcaa.Pr Go.Proofs.YtemnfnbjapobcaaW.PrintWords Go.Proofs.YtemnfnbjapobcaaW.PrintLast Go.Proofs.YtemnfnbjapobcaaW.PrintMore
theorem wrap64_id {n : Int} (h0 : -9223372036854775808 ≤ n) (h1 : n ≤ 9223372036854775807) : wrap64 n = n := by unfold wrap64; omega
theorem i64_of_wf {x : Int} (h : (Lit.int .i64 x).wf = true) : -9223372036854775808 ≤ x ∧ x ≤ 9223372036854775807 := by
  have hmin : IntKind.i64.min = -9223372036854775808 := rfl
  have hmax : IntKind.i64.max = 9223372036854775807 := rfl
  simp only [Lit.wf, Bool.and_eq_true, decide_eq_true_eq] at h
  omega
theorem Ev.eq {α : Type} {g f : Nat → Option α} {r : α} (h : g = f) (k : Ev f r) : Ev g r := h ▸ k
theorem Ev.all {α : Type} {g : Nat → Option α} {r : α} (h : ∀ k, g k = some r) : Ev g r := ⟨0, fun k _ => h k⟩
theorem rd_nat (xs : List Int) (i : Nat) : rd xs (i : Int) = xs.getD i 0 := rfl
theorem getD_set {α : Type} (xs : List α) (i j : Nat) (v d : α) (hi : i < xs.length) : (xs.set i v).getD j d = if i = j then v else xs.getD j d := by
  simp only [List.getD_eq_getElem?_getD, List.getElem?_set]
  split
  · rename_i h; subst h; simp
  · rfl
theorem ext_getD {xs ys : List Int} (hl : xs.length = ys.length) (h : ∀ j, j < xs.length → xs.getD j 0 = ys.getD j 0) : xs = ys := by
  apply List.ext_getElem hl
  intro j h1 h2
  have := h j h1
  simpa [List.getD_eq_getElem?_getD, h1, h2] using this
theorem getD_range (f : Nat → Int) (n j : Nat) (hj : j < n) : ((List.range n).map f).getD j 0 = f j := by
  simp [List.getD_eq_getElem?_getD, hj]
theorem getD_replicate (n : Nat) (v : Int) (j : Nat) (hj : j < n) : (List.replicate n v).getD j 0 = v := by
  simp [List.getD_eq_getElem?_getD, hj]
def tm (l : List S70) (i : Nat) : Int := (l.getD i z70).f0
theorem rd70 (l : List S70) (i : Nat) : rd_T70 l (i : Int) = l.getD i z70 := rfl
def okAt (l : List S70) (i : Nat) : Bool := decide (-9007199254740992 ≤ tm l i) && (decide (tm l i ≤ 9007199254740992) && (decide (i = 0) || decide (tm l (i - 1) < tm l i)))
def ris (l : List S70) : Nat → Nat → Bool
  | _, 0 => true
  | i, d + 1 => okAt l i && ris l (i + 1) d
theorem timed_eq (t : Int) : rollup_Timed.f t = some (decide (-9007199254740992 ≤ t) && decide (t ≤ 9007199254740992)) := by
  unfold rollup_Timed.f
  by_cases h : t ≥ -9007199254740992
  · rw [if_pos h, decide_eq_true h]; rfl
  · rw [if_neg h, decide_eq_false h]; rfl
theorem rising_l0 (l : List S70) (hl : l.length ≤ 1152921504606846976) (d : Nat) : ∀ i : Nat, i + d = l.length → Ev (fun k => rollup_Rising.l0 k l l (l.length : Int) (i : Int)) (if ris l i d then 0 else 21) := by
  induction d with
  | zero =>
    intro i hi
    refine Ev.step (f := fun _ => some 0) (fun k => ?_) (Ev.now _)
    simp only [rollup_Rising.l0]
    rw [if_neg (by omega)]
  | succ d ih =>
    intro i hi
    refine Ev.step (f := fun k => if okAt l i then rollup_Rising.l0 k l l (l.length : Int) ((i + 1 : Nat) : Int) else some 21) (fun k => ?_) ?_
    · simp only [rollup_Rising.l0]
      have e : wrap64 ((i : Int) + 1) = ((i + 1 : Nat) : Int) := by rw [wrap64_id (by omega) (by omega)]; omega
      rw [if_pos (by omega), if_pos (by omega), if_pos (by omega), rd70, timed_eq, Option.bind_some, e]
      unfold okAt tm
      by_cases h1 : -9007199254740992 ≤ (l.getD i z70).f0
      · by_cases h2 : (l.getD i z70).f0 ≤ 9007199254740992
        · simp only [decide_eq_true h1, decide_eq_true h2, Bool.true_and, if_true]
          by_cases h3 : i = 0
          · rw [if_neg (by omega), decide_eq_true h3]; simp
          · rw [if_pos (by omega), wrap64_id (by omega) (by omega), if_pos (by omega), if_pos (by omega)]
            have e2 : ((i : Int) - 1) = ((i - 1 : Nat) : Int) := by omega
            rw [e2, rd70, decide_eq_false h3]
            by_cases h4 : (l.getD i z70).f0 ≤ (l.getD (i - 1) z70).f0
            · rw [if_pos h4, decide_eq_false (by omega)]; simp
            · rw [if_neg h4, decide_eq_true (by omega)]; simp
        · simp only [decide_eq_false h2]; simp
      · simp only [decide_eq_false h1]; simp
    · simp only [ris]
      by_cases h : okAt l i = true
      · simp only [h, if_true, Bool.true_and]
        exact ih (i + 1) (by omega)
      · simp only [h, Bool.false_eq_true, if_false, Bool.false_and]
        exact Ev.now (21 : Int)
theorem rising_ev (l : List S70) (hl : l.length ≤ 1152921504606846976) : Ev (fun k => rollup_Rising.f k l) (if ris l 0 l.length then 0 else 21) := rising_l0 l hl l.length 0 (by omega)
theorem ris_at (l : List S70) (d : Nat) : ∀ i, ris l i d = true → ∀ j, i ≤ j → j < i + d → okAt l j = true := by
  induction d with
  | zero => intro i _ j h1 h2; omega
  | succ d ih =>
    intro i h j h1 h2
    simp only [ris, Bool.and_eq_true] at h
    by_cases hj : j = i
    · subst hj; exact h.1
    · exact ih (i + 1) h.2 j (by omega) (by omega)
theorem ok_timed {l : List S70} {i : Nat} (h : okAt l i = true) : -9007199254740992 ≤ tm l i ∧ tm l i ≤ 9007199254740992 := by
  unfold okAt at h
  simp only [Bool.and_eq_true, decide_eq_true_eq] at h
  exact ⟨h.1, h.2.1⟩
def timedAll (l : List S70) : Prop := ∀ j, j < l.length → -9007199254740992 ≤ tm l j ∧ tm l j ≤ 9007199254740992
theorem timedAll_of (l : List S70) (h : ris l 0 l.length = true) : timedAll l := fun j hj => ok_timed (ris_at l l.length 0 h j (by omega) (by omega))
def argOK (from_ step n : Int) : Bool := decide (1 ≤ step) && decide (step ≤ 9007199254740992) && decide (0 ≤ n) && decide (n ≤ 10000) && decide (-9007199254740992 ≤ from_) && decide (from_ ≤ 9007199254740992)
def askS (l : List S70) (from_ step n : Int) : Int := if argOK from_ step n then (if ris l 0 l.length then 0 else 21) else 1
theorem ask_ev (l : List S70) (hl : l.length ≤ 1152921504606846976) (from_ step n : Int) : Ev (fun k => resample_ask.f k l from_ step n) (askS l from_ step n) := by
  unfold resample_ask.f askS argOK
  by_cases h1 : step < 1
  · simp only [if_pos h1, decide_eq_false (show ¬ 1 ≤ step by omega)]; simpa using Ev.now (1 : Int)
  by_cases h2 : step > 9007199254740992
  · simp only [if_neg h1, if_pos h2, decide_eq_false (show ¬ step ≤ 9007199254740992 by omega)]; simpa using Ev.now (1 : Int)
  by_cases h3 : n < 0
  · simp only [if_neg h1, if_neg h2, if_pos h3, decide_eq_false (show ¬ 0 ≤ n by omega)]; simpa using Ev.now (1 : Int)
  by_cases h4 : n > 10000
  · simp only [if_neg h1, if_neg h2, if_neg h3, if_pos h4, decide_eq_false (show ¬ n ≤ 10000 by omega)]; simpa using Ev.now (1 : Int)
  simp only [if_neg h1, if_neg h2, if_neg h3, if_neg h4, timed_eq, Option.bind_some, decide_eq_true (show 1 ≤ step by omega), decide_eq_true (show step ≤ 9007199254740992 by omega), decide_eq_true (show 0 ≤ n by omega), decide_eq_true (show n ≤ 10000 by omega), Bool.true_and]
  cases hc : (decide (-9007199254740992 ≤ from_) && decide (from_ ≤ 9007199254740992))
  · simpa using Ev.now (1 : Int)
  · simp only [if_true]
    exact Ev.bind (rising_ev l hl) (Ev.now _)
def stp (l : List S70) (from_ step : Int) (n : Nat) (out : List Int) (i : Nat) : List Int :=
  if tm l i < from_ then out else if (tm l i - from_) / step < n then out.set ((tm l i - from_) / step).toNat i else out
def plc (l : List S70) (from_ step : Int) (n : Nat) : Nat → Nat → List Int → List Int
  | _, 0, out => out
  | i, d + 1, out => plc l from_ step n (i + 1) d (stp l from_ step n out i)
theorem stp_length (l : List S70) (from_ step : Int) (n : Nat) (out : List Int) (i : Nat) : (stp l from_ step n out i).length = out.length := by
  unfold stp; split; rfl; split; simp; rfl
theorem plc_length (l : List S70) (from_ step : Int) (n : Nat) (d : Nat) : ∀ i out, (plc l from_ step n i d out).length = out.length := by
  induction d with
  | zero => intro i out; rfl
  | succ d ih => intro i out; simp only [plc]; rw [ih, stp_length]
theorem plc_inv (l : List S70) (from_ step : Int) (n : Nat) (P : Nat → List Int → Prop) (hs : ∀ i out, i < l.length → P i out → P (i + 1) (stp l from_ step n out i)) (d : Nat) :
    ∀ i out, i + d = l.length → P i out → P l.length (plc l from_ step n i d out) := by
  induction d with
  | zero => intro i out h hp; simp only [plc]; obtain rfl : i = l.length := by omega
            exact hp
  | succ d ih => intro i out h hp; simp only [plc]; exact ih (i + 1) _ (by omega) (hs i out (by omega) hp)
theorem quo_nonneg {t from_ step : Int} (hs : 1 ≤ step) (h : ¬ t < from_) : 0 ≤ (t - from_) / step := Int.ediv_nonneg (by omega) (by omega)
theorem quo_le {t from_ step : Int} (_hs : 1 ≤ step) (h : ¬ t < from_) : (t - from_) / step ≤ t - from_ := Int.ediv_le_self _ (by omega)
theorem places_l1 (l : List S70) (hl : l.length ≤ 1152921504606846976) (from_ step : Int) (n : Nat) (hs : 1 ≤ step) (hf : -9007199254740992 ≤ from_ ∧ from_ ≤ 9007199254740992) (ht : timedAll l) (d : Nat) :
    ∀ (i : Nat) (out : List Int), i + d = l.length → out.length = n → Ev (fun k => resample_places.l1 k from_ step (n : Int) out l (l.length : Int) (i : Int)) (plc l from_ step n i d out) := by
  induction d with
  | zero =>
    intro i out hi ho
    refine Ev.step (f := fun _ => some out) (fun k => ?_) (Ev.now _)
    simp only [resample_places.l1]
    rw [if_neg (by omega)]
  | succ d ih =>
    intro i out hi ho
    refine Ev.step (f := fun k => resample_places.l1 k from_ step (n : Int) (stp l from_ step n out i) l (l.length : Int) ((i + 1 : Nat) : Int)) (fun k => ?_) ?_
    · simp only [resample_places.l1]
      have e : wrap64 ((i : Int) + 1) = ((i + 1 : Nat) : Int) := by rw [wrap64_id (by omega) (by omega)]; omega
      obtain ⟨t0, t1⟩ := ht i (by omega)
      rw [if_pos (by omega), if_pos (by omega), if_pos (by omega), rd70, e]
      show (if tm l i < from_ then _ else _) = _
      unfold stp
      by_cases h1 : tm l i < from_
      · rw [if_pos h1, if_pos h1]
      · rw [if_neg h1, if_neg h1, if_neg (by omega)]
        have e1 : wrap64 ((l.getD i z70).f0 - from_) = tm l i - from_ := wrap64_id (by unfold tm at *; omega) (by unfold tm at *; omega)
        have q0 := quo_nonneg hs h1
        have q1 := quo_le hs h1
        have e2 : wrap64 ((tm l i - from_).tdiv step) = (tm l i - from_) / step := by
          rw [Int.tdiv_eq_ediv_of_nonneg (by omega)]; exact wrap64_id (by omega) (by omega)
        rw [e1, e2]
        by_cases h2 : (tm l i - from_) / step < n
        · rw [if_pos h2, if_pos h2, if_pos q0, if_pos (by omega)]
        · rw [if_neg h2, if_neg h2]
    · exact ih (i + 1) _ (by omega) (by rw [stp_length]; exact ho)
def none_ (n : Nat) : List Int := List.replicate n (-1)
theorem set_mid (i d : Nat) : (List.replicate i (-1 : Int) ++ List.replicate (d + 1) 0).set i (-1) = List.replicate (i + 1) (-1) ++ List.replicate d 0 := by
  rw [List.set_append_right _ _ (by simp), List.replicate_succ (n := d), List.replicate_succ' (n := i)]
  simp
theorem places_l0 (l : List S70) (from_ step : Int) (n : Nat) (hn : n ≤ 10000) (r : List Int) (h : Ev (fun k => resample_places.l1 k from_ step (n : Int) (none_ n) l (l.length : Int) 0) r) (d : Nat) :
    ∀ i : Nat, i + d = n → Ev (fun k => resample_places.l0 k l from_ step (n : Int) (List.replicate i (-1) ++ List.replicate d 0) (n : Int) (i : Int)) r := by
  induction d with
  | zero =>
    intro i hi
    refine Ev.step (f := fun k => resample_places.l1 k from_ step (n : Int) (none_ n) l (l.length : Int) 0) (fun k => ?_) h
    simp only [resample_places.l0]
    rw [if_neg (by omega)]
    obtain rfl : i = n := by omega
    simp [none_]
  | succ d ih =>
    intro i hi
    refine Ev.step (f := fun k => resample_places.l0 k l from_ step (n : Int) (List.replicate (i + 1) (-1) ++ List.replicate d 0) (n : Int) ((i + 1 : Nat) : Int)) (fun k => ?_) (ih (i + 1) (by omega))
    simp only [resample_places.l0]
    have e : wrap64 ((i : Int) + 1) = ((i + 1 : Nat) : Int) := by rw [wrap64_id (by omega) (by omega)]; omega
    rw [if_pos (by omega), if_pos (by omega), if_pos (by simp; omega), e]
    have e2 : (i : Int).toNat = i := by omega
    rw [e2, set_mid]
def plS (l : List S70) (from_ step : Int) (n : Nat) : List Int := plc l from_ step n 0 l.length (none_ n)
theorem plS_length (l : List S70) (from_ step : Int) (n : Nat) : (plS l from_ step n).length = n := by unfold plS; rw [plc_length]; simp [none_]
theorem places_ev (l : List S70) (hl : l.length ≤ 1152921504606846976) (from_ step : Int) (n : Nat) (hn : n ≤ 10000) (hs : 1 ≤ step) (hf : -9007199254740992 ≤ from_ ∧ from_ ≤ 9007199254740992) (ht : timedAll l) :
    Ev (fun k => resample_places.f k l from_ step (n : Int)) (plS l from_ step n) := by
  have h1 := places_l1 l hl from_ step n hs hf ht l.length 0 (none_ n) (by omega) (by simp [none_])
  have h2 := places_l0 l from_ step n hn _ h1 n 0 (by omega)
  refine Ev.eq ?_ h2
  funext k
  unfold resample_places.f
  rw [if_pos (by omega), if_pos (by omega)]
  simp
def okPl (l : List S70) (at_ : List Int) : Prop := ∀ j, j < at_.length → at_.getD j 0 < l.length ∧ -1 ≤ at_.getD j 0
theorem plS_ok (l : List S70) (from_ step : Int) (n : Nat) (_hs : 1 ≤ step) : okPl l (plS l from_ step n) := by
  refine plc_inv l from_ step n (fun _ out => ∀ j, j < out.length → out.getD j 0 < l.length ∧ -1 ≤ out.getD j 0) ?_ l.length 0 _ (by omega) ?_
  · intro i out hi h j hj
    rw [stp_length] at hj
    unfold stp
    by_cases h1 : tm l i < from_
    · rw [if_pos h1]; exact h j hj
    · rw [if_neg h1]
      by_cases h2 : (tm l i - from_) / step < n
      · rw [if_pos h2]
        by_cases h3 : ((tm l i - from_) / step).toNat < out.length
        · rw [getD_set _ _ _ _ _ h3]
          split
          · omega
          · exact h j hj
        · rw [List.set_eq_of_length_le (by omega)]; exact h j hj
      · rw [if_neg h2]; exact h j hj
  · intro j hj
    have : (none_ n).getD j 0 = -1 := getD_replicate n (-1) j (by simpa [none_] using hj)
    rw [this]; omega
def fst (at_ : List Int) : Nat → Nat → Int
  | _, 0 => -1
  | i, d + 1 => if at_.getD i 0 ≥ 0 then at_.getD i 0 else fst at_ (i + 1) d
def pv (l : List S70) (e : Int) : Int := (rd_T70 l e).f1
def fl (l : List S70) (at_ : List Int) (v0 : Int) : Nat → Int
  | 0 => if at_.getD 0 0 ≥ 0 then pv l (at_.getD 0 0) else v0
  | j + 1 => if at_.getD (j + 1) 0 ≥ 0 then pv l (at_.getD (j + 1) 0) else fl l at_ v0 j
def flv (l : List S70) (at_ : List Int) (v0 : Int) (i : Nat) : Int := if i = 0 then v0 else fl l at_ v0 (i - 1)
theorem fl_step (l : List S70) (at_ : List Int) (v0 : Int) (i : Nat) : fl l at_ v0 i = if at_.getD i 0 ≥ 0 then pv l (at_.getD i 0) else flv l at_ v0 i := by
  cases i with
  | zero => simp [fl, flv]
  | succ i => simp [fl, flv]
def filled (l : List S70) (at_ : List Int) (v0 : Int) (n : Nat) : List Int := (List.range n).map (fl l at_ v0)
theorem fill_l1 (l : List S70) (_hl : l.length ≤ 1152921504606846976) (at_ : List Int) (n : Nat) (hn : n ≤ 10000) (ha : at_.length = n) (hk : okPl l at_) (v0 : Int) (d : Nat) :
    ∀ (i : Nat) (out : List Int), i + d = n → out.length = n → (∀ j, j < i → out.getD j 0 = fl l at_ v0 j) → Ev (fun k => resample_Points.l1 k l at_ out (flv l at_ v0 i) (n : Int) (i : Int)) (filled l at_ v0 n, 0) := by
  induction d with
  | zero =>
    intro i out hi ho hp
    refine Ev.step (f := fun _ => some (out, 0)) (fun k => ?_) ?_
    · simp only [resample_Points.l1]
      rw [if_neg (by omega)]
    · have : out = filled l at_ v0 n := by
        refine ext_getD (by simp [filled, ho]) (fun j hj => ?_)
        rw [hp j (by omega), filled, getD_range _ _ _ (by omega)]
      rw [this]
      exact Ev.now _
  | succ d ih =>
    intro i out hi ho hp
    have e : wrap64 ((i : Int) + 1) = ((i + 1 : Nat) : Int) := by rw [wrap64_id (by omega) (by omega)]; omega
    have hst := fl_step l at_ v0 i
    have next : ∀ v, v = fl l at_ v0 i → Ev (fun k => resample_Points.l1 k l at_ (out.set i v) v (n : Int) ((i + 1 : Nat) : Int)) (filled l at_ v0 n, 0) := by
      intro v hv
      have := ih (i + 1) (out.set i v) (by omega) (by simpa using ho) (fun j hj => by
        rw [getD_set _ _ _ _ _ (by omega)]
        split
        · rename_i h; subst h; exact hv
        · exact hp j (by omega))
      have e3 : flv l at_ v0 (i + 1) = v := by rw [hv]; simp [flv]
      rw [e3] at this
      exact this
    refine Ev.step (f := fun k => resample_Points.l1 k l at_ (out.set i (fl l at_ v0 i)) (fl l at_ v0 i) (n : Int) ((i + 1 : Nat) : Int)) (fun k => ?_) (next _ rfl)
    simp only [resample_Points.l1]
    rw [if_pos (by omega), if_pos (by omega), if_pos (by omega), rd_nat, e]
    obtain ⟨k1, k2⟩ := hk i (by omega)
    have e2 : (i : Int).toNat = i := by omega
    rw [e2]
    by_cases h1 : at_.getD i 0 ≥ 0
    · rw [if_pos h1] at hst
      rw [if_pos h1, if_pos h1, if_pos k1, if_pos (by omega), hst]
      rfl
    · rw [if_neg h1] at hst
      rw [if_neg h1, if_pos (by omega), hst]
theorem points_j1 (l : List S70) (hl : l.length ≤ 1152921504606846976) (at_ : List Int) (n : Nat) (hn : n ≤ 10000) (ha : at_.length = n) (hk : okPl l at_) (e : Int) (he : e < l.length) :
    Ev (fun k => resample_Points.j1 k l (n : Int) at_ e) (if e < 0 then ([], 0) else (filled l at_ (pv l e) n, 0)) := by
  by_cases h : e < 0
  · rw [if_pos h]
    refine Ev.step (f := fun _ => some ([], 0)) (fun k => ?_) (Ev.now _)
    simp only [resample_Points.j1]
    rw [if_pos h]
  · rw [if_neg h]
    have := fill_l1 l hl at_ n hn ha hk (pv l e) n 0 (List.replicate n 0) (by omega) (by simp) (fun j hj => by omega)
    refine Ev.step (f := fun k => resample_Points.l1 k l at_ (List.replicate n 0) (pv l e) (n : Int) 0) (fun k => ?_) this
    simp only [resample_Points.j1]
    rw [if_neg h, if_pos (by omega), if_pos (by omega), if_pos (by omega), if_pos he]
    have e2 : (n : Int).toNat = n := by omega
    rw [e2]; rfl
theorem fst_yes {at_ : List Int} {i d : Nat} (h : at_.getD i 0 ≥ 0) : fst at_ i (d + 1) = at_.getD i 0 := by simp only [fst]; rw [if_pos h]
theorem fst_no {at_ : List Int} {i d : Nat} (h : ¬ at_.getD i 0 ≥ 0) : fst at_ i (d + 1) = fst at_ (i + 1) d := by simp only [fst]; rw [if_neg h]
theorem points_l0 (l : List S70) (hl : l.length ≤ 1152921504606846976) (at_ : List Int) (n : Nat) (hn : n ≤ 10000) (ha : at_.length = n) (hk : okPl l at_) (d : Nat) :
    ∀ i : Nat, i + d = n → Ev (fun k => resample_Points.l0 k l (n : Int) at_ (-1) at_ (n : Int) (i : Int)) (if fst at_ i d < 0 then ([], 0) else (filled l at_ (pv l (fst at_ i d)) n, 0)) := by
  induction d with
  | zero =>
    intro i hi
    refine Ev.step (f := fun k => resample_Points.j1 k l (n : Int) at_ (-1)) (fun k => ?_) ?_
    · simp only [resample_Points.l0]
      rw [if_neg (by omega)]
    · have := points_j1 l hl at_ n hn ha hk (-1) (by omega)
      simpa [fst] using this
  | succ d ih =>
    intro i hi
    have e : wrap64 ((i : Int) + 1) = ((i + 1 : Nat) : Int) := by rw [wrap64_id (by omega) (by omega)]; omega
    by_cases h1 : at_.getD i 0 ≥ 0
    · refine Ev.step (f := fun k => resample_Points.j1 k l (n : Int) at_ (at_.getD i 0)) (fun k => ?_) ?_
      · simp only [resample_Points.l0]
        rw [if_pos (by omega), if_pos (by omega), if_pos (by omega), rd_nat, if_pos h1]
      · have := points_j1 l hl at_ n hn ha hk (at_.getD i 0) (hk i (by omega)).1
        rw [fst_yes h1]
        exact this
    · refine Ev.step (f := fun k => resample_Points.l0 k l (n : Int) at_ (-1) at_ (n : Int) ((i + 1 : Nat) : Int)) (fun k => ?_) ?_
      · simp only [resample_Points.l0]
        rw [if_pos (by omega), if_pos (by omega), if_pos (by omega), rd_nat, if_neg h1, e]
      · rw [fst_no h1]
        exact ih (i + 1) (by omega)
def ptS (l : List S70) (at_ : List Int) : List Int := if fst at_ 0 at_.length < 0 then [] else filled l at_ (pv l (fst at_ 0 at_.length)) at_.length
def cnt (at_ : List Int) : Nat → Nat → Int
  | _, 0 => 0
  | i, d + 1 => (if at_.getD i 0 < 0 then 1 else 0) + cnt at_ (i + 1) d
theorem gaps_l0 (at_ : List Int) (n : Nat) (hn : n ≤ 10000) (ha : at_.length = n) (d : Nat) :
    ∀ (i : Nat) (g : Int), i + d = n → 0 ≤ g → g ≤ i → Ev (fun k => resample_Gaps.l0 k g at_ (n : Int) (i : Int)) (g + cnt at_ i d, 0) := by
  induction d with
  | zero =>
    intro i g hi h0 h1
    refine Ev.step (f := fun _ => some (g + cnt at_ i 0, 0)) (fun k => ?_) (Ev.now _)
    simp only [resample_Gaps.l0]
    rw [if_neg (by omega)]
    simp [cnt]
  | succ d ih =>
    intro i g hi h0 h1
    have e : wrap64 ((i : Int) + 1) = ((i + 1 : Nat) : Int) := by rw [wrap64_id (by omega) (by omega)]; omega
    by_cases h : at_.getD i 0 < 0
    · refine Ev.step (f := fun k => resample_Gaps.l0 k (wrap64 (g + 1)) at_ (n : Int) ((i + 1 : Nat) : Int)) (fun k => ?_) ?_
      · simp only [resample_Gaps.l0]
        rw [if_pos (by omega), if_pos (by omega), if_pos (by omega), rd_nat, if_pos h, e]
      · rw [wrap64_id (by omega) (by omega)]
        have := ih (i + 1) (g + 1) (by omega) (by omega) (by omega)
        simp only [cnt]
        rw [if_pos h, ← Int.add_assoc]
        exact this
    · refine Ev.step (f := fun k => resample_Gaps.l0 k g at_ (n : Int) ((i + 1 : Nat) : Int)) (fun k => ?_) ?_
      · simp only [resample_Gaps.l0]
        rw [if_pos (by omega), if_pos (by omega), if_pos (by omega), rd_nat, if_neg h, e]
      · have := ih (i + 1) g (by omega) h0 (by omega)
        simp only [cnt]
        rw [if_neg h, Int.zero_add]
        exact this
theorem points_bad (l : List S70) (hl : l.length ≤ 1152921504606846976) (from_ step n : Int) (h : askS l from_ step n ≠ 0) : Ev (fun k => resample_Points.f k l from_ step n) ([], askS l from_ step n) := by
  unfold resample_Points.f
  refine Ev.bind (ask_ev l hl from_ step n) ?_
  simp only [if_neg h]
  exact Ev.now _
theorem gaps_bad (l : List S70) (hl : l.length ≤ 1152921504606846976) (from_ step n : Int) (h : askS l from_ step n ≠ 0) : Ev (fun k => resample_Gaps.f k l from_ step n) (0, askS l from_ step n) := by
  unfold resample_Gaps.f
  refine Ev.bind (ask_ev l hl from_ step n) ?_
  simp only [if_neg h]
  exact Ev.now _
theorem ask_ok {l : List S70} {from_ step n : Int} (h : askS l from_ step n = 0) : argOK from_ step n = true ∧ ris l 0 l.length = true := by
  unfold askS at h
  split at h
  · rename_i h1
    refine ⟨h1, ?_⟩
    split at h
    · assumption
    · omega
  · omega
theorem arg_ok {from_ step n : Int} (h : argOK from_ step n = true) : 1 ≤ step ∧ step ≤ 9007199254740992 ∧ 0 ≤ n ∧ n ≤ 10000 ∧ -9007199254740992 ≤ from_ ∧ from_ ≤ 9007199254740992 := by
  unfold argOK at h
  simp only [Bool.and_eq_true, decide_eq_true_eq] at h
  omega
theorem points_good (l : List S70) (hl : l.length ≤ 1152921504606846976) (from_ step : Int) (n : Nat) (h : askS l from_ step n = 0) : Ev (fun k => resample_Points.f k l from_ step n) (ptS l (plS l from_ step n), 0) := by
  obtain ⟨h1, h2⟩ := ask_ok h
  obtain ⟨a1, a2, a3, a4, a5, a6⟩ := arg_ok h1
  unfold resample_Points.f
  refine Ev.bind (h ▸ ask_ev l hl from_ step n) ?_
  simp only [if_true]
  refine Ev.bind (places_ev l hl from_ step n (by omega) a1 ⟨a5, a6⟩ (timedAll_of l h2)) ?_
  have hlen := plS_length l from_ step n
  have := points_l0 l hl (plS l from_ step n) n (by omega) hlen (plS_ok l from_ step n a1) n 0 (by omega)
  simp only [hlen]
  unfold ptS
  rw [hlen]
  have e : (if fst (plS l from_ step n) 0 n < 0 then (([], 0) : List Int × Int) else (filled l (plS l from_ step n) (pv l (fst (plS l from_ step n) 0 n)) n, 0)) = (if fst (plS l from_ step n) 0 n < 0 then [] else filled l (plS l from_ step n) (pv l (fst (plS l from_ step n) 0 n)) n, 0) := by split <;> rfl
  rw [← e]
  exact this
theorem gaps_good (l : List S70) (hl : l.length ≤ 1152921504606846976) (from_ step : Int) (n : Nat) (h : askS l from_ step n = 0) : Ev (fun k => resample_Gaps.f k l from_ step n) (cnt (plS l from_ step n) 0 n, 0) := by
  obtain ⟨h1, h2⟩ := ask_ok h
  obtain ⟨a1, a2, a3, a4, a5, a6⟩ := arg_ok h1
  unfold resample_Gaps.f
  refine Ev.bind (h ▸ ask_ev l hl from_ step n) ?_
  simp only [if_true]
  refine Ev.bind (places_ev l hl from_ step n (by omega) a1 ⟨a5, a6⟩ (timedAll_of l h2)) ?_
  have hlen := plS_length l from_ step n
  have := gaps_l0 (plS l from_ step n) n (by omega) hlen n 0 0 (by omega) (by omega) (by omega)
  simp only [hlen]
  rw [Int.zero_add] at this
  exact this
end Go.Proofs.Ytemnfnbjapobcaa.RS
end
section
namespace Go.Proofs.Ytemnfnbjapobcaa.PS
open Go.Proofs.Ytemnfnbjapobcaa.Pr Go.Proofs.Ytemnfnbjapobcaa.RS
def pointsS (l : List S70) (from_ step n : Int) : List Int × Int := if askS l from_ step n = 0 then (ptS l (plS l from_ step n.toNat), 0) else ([], askS l from_ step n)
def gapsS (l : List S70) (from_ step n : Int) : Int × Int := if askS l from_ step n = 0 then (cnt (plS l from_ step n.toNat) 0 n.toNat, 0) else (0, askS l from_ step n)
def untilN : List S70 → Int → Nat
  | [], _ => 0
  | x :: l, now => if x.f0 ≤ now then untilN l now + 1 else 0
theorem until_le : ∀ (l : List S70) (now : Int), untilN l now ≤ l.length
  | [], _ => Nat.le_refl _
  | x :: l, now => by
    have := until_le l now
    unfold untilN
    split <;> simp <;> omega
theorem until_get : ∀ (l : List S70) (now : Int) (i : Nat), i < untilN l now → (l.getD i z70).f0 ≤ now
  | [], _, i, h => absurd h (Nat.not_lt_zero _)
  | x :: l, now, i, h => by
    unfold untilN at h
    by_cases c : x.f0 ≤ now
    · rw [if_pos c] at h
      cases i with
      | zero => exact c
      | succ i => exact until_get l now i (by omega)
    · rw [if_neg c] at h; omega
theorem until_stop : ∀ (l : List S70) (now : Int), untilN l now < l.length → ¬ (l.getD (untilN l now) z70).f0 ≤ now
  | [], _, h => absurd h (Nat.not_lt_zero _)
  | x :: l, now, h => by
    by_cases c : x.f0 ≤ now
    · have e : untilN (x :: l) now = untilN l now + 1 := by rw [untilN, if_pos c]
      rw [e] at h ⊢
      exact until_stop l now (by simpa using h)
    · have e : untilN (x :: l) now = 0 := by rw [untilN, if_neg c]
      rw [e]
      exact c
def sIn (l : List S70) : Prop := ∀ x ∈ l, FS.In x.f0 ∧ FS.In x.f1
theorem fl_in {l : List S70} (h : sIn l) (at_ : List Int) {v0 : Int} (h0 : FS.In v0) : ∀ i, FS.In (fl l at_ v0 i)
  | 0 => by
    rw [fl_step]
    split
    · exact pv_in _
    · exact h0
  | i + 1 => by
    rw [fl_step]
    split
    · exact pv_in _
    · exact fl_in h at_ h0 i
where
  pv_in (e : Int) : FS.In (pv l e) := by
    unfold pv rd_T70
    rw [List.getD_eq_getElem?_getD]
    cases he : l[e.toNat]? with
    | none => exact ⟨by decide, by decide⟩
    | some x => exact (h x (List.mem_of_getElem? he)).2
theorem pt_in {l : List S70} (h : sIn l) (at_ : List Int) : HS.AllIn (ptS l at_) := by
  unfold ptS
  split
  · intro x hx; cases hx
  · intro x hx
    unfold filled at hx
    obtain ⟨i, _, rfl⟩ := List.mem_map.mp hx
    exact fl_in h at_ (fl_in.pv_in h _) i
theorem points_in {l : List S70} (h : sIn l) (from_ step n : Int) : HS.AllIn (pointsS l from_ step n).1 := by
  unfold pointsS
  split
  · exact pt_in h _
  · intro x hx; cases hx
theorem points_len (l : List S70) (from_ step n : Int) (hn : n ≤ 10000) : (pointsS l from_ step n).1.length ≤ 10000 := by
  unfold pointsS
  split
  · show (ptS l (plS l from_ step n.toNat)).length ≤ 10000
    unfold ptS
    split
    · exact Nat.zero_le _
    · unfold filled
      rw [List.length_map, List.length_range, plS_length]
      omega
  · exact Nat.zero_le _
end Go.Proofs.Ytemnfnbjapobcaa.PS
namespace Go.Proofs.Ytemnfnbjapobcaa.Ho
open Go.RowKit Go.Proofs.YtemnfnbjapobcaaW.PrintWords Go.Proofs.YtemnfnbjapobcaaW.PrintLast Go.Proofs.YtemnfnbjapobcaaW.PrintMore
open Go.Proofs.Ytemnfnbjapobcaa.FS Go.Proofs.Ytemnfnbjapobcaa.HS Go.Proofs.Ytemnfnbjapobcaa.FM Go.Proofs.Ytemnfnbjapobcaa.PS Go.Proofs.Ytemnfnbjapobcaa.Pr
set_option linter.unusedVariables false
set_option linter.unusedSimpArgs false
theorem pfloor_calls (p : Pol) (load : Int) (hl : FS.In load) (hp : FS.In p.per) (w : World) :
    Calls Try.prog 53 #[polV p, .int .i64 load] w fun e w' => e = .returned (.int .i64 (floorP p load)) ∧ Below w.heap.size w w' := by
  obtain ⟨mn, mx, per, stale, step, ahead, cool, season⟩ := p
  refine Pr.policy_Floor.calls mn mx per stale step ahead cool season load _ w ?_
  unfold Pr.policy_Floor.f Pr.policy_Check.f floorP checkP
  rw [Option.bind_some]
  by_cases h : okP ⟨mn, mx, per, stale, step, ahead, cool, season⟩
  · rw [if_pos h, if_pos h, if_pos rfl]
    have e1 : Pr.fixed_CeilDiv.f load per = some (cdivS load per) := if_pos (by simp [inB_iff.mpr hl, inB_iff.mpr hp])
    have e2 : Pr.fixed_Ceil.f (cdivS load per) = some (-(-(cdivS load per) / 4294967296)) := if_pos (inB_iff.mpr (in_cdivS _ _))
    rw [e1, Option.bind_some, e2, Option.bind_some]
    unfold Pr.fixed_Clamp.f clampS
    split
    · rfl
    · split <;> rfl
  · rw [if_neg h, if_neg h, if_neg (by decide)]
theorem points_calls (A : Option Addr) (c : Nat) (l : List S70) (from_ step n : Int) (w : World) (hr : Kd.C k70 w A l.length l) (hc : l.length ≤ c) (hl : l.length ≤ 1152921504606846976) :
    Calls Try.prog 139 #[.slice A l.length c, .int .i64 from_, .int .i64 step, .int .i64 n] w fun e w' => ∃ v0_ : Value, e = .returned (.tuple #[v0_, .int .i64 (pointsS l from_ step n).2]) ∧ Kd.R (Kd.int .i64) 3 w' w.heap.size (fun _ => True) v0_ (pointsS l from_ step n).1 ∧ Below w.heap.size w w' := by
  obtain ⟨k, h⟩ : ∃ k, Pr.resample_Points.f k l from_ step n = some (pointsS l from_ step n) := by
    unfold pointsS
    by_cases h : RS.askS l from_ step n = 0
    · rw [if_pos h]
      obtain ⟨_, _, h0, _⟩ := RS.arg_ok (RS.ask_ok h).1
      obtain ⟨N, rfl⟩ := Int.eq_ofNat_of_zero_le h0
      exact (RS.points_good l hl from_ step N h).rounds
    · rw [if_neg h]
      exact (RS.points_bad l hl from_ step n h).rounds
  exact Pr.resample_Points.calls k A c l from_ step n _ _ w hr hc h
theorem gaps_calls (A : Option Addr) (c : Nat) (l : List S70) (from_ step n : Int) (w : World) (hr : Kd.C k70 w A l.length l) (hc : l.length ≤ c) (hl : l.length ≤ 1152921504606846976) :
    Calls Try.prog 140 #[.slice A l.length c, .int .i64 from_, .int .i64 step, .int .i64 n] w fun e w' => e = .returned (.tuple #[.int .i64 (gapsS l from_ step n).1, .int .i64 (gapsS l from_ step n).2]) ∧ Below w.heap.size w w' := by
  obtain ⟨k, h⟩ : ∃ k, Pr.resample_Gaps.f k l from_ step n = some (gapsS l from_ step n) := by
    unfold gapsS
    by_cases h : RS.askS l from_ step n = 0
    · rw [if_pos h]
      obtain ⟨_, _, h0, _⟩ := RS.arg_ok (RS.ask_ok h).1
      obtain ⟨N, rfl⟩ := Int.eq_ofNat_of_zero_le h0
      exact (RS.gaps_good l hl from_ step N h).rounds
    · rw [if_neg h]
      exact (RS.gaps_bad l hl from_ step n h).rounds
  exact Pr.resample_Gaps.calls k A c l from_ step n _ _ w hr hc h
theorem rising_calls (A : Option Addr) (c : Nat) (l : List S70) (w : World) (hr : Kd.C k70 w A l.length l) (hc : l.length ≤ c) (hl : l.length ≤ 1152921504606846976) :
    Calls Try.prog 82 #[.slice A l.length c] w fun e w' => e = .returned (.int .i64 (if RS.ris l 0 l.length then 0 else 21)) ∧ Below w.heap.size w w' := by
  obtain ⟨k, h⟩ := (RS.rising_ev l hl).rounds
  exact Pr.rollup_Rising.calls k A c l _ w hr hc h
def timedB (now : Int) : Bool := decide (-4503599627370496 ≤ now) && decide (now ≤ 4503599627370496)
theorem ptimed_calls (now : Int) (w : World) : Calls Try.prog 81 #[.int .i64 now] w fun e w' => e = .returned (.bool (timedB now)) ∧ Drawn0 w w' := by
  refine Pr.policy_Timed.calls now _ w ?_
  unfold Pr.policy_Timed.f timedB
  by_cases h : now ≥ -4503599627370496
  · rw [if_pos h, decide_eq_true h, Bool.true_and]
  · rw [if_neg h, decide_eq_false h, Bool.false_and]
theorem rd70_nat (l : List S70) (i : Nat) : rd_T70 l (i : Int) = l.getD i z70 := rfl
set_option maxRecDepth 100000 in
set_option maxHeartbeats 4000000 in
theorem until_calls (A : Option Addr) (c : Nat) (l : List S70) (now : Int) (w : World) (hr : Kd.C k70 w A l.length l) (hc : l.length ≤ c) (hl : l.length ≤ 1152921504606846976) :
    Calls Try.prog 83 #[.slice A l.length c, .int .i64 now] w fun e w' => e = .returned (.slice A (untilN l now) (untilN l now)) ∧ Drawn0 w w' := by
  have HR := Aside0.mk hr
  clear hr
  have hle := until_le l now
  have hget := Aside0.mk (until_get l now)
  have hstop := Aside0.mk (until_stop l now)
  obtain ⟨u, hu⟩ : ∃ u, untilN l now = u := ⟨_, rfl⟩
  rw [hu] at hle hget hstop ⊢
  clear hu
  go_enter Try.func83, Try.ntmps83
  go_wp2
  go_loopg [5] (l.length + 1) (fun kq v5 W' => ∃ i : Nat, v5 = .int .i64 (i : Int) ∧ Aside0 (kq + i = l.length + 1 ∧ i ≤ u) ∧ W' = w)
  case atStart => exact ⟨0, rfl, ⟨rfl, Nat.zero_le _⟩, rfl⟩
  case round =>
    obtain ⟨i, rfl, HK, rfl⟩ := hrel
    by_cases c1 : i < u
    · have c2 : decide ((i : Int) < (l.length : Int)) = true := decide_eq_true (by omega)
      obtain ⟨ad, e, r0, _⟩ := at_T70 HR.out (i : Int) (by omega) (by omega)
      cases e
      have g := hget.out i c1
      rw [rd70_nat, Int.toNat_natCast] at r0
      obtain ⟨x, hx⟩ : ∃ x, (l.getD i z70).f0 = x := ⟨_, rfl⟩
      rw [hx] at r0 g
      have c3 : decide (x ≤ now) = true := decide_eq_true g
      have c4 : i < l.length := by omega
      have c5 : wrap64 ((i : Int) + 1) = (i : Int) + 1 := wrap64_id (by omega) (by omega)
      clear hx g
      cases gk with
      | zero => exact absurd HK.out (by omega)
      | succ k1 =>
        go_wp2
        go_roundg k1
        case measure => omega
        case rel => exact ⟨i + 1, by go_num, ⟨by have := HK.out; omega, by omega⟩, rfl⟩
    · obtain ⟨h1, h2⟩ := HK.out
      obtain rfl : i = u := by omega
      have stop := hstop.out
      by_cases c2 : i < l.length
      · have c3 : decide ((i : Int) < (l.length : Int)) = true := decide_eq_true (by omega)
        obtain ⟨ad, e, r0, _⟩ := at_T70 HR.out (i : Int) (by omega) (by omega)
        cases e
        have g := stop c2
        rw [rd70_nat, Int.toNat_natCast] at r0
        obtain ⟨x, hx⟩ : ∃ x, (l.getD i z70).f0 = x := ⟨_, rfl⟩
        rw [hx] at r0 g
        have c4 : decide (x ≤ now) = false := decide_eq_false (by omega)
        clear hx g stop h1 h2 c1
        have c6 : i ≤ c := by omega
        go_wp2
        go_ret
        exact ⟨rfl, Drawn0.refl _⟩
      · have c3 : decide ((i : Int) < (l.length : Int)) = false := decide_eq_false (by omega)
        clear stop h1 h2 c1
        have c6 : i ≤ c := by omega
        go_wp2
        go_ret
        exact ⟨rfl, Drawn0.refl _⟩
end Go.Proofs.Ytemnfnbjapobcaa.Ho
end
section
namespace Go.Proofs.Ytemnfnbjapobcaa.PS
open Go.Proofs.Ytemnfnbjapobcaa.Pr Go.Proofs.Ytemnfnbjapobcaa.RS Go.Proofs.Ytemnfnbjapobcaa.HS
def lastS (l : List S70) : S70 := l.getD (l.length - 1) z70
def floorD (d : Dr) (l : List S70) : Int := if 0 < l.length ∧ d.now - d.p.stale < (lastS l).f0 then floorP d.p (lastS l).f1 else if d.some then d.prev.rep else d.p.mn
def ptsD (d : Dr) (l : List S70) : List Int × Int := pointsS l (d.now + 1 - 4 * d.p.season * d.p.step) d.p.step (4 * d.p.season)
def gpsD (d : Dr) (l : List S70) : Int × Int := gapsS l (d.now + 1 - 4 * d.p.season * d.p.step) d.p.step (4 * d.p.season)
def peakD (d : Dr) (l : List S70) : Int × Int := peakS (ptsD d l).1 d.p.season d.p.ahead
def castD (d : Dr) (l : List S70) : Int :=
  if 4503599627370496 / (4 * d.p.season) < d.p.step then 0
  else if (ptsD d l).2 ≠ 0 then 0
  else if (ptsD d l).1.length = 0 then 0
  else if (gpsD d l).2 ≠ 0 then 0
  else if 4 * d.p.season / 2 < (gpsD d l).1 then 0
  else if (peakD d l).2 ≠ 0 then 0
  else floorP d.p (peakD d l).1
end Go.Proofs.Ytemnfnbjapobcaa.PS
namespace Go.Proofs.Ytemnfnbjapobcaa.Ho
open Go.RowKit Go.Proofs.YtemnfnbjapobcaaW.PrintWords Go.Proofs.YtemnfnbjapobcaaW.PrintLast Go.Proofs.YtemnfnbjapobcaaW.PrintMore
open Go.Proofs.Ytemnfnbjapobcaa.FS Go.Proofs.Ytemnfnbjapobcaa.HS Go.Proofs.Ytemnfnbjapobcaa.FM Go.Proofs.Ytemnfnbjapobcaa.PS Go.Proofs.Ytemnfnbjapobcaa.Pr
set_option linter.unusedVariables false
set_option linter.unusedSimpArgs false
set_option maxRecDepth 100000 in
set_option maxHeartbeats 8000000 in
theorem dfloor_calls (b : Nat) (d : Dr) (A : Option Addr) (c : Nat) (l : List S70) (w : World) (h : DrAt w b d A l.length c) (hr : Kd.C k70 w A l.length l) (hc : l.length ≤ c) (hs : sIn l) (hp : okP d.p) (hper : FS.In d.p.per) (hn0 : -4503599627370496 ≤ d.now) (hn1 : d.now ≤ 4503599627370496) (hl : l.length ≤ 1152921504606846976) :
    Calls Try.prog 118 #[.pointer (some ⟨b, 0, none⟩)] w fun e w' => e = .returned (.int .i64 (floorD d l)) ∧ Below w.heap.size w w' := by
  have d0 := h.at 0 (.int .i64 d.p.mn) rfl
  have d1 := h.at 1 (.int .i64 d.p.mx) rfl
  have d2 := h.at 2 (.int .i64 d.p.per) rfl
  have d3 := h.at 3 (.int .i64 d.p.stale) rfl
  have d4 := h.at 4 (.int .i64 d.p.step) rfl
  have d5 := h.at 5 (.int .i64 d.p.ahead) rfl
  have d6 := h.at 6 (.int .i64 d.p.cool) rfl
  have d7 := h.at 7 (.int .i64 d.p.season) rfl
  have d8 := h.at 8 (.int .i64 d.now) rfl
  have d11 := h.at 11 (.int .i64 d.prev.t) rfl
  have d12 := h.at 12 (.int .i64 d.prev.rep) rfl
  have d9 := h.at 9 (.slice A l.length c) rfl
  have KS := Aside0.mk (fun W (h : DrAt W b d A l.length c) => some_calls b d A l.length c W h)
  have HD := Aside0.mk h
  have HR := Aside0.mk hr
  clear h hr
  obtain ⟨f, hf⟩ : ∃ f, floorD d l = f := ⟨_, rfl⟩
  rw [hf]
  unfold floorD at hf
  by_cases c0 : 0 < l.length
  · obtain ⟨m, hm⟩ : ∃ m, l.length = m + 1 := ⟨l.length - 1, by omega⟩
    have e1 : wrap64 ((l.length : Int) - 1) = (m : Int) := by rw [wrap64_id (by omega) (by omega)]; omega
    have e1' : IntKind.i64.wrap ((l.length : Int) - 1) = (m : Int) := (i64_w _).trans e1
    have e2 : (l.length : Int) - 1 = (m : Int) := by omega
    have e3 : decide ((0 : Int) < (l.length : Int)) = true := decide_eq_true (by omega)
    have e3' : decide (0 < l.length) = true := decide_eq_true c0
    have e4 : m < l.length := by omega
    obtain ⟨ad, ee, r0, r1⟩ := at_T70 HR.out (m : Int) (by omega) (by omega)
    subst ee
    have hla : lastS l = l.getD m z70 := by unfold lastS; rw [hm]; rfl
    rw [rd70_nat, Int.toNat_natCast, ← hla] at r0 r1
    have hsv : FS.In (lastS l).f1 := by
      have : lastS l ∈ l := by rw [hla, List.getD_eq_getElem?_getD, List.getElem?_eq_getElem e4]; exact List.getElem_mem e4
      exact (hs _ this).2
    obtain ⟨S, hS⟩ : ∃ S, lastS l = S := ⟨_, rfl⟩
    rw [hS] at hf r0 r1 hsv
    clear hla hS
    obtain ⟨T, V⟩ := S
    dsimp only at hf r0 r1 hsv
    obtain ⟨y, hy⟩ : ∃ y, d.now - d.p.stale = y := ⟨_, rfl⟩
    have ey : IntKind.i64.wrap (d.now - d.p.stale) = y := by
      obtain ⟨_, _, _, _, ⟨s1, s2⟩, _⟩ := hp
      rw [i64_w, wrap64_id (by omega) (by omega)]; exact hy
    rw [hy] at hf
    by_cases c1 : y < T
    · rw [if_pos ⟨c0, c1⟩] at hf
      have e5 : decide (y < T) = true := decide_eq_true c1
      have KF := Aside0.mk (fun W => pfloor_calls d.p V hsv hper W)
      rw [hf] at KF
      obtain ⟨⟨mn, mx, per, stale, step, ahead, cool, season⟩, now, plan, ⟨pt, pr, pf, pp, pc⟩, changed⟩ := d
      dsimp only [okP] at d0 d1 d2 d3 d4 d5 d6 d7 d8 d11 d12 hp hper hn0 hn1 ey hy
      dsimp only [polV] at KF
      clear KS hp hper hn0 hn1 hf hy c0 c1 hsv hm
      go_enter Try.func118, Try.ntmps118
      go_wp2
      go_quiet (fail)
      go_wp2
      refine wp_region_mid 13 (by kernel_rfl) (by kernel_rfl) rfl ?_
      simp only [List.take_succ_cons, List.take_zero, List.drop_succ_cons, List.drop_zero]
      repeat (go_big_quiet_step (fail))
      refine wpQuiet_nil ?_
      rintro W1 ⟨nq, hnq⟩ K1 hK
      have HB0 : Aside0 (Below w.heap.size w W1) := ⟨hnq ▸ pw_below_drewN (pw_below_drewN (Below.refl _ _) _) _⟩
      clear hnq nq
      refine goes_ Try.func53 (by kernel_rfl) rfl #[.agg #[.int .i64 mn, .int .i64 mx, .int .i64 per, .int .i64 stale, .int .i64 step, .int .i64 ahead, .int .i64 cool, .int .i64 season], .int .i64 V] (by rfl) rfl rfl (by simp [Act.eval]) ?_
      refine (KF.out _).mono ?_
      rintro e w2 ⟨rfl, hb2⟩
      refine ⟨_, rfl, hK _ _ ?_⟩
      have HB2 := Aside0.mk (HB0.out.trans (hb2.mono HB0.out.size))
      clear hK K1 hb2
      simp only [Act.put, List.setIfInBounds_toArray, List.set_cons_zero, List.set_cons_succ]
      repeat (go_big_quiet_step (fail))
      refine wpQuiet_nil ?_
      rintro w3 ⟨n3, rfl⟩
      go_wp2
      go_ret
      exact ⟨rfl, pw_below_drewN HB2.out _⟩
    · have e5 : decide (y < T) = false := decide_eq_false c1
      have cf : ¬ (0 < l.length ∧ y < T) := fun h => c1 h.2
      by_cases g : d.some
      · rw [if_neg cf, if_pos g] at hf
        have KS1 : Aside0 (∀ W, DrAt W b d (some ad) l.length c → Calls Try.prog 121 #[.pointer (some ⟨b, 0, none⟩)] W fun e w' => e = .returned (.bool true) ∧ Drawn0 W w') := ⟨fun W h => by
          have := KS.out W h
          rwa [decide_eq_true g] at this⟩
        obtain ⟨⟨mn, mx, per, stale, step, ahead, cool, season⟩, now, plan, ⟨pt, pr, pf, pp, pc⟩, changed⟩ := d
        dsimp only [okP] at d0 d1 d2 d3 d4 d5 d6 d7 d8 d11 d12 hp hper hn0 hn1 ey hy
        dsimp only at hf
        subst hf
        clear hy c0 c1 cf hsv hm g KS hp hper hn0 hn1
        go_enter Try.func118, Try.ntmps118
        go_wp2
        go_quiet (fail)
        go_wp2_with (go_at_call 121; (with_reducible refine (KS1.out _ (HD.out.below (pw_below_drewN (Below.refl _ _) _))).mono ?_); rintro e w' ⟨rfl, ⟨nd, rfl⟩⟩)
        go_ret
        first | exact ⟨rfl, pw_below_drewN (Below.refl _ _) _⟩ | exact ⟨rfl, pw_below_drewN (pw_below_drewN (Below.refl _ _) _) _⟩ | exact ⟨rfl, pw_below_drewN (pw_below_drewN (below_drew1 (Below.refl _ _)) _) _⟩
      · rw [if_neg cf, if_neg g] at hf
        have KS1 : Aside0 (∀ W, DrAt W b d (some ad) l.length c → Calls Try.prog 121 #[.pointer (some ⟨b, 0, none⟩)] W fun e w' => e = .returned (.bool false) ∧ Drawn0 W w') := ⟨fun W h => by
          have := KS.out W h
          rwa [decide_eq_false g] at this⟩
        obtain ⟨⟨mn, mx, per, stale, step, ahead, cool, season⟩, now, plan, ⟨pt, pr, pf, pp, pc⟩, changed⟩ := d
        dsimp only [okP] at d0 d1 d2 d3 d4 d5 d6 d7 d8 d11 d12 hp hper hn0 hn1 ey hy
        dsimp only at hf
        subst hf
        clear hy c0 c1 cf hsv hm g KS hp hper hn0 hn1
        go_enter Try.func118, Try.ntmps118
        go_wp2
        go_quiet (fail)
        go_wp2_with (go_at_call 121; (with_reducible refine (KS1.out _ (HD.out.below (pw_below_drewN (Below.refl _ _) _))).mono ?_); rintro e w' ⟨rfl, ⟨nd, rfl⟩⟩)
        go_ret
        first | exact ⟨rfl, pw_below_drewN (Below.refl _ _) _⟩ | exact ⟨rfl, pw_below_drewN (pw_below_drewN (Below.refl _ _) _) _⟩ | exact ⟨rfl, pw_below_drewN (pw_below_drewN (below_drew1 (Below.refl _ _)) _) _⟩
  · have e3 : decide ((0 : Int) < (l.length : Int)) = false := decide_eq_false (by omega)
    have e3' : decide (0 < l.length) = false := decide_eq_false c0
    have cf : ¬ (0 < l.length ∧ d.now - d.p.stale < (lastS l).f0) := fun h => c0 h.1
    have e4 : l.length = 0 := by omega
    by_cases g : d.some
    · rw [if_neg cf, if_pos g] at hf
      have KS1 : Aside0 (∀ W, DrAt W b d A l.length c → Calls Try.prog 121 #[.pointer (some ⟨b, 0, none⟩)] W fun e w' => e = .returned (.bool true) ∧ Drawn0 W w') := ⟨fun W h => by
        have := KS.out W h
        rwa [decide_eq_true g] at this⟩
      obtain ⟨⟨mn, mx, per, stale, step, ahead, cool, season⟩, now, plan, ⟨pt, pr, pf, pp, pc⟩, changed⟩ := d
      dsimp only [okP] at d0 d1 d2 d3 d4 d5 d6 d7 d8 d11 d12 hp hper hn0 hn1
      dsimp only at hf
      subst hf
      clear cf c0 g KS hp hper hn0 hn1
      go_enter Try.func118, Try.ntmps118
      go_wp2
      go_quiet (fail)
      go_wp2_with (go_at_call 121; (with_reducible refine (KS1.out _ (HD.out.below (pw_below_drewN (Below.refl _ _) _))).mono ?_); rintro e w' ⟨rfl, ⟨nd, rfl⟩⟩)
      go_ret
      first | exact ⟨rfl, pw_below_drewN (Below.refl _ _) _⟩ | exact ⟨rfl, pw_below_drewN (pw_below_drewN (Below.refl _ _) _) _⟩ | exact ⟨rfl, pw_below_drewN (pw_below_drewN (below_drew1 (Below.refl _ _)) _) _⟩
    · rw [if_neg cf, if_neg g] at hf
      have KS1 : Aside0 (∀ W, DrAt W b d A l.length c → Calls Try.prog 121 #[.pointer (some ⟨b, 0, none⟩)] W fun e w' => e = .returned (.bool false) ∧ Drawn0 W w') := ⟨fun W h => by
        have := KS.out W h
        rwa [decide_eq_false g] at this⟩
      obtain ⟨⟨mn, mx, per, stale, step, ahead, cool, season⟩, now, plan, ⟨pt, pr, pf, pp, pc⟩, changed⟩ := d
      dsimp only [okP] at d0 d1 d2 d3 d4 d5 d6 d7 d8 d11 d12 hp hper hn0 hn1
      dsimp only at hf
      subst hf
      clear cf c0 g KS hp hper hn0 hn1
      go_enter Try.func118, Try.ntmps118
      go_wp2
      go_quiet (fail)
      go_wp2_with (go_at_call 121; (with_reducible refine (KS1.out _ (HD.out.below (pw_below_drewN (Below.refl _ _) _))).mono ?_); rintro e w' ⟨rfl, ⟨nd, rfl⟩⟩)
      go_ret
      first | exact ⟨rfl, pw_below_drewN (Below.refl _ _) _⟩ | exact ⟨rfl, pw_below_drewN (pw_below_drewN (Below.refl _ _) _) _⟩ | exact ⟨rfl, pw_below_drewN (pw_below_drewN (below_drew1 (Below.refl _ _)) _) _⟩
end Go.Proofs.Ytemnfnbjapobcaa.Ho
end
section
namespace Go.Proofs.Ytemnfnbjapobcaa.Ho
open Go.RowKit Go.Proofs.YtemnfnbjapobcaaW.PrintWords Go.Proofs.YtemnfnbjapobcaaW.PrintLast Go.Proofs.YtemnfnbjapobcaaW.PrintMore
open Go.Proofs.Ytemnfnbjapobcaa.FS Go.Proofs.Ytemnfnbjapobcaa.HS Go.Proofs.Ytemnfnbjapobcaa.FM Go.Proofs.Ytemnfnbjapobcaa.PS Go.Proofs.Ytemnfnbjapobcaa.Pr
set_option linter.unusedVariables false
set_option linter.unusedSimpArgs false
theorem castBy_in' {l : List Int} (hin : AllIn l) (s : Int) (o : Option Mo) (ahead : Int) : FS.In (castBy l s o ahead).1 := by
  have z : FS.In 0 := ⟨by decide, by decide⟩
  cases o with
  | none =>
    show FS.In (naiveS l s ahead).1
    unfold naiveS
    split
    · exact z
    · exact allIn_getD hin _
  | some m =>
    show FS.In (castOf (startS l m) ahead).1
    unfold castOf
    split
    · exact z
    · exact in_addS _ _
theorem pointsC (A : Option Addr) (c : Nat) (l : List S70) (from_ step n : Int) (w : World) (hr : Kd.C k70 w A l.length l) (hc : l.length ≤ c) (hl : l.length ≤ 1152921504606846976) :
    Calls Try.prog 139 #[.slice A l.length c, .int .i64 from_, .int .i64 step, .int .i64 n] w fun e w' => ∃ (B : Option Addr) (cB : Nat), e = .returned (.tuple #[.slice B (pointsS l from_ step n).1.length cB, .int .i64 (pointsS l from_ step n).2]) ∧ (pointsS l from_ step n).1.length ≤ cB ∧ Kd.C (Kd.int .i64) w' B (pointsS l from_ step n).1.length (pointsS l from_ step n).1 ∧ Below w.heap.size w w' := by
  refine (points_calls A c l from_ step n w hr hc hl).mono ?_
  rintro e w' ⟨v0, rfl, hR, hb⟩
  obtain ⟨B, cB, rfl, h1, h2⟩ := Kd.R_reads hR
  exact ⟨B, cB, rfl, h1, h2, hb⟩
theorem peakAt_in {l : List Int} (hin : AllIn l) (s : Int) (o : Option Mo) : ∀ n, FS.In (peakAt l s o n)
  | 0 => by
    show FS.In (-9223372036854775808)
    exact ⟨by decide, by decide⟩
  | n + 1 => by
    obtain ⟨a1, a2⟩ := peakAt_in hin s o n
    obtain ⟨b1, b2⟩ := castBy_in' hin s o ((n : Int) + 1)
    show FS.In (max (peakAt l s o n) (castBy l s o ((n : Int) + 1)).1)
    exact ⟨Int.le_trans a1 (Int.le_max_left _ _), Int.max_le.mpr ⟨a2, b2⟩⟩
theorem peak_in {l : List Int} (hin : AllIn l) (s a : Int) : FS.In (peakS l s a).1 := by
  unfold peakS
  split
  · exact ⟨by decide, by decide⟩
  · exact peakAt_in hin s _ _
theorem far_ok {N step : Int} (h1 : 1 ≤ N) (h2 : 1 ≤ step) (h3 : ¬ 4503599627370496 / N < step) : 0 ≤ N * step ∧ N * step ≤ 4503599627370496 := by
  refine ⟨Int.mul_nonneg (by omega) (by omega), ?_⟩
  have e1 : N * step ≤ N * (4503599627370496 / N) := Int.mul_le_mul_of_nonneg_left (by omega) (by omega)
  exact Int.le_trans e1 (Int.mul_ediv_self_le (by omega))
set_option maxRecDepth 100000 in
set_option maxHeartbeats 8000000 in
theorem dcast_calls (HS : Aside0 SeasonMiss) (HC : Aside0 SeasonCast) (b : Nat) (d : Dr) (A : Option Addr) (c : Nat) (l : List S70) (w : World) (h : DrAt w b d A l.length c) (hr : Kd.C k70 w A l.length l) (hc : l.length ≤ c) (hs : sIn l) (hp : okP d.p) (hper : FS.In d.p.per) (hn0 : -4503599627370496 ≤ d.now) (hn1 : d.now ≤ 4503599627370496) (hl : l.length ≤ 1152921504606846976) :
    Calls Try.prog 119 #[.pointer (some ⟨b, 0, none⟩)] w fun e w' => e = .returned (.int .i64 (castD d l)) ∧ Below w.heap.size w w' := by
  obtain ⟨f, hf⟩ : ∃ f, castD d l = f := ⟨_, rfl⟩
  rw [hf]
  have HD := Aside0.mk h
  have HR := Aside0.mk hr
  clear h hr
  obtain ⟨⟨mn, mx, per, stale, step, ahead, cool, season⟩, now, plan, prev, changed⟩ := d
  unfold castD peakD ptsD gpsD at hf
  dsimp only [okP] at hf hp hper hn0 hn1
  have hp' := hp
  obtain ⟨_, _, _, _, _, ⟨s1, s2⟩, _, a1, a2, e1, e2⟩ := hp'
  obtain ⟨N, hN⟩ : ∃ N, 4 * season = N := ⟨_, rfl⟩
  have n1 : 4 ≤ N ∧ N ≤ 2000 := by omega
  have eN : wrap64 (4 * season) = N := by rw [hN]; exact wrap64_id (by omega) (by omega)
  have eN' : IntKind.i64.wrap (4 * season) = N := (i64_w _).trans eN
  rw [hN] at hf
  obtain ⟨Q, hQ⟩ : ∃ Q, 4503599627370496 / N = Q := ⟨_, rfl⟩
  have q0 : 0 ≤ Q ∧ Q ≤ 4503599627370496 := by rw [← hQ]; exact ⟨Int.ediv_nonneg (by omega) (by omega), Int.ediv_le_self _ (by omega)⟩
  have eQ : Int.tdiv 4503599627370496 N = Q := by rw [Int.tdiv_eq_ediv_of_nonneg (by omega)]; exact hQ
  have eQ' : IntKind.i64.wrap Q = Q := by rw [i64_w]; exact wrap64_id (by omega) (by omega)
  have zN : ¬ N = 0 := by omega
  have zN' : (N = 0) = False := eq_false zN
  have zN2 : (N == 0) = false := by simp [zN]
  have G : Aside0 (okP ⟨mn, mx, per, stale, step, ahead, cool, season⟩) := ⟨hp⟩
  by_cases h1 : Q < step
  · rw [hQ, if_pos h1] at hf
    subst hf
    have c1 : decide (Q < step) = true := decide_eq_true h1
    have d0 := (HD.out).at 0 (.int .i64 mn) rfl
    have d1 := (HD.out).at 1 (.int .i64 mx) rfl
    have d2 := (HD.out).at 2 (.int .i64 per) rfl
    have d3 := (HD.out).at 3 (.int .i64 stale) rfl
    have d4 := (HD.out).at 4 (.int .i64 step) rfl
    have d5 := (HD.out).at 5 (.int .i64 ahead) rfl
    have d6 := (HD.out).at 6 (.int .i64 cool) rfl
    have d7 := (HD.out).at 7 (.int .i64 season) rfl
    have d8 := (HD.out).at 8 (.int .i64 now) rfl
    have d9 := (HD.out).at 9 (.slice A l.length c) rfl
    clear hp hper hn0 hn1 s1 s2 a1 a2 e1 e2 hN n1 q0 hQ h1 zN
    go_enter Try.func119, Try.ntmps119
    go_wp2
    go_quiet (fail)
    go_wp2
    go_ret
    exact ⟨rfl, pw_below_drewN (Below.refl _ _) _⟩
  have c1 : decide (Q < step) = false := decide_eq_false h1
  obtain ⟨p0, p1⟩ := far_ok (N := N) (step := step) (by omega) s1 (by rw [hQ]; exact h1)
  obtain ⟨P, hP⟩ : ∃ P, N * step = P := ⟨_, rfl⟩
  rw [hP] at p0 p1 hf
  have eP : IntKind.i64.wrap (N * step) = P := by rw [i64_w, hP]; exact wrap64_id (by omega) (by omega)
  obtain ⟨M, hM⟩ : ∃ M, now + 1 = M := ⟨_, rfl⟩
  have eM : IntKind.i64.wrap (now + 1) = M := by rw [i64_w, hM]; exact wrap64_id (by omega) (by omega)
  rw [hM] at hf
  obtain ⟨F, hF⟩ : ∃ F, M - P = F := ⟨_, rfl⟩
  have eF : IntKind.i64.wrap (M - P) = F := by rw [i64_w, hF]; exact wrap64_id (by omega) (by omega)
  rw [hF, hQ, if_neg h1] at hf
  have KP := Aside0.mk (fun W (h : Kd.C k70 W A l.length l) => pointsC A c l F step N W h hc hl)
  have KG := Aside0.mk (fun W (h : Kd.C k70 W A l.length l) => gaps_calls A c l F step N W h hc hl)
  have hpi := points_in hs F step N
  have hpl := points_len l F step N (by omega)
  obtain ⟨ps, hps⟩ : ∃ ps, (pointsS l F step N).1 = ps := ⟨_, rfl⟩
  obtain ⟨pe, hpe⟩ : ∃ pe, (pointsS l F step N).2 = pe := ⟨_, rfl⟩
  obtain ⟨gs, hgs⟩ : ∃ gs, (gapsS l F step N).1 = gs := ⟨_, rfl⟩
  obtain ⟨ge, hge⟩ : ∃ ge, (gapsS l F step N).2 = ge := ⟨_, rfl⟩
  rw [hps, hpe] at KP
  rw [hgs, hge] at KG
  rw [hps] at hpi hpl
  rw [hps, hpe, hgs, hge] at hf
  have KK := Aside0.mk (fun W (B : Option Addr) (cB : Nat) (h : Kd.C (Kd.int .i64) W B ps.length ps) (hcB : ps.length ≤ cB) => choPeak_calls HS HC B cB ps season ahead W h hcB hpi ⟨by omega, by omega⟩ ⟨by omega, by omega⟩ (by omega))
  obtain ⟨kv, hkv⟩ : ∃ kv, (peakS ps season ahead).1 = kv := ⟨_, rfl⟩
  obtain ⟨ke, hke⟩ : ∃ ke, (peakS ps season ahead).2 = ke := ⟨_, rfl⟩
  have hkin : FS.In kv := by
    rw [← hkv]
    exact peak_in hpi season ahead
  rw [hkv, hke] at KK hf
  have KF := Aside0.mk (fun W => pfloor_calls ⟨mn, mx, per, stale, step, ahead, cool, season⟩ kv hkin hper W)
  dsimp only [polV] at KF
  obtain ⟨H, hH⟩ : ∃ H, N / 2 = H := ⟨_, rfl⟩
  have eH : Int.tdiv N 2 = H := by rw [Int.tdiv_eq_ediv_of_nonneg (by omega)]; exact hH
  have eH' : wrap64 H = H := wrap64_id (by omega) (by omega)
  rw [hH] at hf
  clear hps hpe hgs hge hkv hke hkin hpi hpl hp hper hn0 hn1 s1 s2 a1 a2 e1 e2 hN n1 q0 hQ zN p0 p1 hP hM hF hH h1 hs hl
  by_cases h2 : pe ≠ 0
  · rw [if_pos h2] at hf
    subst hf
    have c2 : (pe != 0) = true := by simp [h2]
    have c2' : (pe = 0) = False := eq_false h2
    clear h2
    have d0 := (HD.out).at 0 (.int .i64 mn) rfl
    have d1 := (HD.out).at 1 (.int .i64 mx) rfl
    have d2 := (HD.out).at 2 (.int .i64 per) rfl
    have d3 := (HD.out).at 3 (.int .i64 stale) rfl
    have d4 := (HD.out).at 4 (.int .i64 step) rfl
    have d5 := (HD.out).at 5 (.int .i64 ahead) rfl
    have d6 := (HD.out).at 6 (.int .i64 cool) rfl
    have d7 := (HD.out).at 7 (.int .i64 season) rfl
    have d8 := (HD.out).at 8 (.int .i64 now) rfl
    have d9 := (HD.out).at 9 (.slice A l.length c) rfl
    go_enter Try.func119, Try.ntmps119
    go_wp2
    go_quiet (fail)
    go_wp2
    go_quiet (fail)
    go_wp2
    refine wp_region_mid 11 (by kernel_rfl) (by kernel_rfl) rfl ?_
    simp only [List.take_succ_cons, List.take_zero, List.drop_succ_cons, List.drop_zero]
    repeat (go_big_quiet_step (fail))
    refine wpQuiet_nil ?_
    rintro W1 ⟨nq, hnq⟩ K1 hK
    have HA1 : Aside0 (Below w.heap.size w W1) := ⟨by subst hnq; repeat (first | exact Below.refl _ _ | apply pw_below_drewN)⟩
    clear hnq nq
    refine goes_ Try.func139 (by kernel_rfl) rfl #[.slice A l.length c, .int .i64 F, .int .i64 step, .int .i64 N] (by rfl) rfl rfl (by simp [Act.eval]) ?_
    refine (KP.out _ (Kd.C_below HR.out HA1.out)).mono ?_
    rintro e w1 ⟨B, cB, rfl, hcB, hC, hb2⟩
    refine ⟨_, rfl, hK _ _ ?_⟩
    have HB1 : Aside0 (Below w.heap.size w w1) := ⟨HA1.out.trans (hb2.mono HA1.out.size)⟩
    have HC1 := Aside0.mk hC
    clear hK K1 hb2 hC d0 d1 d2 d3 d4 d5 d6 d7 d8 d9
    simp only [Act.put, List.setIfInBounds_toArray, List.set_cons_zero, List.set_cons_succ]
    repeat (go_big_quiet_step (fail))
    refine wpQuiet_nil ?_
    rintro v1 ⟨m1, hv1⟩
    have HD1 : Aside0 (DrAt v1 b ⟨⟨mn, mx, per, stale, step, ahead, cool, season⟩, now, plan, prev, changed⟩ A l.length c) := ⟨by subst hv1; exact (HD.out.below HB1.out).below (pw_below_drewN (Below.refl _ _) _)⟩
    have HV1 : Aside0 (Below w.heap.size w v1) := ⟨by subst hv1; exact pw_below_drewN HB1.out _⟩
    have HCv : Aside0 (Kd.C (Kd.int .i64) v1 B ps.length ps) := ⟨by subst hv1; exact Kd.C_below HC1.out (pw_below_drewN (Below.refl _ _) _)⟩
    clear hv1 m1 HC1
    have d0 := (HD1.out).at 0 (.int .i64 mn) rfl
    have d1 := (HD1.out).at 1 (.int .i64 mx) rfl
    have d2 := (HD1.out).at 2 (.int .i64 per) rfl
    have d3 := (HD1.out).at 3 (.int .i64 stale) rfl
    have d4 := (HD1.out).at 4 (.int .i64 step) rfl
    have d5 := (HD1.out).at 5 (.int .i64 ahead) rfl
    have d6 := (HD1.out).at 6 (.int .i64 cool) rfl
    have d7 := (HD1.out).at 7 (.int .i64 season) rfl
    have d8 := (HD1.out).at 8 (.int .i64 now) rfl
    have d9 := (HD1.out).at 9 (.slice A l.length c) rfl
    go_wp2
    go_ret
    exact ⟨rfl, HV1.out⟩
  rw [if_neg h2] at hf
  obtain rfl : pe = 0 := Decidable.not_not.mp h2
  clear h2
  by_cases h3 : ps.length = 0
  · rw [if_pos h3] at hf
    subst hf
    have c3 : ((ps.length : Int) == 0) = true := by simp [h3]
    have c3' : (ps.length = 0) = True := eq_true h3
    clear h3
    have d0 := (HD.out).at 0 (.int .i64 mn) rfl
    have d1 := (HD.out).at 1 (.int .i64 mx) rfl
    have d2 := (HD.out).at 2 (.int .i64 per) rfl
    have d3 := (HD.out).at 3 (.int .i64 stale) rfl
    have d4 := (HD.out).at 4 (.int .i64 step) rfl
    have d5 := (HD.out).at 5 (.int .i64 ahead) rfl
    have d6 := (HD.out).at 6 (.int .i64 cool) rfl
    have d7 := (HD.out).at 7 (.int .i64 season) rfl
    have d8 := (HD.out).at 8 (.int .i64 now) rfl
    have d9 := (HD.out).at 9 (.slice A l.length c) rfl
    go_enter Try.func119, Try.ntmps119
    go_wp2
    go_quiet (fail)
    go_wp2
    go_quiet (fail)
    go_wp2
    refine wp_region_mid 11 (by kernel_rfl) (by kernel_rfl) rfl ?_
    simp only [List.take_succ_cons, List.take_zero, List.drop_succ_cons, List.drop_zero]
    repeat (go_big_quiet_step (fail))
    refine wpQuiet_nil ?_
    rintro W1 ⟨nq, hnq⟩ K1 hK
    have HA1 : Aside0 (Below w.heap.size w W1) := ⟨by subst hnq; repeat (first | exact Below.refl _ _ | apply pw_below_drewN)⟩
    clear hnq nq
    refine goes_ Try.func139 (by kernel_rfl) rfl #[.slice A l.length c, .int .i64 F, .int .i64 step, .int .i64 N] (by rfl) rfl rfl (by simp [Act.eval]) ?_
    refine (KP.out _ (Kd.C_below HR.out HA1.out)).mono ?_
    rintro e w1 ⟨B, cB, rfl, hcB, hC, hb2⟩
    refine ⟨_, rfl, hK _ _ ?_⟩
    have HB1 : Aside0 (Below w.heap.size w w1) := ⟨HA1.out.trans (hb2.mono HA1.out.size)⟩
    have HC1 := Aside0.mk hC
    clear hK K1 hb2 hC d0 d1 d2 d3 d4 d5 d6 d7 d8 d9
    simp only [Act.put, List.setIfInBounds_toArray, List.set_cons_zero, List.set_cons_succ]
    repeat (go_big_quiet_step (fail))
    refine wpQuiet_nil ?_
    rintro v1 ⟨m1, hv1⟩
    have HD1 : Aside0 (DrAt v1 b ⟨⟨mn, mx, per, stale, step, ahead, cool, season⟩, now, plan, prev, changed⟩ A l.length c) := ⟨by subst hv1; exact (HD.out.below HB1.out).below (pw_below_drewN (Below.refl _ _) _)⟩
    have HV1 : Aside0 (Below w.heap.size w v1) := ⟨by subst hv1; exact pw_below_drewN HB1.out _⟩
    have HCv : Aside0 (Kd.C (Kd.int .i64) v1 B ps.length ps) := ⟨by subst hv1; exact Kd.C_below HC1.out (pw_below_drewN (Below.refl _ _) _)⟩
    clear hv1 m1 HC1
    have d0 := (HD1.out).at 0 (.int .i64 mn) rfl
    have d1 := (HD1.out).at 1 (.int .i64 mx) rfl
    have d2 := (HD1.out).at 2 (.int .i64 per) rfl
    have d3 := (HD1.out).at 3 (.int .i64 stale) rfl
    have d4 := (HD1.out).at 4 (.int .i64 step) rfl
    have d5 := (HD1.out).at 5 (.int .i64 ahead) rfl
    have d6 := (HD1.out).at 6 (.int .i64 cool) rfl
    have d7 := (HD1.out).at 7 (.int .i64 season) rfl
    have d8 := (HD1.out).at 8 (.int .i64 now) rfl
    have d9 := (HD1.out).at 9 (.slice A l.length c) rfl
    go_wp2
    go_ret
    exact ⟨rfl, HV1.out⟩
  rw [if_neg h3] at hf
  have c3 : ((ps.length : Int) == 0) = false := by simp [h3]
  have c3' : (ps.length = 0) = False := eq_false h3
  clear h3
  by_cases h4 : ge ≠ 0
  · rw [if_pos h4] at hf
    subst hf
    have c4 : (ge != 0) = true := by simp [h4]
    have c4' : (ge = 0) = False := eq_false h4
    clear h4
    have d0 := (HD.out).at 0 (.int .i64 mn) rfl
    have d1 := (HD.out).at 1 (.int .i64 mx) rfl
    have d2 := (HD.out).at 2 (.int .i64 per) rfl
    have d3 := (HD.out).at 3 (.int .i64 stale) rfl
    have d4 := (HD.out).at 4 (.int .i64 step) rfl
    have d5 := (HD.out).at 5 (.int .i64 ahead) rfl
    have d6 := (HD.out).at 6 (.int .i64 cool) rfl
    have d7 := (HD.out).at 7 (.int .i64 season) rfl
    have d8 := (HD.out).at 8 (.int .i64 now) rfl
    have d9 := (HD.out).at 9 (.slice A l.length c) rfl
    go_enter Try.func119, Try.ntmps119
    go_wp2
    go_quiet (fail)
    go_wp2
    go_quiet (fail)
    go_wp2
    refine wp_region_mid 11 (by kernel_rfl) (by kernel_rfl) rfl ?_
    simp only [List.take_succ_cons, List.take_zero, List.drop_succ_cons, List.drop_zero]
    repeat (go_big_quiet_step (fail))
    refine wpQuiet_nil ?_
    rintro W1 ⟨nq, hnq⟩ K1 hK
    have HA1 : Aside0 (Below w.heap.size w W1) := ⟨by subst hnq; repeat (first | exact Below.refl _ _ | apply pw_below_drewN)⟩
    clear hnq nq
    refine goes_ Try.func139 (by kernel_rfl) rfl #[.slice A l.length c, .int .i64 F, .int .i64 step, .int .i64 N] (by rfl) rfl rfl (by simp [Act.eval]) ?_
    refine (KP.out _ (Kd.C_below HR.out HA1.out)).mono ?_
    rintro e w1 ⟨B, cB, rfl, hcB, hC, hb2⟩
    refine ⟨_, rfl, hK _ _ ?_⟩
    have HB1 : Aside0 (Below w.heap.size w w1) := ⟨HA1.out.trans (hb2.mono HA1.out.size)⟩
    have HC1 := Aside0.mk hC
    clear hK K1 hb2 hC d0 d1 d2 d3 d4 d5 d6 d7 d8 d9
    simp only [Act.put, List.setIfInBounds_toArray, List.set_cons_zero, List.set_cons_succ]
    repeat (go_big_quiet_step (fail))
    refine wpQuiet_nil ?_
    rintro v1 ⟨m1, hv1⟩
    have HD1 : Aside0 (DrAt v1 b ⟨⟨mn, mx, per, stale, step, ahead, cool, season⟩, now, plan, prev, changed⟩ A l.length c) := ⟨by subst hv1; exact (HD.out.below HB1.out).below (pw_below_drewN (Below.refl _ _) _)⟩
    have HV1 : Aside0 (Below w.heap.size w v1) := ⟨by subst hv1; exact pw_below_drewN HB1.out _⟩
    have HCv : Aside0 (Kd.C (Kd.int .i64) v1 B ps.length ps) := ⟨by subst hv1; exact Kd.C_below HC1.out (pw_below_drewN (Below.refl _ _) _)⟩
    clear hv1 m1 HC1
    have d0 := (HD1.out).at 0 (.int .i64 mn) rfl
    have d1 := (HD1.out).at 1 (.int .i64 mx) rfl
    have d2 := (HD1.out).at 2 (.int .i64 per) rfl
    have d3 := (HD1.out).at 3 (.int .i64 stale) rfl
    have d4 := (HD1.out).at 4 (.int .i64 step) rfl
    have d5 := (HD1.out).at 5 (.int .i64 ahead) rfl
    have d6 := (HD1.out).at 6 (.int .i64 cool) rfl
    have d7 := (HD1.out).at 7 (.int .i64 season) rfl
    have d8 := (HD1.out).at 8 (.int .i64 now) rfl
    have d9 := (HD1.out).at 9 (.slice A l.length c) rfl
    go_wp2
    refine wp_region_mid 11 (by kernel_rfl) (by kernel_rfl) rfl ?_
    simp only [List.take_succ_cons, List.take_zero, List.drop_succ_cons, List.drop_zero]
    repeat (go_big_quiet_step (fail))
    refine wpQuiet_nil ?_
    rintro W2 ⟨nq, hnq⟩ K1 hK
    have HE2 : Aside0 (Below v1.heap.size v1 W2) := ⟨by subst hnq; exact pw_below_drewN (Below.refl _ _) _⟩
    have HA2 : Aside0 (Below w.heap.size w W2) := ⟨by subst hnq; repeat (first | exact Below.refl _ _ | exact HV1.out | apply pw_below_drewN)⟩
    clear hnq nq
    refine goes_ Try.func140 (by kernel_rfl) rfl #[.slice A l.length c, .int .i64 F, .int .i64 step, .int .i64 N] (by rfl) rfl rfl (by simp [Act.eval]) ?_
    refine (KG.out _ (Kd.C_below HR.out HA2.out)).mono ?_
    rintro e w2 ⟨rfl, hb2⟩
    refine ⟨_, rfl, hK _ _ ?_⟩
    have HB2 : Aside0 (Below w.heap.size w w2) := ⟨HA2.out.trans (hb2.mono HA2.out.size)⟩
    have HC2 : Aside0 (Kd.C (Kd.int .i64) w2 B ps.length ps) := ⟨Kd.C_below (Kd.C_below HCv.out HE2.out) hb2⟩
    clear hK K1 hb2 HCv HE2 d0 d1 d2 d3 d4 d5 d6 d7 d8 d9
    simp only [Act.put, List.setIfInBounds_toArray, List.set_cons_zero, List.set_cons_succ]
    repeat (go_big_quiet_step (fail))
    refine wpQuiet_nil ?_
    rintro v2 ⟨m2, hv2⟩
    have HD2 : Aside0 (DrAt v2 b ⟨⟨mn, mx, per, stale, step, ahead, cool, season⟩, now, plan, prev, changed⟩ A l.length c) := ⟨by subst hv2; exact (HD.out.below HB2.out).below (pw_below_drewN (Below.refl _ _) _)⟩
    have HV2 : Aside0 (Below w.heap.size w v2) := ⟨by subst hv2; exact pw_below_drewN HB2.out _⟩
    have HCv : Aside0 (Kd.C (Kd.int .i64) v2 B ps.length ps) := ⟨by subst hv2; exact Kd.C_below HC2.out (pw_below_drewN (Below.refl _ _) _)⟩
    clear hv2 m2 HC2
    have d0 := (HD2.out).at 0 (.int .i64 mn) rfl
    have d1 := (HD2.out).at 1 (.int .i64 mx) rfl
    have d2 := (HD2.out).at 2 (.int .i64 per) rfl
    have d3 := (HD2.out).at 3 (.int .i64 stale) rfl
    have d4 := (HD2.out).at 4 (.int .i64 step) rfl
    have d5 := (HD2.out).at 5 (.int .i64 ahead) rfl
    have d6 := (HD2.out).at 6 (.int .i64 cool) rfl
    have d7 := (HD2.out).at 7 (.int .i64 season) rfl
    have d8 := (HD2.out).at 8 (.int .i64 now) rfl
    have d9 := (HD2.out).at 9 (.slice A l.length c) rfl
    go_wp2
    go_ret
    exact ⟨rfl, HV2.out⟩
  rw [if_neg h4] at hf
  obtain rfl : ge = 0 := Decidable.not_not.mp h4
  clear h4
  by_cases h5 : H < gs
  · rw [if_pos h5] at hf
    subst hf
    have c5 : decide (H < gs) = true := decide_eq_true h5
    clear h5
    have d0 := (HD.out).at 0 (.int .i64 mn) rfl
    have d1 := (HD.out).at 1 (.int .i64 mx) rfl
    have d2 := (HD.out).at 2 (.int .i64 per) rfl
    have d3 := (HD.out).at 3 (.int .i64 stale) rfl
    have d4 := (HD.out).at 4 (.int .i64 step) rfl
    have d5 := (HD.out).at 5 (.int .i64 ahead) rfl
    have d6 := (HD.out).at 6 (.int .i64 cool) rfl
    have d7 := (HD.out).at 7 (.int .i64 season) rfl
    have d8 := (HD.out).at 8 (.int .i64 now) rfl
    have d9 := (HD.out).at 9 (.slice A l.length c) rfl
    go_enter Try.func119, Try.ntmps119
    go_wp2
    go_quiet (fail)
    go_wp2
    go_quiet (fail)
    go_wp2
    refine wp_region_mid 11 (by kernel_rfl) (by kernel_rfl) rfl ?_
    simp only [List.take_succ_cons, List.take_zero, List.drop_succ_cons, List.drop_zero]
    repeat (go_big_quiet_step (fail))
    refine wpQuiet_nil ?_
    rintro W1 ⟨nq, hnq⟩ K1 hK
    have HA1 : Aside0 (Below w.heap.size w W1) := ⟨by subst hnq; repeat (first | exact Below.refl _ _ | apply pw_below_drewN)⟩
    clear hnq nq
    refine goes_ Try.func139 (by kernel_rfl) rfl #[.slice A l.length c, .int .i64 F, .int .i64 step, .int .i64 N] (by rfl) rfl rfl (by simp [Act.eval]) ?_
    refine (KP.out _ (Kd.C_below HR.out HA1.out)).mono ?_
    rintro e w1 ⟨B, cB, rfl, hcB, hC, hb2⟩
    refine ⟨_, rfl, hK _ _ ?_⟩
    have HB1 : Aside0 (Below w.heap.size w w1) := ⟨HA1.out.trans (hb2.mono HA1.out.size)⟩
    have HC1 := Aside0.mk hC
    clear hK K1 hb2 hC d0 d1 d2 d3 d4 d5 d6 d7 d8 d9
    simp only [Act.put, List.setIfInBounds_toArray, List.set_cons_zero, List.set_cons_succ]
    repeat (go_big_quiet_step (fail))
    refine wpQuiet_nil ?_
    rintro v1 ⟨m1, hv1⟩
    have HD1 : Aside0 (DrAt v1 b ⟨⟨mn, mx, per, stale, step, ahead, cool, season⟩, now, plan, prev, changed⟩ A l.length c) := ⟨by subst hv1; exact (HD.out.below HB1.out).below (pw_below_drewN (Below.refl _ _) _)⟩
    have HV1 : Aside0 (Below w.heap.size w v1) := ⟨by subst hv1; exact pw_below_drewN HB1.out _⟩
    have HCv : Aside0 (Kd.C (Kd.int .i64) v1 B ps.length ps) := ⟨by subst hv1; exact Kd.C_below HC1.out (pw_below_drewN (Below.refl _ _) _)⟩
    clear hv1 m1 HC1
    have d0 := (HD1.out).at 0 (.int .i64 mn) rfl
    have d1 := (HD1.out).at 1 (.int .i64 mx) rfl
    have d2 := (HD1.out).at 2 (.int .i64 per) rfl
    have d3 := (HD1.out).at 3 (.int .i64 stale) rfl
    have d4 := (HD1.out).at 4 (.int .i64 step) rfl
    have d5 := (HD1.out).at 5 (.int .i64 ahead) rfl
    have d6 := (HD1.out).at 6 (.int .i64 cool) rfl
    have d7 := (HD1.out).at 7 (.int .i64 season) rfl
    have d8 := (HD1.out).at 8 (.int .i64 now) rfl
    have d9 := (HD1.out).at 9 (.slice A l.length c) rfl
    go_wp2
    refine wp_region_mid 11 (by kernel_rfl) (by kernel_rfl) rfl ?_
    simp only [List.take_succ_cons, List.take_zero, List.drop_succ_cons, List.drop_zero]
    repeat (go_big_quiet_step (fail))
    refine wpQuiet_nil ?_
    rintro W2 ⟨nq, hnq⟩ K1 hK
    have HE2 : Aside0 (Below v1.heap.size v1 W2) := ⟨by subst hnq; exact pw_below_drewN (Below.refl _ _) _⟩
    have HA2 : Aside0 (Below w.heap.size w W2) := ⟨by subst hnq; repeat (first | exact Below.refl _ _ | exact HV1.out | apply pw_below_drewN)⟩
    clear hnq nq
    refine goes_ Try.func140 (by kernel_rfl) rfl #[.slice A l.length c, .int .i64 F, .int .i64 step, .int .i64 N] (by rfl) rfl rfl (by simp [Act.eval]) ?_
    refine (KG.out _ (Kd.C_below HR.out HA2.out)).mono ?_
    rintro e w2 ⟨rfl, hb2⟩
    refine ⟨_, rfl, hK _ _ ?_⟩
    have HB2 : Aside0 (Below w.heap.size w w2) := ⟨HA2.out.trans (hb2.mono HA2.out.size)⟩
    have HC2 : Aside0 (Kd.C (Kd.int .i64) w2 B ps.length ps) := ⟨Kd.C_below (Kd.C_below HCv.out HE2.out) hb2⟩
    clear hK K1 hb2 HCv HE2 d0 d1 d2 d3 d4 d5 d6 d7 d8 d9
    simp only [Act.put, List.setIfInBounds_toArray, List.set_cons_zero, List.set_cons_succ]
    repeat (go_big_quiet_step (fail))
    refine wpQuiet_nil ?_
    rintro v2 ⟨m2, hv2⟩
    have HD2 : Aside0 (DrAt v2 b ⟨⟨mn, mx, per, stale, step, ahead, cool, season⟩, now, plan, prev, changed⟩ A l.length c) := ⟨by subst hv2; exact (HD.out.below HB2.out).below (pw_below_drewN (Below.refl _ _) _)⟩
    have HV2 : Aside0 (Below w.heap.size w v2) := ⟨by subst hv2; exact pw_below_drewN HB2.out _⟩
    have HCv : Aside0 (Kd.C (Kd.int .i64) v2 B ps.length ps) := ⟨by subst hv2; exact Kd.C_below HC2.out (pw_below_drewN (Below.refl _ _) _)⟩
    clear hv2 m2 HC2
    have d0 := (HD2.out).at 0 (.int .i64 mn) rfl
    have d1 := (HD2.out).at 1 (.int .i64 mx) rfl
    have d2 := (HD2.out).at 2 (.int .i64 per) rfl
    have d3 := (HD2.out).at 3 (.int .i64 stale) rfl
    have d4 := (HD2.out).at 4 (.int .i64 step) rfl
    have d5 := (HD2.out).at 5 (.int .i64 ahead) rfl
    have d6 := (HD2.out).at 6 (.int .i64 cool) rfl
    have d7 := (HD2.out).at 7 (.int .i64 season) rfl
    have d8 := (HD2.out).at 8 (.int .i64 now) rfl
    have d9 := (HD2.out).at 9 (.slice A l.length c) rfl
    go_wp2
    go_ret
    exact ⟨rfl, HV2.out⟩
  rw [if_neg h5] at hf
  have c5 : decide (H < gs) = false := decide_eq_false h5
  clear h5
  by_cases h6 : ke ≠ 0
  · rw [if_pos h6] at hf
    subst hf
    have c6 : (ke != 0) = true := by simp [h6]
    have c6' : (ke = 0) = False := eq_false h6
    clear h6
    have d0 := (HD.out).at 0 (.int .i64 mn) rfl
    have d1 := (HD.out).at 1 (.int .i64 mx) rfl
    have d2 := (HD.out).at 2 (.int .i64 per) rfl
    have d3 := (HD.out).at 3 (.int .i64 stale) rfl
    have d4 := (HD.out).at 4 (.int .i64 step) rfl
    have d5 := (HD.out).at 5 (.int .i64 ahead) rfl
    have d6 := (HD.out).at 6 (.int .i64 cool) rfl
    have d7 := (HD.out).at 7 (.int .i64 season) rfl
    have d8 := (HD.out).at 8 (.int .i64 now) rfl
    have d9 := (HD.out).at 9 (.slice A l.length c) rfl
    go_enter Try.func119, Try.ntmps119
    go_wp2
    go_quiet (fail)
    go_wp2
    go_quiet (fail)
    go_wp2
    refine wp_region_mid 11 (by kernel_rfl) (by kernel_rfl) rfl ?_
    simp only [List.take_succ_cons, List.take_zero, List.drop_succ_cons, List.drop_zero]
    repeat (go_big_quiet_step (fail))
    refine wpQuiet_nil ?_
    rintro W1 ⟨nq, hnq⟩ K1 hK
    have HA1 : Aside0 (Below w.heap.size w W1) := ⟨by subst hnq; repeat (first | exact Below.refl _ _ | apply pw_below_drewN)⟩
    clear hnq nq
    refine goes_ Try.func139 (by kernel_rfl) rfl #[.slice A l.length c, .int .i64 F, .int .i64 step, .int .i64 N] (by rfl) rfl rfl (by simp [Act.eval]) ?_
    refine (KP.out _ (Kd.C_below HR.out HA1.out)).mono ?_
    rintro e w1 ⟨B, cB, rfl, hcB, hC, hb2⟩
    refine ⟨_, rfl, hK _ _ ?_⟩
    have HB1 : Aside0 (Below w.heap.size w w1) := ⟨HA1.out.trans (hb2.mono HA1.out.size)⟩
    have HC1 := Aside0.mk hC
    clear hK K1 hb2 hC d0 d1 d2 d3 d4 d5 d6 d7 d8 d9
    simp only [Act.put, List.setIfInBounds_toArray, List.set_cons_zero, List.set_cons_succ]
    repeat (go_big_quiet_step (fail))
    refine wpQuiet_nil ?_
    rintro v1 ⟨m1, hv1⟩
    have HD1 : Aside0 (DrAt v1 b ⟨⟨mn, mx, per, stale, step, ahead, cool, season⟩, now, plan, prev, changed⟩ A l.length c) := ⟨by subst hv1; exact (HD.out.below HB1.out).below (pw_below_drewN (Below.refl _ _) _)⟩
    have HV1 : Aside0 (Below w.heap.size w v1) := ⟨by subst hv1; exact pw_below_drewN HB1.out _⟩
    have HCv : Aside0 (Kd.C (Kd.int .i64) v1 B ps.length ps) := ⟨by subst hv1; exact Kd.C_below HC1.out (pw_below_drewN (Below.refl _ _) _)⟩
    clear hv1 m1 HC1
    have d0 := (HD1.out).at 0 (.int .i64 mn) rfl
    have d1 := (HD1.out).at 1 (.int .i64 mx) rfl
    have d2 := (HD1.out).at 2 (.int .i64 per) rfl
    have d3 := (HD1.out).at 3 (.int .i64 stale) rfl
    have d4 := (HD1.out).at 4 (.int .i64 step) rfl
    have d5 := (HD1.out).at 5 (.int .i64 ahead) rfl
    have d6 := (HD1.out).at 6 (.int .i64 cool) rfl
    have d7 := (HD1.out).at 7 (.int .i64 season) rfl
    have d8 := (HD1.out).at 8 (.int .i64 now) rfl
    have d9 := (HD1.out).at 9 (.slice A l.length c) rfl
    go_wp2
    refine wp_region_mid 11 (by kernel_rfl) (by kernel_rfl) rfl ?_
    simp only [List.take_succ_cons, List.take_zero, List.drop_succ_cons, List.drop_zero]
    repeat (go_big_quiet_step (fail))
    refine wpQuiet_nil ?_
    rintro W2 ⟨nq, hnq⟩ K1 hK
    have HE2 : Aside0 (Below v1.heap.size v1 W2) := ⟨by subst hnq; exact pw_below_drewN (Below.refl _ _) _⟩
    have HA2 : Aside0 (Below w.heap.size w W2) := ⟨by subst hnq; repeat (first | exact Below.refl _ _ | exact HV1.out | apply pw_below_drewN)⟩
    clear hnq nq
    refine goes_ Try.func140 (by kernel_rfl) rfl #[.slice A l.length c, .int .i64 F, .int .i64 step, .int .i64 N] (by rfl) rfl rfl (by simp [Act.eval]) ?_
    refine (KG.out _ (Kd.C_below HR.out HA2.out)).mono ?_
    rintro e w2 ⟨rfl, hb2⟩
    refine ⟨_, rfl, hK _ _ ?_⟩
    have HB2 : Aside0 (Below w.heap.size w w2) := ⟨HA2.out.trans (hb2.mono HA2.out.size)⟩
    have HC2 : Aside0 (Kd.C (Kd.int .i64) w2 B ps.length ps) := ⟨Kd.C_below (Kd.C_below HCv.out HE2.out) hb2⟩
    clear hK K1 hb2 HCv HE2 d0 d1 d2 d3 d4 d5 d6 d7 d8 d9
    simp only [Act.put, List.setIfInBounds_toArray, List.set_cons_zero, List.set_cons_succ]
    repeat (go_big_quiet_step (fail))
    refine wpQuiet_nil ?_
    rintro v2 ⟨m2, hv2⟩
    have HD2 : Aside0 (DrAt v2 b ⟨⟨mn, mx, per, stale, step, ahead, cool, season⟩, now, plan, prev, changed⟩ A l.length c) := ⟨by subst hv2; exact (HD.out.below HB2.out).below (pw_below_drewN (Below.refl _ _) _)⟩
    have HV2 : Aside0 (Below w.heap.size w v2) := ⟨by subst hv2; exact pw_below_drewN HB2.out _⟩
    have HCv : Aside0 (Kd.C (Kd.int .i64) v2 B ps.length ps) := ⟨by subst hv2; exact Kd.C_below HC2.out (pw_below_drewN (Below.refl _ _) _)⟩
    clear hv2 m2 HC2
    have d0 := (HD2.out).at 0 (.int .i64 mn) rfl
    have d1 := (HD2.out).at 1 (.int .i64 mx) rfl
    have d2 := (HD2.out).at 2 (.int .i64 per) rfl
    have d3 := (HD2.out).at 3 (.int .i64 stale) rfl
    have d4 := (HD2.out).at 4 (.int .i64 step) rfl
    have d5 := (HD2.out).at 5 (.int .i64 ahead) rfl
    have d6 := (HD2.out).at 6 (.int .i64 cool) rfl
    have d7 := (HD2.out).at 7 (.int .i64 season) rfl
    have d8 := (HD2.out).at 8 (.int .i64 now) rfl
    have d9 := (HD2.out).at 9 (.slice A l.length c) rfl
    go_wp2
    refine wp_region_mid 11 (by kernel_rfl) (by kernel_rfl) rfl ?_
    simp only [List.take_succ_cons, List.take_zero, List.drop_succ_cons, List.drop_zero]
    repeat (go_big_quiet_step (fail))
    refine wpQuiet_nil ?_
    rintro W3 ⟨nq, hnq⟩ K1 hK
    have HE3 : Aside0 (Below v2.heap.size v2 W3) := ⟨by subst hnq; exact pw_below_drewN (Below.refl _ _) _⟩
    have HA3 : Aside0 (Below w.heap.size w W3) := ⟨by subst hnq; repeat (first | exact Below.refl _ _ | exact HV2.out | apply pw_below_drewN)⟩
    clear hnq nq
    refine goes_ Try.func45 (by kernel_rfl) rfl #[.slice B ps.length cB, .int .i64 season, .int .i64 ahead] (by rfl) rfl rfl (by simp [Act.eval]) ?_
    refine (KK.out _ B cB (Kd.C_below HCv.out HE3.out) hcB).mono ?_
    rintro e w3 ⟨rfl, hb2⟩
    refine ⟨_, rfl, hK _ _ ?_⟩
    have HB3 : Aside0 (Below w.heap.size w w3) := ⟨HA3.out.trans (hb2.mono HA3.out.size)⟩
    clear hK K1 hb2 HCv HE3 d0 d1 d2 d3 d4 d5 d6 d7 d8 d9
    simp only [Act.put, List.setIfInBounds_toArray, List.set_cons_zero, List.set_cons_succ]
    repeat (go_big_quiet_step (fail))
    refine wpQuiet_nil ?_
    rintro v3 ⟨m3, hv3⟩
    have HD3 : Aside0 (DrAt v3 b ⟨⟨mn, mx, per, stale, step, ahead, cool, season⟩, now, plan, prev, changed⟩ A l.length c) := ⟨by subst hv3; exact (HD.out.below HB3.out).below (pw_below_drewN (Below.refl _ _) _)⟩
    have HV3 : Aside0 (Below w.heap.size w v3) := ⟨by subst hv3; exact pw_below_drewN HB3.out _⟩
    clear hv3 m3
    have d0 := (HD3.out).at 0 (.int .i64 mn) rfl
    have d1 := (HD3.out).at 1 (.int .i64 mx) rfl
    have d2 := (HD3.out).at 2 (.int .i64 per) rfl
    have d3 := (HD3.out).at 3 (.int .i64 stale) rfl
    have d4 := (HD3.out).at 4 (.int .i64 step) rfl
    have d5 := (HD3.out).at 5 (.int .i64 ahead) rfl
    have d6 := (HD3.out).at 6 (.int .i64 cool) rfl
    have d7 := (HD3.out).at 7 (.int .i64 season) rfl
    have d8 := (HD3.out).at 8 (.int .i64 now) rfl
    have d9 := (HD3.out).at 9 (.slice A l.length c) rfl
    go_wp2
    go_ret
    exact ⟨rfl, HV3.out⟩
  rw [if_neg h6] at hf
  obtain rfl : ke = 0 := Decidable.not_not.mp h6
  clear h6
  subst hf
  have d0 := (HD.out).at 0 (.int .i64 mn) rfl
  have d1 := (HD.out).at 1 (.int .i64 mx) rfl
  have d2 := (HD.out).at 2 (.int .i64 per) rfl
  have d3 := (HD.out).at 3 (.int .i64 stale) rfl
  have d4 := (HD.out).at 4 (.int .i64 step) rfl
  have d5 := (HD.out).at 5 (.int .i64 ahead) rfl
  have d6 := (HD.out).at 6 (.int .i64 cool) rfl
  have d7 := (HD.out).at 7 (.int .i64 season) rfl
  have d8 := (HD.out).at 8 (.int .i64 now) rfl
  have d9 := (HD.out).at 9 (.slice A l.length c) rfl
  go_enter Try.func119, Try.ntmps119
  go_wp2
  go_quiet (fail)
  go_wp2
  go_quiet (fail)
  go_wp2
  refine wp_region_mid 11 (by kernel_rfl) (by kernel_rfl) rfl ?_
  simp only [List.take_succ_cons, List.take_zero, List.drop_succ_cons, List.drop_zero]
  repeat (go_big_quiet_step (fail))
  refine wpQuiet_nil ?_
  rintro W1 ⟨nq, hnq⟩ K1 hK
  have HA1 : Aside0 (Below w.heap.size w W1) := ⟨by subst hnq; repeat (first | exact Below.refl _ _ | apply pw_below_drewN)⟩
  clear hnq nq
  refine goes_ Try.func139 (by kernel_rfl) rfl #[.slice A l.length c, .int .i64 F, .int .i64 step, .int .i64 N] (by rfl) rfl rfl (by simp [Act.eval]) ?_
  refine (KP.out _ (Kd.C_below HR.out HA1.out)).mono ?_
  rintro e w1 ⟨B, cB, rfl, hcB, hC, hb2⟩
  refine ⟨_, rfl, hK _ _ ?_⟩
  have HB1 : Aside0 (Below w.heap.size w w1) := ⟨HA1.out.trans (hb2.mono HA1.out.size)⟩
  have HC1 := Aside0.mk hC
  clear hK K1 hb2 hC d0 d1 d2 d3 d4 d5 d6 d7 d8 d9
  simp only [Act.put, List.setIfInBounds_toArray, List.set_cons_zero, List.set_cons_succ]
  repeat (go_big_quiet_step (fail))
  refine wpQuiet_nil ?_
  rintro v1 ⟨m1, hv1⟩
  have HD1 : Aside0 (DrAt v1 b ⟨⟨mn, mx, per, stale, step, ahead, cool, season⟩, now, plan, prev, changed⟩ A l.length c) := ⟨by subst hv1; exact (HD.out.below HB1.out).below (pw_below_drewN (Below.refl _ _) _)⟩
  have HV1 : Aside0 (Below w.heap.size w v1) := ⟨by subst hv1; exact pw_below_drewN HB1.out _⟩
  have HCv : Aside0 (Kd.C (Kd.int .i64) v1 B ps.length ps) := ⟨by subst hv1; exact Kd.C_below HC1.out (pw_below_drewN (Below.refl _ _) _)⟩
  clear hv1 m1 HC1
  have d0 := (HD1.out).at 0 (.int .i64 mn) rfl
  have d1 := (HD1.out).at 1 (.int .i64 mx) rfl
  have d2 := (HD1.out).at 2 (.int .i64 per) rfl
  have d3 := (HD1.out).at 3 (.int .i64 stale) rfl
  have d4 := (HD1.out).at 4 (.int .i64 step) rfl
  have d5 := (HD1.out).at 5 (.int .i64 ahead) rfl
  have d6 := (HD1.out).at 6 (.int .i64 cool) rfl
  have d7 := (HD1.out).at 7 (.int .i64 season) rfl
  have d8 := (HD1.out).at 8 (.int .i64 now) rfl
  have d9 := (HD1.out).at 9 (.slice A l.length c) rfl
  go_wp2
  refine wp_region_mid 11 (by kernel_rfl) (by kernel_rfl) rfl ?_
  simp only [List.take_succ_cons, List.take_zero, List.drop_succ_cons, List.drop_zero]
  repeat (go_big_quiet_step (fail))
  refine wpQuiet_nil ?_
  rintro W2 ⟨nq, hnq⟩ K1 hK
  have HE2 : Aside0 (Below v1.heap.size v1 W2) := ⟨by subst hnq; exact pw_below_drewN (Below.refl _ _) _⟩
  have HA2 : Aside0 (Below w.heap.size w W2) := ⟨by subst hnq; repeat (first | exact Below.refl _ _ | exact HV1.out | apply pw_below_drewN)⟩
  clear hnq nq
  refine goes_ Try.func140 (by kernel_rfl) rfl #[.slice A l.length c, .int .i64 F, .int .i64 step, .int .i64 N] (by rfl) rfl rfl (by simp [Act.eval]) ?_
  refine (KG.out _ (Kd.C_below HR.out HA2.out)).mono ?_
  rintro e w2 ⟨rfl, hb2⟩
  refine ⟨_, rfl, hK _ _ ?_⟩
  have HB2 : Aside0 (Below w.heap.size w w2) := ⟨HA2.out.trans (hb2.mono HA2.out.size)⟩
  have HC2 : Aside0 (Kd.C (Kd.int .i64) w2 B ps.length ps) := ⟨Kd.C_below (Kd.C_below HCv.out HE2.out) hb2⟩
  clear hK K1 hb2 HCv HE2 d0 d1 d2 d3 d4 d5 d6 d7 d8 d9
  simp only [Act.put, List.setIfInBounds_toArray, List.set_cons_zero, List.set_cons_succ]
  repeat (go_big_quiet_step (fail))
  refine wpQuiet_nil ?_
  rintro v2 ⟨m2, hv2⟩
  have HD2 : Aside0 (DrAt v2 b ⟨⟨mn, mx, per, stale, step, ahead, cool, season⟩, now, plan, prev, changed⟩ A l.length c) := ⟨by subst hv2; exact (HD.out.below HB2.out).below (pw_below_drewN (Below.refl _ _) _)⟩
  have HV2 : Aside0 (Below w.heap.size w v2) := ⟨by subst hv2; exact pw_below_drewN HB2.out _⟩
  have HCv : Aside0 (Kd.C (Kd.int .i64) v2 B ps.length ps) := ⟨by subst hv2; exact Kd.C_below HC2.out (pw_below_drewN (Below.refl _ _) _)⟩
  clear hv2 m2 HC2
  have d0 := (HD2.out).at 0 (.int .i64 mn) rfl
  have d1 := (HD2.out).at 1 (.int .i64 mx) rfl
  have d2 := (HD2.out).at 2 (.int .i64 per) rfl
  have d3 := (HD2.out).at 3 (.int .i64 stale) rfl
  have d4 := (HD2.out).at 4 (.int .i64 step) rfl
  have d5 := (HD2.out).at 5 (.int .i64 ahead) rfl
  have d6 := (HD2.out).at 6 (.int .i64 cool) rfl
  have d7 := (HD2.out).at 7 (.int .i64 season) rfl
  have d8 := (HD2.out).at 8 (.int .i64 now) rfl
  have d9 := (HD2.out).at 9 (.slice A l.length c) rfl
  go_wp2
  refine wp_region_mid 11 (by kernel_rfl) (by kernel_rfl) rfl ?_
  simp only [List.take_succ_cons, List.take_zero, List.drop_succ_cons, List.drop_zero]
  repeat (go_big_quiet_step (fail))
  refine wpQuiet_nil ?_
  rintro W3 ⟨nq, hnq⟩ K1 hK
  have HE3 : Aside0 (Below v2.heap.size v2 W3) := ⟨by subst hnq; exact pw_below_drewN (Below.refl _ _) _⟩
  have HA3 : Aside0 (Below w.heap.size w W3) := ⟨by subst hnq; repeat (first | exact Below.refl _ _ | exact HV2.out | apply pw_below_drewN)⟩
  clear hnq nq
  refine goes_ Try.func45 (by kernel_rfl) rfl #[.slice B ps.length cB, .int .i64 season, .int .i64 ahead] (by rfl) rfl rfl (by simp [Act.eval]) ?_
  refine (KK.out _ B cB (Kd.C_below HCv.out HE3.out) hcB).mono ?_
  rintro e w3 ⟨rfl, hb2⟩
  refine ⟨_, rfl, hK _ _ ?_⟩
  have HB3 : Aside0 (Below w.heap.size w w3) := ⟨HA3.out.trans (hb2.mono HA3.out.size)⟩
  clear hK K1 hb2 HCv HE3 d0 d1 d2 d3 d4 d5 d6 d7 d8 d9
  simp only [Act.put, List.setIfInBounds_toArray, List.set_cons_zero, List.set_cons_succ]
  repeat (go_big_quiet_step (fail))
  refine wpQuiet_nil ?_
  rintro v3 ⟨m3, hv3⟩
  have HD3 : Aside0 (DrAt v3 b ⟨⟨mn, mx, per, stale, step, ahead, cool, season⟩, now, plan, prev, changed⟩ A l.length c) := ⟨by subst hv3; exact (HD.out.below HB3.out).below (pw_below_drewN (Below.refl _ _) _)⟩
  have HV3 : Aside0 (Below w.heap.size w v3) := ⟨by subst hv3; exact pw_below_drewN HB3.out _⟩
  clear hv3 m3
  have d0 := (HD3.out).at 0 (.int .i64 mn) rfl
  have d1 := (HD3.out).at 1 (.int .i64 mx) rfl
  have d2 := (HD3.out).at 2 (.int .i64 per) rfl
  have d3 := (HD3.out).at 3 (.int .i64 stale) rfl
  have d4 := (HD3.out).at 4 (.int .i64 step) rfl
  have d5 := (HD3.out).at 5 (.int .i64 ahead) rfl
  have d6 := (HD3.out).at 6 (.int .i64 cool) rfl
  have d7 := (HD3.out).at 7 (.int .i64 season) rfl
  have d8 := (HD3.out).at 8 (.int .i64 now) rfl
  have d9 := (HD3.out).at 9 (.slice A l.length c) rfl
  go_wp2_with (go_at_call 53; (with_reducible refine (KF.out _).mono ?_); rintro e w4 ⟨rfl, hb⟩; have HB4 := Aside0.mk (HV3.out.trans (hb.mono HV3.out.size)); clear hb)
  go_ret
  exact ⟨rfl, HB4.out⟩
end Go.Proofs.Ytemnfnbjapobcaa.Ho
end
