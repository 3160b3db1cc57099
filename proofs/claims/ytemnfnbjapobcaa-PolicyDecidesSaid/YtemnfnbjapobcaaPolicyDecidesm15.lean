-- Laid together by wip/shake.py out of: PtRef Dec1 Dec2 Dec3 Dec4 Dec5 Bounds1 Decides1 Pdx0
import Derived.Test.YtemnfnbjapobcaaPolicyDecidesm14
import Derived.Test.YtemnfnbjapobcaaProg
import Derived.Below
import Derived.Deep.Draws
import Derived.Deep.AppendLies
import Derived.Maps.AppendAt
import Derived.OwnWalk
import Derived.Laws.BytesArg
import Derived.Laws.MakeOwn
import Derived.Laws.OwnMore
import Derived.Deep.OwnRows
import Derived.Tactics
import Derived.Lib.ConvBytes
import Derived.Laws.Slices
import Derived.WalkKit
import Derived.KernelRfl
import Derived.RowKit3
import Derived.Deep.LoopGhost
import Derived.Deep.QuietTactic
import Derived.BigQuiet
import Derived.WideLaws
import Derived.Deep.DeepCutAuto
import Derived.Deep.CutBlock
import Derived.Deep.RegionHeld3
import Derived.Laws.Rows
import Derived.Lib.AppendStr
import Derived.ArgAppend
import Derived.Laws.IdiomCopy
import Derived.OrdersHeld
import Derived.Laws.BitsLemmas
import Derived.RowKit
set_option maxHeartbeats 8000000
set_option maxRecDepth 100000
set_option linter.unusedVariables false
set_option linter.unusedSimpArgs false
namespace Go.Proofs
open Go.RowKit
theorem zhU {P : Prop} (h : P := by rw [List.length_map]; omega) : P := h
end Go.Proofs
section
namespace Go.Proofs.Ytemnfnbjapobcaa.RS
open Go.RowKit Go.Proofs.Ytemnfnbjapobcaa.Pr Go.Proofs.ZW.PrintWords Go.Proofs.ZW.PrintLast Go.Proofs.ZW.PrintMore
def tms (l : List S70) : List Int := l.map (·.f0)
theorem zke (l : List S70) (i : Nat) (hi : i < l.length) : (tms l).getD i 0 = tm l i := by
 unfold tms tm; simp [List.getD_eq_getElem?_getD, hi]
theorem zoQ (l : List S70) (hl : l.length ≤ 1152921504606) (d : Nat) : ∀ (i : Nat) (acc : List Int), i + d = l.length → acc = (tms l).take i → Ev (fun k => zbc.l0 k l acc (i : Int)) (tms l) := by
 have hlen : (tms l).length = l.length := by simp [tms]
 induction d with
 | zero =>
  intro i acc hi ha; refine Ev.step (f := fun _ => some acc) (fun k => ?_) ?_
  · simp only [zbc.l0]; rw [if_neg zq8]
  · rw [ha, List.take_of_length_le zq8]; exact Ev.now _
 | succ d ih =>
  intro i acc hi ha; have e : wrap64 ((i : Int) + 1) = ((i + 1 : Nat) : Int) := by rw [zaI zq8 zq8]; omega
  have hal : acc.length = i := by rw [ha, List.length_take]; omega
  refine Ev.step (f := fun k => zbc.l0 k l (acc ++ [(l.getD i z70).f0]) ((i + 1 : Nat) : Int)) (fun k => ?_) (ih (i + 1) _ zq8 ?_)
  · simp only [zbc.l0]; rw [if_pos zq8, if_pos zq8, if_pos zq8, zlw, e]
  · rw [ha, List.take_succ_eq_append_getElem zq8]
    congr 2
    have := zke l i zq8; unfold tm at this; rw [← this]; simp [List.getD_eq_getElem?_getD, show i < (tms l).length by omega]
theorem zlm (l : List S70) (hl : l.length ≤ 1152921504606) : Ev (fun k => zbc.f k l) (tms l) := zoQ l hl l.length 0 [] zq8 (by simp)
theorem znf (l : List S70) (hl : l.length ≤ 1152921504606) (d : Nat) : ∀ i : Nat, i + d = l.length → Ev (fun k => zaY.l0 k (tms l) (i : Int)) (ris l i d) := by
 have hlen : (tms l).length = l.length := by simp [tms]
 induction d with
 | zero =>
  intro i hi; refine Ev.step (f := fun _ => some true) (fun k => ?_) (Ev.now _); simp only [zaY.l0]; rw [if_neg zq8]
 | succ d ih =>
  intro i hi; have e : wrap64 ((i : Int) + 1) = ((i + 1 : Nat) : Int) := by rw [zaI zq8 zq8]; omega
  refine Ev.step (f := fun k => if okAt l i then zaY.l0 k (tms l) ((i + 1 : Nat) : Int) else some false) (fun k => ?_) ?_
  · simp only [zaY.l0]; rw [if_pos zq8, if_pos zq8, zek, zke l i zq8, e]; unfold okAt; by_cases h1 : -9007199254740992 ≤ tm l i; rotate_left
    · rw [if_pos zq8]; simp only [zdf h1]; simp
    by_cases h2 : tm l i ≤ 9007199254740992; rotate_left
    · rw [if_neg zq8, if_pos zq8]; simp only [zdf h2]; simp
    rw [if_neg zq8, if_neg zq8]; simp only [zdt h1, zdt h2, Bool.true_and]; by_cases h3 : i = 0
    · rw [if_neg zq8, zdt h3]; simp
    have e2 : wrap64 ((i : Int) - 1) = ((i - 1 : Nat) : Int) := by rw [zaI zq8 zq8]; omega
    rw [if_pos zq8, e2, if_pos zq8, if_pos zq8, zek, zke l (i - 1) zq8, zdf h3]; by_cases h4 : tm l i ≤ tm l (i - 1)
    · rw [if_pos h4, zdf zq8]; simp
    rw [if_neg h4, zdt zq8]; simp
  · by_cases h : okAt l i = true
    · simp only [ris, h, if_true, Bool.true_and]; exact ih (i + 1) zq8
    simp only [ris, h, Bool.false_eq_true, if_false, Bool.false_and]; exact Ev.now false
theorem zjm (l : List S70) (hl : l.length ≤ 1152921504606) : Ev (fun k => zaY.f k (tms l)) (ris l 0 l.length) := znf l hl l.length 0 zq8
def hf (e : Int) : Bool := decide (e ≥ 0)
def vf (l : List S70) (e : Int) : Int := if e ≥ 0 then pv l e else 0
theorem zlv (at_ : List Int) (i : Nat) (hi : i < at_.length) : zgw false (at_.map hf) (i : Int) = hf (at_.getD i 0) := by
 unfold zgw; simp [List.getD_eq_getElem?_getD, hi]
theorem zqK (l : List S70) (hl : l.length ≤ 1152921504606) (from_ step : Int) (n : Nat) (_hn : n ≤ 10000) (hs : 1 ≤ step) (hf0 : -9007199254740992 ≤ from_ ∧ from_ ≤ 9007199254740992) (ht : zhs l) (r : List Int × Int × Int) (d : Nat) :
  ∀ (i : Nat) (out : List Int), i + d = l.length → out.length = n →
   Ev (fun k => zak.l1 k (n : Int) ((plc l from_ step n i d out).map hf) ((plc l from_ step n i d out).map (vf l)) 0 (-1) 0) r →
   Ev (fun k => zak.l0 k l from_ step (n : Int) (out.map hf) (out.map (vf l)) (i : Int)) r := by
 induction d with
 | zero =>
  intro i out hi ho h; refine Ev.step (f := fun k => zak.l1 k (n : Int) (out.map hf) (out.map (vf l)) 0 (-1) 0) (fun k => ?_) h; simp only [zak.l0]; rw [if_neg zq8]
 | succ d ih =>
  intro i out hi ho h; refine Ev.step (f := fun k => zak.l0 k l from_ step (n : Int) ((stp l from_ step n out i).map hf) ((stp l from_ step n out i).map (vf l)) ((i + 1 : Nat) : Int)) (fun k => ?_) (ih (i + 1) _ zq8 (by rw [zgb]; exact ho) h); simp only [zak.l0]; have e : wrap64 ((i : Int) + 1) = ((i + 1 : Nat) : Int) := by rw [zaI zq8 zq8]; omega
  obtain ⟨t0, t1⟩ := ht i zq8; rw [if_pos zq8, if_pos zq8, zlw, e]; show (if tm l i < from_ then _ else _) = _
  unfold stp; by_cases h1 : tm l i < from_
  · rw [if_pos h1, if_pos h1]
  rw [if_neg h1, if_neg h1, if_neg zq8]; have e1 : wrap64 ((l.getD i z70).f0 - from_) = tm l i - from_ := zaI (by unfold tm at *; omega) (by unfold tm at *; omega); have q0 := zjr hs h1; have q1 := znL hs h1; have e2 : wrap64 ((tm l i - from_).tdiv step) = (tm l i - from_) / step := by
   rw [Int.tdiv_eq_ediv_of_nonneg zq8]; exact zaI zq8 zq8
  rw [e1, e2]; by_cases h2 : (tm l i - from_) / step < n
  · rw [if_pos h2, if_pos h2, if_pos q0, if_pos zhU, if_pos zhU, List.map_set, List.map_set]; have e3 : hf (i : Int) = true := by unfold hf; exact zdt zq8
    have e4 : vf l (i : Int) = (l.getD i z70).f1 := by unfold vf; rw [if_pos zq8]; rfl
    rw [e3, e4]
  · rw [if_neg h2, if_neg h2]
def zeY (at_ : List Int) : Nat → Nat → Int
 | _, 0 => -1
 | i, d + 1 => if at_.getD i 0 ≥ 0 then i else zeY at_ (i + 1) d
theorem zoh (at_ : List Int) (d : Nat) : ∀ i, (zeY at_ i d = -1 ∧ fst at_ i d = -1) ∨ (∃ j : Nat, zeY at_ i d = j ∧ i ≤ j ∧ j < i + d ∧ at_.getD j 0 ≥ 0 ∧ fst at_ i d = at_.getD j 0 ∧ ∀ m, i ≤ m → m < j → ¬ at_.getD m 0 ≥ 0) := by
 induction d with
 | zero => intro i; exact .inl ⟨rfl, rfl⟩
 | succ d ih =>
  intro i; by_cases h : at_.getD i 0 ≥ 0
  · right
    refine ⟨i, by simp only [zeY]; rw [if_pos h], zq8, zq8, h, zmE h, fun m h1 h2 => by omega⟩
  rw [zog h]; have e : zeY at_ i (d + 1) = zeY at_ (i + 1) d := by simp only [zeY]; rw [if_neg h]
  rw [e]
  rcases ih (i + 1) with h1 | ⟨j, h1, h2, h3, h4, h5, h6⟩
  · exact .inl h1
  · refine .inr ⟨j, h1, zq8, zq8, h4, h5, fun m g1 g2 => ?_⟩; by_cases hm : m = i
    · subst hm; exact h
    exact h6 m zq8 g2
theorem zqJ (l : List S70) (at_ : List Int) (n : Nat) (hn : n ≤ 10000) (ha : at_.length = n) (r : List Int × Int × Int) (d : Nat) :
  ∀ (i : Nat) (g f : Int), i + d = n → 0 ≤ g → g ≤ i →
   (if (if f < 0 then zeY at_ i d else f) < 0 then r = ([], g + cnt at_ i d, 0) else Ev (fun k => zak.l2 k (n : Int) (at_.map hf) (at_.map (vf l)) (g + cnt at_ i d) (if f < 0 then zeY at_ i d else f) 0) r) →
   Ev (fun k => zak.l1 k (n : Int) (at_.map hf) (at_.map (vf l)) g f (i : Int)) r := by
 induction d with
 | zero =>
  intro i g f hi h0 h1 h; simp only [cnt, Int.add_zero] at h; by_cases hf' : f < 0
  · simp only [if_pos hf', zeY] at h; rw [if_pos zaR] at h; subst h; refine Ev.step (f := fun _ => some ([], g, 0)) (fun k => ?_) (Ev.now _); simp only [zak.l1]; rw [if_neg zq8, if_pos hf']
  · simp only [if_neg hf'] at h; refine Ev.step (f := fun k => zak.l2 k (n : Int) (at_.map hf) (at_.map (vf l)) g f 0) (fun k => ?_) h; simp only [zak.l1]; rw [if_neg zq8, if_neg hf']
 | succ d ih =>
  intro i g f hi h0 h1 h; have e : wrap64 ((i : Int) + 1) = ((i + 1 : Nat) : Int) := by rw [zaI zq8 zq8]; omega
  have eh := zlv at_ i zq8; by_cases hx : at_.getD i 0 ≥ 0; rotate_left
  · have c : g + cnt at_ i (d + 1) = (g + 1) + cnt at_ (i + 1) d := by simp only [cnt]; rw [if_pos zq8]; omega
    have x : zeY at_ i (d + 1) = zeY at_ (i + 1) d := by simp only [zeY]; rw [if_neg hx]
    have ehx : hf (at_.getD i 0) = false := zdf hx; rw [c, x] at h; refine Ev.step (f := fun k => zak.l1 k (n : Int) (at_.map hf) (at_.map (vf l)) (g + 1) f ((i + 1 : Nat) : Int)) (fun k => ?_) (ih (i + 1) (g + 1) f zq8 zq8 zq8 h); simp only [zak.l1]; rw [if_pos zq8, if_pos zq8, if_pos zhU, eh, ehx, if_neg zaR, e, zaI (show _ ≤ g + 1 by omega) zq8]
  have c : cnt at_ i (d + 1) = cnt at_ (i + 1) d := by simp only [cnt]; rw [if_neg zq8]; omega
  have x : zeY at_ i (d + 1) = i := by simp only [zeY]; rw [if_pos hx]
  have ehx : hf (at_.getD i 0) = true := zdt hx; rw [c, x] at h; by_cases hf' : f < 0
  · rw [if_pos hf'] at h; refine Ev.step (f := fun k => zak.l1 k (n : Int) (at_.map hf) (at_.map (vf l)) g (i : Int) ((i + 1 : Nat) : Int)) (fun k => ?_) (ih (i + 1) g i zq8 h0 zq8 ?_)
    · simp only [zak.l1]; rw [if_pos zq8, if_pos zq8, if_pos zhU, eh, ehx, if_pos rfl, if_pos hf', e]
    · rw [if_neg (show ¬ ((i : Int) < 0) by omega)]; exact h
  · rw [if_neg hf'] at h; refine Ev.step (f := fun k => zak.l1 k (n : Int) (at_.map hf) (at_.map (vf l)) g f ((i + 1 : Nat) : Int)) (fun k => ?_) (ih (i + 1) g f zq8 h0 zq8 ?_)
    · simp only [zak.l1]; rw [if_pos zq8, if_pos zq8, if_pos zhU, eh, ehx, if_pos rfl, if_neg hf', e]
    · rw [if_neg hf']; exact h
theorem zqH (l : List S70) (at_ : List Int) (n : Nat) (hn : n ≤ 10000) (ha : at_.length = n) (v0 g : Int) (d : Nat) :
  ∀ (i : Nat) (v : List Int), 1 ≤ i → i + d = n → v.length = n → (∀ j, j < n → v.getD j 0 = if j < i then fl l at_ v0 j else vf l (at_.getD j 0)) →
   Ev (fun k => zak.l3 k (n : Int) (at_.map hf) v g (i : Int)) (zdu l at_ v0 n, g, 0) := by
 induction d with
 | zero =>
  intro i v h1 hi hv hp; refine Ev.step (f := fun _ => some (v, g, 0)) (fun k => ?_) ?_
  · simp only [zak.l3]; rw [if_neg zq8]
  · have : v = zdu l at_ v0 n := by
     refine zlM (by simp [zdu, hv]) (fun j hj => ?_); rw [hp j zq8, if_pos zq8, zdu, zjD _ _ _ zq8]
    rw [this]; exact Ev.now _
 | succ d ih =>
  intro i v h1 hi hv hp; have e : wrap64 ((i : Int) + 1) = ((i + 1 : Nat) : Int) := by rw [zaI zq8 zq8]; omega
  have e1 : wrap64 ((i : Int) - 1) = ((i - 1 : Nat) : Int) := by rw [zaI zq8 zq8]; omega
  have eh := zlv at_ i zq8; have hst := zhk l at_ v0 i; by_cases hx : at_.getD i 0 ≥ 0
  · have ehx : hf (at_.getD i 0) = true := zdt hx; rw [if_pos hx] at hst; refine Ev.step (f := fun k => zak.l3 k (n : Int) (at_.map hf) v g ((i + 1 : Nat) : Int)) (fun k => ?_) (ih (i + 1) v zq8 zq8 hv (fun j hj => ?_))
    · simp only [zak.l3]; rw [if_pos zq8, if_pos zq8, if_pos zhU, eh, ehx, if_pos rfl, e]
    · rw [hp j hj]; by_cases hj1 : j < i
      · rw [if_pos hj1, if_pos zq8]
      by_cases hj2 : j = i
      · subst hj2; rw [if_neg hj1, if_pos zq8, hst]; unfold vf; rw [if_pos hx]
      rw [if_neg hj1, if_neg zq8]
  have ehx : hf (at_.getD i 0) = false := zdf hx; rw [if_neg hx] at hst; have hprev : v.getD (i - 1) 0 = fl l at_ v0 i := by
   rw [hp (i - 1) zq8, if_pos zq8, hst]; unfold flv; rw [if_neg zq8]
  refine Ev.step (f := fun k => zak.l3 k (n : Int) (at_.map hf) (v.set i (v.getD (i - 1) 0)) g ((i + 1 : Nat) : Int)) (fun k => ?_) (ih (i + 1) _ zq8 zq8 (by simpa using hv) (fun j hj => ?_))
  · simp only [zak.l3]; rw [if_pos zq8, if_pos zq8, if_pos zhU, eh, ehx, if_neg zaR, e1, if_pos zq8, if_pos zq8, if_pos zq8, zek, e]; have e2 : (i : Int).toNat = i := by omega
    rw [e2]
  · rw [zhF _ _ _ _ _ zq8]; by_cases hj2 : i = j
    · subst hj2; rw [if_pos rfl, if_pos zq8, hprev]
    rw [if_neg hj2, hp j hj]; by_cases hj1 : j < i
    · rw [if_pos hj1, if_pos zq8]
    rw [if_neg hj1, if_neg zq8]
theorem zqI (l : List S70) (at_ : List Int) (n : Nat) (hn : n ≤ 10000) (ha : at_.length = n) (g : Int) (q : Nat) (hq : q < n) (hq1 : at_.getD q 0 ≥ 0) (hq2 : ∀ m, m < q → ¬ at_.getD m 0 ≥ 0) (d : Nat) :
  ∀ (i : Nat) (v : List Int), i + d = q → v.length = n → (∀ j, j < n → v.getD j 0 = if j < i then pv l (at_.getD q 0) else vf l (at_.getD j 0)) →
   Ev (fun k => zak.l2 k (n : Int) (at_.map hf) v g (q : Int) (i : Int)) (zdu l at_ (pv l (at_.getD q 0)) n, g, 0) := by
 have low : ∀ j, j < q → fl l at_ (pv l (at_.getD q 0)) j = pv l (at_.getD q 0) := by
  intro j
  induction j with
  | zero => intro hj; simp only [fl]; rw [if_neg (hq2 0 hj)]
  | succ j ih => intro hj; simp only [fl]; rw [if_neg (hq2 (j + 1) hj)]; exact ih zq8
 induction d with
 | zero =>
  intro i v hi hv hp; obtain rfl : i = q := by omega
  have e : wrap64 ((i : Int) + 1) = ((i + 1 : Nat) : Int) := by rw [zaI zq8 zq8]; omega
  refine Ev.step (f := fun k => zak.l3 k (n : Int) (at_.map hf) v g ((i + 1 : Nat) : Int)) (fun k => ?_) (zqH l at_ n hn ha (pv l (at_.getD i 0)) g (n - (i + 1)) (i + 1) v zq8 zq8 hv (fun j hj => ?_))
  · simp only [zak.l2]; rw [if_neg zq8, e]
  · rw [hp j hj]; by_cases hj1 : j < i
    · rw [if_pos hj1, if_pos zq8, low j hj1]
    by_cases hj2 : j = i
    · subst hj2; rw [if_neg hj1, if_pos zq8, zhk, if_pos hq1]; unfold vf; rw [if_pos hq1]
    · rw [if_neg hj1, if_neg zq8]
 | succ d ih =>
  intro i v hi hv hp; have e : wrap64 ((i : Int) + 1) = ((i + 1 : Nat) : Int) := by rw [zaI zq8 zq8]; omega
  have hvq : v.getD q 0 = pv l (at_.getD q 0) := by
   rw [hp q hq, if_neg zq8]; unfold vf; rw [if_pos hq1]
  refine Ev.step (f := fun k => zak.l2 k (n : Int) (at_.map hf) (v.set i (v.getD q 0)) g (q : Int) ((i + 1 : Nat) : Int)) (fun k => ?_) (ih (i + 1) _ zq8 (by simpa using hv) (fun j hj => ?_))
  · simp only [zak.l2]; rw [if_pos zq8, if_pos zq8, if_pos zq8, if_pos zq8, if_pos zq8, zek, e]; have e2 : (i : Int).toNat = i := by omega
    rw [e2]
  · rw [zhF _ _ _ _ _ zq8]; by_cases hj2 : i = j
    · subst hj2; rw [if_pos rfl, if_pos zq8, hvq]
    rw [if_neg hj2, hp j hj]; by_cases hj1 : j < i
    · rw [if_pos hj1, if_pos zq8]
    rw [if_neg hj1, if_neg zq8]
theorem zme (l : List S70) (from_ step n : Int) (h : zgj from_ step n = false) : Ev (fun k => zak.f k l from_ step n) ([], 0, 1) := by
 have out : Ev (fun k => zak.j0 k l from_ step n true) ([], 0, 1) := by
  refine Ev.step (f := fun _ => some ([], 0, 1)) (fun k => ?_) (Ev.now _); simp only [zak.j0]; rfl
 unfold zak.f; by_cases h1 : step < 1
 · simp only [if_pos h1]; exact out
 by_cases h2 : step > 9007199254740992
 · simp only [if_neg h1, if_pos h2]; exact out
 by_cases h3 : n < 0
 · simp only [if_neg h1, if_neg h2, if_pos h3]; exact out
 by_cases h4 : n > 10000
 · simp only [if_neg h1, if_neg h2, if_neg h3, if_pos h4]; exact out
 by_cases h5 : from_ < -9007199254740992
 · simp only [if_neg h1, if_neg h2, if_neg h3, if_neg h4, if_pos h5]; exact out
 simp only [if_neg h1, if_neg h2, if_neg h3, if_neg h4, if_neg h5]; have h6 : from_ > 9007199254740992 := by
  rcases Int.lt_or_le 9007199254740992 from_ with h6 | h6
  · exact h6
  · have : zgj from_ step n = true := by
     unfold zgj; simp only [Bool.and_eq_true, decide_eq_true_eq]; omega
    rw [this] at h; cases h
 rw [zdt h6]; exact out
theorem zqL (l : List S70) (hl : l.length ≤ 1152921504606) (from_ step n : Int) :
  ∃ (p : List Int) (g x : Int), Ev (fun k => zak.f k l from_ step n) (p, g, x) ∧ Ev (fun k => zaH.f k l from_ step n) (p, x) ∧ Ev (fun k => zbj.f k l from_ step n) (g, x) ∧ p.length ≤ 10000 := by
 have hl' : l.length ≤ 1152921504606846976 := by omega
 cases ha : zgj from_ step n
 · have hx : askS l from_ step n = 1 := by unfold askS; rw [ha]; rfl
   have h1 := zgc l hl' from_ step n zq8; have h2 := zhG l hl' from_ step n zq8; rw [hx] at h1 h2; exact ⟨[], 0, 1, zme l from_ step n ha, h1, h2, by simp⟩
 · obtain ⟨a1, a2, a3, a4, a5, a6⟩ := zgG ha; obtain ⟨n, rfl⟩ := Int.eq_ofNat_of_zero_le a3; have pre : ∀ r, Ev (fun k => zak.j0 k l from_ step (n : Int) false) r → Ev (fun k => zak.f k l from_ step (n : Int)) r := by
    intro r h; unfold zak.f; simp only [if_neg (show ¬ step < 1 by omega), if_neg (show ¬ step > 9007199254740992 by omega), if_neg (show ¬ (n : Int) < 0 by omega), if_neg (show ¬ (n : Int) > 10000 by omega), if_neg (show ¬ from_ < -9007199254740992 by omega)]; rw [zdf zq8]; exact h
   have j0s : ∀ r, (if ris l 0 l.length then Ev (fun k => zak.l0 k l from_ step (n : Int) (List.replicate n false) (List.replicate n 0) 0) r else r = ([], 0, 21)) → Ev (fun k => zak.j0 k l from_ step (n : Int) false) r := by
    intro r h; refine Ev.step (f := fun k => (zbc.f k l).bind fun t => ((zaY.f k t).bind fun b => (if b = true then (zak.l0 k l from_ step (n : Int) (List.replicate n false) (List.replicate n 0) 0) else (some (([] : List Int), 0, 21))))) (fun k => ?_) ?_
    · simp only [zak.j0]; rw [if_neg zaR]; have e2 : (n : Int).toNat = n := by omega
      simp only [e2, if_pos (show 0 ≤ (n : Int) by omega), if_pos (show n ≤ 281474976710656 by omega), if_pos (show n ≤ 35184372088832 by omega)]
    · refine Ev.bind (zlm l hl) (Ev.bind (zjm l hl) ?_)
      cases hr : ris l 0 l.length
      · rw [hr] at h; simp only [Bool.false_eq_true, if_false] at h ⊢; subst h; exact Ev.now _
      · rw [hr] at h; simp only [if_true] at h ⊢; exact h
   cases hr : ris l 0 l.length
   · have hx : askS l from_ step n = 21 := by unfold askS; rw [ha, hr]; rfl
     have h1 := zgc l hl' from_ step n zq8; have h2 := zhG l hl' from_ step n zq8; rw [hx] at h1 h2; refine ⟨[], 0, 21, pre _ (j0s _ ?_), h1, h2, by simp⟩; rw [hr]; rfl
   · have hx : askS l from_ step n = 0 := by unfold askS; rw [ha, hr]; rfl
     have h1 := zgX l hl' from_ step n hx; have h2 := zip l hl' from_ step n hx; have hlen := zgd l from_ step n; have hok := znQ l from_ step n a1; refine ⟨_, _, 0, pre _ (j0s _ ?_), h1, h2, by unfold ptS; split <;> simp [zdu, hlen]; omega⟩; rw [hr]; simp only [if_true]; have z1 : List.replicate n false = (none_ n).map hf := by simp [none_, hf]
     have z2 : List.replicate n (0 : Int) = (none_ n).map (vf l) := by simp [none_, vf]
     rw [z1, z2]; refine zqK l hl from_ step n zq8 a1 ⟨a5, a6⟩ (zgU l hr) _ l.length 0 (none_ n) zq8 (by simp [none_]) ?_; show Ev (fun k => zak.l1 k (n : Int) ((plS l from_ step n).map hf) ((plS l from_ step n).map (vf l)) 0 (-1) 0) _
     refine zqJ l (plS l from_ step n) n zq8 hlen _ n 0 0 (-1) zq8 zq8 zq8 ?_; rw [if_pos (show (-1 : Int) < 0 by omega), Int.zero_add]; unfold ptS; rw [hlen]
     rcases zoh (plS l from_ step n) n 0 with ⟨f1, f2⟩ | ⟨q, f1, f2, f3, f4, f5, f6⟩
     · rw [f1, f2, if_pos zaR, if_pos zaR]
     · rw [f1, f5, if_neg zq8, if_neg zq8]; exact zqI l (plS l from_ step n) n zq8 hlen _ q zq8 f4 (fun m hm => f6 m zq8 hm) q 0 _ zq8 (by simp [hlen]) (fun j hj => by rw [if_neg zq8, zpp _ _ _ zq8])
end Go.Proofs.Ytemnfnbjapobcaa.RS
end
section
namespace Go.Proofs.Ytemnfnbjapobcaa.Ho
open Go.RowKit Go.Proofs.ZW.PrintWords Go.Proofs.ZW.PrintLast Go.Proofs.ZW.PrintMore
open Go.Proofs.Ytemnfnbjapobcaa.FS Go.Proofs.Ytemnfnbjapobcaa.HS Go.Proofs.Ytemnfnbjapobcaa.FM Go.Proofs.Ytemnfnbjapobcaa.PS Go.Proofs.Ytemnfnbjapobcaa.Pr
theorem zjp (p : Pol) : Pr.zby.f p.mn p.mx p.per p.stale p.step p.ahead p.cool p.season = some (checkP p) := by
 obtain ⟨a, b, c, d, e, f, g, h⟩ := p; by_cases hp : okP ⟨a, b, c, d, e, f, g, h⟩
 · have e0 : checkP ⟨a, b, c, d, e, f, g, h⟩ = 0 := if_pos hp; rw [e0]; unfold okP at hp; dsimp only at hp ⊢; unfold Pr.zby.f; rw [if_neg zq8, if_neg zq8, if_neg zq8, if_neg zq8, if_neg zq8, if_neg zq8, if_neg zq8, if_neg zq8, if_neg zq8, if_neg zq8, if_neg zq8, if_neg zq8, if_neg zq8, if_neg zq8]
 have e0 : checkP ⟨a, b, c, d, e, f, g, h⟩ = 31 := if_neg hp; rw [e0]; unfold okP at hp; dsimp only at hp ⊢; unfold Pr.zby.f; repeat (refine (ite_eq_left_iff.mpr ?_); intro _)
 omega
theorem zfV (p : Pol) (w : World) : Calls Try.prog 52 #[zdI p] w fun e w' => e = .returned (.int .i64 (checkP p)) ∧ Below w.heap.size w w' :=
 Pr.zby.calls _ _ _ _ _ _ _ _ _ w (zjp p)
theorem zig (x lo hi : Int) (w : World) : Calls Try.prog 88 #[.int .i64 x, .int .i64 lo, .int .i64 hi] w fun e w' => e = .returned (.int .i64 (zcV x lo hi)) ∧ Drawn0 w w' := by
 refine Pr.zbz.calls x lo hi (zcV x lo hi) w ?_; unfold Pr.zbz.f zcV; split
 · rfl
 · split <;> rfl
theorem zie (p : Pol) (load : Int) (hl : FS.In load) (hp : FS.In p.per) (w : World) :
  Calls Try.prog 54 #[zdI p, .int .i64 load] w fun e w' => e = .returned (.int .i64 (floorP p load)) ∧ Below w.heap.size w w' := by
 obtain ⟨mn, mx, per, stale, step, ahead, cool, season⟩ := p; refine Pr.zbA.calls mn mx per stale step ahead cool season load _ w ?_; unfold Pr.zbA.f; rw [zjp ⟨mn, mx, per, stale, step, ahead, cool, season⟩, Option.bind_some]; by_cases h : okP ⟨mn, mx, per, stale, step, ahead, cool, season⟩; rotate_left
 · have e0 : checkP ⟨mn, mx, per, stale, step, ahead, cool, season⟩ = 31 := if_neg h; rw [e0, if_neg zaR]; unfold floorP; rw [if_neg h]
 have e0 : checkP ⟨mn, mx, per, stale, step, ahead, cool, season⟩ = 0 := if_pos h; have e1 : Pr.zbq.f load per = some (cdivS load per) := if_pos (by rw [zbO.mpr hl, zbO.mpr hp]; rfl); have e2 : Pr.zbv.f (cdivS load per) = some (-(-(cdivS load per) / 4294967296)) := if_pos (zbO.mpr (zlJ _ _)); rw [e0, if_pos rfl, e1, Option.bind_some, e2, Option.bind_some, zkA h]; unfold Pr.zbz.f zcV; dsimp only; split
 · rfl
 · split <;> rfl
theorem zoA {α : Type} {g : Nat → Option α} {x y : α} (h1 : Ev g x) (h2 : Ev g y) : x = y := by
 obtain ⟨K1, k1⟩ := h1; obtain ⟨K2, k2⟩ := h2; have a := k1 (K1 + K2) zq8; have b := k2 (K1 + K2) zq8; rw [a] at b; exact zoi b
theorem ziG (A : Option Addr) (c : Nat) (l : List S70) (w : World) (hr : Kd.C k70 w A l.length l) (hc : l.length ≤ c) (hl : l.length ≤ 1000000000) :
  Calls Try.prog 86 #[.slice A l.length c] w fun e w' => ∃ (B : Option Addr) (cB : Nat), e = .returned (.slice B (RS.tms l).length cB) ∧ (RS.tms l).length ≤ cB ∧ Kd.C (Kd.int .i64) w' B (RS.tms l).length (RS.tms l) ∧ Below w.heap.size w w' := by
 obtain ⟨k, h⟩ := (RS.zlm l zq8).rounds; refine (Pr.zbc.calls k A c l _ w hr hc h).mono ?_; rintro e w' ⟨v0, rfl, hR, hb⟩; obtain ⟨B, cB, rfl, h1, h2⟩ := Kd.zew hR; exact ⟨B, cB, rfl, h1, h2, hb⟩
theorem zhN (A : Option Addr) (c : Nat) (l : List S70) (w : World) (hr : Kd.C (Kd.int .i64) w A (RS.tms l).length (RS.tms l)) (hc : (RS.tms l).length ≤ c) (hl : l.length ≤ 1000000000) :
  Calls Try.prog 85 #[.slice A (RS.tms l).length c] w fun e w' => e = .returned (.bool (RS.ris l 0 l.length)) ∧ Drawn0 w w' := by
 obtain ⟨k, h⟩ := (RS.zjm l zq8).rounds; exact Pr.zaY.calls k A c (RS.tms l) _ w hr hc h
theorem znj (l : List S70) (hl : l.length ≤ 1000000000) (from_ step n : Int) : Ev (fun k => Pr.zaH.f k l from_ step n) (zce l from_ step n) := by
 unfold zce; by_cases h : RS.askS l from_ step n = 0
 · rw [if_pos h]; obtain ⟨_, _, h0, _⟩ := RS.zgG (RS.zhm h).1; obtain ⟨N, rfl⟩ := Int.eq_ofNat_of_zero_le h0; exact RS.zgX l zq8 from_ step N h
 · rw [if_neg h]; exact RS.zgc l zq8 from_ step n h
theorem zpq (l : List S70) (hl : l.length ≤ 1000000000) (from_ step n : Int) : Ev (fun k => Pr.zbj.f k l from_ step n) (zeV l from_ step n) := by
 unfold zeV; by_cases h : RS.askS l from_ step n = 0
 · rw [if_pos h]; obtain ⟨_, _, h0, _⟩ := RS.zgG (RS.zhm h).1; obtain ⟨N, rfl⟩ := Int.eq_ofNat_of_zero_le h0; exact RS.zip l zq8 from_ step N h
 · rw [if_neg h]; exact RS.zhG l zq8 from_ step n h
theorem zkI (A : Option Addr) (c : Nat) (l : List S70) (from_ step n : Int) (w : World) (hr : Kd.C k70 w A l.length l) (hc : l.length ≤ c) (hl : l.length ≤ 1000000000) :
  Calls Try.prog 87 #[.slice A l.length c, .int .i64 from_, .int .i64 step, .int .i64 n] w fun e w' => ∃ (B : Option Addr) (cB : Nat), e = .returned (.tuple #[.slice B (zce l from_ step n).1.length cB, .int .i64 (zeV l from_ step n).1, .int .i64 (zce l from_ step n).2]) ∧ (zce l from_ step n).1.length ≤ cB ∧ Kd.C (Kd.int .i64) w' B (zce l from_ step n).1.length (zce l from_ step n).1 ∧ Below w.heap.size w w' := by
 obtain ⟨r, g, e, h0, h1, h2, _⟩ := RS.zqL l zq8 from_ step n; have e1 := zoA h1 (znj l hl from_ step n); have e2 := zoA h2 (zpq l hl from_ step n); obtain ⟨k, h⟩ := h0.rounds; rw [← e1, ← e2]; refine (Pr.zak.calls k A c l from_ step n _ _ _ w hr hc h).mono ?_; rintro e w' ⟨v0, rfl, hR, hb⟩; obtain ⟨B, cB, rfl, h1, h2⟩ := Kd.zew hR; exact ⟨B, cB, rfl, h1, h2, hb⟩
end Go.Proofs.Ytemnfnbjapobcaa.Ho
end
section
namespace Go.Proofs.Ytemnfnbjapobcaa.PS
open Go.Proofs.Ytemnfnbjapobcaa.Pr Go.Proofs.Ytemnfnbjapobcaa.HS
theorem znc {l : List S70} (now : Int) (h : RS.ris l 0 l.length = true) : ∀ d : Nat, zck l now + d < l.length → ¬ (l.getD (zck l now + d) z70).f0 ≤ now := by
 intro d
 induction d with
 | zero => exact zhq l now
 | succ d ih =>
  intro hd; have h1 := ih zq8; have h2 := RS.znI l l.length 0 h (zck l now + d + 1) zq8 zq8; unfold RS.okAt at h2; simp only [Bool.and_eq_true, Bool.or_eq_true, decide_eq_true_eq] at h2; have h3 : RS.tm l (zck l now + d) < RS.tm l (zck l now + d + 1) := by
   rcases h2.2.2 with h4 | h4
   · omega
   · exact h4
  have h4 : (l.getD (zck l now + d) z70).f0 < (l.getD (zck l now + (d + 1)) z70).f0 := h3; omega
def zpa (d : Dr) (l : List S70) : Int := if d.some ∧ zeS d l < d.prev.rep ∧ d.rests then d.bounded d.prev.rep else zeS d l
theorem zpW {d : Dr} (h : okP d.p) (l : List S70) : zpa d l = zgW d l := by
 have h1 := zpP h l; have h2 : d.p.mn ≤ d.p.mx := h.2.1; have hb : d.bounded d.prev.rep = zcV d.prev.rep d.p.mn d.p.mx := rfl; unfold zpa zgW; rw [hb]; by_cases g1 : d.some; rotate_left
 · rw [if_neg (fun h => g1 h.1), if_neg (fun h => g1 h.1)]
 by_cases g2 : d.rests; rotate_left
 · rw [if_neg (fun h => g2 h.2.2), if_neg (fun h => g2 h.2.2)]
 by_cases c1 : zeS d l < d.prev.rep
 · rw [if_pos ⟨g1, c1, g2⟩]; by_cases c2 : zeS d l < zcV d.prev.rep d.p.mn d.p.mx
   · rw [if_pos ⟨g1, c2, g2⟩]
   rw [if_neg (fun h => c2 h.2.1)]
   revert c2
   unfold zcV; repeat' split
   all_goals omega
 rw [if_neg (fun h => c1 h.2.1)]; by_cases c2 : zeS d l < zcV d.prev.rep d.p.mn d.p.mx
 · exfalso
   revert c2
   unfold zcV; repeat' split
   all_goals omega
 · rw [if_neg (fun h => c2 h.2.1)]
theorem zpA {d : Dr} (h : okP d.p) (l : List S70) : zfA d l = if 4503599627370496 / (4 * d.p.season) < d.p.step then 0 else if 0 < (zfu d l).1.length ∧ (zio d l).1 ≤ 4 * d.p.season / 2 then floorP d.p (zge d l).1 else 0 := by
 have hpk : (zge d l).2 ≠ 0 → floorP d.p (zge d l).1 = 0 := by
  intro h1; refine zmi h ?_; unfold zge zde at h1 ⊢; split
  · exact Int.le_refl _
  · rename_i h2
    rw [if_neg h2] at h1; exact absurd rfl h1
 unfold zfA; by_cases h1 : 4503599627370496 / (4 * d.p.season) < d.p.step
 · rw [if_pos h1, if_pos h1]
 rw [if_neg h1, if_neg h1]; have hps : (zfu d l).2 ≠ 0 → (zfu d l).1.length = 0 := by
  unfold zfu zce; intro h2; split
  · rename_i h3
    rw [if_pos h3] at h2; exact absurd rfl h2
  · rfl
 have hgs : (zfu d l).1.length ≠ 0 → (zio d l).2 = 0 := by
  unfold zfu zio zce zeV; intro h2; split
  · rfl
  · rename_i h3
    rw [if_neg h3] at h2; exact absurd rfl h2
 by_cases h2 : (zfu d l).2 ≠ 0
 · rw [if_pos h2, if_neg (fun h => by have := hps h2; omega)]
 rw [if_neg h2]; by_cases h3 : (zfu d l).1.length = 0
 · rw [if_pos h3, if_neg (fun h => by omega)]
 rw [if_neg h3, if_neg (fun h => h (hgs h3))]; by_cases h4 : 4 * d.p.season / 2 < (zio d l).1
 · rw [if_pos h4, if_neg (fun h => by omega)]
 rw [if_neg h4, if_pos (show _ ∧ _ from ⟨zq8, zq8⟩)]; by_cases h5 : (zge d l).2 ≠ 0
 · rw [if_pos h5, hpk h5]
 rw [if_neg h5]
theorem znJ {ch cool now : Int} (h : FS.In ch) (h0 : 0 ≤ cool) (hc : cool ≤ 9007199254740992) (hn : now ≤ 4503599627370496) : (ch > 9223372036854775807 - cool ∨ now < ch + cool) ↔ now < addS ch cool := by
 obtain ⟨h1, h2⟩ := h; unfold addS FM.sat; repeat' split
 all_goals omega
end Go.Proofs.Ytemnfnbjapobcaa.PS
end
section
namespace Go.Proofs.Ytemnfnbjapobcaa.Ho
open Go.RowKit Go.Proofs.ZW.PrintWords Go.Proofs.ZW.PrintLast Go.Proofs.ZW.PrintMore
open Go.Proofs.Ytemnfnbjapobcaa.FS Go.Proofs.Ytemnfnbjapobcaa.HS Go.Proofs.Ytemnfnbjapobcaa.FM Go.Proofs.Ytemnfnbjapobcaa.PS Go.Proofs.Ytemnfnbjapobcaa.Pr
def zdK (s : Nat) (p : Pol) (prev : Dec) (W : World) : Prop := Env s p prev W ∧ W.heap[s + 3]? = some (.cells zbK 68 (0, 0))
theorem zdK.below {s : Nat} {p : Pol} {prev : Dec} {W W' : World} (h : zdK s p prev W) (hb : Below W.heap.size W W') : zdK s p prev W' := ⟨h.1.below hb, zax h.2 hb⟩
def w0R (w : World) (p : Pol) (prev : Dec) : World := (((w.alloc (.cells (zbl p) 65)).alloc (.cells (zbx prev) 68)).alloc (.cells zbK 68)).alloc (.cells zbK 68)
theorem zpM (w : World) (p : Pol) (prev : Dec) : zdK w.heap.size p prev (w0R w p prev) := by
 refine ⟨(zqT w p prev).below (zaq (Below.refl _ _) _), ?_⟩; have := zbL (((w.alloc (.cells (zbl p) 65)).alloc (.cells (zbx prev) 68)).alloc (.cells zbK 68)) (.cells zbK 68); rw [zcE, zcE, zcE] at this; exact this
theorem zmL (w : World) (p : Pol) (prev : Dec) : Below w.heap.size w (w0R w p prev) := zaq (zaq (zaq (zaq (Below.refl _ _) _) _) _) _
theorem zmf (p : Pol) (now : Int) (A : Option Addr) (c : Nat) (load : List S70) (plan : Int) (prev : Dec) (changed : Int) (w : World) (hr : Kd.C k70 w A load.length load) (hc : load.length ≤ c) (hl : load.length ≤ 1000000000) (hbad : ¬ (okP p ∧ timedB now = true ∧ RS.ris load 0 load.length = true)) :
  Calls Try.prog 50 #[zdI p, .int .i64 now, .slice A load.length c, .int .i64 plan, zeh prev, .int .i64 changed] w fun e w' => e = .returned (.tuple #[zeh (decideP p now load plan prev changed).1, .int .i64 (decideP p now load plan prev changed).2.1, .int .i64 (decideP p now load plan prev changed).2.2]) ∧ Below w.heap.size w w' := by
 have HR := zaa.mk hr; clear hr; obtain ⟨res, hres⟩ : ∃ x, decideP p now load plan prev changed = x := ⟨_, rfl⟩
 rw [hres]; unfold decideP at hres; have KC := zaa.mk (fun W => zfV p W); have E0 := zaa.mk (zpM w p prev); have HB0 := zaa.mk (zmL w p prev); unfold w0R at E0 HB0; have KM := zaa.mk (fun W (h : Kd.C k70 W A load.length load) => ziG A c load W h hc hl); have KR := zaa.mk (fun (B : Option Addr) (cB : Nat) W (h : Kd.C (Kd.int .i64) W B (RS.tms load).length (RS.tms load)) (hcB : (RS.tms load).length ≤ cB) => zhN B cB load W h hcB hl); by_cases g1 : okP p
 rotate_left
 · rw [if_pos g1] at hres; subst hres; have c0 : checkP p = 31 := if_neg g1; rw [c0] at KC; clear g1 KR KM hbad; obtain ⟨mn, mx, per, stale, step, ahead, cool, season⟩ := p; obtain ⟨pt, pr, pf, pp, pc⟩ := prev; dsimp only [zdI, zeh, zbl, zbx, zbK] at *; clear c0; go_enter Try.func50, Try.ntmps50
   go_wp2_with ((go_at_call 52; (with_reducible refine (KC.out _).mono ?_); rintro e w1 ⟨rfl, hb⟩; have E1 := zaa.mk (zdK.below E0.out hb); have HB1 := zaa.mk (HB0.out.trans (hb.mono (HB0.out).size)); clear hb; have k0 := zab E1.out.1.2.2 0; have k1 := zab E1.out.1.2.2 1; have k2 := zab E1.out.1.2.2 2; have k3 := zab E1.out.1.2.2 3; have k4 := zab E1.out.1.2.2 4; simp only [zbK, List.getElem?_toArray, List.getElem?_cons_zero, List.getElem?_cons_succ] at k0 k1 k2 k3 k4; have j0 := zab E1.out.2 0; have j1 := zab E1.out.2 1; have j2 := zab E1.out.2 2; have j3 := zab E1.out.2 3; have j4 := zab E1.out.2 4; simp only [zbK, List.getElem?_toArray, List.getElem?_cons_zero, List.getElem?_cons_succ] at j0 j1 j2 j3 j4; have l0 := zac E1.out.1.2.2 0; have l1 := zac E1.out.1.2.2 1; have l2 := zac E1.out.1.2.2 2; have l3 := zac E1.out.1.2.2 3; have l4 := zac E1.out.1.2.2 4))
   have hfin := zcZ (W := w1) E1.out.1.2.2 0 0 0 0 0; have hfb := zcA HB1.out (Nat.le_add_right _ 2) 0 0 0 0 0; unfold zcu at hfin hfb; have p0 := zab hfin 0; have p1 := zab hfin 1; have p2 := zab hfin 2; have p3 := zab hfin 3; have p4 := zab hfin 4; simp only [List.getElem?_toArray, List.getElem?_cons_zero, List.getElem?_cons_succ] at p0 p1 p2 p3 p4; refine bodyPost_ret (v := .tuple #[.agg #[.int .i64 0, .int .i64 0, .int .i64 0, .int .i64 0, .int .i64 0], .int .i64 0, .int .i64 31]) (by simp [results, Try.results50, go_sem, p0, p1, p2, p3, p4]) rfl ?_; exact ⟨rfl, hfb⟩
 rw [if_neg (fun h => h g1)] at hres; have c0 : checkP p = 0 := if_pos g1; rw [c0] at KC; clear c0; by_cases g2 : timedB now = false
 · rw [if_pos g2] at hres; subst hres; have hn : (decide (now < -4503599627370496) = true) ∨ (decide (now < -4503599627370496) = false ∧ decide (now > 4503599627370496) = true) := by
    unfold timedB at g2; simp only [decide_eq_true_eq, decide_eq_false_iff_not]; simp only [Bool.and_eq_false_iff, decide_eq_false_iff_not] at g2; omega
   clear g1 g2 KR KM hbad; obtain ⟨mn, mx, per, stale, step, ahead, cool, season⟩ := p; obtain ⟨pt, pr, pf, pp, pc⟩ := prev; dsimp only [zdI, zeh, zbl, zbx, zbK] at *
   rcases hn with n1 | ⟨n1, n2⟩
   all_goals
    go_enter Try.func50, Try.ntmps50
    go_wp2_with ((go_at_call 52; (with_reducible refine (KC.out _).mono ?_); rintro e w1 ⟨rfl, hb⟩; have E1 := zaa.mk (zdK.below E0.out hb); have HB1 := zaa.mk (HB0.out.trans (hb.mono (HB0.out).size)); clear hb; have k0 := zab E1.out.1.2.2 0; have k1 := zab E1.out.1.2.2 1; have k2 := zab E1.out.1.2.2 2; have k3 := zab E1.out.1.2.2 3; have k4 := zab E1.out.1.2.2 4; simp only [zbK, List.getElem?_toArray, List.getElem?_cons_zero, List.getElem?_cons_succ] at k0 k1 k2 k3 k4; have j0 := zab E1.out.2 0; have j1 := zab E1.out.2 1; have j2 := zab E1.out.2 2; have j3 := zab E1.out.2 3; have j4 := zab E1.out.2 4; simp only [zbK, List.getElem?_toArray, List.getElem?_cons_zero, List.getElem?_cons_succ] at j0 j1 j2 j3 j4; have l0 := zac E1.out.1.2.2 0; have l1 := zac E1.out.1.2.2 1; have l2 := zac E1.out.1.2.2 2; have l3 := zac E1.out.1.2.2 3; have l4 := zac E1.out.1.2.2 4))
    have hfin := zcZ (W := w1) E1.out.1.2.2 0 0 0 0 0; have hfb := zcA HB1.out (Nat.le_add_right _ 2) 0 0 0 0 0; unfold zcu at hfin hfb; have p0 := zab hfin 0; have p1 := zab hfin 1; have p2 := zab hfin 2; have p3 := zab hfin 3; have p4 := zab hfin 4; simp only [List.getElem?_toArray, List.getElem?_cons_zero, List.getElem?_cons_succ] at p0 p1 p2 p3 p4; refine bodyPost_ret (v := .tuple #[.agg #[.int .i64 0, .int .i64 0, .int .i64 0, .int .i64 0, .int .i64 0], .int .i64 0, .int .i64 21]) (by simp [results, Try.results50, go_sem, p0, p1, p2, p3, p4]) rfl ?_; exact ⟨rfl, hfb⟩
 have g2' : timedB now = true := by simpa using g2
 rw [if_neg g2] at hres; have g3 : RS.ris load 0 load.length = false := by
  cases h : RS.ris load 0 load.length
  · rfl
  · exact absurd ⟨g1, g2', h⟩ hbad
 rw [if_pos g3] at hres; subst hres; rw [g3] at KR; obtain ⟨n1, n2⟩ : -4503599627370496 ≤ now ∧ now ≤ 4503599627370496 := by simpa [timedB] using g2'
 have n1 : decide (now < -4503599627370496) = false := zdf zq8; have n2 : decide (now > 4503599627370496) = false := zdf zq8; clear g1 g2 g2' g3 hbad; obtain ⟨mn, mx, per, stale, step, ahead, cool, season⟩ := p; obtain ⟨pt, pr, pf, pp, pc⟩ := prev; dsimp only [zdI, zeh, zbl, zbx, zbK] at *; go_enter Try.func50, Try.ntmps50
 go_wp2_with (first | (go_at_call 52; (with_reducible refine (KC.out _).mono ?_); rintro e w1 ⟨rfl, hb⟩; have E1 := zaa.mk (zdK.below E0.out hb); have HB1 := zaa.mk (HB0.out.trans (hb.mono (HB0.out).size)); clear hb) | (go_at_call 86; (with_reducible refine (KM.out _ (Kd.zaL HR.out HB1.out)).mono ?_); rintro e w2 ⟨B, cB, rfl, hcB, hC, hb⟩; have E2 := zaa.mk (zdK.below E1.out hb); have HB2 := zaa.mk (HB1.out.trans (hb.mono HB1.out.size)); have HT := zaa.mk (And.intro hcB hC); clear hb hcB hC) | (go_at_call 85; (with_reducible refine (KR.out _ _ _ HT.out.2 HT.out.1).mono ?_); rintro e w3 ⟨rfl, hb⟩; have E3 := zaa.mk (zdK.below E2.out hb.below); have HB3 := zaa.mk (HB2.out.trans (hb.below.mono HB2.out.size)); clear hb; have k0 := zab E3.out.1.2.2 0; have k1 := zab E3.out.1.2.2 1; have k2 := zab E3.out.1.2.2 2; have k3 := zab E3.out.1.2.2 3; have k4 := zab E3.out.1.2.2 4; simp only [zbK, List.getElem?_toArray, List.getElem?_cons_zero, List.getElem?_cons_succ] at k0 k1 k2 k3 k4; have j0 := zab E3.out.2 0; have j1 := zab E3.out.2 1; have j2 := zab E3.out.2 2; have j3 := zab E3.out.2 3; have j4 := zab E3.out.2 4; simp only [zbK, List.getElem?_toArray, List.getElem?_cons_zero, List.getElem?_cons_succ] at j0 j1 j2 j3 j4; have l0 := zac E3.out.1.2.2 0; have l1 := zac E3.out.1.2.2 1; have l2 := zac E3.out.1.2.2 2; have l3 := zac E3.out.1.2.2 3; have l4 := zac E3.out.1.2.2 4))
 have hfin := zcZ (W := w3) E3.out.1.2.2 0 0 0 0 0; have hfb := zcA HB3.out (Nat.le_add_right _ 2) 0 0 0 0 0; unfold zcu at hfin hfb; have p0 := zab hfin 0; have p1 := zab hfin 1; have p2 := zab hfin 2; have p3 := zab hfin 3; have p4 := zab hfin 4; simp only [List.getElem?_toArray, List.getElem?_cons_zero, List.getElem?_cons_succ] at p0 p1 p2 p3 p4; refine bodyPost_ret (v := .tuple #[.agg #[.int .i64 0, .int .i64 0, .int .i64 0, .int .i64 0, .int .i64 0], .int .i64 0, .int .i64 21]) (by simp [results, Try.results50, go_sem, p0, p1, p2, p3, p4]) rfl ?_; exact ⟨rfl, hfb⟩
theorem znF (l : List S70) (i : Nat) (h : i < l.length) : l.take (i + 1) = l.take i ++ [l.getD i z70] := by
 rw [List.take_add_one, List.getD_eq_getElem?_getD, List.getElem?_eq_getElem h]; rfl
def StR (wr : World) (now rep fl plan ca : Int) (W : World) : Prop := Below wr.heap.size wr W ∧ W.heap[wr.heap.size]? = some (.cells #[.int .i64 now, .int .i64 rep, .int .i64 fl, .int .i64 plan, .int .i64 ca] 68 (0, 0))
theorem StR.below {wr W W' : World} {now rep fl plan ca : Int} (h : StR wr now rep fl plan ca W) (hb : Below W.heap.size W W') : StR wr now rep fl plan ca W' := ⟨h.1.trans (hb.mono h.1.size), zax h.2 hb⟩
theorem StR.drewN {wr W : World} {now rep fl plan ca : Int} (h : StR wr now rep fl plan ca W) (n : Nat) : StR wr now rep fl plan ca (W.drewN n) := h.below (zaj (Below.refl _ _) _)
theorem StR.set1 {wr W : World} {now rep fl plan ca : Int} (h : StR wr now rep fl plan ca W) (x : Int) : StR wr now x fl plan ca (W.setCell ⟨wr.heap.size, 1, none⟩ (.int .i64 x)) := ⟨h.1.setCell (Nat.le_refl _) _, zaA h.2 1 _ rfl⟩
theorem StR.set2 {wr W : World} {now rep fl plan ca : Int} (h : StR wr now rep fl plan ca W) (x : Int) : StR wr now rep x plan ca (W.setCell ⟨wr.heap.size, 2, none⟩ (.int .i64 x)) := ⟨h.1.setCell (Nat.le_refl _) _, zaA h.2 2 _ rfl⟩
theorem StR.set4 {wr W : World} {now rep fl plan ca : Int} (h : StR wr now rep fl plan ca W) (x : Int) : StR wr now rep fl plan x (W.setCell ⟨wr.heap.size, 4, none⟩ (.int .i64 x)) := ⟨h.1.setCell (Nat.le_refl _) _, zaA h.2 4 _ rfl⟩
theorem zjA : (Try.prog.info? 70).map (fun i => (i.zero, i.size, i.bytes)) = some (some (.agg #[.int .i64 0, .int .i64 0]), 2, 16) := by kernel_rfl
theorem zma {fn : Func} {t u v : Tmp} (h : fn.results = #[.cell t 68, .tmp u, .tmp v]) (tmps : Array Value) (W : World) (s : Nat) (a b c d e : Int) (ht : tmps.getD t undef = .pointer (some ⟨s, 0, none⟩)) (x y : Value) (hu : tmps.getD u undef = x) (hv : tmps.getD v undef = y) (p0 : W.cell? ⟨s, 0, none⟩ = some (.int .i64 a)) (p1 : W.cell? ⟨s, 1, none⟩ = some (.int .i64 b)) (p2 : W.cell? ⟨s, 2, none⟩ = some (.int .i64 c)) (p3 : W.cell? ⟨s, 3, none⟩ = some (.int .i64 d)) (p4 : W.cell? ⟨s, 4, none⟩ = some (.int .i64 e)) :
  (results fn tmps).run Try.prog W = .ok (.tuple #[.agg #[.int .i64 a, .int .i64 b, .int .i64 c, .int .i64 d, .int .i64 e], x, y]) W := by
 subst hu hv; rw [Array.getD_eq_getD_getElem?] at ht; simp [results, h, ht, go_sem, p0, p1, p2, p3, p4]
theorem zni (p : Pol) (now : Int) (A : Option Addr) (c : Nat) (load : List S70) (plan : Int) (prev : Dec) (changed : Int) (w : World) (hr : Kd.C k70 w A load.length load) (hc : load.length ≤ c) (hs : sIn load) (hper : FS.In p.per) (hch : FS.In changed) (hl : load.length ≤ 1000000000) (g1 : okP p) (g2 : timedB now = true) (g3 : RS.ris load 0 load.length = true) :
  Calls Try.prog 50 #[zdI p, .int .i64 now, .slice A load.length c, .int .i64 plan, zeh prev, .int .i64 changed] w fun e w' => e = .returned (.tuple #[zeh (decideP p now load plan prev changed).1, .int .i64 (decideP p now load plan prev changed).2.1, .int .i64 (decideP p now load plan prev changed).2.2]) ∧ Below w.heap.size w w' := by
 have HR := zaa.mk hr; clear hr; obtain ⟨n1, n2⟩ : -4503599627370496 ≤ now ∧ now ≤ 4503599627370496 := by simpa [timedB] using g2
 rw [zns g1 g2 g3]; dsimp only; have KC := zaa.mk (fun W => zfV p W); rw [show checkP p = 0 from if_pos g1] at KC; have E0 := zaa.mk (zpM w p prev); have HB0 := zaa.mk (zmL w p prev); unfold w0R at E0 HB0; have KM := zaa.mk (fun W (h : Kd.C k70 W A load.length load) => ziG A c load W h hc hl); have KR := zaa.mk (fun (B : Option Addr) (cB : Nat) W (h : Kd.C (Kd.int .i64) W B (RS.tms load).length (RS.tms load)) (hcB : (RS.tms load).length ≤ cB) => zhN B cB load W h hcB hl); rw [g3] at KR; have hu := zhr load now; have HU := zaa.mk (And.intro (zia load now) (znc now g3)); obtain ⟨l, hll⟩ : ∃ l, load.take (zck load now) = l := ⟨_, rfl⟩
 have hsl : sIn l := fun x hx => hs x (List.mem_of_mem_take (hll ▸ hx))
 rw [hll]; obtain ⟨u, huu⟩ : ∃ u, zck load now = u := ⟨_, rfl⟩
 rw [huu] at hu HU hll; clear huu; have hlen : l.length ≤ 1000000000 := by rw [← hll, List.length_take]; omega
 obtain ⟨d, hd⟩ : ∃ d : Dr, d = ⟨p, now, plan, prev, changed⟩ := ⟨_, rfl⟩
 rw [← hd]; have hn1 : decide (now < -4503599627370496) = false := zdf zq8; have hn2 : decide (now > 4503599627370496) = false := zdf zq8; obtain ⟨had, hhad⟩ : ∃ had, (prev.t != -9223372036854775808) = had := ⟨_, rfl⟩
 have G := zaa.mk (And.intro g1 (And.intro hs (And.intro hsl (And.intro hper (And.intro hch (And.intro hlen (And.intro n1 n2))))))); have GL := zaa.mk hll; have GN := zaa.mk (And.intro hu (And.intro hl hc)); have GD := zaa.mk hd; have GH := zaa.mk hhad; clear g1 g2 g3 hs hsl hper hch hll n1 n2 hlen hd hu hl hc; obtain ⟨mn, mx, per, stale, step, ahead, cool, season⟩ := p; obtain ⟨pt, pr, pf, pp, pc⟩ := prev; dsimp only [zdI, zeh, zbl, zbx, zbK] at *; go_enter Try.func50, Try.ntmps50
 go_wp2_with (first | (go_at_call 52; (with_reducible refine (KC.out _).mono ?_); rintro e w1 ⟨rfl, hb⟩; have E1 := zaa.mk (zdK.below E0.out hb); have HB1 := zaa.mk (HB0.out.trans (hb.mono (HB0.out).size)); clear hb) | (go_at_call 86; (with_reducible refine (KM.out _ (Kd.zaL HR.out HB1.out)).mono ?_); rintro e w2 ⟨B, cB, rfl, hcB, hC, hb⟩; have E2 := zaa.mk (zdK.below E1.out hb); have HB2 := zaa.mk (HB1.out.trans (hb.mono HB1.out.size)); have HT := zaa.mk (And.intro hcB hC); clear hb hcB hC) | (go_at_call 85; (with_reducible refine (KR.out _ _ _ HT.out.2 HT.out.1).mono ?_); rintro e w3 ⟨rfl, hb⟩; have E3 := zaa.mk (zdK.below E2.out hb.below); have HB3 := zaa.mk (HB2.out.trans (hb.below.mono HB2.out.size)); clear hb; have y0 := zab E3.out.1.2.1 0; simp only [zbx, List.getElem?_toArray, List.getElem?_cons_zero, List.getElem?_cons_succ] at y0))
 go_loopg [19, 20] (load.length + 1) (fun kq v19 v20 W' => ∃ i : Nat, v20 = .int .i64 (i : Int) ∧ zaa (kq + i = load.length + 1 ∧ i ≤ load.length) ∧ zaa (Kd.R k70 70 W' w3.heap.size (fun _ => True) v19 (load.take (min i u))) ∧ zaa (Below w3.heap.size w3 W'))
 case atStart => exact ⟨0, rfl, ⟨rfl, Nat.zero_le _⟩, ⟨by simp only [Nat.zero_min, List.take_zero]; exact Kd.R_nil _ _ _ _ _⟩, ⟨Below.refl _ _⟩⟩
 case round =>
  obtain ⟨i, rfl, HK, HO, HB⟩ := hrel; have hRw := Kd.zaL HR.out (HB3.out.trans (HB.out.mono HB3.out.size)); have HRw := zaa.mk hRw; clear hRw; by_cases c1 : i < load.length
  · have c2 : decide ((i : Int) < (load.length : Int)) = true := zdt zq8; obtain ⟨ad, e, r0, r1⟩ := zcd HRw.out (i : Int) zq8 zq8
    cases e; rw [zez, Int.toNat_natCast] at r0 r1; by_cases c3 : i < u; rotate_left
    · obtain ⟨dd, hdd⟩ : ∃ dd, u + dd = i := ⟨i - u, zq8⟩
      have g := HU.out.2 dd (hdd ▸ c1); rw [hdd] at g; have htk : load.take (min i u) = load.take (min (i + 1) u) := by rw [Nat.min_eq_right zq8, Nat.min_eq_right zq8]
      have c5 : wrap64 ((i : Int) + 1) = (i : Int) + 1 := by have := GN.out; exact zaI zq8 zq8
      clear hdd dd; have HO' : zaa (Kd.R k70 70 wr w3.heap.size (fun _ => True) u19 (load.take (min (i + 1) u))) := ⟨htk ▸ HO.out⟩
      obtain ⟨x, hx⟩ : ∃ x, load.getD i z70 = x := ⟨_, rfl⟩
      rw [hx] at r0 r1 g; obtain ⟨x0, x1⟩ := x; dsimp only at r0 r1 g; have c4 : decide (x0 ≤ now) = false := zdf zq8; clear hx g htk HO
      cases gk with
      | zero => exact absurd HK.out zq8
      | succ k1 =>
       go_wp2; go_roundg k1
       case measure => omega
       case rel => exact ⟨i + 1, zbR, ⟨zdh, zq8⟩, HO', HB⟩
    have g := HU.out.1 i c3; have htk : load.take (min i u) = load.take i := by rw [Nat.min_eq_left zq8]
    have htk1 : load.take (min (i + 1) u) = load.take i ++ [load.getD i z70] := by rw [Nat.min_eq_left zq8]; exact znF load i c1
    have HO' : zaa (Kd.R k70 70 wr w3.heap.size (fun _ => True) u19 (load.take i)) := ⟨htk ▸ HO.out⟩
    have c5 : wrap64 ((i : Int) + 1) = (i : Int) + 1 := by have := GN.out; exact zaI zq8 zq8
    have HX := zaa.mk (And.intro htk1 (rfl : load.getD i z70 = load.getD i z70)); obtain ⟨x, hx⟩ : ∃ x, load.getD i z70 = x := ⟨_, rfl⟩
    rw [hx] at r0 r1 g HX; obtain ⟨x0, x1⟩ := x; dsimp only at r0 r1 g; have c4 : decide (x0 ≤ now) = true := zdt g; clear hx g htk htk1 HO
    cases gk with
    | zero => exact absurd HK.out zq8
    | succ k1 =>
     go_wp2_with (at_builtin; refine Kd.zcy k70 (w0 := w3) w3.heap.size rfl (.tmp 65) (.tmp 70) 66 70 (.agg #[(.int .i64 0), (.int .i64 0)]) 16 rfl Try.underlying66 zjA rfl zaR zq8 u19 (load.take i) ⟨x0, x1⟩ [.int .i64 x0, .int .i64 x1] (fun _ => True) (fun _ => False) rfl rfl (zeD _ _ _ _) (fun _ hk => hk.elim) (fun _ _ => trivial) HO'.out HB.out HB.out.size (by have := GN.out; rw [List.length_take]; omega) ?_)
     intro v1 w1 ho hb _ _; have HO1 : zaa (Kd.R k70 70 w1 w3.heap.size (fun _ => True) v1 (load.take (min (i + 1) u))) := ⟨HX.out.1 ▸ ho⟩
     have HB1 := zaa.mk hb; clear ho hb; go_wp2; go_roundg k1
     case measure => omega
     case rel => exact ⟨i + 1, zbR, ⟨zdh, zq8⟩, HO1, HB1⟩
  have c2 : decide ((i : Int) < (load.length : Int)) = false := zdf zq8; obtain rfl : i = load.length := by have := HK.out; omega
  have htk : load.take (min load.length u) = l := by have := GN.out; rw [Nat.min_eq_right this.1]; exact GL.out
  rw [htk] at HO; obtain ⟨B, cB, rfl, hcB, hC⟩ := Kd.zew HO.out; have HL := zaa.mk (And.intro hcB hC); clear hcB hC HO htk HK c1; go_upto_if 91 with (fail)
  have hS0 : StR wr now 0 0 plan 0 (wr.alloc (.cells #[.int .i64 now, .int .i64 0, .int .i64 0, .int .i64 plan, .int .i64 0] 68)) := ⟨zaq (Below.refl _ _) _, zbL _ _⟩
  obtain ⟨W4, hW4⟩ : ∃ W4, wr.alloc (.cells #[.int .i64 now, .int .i64 0, .int .i64 0, .int .i64 plan, .int .i64 0] 68) = W4 := ⟨_, rfl⟩
  rw [hW4] at hS0 ⊢; have HWR := zaa.mk (And.intro (E3.out.below HB.out) (And.intro HL.out.2 (HB3.out.trans (HB.out.mono HB3.out.size)))); have hlen : l.length ≤ 1000000000 := G.out.2.2.2.2.2.1; have hst : (1 ≤ stale ∧ stale ≤ 9007199254740992) := G.out.1.2.2.2.2.1; have hnow : -4503599627370496 ≤ now ∧ now ≤ 4503599627370496 := G.out.2.2.2.2.2.2; obtain ⟨y, hy⟩ : ∃ y, now - stale = y := ⟨_, rfl⟩
  have ey : IntKind.i64.wrap (now - stale) = y := by rw [zaF, zaI zq8 zq8]; exact hy
  obtain ⟨fb, hfb⟩ : ∃ fb, decide (0 < l.length ∧ y < (zdz l).f0) = fb := ⟨_, rfl⟩
  have HFB := zaa.mk (And.intro hy hfb); have HLen := zaa.mk hlen; clear hW4 hst hnow hy; have HS0 := zaa.mk hS0; have HE4 := zaa.mk (zdK.below HWR.out.1 hS0.1); have HL4 := zaa.mk (Kd.zaL HWR.out.2.1 hS0.1); clear hS0; go_cut [91] (fun s91 wc => s91 = .bool fb ∧ StR wr now 0 0 plan 0 wc)
  case first => as_aux_lemma =>
   have x3 := zab HE4.out.1.1 3; simp only [zbl, List.getElem?_toArray, List.getElem?_cons_zero, List.getElem?_cons_succ] at x3; by_cases c0 : 0 < l.length; rotate_left
   · have e3 : decide ((0 : Int) < (l.length : Int)) = false := zdf zq8; have e3' : decide (0 < l.length) = false := zdf c0; obtain rfl : fb = false := by rw [← hfb]; exact zdf (fun h => c0 h.1)
     clear hfb c0; go_quiet (fail)
     go_wp2; go_meet
     case rel => exact ⟨rfl, HS0.out.drewN _⟩
   obtain ⟨m, hm⟩ : ∃ m, l.length = m + 1 := ⟨l.length - 1, zq8⟩
   have e1 : wrap64 ((l.length : Int) - 1) = (m : Int) := by rw [zaI zq8 zq8]; omega
   have e1' : IntKind.i64.wrap ((l.length : Int) - 1) = (m : Int) := (zaF _).trans e1; have e2 : (l.length : Int) - 1 = (m : Int) := by omega
   have e3 : decide ((0 : Int) < (l.length : Int)) = true := zdt zq8; have e3' : decide (0 < l.length) = true := zdt c0; have e4 : m < l.length := by omega
   obtain ⟨ad, ee, r0, r1⟩ := zcd HL4.out (m : Int) zq8 zq8; subst ee; have hla : zdz l = l.getD m z70 := by unfold zdz; rw [hm]; rfl
   rw [zez, Int.toNat_natCast, ← hla] at r0 r1; obtain ⟨S, hS⟩ : ∃ S, zdz l = S := ⟨_, rfl⟩
   rw [hS] at hfb r0 r1; clear hla hS; obtain ⟨T, V⟩ := S; dsimp only at hfb r0 r1; by_cases c3 : y < T
   · have e5 : decide (y < T) = true := zdt c3; obtain rfl : fb = true := by rw [← hfb]; exact zdt ⟨c0, c3⟩
     clear hfb hm c3 c0; go_quiet (fail)
     go_wp2; go_meet
     case rel => exact ⟨rfl, HS0.out.drewN _⟩
   have e5 : decide (y < T) = false := zdf c3; obtain rfl : fb = false := by rw [← hfb]; exact zdf (fun h => c3 h.2)
   clear hfb hm c3 c0; go_quiet (fail)
   go_wp2; go_meet
   case rel => exact ⟨rfl, HS0.out.drewN _⟩
  case rest => as_aux_lemma =>
   obtain ⟨rfl, hS5⟩ := hcut; clear HS0 HE4 HL4; go_upto_if 91 with (fail)
   obtain ⟨fl, hfl⟩ : ∃ fl, zeM d l = fl := ⟨_, rfl⟩
   have HFL := zaa.mk hfl; have HS5 := zaa.mk hS5; clear hS5; go_cut [] (fun wc => StR wr now 0 fl plan 0 wc)
   case first => as_aux_lemma =>
    have HE5 := zaa.mk (zdK.below HWR.out.1 HS5.out.1); have HL5 := zaa.mk (Kd.zaL HWR.out.2.1 HS5.out.1); have f2 := zac HS5.out.2 2; have q2 := zab HS5.out.2 2; simp only [List.getElem?_toArray, List.getElem?_cons_zero, List.getElem?_cons_succ] at q2; have x0 := zab HE5.out.1.1 0; have x1 := zab HE5.out.1.1 1; have x2 := zab HE5.out.1.1 2; have x3 := zab HE5.out.1.1 3; have x4 := zab HE5.out.1.1 4; have x5 := zab HE5.out.1.1 5; have x6 := zab HE5.out.1.1 6; have x7 := zab HE5.out.1.1 7; simp only [zbl, List.getElem?_toArray, List.getElem?_cons_zero, List.getElem?_cons_succ] at x0 x1 x2 x3 x4 x5 x6 x7; have y1 := zab HE5.out.1.2.1 1; simp only [zbx, List.getElem?_toArray, List.getElem?_cons_zero, List.getElem?_cons_succ] at y1
    cases fb
    · have hno : ¬ (0 < l.length ∧ now - stale < (zdz l).f0) := by rw [HFB.out.1]; exact of_decide_eq_false HFB.out.2
      cases had
      · have e : fl = mn := by
         rw [← HFL.out, GD.out]; unfold zeM; rw [if_neg hno, if_neg (fun h => by have := GH.out; simp [Dr.some] at h this; exact h this)]
        subst e; clear hno; go_wp2; go_meet
        case rel => exact StR.set2 HS5.out _
      · have e : fl = pr := by
         rw [← HFL.out, GD.out]; unfold zeM; rw [if_neg hno, if_pos (show _ from by have := GH.out; simp at this; exact this)]
        subst e; clear hno; go_wp2; go_meet
        case rel => exact StR.set2 HS5.out _
    · have hyes : 0 < l.length ∧ now - stale < (zdz l).f0 := by rw [HFB.out.1]; exact zod HFB.out.2
      have e : fl = floorP ⟨mn, mx, per, stale, step, ahead, cool, season⟩ (zdz l).f1 := by
       rw [← HFL.out, GD.out]; unfold zeM; rw [if_pos hyes]
      obtain ⟨c0, _⟩ := hyes; obtain ⟨m, hm⟩ : ∃ m, l.length = m + 1 := ⟨l.length - 1, zq8⟩
      have e1 : wrap64 ((l.length : Int) - 1) = (m : Int) := by have := HLen.out; rw [zaI zq8 zq8]; omega
      have e1' : IntKind.i64.wrap ((l.length : Int) - 1) = (m : Int) := (zaF _).trans e1; have e2 : (l.length : Int) - 1 = (m : Int) := by omega
      have e4 : m < l.length := by omega
      obtain ⟨ad, ee, r0, r1⟩ := zcd HL5.out (m : Int) zq8 zq8; subst ee; have hla : zdz l = l.getD m z70 := by unfold zdz; rw [hm]; rfl
      rw [zez, Int.toNat_natCast, ← hla] at r0 r1; have hsv : FS.In (zdz l).f1 := by
       have : zdz l ∈ l := by rw [hla, List.getD_eq_getElem?_getD, List.getElem?_eq_getElem e4]; exact List.getElem_mem e4
       exact (G.out.2.2.1 _ this).2
      have KF := zaa.mk (fun W => zie ⟨mn, mx, per, stale, step, ahead, cool, season⟩ (zdz l).f1 hsv G.out.2.2.2.1 W); rw [← e] at KF; dsimp only [zdI] at KF; obtain ⟨V, hV⟩ : ∃ V, (zdz l).f1 = V := ⟨_, rfl⟩
      rw [hV] at KF r1; clear e hsv hla c0 hm hV r0; go_wp2; refine zdR 8 zq6 zq6 (fun _ _ _ _ _ h => h) ?_; simp only [List.take_succ_cons, List.take_zero, List.drop_succ_cons, List.drop_zero]; repeat (go_big_quiet_step (fail))
      refine wpQuiet_nil ?_; rintro W6 ⟨nq, hnq⟩; have HS6 : zaa (StR wr now 0 0 plan 0 W6) := ⟨hnq ▸ HS5.out.drewN _⟩
      clear hnq nq x0 x1 x2 x3 x4 x5 x6 x7 y1 r1 f2 q2; go_wp2_with (go_at_call 54; (with_reducible refine (KF.out _).mono ?_); rintro e w7 ⟨rfl, hb⟩; have HS7 := zaa.mk (HS6.out.below hb); clear hb; have f2 := zac HS7.out.2 2; have q2 := zab HS7.out.2 2; simp only [List.getElem?_toArray, List.getElem?_cons_zero, List.getElem?_cons_succ] at q2)
      go_meet
      case rel => exact StR.set2 HS7.out _
   case rest => as_aux_lemma =>
    have HS6 := zaa.mk hcut; clear hcut HS5 HFB; have HE6 := zaa.mk (zdK.below HWR.out.1 HS6.out.1); have x4 := zab HE6.out.1.1 4; have x7 := zab HE6.out.1.1 7; simp only [zbl, List.getElem?_toArray, List.getElem?_cons_zero, List.getElem?_cons_succ] at x4 x7; have hse : 1 ≤ season ∧ season ≤ 500 := G.out.1.2.2.2.2.2.2.2.2.2; obtain ⟨N, hN⟩ : ∃ N, 4 * season = N := ⟨_, rfl⟩
    have n1 : 4 ≤ N ∧ N ≤ 2000 := by omega
    have eN : wrap64 (4 * season) = N := by rw [hN]; exact zaI zq8 zq8
    have eN' : IntKind.i64.wrap (4 * season) = N := (zaF _).trans eN; obtain ⟨Q, hQ⟩ : ∃ Q, 4503599627370496 / N = Q := ⟨_, rfl⟩
    have q0 : 0 ≤ Q ∧ Q ≤ 4503599627370496 := by rw [← hQ]; exact ⟨Int.ediv_nonneg zq8 zq8, Int.ediv_le_self _ zq8⟩
    have eQ : Int.tdiv 4503599627370496 N = Q := by rw [Int.tdiv_eq_ediv_of_nonneg zq8]; exact hQ
    have eQ' : IntKind.i64.wrap Q = Q := by rw [zaF]; exact zaI zq8 zq8
    have zN : ¬ N = 0 := by omega
    have zN' : (N = 0) = False := eq_false zN; have zN2 : (N == 0) = false := by simp [zN]
    have HN := zaa.mk (And.intro hN (And.intro n1 (And.intro hse hQ))); clear hN n1 q0 hQ zN hse; go_upto_if 116 with (fail)
    go_quiet (fail)
    go_upto_if 116 with (fail)
    obtain ⟨ca, hca⟩ : ∃ ca, zfA d l = ca := ⟨_, rfl⟩
    have HCA := zaa.mk hca; clear hca; have HS7 : zaa (StR wr now 0 fl plan 0 (wc.drewN nq)) := ⟨HS6.out.drewN _⟩
    obtain ⟨W7, hW7⟩ : ∃ W7, wc.drewN nq = W7 := ⟨_, rfl⟩
    rw [hW7] at HS7 ⊢; clear hW7 x4 x7 HE6 HS6; go_cut [] (fun wc => StR wr now 0 fl plan ca wc)
    case first => as_aux_lemma =>
     have HE7 := zaa.mk (zdK.below HWR.out.1 HS7.out.1); have HL7 := zaa.mk (Kd.zaL HWR.out.2.1 HS7.out.1); have x0 := zab HE7.out.1.1 0; have x1 := zab HE7.out.1.1 1; have x2 := zab HE7.out.1.1 2; have x3 := zab HE7.out.1.1 3; have x4 := zab HE7.out.1.1 4; have x5 := zab HE7.out.1.1 5; have x6 := zab HE7.out.1.1 6; have x7 := zab HE7.out.1.1 7; simp only [zbl, List.getElem?_toArray, List.getElem?_cons_zero, List.getElem?_cons_succ] at x0 x1 x2 x3 x4 x5 x6 x7; have hca := HCA.out; rw [GD.out, zpA G.out.1] at hca; unfold zge zfu zio at hca; dsimp only at hca; rw [HN.out.1, HN.out.2.2.2] at hca; by_cases h1 : Q < step
     · rw [if_pos h1] at hca; subst hca; have c1 : decide (step ≤ Q) = false := zdf zq8; rw [c1]; clear h1; go_wp2; go_meet
       case rel => exact HS7.out
     rw [if_neg h1] at hca; have c1 : decide (step ≤ Q) = true := zdt zq8; rw [c1]; obtain ⟨s1, s2⟩ : 1 ≤ step ∧ step ≤ 9007199254740992 := G.out.1.2.2.2.2.2.1; obtain ⟨a1, a2, e1, e2⟩ : 1 ≤ ahead ∧ ahead ≤ 100 ∧ 1 ≤ season ∧ season ≤ 500 := G.out.1.2.2.2.2.2.2.2; have n1 := HN.out.2.1; have hnow : -4503599627370496 ≤ now ∧ now ≤ 4503599627370496 := G.out.2.2.2.2.2.2; have hlen := HLen.out; obtain ⟨p0, p1⟩ := zoj (N := N) (step := step) zq8 s1 (by rw [HN.out.2.2.2]; exact h1); obtain ⟨P, hP⟩ : ∃ P, N * step = P := ⟨_, rfl⟩
     rw [hP] at p0 p1 hca; have eP : IntKind.i64.wrap (N * step) = P := by rw [zaF, hP]; exact zaI zq8 zq8
     have eP' : wrap64 (N * step) = P := by rw [hP]; exact zaI zq8 zq8
     obtain ⟨M, hM⟩ : ∃ M, now + 1 = M := ⟨_, rfl⟩
     have eM : IntKind.i64.wrap (now + 1) = M := by rw [zaF, hM]; exact zaI zq8 zq8
     have eM' : wrap64 (now + 1) = M := by rw [hM]; exact zaI zq8 zq8
     rw [hM] at hca; obtain ⟨F, hF⟩ : ∃ F, M - P = F := ⟨_, rfl⟩
     have eF : IntKind.i64.wrap (M - P) = F := by rw [zaF, hF]; exact zaI zq8 zq8
     have eF' : wrap64 (M - P) = F := by rw [hF]; exact zaI zq8 zq8
     rw [hF] at hca; have KP := zaa.mk (fun W (h : Kd.C k70 W B l.length l) => zkI B cB l F step N W h HL.out.1 hlen); have hpi := zkt G.out.2.2.1 F step N; have hpl := zju l F step N zq8; obtain ⟨ps, hps⟩ : ∃ ps, (zce l F step N).1 = ps := ⟨_, rfl⟩
     obtain ⟨pe, hpe⟩ : ∃ pe, (zce l F step N).2 = pe := ⟨_, rfl⟩
     obtain ⟨gs, hgs⟩ : ∃ gs, (zeV l F step N).1 = gs := ⟨_, rfl⟩
     rw [hps, hpe, hgs] at KP; rw [hps] at hpi hpl; rw [hps, hgs] at hca; have KK := zaa.mk (fun W (A2 : Option Addr) (c2 : Nat) (h : Kd.C (Kd.int .i64) W A2 ps.length ps) (hc2 : ps.length ≤ c2) => zlX A2 c2 ps season ahead W h hc2 hpi ⟨zq8, zq8⟩ ⟨zq8, zq8⟩ zq8); obtain ⟨kv, hkv⟩ : ∃ kv, (zde ps season ahead).1 = kv := ⟨_, rfl⟩
     obtain ⟨ke, hke⟩ : ∃ ke, (zde ps season ahead).2 = ke := ⟨_, rfl⟩
     have hkin : FS.In kv := by
      rw [← hkv]; exact zmv hpi season ahead
     rw [hkv, hke] at KK; rw [hkv] at hca; have KF := zaa.mk (fun W => zie ⟨mn, mx, per, stale, step, ahead, cool, season⟩ kv hkin G.out.2.2.2.1 W); dsimp only [zdI] at KF; obtain ⟨H, hH⟩ : ∃ H, N / 2 = H := ⟨_, rfl⟩
     have eH : Int.tdiv N 2 = H := by rw [Int.tdiv_eq_ediv_of_nonneg zq8]; exact hH
     have eH' : wrap64 H = H := zaI zq8 zq8; have eH2 : IntKind.i64.wrap H = H := (zaF _).trans eH'; rw [hH] at hca; clear hps hpe hgs hkv hke hkin hpi hpl s1 s2 a1 a2 e1 e2 n1 p0 p1 hP hM hF hH h1 hnow hlen; by_cases h2 : 0 < ps.length; rotate_left
     · have c2 : decide ((0 : Int) < (ps.length : Int)) = false := zdf zq8; have c2' : decide (0 < ps.length) = false := zdf h2; rw [if_neg (fun h => h2 h.1)] at hca; subst hca; clear h2; go_wp2_with (first | (go_at_call 87; (with_reducible refine (KP.out _ HL7.out).mono ?_); rintro e w8 ⟨B2, cB2, rfl, hcB2, hC2, hb⟩; have HS8 := zaa.mk (HS7.out.below hb); have HC8 := zaa.mk (And.intro hcB2 hC2); have HE8 := zaa.mk (zdK.below HWR.out.1 HS8.out.1); clear hb hcB2 hC2 x0 x1 x2 x3 x4 x5 x6 x7; have x0 := zab HE8.out.1.1 0; have x1 := zab HE8.out.1.1 1; have x2 := zab HE8.out.1.1 2; have x3 := zab HE8.out.1.1 3; have x4 := zab HE8.out.1.1 4; have x5 := zab HE8.out.1.1 5; have x6 := zab HE8.out.1.1 6; have x7 := zab HE8.out.1.1 7; simp only [zbl, List.getElem?_toArray, List.getElem?_cons_zero, List.getElem?_cons_succ] at x0 x1 x2 x3 x4 x5 x6 x7))
       go_meet
       case rel => exact HS8.out
     have c2 : decide ((0 : Int) < (ps.length : Int)) = true := zdt zq8; have c2' : decide (0 < ps.length) = true := zdt h2; by_cases h3 : gs ≤ H
     · have c3 := zdt h3; have c3' : decide (H < gs) = false := zdf zq8; rw [if_pos ⟨h2, h3⟩] at hca; rw [hca] at KF; clear h2 h3 hca; go_wp2_with (first | (go_at_call 87; (with_reducible refine (KP.out _ HL7.out).mono ?_); rintro e w8 ⟨B2, cB2, rfl, hcB2, hC2, hb⟩; have HS8 := zaa.mk (HS7.out.below hb); have HC8 := zaa.mk (And.intro hcB2 hC2); have HE8 := zaa.mk (zdK.below HWR.out.1 HS8.out.1); clear hb hcB2 hC2 x0 x1 x2 x3 x4 x5 x6 x7; have x0 := zab HE8.out.1.1 0; have x1 := zab HE8.out.1.1 1; have x2 := zab HE8.out.1.1 2; have x3 := zab HE8.out.1.1 3; have x4 := zab HE8.out.1.1 4; have x5 := zab HE8.out.1.1 5; have x6 := zab HE8.out.1.1 6; have x7 := zab HE8.out.1.1 7; simp only [zbl, List.getElem?_toArray, List.getElem?_cons_zero, List.getElem?_cons_succ] at x0 x1 x2 x3 x4 x5 x6 x7) | (go_at_call 46; (with_reducible refine (KK.out _ _ _ HC8.out.2 HC8.out.1).mono ?_); rintro e w9 ⟨rfl, hb⟩; have HS9 := zaa.mk (HS8.out.below hb); have HE9 := zaa.mk (zdK.below HWR.out.1 HS9.out.1); clear hb x0 x1 x2 x3 x4 x5 x6 x7; have x0 := zab HE9.out.1.1 0; have x1 := zab HE9.out.1.1 1; have x2 := zab HE9.out.1.1 2; have x3 := zab HE9.out.1.1 3; have x4 := zab HE9.out.1.1 4; have x5 := zab HE9.out.1.1 5; have x6 := zab HE9.out.1.1 6; have x7 := zab HE9.out.1.1 7; simp only [zbl, List.getElem?_toArray, List.getElem?_cons_zero, List.getElem?_cons_succ] at x0 x1 x2 x3 x4 x5 x6 x7) | (go_at_call 54; (with_reducible refine (KF.out _).mono ?_); rintro e w10 ⟨rfl, hb⟩; have HS10 := zaa.mk (HS9.out.below hb); clear hb x0 x1 x2 x3 x4 x5 x6 x7; have f4 := zac HS10.out.2 4; have q4 := zab HS10.out.2 4; simp only [List.getElem?_toArray, List.getElem?_cons_zero, List.getElem?_cons_succ] at q4))
       go_meet
       case rel => exact StR.set4 HS10.out _
     have c3 := zdf h3; have c3' : decide (H < gs) = true := zdt zq8; rw [if_neg (fun h => h3 h.2)] at hca; subst hca; clear h2 h3; go_wp2_with (first | (go_at_call 87; (with_reducible refine (KP.out _ HL7.out).mono ?_); rintro e w8 ⟨B2, cB2, rfl, hcB2, hC2, hb⟩; have HS8 := zaa.mk (HS7.out.below hb); have HC8 := zaa.mk (And.intro hcB2 hC2); have HE8 := zaa.mk (zdK.below HWR.out.1 HS8.out.1); clear hb hcB2 hC2 x0 x1 x2 x3 x4 x5 x6 x7; have x0 := zab HE8.out.1.1 0; have x1 := zab HE8.out.1.1 1; have x2 := zab HE8.out.1.1 2; have x3 := zab HE8.out.1.1 3; have x4 := zab HE8.out.1.1 4; have x5 := zab HE8.out.1.1 5; have x6 := zab HE8.out.1.1 6; have x7 := zab HE8.out.1.1 7; simp only [zbl, List.getElem?_toArray, List.getElem?_cons_zero, List.getElem?_cons_succ] at x0 x1 x2 x3 x4 x5 x6 x7))
     go_meet
     case rel => exact HS8.out
    case rest => as_aux_lemma =>
     have HS8 := zaa.mk hcut; clear hcut HS7 HN; obtain ⟨a, ha⟩ : ∃ a, (if fl < plan then plan else fl) = a := ⟨_, rfl⟩
     obtain ⟨M, hM⟩ : ∃ M, (if a < ca then ca else a) = M := ⟨_, rfl⟩
     have hm3 : zki fl plan ca = M := by unfold zki; rw [ha]; exact hM
     have HM := zaa.mk (And.intro ha (And.intro hM hm3)); clear ha hM hm3; have q2 := zab HS8.out.2 2; simp only [List.getElem?_toArray, List.getElem?_cons_zero, List.getElem?_cons_succ] at q2; go_upto_if 159 with (fail)
     go_cut [28] (fun s28 w' => s28 = .int .i64 a ∧ w' = wc)
     case first => as_aux_lemma =>
      by_cases h1 : fl < plan
      · have c1 : decide (plan > fl) = true := zdt h1; have e : a = plan := by rw [← HM.out.1, if_pos h1]
        subst e; rw [c1]; clear h1; go_wp2; go_meet
        case rel => exact ⟨rfl, rfl⟩
      have c1 : decide (plan > fl) = false := zdf h1; have e : a = fl := by rw [← HM.out.1, if_neg h1]
      subst e; rw [c1]; clear h1; go_wp2; go_meet
      case rel => exact ⟨rfl, rfl⟩
     case rest => as_aux_lemma =>
      obtain ⟨rfl, rfl⟩ := hcut; have q4 := zab HS8.out.2 4; simp only [List.getElem?_toArray, List.getElem?_cons_zero, List.getElem?_cons_succ] at q4; go_upto_if 164 with (fail)
      go_cut [28] (fun s28 w' => s28 = .int .i64 M ∧ StR wr now 0 fl plan ca w')
      case first => as_aux_lemma =>
       by_cases h1 : a < ca
       · have c1 : decide (ca > a) = true := zdt h1; have e : M = ca := by rw [← HM.out.2.1, if_pos h1]
         subst e; rw [c1]; clear h1; go_wp2; go_meet
         case rel => exact ⟨rfl, HS8.out⟩
       have c1 : decide (ca > a) = false := zdf h1; have e : M = a := by rw [← HM.out.2.1, if_neg h1]
       subst e; rw [c1]; clear h1; go_wp2; go_meet
       case rel => exact ⟨rfl, HS8.out⟩
      case rest => as_aux_lemma =>
       obtain ⟨rfl, hS9⟩ := hcut; have HS9 := zaa.mk hS9; clear hS9 HS8 q2 q4; have HE9 := zaa.mk (zdK.below HWR.out.1 HS9.out.1); have x0 := zab HE9.out.1.1 0; have x1 := zab HE9.out.1.1 1; have x2 := zab HE9.out.1.1 2; have x3 := zab HE9.out.1.1 3; have x4 := zab HE9.out.1.1 4; have x5 := zab HE9.out.1.1 5; have x6 := zab HE9.out.1.1 6; have x7 := zab HE9.out.1.1 7; simp only [zbl, List.getElem?_toArray, List.getElem?_cons_zero, List.getElem?_cons_succ] at x0 x1 x2 x3 x4 x5 x6 x7; obtain ⟨n0, hn0⟩ : ∃ n0, zcV M mn mx = n0 := ⟨_, rfl⟩
       obtain ⟨kp, hkp⟩ : ∃ kp, zcV pr mn mx = kp := ⟨_, rfl⟩
       obtain ⟨sm, hsm⟩ : ∃ sm, addS changed cool = sm := ⟨_, rfl⟩
       have hco : 0 ≤ cool ∧ cool ≤ 9007199254740992 := G.out.1.2.2.2.2.2.2.1; have hcin : FS.In cool := ⟨zq8, zq8⟩
       have KB1 := zaa.mk (fun W => zig M mn mx W); have KB2 := zaa.mk (fun W => zig pr mn mx W); have KA := zaa.mk (fun W => zjb (w := W) G.out.2.2.2.2.1 hcin); rw [hn0] at KB1; rw [hkp] at KB2; rw [hsm] at KA; have hw : zeS d l = n0 := by
        unfold zeS Dr.bounded; rw [HFL.out, HCA.out, GD.out]; show zcV (zki fl plan ca) mn mx = n0
        rw [HM.out.2.2]; exact hn0
       have hre : d.rests ↔ now < sm := by
        rw [GD.out, ← hsm]; exact znJ G.out.2.2.2.2.1 hco.1 hco.2 G.out.2.2.2.2.2.2.2
       have hso : d.some ↔ had = true := by
        rw [GD.out, ← GH.out]; unfold Dr.some; simp
       have hrr : zgW d l = if d.some ∧ n0 < pr ∧ d.rests then kp else n0 := by
        rw [← zpW (show okP d.p by rw [GD.out]; exact G.out.1)]; unfold zpa; rw [hw]; have e1 : d.prev.rep = pr := by rw [GD.out]
        have e2 : d.bounded pr = kp := by rw [GD.out]; exact hkp
        rw [e1, e2]
       have hch : zgE d l = if ¬ d.some ∨ zgW d l ≠ pr then now else changed := by
        unfold zgE; have e1 : d.prev.rep = pr := by rw [GD.out]
        have e2 : d.now = now := by rw [GD.out]
        have e3 : d.changed = changed := by rw [GD.out]
        rw [e1, e2, e3]
       have HV := zaa.mk (And.intro hso (And.intro hre (And.intro hrr hch))); have eT : (zgC d l).t = now := by rw [GD.out]; rfl
       have eP : (zgC d l).plan = plan := by rw [GD.out]; rfl
       have eF : (zgC d l).floor = fl := HFL.out; have eC : (zgC d l).cast = ca := HCA.out; have eR : (zgC d l).rep = zgW d l := rfl; have HV2 := zaa.mk (And.intro eT (And.intro eP (And.intro eF (And.intro eC eR)))); clear hn0 hkp hsm hco hcin hw hre hso hrr hch eT eP eF eC eR; go_upto_region 36 with (go_at_call 88; (with_reducible refine (KB1.out _).mono ?_); rintro e w10 ⟨rfl, hb⟩; have HS10 := zaa.mk (HS9.out.below hb.below); clear hb x0 x1 x2 x3 x4 x5 x6 x7; have f1 := zac HS10.out.2 1; have q1 := zab HS10.out.2 1; simp only [List.getElem?_toArray, List.getElem?_cons_zero, List.getElem?_cons_succ] at q1)
       have HS12 := zaa.mk (StR.set1 HS10.out n0); obtain ⟨W12, hW12⟩ : ∃ W12, w10.setCell ⟨wr.heap.size, 1, none⟩ (.int .i64 n0) = W12 := ⟨_, rfl⟩
       rw [hW12] at HS12 ⊢; clear hW12 f1 q1 HS10 HE9; have HE12 := zaa.mk (zdK.below HWR.out.1 HS12.out.1); have x0 := zab HE12.out.1.1 0; have x1 := zab HE12.out.1.1 1; have x2 := zab HE12.out.1.1 2; have x3 := zab HE12.out.1.1 3; have x4 := zab HE12.out.1.1 4; have x5 := zab HE12.out.1.1 5; have x6 := zab HE12.out.1.1 6; have x7 := zab HE12.out.1.1 7; simp only [zbl, List.getElem?_toArray, List.getElem?_cons_zero, List.getElem?_cons_succ] at x0 x1 x2 x3 x4 x5 x6 x7; have y0 := zab HE12.out.1.2.1 0; have y1 := zab HE12.out.1.2.1 1; have y2 := zab HE12.out.1.2.1 2; have y3 := zab HE12.out.1.2.1 3; have y4 := zab HE12.out.1.2.1 4; simp only [zbx, List.getElem?_toArray, List.getElem?_cons_zero, List.getElem?_cons_succ] at y0 y1 y2 y3 y4; have j0 := zab HS12.out.2 0; have j1 := zab HS12.out.2 1; have j2 := zab HS12.out.2 2; have j3 := zab HS12.out.2 3; have j4 := zab HS12.out.2 4; simp only [List.getElem?_toArray, List.getElem?_cons_zero, List.getElem?_cons_succ] at j0 j1 j2 j3 j4; have f1 := zac HS12.out.2 1; obtain ⟨g, hg⟩ : ∃ g : Bool, (had && decide (n0 < pr) && decide (now < sm)) = g := ⟨_, rfl⟩
       obtain ⟨R, hR⟩ : ∃ R, zgW d l = R := ⟨_, rfl⟩
       obtain ⟨C, hC⟩ : ∃ C, zgE d l = C := ⟨_, rfl⟩
       have hR1 : R = if g = true then kp else n0 := by
        rw [← hR, HV.out.2.2.1, ← hg]; by_cases q : d.some ∧ n0 < pr ∧ d.rests
        · rw [if_pos q, if_pos (by rw [HV.out.1.mp q.1, zdt q.2.1, zdt (HV.out.2.1.mp q.2.2)]; rfl)]
        rw [if_neg q, if_neg (fun h => q (by simp only [Bool.and_eq_true, decide_eq_true_eq] at h; exact ⟨HV.out.1.mpr h.1.1, h.1.2, HV.out.2.1.mpr h.2⟩))]
       obtain ⟨g2, hg2⟩ : ∃ g2 : Bool, (!had || (R != pr)) = g2 := ⟨_, rfl⟩
       have hC1 : C = if g2 = true then now else changed := by
        rw [← hC, HV.out.2.2.2, hR, ← hg2]; by_cases q : ¬ d.some ∨ R ≠ pr
        · rw [if_pos q, if_pos (by rcases q with q | q; rw [show had = false by cases had; rfl; exact absurd (HV.out.1.mpr rfl) q]; rfl; rw [bne_iff_ne.mpr q, Bool.or_true])]
        rw [if_neg q, if_neg (fun h => q (by simp only [Bool.or_eq_true, Bool.not_eq_true', bne_iff_ne] at h; rcases h with h | h; exact .inl (fun s => by have := HV.out.1.mp s; rw [h] at this; cases this); exact .inr h))]
       have HG := zaa.mk (And.intro hg (And.intro hR1 (And.intro hg2 (And.intro hC1 (And.intro hR hC))))); clear hg hR1 hg2 hC1 hR hC; go_upto_region 37 with (go_at_call 88; (with_reducible refine (KB2.out _).mono ?_); rintro e w13 ⟨rfl, hb⟩; have HS13 := zaa.mk (HS12.out.below hb.below); clear hb)
       clear x0 x1 x2 x3 x4 x5 x6 x7 y0 y1 y2 y3 y4 j0 j1 j2 j3 j4 f1 HS12 HE12; go_cut [196] (fun s196 wc => s196 = .bool g ∧ StR wr now n0 fl plan ca wc)
       case first => as_aux_lemma =>
        have HE13 := zaa.mk (zdK.below HWR.out.1 HS13.out.1); have x6 := zab HE13.out.1.1 6; simp only [zbl, List.getElem?_toArray, List.getElem?_cons_zero, List.getElem?_cons_succ] at x6; have y1 := zab HE13.out.1.2.1 1; simp only [zbx, List.getElem?_toArray, List.getElem?_cons_zero, List.getElem?_cons_succ] at y1; have hg := HG.out.1
        cases had
        · obtain rfl : g = false := by rw [← hg]; rfl
          clear hg; go_wp2; go_meet
          case rel => exact ⟨rfl, HS13.out⟩
        · by_cases h1 : n0 < pr; rotate_left
          · have c1 : decide (n0 < pr) = false := zdf h1; rw [c1] at hg; obtain rfl : g = false := by rw [← hg]; rfl
            clear hg h1; go_wp2; go_meet
            case rel => exact ⟨rfl, HS13.out⟩
          have c1 : decide (n0 < pr) = true := zdt h1; rw [c1] at hg; clear h1; by_cases h2 : now < sm
          · have c2 : decide (now < sm) = true := zdt h2; obtain rfl : g = true := by rw [← hg, c2]; rfl
            clear hg h2; go_wp2_with (go_at_call 55; (with_reducible refine (KA.out _).mono ?_); rintro e w14 ⟨rfl, hb⟩; have HS14 := zaa.mk (HS13.out.below hb.below); clear hb)
            go_meet
            case rel => exact ⟨rfl, HS14.out⟩
          have c2 : decide (now < sm) = false := zdf h2; obtain rfl : g = false := by rw [← hg, c2]; rfl
          clear hg h2; go_wp2_with (go_at_call 55; (with_reducible refine (KA.out _).mono ?_); rintro e w14 ⟨rfl, hb⟩; have HS14 := zaa.mk (HS13.out.below hb.below); clear hb)
          go_meet
          case rel => exact ⟨rfl, HS14.out⟩
       case rest => as_aux_lemma =>
        obtain ⟨rfl, hS15⟩ := hcut; have HS15 := zaa.mk hS15; clear hS15 HS13; go_upto_if 196 with (fail)
        go_cut [] (fun wc => StR wr now R fl plan ca wc)
        case first => as_aux_lemma =>
         have f1 := zac HS15.out.2 1; have q1 := zab HS15.out.2 1; simp only [List.getElem?_toArray, List.getElem?_cons_zero, List.getElem?_cons_succ] at q1; have hR1 := HG.out.2.1
         cases g
         · obtain rfl : R = n0 := by rw [hR1, if_neg zaR]
           clear hR1; go_wp2; go_meet
           case rel => exact HS15.out
         · obtain rfl : R = kp := by rw [hR1, if_pos rfl]
           clear hR1; go_wp2; go_meet
           case rel => exact StR.set1 HS15.out _
        case rest => as_aux_lemma =>
         have HS16 := zaa.mk hcut; clear hcut HS15; have HE16 := zaa.mk (zdK.below HWR.out.1 HS16.out.1); go_upto_region 39 with (fail)
         go_cut [207] (fun s207 wc => s207 = .bool g2 ∧ StR wr now R fl plan ca wc)
         case first => as_aux_lemma =>
          have y1 := zab HE16.out.1.2.1 1; simp only [zbx, List.getElem?_toArray, List.getElem?_cons_zero, List.getElem?_cons_succ] at y1; have j1 := zab HS16.out.2 1; simp only [List.getElem?_toArray, List.getElem?_cons_zero, List.getElem?_cons_succ] at j1; have hg2 := HG.out.2.2.1
          cases had
          · obtain rfl : g2 = true := by rw [← hg2]; rfl
            clear hg2; go_wp2; go_meet
            case rel => exact ⟨rfl, HS16.out⟩
          · obtain ⟨q, hq⟩ : ∃ q : Bool, (R != pr) = q := ⟨_, rfl⟩
            obtain rfl : q = g2 := by rw [← hg2, hq]; rfl
            clear hg2; go_wp2; go_meet
            case rel => exact ⟨rfl, HS16.out⟩
         case rest => as_aux_lemma =>
          obtain ⟨rfl, hS17⟩ := hcut; have HS17 := zaa.mk hS17; clear hS17 HS16 HE16; go_upto_if 207 with (fail)
          go_cut [5] (fun s5 wc => s5 = .int .i64 C ∧ StR wr now R fl plan ca wc)
          case first => as_aux_lemma =>
           have hC1 := HG.out.2.2.2.1
           cases g2
           · obtain rfl : C = changed := by rw [hC1, if_neg zaR]
             clear hC1; go_wp2; go_meet
             case rel => exact ⟨rfl, HS17.out⟩
           · obtain rfl : C = now := by rw [hC1, if_pos rfl]
             clear hC1; go_wp2; go_meet
             case rel => exact ⟨rfl, HS17.out⟩
          case rest => as_aux_lemma =>
           obtain ⟨rfl, hS18⟩ := hcut; go_upto_region 41 with (fail)
           have HSF := zaa.mk hS18; clear hS18 HS17; have HEF := zaa.mk (zdK.below HWR.out.1 HSF.out.1); have HBF := zaa.mk (HWR.out.2.2.trans (HSF.out.1.mono HWR.out.2.2.size)); have j0 := zab HSF.out.2 0; have j1 := zab HSF.out.2 1; have j2 := zab HSF.out.2 2; have j3 := zab HSF.out.2 3; have j4 := zab HSF.out.2 4; simp only [List.getElem?_toArray, List.getElem?_cons_zero, List.getElem?_cons_succ] at j0 j1 j2 j3 j4; have k0 := zab HEF.out.1.2.2 0; have k1 := zab HEF.out.1.2.2 1; have k2 := zab HEF.out.1.2.2 2; have k3 := zab HEF.out.1.2.2 3; have k4 := zab HEF.out.1.2.2 4; simp only [zbK, List.getElem?_toArray, List.getElem?_cons_zero, List.getElem?_cons_succ] at k0 k1 k2 k3 k4; have l0 := zac HEF.out.1.2.2 0; have l1 := zac HEF.out.1.2.2 1; have l2 := zac HEF.out.1.2.2 2; have l3 := zac HEF.out.1.2.2 3; have l4 := zac HEF.out.1.2.2 4; go_wp2; have hfin := zcZ (W := wc) HEF.out.1.2.2 now R fl plan ca; have hfb := zcA HBF.out (Nat.le_add_right _ 2) now R fl plan ca; unfold zcu at hfin hfb; have p0 := zab hfin 0; have p1 := zab hfin 1; have p2 := zab hfin 2; have p3 := zab hfin 3; have p4 := zab hfin 4; simp only [List.getElem?_toArray, List.getElem?_cons_zero, List.getElem?_cons_succ] at p0 p1 p2 p3 p4; refine bodyPost_ret (zma (t := 12) (u := 13) (v := 14) zq6 _ _ (w.heap.size + 2) now R fl plan ca rfl (.int .i64 C) (.int .i64 0) rfl rfl p0 p1 p2 p3 p4) rfl ?_
           exact ⟨by rw [HV2.out.1, HV2.out.2.1, HV2.out.2.2.1, HV2.out.2.2.2.1, HV2.out.2.2.2.2, HG.out.2.2.2.2.1, HG.out.2.2.2.2.2], hfb⟩
theorem zkK (p : Pol) (now : Int) (A : Option Addr) (c : Nat) (load : List S70) (plan : Int) (prev : Dec) (changed : Int) (w : World) (hr : Kd.C k70 w A load.length load) (hc : load.length ≤ c) (hs : sIn load) (hper : FS.In p.per) (hch : FS.In changed) (hl : load.length ≤ 1000000000) :
  Calls Try.prog 50 #[zdI p, .int .i64 now, .slice A load.length c, .int .i64 plan, zeh prev, .int .i64 changed] w fun e w' => e = .returned (.tuple #[zeh (decideP p now load plan prev changed).1, .int .i64 (decideP p now load plan prev changed).2.1, .int .i64 (decideP p now load plan prev changed).2.2]) ∧ Below w.heap.size w w' := by
 by_cases h : okP p ∧ timedB now = true ∧ RS.ris load 0 load.length = true
 · exact zni p now A c load plan prev changed w hr hc hs hper hch hl h.1 h.2.1 h.2.2
 exact zmf p now A c load plan prev changed w hr hc hl h
abbrev Alive26 : Prop := ∀ W : World, Calls Try.prog 47 #[] W fun e w' => e = .returned (.bool true) ∧ Below W.heap.size W w'
theorem zmg (x : Int) (w : World) : Calls Try.prog 51 #[.int .i64 x] w fun e w' => e = .returned (.int .i64 x) ∧ Drawn0 w w' := by
 go_enter Try.func51, Try.ntmps51
 go_wp2; go_ret; exact ⟨rfl, Drawn0.refl _⟩
def zep (s : Nat) (p : Pol) (prev : Dec) (W : World) : Prop := W.heap[s]? = some (.cells (zbl p) 65 (0, 0)) ∧ W.heap[s + 1]? = some (.cells (zbx prev) 68 (0, 0))
theorem zep.below {s : Nat} {p : Pol} {prev : Dec} {W W' : World} (h : zep s p prev W) (hb : Below W.heap.size W W') : zep s p prev W' := ⟨zax h.1 hb, zax h.2 hb⟩
theorem zrE (w : World) (p : Pol) (prev : Dec) : zep w.heap.size p prev ((w.alloc (.cells (zbl p) 65)).alloc (.cells (zbx prev) 68)) := by
 refine ⟨zai (zbL w _) _, ?_⟩; have := zbL (w.alloc (.cells (zbl p) 65)) (.cells (zbx prev) 68); rwa [zcE] at this
theorem zkO (HA : zaa Alive26) (HS : zaa SeasonMiss) (HC : zaa SeasonCast) (p : Pol) (now : Int) (A : Option Addr) (c : Nat) (load : List S70) (plan : Int) (prev : Dec) (ch : Int) (w : World) (hr : Kd.C k70 w A load.length load) (hc : load.length ≤ c) (hs : sIn load) (hper : FS.In p.per) (hch : FS.In ch) :
  Calls Try.prog 11 #[zdI p, .int .i64 now, .slice A load.length c, .int .i64 plan, zeh prev, .int .i64 ch] w fun e w' => e = .returned (.bool true) ∧ Below w.heap.size w w' := by
 have HR := zaa.mk hr; clear hr; have E0 := zaa.mk (zrE w p prev); have HB0 : zaa (Below w.heap.size w ((w.alloc (.cells (zbl p) 65)).alloc (.cells (zbx prev) 68))) := ⟨zaq (zaq (Below.refl _ _) _) _⟩
 by_cases g1 : load.length > 400
 · have c1 : decide ((load.length : Int) > 400) = true := zdt zq8; have c1' : decide (400 < load.length) = true := zdt g1; clear g1; obtain ⟨mn, mx, per, stale, step, ahead, cool, season⟩ := p; obtain ⟨pt, pr, pf, pp, pc⟩ := prev; dsimp only [zdI, zeh, zbl, zbx] at *; go_enter Try.func11, Try.ntmps11
   go_wp2_with (go_at_call 47; (with_reducible refine (HA.out _).mono ?_); rintro e w1 ⟨rfl, hb⟩; have E1 := zaa.mk (zep.below E0.out hb); have HB1 := zaa.mk (HB0.out.trans (hb.mono HB0.out.size)); clear hb; have x0 := zab E1.out.1 0; have x1 := zab E1.out.1 1; have x2 := zab E1.out.1 2; have x3 := zab E1.out.1 3; have x4 := zab E1.out.1 4; have x5 := zab E1.out.1 5; have x6 := zab E1.out.1 6; have x7 := zab E1.out.1 7; simp only [zbl, List.getElem?_toArray, List.getElem?_cons_zero, List.getElem?_cons_succ] at x0 x1 x2 x3 x4 x5 x6 x7; have y0 := zab E1.out.2 0; have y1 := zab E1.out.2 1; have y2 := zab E1.out.2 2; have y3 := zab E1.out.2 3; have y4 := zab E1.out.2 4; simp only [zbx, List.getElem?_toArray, List.getElem?_cons_zero, List.getElem?_cons_succ] at y0 y1 y2 y3 y4)
   go_ret; first | exact ⟨rfl, HB1.out⟩ | exact ⟨rfl, zaj HB1.out _⟩
 have c1 : decide ((load.length : Int) > 400) = false := zdf zq8; have c1' : decide (400 < load.length) = false := zdf g1; by_cases g2 : p.season > 60
 · have c2 := zdt g2; clear g1 g2; obtain ⟨mn, mx, per, stale, step, ahead, cool, season⟩ := p; obtain ⟨pt, pr, pf, pp, pc⟩ := prev; dsimp only [zdI, zeh, zbl, zbx] at *; go_enter Try.func11, Try.ntmps11
   go_wp2_with (go_at_call 47; (with_reducible refine (HA.out _).mono ?_); rintro e w1 ⟨rfl, hb⟩; have E1 := zaa.mk (zep.below E0.out hb); have HB1 := zaa.mk (HB0.out.trans (hb.mono HB0.out.size)); clear hb; have x0 := zab E1.out.1 0; have x1 := zab E1.out.1 1; have x2 := zab E1.out.1 2; have x3 := zab E1.out.1 3; have x4 := zab E1.out.1 4; have x5 := zab E1.out.1 5; have x6 := zab E1.out.1 6; have x7 := zab E1.out.1 7; simp only [zbl, List.getElem?_toArray, List.getElem?_cons_zero, List.getElem?_cons_succ] at x0 x1 x2 x3 x4 x5 x6 x7; have y0 := zab E1.out.2 0; have y1 := zab E1.out.2 1; have y2 := zab E1.out.2 2; have y3 := zab E1.out.2 3; have y4 := zab E1.out.2 4; simp only [zbx, List.getElem?_toArray, List.getElem?_cons_zero, List.getElem?_cons_succ] at y0 y1 y2 y3 y4)
   go_ret; first | exact ⟨rfl, HB1.out⟩ | exact ⟨rfl, zaj HB1.out _⟩
 have c2 := zdf g2; obtain ⟨N, hN⟩ : ∃ N, load.length = N := ⟨_, rfl⟩
 have KD0 := fun W (B : Option Addr) (cB : Nat) (h : Kd.C k70 W B load.length load) (hcB : load.length ≤ cB) => zhO HS HC p now B cB load plan prev ch W h hcB hs hper hch zq8
 have KR0 := fun W (h : Kd.C k70 W A load.length load) => zkK p now A c load plan prev ch W h hc hs hper hch zq8
 obtain ⟨X, hX⟩ : ∃ X, decideP p now load plan prev ch = X := ⟨_, rfl⟩
 rw [hX] at KD0 KR0; obtain ⟨⟨dt, dr, df, dp, dc⟩, cg, er⟩ := X; have KD := zaa.mk KD0; have KR := zaa.mk KR0; have KC := zaa.mk (fun W => zgz p W); have KP := zaa.mk (fun W => zfV p W); obtain ⟨ck, hck⟩ : ∃ ck, checkP p = ck := ⟨_, rfl⟩
 rw [hck] at KC KP; have HN : zaa (N ≤ 400) := ⟨zq8⟩
 have Hc := zaa.mk hc; clear KD0 KR0 hX hck hs hper hch g1 g2 hc HS HC; obtain ⟨mn, mx, per, stale, step, ahead, cool, season⟩ := p; obtain ⟨pt, pr, pf, pp, pc⟩ := prev; dsimp only [zdI, zeh, zbl, zbx] at *; rw [hN] at HR KD KR Hc c1 c1'; have HL := zaa.mk hN
 try rw [hN]
 clear hN; go_enter Try.func11, Try.ntmps11
 go_wp2_with (first | (go_at_call 47; (with_reducible refine (HA.out _).mono ?_); rintro e w1 ⟨rfl, hb⟩; have E1 := zaa.mk (zep.below E0.out hb); have HB1 := zaa.mk (HB0.out.trans (hb.mono HB0.out.size)); clear hb; have x0 := zab E1.out.1 0; have x1 := zab E1.out.1 1; have x2 := zab E1.out.1 2; have x3 := zab E1.out.1 3; have x4 := zab E1.out.1 4; have x5 := zab E1.out.1 5; have x6 := zab E1.out.1 6; have x7 := zab E1.out.1 7; simp only [zbl, List.getElem?_toArray, List.getElem?_cons_zero, List.getElem?_cons_succ] at x0 x1 x2 x3 x4 x5 x6 x7; have y0 := zab E1.out.2 0; have y1 := zab E1.out.2 1; have y2 := zab E1.out.2 2; have y3 := zab E1.out.2 3; have y4 := zab E1.out.2 4; simp only [zbx, List.getElem?_toArray, List.getElem?_cons_zero, List.getElem?_cons_succ] at y0 y1 y2 y3 y4) | (at_builtin; refine Kd.zkR k70 (w0 := w1) w1.heap.size rfl (.const (.slice none 0 0)) (.tmp 37) 66 70 (.agg #[(.int .i64 0), (.int .i64 0)]) 16 rfl Try.underlying66 zjA rfl zaR zaR (.slice none 0 0) [] load A N c (fun _ => True) (fun _ => False) rfl rfl (Kd.R_nil _ _ _ _ _) (Kd.zaL HR.out HB1.out) (fun x cs h => by rw [zhE h]; exact zeD _ _ _ x) (fun _ h => h.elim) (fun _ _ => trivial) (Below.refl _ _) (Nat.le_refl _) (by have := HN.out; simp; omega) ?_; intro v2 w2 ho hb _ _; have HO2 := zaa.mk ho; have HB2 := zaa.mk hb; clear ho hb) | (at_builtin; refine Kd.zcy k70 (w0 := w1) w1.heap.size rfl (.tmp 38) (.tmp 40) 66 70 (.agg #[(.int .i64 0), (.int .i64 0)]) 16 rfl Try.underlying66 zjA rfl zaR zq8 v2 ([] ++ load) ⟨-71, 0⟩ [.int .i64 (-71), .int .i64 0] (fun _ => True) (fun _ => False) rfl rfl (zeD _ _ _ _) (fun _ hk => hk.elim) (fun _ _ => trivial) HO2.out HB2.out HB2.out.size (by have := HN.out; have := HL.out; simp; omega) ?_))
 intro v3 w3 ho hb _ _; obtain ⟨B, cB, hv, hcB, hC⟩ := Kd.zew ho; have e0 : (load ++ [(⟨-71, 0⟩ : S70)]).length = N + 1 := by have := HL.out; simp; exact this
 rw [e0] at hv hcB hC; subst hv; have HO := zaa.mk (And.intro hcB hC); have E3 := zaa.mk (zep.below E1.out hb); have HB3 := zaa.mk (HB1.out.trans (hb.mono HB1.out.size)); clear ho hb hcB hC e0 HO2 HB2 x0 x1 x2 x3 x4 x5 x6 x7 y0 y1 y2 y3 y4; have x0 := zab E3.out.1 0; have x1 := zab E3.out.1 1; have x2 := zab E3.out.1 2; have x3 := zab E3.out.1 3; have x4 := zab E3.out.1 4; have x5 := zab E3.out.1 5; have x6 := zab E3.out.1 6; have x7 := zab E3.out.1 7; simp only [zbl, List.getElem?_toArray, List.getElem?_cons_zero, List.getElem?_cons_succ] at x0 x1 x2 x3 x4 x5 x6 x7; have y0 := zab E3.out.2 0; have y1 := zab E3.out.2 1; have y2 := zab E3.out.2 2; have y3 := zab E3.out.2 3; have y4 := zab E3.out.2 4; simp only [zbx, List.getElem?_toArray, List.getElem?_cons_zero, List.getElem?_cons_succ] at y0 y1 y2 y3 y4; have cN : decide (N ≤ cB) = true := zdt (by have := HO.out.1; omega); have KS := zaa.mk (show ∀ W, Kd.C k70 W B (N + 1) (load ++ [⟨-71, 0⟩]) → Kd.C k70 W B N load from fun W h => by have e := HL.out; have h2 := Kd.zhn (k := k70) (xs := load ++ [⟨-71, 0⟩]) (m := N) (by rw [List.length_append, e]; exact h) (by rw [List.length_append, e]; exact Nat.le_add_right _ _); rw [List.take_append_of_le_length zq8, List.take_of_length_le zq8, e] at h2; exact h2); go_wp2_with (go_at_call 48; (with_reducible refine (KC.out _).mono ?_); rintro e w4 ⟨rfl, hb⟩; have E4 := zaa.mk (zep.below E3.out hb); have HO4 := zaa.mk (Kd.zaL HO.out.2 hb); have HB4 := zaa.mk (HB3.out.trans (hb.mono HB3.out.size)); clear hb x0 x1 x2 x3 x4 x5 x6 x7 y0 y1 y2 y3 y4; have x0 := zab E4.out.1 0; have x1 := zab E4.out.1 1; have x2 := zab E4.out.1 2; have x3 := zab E4.out.1 3; have x4 := zab E4.out.1 4; have x5 := zab E4.out.1 5; have x6 := zab E4.out.1 6; have x7 := zab E4.out.1 7; simp only [zbl, List.getElem?_toArray, List.getElem?_cons_zero, List.getElem?_cons_succ] at x0 x1 x2 x3 x4 x5 x6 x7; have y0 := zab E4.out.2 0; have y1 := zab E4.out.2 1; have y2 := zab E4.out.2 2; have y3 := zab E4.out.2 3; have y4 := zab E4.out.2 4; simp only [zbx, List.getElem?_toArray, List.getElem?_cons_zero, List.getElem?_cons_succ] at y0 y1 y2 y3 y4)
 clear x0 x1 x2 x3 x4 x5 x6 x7 y0 y1 y2 y3 y4; have hS0 : zep w.heap.size ⟨mn, mx, per, stale, step, ahead, cool, season⟩ ⟨pt, pr, pf, pp, pc⟩ w4.drew := zep.below E4.out (zcM (Below.refl _ _)); refine zer (n := 18) (S := fun w' => zep w.heap.size ⟨mn, mx, per, stale, step, ahead, cool, season⟩ ⟨pt, pr, pf, pp, pc⟩ w') (ds := [15]) #[false, false, false, false, false, false, false, false, false, false, false, false, false, false, false, false, false, false] zq6 rfl rfl hS0 (fun hHeld => ?_); clear hS0; refine zbg (i := 1) (N := some 46) (v := ?_) (a' := ?_) #[false, true, false, false, false, false, false, false, false, false, false, false, false, false, false, false, false, false] rfl rfl zq6 (fun _ _ _ h => h) (Or.inl ⟨by rfl, ?_⟩) ?_ ?_; rotate_left
 · intro w'; go_simp; with_reducible rfl
 rotate_left
 · simp only [Act.put, List.setIfInBounds_toArray, List.set_cons_zero, List.set_cons_succ, zaF, zaM]; rfl
 refine zbg (i := 2) (N := some 47) (v := ?_) (a' := ?_) #[false, true, true, false, false, false, false, false, false, false, false, false, false, false, false, false, false, false] rfl rfl zq6 (fun _ _ _ h => h) (Or.inl ⟨by rfl, ?_⟩) ?_ ?_; rotate_left
 · intro w'; go_simp; with_reducible rfl
 rotate_left
 · simp only [Act.put, List.setIfInBounds_toArray, List.set_cons_zero, List.set_cons_succ, zaF, zaM]; rfl
 refine zbg (i := 3) (N := some 48) (v := ?_) (a' := ?_) #[false, true, true, true, false, false, false, false, false, false, false, false, false, false, false, false, false, false] rfl rfl zq6 (fun _ _ _ h => h) (Or.inl ⟨by rfl, ?_⟩) ?_ ?_; rotate_left
 · intro w'; go_simp; with_reducible rfl
 rotate_left
 · simp only [Act.put, List.setIfInBounds_toArray, List.set_cons_zero, List.set_cons_succ, zaF, zaM]; rfl
 refine zbg (i := 4) (N := some 49) (v := ?_) (a' := ?_) #[false, true, true, true, true, false, false, false, false, false, false, false, false, false, false, false, false, false] rfl rfl zq6 (fun _ _ _ h => h) (Or.inl ⟨by rfl, ?_⟩) ?_ ?_; rotate_left
 · intro w'; go_simp; with_reducible rfl
 rotate_left
 · simp only [Act.put, List.setIfInBounds_toArray, List.set_cons_zero, List.set_cons_succ, zaF, zaM]; rfl
 refine zbg (i := 5) (N := some 50) (v := ?_) (a' := ?_) #[false, true, true, true, true, true, false, false, false, false, false, false, false, false, false, false, false, false] rfl rfl zq6 (fun _ _ _ h => h) (Or.inl ⟨by rfl, ?_⟩) ?_ ?_; rotate_left
 · intro w'; go_simp; rw [if_pos (by have := HO.out.1; omega)]
 rotate_left
 · simp only [Act.put, List.setIfInBounds_toArray, List.set_cons_zero, List.set_cons_succ, zaF, zaM]; rfl
 refine zbg (i := 6) (N := some 51) (v := ?_) (a' := ?_) #[false, true, true, true, true, true, true, false, false, false, false, false, false, false, false, false, false, false] rfl rfl zq6 (fun _ _ _ h => h) (Or.inl ⟨by rfl, ?_⟩) ?_ ?_; rotate_left
 · intro w'; go_simp; with_reducible rfl
 rotate_left
 · simp only [Act.put, List.setIfInBounds_toArray, List.set_cons_zero, List.set_cons_succ, zaF, zaM]; rfl
 refine zbg (i := 8) (N := some 53) (v := ?_) (a' := ?_) #[false, true, true, true, true, true, true, false, true, false, false, false, false, false, false, false, false, false] rfl rfl zq6 (fun _ _ _ h => h) (Or.inl ⟨by rfl, ?_⟩) ?_ ?_; rotate_left
 · intro w'; go_simp; with_reducible rfl
 rotate_left
 · simp only [Act.put, List.setIfInBounds_toArray, List.set_cons_zero, List.set_cons_succ, zaF, zaM]; rfl
 refine take_ (i := 0) (N := some 45) (v := ?_) (a' := ?_) #[true, true, true, true, true, true, true, false, true, false, false, false, false, false, false, false, false, false] rfl rfl zq6 (fun _ _ _ h => h) (Or.inl ⟨by rfl, ?_⟩) hHeld ?_ ?_; rotate_left
 · intro w' hS; have x0 := zab hS.1 0; have x1 := zab hS.1 1; have x2 := zab hS.1 2; have x3 := zab hS.1 3; have x4 := zab hS.1 4; have x5 := zab hS.1 5; have x6 := zab hS.1 6; have x7 := zab hS.1 7; simp only [zbl, List.getElem?_toArray, List.getElem?_cons_zero, List.getElem?_cons_succ] at x0 x1 x2 x3 x4 x5 x6 x7; clear hS; go_simp; with_reducible rfl
 rotate_left
 · simp only [Act.put, List.setIfInBounds_toArray, List.set_cons_zero, List.set_cons_succ, zaF, zaM]; rfl
 refine take_ (i := 7) (N := some 52) (v := ?_) (a' := ?_) #[true, true, true, true, true, true, true, true, true, false, false, false, false, false, false, false, false, false] rfl rfl zq6 (fun _ _ _ h => h) (Or.inl ⟨by rfl, ?_⟩) hHeld ?_ ?_; rotate_left
 · intro w' hS; have y0 := zab hS.2 0; have y1 := zab hS.2 1; have y2 := zab hS.2 2; have y3 := zab hS.2 3; have y4 := zab hS.2 4; simp only [zbx, List.getElem?_toArray, List.getElem?_cons_zero, List.getElem?_cons_succ] at y0 y1 y2 y3 y4; clear hS; go_simp; with_reducible rfl
 rotate_left
 · simp only [Act.put, List.setIfInBounds_toArray, List.set_cons_zero, List.set_cons_succ, zaF, zaM]; rfl
 refine zpL (σ := Nat) 3 #[true, true, true, true, true, true, true, true, true, true, true, true, true, true, true, false, false, false] (fun Bk => [(54, .tuple #[.agg #[.int .i64 dt, .int .i64 dr, .int .i64 df, .int .i64 dp, .int .i64 dc], .int .i64 cg, .int .i64 er]), (44, .tuple #[.agg #[.int .i64 dt, .int .i64 dr, .int .i64 df, .int .i64 dp, .int .i64 dc], .int .i64 cg, .int .i64 er]), (55, .agg #[.int .i64 dt, .int .i64 dr, .int .i64 df, .int .i64 dp, .int .i64 dc]), (56, .int .i64 cg), (57, .int .i64 er), (16, .pointer (some ⟨Bk, 0, none⟩))]) (fun Bk w' => zep w.heap.size ⟨mn, mx, per, stale, step, ahead, cool, season⟩ ⟨pt, pr, pf, pp, pc⟩ w' ∧ zaa (Below w4.heap.size w4 w' ∧ w4.heap.size ≤ Bk ∧ w'.heap[Bk]? = some (.cells zbK 68 (0, 0)))) ?cont ?main
 case main =>
  intro HJ; have q0 : Below w4.heap.size w4 w4.drew := zcM (Below.refl _ _); refine zoP (i := 9) (j := 14) (Ni := some 54) (Nj := some 16) #[true, true, true, true, true, true, true, true, true, true, false, false, false, false, false, false, false, false] #[true, true, true, true, true, true, true, true, true, false, false, false, false, false, true, false, false, false] rfl rfl rfl rfl zq6 zaR zaR (fun K hK => ?_) (fun K hK => ?_)
  · refine zcT Try.func49 zq6 rfl #[.agg #[.int .i64 mn, .int .i64 mx, .int .i64 per, .int .i64 stale, .int .i64 step, .int .i64 ahead, .int .i64 cool, .int .i64 season], .int .i64 now, .slice B N cB, .int .i64 plan, .agg #[.int .i64 pt, .int .i64 pr, .int .i64 pf, .int .i64 pp, .int .i64 pc], .int .i64 ch] (by rfl) rfl rfl zdi ?_; refine (KD.out _ _ _ (KS.out _ (Kd.zaL HO4.out q0)) (by have := HO.out.1; omega)).mono ?_; rintro e u1 ⟨rfl, hb⟩; have q1 : Below w4.heap.size w4 u1 := q0.trans (hb.mono q0.size); refine ⟨_, rfl, hK.out _ _ (zep.below hHeld hb) (fun hHeld => ?_)⟩; clear hK K; refine zcR zeH ?_; refine zbg (i := 10) (N := some 44) (v := ?_) (a' := ?_) #[true, true, true, true, true, true, true, true, true, true, true, false, false, false, false, false, false, false] rfl rfl zq6 (fun _ _ _ h => h) (Or.inl ⟨by rfl, ?_⟩) ?_ ?_; rotate_left
    · intro w'; go_simp; with_reducible rfl
    rotate_left
    · simp only [Act.put, List.setIfInBounds_toArray, List.set_cons_zero, List.set_cons_succ, zaF, zaM]; rfl
    refine zbg (i := 11) (N := some 55) (v := ?_) (a' := ?_) #[true, true, true, true, true, true, true, true, true, true, true, true, false, false, false, false, false, false] rfl rfl zq6 (fun _ _ _ h => h) (Or.inl ⟨by rfl, ?_⟩) ?_ ?_; rotate_left
    · intro w'; go_simp; with_reducible rfl
    rotate_left
    · simp only [Act.put, List.setIfInBounds_toArray, List.set_cons_zero, List.set_cons_succ, zaF, zaM]; rfl
    refine zbg (i := 12) (N := some 56) (v := ?_) (a' := ?_) #[true, true, true, true, true, true, true, true, true, true, true, true, true, false, false, false, false, false] rfl rfl zq6 (fun _ _ _ h => h) (Or.inl ⟨by rfl, ?_⟩) ?_ ?_; rotate_left
    · intro w'; go_simp; with_reducible rfl
    rotate_left
    · simp only [Act.put, List.setIfInBounds_toArray, List.set_cons_zero, List.set_cons_succ, zaF, zaM]; rfl
    refine zbg (i := 13) (N := some 57) (v := ?_) (a' := ?_) #[true, true, true, true, true, true, true, true, true, true, true, true, true, true, false, false, false, false] rfl rfl zq6 (fun _ _ _ h => h) (Or.inl ⟨by rfl, ?_⟩) ?_ ?_; rotate_left
    · intro w'; go_simp; with_reducible rfl
    rotate_left
    · simp only [Act.put, List.setIfInBounds_toArray, List.set_cons_zero, List.set_cons_succ, zaF, zaM]; rfl
    refine zef (i := 14) (N := some 16) #[true, true, true, true, true, true, true, true, true, true, true, true, true, true, true, false, false, false] rfl rfl zq6 zaR (fun K hK => ?_); refine zgt (w1 := u1.alloc (.cells #[.int .i64 0, .int .i64 0, .int .i64 0, .int .i64 0, .int .i64 0] 68)) (v := .pointer (some ⟨u1.heap.size, 0, none⟩)) (by rfl) rfl (by go_simp) ?_; have q3 : Below w4.heap.size w4 (u1.alloc (.cells #[.int .i64 0, .int .i64 0, .int .i64 0, .int .i64 0, .int .i64 0] 68)) := q1.alloc q1.size _; have z3 : (u1.alloc (.cells #[.int .i64 0, .int .i64 0, .int .i64 0, .int .i64 0, .int .i64 0] 68)).heap[u1.heap.size]? = some (.cells zbK 68 (0, 0)) := zbL _ _; refine hK.out _ _ (zep.below hHeld (zaq (Below.refl _ _) _)) (fun hHeld => ?_); clear hK K; refine zcR zeH ?_; refine zcR zkX (HJ u1.heap.size _ ⟨hHeld, ⟨q3, q1.size, z3⟩⟩)
  · refine zgt (w1 := w4.drew.alloc (.cells #[.int .i64 0, .int .i64 0, .int .i64 0, .int .i64 0, .int .i64 0] 68)) (v := .pointer (some ⟨w4.drew.heap.size, 0, none⟩)) (by rfl) rfl (by go_simp) ?_; have q1 : Below w4.heap.size w4 (w4.drew.alloc (.cells #[.int .i64 0, .int .i64 0, .int .i64 0, .int .i64 0, .int .i64 0] 68)) := q0.alloc q0.size _; have z1 : (w4.drew.alloc (.cells #[.int .i64 0, .int .i64 0, .int .i64 0, .int .i64 0, .int .i64 0] 68)).heap[w4.drew.heap.size]? = some (.cells zbK 68 (0, 0)) := zbL _ _; refine hK.out _ _ (zep.below hHeld (zaq (Below.refl _ _) _)) (fun hHeld => ?_); clear hK K; refine zcR zeH ?_; refine zef (i := 9) (N := some 54) #[true, true, true, true, true, true, true, true, true, true, false, false, false, false, true, false, false, false] rfl rfl zq6 zaR (fun K hK => ?_); refine zcT Try.func49 zq6 rfl #[.agg #[.int .i64 mn, .int .i64 mx, .int .i64 per, .int .i64 stale, .int .i64 step, .int .i64 ahead, .int .i64 cool, .int .i64 season], .int .i64 now, .slice B N cB, .int .i64 plan, .agg #[.int .i64 pt, .int .i64 pr, .int .i64 pf, .int .i64 pp, .int .i64 pc], .int .i64 ch] (by rfl) rfl rfl zdi ?_; refine (KD.out _ _ _ (KS.out _ (Kd.zaL HO4.out q1)) (by have := HO.out.1; omega)).mono ?_; rintro e u2 ⟨rfl, hb⟩; have q2 : Below w4.heap.size w4 u2 := q1.trans (hb.mono q1.size)
    refine ⟨_, rfl, hK.out _ _ (zep.below hHeld hb) (fun hHeld => ?_)⟩; clear hK K; refine zcR zeH ?_; refine zbg (i := 10) (N := some 44) (v := ?_) (a' := ?_) #[true, true, true, true, true, true, true, true, true, true, true, false, false, false, true, false, false, false] rfl rfl zq6 (fun _ _ _ h => h) (Or.inl ⟨by rfl, ?_⟩) ?_ ?_; rotate_left
    · intro w'; go_simp; with_reducible rfl
    rotate_left
    · simp only [Act.put, List.setIfInBounds_toArray, List.set_cons_zero, List.set_cons_succ, zaF, zaM]; rfl
    refine zbg (i := 11) (N := some 55) (v := ?_) (a' := ?_) #[true, true, true, true, true, true, true, true, true, true, true, true, false, false, true, false, false, false] rfl rfl zq6 (fun _ _ _ h => h) (Or.inl ⟨by rfl, ?_⟩) ?_ ?_; rotate_left
    · intro w'; go_simp; with_reducible rfl
    rotate_left
    · simp only [Act.put, List.setIfInBounds_toArray, List.set_cons_zero, List.set_cons_succ, zaF, zaM]; rfl
    refine zbg (i := 12) (N := some 56) (v := ?_) (a' := ?_) #[true, true, true, true, true, true, true, true, true, true, true, true, true, false, true, false, false, false] rfl rfl zq6 (fun _ _ _ h => h) (Or.inl ⟨by rfl, ?_⟩) ?_ ?_; rotate_left
    · intro w'; go_simp; with_reducible rfl
    rotate_left
    · simp only [Act.put, List.setIfInBounds_toArray, List.set_cons_zero, List.set_cons_succ, zaF, zaM]; rfl
    refine zbg (i := 13) (N := some 57) (v := ?_) (a' := ?_) #[true, true, true, true, true, true, true, true, true, true, true, true, true, true, true, false, false, false] rfl rfl zq6 (fun _ _ _ h => h) (Or.inl ⟨by rfl, ?_⟩) ?_ ?_; rotate_left
    · intro w'; go_simp; with_reducible rfl
    rotate_left
    · simp only [Act.put, List.setIfInBounds_toArray, List.set_cons_zero, List.set_cons_succ, zaF, zaM]; rfl
    refine zcR zkX (HJ w4.drew.heap.size _ ⟨hHeld, ⟨q2, q0.size, zax z1 hb⟩⟩)
 case cont =>
  rintro Bk V0 ⟨hHeld, HB⟩; refine zcR (by simp only [zhg, Act.put, List.setIfInBounds_toArray, List.set_cons_zero, List.set_cons_succ]; rfl) ?_; obtain ⟨hb1, hB, hzB⟩ := HB.out; have e0 := zab hzB 0; have e1 := zab hzB 1; have e2 := zab hzB 2; have e3 := zab hzB 3; have e4 := zab hzB 4; simp only [zbK, List.getElem?_toArray, List.getElem?_cons_zero, List.getElem?_cons_succ] at e0 e1 e2 e3 e4; have z0 := zac hzB 0; have z1 := zac hzB 1; have z2 := zac hzB 2; have z3 := zac hzB 3; have z4 := zac hzB 4; clear HB; refine zkT (i := 15) (N := none) #[true, true, true, true, true, true, true, true, true, true, true, true, true, true, true, true, false, false] rfl rfl zq6 zaR (fun K hK => ?_); refine zeT (w1 := ((((V0.setCell ⟨Bk, 0, none⟩ (.int .i64 dt)).setCell ⟨Bk, 1, none⟩ (.int .i64 dr)).setCell ⟨Bk, 2, none⟩ (.int .i64 df)).setCell ⟨Bk, 3, none⟩ (.int .i64 dp)).setCell ⟨Bk, 4, none⟩ (.int .i64 dc)) (by rfl) rfl (by go_simp) ?_; refine hK.out _ _ ?_; clear hK K; refine zbg (i := 16) (N := some 17) (v := ?_) (a' := ?_) #[true, true, true, true, true, true, true, true, true, true, true, true, true, true, true, true, true, false] rfl rfl zq6 (fun _ _ _ h => h) (Or.inl ⟨by rfl, ?_⟩) ?_ ?_; rotate_left
  · intro w'; go_simp; with_reducible rfl
  rotate_left
  · simp only [Act.put, List.setIfInBounds_toArray, List.set_cons_zero, List.set_cons_succ, zaF, zaM]; rfl
  refine zbg (i := 17) (N := some 18) (v := ?_) (a' := ?_) #[true, true, true, true, true, true, true, true, true, true, true, true, true, true, true, true, true, true] rfl rfl zq6 (fun _ _ _ h => h) (Or.inl ⟨by rfl, ?_⟩) ?_ ?_; rotate_left
  · intro w'; go_simp; with_reducible rfl
  rotate_left
  · simp only [Act.put, List.setIfInBounds_toArray, List.set_cons_zero, List.set_cons_succ, zaF, zaM]; rfl
  refine zeN zq6 ?_; have hVb : Below w4.heap.size w4 (((((V0.setCell ⟨Bk, 0, none⟩ (.int .i64 dt)).setCell ⟨Bk, 1, none⟩ (.int .i64 dr)).setCell ⟨Bk, 2, none⟩ (.int .i64 df)).setCell ⟨Bk, 3, none⟩ (.int .i64 dp)).setCell ⟨Bk, 4, none⟩ (.int .i64 dc)) := ((((hb1.setCell hB _).setCell hB _).setCell hB _).setCell hB _).setCell hB _; have hVB : (((((V0.setCell ⟨Bk, 0, none⟩ (.int .i64 dt)).setCell ⟨Bk, 1, none⟩ (.int .i64 dr)).setCell ⟨Bk, 2, none⟩ (.int .i64 df)).setCell ⟨Bk, 3, none⟩ (.int .i64 dp)).setCell ⟨Bk, 4, none⟩ (.int .i64 dc)).heap[Bk]? = some (.cells #[.int .i64 dt, .int .i64 dr, .int .i64 df, .int .i64 dp, .int .i64 dc] 68 (0, 0)) := zaA (zaA (zaA (zaA (zaA hzB 0 _ rfl) 1 _ rfl) 2 _ rfl) 3 _ rfl) 4 _ rfl; obtain ⟨w5, hV⟩ : ∃ V, ((((V0.setCell ⟨Bk, 0, none⟩ (.int .i64 dt)).setCell ⟨Bk, 1, none⟩ (.int .i64 dr)).setCell ⟨Bk, 2, none⟩ (.int .i64 df)).setCell ⟨Bk, 3, none⟩ (.int .i64 dp)).setCell ⟨Bk, 4, none⟩ (.int .i64 dc) = V := ⟨_, rfl⟩
  rw [hV] at hVb hVB ⊢; have E5 := zaa.mk (zep.below E4.out hVb); have N5 := zaa.mk hVB; have HO5 := zaa.mk (Kd.zaL HO4.out hVb); have HB5 := zaa.mk (HB4.out.trans (hVb.mono HB4.out.size)); clear hV hVb hVB hzB e0 e1 e2 e3 e4 z0 z1 z2 z3 z4 hb1 hHeld hB E4 HO4 HB4; have x0 := zab E5.out.1 0; have x1 := zab E5.out.1 1; have x2 := zab E5.out.1 2; have x3 := zab E5.out.1 3; have x4 := zab E5.out.1 4; have x5 := zab E5.out.1 5; have x6 := zab E5.out.1 6; have x7 := zab E5.out.1 7; simp only [zbl, List.getElem?_toArray, List.getElem?_cons_zero, List.getElem?_cons_succ] at x0 x1 x2 x3 x4 x5 x6 x7; have y0 := zab E5.out.2 0; have y1 := zab E5.out.2 1; have y2 := zab E5.out.2 2; have y3 := zab E5.out.2 3; have y4 := zab E5.out.2 4; simp only [zbx, List.getElem?_toArray, List.getElem?_cons_zero, List.getElem?_cons_succ] at y0 y1 y2 y3 y4; go_wp2_with (go_at_call 50; (with_reducible refine (KR.out _ (Kd.zaL HR.out HB5.out)).mono ?_); rintro e w6 ⟨rfl, hb⟩; have E6 := zaa.mk (zep.below (zep.below E5.out hb) (zaq (Below.refl _ _) (.cells #[.int .i64 dt, .int .i64 dr, .int .i64 df, .int .i64 dp, .int .i64 dc] 68))); have HO6 := zaa.mk (Kd.zaL (Kd.zaL HO5.out hb) (zaq (Below.refl _ _) (.cells #[.int .i64 dt, .int .i64 dr, .int .i64 df, .int .i64 dp, .int .i64 dc] 68))); have N6 := zaa.mk (And.intro (zax (zax N5.out hb) (zaq (Below.refl _ _) (.cells #[.int .i64 dt, .int .i64 dr, .int .i64 df, .int .i64 dp, .int .i64 dc] 68))) (zbL w6 (.cells #[.int .i64 dt, .int .i64 dr, .int .i64 df, .int .i64 dp, .int .i64 dc] 68))); have HB6 := zaa.mk ((HB5.out.trans (hb.mono HB5.out.size)).alloc (HB5.out.trans (hb.mono HB5.out.size)).size (.cells #[.int .i64 dt, .int .i64 dr, .int .i64 df, .int .i64 dp, .int .i64 dc] 68)); clear hb x0 x1 x2 x3 x4 x5 x6 x7 y0 y1 y2 y3 y4)
  obtain ⟨W7, hW7⟩ : ∃ V, w6.alloc (.cells #[.int .i64 dt, .int .i64 dr, .int .i64 df, .int .i64 dp, .int .i64 dc] 68) = V := ⟨_, rfl⟩
  rw [hW7] at E6 HO6 N6 HB6 ⊢; clear hW7 E5 HO5 N5 HB5; go_loopw [22] (fun v W' => ∃ i : Nat, v = .int .i64 (i : Int) ∧ i ≤ N ∧ zaa (Below W7.heap.size W7 W')) (fun v _ => N - (intOf v).toNat)
  case atStart => exact ⟨0, rfl, Nat.zero_le _, ⟨Below.refl _ _⟩⟩
  case round =>
   obtain ⟨i, rfl, hi, HQ⟩ := hrel; have hN4 := HN.out; by_cases h : i < N
   · have c3 : decide ((i : Int) < (N : Int)) = true := zdt zq8; have c3' : decide (i < N) = true := zdt h; have c5 : wrap64 ((i : Int) + 1) = (i : Int) + 1 := zaI zq8 zq8; obtain ⟨ad, ea, r0, r1⟩ := zcd (Kd.zaL HO6.out HQ.out) (i : Int) zq8 zq8; obtain ⟨bd, eb, s0, s1⟩ := zcd (Kd.zaL HR.out (HB6.out.trans (HQ.out.mono HB6.out.size))) (i : Int) zq8 zq8; subst ea eb; have hx : zaE (load ++ [⟨-71, 0⟩]) (i : Int) = zaE load (i : Int) := by
      have hl := HL.out; rw [zez, zez, List.getD_eq_getElem?_getD, List.getD_eq_getElem?_getD, List.getElem?_append_left zq8]
     rw [hx] at r0 r1; rw [Int.toNat_natCast] at r0 r1 s0 s1; obtain ⟨x, hxx⟩ : ∃ x, zaE load (i : Int) = x := ⟨_, rfl⟩
     rw [hxx] at r0 r1 s0 s1; clear hx hxx; obtain ⟨x0, x1⟩ := x; dsimp only at r0 r1 s0 s1; have HI := zaa.mk (And.intro hi h); have c6 : decide (i < N + 1) = true := zdt zq8; have c6' : decide ((i : Int) < (N : Int) + 1) = true := zdt zq8; have c7 : i < N + 1 := by omega
     have c7' : (i : Int) < (N : Int) + 1 := by omega
     clear hi hN4; go_wp2; go_quiet (fail)
     go_wp2; refine ⟨⟨i + 1, by rw [c5]; rfl, zq8, ⟨zaj HQ.out _⟩⟩, ?_⟩; rw [c5]; simp [intOf]
     omega
   have c3 : decide ((i : Int) < (N : Int)) = false := zdf zq8; have c3' : decide (i < N) = false := zdf h; obtain rfl : i = N := by omega
   obtain ⟨ad, ea, r0, r1⟩ := zcd (Kd.zaL HO6.out HQ.out) (i : Int) zq8 zq8; subst ea; have hx : zaE (load ++ [⟨-71, 0⟩]) (i : Int) = ⟨-71, 0⟩ := by
    have hl := HL.out; rw [zez, List.getD_eq_getElem?_getD, List.getElem?_append_right zq8, hl, Nat.sub_self]; rfl
   rw [hx, Int.toNat_natCast] at r0; dsimp only at r0; have E7 := zaa.mk (zep.below E6.out HQ.out); have N7 := zaa.mk (And.intro (zax N6.out.1 HQ.out) (zax N6.out.2 HQ.out)); have HB7 := zaa.mk (HB6.out.trans (HQ.out.mono HB6.out.size)); have c6 : decide (i < i + 1) = true := zdt zq8; have c7 : i < i + 1 := by omega
   have c7' : (i : Int) < (i : Int) + 1 := by omega
   clear hi h hN4 r1 hx HQ HO6 N6 E6 HB6; have x0 := zab E7.out.1 0; have x1 := zab E7.out.1 1; have x2 := zab E7.out.1 2; have x3 := zab E7.out.1 3; have x4 := zab E7.out.1 4; have x5 := zab E7.out.1 5; have x6 := zab E7.out.1 6; have x7 := zab E7.out.1 7; simp only [zbl, List.getElem?_toArray, List.getElem?_cons_zero, List.getElem?_cons_succ] at x0 x1 x2 x3 x4 x5 x6 x7; have d0 := zab N7.out.1 0; have d1 := zab N7.out.1 1; have d2 := zab N7.out.1 2; have d3 := zab N7.out.1 3; have d4 := zab N7.out.1 4; have f0 := zab N7.out.2 0; have f1 := zab N7.out.2 1; have f2 := zab N7.out.2 2; have f3 := zab N7.out.2 3; have f4 := zab N7.out.2 4; simp only [List.getElem?_toArray, List.getElem?_cons_zero, List.getElem?_cons_succ] at d0 d1 d2 d3 d4 f0 f1 f2 f3 f4; have ex0 := fun k => Ext.cell x0 k
   have ex1 := fun k => Ext.cell x1 k
   have ex2 := fun k => Ext.cell x2 k
   have ex3 := fun k => Ext.cell x3 k
   have ex4 := fun k => Ext.cell x4 k
   have ex5 := fun k => Ext.cell x5 k
   have ex6 := fun k => Ext.cell x6 k
   have ex7 := fun k => Ext.cell x7 k
   have ed0 := fun k => Ext.cell d0 k
   have ed1 := fun k => Ext.cell d1 k
   have ed2 := fun k => Ext.cell d2 k
   have ed3 := fun k => Ext.cell d3 k
   have ed4 := fun k => Ext.cell d4 k
   have ef0 := fun k => Ext.cell f0 k
   have ef1 := fun k => Ext.cell f1 k
   have ef2 := fun k => Ext.cell f2 k
   have ef3 := fun k => Ext.cell f3 k
   have ef4 := fun k => Ext.cell f4 k
   have er0 := fun k => Ext.cell r0 k
   clear x0 x1 x2 x3 x4 x5 x6 x7 d0 d1 d2 d3 d4 f0 f1 f2 f3 f4 r0; go_wp2; refine zdj zq6 zq6 ?_; repeat (go_big_quiet_step ((first | (go_at_call 51; exact zel ((zmg _ _).mono fun _ _ ⟨he, hw⟩ => ⟨he, hw.below⟩)) | (go_at_call 52; exact zel (KP.out _)))))
   refine wpQuiet_nil ?_; rintro W8 ⟨k8, hk8⟩; have HW8 : zaa (Below w.heap.size w W8) := ⟨HB7.out.trans ((hk8 ▸ k8.below : Below _ _ W8).mono HB7.out.size)⟩
   clear ex0 ex1 ex2 ex3 ex4 ex5 ex6 ex7 ed0 ed1 ed2 ed3 ed4 ef0 ef1 ef2 ef3 ef4 er0 hk8 k8; go_wp2; go_ret; exact ⟨rfl, HW8.out⟩
end Go.Proofs.Ytemnfnbjapobcaa.Ho
end
section
namespace Go.Proofs.Ytemnfnbjapobcaa.Pd
open Go.RowKit Go.Proofs.ZW.PrintWords Go.Proofs.ZW.PrintLast Go.Proofs.ZW.PrintMore
attribute [local go_sem] zcx zcw zcO zcN zco zcn zcJ zcI
def zgB : Option Int → Value
 | none => .nilIface
 | some c => .iface 0 (.int .i64 c)
theorem zey : zgB none = .nilIface := rfl
theorem zex (c : Int) : zgB (some c) = .iface 0 (.int .i64 c) := rfl
theorem zjA : (Try.prog.info? 70).map (fun i => (i.zero, i.size, i.bytes)) = some (some (.agg #[(.int .i64 0), (.int .i64 0)]), 2, 16) := by kernel_rfl
structure S70 where
 f0 : Int
 f1 : Int
def z70 : S70 := ⟨(0 : Int), (0 : Int)⟩
def k70 : Kd S70 := Kd.iso (Kd.pair (Kd.int .i64) (Kd.int .i64)) (fun x : S70 => (x.f0, x.f1))
theorem zhE {w : World} {x : S70} {cs : List Value} (h : k70.K w x cs) : cs = [.int .i64 x.f0, .int .i64 x.f1] := by
 obtain ⟨_, _, rfl, rfl, rfl⟩ := h; exact rfl
theorem zof (w : World) (x : S70)  : k70.K w x [.int .i64 x.f0, .int .i64 x.f1] := ⟨[.int .i64 x.f0], [.int .i64 x.f1], rfl, rfl, rfl⟩
theorem zeD (w : World) (base : Nat) (ok : Nat → Prop) (x : S70)  : k70.M w base ok x [.int .i64 x.f0, .int .i64 x.f1] := ⟨[.int .i64 x.f0], [.int .i64 x.f1], rfl, rfl, rfl⟩
def zaE (xs : List S70) (i : Int) : S70 := xs.getD i.toNat z70
theorem zcd {w : World} {A : Option Addr} {n : Nat} {xs : List S70} (h : Kd.C k70 w A n xs) (i : Int) (h0 : 0 ≤ i) (h1 : i < n) : ∃ ad , A = some ad ∧ w.cell? (ad.add (i.toNat * 2)) = some (.int .i64 (zaE xs i).f0) ∧ w.cell? ⟨(ad.add (i.toNat * 2)).block, (ad.add (i.toNat * 2)).off + 1, none⟩ = some (.int .i64 (zaE xs i).f1) := by
 obtain ⟨ad, c, e, _, hK, hc0⟩ := Kd.C_get h z70 i h0 h1; have hc : ∀ j u, c[j]? = some u → w.cell? (ad.add (i.toNat * 2 + j)) = some u := hc0; obtain rfl := zhE hK; exact ⟨ad, e, hc 0 _ rfl, by rw [← zfi _ _ 1 zq8]; exact hc 1 _ rfl⟩
end Go.Proofs.Ytemnfnbjapobcaa.Pd
end
