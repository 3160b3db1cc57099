-- Laid together by wip/shake.py out of: WTab WRepsOne WInv
import Derived.Test.YtemnfnbjapobcaaPolicyDecidesm1
set_option maxHeartbeats 8000000
set_option maxRecDepth 100000
set_option linter.unusedVariables false
set_option linter.unusedSimpArgs false
section
namespace Go.Proofs.ZW.PrintLast
open Go.Proofs.ZW.PrintWords (zaa)
def zgn (md : Region.Mode) (o : Oper) : List Nat := (o.after.toList.filter (fun e => Region.binds md e)).map (fun e => e.on)
def zkn (md : Region.Mode) (ops : Array Oper) (i : Nat) (oi : Oper) : List Nat := (List.range ops.size).filter fun j => !(j == i) && match ops[j]? with
 | some oj => !(oj.after.any (fun e => Region.binds md e && e.on == i) || oi.apart ops oj)
 | none => false
def zen (md : Region.Mode) (ops : Array Oper) : Bool × List (List Nat × List Nat) := (Region.noSelect ops, (List.range ops.size).map fun i => match ops[i]? with
 | some o => (zgn md o, zkn md ops i o)
 | none => ([], []))
def zfc (T : List (List Nat × List Nat)) (l : List Bool) (i : Nat) : Bool := !l.getD i true && match T[i]? with
 | some r => r.1.all (fun j => l.getD j false)
 | none => false
def zif (T : List (List Nat × List Nat)) (l : List Bool) : List Nat := (List.range T.length).filter (zfc T l)
def zjE (T : List (List Nat × List Nat)) (l : List Bool) (i : Nat) : Bool := match T[i]? with
 | some r => r.2.all (fun j => l.getD j true)
 | none => false
def ziB (T : List (List Nat × List Nat)) (l : List Bool) : Bool := (List.range T.length).all fun j => !l.getD j false || match T[j]? with
 | some r => r.1.all (fun k => l.getD k false)
 | none => true
def zhf (T : List (List Nat × List Nat)) (i : Nat) : Nat → Nat → Bool
 | 0, _ => false
 | fuel + 1, d => match T[d]? with
  | some r => r.1.any fun j => j == i || zhf T i fuel j
  | none => false
def zkU (T : List (List Nat × List Nat)) (l : List Bool) (ds : List Nat) (i : Nat) : Bool := ds.all fun d => l.getD d true || zhf T i T.length d
section
variable {md : Region.Mode} {ops : Array Oper} {T : Bool × List (List Nat × List Nat)} {l l' li lj lk : Array Bool} {ds : List Nat} {i j k : Nat}
theorem gd (l : Array Bool) (j : Nat) (b : Bool) : l.getD j b = l.toList.getD j b := by simp [Array.getD_eq_getD_getElem?, List.getD_eq_getElem?_getD]
theorem zkw (o : Oper) (p : Nat → Bool) : o.after.all (fun e => !Region.binds md e || p e.on) = (zgn md o).all p := by
 unfold zgn; rw [← Array.all_toList]
 induction o.after.toList with
 | nil => rfl
 | cons e r ih =>
  rw [List.all_cons, ih, List.filter_cons]
  cases h : Region.binds md e <;> simp
theorem znZ (o : Oper) (p : Nat → Bool) : o.after.any (fun e => Region.binds md e && p e.on) = (zgn md o).any p := by
 unfold zgn; rw [← Array.any_toList]
 induction o.after.toList with
 | nil => rfl
 | cons e r ih =>
  rw [List.any_cons, ih, List.filter_cons]
  cases h : Region.binds md e <;> simp
theorem zfy : (zen md ops).2.length = ops.size := by simp [zen]
theorem zgI {o : Oper} (h : ops[i]? = some o) : (zen md ops).2[i]? = some (zgn md o, zkn md ops i o) := by
 have hi := (Array.getElem?_eq_some_iff.1 h).1; unfold zen; rw [List.getElem?_map, List.getElem?_range hi, Option.map_some, h]
theorem zgJ (h : ops[i]? = none) : (zen md ops).2[i]? = none := by
 have hi : ops.size ≤ i := Array.getElem?_eq_none_iff.1 h; exact List.getElem?_eq_none (by rw [zfy]; exact hi)
theorem znh : zfc (zen md ops).2 l.toList i = (!l.getD i true && ((ops[i]?).map (·.after.all fun e => !Region.binds md e || l.getD e.on false)).getD false) := by
 unfold zfc; rw [gd]
 cases h : ops[i]? with
 | none => rw [zgJ h]; rfl
 | some o =>
  rw [zgI h]; simp only [Option.map_some, Option.getD_some]; rw [← zkw]; simp only [gd]
theorem zja : Region.ready md ops l = zif (zen md ops).2 l.toList := by
 unfold Region.ready zif; rw [zfy]; refine List.filter_congr (fun i _ => ?_); rw [znh]
theorem zmF : Region.free md ops l i = zjE (zen md ops).2 l.toList i := by
 unfold Region.free zjE
 cases h : ops[i]? with
 | none => rw [zgJ h]
 | some oi =>
  rw [zgI h]; simp only [zkn]; rw [List.all_filter]
  congr 1
  funext j
  rw [gd]
  cases hj : ops[j]? with
  | none => cases (j == i) <;> cases (l.toList.getD j true) <;> simp
  | some oj =>
   cases (j == i) <;> cases (l.toList.getD j true) <;> cases (oj.after.any (fun e => Region.binds md e && e.on == i) || oi.apart ops oj) <;> simp_all
theorem zok : Region.closedB md ops l = ziB (zen md ops).2 l.toList := by
 unfold Region.closedB ziB; rw [zfy]
 congr 1
 funext j
 rw [gd]
 cases h : ops[j]? with
 | none => rw [zgJ h]
 | some o =>
  rw [zgI h]; simp only; rw [← zkw]; simp only [gd]
theorem zlu : ∀ (fuel d : Nat), Region.reachB md ops i fuel d = zhf (zen md ops).2 i fuel d
 | 0, _ => rfl
 | fuel + 1, d => by
  unfold Region.reachB zhf
  cases h : ops[d]? with
  | none => rw [zgJ h]
  | some o =>
   rw [zgI h]; simp only; rw [← znZ]
   congr 1
   funext e
   rw [zlu fuel]
theorem zqi : Region.lastB md ops l ds i = zkU (zen md ops).2 l.toList ds i := by
 unfold Region.lastB zkU; rw [zfy]
 congr 1
 funext d
 rw [gd, zlu]
theorem ziK (h : zfc T.2 l.toList i = true) (hT : zen md ops = T) : (Region.ready md ops l).contains i = true := by
 subst hT; rw [zja]; unfold zif; rw [List.contains_iff_mem, List.mem_filter, List.mem_range]; refine ⟨?_, h⟩; unfold zfc at h; rw [Bool.and_eq_true] at h
 cases hq : (zen md ops).2[i]? with
 | none => rw [hq] at h; simp at h
 | some r => exact (List.getElem?_eq_some_iff.1 hq).1
theorem zlp (h : (l.toList.set i true == l'.toList) = true) : (l.setIfInBounds i true == l') = true := by
 rw [beq_iff_eq] at h ⊢; apply Array.ext'
 rw [Array.toList_setIfInBounds]; exact h
def zqZ (T : Bool × List (List Nat × List Nat)) (l l' : List Bool) (i : Nat) : Bool := T.1 && zjE T.2 l i && zfc T.2 l i && (l.set i true == l')
theorem zjL (hT : zen md ops = T) (h : zqZ T l.toList l'.toList i = true) : znx md ops l l' i = true := by
 simp only [zqZ, Bool.and_eq_true] at h; obtain ⟨⟨⟨h1, h2⟩, h3⟩, h4⟩ := h; have h5 := ziK h3 hT; have h6 := zlp h4; subst hT; simp only [znx, Bool.and_eq_true]; exact ⟨⟨⟨h1, by rw [zmF]; exact h2⟩, h5⟩, h6⟩
def znd (T : Bool × List (List Nat × List Nat)) (ds : List Nat) (l l' : List Bool) (i : Nat) : Bool := T.1 && zjE T.2 l i && zfc T.2 l i && ziB T.2 l && zkU T.2 l ds i && (l.set i true == l')
theorem zpQ (hT : zen md ops = T) (h : znd T ds l.toList l'.toList i = true) : zji md ops ds l l' i = true := by
 simp only [znd, Bool.and_eq_true] at h; obtain ⟨⟨⟨⟨⟨h1, h2⟩, h3⟩, h4⟩, h5⟩, h6⟩ := h; have h7 := ziK h3 hT; have h8 := zlp h6; subst hT; simp only [zji, Bool.and_eq_true]; exact ⟨⟨⟨⟨⟨h1, by rw [zmF]; exact h2⟩, h7⟩, by rw [zok]; exact h4⟩, by rw [zqi]; exact h5⟩, h8⟩
theorem zlB (hT : zen md ops = T) (h : (zif T.2 l.toList == [i] && l.toList.set i true == l'.toList) = true) : zhe md ops l l' i = true := by
 simp only [Bool.and_eq_true] at h; obtain ⟨h1, h2⟩ := h; subst hT; simp only [zhe, Bool.and_eq_true]; exact ⟨by rw [zja]; exact h1, zlp h2⟩
theorem zqo (hT : zen md ops = T) (h : (zif T.2 l.toList == []) = true) : (Region.ready md ops l == []) = true := by
 subst hT; rw [zja]; exact h
def upM (B : List Nat) (d : Nat) : List Nat → Nat
 | [] => 0
 | n :: r => (2 ^ n ||| (if n < d then B.getD n 0 else 0)) ||| upM B d r
def zhc (T : List (List Nat × List Nat)) (B : List Nat) : Bool := (List.range T.length).all fun d => match T[d]? with
 | some r => (B.getD d 0 ||| upM B d r.1) == upM B d r.1
 | none => false
theorem zmt {B : List Nat} {d i : Nat} : ∀ {ns : List Nat}, (upM B d ns).testBit i = true → ∃ n ∈ ns, n = i ∨ (n < d ∧ (B.getD n 0).testBit i = true)
 | [], h => by simp [upM] at h
 | n :: r, h => by
  unfold upM at h; rw [Nat.testBit_or, Nat.testBit_or, Bool.or_eq_true, Bool.or_eq_true] at h
  rcases h with (h | h) | h
  · rw [Nat.testBit_two_pow] at h; exact ⟨n, List.mem_cons_self, .inl (by simpa using h)⟩
  · by_cases hn : n < d
    · rw [if_pos hn] at h; exact ⟨n, List.mem_cons_self, .inr ⟨hn, h⟩⟩
    rw [if_neg hn] at h; simp at h
  · obtain ⟨m, hm, h2⟩ := zmt h; exact ⟨m, List.mem_cons_of_mem _ hm, h2⟩
theorem zkr {T : List (List Nat × List Nat)} {B : List Nat} (hB : zhc T B = true) : ∀ (fuel d : Nat), d < fuel → d < T.length → (B.getD d 0).testBit i = true → zhf T i fuel d = true
 | 0, d, h, _, _ => by omega
 | fuel + 1, d, h, hd, hb => by
  have h1 := List.all_eq_true.1 hB d (List.mem_range.2 hd)
  cases hr : T[d]? with
  | none => rw [hr] at h1; simp at h1
  | some r =>
   rw [hr] at h1; simp only [beq_iff_eq] at h1; have h2 : (upM B d r.1).testBit i = true := by rw [← h1, Nat.testBit_or, hb, Bool.true_or]
   obtain ⟨n, hn, h3⟩ := zmt h2; unfold zhf; rw [hr]; simp only; rw [List.any_eq_true]; refine ⟨n, hn, ?_⟩
   rcases h3 with rfl | ⟨h4, h5⟩
   · simp
   · rw [zkr hB fuel n zq8 zq8 h5, Bool.or_true]
def zpK (T : List (List Nat × List Nat)) (B : List Nat) (l : List Bool) (ds : List Nat) (i : Nat) : Bool := ds.all fun d => l.getD d true || (decide (d < T.length) && (B.getD d 0).testBit i)
def zpG (T : Bool × List (List Nat × List Nat)) (B : List Nat) (ds : List Nat) (l l' : List Bool) (i : Nat) : Bool := T.1 && zjE T.2 l i && zfc T.2 l i && ziB T.2 l && zpK T.2 B l ds i && (l.set i true == l')
theorem zlo {B : List Nat} (hT : zen md ops = T) (hB : zhc T.2 B = true) (h : zpG T B ds l.toList l'.toList i = true) : zji md ops ds l l' i = true := by
 refine zpQ hT ?_; simp only [zpG, znd, Bool.and_eq_true] at h ⊢; obtain ⟨⟨⟨⟨⟨h1, h2⟩, h3⟩, h4⟩, h5⟩, h6⟩ := h; refine ⟨⟨⟨⟨⟨h1, h2⟩, h3⟩, h4⟩, ?_⟩, h6⟩; unfold zpK at h5; unfold zkU; rw [List.all_eq_true] at h5 ⊢; intro d hd; have h7 := h5 d hd; rw [Bool.or_eq_true, Bool.and_eq_true, decide_eq_true_eq] at h7
 rcases h7 with h7 | ⟨h8, h9⟩
 · rw [h7, Bool.true_or]
 · rw [zkr hB _ d h8 h8 h9, Bool.or_true]
theorem znB {P : Program} {Q : Exit → Act → World → Prop} {S : World → Prop} {n : Nat} {a : Act} {w : World} {B : List Nat} (hT : zen md ops = T) (hB : zhc T.2 B = true) (h : zaa (zen md ops = T) → zaa (zhc T.2 B = true) → zbm P md ops Q S ds n l a w) : zbm P md ops Q S ds n l a w := h ⟨hT⟩ ⟨hB⟩
end
def zfz : Code → Nat → Option (Array Oper)
 | .region id ops _, k => if id == k then some ops else none
 | .seq a b, k => match zfz a k with
  | some o => some o
  | none => zfz b k
 | .cond _ a b, k => match zfz a k with
  | some o => some o
  | none => zfz b k
 | .block _ c, k => zfz c k
 | .loop c, k => zfz c k
 | .scope c, k => zfz c k
 | .rangeFunc _ _ a b, k => match zfz a k with
  | some o => some o
  | none => zfz b k
 | _, _ => none
def zrm (f : Func) (k : Nat) : Array Oper := ((f.body.bind fun c => zfz c k)).getD #[]
end Go.Proofs.ZW.PrintLast
end
section
namespace Go.Proofs.ZW.PrintWords
theorem zbp.front {α : Type} {R : α → List Value → Prop} {size : Nat} {ps : List α} {cs c all : List Value} {p : α} (hp : R p c) (hc : c.length = size) (h : zbp R size ps cs) (ha : c ++ cs = all) : zbp R size (p :: ps) all := by
 subst ha; refine ⟨by rw [List.length_append, hc, h.1, List.length_cons, Nat.succ_mul, Nat.add_comm], fun j q hq => ?_⟩
 cases j with
 | zero =>
  simp only [List.getElem?_cons_zero, Option.some.injEq] at hq; subst hq; rw [Nat.zero_mul, List.drop_zero, List.take_append_of_le_length zq8, List.take_of_length_le zq8]; exact hp
 | succ j =>
  simp only [List.getElem?_cons_succ] at hq; have h1 := h.2 j q hq; rw [Nat.succ_mul, List.drop_append, List.drop_of_length_le (by rw [hc]; exact Nat.le_add_left _ _), List.nil_append, hc, Nat.add_sub_cancel]; exact h1
theorem zbp.c2 {α : Type} {R : α → List Value → Prop} {ps : List α} {cs : List Value} {p : α} {va vb : Value} (hp : R p [va, vb]) (h : zbp R 2 ps cs) : zbp R 2 (p :: ps) (va :: vb :: cs) := zbp.front hp rfl h rfl
theorem zbp.c3 {α : Type} {R : α → List Value → Prop} {ps : List α} {cs : List Value} {p : α} {va vb vc : Value} (hp : R p [va, vb, vc]) (h : zbp R 3 ps cs) : zbp R 3 (p :: ps) (va :: vb :: vc :: cs) := zbp.front hp rfl h rfl
theorem zbp.c4 {α : Type} {R : α → List Value → Prop} {ps : List α} {cs : List Value} {p : α} {va vb vc vd : Value} (hp : R p [va, vb, vc, vd]) (h : zbp R 4 ps cs) : zbp R 4 (p :: ps) (va :: vb :: vc :: vd :: cs) := zbp.front hp rfl h rfl
theorem zbp.c5 {α : Type} {R : α → List Value → Prop} {ps : List α} {cs : List Value} {p : α} {va vb vc vd ve : Value} (hp : R p [va, vb, vc, vd, ve]) (h : zbp R 5 ps cs) : zbp R 5 (p :: ps) (va :: vb :: vc :: vd :: ve :: cs) := zbp.front hp rfl h rfl
theorem zbp.c6 {α : Type} {R : α → List Value → Prop} {ps : List α} {cs : List Value} {p : α} {va vb vc vd ve vf : Value} (hp : R p [va, vb, vc, vd, ve, vf]) (h : zbp R 6 ps cs) : zbp R 6 (p :: ps) (va :: vb :: vc :: vd :: ve :: vf :: cs) := zbp.front hp rfl h rfl
theorem zbp.c7 {α : Type} {R : α → List Value → Prop} {ps : List α} {cs : List Value} {p : α} {va vb vc vd ve vf vg : Value} (hp : R p [va, vb, vc, vd, ve, vf, vg]) (h : zbp R 7 ps cs) : zbp R 7 (p :: ps) (va :: vb :: vc :: vd :: ve :: vf :: vg :: cs) := zbp.front hp rfl h rfl
theorem zbp.c8 {α : Type} {R : α → List Value → Prop} {ps : List α} {cs : List Value} {p : α} {va vb vc vd ve vf vg vh : Value} (hp : R p [va, vb, vc, vd, ve, vf, vg, vh]) (h : zbp R 8 ps cs) : zbp R 8 (p :: ps) (va :: vb :: vc :: vd :: ve :: vf :: vg :: vh :: cs) := zbp.front hp rfl h rfl
theorem zbp.c9 {α : Type} {R : α → List Value → Prop} {ps : List α} {cs : List Value} {p : α} {va vb vc vd ve vf vg vh vi : Value} (hp : R p [va, vb, vc, vd, ve, vf, vg, vh, vi]) (h : zbp R 9 ps cs) : zbp R 9 (p :: ps) (va :: vb :: vc :: vd :: ve :: vf :: vg :: vh :: vi :: cs) := zbp.front hp rfl h rfl
theorem zbp.c10 {α : Type} {R : α → List Value → Prop} {ps : List α} {cs : List Value} {p : α} {va vb vc vd ve vf vg vh vi vj : Value} (hp : R p [va, vb, vc, vd, ve, vf, vg, vh, vi, vj]) (h : zbp R 10 ps cs) : zbp R 10 (p :: ps) (va :: vb :: vc :: vd :: ve :: vf :: vg :: vh :: vi :: vj :: cs) := zbp.front hp rfl h rfl
end Go.Proofs.ZW.PrintWords
end
section
namespace Go.Proofs.ZW.PrintLast
def up (b : Nat → Bool) (i : Nat) : Nat → Bool := fun j => if j = i then true else b j
section
variable {P : Program} {ops : Array Oper} {Q : Exit → Act → World → Prop} {md : Region.Mode} {T : Bool × List (List Nat × List Nat)} {B : List Nat} {O : List Nat} {b : Nat → Bool} {i j n : Nat}
end
end Go.Proofs.ZW.PrintLast
end
