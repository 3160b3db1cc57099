-- Laid together by wip/shake.py out of: Spec FixC Holt1 QT Holt2 Holt3 Holt4 Holt5 Ref1 Holt6 Holt7 Holt8 Steps1 Extra Ch1 Ch2 Ch3
import Derived.Test.YtemnfnbjapobcaaPolicyPacksm4
import Derived.Deep.Quiet
import Derived.StillTail
import Derived.Deep.QuietTactic
import Derived.Tactics
import Derived.Below
import Derived.Lib.SliceRun
section
namespace Go.Proofs.Ytemnfnbjapobcaa.HS
open Go.Proofs.Ytemnfnbjapobcaa.FM Go.Proofs.Ytemnfnbjapobcaa.FS
set_option linter.unusedVariables false
def InB (x : Int) : Bool := decide (-9223372036854775808 ≤ x) && decide (x ≤ 9223372036854775807)
theorem inB_iff {x : Int} : InB x = true ↔ In x := by unfold InB In; simp
def AllIn (l : List Int) : Prop := ∀ x ∈ l, In x
def allInB (l : List Int) : Bool := l.all InB
theorem allInB_iff {l : List Int} : allInB l = true ↔ AllIn l := by unfold allInB AllIn; simp [List.all_eq_true, inB_iff]
def addS (a b : Int) : Int := sat (a + b)
def subS (a b : Int) : Int := sat (a - b)
def mulS (a b : Int) : Int := sat (a * b / 4294967296)
def ofS (n : Int) : Int := sat (n * 4294967296)
def mixS (w x y : Int) : Int := addS (mulS w x) (mulS (subS 4294967296 w) y)
def distS (a b : Int) : Int := if a < b then subS b a else subS a b
structure Mo where
  n : Int
  a : Int
  b : Int
  c : Int
structure St where
  level : Int
  trend : Int
  parts : List Int
  k : Nat
def okW (w : Int) : Bool := decide (0 ≤ w) && decide (w ≤ 4294967296)
def checkS (m : Mo) : Int := if m.n < 1 ∨ m.n > 10000 then 1 else if okW m.a && okW m.b && okW m.c then 0 else 1
def sumS (l : List Int) : Int := l.foldl addS 0
def meanS (l : List Int) : Int := divS (sumS l) (ofS l.length)
def beginS (l : List Int) (n : Nat) : St :=
  let a := meanS (l.take n)
  let b := meanS ((l.drop n).take n)
  ⟨a, divS (subS b a) (ofS n), (l.take n).map (fun x => subS x a), 0⟩
def stepS (m : Mo) (s : St) (x : Int) : St :=
  let j := s.k % s.parts.length
  let p := s.parts.getD j 0
  let level := mixS m.a (subS x p) (addS s.level s.trend)
  ⟨level, mixS m.b (subS level s.level) s.trend, s.parts.set j (mixS m.c (subS x level) p), s.k + 1⟩
def startS (l : List Int) (m : Mo) : St := (l.drop m.n.toNat).foldl (stepS m) (beginS l m.n.toNat)
def startE (l : List Int) (m : Mo) : Int := if checkS m ≠ 0 then 1 else if (l.length : Int) < 2 * m.n then 1 else 0
def castOf (s : St) (ahead : Int) : Int × Int :=
  if ahead < 1 ∨ ahead > 10000 then (0, 1) else (addS (addS s.level (mulS (ofS ahead) s.trend)) (s.parts.getD ((s.k + ahead.toNat - 1) % s.parts.length) 0), 0)
def missStep (m : Mo) (q : Int × St) (x : Int) : Int × St := (addS q.1 (distS x (castOf q.2 1).1), stepS m q.2 x)
def missS (l : List Int) (m : Mo) (last : Int) : Int × Int :=
  if checkS m ≠ 0 then (0, 1) else if last < 1 ∨ 2 * m.n > (l.length : Int) - last then (0, 1)
  else
    let n := l.length - last.toNat
    (((l.drop n).foldl (missStep m) (0, startS (l.take n) m)).1, 0)
theorem in_addS (a b : Int) : In (addS a b) := in_sat _
theorem in_subS (a b : Int) : In (subS a b) := in_sat _
theorem in_mulS (a b : Int) : In (mulS a b) := in_sat _
theorem in_ofS (a : Int) : In (ofS a) := in_sat _
theorem in_mixS (w x y : Int) : In (mixS w x y) := in_sat _
theorem in_distS (a b : Int) : In (distS a b) := by unfold distS; split <;> exact in_sat _
def St.In (s : St) : Prop := FS.In s.level ∧ FS.In s.trend ∧ AllIn s.parts
theorem allIn_getD {l : List Int} (h : AllIn l) (i : Nat) : FS.In (l.getD i 0) := by
  rw [List.getD_eq_getElem?_getD]
  cases e : l[i]? with
  | none => exact ⟨by decide, by decide⟩
  | some x => exact h x (List.mem_of_getElem? e)
theorem allIn_set {l : List Int} (h : AllIn l) (i : Nat) {x : Int} (hx : FS.In x) : AllIn (l.set i x) := fun y hy => by
  rcases List.mem_or_eq_of_mem_set hy with h1 | rfl
  · exact h y h1
  · exact hx
theorem step_in (m : Mo) {s : St} (h : s.In) (x : Int) : (stepS m s x).In := ⟨in_mixS _ _ _, in_mixS _ _ _, allIn_set h.2.2 _ (in_mixS _ _ _)⟩
theorem step_len (m : Mo) (s : St) (x : Int) : (stepS m s x).parts.length = s.parts.length := by simp [stepS]
theorem fold_in (m : Mo) : ∀ (l : List Int) (s : St), s.In → (l.foldl (stepS m) s).In
  | [], _, h => h
  | x :: l, s, h => fold_in m l _ (step_in m h x)
theorem fold_len (m : Mo) : ∀ (l : List Int) (s : St), (l.foldl (stepS m) s).parts.length = s.parts.length
  | [], _ => rfl
  | x :: l, s => (fold_len m l _).trans (step_len m s x)
theorem fold_k (m : Mo) : ∀ (l : List Int) (s : St), (l.foldl (stepS m) s).k = s.k + l.length
  | [], _ => rfl
  | x :: l, s => by have := fold_k m l (stepS m s x); simp only [List.foldl_cons, List.length_cons]; rw [this]; simp only [stepS]; omega
theorem begin_in (l : List Int) (n : Nat) : (beginS l n).In := ⟨in_divS _ _, in_divS _ _, fun x hx => by
  simp only [beginS, List.mem_map] at hx
  obtain ⟨y, _, rfl⟩ := hx
  exact in_subS _ _⟩
theorem begin_len (l : List Int) (n : Nat) (h : n ≤ l.length) : (beginS l n).parts.length = n := by simp [beginS, h]
end Go.Proofs.Ytemnfnbjapobcaa.HS
end
section
namespace Go.Proofs.Ytemnfnbjapobcaa
open Go.RowKit Go.Proofs.YtemnfnbjapobcaaW.PrintWords Go.Proofs.YtemnfnbjapobcaaW.PrintLast Go.Proofs.YtemnfnbjapobcaaW.PrintMore
open Go.Proofs.Ytemnfnbjapobcaa.FS Go.Proofs.Ytemnfnbjapobcaa.HS
section
variable {a b : Int} (ha : FS.In a) (hb : FS.In b) (w : World)
include ha hb
theorem fAdd : Calls Try.prog 67 #[.int .i64 a, .int .i64 b] w fun e w' => e = .returned (.int .i64 (addS a b)) ∧ Drawn0 w w' := Fix.fixed_Add.calls 400 a b _ w (add_eq (Nat.le_refl _) ha hb)
theorem fSub : Calls Try.prog 71 #[.int .i64 a, .int .i64 b] w fun e w' => e = .returned (.int .i64 (subS a b)) ∧ Drawn0 w w' := Fix.fixed_Sub.calls 400 a b _ w (sub_eq (Nat.le_refl _) ha hb)
theorem fMul : Calls Try.prog 68 #[.int .i64 a, .int .i64 b] w fun e w' => e = .returned (.int .i64 (mulS a b)) ∧ Drawn0 w w' := Fix.fixed_Mul.calls 400 a b _ w (mul_eq (Nat.le_refl _) ha hb)
theorem fDiv : Calls Try.prog 102 #[.int .i64 a, .int .i64 b] w fun e w' => e = .returned (.int .i64 (divS a b)) ∧ Drawn0 w w' := Fix.fixed_Div.calls 400 a b _ w (div_eq (Nat.le_refl _) ha hb)
theorem fCeilDiv : Calls Try.prog 91 #[.int .i64 a, .int .i64 b] w fun e w' => e = .returned (.int .i64 (cdivS a b)) ∧ Drawn0 w w' := Fix.fixed_CeilDiv.calls 400 a b _ w (cdiv_eq (Nat.le_refl _) ha hb)
end
section
variable {a : Int} (ha : FS.In a) (w : World)
include ha
theorem fOf : Calls Try.prog 69 #[.int .i64 a] w fun e w' => e = .returned (.int .i64 (ofS a)) ∧ Drawn0 w w' := Fix.fixed_Of.calls a _ w (of_eq ha)
theorem fCeil : Calls Try.prog 90 #[.int .i64 a] w fun e w' => e = .returned (.int .i64 (-(-a / 4294967296))) ∧ Drawn0 w w' := Fix.fixed_Ceil.calls a _ w (ceil_eq ha)
end
theorem quietly {P : Program} {f : FuncId} {args : Array Value} {w : World} {v : Value} (h : Calls P f args w fun e w' => e = .returned v ∧ Drawn0 w w') : Calls P f args w fun e w' => e = .returned v ∧ ∃ m, w' = w.drewN m :=
  h.mono fun _ _ ⟨he, hw⟩ => ⟨he, hw.out⟩
theorem q0 {P : Program} {f : FuncId} {args : Array Value} {w : World} {v : Value} {n : Nat} (h : Calls P f args (w.drewN n) fun e w' => e = .returned v ∧ Drawn0 (w.drewN n) w') : Calls P f args (w.drewN n) fun e w'' => e = .returned v ∧ ∃ m, w'' = w.drewN m :=
  Calls.quiet_of (quietly h)
theorem q1 {P : Program} {f : FuncId} {args : Array Value} {w : World} {v : Value} {n0 n : Nat} (h : Calls P f args (w.drewN (n0 + n)) fun e w' => e = .returned v ∧ Drawn0 (w.drewN (n0 + n)) w') : Calls P f args (w.drewN (n0 + n)) fun e w'' => e = .returned v ∧ ∃ m, w'' = w.drewN (n0 + m) :=
  h.mono fun _ _ ⟨he, m, hm⟩ => ⟨he, n + m, by rw [hm, World.drewN_drewN, Nat.add_assoc]⟩
end Go.Proofs.Ytemnfnbjapobcaa
end
section
namespace Go.Proofs.Ytemnfnbjapobcaa.Ho
open Go.RowKit Go.Proofs.YtemnfnbjapobcaaW.PrintWords Go.Proofs.YtemnfnbjapobcaaW.PrintLast Go.Proofs.YtemnfnbjapobcaaW.PrintMore
open Go.Proofs.Ytemnfnbjapobcaa.FS Go.Proofs.Ytemnfnbjapobcaa.HS
set_option linter.unusedVariables false
set_option linter.unusedSimpArgs false
set_option maxHeartbeats 400000 in
theorem mix_calls (x y wt : Int) (hx : FS.In x) (hy : FS.In y) (hwt : FS.In wt) (bw br : Nat) (w : World) (hw : w.cell? ⟨bw, 0, none⟩ = some (.int .i64 wt)) (hr : w.cell? ⟨br, 0, none⟩ = some (.int .i64 (subS 4294967296 wt))) :
    Calls Try.prog 135 #[.int .i64 x, .int .i64 y, .pointer (some ⟨bw, 0, none⟩), .pointer (some ⟨br, 0, none⟩)] w fun e w' => e = .returned (.int .i64 (mixS wt x y)) ∧ Drawn0 w w' := by
  have h1 := in_subS 4294967296 wt
  have h2 := in_mulS wt x
  have h3 := in_mulS (subS 4294967296 wt) y
  go_enter Try.func135, Try.ntmps135
  go_wp2_with (first | (go_at_call 68; (with_reducible refine (fMul (by assumption) (by assumption) _).mono ?_); rintro e w' ⟨rfl, ⟨nd, rfl⟩⟩) | (go_at_call 67; (with_reducible refine (fAdd (by assumption) (by assumption) _).mono ?_); rintro e w' ⟨rfl, ⟨nd, rfl⟩⟩))
  go_quiet ((first | (go_at_call 68; exact Calls.quiet_of (quietly (fMul (by assumption) (by assumption) _))) | (go_at_call 67; exact Calls.quiet_of (quietly (fAdd (by assumption) (by assumption) _)))))
  go_wp2
  go_ret
  exact ⟨rfl, by repeat (first | exact Drawn0.refl _ | apply Drawn0.step)⟩
def cell1 (w : World) (b : Nat) (v : Int) : Prop := w.heap[b]? = some (.cells #[.int .i64 v] 3 (0, 0))
def MixAt (w : World) (b : Nat) (wt : Int) : Prop := cell1 w b wt ∧ cell1 w (b + 1) (subS 4294967296 wt)
def mixV (b : Nat) : Value := .func (.func 135) #[] #[.pointer (some ⟨b, 0, none⟩), .pointer (some ⟨b + 1, 0, none⟩)]
structure Made (w w' : World) (n : Nat) : Prop where
  size : w'.heap.size = w.heap.size + n
  below : Below w.heap.size w w'
set_option maxHeartbeats 400000 in
theorem weighed_calls (wt : Int) (hwt : FS.In wt) (w : World) :
    Calls Try.prog 103 #[.int .i64 wt] w fun e w' => e = .returned (mixV w.heap.size) ∧ MixAt w' w.heap.size wt ∧ Made w w' 2 := by
  have h0 : FS.In 4294967296 := ⟨by decide, by decide⟩
  go_enter Try.func103, Try.ntmps103
  go_wp2_with (first | (go_at_call 71; (with_reducible refine (fSub (by assumption) (by assumption) _).mono ?_); rintro e w' ⟨rfl, ⟨nd, rfl⟩⟩))
  go_ret
  refine ⟨rfl, ⟨?_, ?_⟩, ⟨by simp, ?_⟩⟩
  · exact blk_alloc (blk_drewN (blk_new w _) nd) _
  · have := blk_new ((w.alloc (.cells #[.int .i64 wt] 3)).drewN nd) (.cells #[.int .i64 (subS 4294967296 wt)] 3)
    simpa [cell1] using this
  · exact below_alloc (pw_below_drewN (below_alloc (Below.refl _ _) _) nd) _
theorem sum_step (l : List Int) (k : Nat) (h : k < l.length) : sumS (l.take (k + 1)) = addS (sumS (l.take k)) (rd l (k : Int)) := by
  show _ = addS _ (l.getD k 0)
  unfold sumS
  rw [List.take_succ_eq_append_getElem h, List.foldl_append]
  simp [List.getD_eq_getElem?_getD, List.getElem?_eq_getElem h]
theorem in_sumS (l : List Int) : FS.In (sumS l) := by
  unfold sumS
  rcases List.eq_nil_or_concat l with rfl | ⟨l', x, rfl⟩
  · exact ⟨by decide, by decide⟩
  · rw [List.concat_eq_append, List.foldl_append]; exact in_addS _ _
set_option maxHeartbeats 400000 in
theorem mean_calls (A : Option Addr) (c : Nat) (l : List Int) (w : World) (hr : Kd.C (Kd.int .i64) w A l.length l) (hl : l.length ≤ 1000000000000) (hin : AllIn l) :
    Calls Try.prog 101 #[.slice A l.length c] w fun e w' => e = .returned (.int .i64 (meanS l)) ∧ Drawn0 w w' := by
  go_enter Try.func101, Try.ntmps101
  go_wp2
  go_loopg [3, 8] l.length (fun kq v3 v8 w' => ∃ k m : Nat, v3 = .int .i64 (sumS (l.take k)) ∧ v8 = .int .i64 (k : Int) ∧ Aside0 (kq + k = l.length) ∧ w' = w.drewN m)
  case atStart => exact ⟨0, 0, rfl, rfl, ⟨rfl⟩, rfl⟩
  case round =>
    obtain ⟨k, m, rfl, rfl, HK, rfl⟩ := hrel
    have i1 := in_sumS (l.take k)
    by_cases c : k < l.length
    · have c1 : decide ((k : Int) < (l.length : Int)) = true := decide_eq_true (by omega)
      have i2 : FS.In (rd l (k : Int)) := allIn_getD hin k
      obtain ⟨ad, rfl, r0⟩ := Kd.at_int (Kd.C_below hr (pw_below_drewN (Below.refl _ _) m)) (k : Int) (by omega) (by omega)
      rw [Int.toNat_natCast] at r0
      have e := sum_step l k c
      have HE := Aside0.mk e
      clear e
      cases gk with
      | zero => exact absurd HK.out (by omega)
      | succ k1 =>
        go_wp2_with (go_at_call 67; (with_reducible refine (fAdd (by assumption) (by assumption) _).mono ?_); rintro e w' ⟨rfl, ⟨nd, rfl⟩⟩)
        go_roundg k1
        case measure => omega
        case rel => exact ⟨k + 1, _, by rw [HE.out], by go_num, ⟨by have := HK.out; omega⟩, rfl⟩
    · have c1 : decide ((k : Int) < (l.length : Int)) = false := decide_eq_false (by omega)
      have e : l.take k = l := List.take_of_length_le (by omega)
      rw [e] at i1
      have i3 : FS.In (l.length : Int) := ⟨by omega, by omega⟩
      have i4 := in_ofS (l.length : Int)
      have HE := Aside0.mk e
      clear e
      go_wp2_with (first | (go_at_call 69; (with_reducible refine (fOf (by assumption) _).mono ?_); rintro e w' ⟨rfl, ⟨nd, rfl⟩⟩) | (go_at_call 102; rw [HE.out]; (with_reducible refine (fDiv (by assumption) (by assumption) _).mono ?_); rintro e w' ⟨rfl, ⟨nd, rfl⟩⟩))
      go_ret
      exact ⟨rfl, by repeat (first | exact Drawn0.refl _ | apply Drawn0.step)⟩
theorem check_bad (m : Mo) (h : m.n < 1 ∨ m.n > 10000) : checkS m = 1 := by unfold checkS; rw [if_pos h]
set_option maxHeartbeats 1000000 in
theorem check_calls (m : Mo) (w : World) :
    Calls Try.prog 33 #[.agg #[.int .i64 m.n, .int .i64 m.a, .int .i64 m.b, .int .i64 m.c]] w fun e w' => e = .returned (.int .i64 (checkS m)) ∧ Below w.heap.size w w' := by
  obtain ⟨n, a, b, c⟩ := m
  obtain ⟨r, hr⟩ : ∃ r, checkS ⟨n, a, b, c⟩ = r := ⟨_, rfl⟩
  rw [hr]
  have HR := Aside0.mk hr
  clear hr
  have j0 : ∀ w, (Instr.index 102 (.agg #[.int .i64 a, .int .i64 b, .int .i64 c]) (.int .i64 0)).run Try.prog w = .ok (.int .i64 a) w := fun _ => by kernel_rfl
  have j1 : ∀ w, (Instr.index 102 (.agg #[.int .i64 a, .int .i64 b, .int .i64 c]) (.int .i64 1)).run Try.prog w = .ok (.int .i64 b) w := fun _ => by kernel_rfl
  have j2 : ∀ w, (Instr.index 102 (.agg #[.int .i64 a, .int .i64 b, .int .i64 c]) (.int .i64 2)).run Try.prog w = .ok (.int .i64 c) w := fun _ => by kernel_rfl
  by_cases h1 : n < 1
  · obtain rfl : r = 1 := by rw [← HR.out, check_bad _ (.inl h1)]
    have g1 : decide (n < 1) = true := decide_eq_true h1
    clear h1 HR
    go_enter Try.func33, Try.ntmps33
    go_wp2
    go_ret
    exact ⟨rfl, below_alloc (Below.refl _ _) _⟩
  · have g1 : decide (n < 1) = false := decide_eq_false h1
    by_cases h2 : 10000 < n
    · have g2 : decide (10000 < n) = true := decide_eq_true h2
      obtain rfl : r = 1 := by rw [← HR.out]; simp [checkS, okW]; try omega
      clear HR
      go_enter Try.func33, Try.ntmps33
      go_wp2
      go_ret
      exact ⟨rfl, below_alloc (Below.refl _ _) _⟩
    · have g2 : decide (10000 < n) = false := decide_eq_false h2
      by_cases a1 : a < 0
      · have a1' : decide (a < 0) = true := decide_eq_true a1
        obtain rfl : r = 1 := by rw [← HR.out]; simp [checkS, okW]; try omega
        clear HR
        go_enter Try.func33, Try.ntmps33
        go_wp2
        refine wp_loop_rounds 4 ?_
        rw [rounds_succ]
        go_wp2
        go_ret
        exact ⟨rfl, below_alloc (Below.refl _ _) _⟩
      · have a1' : decide (a < 0) = false := decide_eq_false a1
        by_cases a2 : 4294967296 < a
        · have a2' : decide (4294967296 < a) = true := decide_eq_true a2
          obtain rfl : r = 1 := by rw [← HR.out]; simp [checkS, okW]; try omega
          clear HR
          go_enter Try.func33, Try.ntmps33
          go_wp2
          refine wp_loop_rounds 4 ?_
          rw [rounds_succ]
          go_wp2
          go_ret
          exact ⟨rfl, below_alloc (Below.refl _ _) _⟩
        · have a2' : decide (4294967296 < a) = false := decide_eq_false a2
          by_cases b1 : b < 0
          · have b1' : decide (b < 0) = true := decide_eq_true b1
            obtain rfl : r = 1 := by rw [← HR.out]; simp [checkS, okW]; try omega
            clear HR
            go_enter Try.func33, Try.ntmps33
            go_wp2
            refine wp_loop_rounds 4 ?_
            rw [rounds_succ]
            go_wp2
            rw [rounds_succ]
            go_wp2
            go_ret
            exact ⟨rfl, below_alloc (Below.refl _ _) _⟩
          · have b1' : decide (b < 0) = false := decide_eq_false b1
            by_cases b2 : 4294967296 < b
            · have b2' : decide (4294967296 < b) = true := decide_eq_true b2
              obtain rfl : r = 1 := by rw [← HR.out]; simp [checkS, okW]; try omega
              clear HR
              go_enter Try.func33, Try.ntmps33
              go_wp2
              refine wp_loop_rounds 4 ?_
              rw [rounds_succ]
              go_wp2
              rw [rounds_succ]
              go_wp2
              go_ret
              exact ⟨rfl, below_alloc (Below.refl _ _) _⟩
            · have b2' : decide (4294967296 < b) = false := decide_eq_false b2
              by_cases c1 : c < 0
              · have c1' : decide (c < 0) = true := decide_eq_true c1
                obtain rfl : r = 1 := by rw [← HR.out]; simp [checkS, okW]; try omega
                clear HR
                go_enter Try.func33, Try.ntmps33
                go_wp2
                refine wp_loop_rounds 4 ?_
                rw [rounds_succ]
                go_wp2
                rw [rounds_succ]
                go_wp2
                rw [rounds_succ]
                go_wp2
                go_ret
                exact ⟨rfl, below_alloc (Below.refl _ _) _⟩
              · have c1' : decide (c < 0) = false := decide_eq_false c1
                by_cases c2 : 4294967296 < c
                · have c2' : decide (4294967296 < c) = true := decide_eq_true c2
                  obtain rfl : r = 1 := by rw [← HR.out]; simp [checkS, okW]; try omega
                  clear HR
                  go_enter Try.func33, Try.ntmps33
                  go_wp2
                  refine wp_loop_rounds 4 ?_
                  rw [rounds_succ]
                  go_wp2
                  rw [rounds_succ]
                  go_wp2
                  rw [rounds_succ]
                  go_wp2
                  go_ret
                  exact ⟨rfl, below_alloc (Below.refl _ _) _⟩
                · have c2' : decide (4294967296 < c) = false := decide_eq_false c2
                  obtain rfl : r = 0 := by rw [← HR.out]; simp [checkS, okW]; try omega
                  clear HR
                  go_enter Try.func33, Try.ntmps33
                  go_wp2
                  refine wp_loop_rounds 4 ?_
                  rw [rounds_succ]
                  go_wp2
                  rw [rounds_succ]
                  go_wp2
                  rw [rounds_succ]
                  go_wp2
                  rw [rounds_succ]
                  go_wp2
                  go_ret
                  exact ⟨rfl, below_alloc (Below.refl _ _) _⟩
end Go.Proofs.Ytemnfnbjapobcaa.Ho
end
section
namespace Go.Proofs.Ytemnfnbjapobcaa
open Go Go.RowKit Go.Proofs.YtemnfnbjapobcaaW.PrintLast
section
variable {P : Program} {ops : Array Oper} {md : Region.Mode} {C : World → Prop}
def opsAt (ops : Array Oper) (l : List Nat) : List Oper := l.filterMap fun i => ops[i]?
def wpAnyT (P : Program) (md : Region.Mode) (ops : Array Oper) (C : World → Prop) (ts : List Nat) (L : Array Bool → Act → Prop) : Nat → Array Bool → Act → Prop
  | 0, listed, a => L listed a
  | f + 1, listed, a => Region.ready md ops listed ≠ [] ∧ ∀ i ∈ Region.ready md ops listed, i ∉ ts ∧ qOp P ops C i (wpAnyT P md ops C ts L f (listed.setIfInBounds i true)) a
theorem wpAny_of_T {ts : List Nat} {g : Nat} {L : Array Bool → Act → Prop} {Q' : Exit → Act → World → Prop} (hL : ∀ listed a w, C w → L listed a → wpAny P md ops Q' g listed a w) :
    ∀ (f : Nat) (listed : Array Bool) (a : Act) (w : World), C w → wpAnyT P md ops C ts L f listed a → wpAny P md ops Q' (f + g) listed a w
  | 0, listed, a, w, hw, h => by rw [Nat.zero_add]; exact hL _ _ _ hw h
  | f + 1, listed, a, w, hw, h => by
    rw [show f + 1 + g = (f + g) + 1 by omega]
    exact ⟨fun h0 => absurd h0 h.1, fun i hi => wpOp_of_qOp hw (fun a' w' hw' h' => wpAny_of_T hL f _ a' w' hw' h') (h.2 i hi).2⟩
theorem wpAnyT_first {ts : List Nat} {n i : Nat} {oi : Oper} {v : Value} {L : Array Bool → Act → Prop} (hi : ops[i]? = some oi) (hsel : ∀ (j : Nat) (o : Oper) cs b, ops[j]? = some o → o.op ≠ .select cs b)
    (hreach : ∀ t ∈ ts, Region.reachB md ops i n t = true) (hdone : ∀ listed a, L listed a → ∀ j ∈ Region.ready md ops listed, j ∈ ts) :
    ∀ (f : Nat) (listed : Array Bool) (a : Act), ListedClosed md ops listed →
      (∀ j oj, ops[j]? = some oj → j ≠ i → listed.getD j true = false → (∀ e ∈ oj.after, Region.binds md e = true → e.on ≠ i) → oi.apart ops oj = true) →
      i ∈ Region.ready md ops listed → YieldsIn P ops C oi v a →
      wpAnyT P md ops C ts L f (listed.setIfInBounds i true) (a.put oi.dst v) → wpAnyT P md ops C ts L (f + 1) listed a := by
  intro f
  induction f with
  | zero =>
    intro listed a inv _ hr hy H
    have hun := (mem_ready.1 hr).1
    refine ⟨fun h => (by rw [h] at hr; cases hr), fun j hj => ?_⟩
    have hjt : j ∉ ts := fun h => Region.reach_not_ready inv (hreach j h) hun hj
    refine ⟨hjt, ?_⟩
    by_cases hji : j = i
    · subst hji; exact hy.qOp hi H
    · exact absurd (hdone _ _ H j (ready_mono hj hji)) hjt
  | succ f ih =>
    intro listed a inv hfree hr hy H
    have hun := (mem_ready.1 hr).1
    refine ⟨fun h => (by rw [h] at hr; cases hr), fun j hj => ?_⟩
    have hjt : j ∉ ts := fun h => Region.reach_not_ready inv (hreach j h) hun hj
    refine ⟨hjt, ?_⟩
    by_cases hji : j = i
    · subst hji; exact hy.qOp hi H
    · have h1 := (H.2 j (ready_mono hj hji)).2
      obtain ⟨hjun, oj, hoj, hall⟩ := mem_ready.1 hj
      have hnot : ∀ e ∈ oj.after, Region.binds md e = true → e.on ≠ i := fun e he hb heq => by
        have h1 := hall e he hb
        rw [heq, getD_both hun] at h1
        cases h1
      have h2 := qOp_put hoj (hfree j oj hoj hji hjun hnot) (fun cs b => hsel i oi cs b hi) (fun cs b => hsel j oj cs b hoj) hy h1
      have hfree' : ∀ k ok, ops[k]? = some ok → k ≠ i → (listed.setIfInBounds j true).getD k true = false →
          (∀ e ∈ ok.after, Region.binds md e = true → e.on ≠ i) → oi.apart ops ok = true := fun k ok hk hki hun hno => by
        refine hfree k ok hk hki ?_ hno
        by_cases hjk : j = k
        · subst hjk; exact hjun
        · rw [getD_set_ne true hjk] at hun; exact hun
      refine qOp_mono (fun a' h3 => ih (listed.setIfInBounds j true) a' (inv.set hj) hfree' (ready_mono hr (Ne.symm hji)) h3.1 ?_) h2
      rw [Array.setIfInBounds_comm _ _ hji]
      exact h3.2
def tailB (md : Region.Mode) (ops : Array Oper) : List Nat → Array Bool → Bool
  | [], listed => (Region.ready md ops listed).isEmpty
  | t :: ts, listed => decide (Region.ready md ops listed = [t]) && tailB md ops ts (listed.setIfInBounds t true)
def headB (md : Region.Mode) (ops : Array Oper) (ts : List Nat) : List Nat → Array Bool → Bool
  | [], listed => tailB md ops ts listed
  | k :: hs, listed => (Region.ready md ops listed).contains k && Region.free md ops listed k && ts.all (fun t => Region.reachB md ops k ops.size t) && headB md ops ts hs (listed.setIfInBounds k true)
def isMove (o : Oper) : Bool := o.guard.isNone && o.dst.isSome && match o.op with | .move _ => true | _ => false
def moveOf (a : Act) (o : Oper) : Act := match o.op with | .move x => a.put o.dst (a.eval x) | _ => a
def movesOf (ops : Array Oper) : List Nat → Act → Act
  | [], a => a
  | k :: ps, a => match ops[k]? with | some o => movesOf ops ps (moveOf a o) | none => movesOf ops ps a
def moveB (md : Region.Mode) (ops : Array Oper) (hs ts : List Nat) : List Nat → Array Bool → Bool
  | [], listed => headB md ops ts hs listed
  | k :: ps, listed => (Region.ready md ops listed).contains k && Region.free md ops listed k && (match ops[k]? with | some o => isMove o | none => false) && moveB md ops hs ts ps (listed.setIfInBounds k true)
def mixedB (md : Region.Mode) (ops : Array Oper) (ps hs ts : List Nat) : Bool :=
  Region.noSelect ops && decide (ps.length + (hs.length + ts.length) = ops.size) && moveB md ops hs ts ps (Array.replicate ops.size false)
theorem wpAny_of_tail {Q' : Exit → Act → World → Prop} : ∀ (ts : List Nat) (listed : Array Bool) (a : Act) (w : World),
    tailB md ops ts listed = true → wpList P ops Q' (opsAt ops ts) a w → wpAny P md ops Q' ts.length listed a w
  | [], _, _, _, hB, h => ⟨by simpa [tailB] using hB, h⟩
  | t :: ts, listed, a, w, hB, h => by
    simp only [tailB, Bool.and_eq_true, decide_eq_true_eq] at hB
    have hr : t ∈ Region.ready md ops listed := by rw [hB.1]; simp
    obtain ⟨_, o, h0, _⟩ := mem_ready.1 hr
    simp only [opsAt, List.filterMap_cons, h0] at h
    refine ⟨fun h1 => (by rw [hB.1] at h1; cases h1), fun i hi => ?_⟩
    rw [hB.1] at hi
    obtain rfl : i = t := by simpa using hi
    have hw : wpOp P ops Q' i (wpList P ops Q' (opsAt ops ts)) a w := by unfold wpOp; simp only [h0]; exact h
    exact wpOp_mono (fun a' w' h' => wpAny_of_tail ts _ a' w' hB.2 h') hw
theorem tailB_ready {ts : List Nat} {listed : Array Bool} (h : tailB md ops ts listed = true) : ∀ j ∈ Region.ready md ops listed, j ∈ ts := by
  cases ts with
  | nil => intro j hj; simp only [tailB, List.isEmpty_iff] at h; rw [h] at hj; cases hj
  | cons t ts =>
    intro j hj
    simp only [tailB, Bool.and_eq_true, decide_eq_true_eq] at h
    rw [h.1] at hj
    simp at hj
    simp [hj]
theorem wpAnyT_head {ts : List Nat} {Lq : Act → Prop} (hsel : Region.noSelect ops = true) :
    ∀ (hs : List Nat) (listed : Array Bool) (a : Act), ListedClosed md ops listed → headB md ops ts hs listed = true → wpQuiet P ops C Lq (opsAt ops hs) a →
    wpAnyT P md ops C ts (fun listed' a' => tailB md ops ts listed' = true ∧ Lq a') hs.length listed a
  | [], listed, a, _, hB, h => ⟨by simpa [headB] using hB, h⟩
  | k :: hs, listed, a, inv, hB, h => by
    simp only [headB, Bool.and_eq_true, List.all_eq_true] at hB
    obtain ⟨⟨⟨hr, hf⟩, hre⟩, hB'⟩ := hB
    have hr' : k ∈ Region.ready md ops listed := by simpa using hr
    obtain ⟨_, o, h0, _⟩ := mem_ready.1 hr'
    simp only [opsAt, List.filterMap_cons, h0] at h
    have hst : qOp P ops C k (wpQuiet P ops C Lq (opsAt ops hs)) a := by unfold qOp; simp only [h0]; exact h
    obtain ⟨v, hy, hK⟩ := yieldsIn_of_qOp h0 hst
    exact wpAnyT_first h0 (Region.noSelect_spec hsel) hre (fun listed' a' hL => tailB_ready hL.1) hs.length listed a inv (Region.free_spec h0 hf) hr' hy (wpAnyT_head hsel hs _ _ (inv.set hr') hB' hK)
theorem move_yields {o : Oper} (a : Act) (h : isMove o = true) : ∃ d v, o.dst = some d ∧ Yields P ops o v a ∧ moveOf a o = a.put o.dst v := by
  obtain ⟨dst, op, ty, pos, after, guard⟩ := o
  cases op <;> simp [isMove] at h
  case move x =>
    obtain ⟨rfl, h2⟩ := h
    obtain ⟨d, rfl⟩ := Option.isSome_iff_exists.1 h2
    refine ⟨d, a.eval x, rfl, .inl ⟨by simp [Region.wanted], fun w => by simp [execOp, go_sem]⟩, rfl⟩
theorem wpAny_moves {hs ts : List Nat} {Q : Exit → Act → World → Prop} (hsel : Region.noSelect ops = true) (hQ : ∀ c (a : Act) (d : Nat) v w, Q (.panic c) (a.put (some d) v) w → Q (.panic c) a w) :
    ∀ (ps : List Nat) (listed : Array Bool) (a : Act) (w : World), C w → ListedClosed md ops listed → moveB md ops hs ts ps listed = true →
      wpQuiet P ops C (fun a' => ∀ w', C w' → wpList P ops Q (opsAt ops ts) a' w') (opsAt ops hs) (movesOf ops ps a) →
      wpAny P md ops Q (ps.length + (hs.length + ts.length)) listed a w
  | [], listed, a, w, hw, inv, hB, h => by
    have H := wpAnyT_head (C := C) (ts := ts) (Lq := fun a' => ∀ w', C w' → wpList P ops Q (opsAt ops ts) a' w') hsel hs listed a inv (by simpa [moveB] using hB) h
    rw [List.length_nil, Nat.zero_add]
    exact wpAny_of_T (fun listed' a' w' hw' hL => wpAny_of_tail ts listed' a' w' hL.1 (hL.2 w' hw')) _ _ _ _ hw H
  | k :: ps, listed, a, w, hw, inv, hB, h => by
    simp only [moveB, Bool.and_eq_true] at hB
    obtain ⟨⟨⟨hr, hf⟩, hm⟩, hB'⟩ := hB
    have hr' : k ∈ Region.ready md ops listed := by simpa using hr
    obtain ⟨_, o, h0, _⟩ := mem_ready.1 hr'
    simp only [h0] at hm
    obtain ⟨d, v, hd, hy, he⟩ := move_yields (P := P) (ops := ops) a hm
    simp only [movesOf, h0, he] at h
    rw [List.length_cons, show ps.length + 1 + (hs.length + ts.length) = (ps.length + (hs.length + ts.length)) + 1 by omega]
    exact wpAny_take h0 hsel hf hr (fun c a w => by rw [hd]; exact hQ c a d v w) hy (wpAny_moves hsel hQ ps _ _ w hw (inv.set hr') hB' h)
theorem closed_none {n : Nat} : ListedClosed md ops (Array.replicate n false) := fun j oj _ hl => by rw [getD_replicate_false] at hl; cases hl
theorem wp_region_mixed {id : Nat} {Q : Exit → Act → World → Prop} {a : Act} {w : World} {l : List Oper} (ps hs ts : List Nat) (hm : P.follows .mixedOrders = true) (hQ : ∀ c (a : Act) (d : Nat) v w, Q (.panic c) (a.put (some d) v) w → Q (.panic c) a w)
    (hB : mixedB .any l.toArray ps hs ts = true)
    (h : wpQuiet P l.toArray (fun w' => ∃ n, w' = w.drewN n) (fun a' => ∀ w', (∃ n, w' = w.drewN n) → wpList P l.toArray Q (opsAt l.toArray ts) a' w') (opsAt l.toArray hs) (movesOf l.toArray ps a)) :
    (Code.region id l.toArray true).wp P Q a w := by
  simp only [mixedB, Bool.and_eq_true, decide_eq_true_eq] at hB
  obtain ⟨⟨hsel, hlen⟩, hB⟩ := hB
  refine wp_region_any hm ?_
  rw [← hlen]
  refine wpAny_moves (C := fun w' => ∃ n, w' = w.drewN n) hsel hQ ps _ a _ ⟨1, rfl⟩ closed_none ?_ h
  rw [hlen]
  exact hB
theorem opsAt_range (l : List Oper) : ∀ (m s : Nat), opsAt l.toArray (List.range' s m) = (l.drop s).take m
  | 0, s => by simp [opsAt]
  | m + 1, s => by
    have ih := opsAt_range l m (s + 1)
    rw [List.range'_succ]
    by_cases h : s < l.length
    · rw [List.drop_eq_getElem_cons h, List.take_succ_cons, ← ih]
      simp [opsAt, List.getElem?_eq_getElem h]
    · rw [List.drop_eq_nil_of_le (by omega)]
      rw [List.drop_eq_nil_of_le (by omega)] at ih
      simp only [List.take_nil] at ih ⊢
      rw [← ih]
      simp [opsAt, List.getElem?_eq_none (show l.length ≤ s by omega)]
def quietTailB (md : Region.Mode) (ops : Array Oper) (n : Nat) : Bool := mixedB md ops [] (List.range' 0 n) (List.range' n (ops.size - n))
theorem wp_region_quiet_tail {id : Nat} {Q : Exit → Act → World → Prop} {a : Act} {w : World} {l : List Oper} (n : Nat) (hm : P.follows .mixedOrders = true) (hB : quietTailB .any l.toArray n = true)
    (hQ : ∀ c (a : Act) (d : Nat) v w, Q (.panic c) (a.put (some d) v) w → Q (.panic c) a w)
    (h : wpQuiet P l.toArray (fun w' => ∃ n, w' = w.drewN n) (fun a' => ∀ w', (∃ n, w' = w.drewN n) → wpList P l.toArray Q (l.drop n) a' w') (l.take n) a) :
    (Code.region id l.toArray true).wp P Q a w := by
  refine wp_region_mixed [] _ _ hm hQ hB ?_
  have e : l.toArray.size - n = l.length - n := by simp
  rw [opsAt_range, opsAt_range, e, List.take_of_length_le (by simp), List.drop_zero]
  exact h
structure Ext (w : World) where
  val : World
  below : Below w.heap.size w val
instance (w : World) : Inhabited (Ext w) := ⟨⟨w, Below.refl _ _⟩⟩
theorem Ext.cell {w : World} {p : Addr} {v : Value} (hc : w.cell? p = some v) (k : Ext w) : k.val.cell? p = some v := (k.below.cell (World.block_lt_of_cell? _ _ hc)).trans hc
def headF (md : Region.Mode) (ops : Array Oper) (ts : List Nat) (F : Array Bool → Bool) : List Nat → Array Bool → Bool
  | [], listed => F listed
  | k :: hs, listed => (Region.ready md ops listed).contains k && Region.free md ops listed k && ts.all (fun t => Region.reachB md ops k ops.size t) && headF md ops ts F hs (listed.setIfInBounds k true)
theorem wpAnyT_headF {ts : List Nat} {F : Array Bool → Bool} {Lq : Act → Prop} (hsel : Region.noSelect ops = true) (hF : ∀ listed, F listed = true → ∀ j ∈ Region.ready md ops listed, j ∈ ts) :
    ∀ (hs : List Nat) (listed : Array Bool) (a : Act), ListedClosed md ops listed → headF md ops ts F hs listed = true → wpQuiet P ops C Lq (opsAt ops hs) a →
    wpAnyT P md ops C ts (fun listed' a' => F listed' = true ∧ Lq a') hs.length listed a
  | [], listed, a, _, hB, h => ⟨by simpa [headF] using hB, h⟩
  | k :: hs, listed, a, inv, hB, h => by
    simp only [headF, Bool.and_eq_true, List.all_eq_true] at hB
    obtain ⟨⟨⟨hr, hf⟩, hre⟩, hB'⟩ := hB
    have hr' : k ∈ Region.ready md ops listed := by simpa using hr
    obtain ⟨_, o, h0, _⟩ := mem_ready.1 hr'
    simp only [opsAt, List.filterMap_cons, h0] at h
    have hst : qOp P ops C k (wpQuiet P ops C Lq (opsAt ops hs)) a := by unfold qOp; simp only [h0]; exact h
    obtain ⟨v, hy, hK⟩ := yieldsIn_of_qOp h0 hst
    exact wpAnyT_first h0 (Region.noSelect_spec hsel) hre (fun listed' a' hL => hF listed' hL.1) hs.length listed a inv (Region.free_spec h0 hf) hr' hy (wpAnyT_headF hsel hF hs _ _ (inv.set hr') hB' hK)
def thenB (md : Region.Mode) (ops : Array Oper) (n : Nat) (listed : Array Bool) : Bool :=
  decide (Region.ready md ops listed = [n]) && Region.lexFrom md ops (ops.size - (n + 1)) (n + 1) (listed.setIfInBounds n true)
def midB (md : Region.Mode) (ops : Array Oper) (n : Nat) : Bool :=
  Region.noSelect ops && decide (n < ops.size) && headF md ops [n] (thenB md ops n) (List.range' 0 n) (Array.replicate ops.size false)
theorem wp_region_mid {id : Nat} {Q : Exit → Act → World → Prop} {a : Act} {w : World} {l : List Oper} {o : Oper} (n : Nat) (hm : P.follows .mixedOrders = true) (hB : midB .any l.toArray n = true) (ho : l[n]? = some o)
    (h : wpQuiet P l.toArray (fun w' => ∃ n, w' = w.drewN n) (fun a' => ∀ w', (∃ n, w' = w.drewN n) → ∀ K : Act → World → Prop,
        (∀ a2 w2, wpQuiet P l.toArray (fun w' => ∃ n, w' = w2.drewN n) (fun a3 => ∀ w3, (∃ n, w3 = w2.drewN n) → Q .normal a3 w3) (l.drop (n + 1)) a2 → K a2 w2) →
        if Region.wanted o (yielded l.toArray a'.tmps) = true then Oper.wp P o a' w' K Q else K (a'.put o.dst undef) w') (l.take n) a) :
    (Code.region id l.toArray true).wp P Q a w := by
  simp only [midB, Bool.and_eq_true, decide_eq_true_eq] at hB
  obtain ⟨⟨hsel, hn⟩, hB⟩ := hB
  have hn' : n < l.length := by simpa using hn
  refine wp_region_any hm ?_
  have hl : l.take n = opsAt l.toArray (List.range' 0 n) := by rw [opsAt_range, List.drop_zero]
  rw [hl] at h
  have H := wpAnyT_headF (C := fun w' => ∃ n, w' = w.drewN n) (ts := [n]) (F := thenB .any l.toArray n) hsel (fun listed hF j hj => by
    simp only [thenB, Bool.and_eq_true, decide_eq_true_eq] at hF
    rw [hF.1] at hj
    exact hj) (List.range' 0 n) _ a closed_none hB h
  have key := wpAny_of_T (Q' := Q) (g := 1 + (l.length - (n + 1))) (C := fun w' => ∃ n, w' = w.drewN n) (fun listed a' w' hw' hL => by
    obtain ⟨hF, hq⟩ := hL
    simp only [thenB, Bool.and_eq_true, decide_eq_true_eq] at hF
    rw [Nat.add_comm 1]
    refine ⟨fun h0 => (by rw [hF.1] at h0; cases h0), fun i hi => ?_⟩
    rw [hF.1] at hi
    obtain rfl : i = n := by simpa using hi
    unfold wpOp
    rw [show l.toArray[i]? = some o by simpa using ho]
    dsimp only
    have h3 := hq w' hw' (wpAny P .any l.toArray Q (l.length - (i + 1)) (listed.setIfInBounds i true)) (fun a2 w2 h2 => ?_)
    · by_cases hwn : Region.wanted o (yielded l.toArray a'.tmps) = true
      · rw [if_pos hwn] at h3 ⊢
        exact .inl h3
      · rw [if_neg hwn] at h3 ⊢
        exact h3
    have e : l.toArray.size - (i + 1) = l.length - (i + 1) := by simp
    have H2 := wpAnyQ_lex (C := fun w' => ∃ n, w' = w2.drewN n) (md := .any) hsel (l.drop (i + 1)) (i + 1) (listed.setIfInBounds i true) a2 (fun j => by simp [List.getElem?_drop]) (by rw [List.length_drop, ← e]; exact hF.2) h2
    rw [List.length_drop] at H2
    exact wpAny_of_quiet (Q := fun a3 => ∀ w3, (∃ n, w3 = w2.drewN n) → Q .normal a3 w3) (fun _ w3 hw3 h => h w3 hw3) _ _ _ _ ⟨0, rfl⟩ H2) _ _ _ _ ⟨1, rfl⟩ H
  rw [List.length_range', show n + (1 + (l.length - (n + 1))) = l.length by omega] at key
  have e : l.toArray.size = l.length := by simp
  rw [e] at key ⊢
  exact key
end
end Go.Proofs.Ytemnfnbjapobcaa
end
section
namespace Go.Proofs.Ytemnfnbjapobcaa.Ho
open Go.RowKit Go.Proofs.YtemnfnbjapobcaaW.PrintWords Go.Proofs.YtemnfnbjapobcaaW.PrintLast Go.Proofs.YtemnfnbjapobcaaW.PrintMore
open Go.Proofs.Ytemnfnbjapobcaa.FS Go.Proofs.Ytemnfnbjapobcaa.HS
set_option linter.unusedVariables false
set_option linter.unusedSimpArgs false
def sl (g n cap : Nat) : Value := .slice (some ⟨g, 0, none⟩) n cap
def stCells (s : St) (v : Value) (m1 m2 m3 : Nat) : Array Value := #[.int .i64 s.level, .int .i64 s.trend, v, .int .i64 (s.k : Int), mixV m1, mixV m2, mixV m3]
def row3 (W : World) (lo g cap : Nat) (l : List Int) : Prop := W.ownsRow lo 3 1 (.slice (some ⟨g, 0, none⟩) l.length cap) l.length (nums .i64 l)
structure StIn (W : World) (lo hi b g cap m1 m2 m3 : Nat) (m : Mo) (s : St) : Prop where
  blk : W.heap[b]? = some (.cells (stCells s (sl g s.parts.length cap) m1 m2 m3) 99 (0, 0))
  row : row3 W lo g cap s.parts
  at1 : MixAt W m1 m.a
  at2 : MixAt W m2 m.b
  at3 : MixAt W m3 m.c
  inb : lo ≤ b ∧ b < hi
  ing : lo ≤ g ∧ g < hi
  in1 : lo ≤ m1 ∧ m1 + 1 < hi
  in2 : lo ≤ m2 ∧ m2 + 1 < hi
  in3 : lo ≤ m3 ∧ m3 + 1 < hi
  sep : m1 + 1 < g ∧ m2 + 1 < g ∧ m3 + 1 < g
  top : hi ≤ W.heap.size
def StAt (W : World) (lo hi b : Nat) (m : Mo) (s : St) : Prop := ∃ g cap m1 m2 m3, StIn W lo hi b g cap m1 m2 m3 m s
def Ran (lo hi : Nat) : Nat → Prop := fun k => lo ≤ k ∧ k < hi
theorem StIn.kept {W W' : World} {lo hi b g cap m1 m2 m3 : Nat} {m : Mo} {s : St} {S : Nat → Prop} (h : StIn W lo hi b g cap m1 m2 m3 m s) (hk : Kept W W' S) (hS : ∀ k, lo ≤ k → k < hi → ¬ S k) : StIn W' lo hi b g cap m1 m2 m3 m s where
  blk := (hk.2 _ (by have := h.top; have := h.inb; omega) (hS _ h.inb.1 h.inb.2)).trans h.blk
  row := own_move h.row (fun k hk' => by
    have e : g = k := by simpa [Value.ownBlock] using hk'
    subst e
    exact hk.2 _ (by have := h.top; have := h.ing; omega) (hS _ h.ing.1 h.ing.2))
  at1 := ⟨(hk.2 _ (by have := h.top; have := h.in1; omega) (hS _ h.in1.1 (by have := h.in1; omega))).trans h.at1.1, (hk.2 _ (by have := h.top; have := h.in1; omega) (hS _ (by have := h.in1; omega) (by have := h.in1; omega))).trans h.at1.2⟩
  at2 := ⟨(hk.2 _ (by have := h.top; have := h.in2; omega) (hS _ h.in2.1 (by have := h.in2; omega))).trans h.at2.1, (hk.2 _ (by have := h.top; have := h.in2; omega) (hS _ (by have := h.in2; omega) (by have := h.in2; omega))).trans h.at2.2⟩
  at3 := ⟨(hk.2 _ (by have := h.top; have := h.in3; omega) (hS _ h.in3.1 (by have := h.in3; omega))).trans h.at3.1, (hk.2 _ (by have := h.top; have := h.in3; omega) (hS _ (by have := h.in3; omega) (by have := h.in3; omega))).trans h.at3.2⟩
  inb := h.inb
  ing := h.ing
  in1 := h.in1
  in2 := h.in2
  in3 := h.in3
  sep := h.sep
  top := Nat.le_trans h.top hk.1
theorem StAt.kept {W W' : World} {lo hi b : Nat} {m : Mo} {s : St} {S : Nat → Prop} (h : StAt W lo hi b m s) (hk : Kept W W' S) (hS : ∀ k, lo ≤ k → k < hi → ¬ S k) : StAt W' lo hi b m s := by
  obtain ⟨g, cap, m1, m2, m3, h⟩ := h
  exact ⟨g, cap, m1, m2, m3, h.kept hk hS⟩
def Mo.wIn (m : Mo) : Prop := FS.In m.a ∧ FS.In m.b ∧ FS.In m.c
set_option maxHeartbeats 4000000 in
theorem step_calls (lo hi b : Nat) (m : Mo) (s : St) (x : Int) (w : World) (h : StAt w lo hi b m s) (hs : s.In) (hx : FS.In x) (hm : Mo.wIn m) (hk : s.k < 1000000000000) (hn : 0 < s.parts.length) (hl : s.parts.length ≤ 1000000000000) :
    Calls Try.prog 30 #[.pointer (some ⟨b, 0, none⟩), .int .i64 x] w fun e w' => (∃ v, e = .returned v) ∧ StAt w' lo hi b m (stepS m s x) ∧ Below lo w w' ∧ Kept w w' (Ran lo hi) := by
  obtain ⟨g, cap, m1, m2, m3, h⟩ := h
  obtain ⟨level, trend, parts, k⟩ := s
  obtain ⟨hw1, hw2, hw3⟩ := hm
  obtain ⟨hs1, hs2, hs3⟩ := hs
  dsimp only at hk hn hl hs1 hs2 hs3
  obtain ⟨j, hj⟩ : ∃ j, k % parts.length = j := ⟨_, rfl⟩
  have hjl : j < parts.length := hj ▸ Nat.mod_lt _ hn
  have hjm : Int.tmod (k : Int) (parts.length : Int) = (j : Int) := by rw [← hj]; rfl
  have hb := h.blk
  dsimp only [stCells, sl, mixV] at hb
  have c0 := blk_cell hb 0
  have c1 := blk_cell hb 1
  have c2 := blk_cell hb 2
  have c3 := blk_cell hb 3
  have c4 := blk_cell hb 4
  have c5 := blk_cell hb 5
  have c6 := blk_cell hb 6
  simp only [List.getElem?_toArray, List.getElem?_cons_zero, List.getElem?_cons_succ] at c0 c1 c2 c3 c4 c5 c6
  have z : ∀ i, w.frozen? ⟨b, i, none⟩ = false := fun i => blk_frozen hb i
  have hbg : b ≠ g := fun e => by
    have := own_ne h.row hb (by decide)
    simp [Value.ownBlock] at this
    omega
  have p0 := own_at h.row (j : Int) (by omega) (by exact_mod_cast hjl)
  dsimp only at p0
  rw [Int.toNat_natCast] at p0
  obtain ⟨p, hp⟩ : ∃ p, rd parts (j : Int) = p := ⟨_, rfl⟩
  rw [hp] at p0
  obtain ⟨p1, p2⟩ := p0
  have hpi : FS.In p := hp ▸ allIn_getD hs3 j
  have HP := Aside0.mk hp
  have HB := Aside0.mk hb
  have HH := Aside0.mk h
  have HJ := Aside0.mk hj
  clear hp hb h hj
  have k1 := blk_cell HH.out.at1.1 0
  have k2 := blk_cell HH.out.at1.2 0
  have k3 := blk_cell HH.out.at2.1 0
  have k4 := blk_cell HH.out.at2.2 0
  have k5 := blk_cell HH.out.at3.1 0
  have k6 := blk_cell HH.out.at3.2 0
  simp only [List.getElem?_toArray, List.getElem?_cons_zero] at k1 k2 k3 k4 k5 k6
  have a1 := in_subS x p
  have a2 := in_addS level trend
  have a3 := in_mixS m.a (subS x p) (addS level trend)
  have a4 := in_subS (mixS m.a (subS x p) (addS level trend)) level
  have a5 := in_subS x (mixS m.a (subS x p) (addS level trend))
  have hn0 : ¬ parts.length = 0 := by omega
  have hjl2 : (j : Int) < (parts.length : Int) := by omega
  go_enter Try.func30, Try.ntmps30
  go_wp2
  go_quiet (fail)
  revert nq
  intro n1
  go_wp2
  go_quiet ((first | (go_at_call 71; first | exact q0 (fSub (by assumption) (by assumption) _) | exact q1 (fSub (by assumption) (by assumption) _)) | (go_at_call 67; first | exact q0 (fAdd (by assumption) (by assumption) _) | exact q1 (fAdd (by assumption) (by assumption) _)) | (go_at_call 135; exact q1 (mix_calls _ _ m.a (by assumption) (by assumption) (by assumption) m1 (m1 + 1) _ k1 k2))))
  revert nq
  intro n2
  go_wp2
  refine wp_region_quiet_tail 18 (by kernel_rfl) (by kernel_rfl) (fun _ _ _ _ _ h => h) ?_
  simp only [List.take_succ_cons, List.take_zero, List.drop_succ_cons, List.drop_zero]
  repeat (go_big_quiet_step ((first | (go_at_call 71; first | exact q0 (fSub (by assumption) (by assumption) _) | exact q1 (fSub (by assumption) (by assumption) _)) | (go_at_call 135; exact q1 (mix_calls _ _ m.b (by assumption) (by assumption) (by assumption) m2 (m2 + 1) _ k3 k4)))))
  refine wpQuiet_nil ?_
  intro _ hw'
  obtain ⟨nq, hw''⟩ := hw'
  subst hw''
  revert nq
  intro n3
  go_wp2
  obtain ⟨W4, hW4⟩ : ∃ W4, (w.drewN (n1 + n2 + n3)).setCell ⟨b, 1, none⟩ (.int .i64 (mixS m.b (subS (mixS m.a (subS x p) (addS level trend)) level) trend)) = W4 := ⟨_, rfl⟩
  rw [hW4]
  have hb4 : W4.heap[b]? = some (.cells #[.int .i64 level, .int .i64 (mixS m.b (subS (mixS m.a (subS x p) (addS level trend)) level) trend), .slice (some ⟨g, 0, none⟩) parts.length cap, .int .i64 (k : Int), mixV m1, mixV m2, mixV m3] 99 (0, 0)) := hW4 ▸ blk_put (blk_drewN HB.out _) 1 _ rfl
  have far : ∀ (c : Nat) (v : Int), w.heap[c]? = some (.cells #[.int .i64 v] 3 (0, 0)) → W4.heap[c]? = some (.cells #[.int .i64 v] 3 (0, 0)) := fun c v hc => by
    rw [← hW4]
    exact blk_far (blk_drewN hc _) (blk_ne hc HB.out (by decide)) _
  have row4 : row3 W4 lo g cap parts := by
    rw [← hW4]
    exact own_setCell (pw_own_drewN HH.out.row _) (by simp [Value.ownBlock]; omega) _
  have KB : Below lo w W4 := hW4 ▸ (pw_below_drewN (Below.refl _ _) _).setCell HH.out.inb.1 _
  have KK : Kept w W4 (Ran lo hi) := hW4 ▸ ((Kept.refl w _).drewN _).setCell (.inl HH.out.inb) _
  have l1 := far _ _ HH.out.at1.1
  have l2 := far _ _ HH.out.at1.2
  have l3 := far _ _ HH.out.at2.1
  have l4 := far _ _ HH.out.at2.2
  have l5 := far _ _ HH.out.at3.1
  have l6 := far _ _ HH.out.at3.2
  have G := And.intro HH.out (And.intro hb4 (And.intro row4 (And.intro KB (And.intro KK (And.intro l1 (And.intro l2 (And.intro l3 (And.intro l4 (And.intro l5 l6)))))))))
  have GG := Aside0.mk G
  have p0 := own_at row4 (j : Int) (by omega) (by exact_mod_cast hjl)
  rw [Int.toNat_natCast, HP.out] at p0
  clear c0 c1 c2 c3 c4 c5 c6 z p1 p2 k1 k2 k3 k4 k5 k6 G far row4 KB KK
  have c0 := blk_cell hb4 0
  have c2 := blk_cell hb4 2
  have c3 := blk_cell hb4 3
  have c6 := blk_cell hb4 6
  dsimp only [mixV] at c6
  have k5 := blk_cell l5 0
  have k6 := blk_cell l6 0
  simp only [List.getElem?_toArray, List.getElem?_cons_zero, List.getElem?_cons_succ] at c0 c2 c3 c6 k5 k6
  have z : ∀ i, W4.frozen? ⟨b, i, none⟩ = false := fun i => blk_frozen hb4 i
  obtain ⟨p1, p2⟩ := p0
  have HW := Aside0.mk hW4
  clear hW4 hb4 l1 l2 l3 l4 l5 l6
  have a6 := in_mixS m.c (subS x (mixS m.a (subS x p) (addS level trend))) p
  refine wp_region_quiet_tail 21 (by kernel_rfl) (by kernel_rfl) (fun _ _ _ _ _ h => h) ?_
  simp only [List.take_succ_cons, List.take_zero, List.drop_succ_cons, List.drop_zero]
  repeat (go_big_quiet_step ((first | (go_at_call 71; first | exact q0 (fSub (by assumption) (by assumption) _) | exact q1 (fSub (by assumption) (by assumption) _)) | (go_at_call 135; exact q0 (mix_calls _ _ m.c (by assumption) (by assumption) (by assumption) m3 (m3 + 1) _ k5 k6)))))
  refine wpQuiet_nil ?_
  intro _ hw'
  obtain ⟨nq, hw''⟩ := hw'
  subst hw''
  revert nq
  intro n4
  go_wp2
  go_end0
  obtain ⟨h, hb4, row4, KB, KK, l1, l2, l3, l4, l5, l6⟩ := GG.out
  have es : stepS m ⟨level, trend, parts, k⟩ x = ⟨mixS m.a (subS x p) (addS level trend), mixS m.b (subS (mixS m.a (subS x p) (addS level trend)) level) trend, parts.set j (mixS m.c (subS x (mixS m.a (subS x p) (addS level trend))) p), k + 1⟩ := by
    have e : parts.getD j 0 = p := HP.out
    simp only [stepS, HJ.out, e]
  rw [es]
  obtain ⟨hin1, hin2⟩ := h.inb
  obtain ⟨hin3, hin4⟩ := h.ing
  have htop := h.top
  have kk : Kept w (((((W4.drewN n4).setCell ⟨g, j, none⟩ (.int .i64 (mixS m.c (subS x (mixS m.a (subS x p) (addS level trend))) p))).setCell ⟨b, 0, none⟩ (.int .i64 (mixS m.a (subS x p) (addS level trend)))).setCell ⟨b, 3, none⟩ (.int .i64 ((k : Int) + 1)))) (Ran lo hi) :=
    (((KK.drewN n4).setCell (p := ⟨g, j, none⟩) (.inl h.ing) _).setCell (p := ⟨b, 0, none⟩) (.inl h.inb) _).setCell (p := ⟨b, 3, none⟩) (.inl h.inb) _
  refine ⟨⟨_, rfl⟩, ⟨g, cap, m1, m2, m3, ?_⟩, (((pw_below_drewN KB n4).setCell hin3 _).setCell hin1 _).setCell hin1 _, kk⟩
  have fr : ∀ (c : Nat) (v : Int), W4.heap[c]? = some (.cells #[.int .i64 v] 3 (0, 0)) → c ≠ g → ((((W4.drewN n4).setCell ⟨g, j, none⟩ (.int .i64 (mixS m.c (subS x (mixS m.a (subS x p) (addS level trend))) p))).setCell ⟨b, 0, none⟩ (.int .i64 (mixS m.a (subS x p) (addS level trend)))).setCell ⟨b, 3, none⟩ (.int .i64 ((k : Int) + 1))).heap[c]? = some (.cells #[.int .i64 v] 3 (0, 0)) := fun c v hc hg => by
    have hcb := blk_ne hc hb4 (by decide)
    exact blk_far (blk_far (blk_far (blk_drewN hc _) hg _) hcb _) hcb _
  obtain ⟨g1, g2, g3⟩ := h.sep
  have rw1 := own_put (pw_own_drewN row4 n4) (j : Int) (mixS m.c (subS x (mixS m.a (subS x p) (addS level trend))) p)
  rw [Int.toNat_natCast] at rw1
  refine ⟨?_, ?_, ⟨fr _ _ l1 (by omega), fr _ _ l2 (by omega)⟩, ⟨fr _ _ l3 (by omega), fr _ _ l4 (by omega)⟩, ⟨fr _ _ l5 (by omega), fr _ _ l6 (by omega)⟩, h.inb, h.ing, h.in1, h.in2, h.in3, h.sep, Nat.le_trans htop kk.1⟩
  · refine blk_put (blk_put (blk_far (blk_drewN hb4 _) hbg _) 0 _ rfl) 3 _ ?_
    simp [stCells, sl]
  · show row3 _ lo g cap (parts.set j _)
    unfold row3
    have rw2 := own_setCell (p := ⟨b, 3, none⟩) (own_setCell (p := ⟨b, 0, none⟩) rw1 (by simp [Value.ownBlock]; omega) (.int .i64 (mixS m.a (subS x p) (addS level trend)))) (by simp [Value.ownBlock]; omega) (.int .i64 ((k : Int) + 1))
    rw [List.length_set] at rw2 ⊢
    exact rw2
end Go.Proofs.Ytemnfnbjapobcaa.Ho
end
section
namespace Go.Proofs.Ytemnfnbjapobcaa.Ho
open Go.RowKit Go.Proofs.YtemnfnbjapobcaaW.PrintWords Go.Proofs.YtemnfnbjapobcaaW.PrintLast Go.Proofs.YtemnfnbjapobcaaW.PrintMore
open Go.Proofs.Ytemnfnbjapobcaa.FS Go.Proofs.Ytemnfnbjapobcaa.HS
set_option linter.unusedVariables false
set_option linter.unusedSimpArgs false
theorem i64_wrap_id {x : Int} (h0 : -9223372036854775808 ≤ x) (h1 : x ≤ 9223372036854775807) : IntKind.i64.wrap x = x := by rw [IntKind.wrap_i64]; omega
set_option maxHeartbeats 4000000 in
theorem castOf_calls (lo hi b : Nat) (m : Mo) (s : St) (ahead : Int) (w : World) (h : StAt w lo hi b m s) (hs : s.In) (ha : FS.In ahead) (hk : s.k < 1000000000000) (hn : 0 < s.parts.length) (hl : s.parts.length ≤ 1000000000000) :
    Calls Try.prog 28 #[.pointer (some ⟨b, 0, none⟩), .int .i64 ahead] w fun e w' => e = .returned (.tuple #[.int .i64 (castOf s ahead).1, .int .i64 (castOf s ahead).2]) ∧ Drawn0 w w' := by
  obtain ⟨g, cap, m1, m2, m3, h⟩ := h
  obtain ⟨level, trend, parts, k⟩ := s
  obtain ⟨hs1, hs2, hs3⟩ := hs
  dsimp only at hk hn hl hs1 hs2 hs3
  obtain ⟨r, hr⟩ : ∃ r, castOf ⟨level, trend, parts, k⟩ ahead = r := ⟨_, rfl⟩
  rw [hr]
  obtain ⟨r1, r2⟩ := r
  have HR := Aside0.mk hr
  clear hr
  have hb := h.blk
  dsimp only [stCells, sl, mixV] at hb
  have c0 := blk_cell hb 0
  have c1 := blk_cell hb 1
  have c2 := blk_cell hb 2
  have c3 := blk_cell hb 3
  simp only [List.getElem?_toArray, List.getElem?_cons_zero, List.getElem?_cons_succ] at c0 c1 c2 c3
  have hn1 : ¬ parts.length = 0 := by omega
  have hn0 : ((parts.length : Int) == 0) = false := by rw [beq_eq_false_iff_ne]; omega
  by_cases h1 : ahead < 1
  · obtain ⟨rfl, rfl⟩ : r1 = 0 ∧ r2 = 1 := by have := HR.out; simp only [castOf] at this; rw [if_pos (.inl h1)] at this; simpa [eq_comm] using this
    have g1 : decide (ahead < 1) = true := decide_eq_true h1
    clear h1 HR h hb
    go_enter Try.func28, Try.ntmps28
    go_wp2
    go_ret2
    exact ⟨rfl, Drawn0.refl _⟩
  · have g1 : decide (ahead < 1) = false := decide_eq_false h1
    by_cases h2 : 10000 < ahead
    · obtain ⟨rfl, rfl⟩ : r1 = 0 ∧ r2 = 1 := by have := HR.out; simp only [castOf] at this; rw [if_pos (.inr h2)] at this; simpa [eq_comm] using this
      have g2 : decide (10000 < ahead) = true := decide_eq_true h2
      clear h1 h2 HR h hb
      go_enter Try.func28, Try.ntmps28
      go_wp2
      go_ret2
      exact ⟨rfl, Drawn0.refl _⟩
    · have g2 : decide (10000 < ahead) = false := decide_eq_false h2
      obtain ⟨A, rfl⟩ := Int.eq_ofNat_of_zero_le (show 0 ≤ ahead by omega)
      obtain ⟨j, hj⟩ : ∃ j, (k + A - 1) % parts.length = j := ⟨_, rfl⟩
      have hjl : j < parts.length := hj ▸ Nat.mod_lt _ hn
      obtain ⟨p, hp⟩ : ∃ p, rd parts (j : Int) = p := ⟨_, rfl⟩
      obtain ⟨rfl, rfl⟩ : r1 = addS (addS level (mulS (ofS (A : Int)) trend)) p ∧ r2 = 0 := by
        have := HR.out
        simp only [castOf] at this
        rw [if_neg (by omega)] at this
        obtain ⟨e1, e2⟩ := Prod.mk.inj this
        refine ⟨?_, e2.symm⟩
        rw [← e1, ← hp, Int.toNat_natCast, hj]
        rfl
      have p0 := own_at h.row (j : Int) (by omega) (by exact_mod_cast hjl)
      dsimp only at p0
      rw [Int.toNat_natCast, hp] at p0
      obtain ⟨p1, p2⟩ := p0
      have hpi : FS.In p := hp ▸ allIn_getD hs3 j
      obtain ⟨u, hq⟩ : ∃ u : Int, IntKind.i64.wrap ((k : Int) + (A : Int)) = u := ⟨_, rfl⟩
      have hq' : u = (k : Int) + A := by rw [← hq]; exact i64_wrap_id (by omega) (by omega)
      obtain ⟨u1, hq1⟩ : ∃ u1 : Int, IntKind.i64.wrap (u - 1) = u1 := ⟨_, rfl⟩
      have hq1' : u1 = ((k + A - 1 : Nat) : Int) := by rw [← hq1, hq', i64_wrap_id (by omega) (by omega)]; omega
      have hjm : Int.tmod u1 (parts.length : Int) = (j : Int) := by rw [hq1', ← hj]; rfl
      have a1 := in_ofS (A : Int)
      have a2 := in_mulS (ofS (A : Int)) trend
      have a3 := in_addS level (mulS (ofS (A : Int)) trend)
      have hjl2 : (j : Int) < (parts.length : Int) := by omega
      clear hq' hq1' HR h hb hp hj h1 h2
      go_enter Try.func28, Try.ntmps28
      go_wp2
      go_quiet ((first | (go_at_call 69; exact q0 (fOf (by assumption) _)) | (go_at_call 68; exact q0 (fMul (by assumption) (by assumption) _)) | (go_at_call 67; exact q0 (fAdd (by assumption) (by assumption) _))))
      go_wp2
      go_quiet ((first | (go_at_call 67; exact q1 (fAdd (by assumption) (by assumption) _))))
      go_wp2
      go_ret2
      exact ⟨rfl, by repeat (first | exact Drawn0.refl _ | apply Drawn0.step)⟩
end Go.Proofs.Ytemnfnbjapobcaa.Ho
end
section
namespace Go.Proofs.Ytemnfnbjapobcaa.Ho
open Go.RowKit Go.Proofs.YtemnfnbjapobcaaW.PrintWords Go.Proofs.YtemnfnbjapobcaaW.PrintLast Go.Proofs.YtemnfnbjapobcaaW.PrintMore
open Go.Proofs.Ytemnfnbjapobcaa.FS Go.Proofs.Ytemnfnbjapobcaa.HS
set_option linter.unusedVariables false
set_option linter.unusedSimpArgs false
theorem info3 : (Try.prog.info? 3).map (fun i => (i.zero, i.size, i.bytes)) = some (some (.int .i64 0), 1, 8) := by kernel_rfl
theorem cell_below {w w' : World} {p : Addr} {v : Value} (hb : Below w.drew.heap.size w.drew w') (hc : w.cell? p = some v) : w'.cell? p = some v := (hb.cell (World.block_lt_of_cell? _ _ hc)).trans hc
theorem row_form {W : World} {lo : Nat} {v : Value} {l : List Int} (h : W.ownsRow lo 3 1 v l.length (nums .i64 l)) (hn : 0 < l.length) : ∃ g cap, v = .slice (some ⟨g, 0, none⟩) l.length cap ∧ lo ≤ g ∧ g < W.heap.size := by
  rcases h.2 with ⟨_, h2⟩ | ⟨g, cap, cur, rfl, h2, h3, _⟩
  · omega
  · exact ⟨g, cap, rfl, h2, blk_lt h3⟩
end Go.Proofs.Ytemnfnbjapobcaa.Ho
end
section
namespace Go.Proofs.Ytemnfnbjapobcaa.Ho
open Go.RowKit Go.Proofs.YtemnfnbjapobcaaW.PrintWords Go.Proofs.YtemnfnbjapobcaaW.PrintLast Go.Proofs.YtemnfnbjapobcaaW.PrintMore
open Go.Proofs.Ytemnfnbjapobcaa.FS Go.Proofs.Ytemnfnbjapobcaa.HS
set_option linter.unusedVariables false
set_option linter.unusedSimpArgs false
theorem mean_n (A : Option Addr) (n c : Nat) (l : List Int) (w : World) (e : l.length = n) (hr : Kd.C (Kd.int .i64) w A n l) (hl : n ≤ 1000000000000) (hin : AllIn l) :
    Calls Try.prog 101 #[.slice A n c] w fun e w' => e = .returned (.int .i64 (meanS l)) ∧ Drawn0 w w' := by
  subst e
  exact mean_calls A c l w hr hl hin
theorem allIn_take {l : List Int} (h : AllIn l) (n : Nat) : AllIn (l.take n) := fun x hx => h x (List.mem_of_mem_take hx)
theorem allIn_drop {l : List Int} (h : AllIn l) (n : Nat) : AllIn (l.drop n) := fun x hx => h x (List.mem_of_mem_drop hx)
theorem cell_made {w w' : World} {n : Nat} {p : Addr} {v : Value} (h : Made w w' n) (hc : w.cell? p = some v) : w'.cell? p = some v := (h.below.cell (World.block_lt_of_cell? _ _ hc)).trans hc
theorem weighed_x (wt : Int) (hwt : FS.In wt) (w : World) :
    Calls Try.prog 103 #[.int .i64 wt] w fun e w' => e = .returned (.func (.func 135) #[] #[.pointer (some ⟨w.heap.size, 0, none⟩), .pointer (some ⟨w.heap.size + 1, 0, none⟩)]) ∧ MixAt w' w.heap.size wt ∧ Made w w' 2 := weighed_calls wt hwt w
theorem below_alloc_ {n : Nat} {w W : World} (h : Below n w W) (hn : n ≤ W.heap.size) (o : Obj) : Below n w (W.alloc o) := h.alloc hn o
theorem cell_alloc {w : World} {p : Addr} {v : Value} (hc : w.cell? p = some v) (o : Obj) : (w.alloc o).cell? p = some v := by
  rw [World.cell?_alloc_lt _ _ _ (World.block_lt_of_cell? _ _ hc)]; exact hc
theorem cell_of_alloc {w : World} {p : Addr} {v : Value} {o : Obj} (hc : (w.alloc o).cell? p = some v) (hp : p.block < w.heap.size) : w.cell? p = some v := by
  rwa [World.cell?_alloc_lt _ _ _ hp] at hc
theorem parts_len (l : List Int) (av : Int) {k N : Nat} (h : k ≤ N) (hN : N ≤ l.length) : (((l.take N).take k).map (fun x => subS x av)).length = k := by simp; omega
theorem parts_snoc (l : List Int) (av : Int) {k N : Nat} (h : k < N) (hN : N ≤ l.length) : ((l.take N).take (k + 1)).map (fun x => subS x av) = ((l.take N).take k).map (fun x => subS x av) ++ [subS (rd l (k : Int)) av] := by
  have e : rd l (k : Int) = l[k]'(by omega) := by
    show l.getD k 0 = _
    simp [List.getD_eq_getElem?_getD, List.getElem?_eq_getElem (show k < l.length by omega)]
  rw [List.take_succ_eq_append_getElem (by simp; omega), List.map_append, e]
  simp
structure Lay (V W : World) (lo b : Nat) (cs : Value → Array Value) (v : Value) (l : List Int) : Prop where
  blk : W.heap[b]? = some (.cells (cs v) 99 (0, 0))
  row : W.ownsRow (b + 1) 3 1 v l.length (nums .i64 l)
  kept : Kept V W (· = b)
  below : Below lo V W
def moV (m : Mo) : Value := .agg #[.int .i64 m.n, .int .i64 m.a, .int .i64 m.b, .int .i64 m.c]
set_option maxRecDepth 100000 in
set_option maxHeartbeats 4000000 in
theorem begin_calls (A : Option Addr) (c : Nat) (l : List Int) (m : Mo) (w : World) (hr : Kd.C (Kd.int .i64) w A l.length l) (hc : l.length ≤ c) (hin : AllIn l) (hm : Mo.wIn m) (hn : 1 ≤ m.n) (hl : 2 * m.n ≤ (l.length : Int)) (hll : l.length ≤ 1000000000) :
    Calls Try.prog 64 #[.slice A l.length c, moV m] w fun e w' => ∃ b, e = .returned (.pointer (some ⟨b, 0, none⟩)) ∧ StAt w' w.heap.size w'.heap.size b m (beginS l m.n.toNat) ∧ Below w.heap.size w w' := by
  obtain ⟨n, ma, mb, mc⟩ := m
  dsimp only at hn hl
  obtain ⟨N, rfl⟩ := Int.eq_ofNat_of_zero_le (show 0 ≤ n by omega)
  rw [Int.toNat_natCast]
  dsimp only [moV]
  obtain ⟨ad, rfl, _⟩ := Kd.at_int hr 0 (by omega) (by omega)
  obtain ⟨M, hM⟩ : ∃ M, 2 * N = M := ⟨_, rfl⟩
  have e2 : IntKind.i64.wrap (2 * (N : Int)) = (M : Int) := by rw [i64_wrap_id (by omega) (by omega)]; omega
  have b1 : N ≤ M := by omega
  have b2 : M ≤ c := by omega
  have b3 : N ≤ c := by omega
  have b4 : ¬ M = N := by omega
  have b5 : M - N = N := by omega
  have b6 : ¬ N = 0 := by omega
  have m1 : Kd.C (Kd.int .i64) w (some ad) N (l.take N) := by
    have h := Kd.C_take hr (m := N) (by omega)
    rwa [List.length_take, Nat.min_eq_left (by omega)] at h
  have m2 : Kd.C (Kd.int .i64) w (some (ad.add N)) N ((l.drop N).take N) := by
    have h := Kd.C_mid hr (lo := N) (hi := M) (c := c) b1 (by omega) hc
    rw [List.drop_take, b5, if_neg (by omega)] at h
    have e : ((l.drop N).take N).length = N := by simp; omega
    rw [e] at h
    simpa [show (Kd.int .i64).sz = 1 from rfl] using h
  have i1 : FS.In (meanS (l.take N)) := in_divS _ _
  have i2 : FS.In (meanS ((l.drop N).take N)) := in_divS _ _
  have i3 := in_subS (meanS ((l.drop N).take N)) (meanS (l.take N))
  have i4 : FS.In (N : Int) := ⟨by omega, by omega⟩
  have i5 := in_ofS (N : Int)
  obtain ⟨i6, i7, i8⟩ := hm
  dsimp only at i6 i7 i8
  have t1 : (l.take N).length = N := by simp; omega
  have t2 : ((l.drop N).take N).length = N := by simp; omega
  have HH := Aside0.mk (And.intro hr (And.intro hM (And.intro hin (And.intro m1 (And.intro m2 (And.intro t1 t2))))))
  clear hr hM hin m1 m2 t1 t2
  go_enter Try.func64, Try.ntmps64
  go_wp2
  go_quiet ((go_at_call 101; first | exact q0 (mean_n _ _ _ (l.take N) _ HH.out.2.2.2.2.2.1 (Kd.C_drewN (Kd.C_alloc HH.out.2.2.2.1 _) _) (by omega) (allIn_take HH.out.2.2.1 _)) | exact q0 (mean_n _ _ _ ((l.drop N).take N) _ HH.out.2.2.2.2.2.2 (Kd.C_drewN (Kd.C_alloc HH.out.2.2.2.2.1 _) _) (by omega) (allIn_take (allIn_drop HH.out.2.2.1 _) _))))
  revert nq
  intro n1
  go_wp2
  obtain ⟨W, hW⟩ : ∃ W, (w.alloc (.cells #[.int .i64 (N : Int), .int .i64 ma, .int .i64 mb, .int .i64 mc] 29)).drewN n1 = W := ⟨_, rfl⟩
  rw [hW]
  have hb : W.heap[w.heap.size]? = some (.cells #[.int .i64 (N : Int), .int .i64 ma, .int .i64 mb, .int .i64 mc] 29 (0, 0)) := hW ▸ blk_drewN (blk_new w _) n1
  have hs : W.heap.size = w.heap.size + 1 := by rw [← hW]; simp
  have hB : Below w.heap.size w W := hW ▸ pw_below_drewN (below_alloc (Below.refl _ _) _) n1
  have d1 := blk_cell hb 1
  have d2 := blk_cell hb 2
  have d3 := blk_cell hb 3
  simp only [List.getElem?_toArray, List.getElem?_cons_zero, List.getElem?_cons_succ] at d1 d2 d3
  have HW := Aside0.mk (And.intro hW (And.intro hb (And.intro hs hB)))
  clear hW hb hs hB
  go_region_held3 (fun w' => w'.cell? ⟨w.heap.size, 1, none⟩ = some (.int .i64 ma) ∧ w'.cell? ⟨w.heap.size, 2, none⟩ = some (.int .i64 mb) ∧ w'.cell? ⟨w.heap.size, 3, none⟩ = some (.int .i64 mc)) (first | go_keep | (go_split_ands; exact ⟨cell_made hmade (by assumption), cell_made hmade (by assumption), cell_made hmade (by assumption)⟩)) (first | (go_at_call 71; (with_reducible refine (fSub (by assumption) (by assumption) _).mono ?_); rintro e w' ⟨rfl, ⟨nd, rfl⟩⟩) | (go_at_call 69; (with_reducible refine (fOf (by assumption) _).mono ?_); rintro e w' ⟨rfl, ⟨nd, rfl⟩⟩) | (go_at_call 102; (with_reducible refine (fDiv (by assumption) (by assumption) _).mono ?_); rintro e w' ⟨rfl, ⟨nd, rfl⟩⟩) | (go_at_call 103; (with_reducible refine (weighed_x _ (by assumption) _).mono ?_); rintro e w' ⟨rfl, hmix, hmade⟩))
  rename_i w1 hx1 hd1 w2 hx2 hd2 hheld
  clear hheld
  obtain ⟨hW, hb, hs, hB⟩ := HW.out
  have z1 : w1.heap.size = w.heap.size + 3 := by have := hd1.size; simp at this; omega
  have z2 : w2.heap.size = w.heap.size + 5 := by have := hd2.size; omega
  have z3 : w'.heap.size = w.heap.size + 7 := by have := hmade.size; omega
  obtain ⟨tr, htr⟩ : ∃ tr, divS (subS (meanS ((l.drop N).take N)) (meanS (l.take N))) (ofS (N : Int)) = tr := ⟨_, rfl⟩
  rw [htr]
  obtain ⟨av, hav⟩ : ∃ av, meanS (l.take N) = av := ⟨_, rfl⟩
  rw [hav] at i1 ⊢
  obtain ⟨V, hV⟩ : ∃ V, w'.alloc (.cells #[.int .i64 av, .int .i64 tr, .slice none 0 0, .int .i64 0, mixV W.heap.size, mixV w1.heap.size, mixV w2.heap.size] 99) = V := ⟨_, rfl⟩
  dsimp only [mixV] at hV
  rw [hV]
  obtain ⟨B, hBz⟩ : ∃ B, w'.heap.size = B := ⟨_, rfl⟩
  obtain ⟨M1, hM1⟩ : ∃ M1, W.heap.size = M1 := ⟨_, rfl⟩
  obtain ⟨M2, hM2⟩ : ∃ M2, w1.heap.size = M2 := ⟨_, rfl⟩
  obtain ⟨M3, hM3⟩ : ∃ M3, w2.heap.size = M3 := ⟨_, rfl⟩
  rw [hBz, hM1, hM2, hM3]
  rw [hM1, hM2, hM3] at hV
  have y1 : MixAt V M1 ma := by
    rw [← hV, ← hM1]
    have h1 : cell1 w1 W.heap.size ma ∧ cell1 w1 (W.heap.size + 1) (subS 4294967296 ma) := hx1
    exact ⟨blk_alloc (blk_below (blk_below h1.1 hd2.below) hmade.below) _, blk_alloc (blk_below (blk_below h1.2 hd2.below) hmade.below) _⟩
  have y2 : MixAt V M2 mb := by
    rw [← hV, ← hM2]
    exact ⟨blk_alloc (blk_below hx2.1 hmade.below) _, blk_alloc (blk_below hx2.2 hmade.below) _⟩
  have y3 : MixAt V M3 mc := by
    rw [← hV, ← hM3]
    exact ⟨blk_alloc hmix.1 _, blk_alloc hmix.2 _⟩
  have BV : Below w.heap.size w V := by
    rw [← hV]
    refine below_alloc_ (((hB.trans ((pw_below_drewN (Below.refl _ _) _).trans (hd1.below.mono ?_))).trans (hd2.below.mono ?_)).trans (hmade.below.mono ?_)) ?_ _ <;> first | omega | (simp; omega)
  have hbV : V.heap[B]? = some (.cells #[.int .i64 av, .int .i64 tr, .slice none 0 0, .int .i64 0, mixV M1, mixV M2, mixV M3] 99 (0, 0)) := by
    rw [← hV, ← hBz]
    exact blk_new w' _
  have hVz : V.heap.size = B + 1 := by rw [← hV, ← hBz]; simp
  have L0 : Lay V V w.heap.size B (fun v => #[.int .i64 av, .int .i64 tr, v, .int .i64 0, mixV M1, mixV M2, mixV M3]) (.slice none 0 0) [] :=
    ⟨hbV, own_nil _ _ _ _, Kept.refl _ _, Below.refl _ _⟩
  have lB : w.heap.size + 7 = B := by omega
  have lM : M1 = w.heap.size + 1 ∧ M2 = w.heap.size + 3 ∧ M3 = w.heap.size + 5 := by omega
  have G := Aside0.mk (And.intro y1 (And.intro y2 (And.intro y3 (And.intro BV (And.intro hVz (And.intro lB (And.intro lM (And.intro htr hav))))))))
  have GL := Aside0.mk L0
  clear hbV hVz BV y1 y2 y3 hV L0 hM1 hM2 hM3 hBz z1 z2 z3 hW hb hs hB hx1 hd1 hx2 hd2 hmix hmade d1 d2 d3 HW lB lM htr hav
  go_wp2
  go_loopg [49] N (fun kq v49 W' => ∃ (k : Nat) (v : Value), v49 = .int .i64 (k : Int) ∧ Aside0 (kq + k = N) ∧ Aside0 (Lay V W' w.heap.size B (fun v => #[.int .i64 av, .int .i64 tr, v, .int .i64 0, mixV M1, mixV M2, mixV M3]) v (((l.take N).take k).map (fun x => subS x av))))
  case atStart => exact ⟨0, _, rfl, ⟨rfl⟩, by simpa using GL⟩
  case round =>
    obtain ⟨k, v, rfl, HK, HL⟩ := hrel
    by_cases ck : k < N
    · have c1 : decide ((k : Int) < (N : Int)) = true := decide_eq_true (by omega)
      obtain ⟨ad', e, r0⟩ := Kd.at_int (Kd.C_below HH.out.1 (G.out.2.2.2.1.trans HL.out.below)) (k : Int) (by omega) (by omega)
      cases e
      rw [Int.toNat_natCast] at r0
      have j1 : FS.In (rd l (k : Int)) := allIn_getD HH.out.2.2.1 k
      have u2 := blk_cell HL.out.blk 2
      simp only [List.getElem?_toArray, List.getElem?_cons_zero, List.getElem?_cons_succ] at u2
      have f2 := blk_frozen HL.out.blk 2
      have kN : k < N := ck
      clear ck
      go_wp2
      refine start_ (n := 13) (S := fun w' => w'.cell? ⟨B, 2, none⟩ = some v) (ds := [12]) #[false, false, false, false, false, false, false, false, false, false, false, false, false] (by kernel_rfl) rfl rfl u2 (fun hHeld => ?_)
      refine pure_ (i := 0) (N := some 53) (v := ?_) (a' := ?_) #[true, false, false, false, false, false, false, false, false, false, false, false, false] rfl rfl (by kernel_rfl) (fun _ _ _ h => h) (Or.inl ⟨by rfl, ?_⟩) ?_ ?_
      rotate_left
      · intro w'
        go_simp
        with_reducible rfl
      rotate_left
      · simp only [Act.put, List.setIfInBounds_toArray, List.set_cons_zero, List.set_cons_succ, i64_w, i32_w]
        rfl
      refine pure_ (i := 1) (N := some 54) (v := ?_) (a' := ?_) #[true, true, false, false, false, false, false, false, false, false, false, false, false] rfl rfl (by kernel_rfl) (fun _ _ _ h => h) (Or.inl ⟨by rfl, ?_⟩) ?_ ?_
      rotate_left
      · intro w'
        go_simp
        with_reducible rfl
      rotate_left
      · simp only [Act.put, List.setIfInBounds_toArray, List.set_cons_zero, List.set_cons_succ, i64_w, i32_w]
        rfl
      refine pure_ (i := 2) (N := some 55) (v := ?_) (a' := ?_) #[true, true, true, false, false, false, false, false, false, false, false, false, false] rfl rfl (by kernel_rfl) (fun _ _ _ h => h) (Or.inl ⟨by rfl, ?_⟩) ?_ ?_
      rotate_left
      · intro w'
        go_simp
        with_reducible rfl
      rotate_left
      · simp only [Act.put, List.setIfInBounds_toArray, List.set_cons_zero, List.set_cons_succ, i64_w, i32_w]
        rfl
      refine pure_ (i := 3) (N := some 56) (v := ?_) (a' := ?_) #[true, true, true, true, false, false, false, false, false, false, false, false, false] rfl rfl (by kernel_rfl) (fun _ _ _ h => h) (Or.inl ⟨by rfl, ?_⟩) ?_ ?_
      rotate_left
      · intro w'
        go_simp
        with_reducible rfl
      rotate_left
      · simp only [Act.put, List.setIfInBounds_toArray, List.set_cons_zero, List.set_cons_succ, i64_w, i32_w]
        rfl
      refine pure_ (i := 5) (N := some 58) (v := ?_) (a' := ?_) #[true, true, true, true, false, true, false, false, false, false, false, false, false] rfl rfl (by kernel_rfl) (fun _ _ _ h => h) (Or.inl ⟨by rfl, ?_⟩) ?_ ?_
      rotate_left
      · intro w'
        go_simp
        with_reducible rfl
      rotate_left
      · simp only [Act.put, List.setIfInBounds_toArray, List.set_cons_zero, List.set_cons_succ, i64_w, i32_w]
        rfl
      refine pure_ (i := 6) (N := some 59) (v := ?_) (a' := ?_) #[true, true, true, true, false, true, true, false, false, false, false, false, false] rfl rfl (by kernel_rfl) (fun _ _ _ h => h) (Or.inl ⟨by rfl, ?_⟩) ?_ ?_
      rotate_left
      · intro w'
        go_simp
        with_reducible rfl
      rotate_left
      · simp only [Act.put, List.setIfInBounds_toArray, List.set_cons_zero, List.set_cons_succ, i64_w, i32_w]
        rfl
      refine take_ (i := 4) (N := some 57) (v := ?_) (a' := ?_) #[true, true, true, true, true, true, true, false, false, false, false, false, false] rfl rfl (by kernel_rfl) (fun _ _ _ h => h) (Or.inl ⟨by rfl, ?_⟩) hHeld ?_ ?_
      rotate_left
      · rintro w' s0
        go_simp
        with_reducible rfl
      rotate_left
      · simp only [Act.put, List.setIfInBounds_toArray, List.set_cons_zero, List.set_cons_succ, i64_w, i32_w]
        rfl
      refine one_ (i := 7) (N := some 60) #[true, true, true, true, true, true, true, true, false, false, false, false, false] rfl rfl (by kernel_rfl) (by decide) (fun K hK => ?_)
      refine goes_ Try.func71 (by kernel_rfl) rfl #[.int .i64 (rd l (k : Int)), .int .i64 av] (by rfl) rfl rfl (by simp [Act.eval]) ?_
      refine (fSub j1 i1 _).mono ?_
      rintro e w' ⟨rfl, ⟨nd, rfl⟩⟩
      refine ⟨_, rfl, hK.out _ _ hHeld (fun hHeld => ?_)⟩
      clear hK K
      refine norm_ (by simp only [Act.put, List.setIfInBounds_toArray, List.set_cons_zero, List.set_cons_succ, i64_w, i32_w]; rfl) ?_
      refine one_ (i := 8) (N := some 61) #[true, true, true, true, true, true, true, true, true, false, false, false, false] rfl rfl (by kernel_rfl) (by decide) (fun K hK => ?_)
      refine value_ (w1 := (wr.drew.drewN nd).alloc (.cells #[.int .i64 (subS (rd l (k : Int)) av)] 3)) (v := .slice (some ⟨wr.heap.size, 0, none⟩) 1 1) (by rfl) rfl (by go_simp) ?_
      refine hK.out _ _ (cell_alloc hHeld _) (fun hHeld => ?_)
      clear hK K
      refine norm_ (by simp only [Act.put, List.setIfInBounds_toArray, List.set_cons_zero, List.set_cons_succ, i64_w, i32_w]; rfl) ?_
      refine one_ (i := 9) (N := some 62) #[true, true, true, true, true, true, true, true, true, true, false, false, false] rfl rfl (by kernel_rfl) (by decide) (fun K hK => ?_)
      have hlk := parts_len l av (show k ≤ N by omega) (show N ≤ l.length by omega)
      obtain ⟨gB, gz⟩ : w.heap.size + 7 = B ∧ V.heap.size = B + 1 := ⟨G.out.2.2.2.2.2.1, G.out.2.2.2.2.1⟩
      have gz2 := HL.out.kept.1
      refine step_append_cells (w0 := wr.drew.drewN nd) (W := wr.drew.drewN nd) (B + 1) (by rfl) (.tmp 57) (.tmp 61) 23 3 (.int .i64 0) 1 8 rfl Try.underlying23 info3 rfl (by decide) (by decide) v _ _ [.int .i64 (subS (rd l (k : Int)) av)] (by simp [Act.eval]) (by simp [Act.eval]) rfl (by intro u hu; simp at hu; subst hu; rfl) (pw_own_drewN (own_drew HL.out.row) nd) (Below.refl _ _) (by simp; omega) (by rw [hlk]; omega) ?_
      intro v1 w1 hown hbel hgr hat
      have hHeld2 := (hbel.cell (p := ⟨B, 2, none⟩) (by simp)).trans (cell_of_alloc hHeld (by simp; omega))
      refine hK.out _ _ hHeld2 (fun hHeld => ?_)
      clear hK K
      refine norm_ (by simp only [Act.put, List.setIfInBounds_toArray, List.set_cons_zero, List.set_cons_succ, i64_w, i32_w]; rfl) ?_
      refine pure_ (i := 10) (N := some 63) (v := ?_) (a' := ?_) #[true, true, true, true, true, true, true, true, true, true, true, false, false] rfl rfl (by kernel_rfl) (fun _ _ _ h => h) (Or.inl ⟨by rfl, ?_⟩) ?_ ?_
      rotate_left
      · intro w'
        go_simp
        with_reducible rfl
      rotate_left
      · simp only [Act.put, List.setIfInBounds_toArray, List.set_cons_zero, List.set_cons_succ, i64_w, i32_w]
        rfl
      refine pure_ (i := 11) (N := some 64) (v := ?_) (a' := ?_) #[true, true, true, true, true, true, true, true, true, true, true, true, false] rfl rfl (by kernel_rfl) (fun _ _ _ h => h) (Or.inl ⟨by rfl, ?_⟩) ?_ ?_
      rotate_left
      · intro w'
        go_simp
        with_reducible rfl
      rotate_left
      · simp only [Act.put, List.setIfInBounds_toArray, List.set_cons_zero, List.set_cons_succ, i64_w, i32_w]
        rfl
      refine last_ (i := 12) (N := none) #[true, true, true, true, true, true, true, true, true, true, true, true, true] rfl rfl (by kernel_rfl) (by decide) (fun K hK => ?_)
      have hn1 := parts_snoc l av (show k < N by omega) (show N ≤ l.length by omega)
      have hb1 : w1.heap[B]? = some (.cells #[.int .i64 av, .int .i64 tr, v, .int .i64 0, mixV M1, mixV M2, mixV M3] 99 (0, 0)) := (hbel.block B (by omega)).trans HL.out.blk
      have fz := blk_frozen hb1 2
      have hown2 : w1.ownsRow (B + 1) 3 1 v1 (((l.take N).take (k + 1)).map (fun x => subS x av)).length (nums .i64 (((l.take N).take (k + 1)).map (fun x => subS x av))) := by
        rw [hn1]
        simpa [nums] using hown
      have hlk2 := parts_len l av (show k + 1 ≤ N by omega) (show N ≤ l.length by omega)
      obtain ⟨g, cap, hv1, hg1, hg2⟩ := row_form hown2 (by omega)
      rw [hlk2] at hv1
      subst hv1
      have HZ := Aside0.mk (And.intro hown2 (And.intro hb1 (And.intro hbel (And.intro hgr hn1))))
      clear hown2 hown hb1 hbel hgr hn1 hlk hlk2 hat
      refine skip_ (w1 := w1.setCell ⟨B, 2, none⟩ (.slice (some ⟨g, 0, none⟩) (k + 1) cap)) (by rfl) rfl (by go_simp) ?_
      refine hK.out _ _ ?_
      clear hK K
      refine done_ (by kernel_rfl) ?_
      cases gk with
      | zero => exact absurd HK.out (by omega)
      | succ k1 =>
        go_wp2
        go_roundg k1
        case measure => omega
        case rel =>
          obtain ⟨hown2, hb1, hbel, hgr, hn1⟩ := HZ.out
          refine ⟨k + 1, _, by go_num, ⟨by have := HK.out; omega⟩, ⟨⟨blk_put hb1 2 _ rfl, own_setCell (p := ⟨B, 2, none⟩) hown2 (by simp [Value.ownBlock]; omega) _, ?_, ?_⟩⟩⟩
          · refine ((HL.out.kept.drew.drewN nd).of_grown hgr (fun j hj => ?_)).setCell (.inl rfl) _
            exact .inr (by have := own_base (pw_own_drewN (own_drew HL.out.row) nd) j hj; omega)
          · exact ((HL.out.below.trans ((pw_below_drewN (below_drew1 (Below.refl _ _)) nd).trans (hbel.mono (by omega)))).setCell (by simp; omega) _)
    · have c1 : decide ((k : Int) < (N : Int)) = false := decide_eq_false (by omega)
      obtain rfl : k = N := by have := HK.out; omega
      go_wp2
      go_ret
      obtain ⟨y1, y2, y3, BV, hVz, lB, lM, htr, hav⟩ := G.out
      have hL := HL.out
      have hlk := parts_len l av (Nat.le_refl k) (show k ≤ l.length by omega)
      obtain ⟨g, cap, rfl, hg1, hg2⟩ := row_form hL.row (by omega)
      have hsz := hL.kept.1
      refine ⟨B, rfl, ⟨g, cap, M1, M2, M3, ?_⟩, BV.trans hL.below⟩
      have ebeg : beginS l k = ⟨av, tr, (((l.take k).take k).map (fun x => subS x av)), 0⟩ := by
        rw [← htr, ← hav, List.take_take, Nat.min_self]
        rfl
      rw [ebeg]
      exact ⟨hL.blk, own_less hL.row (by omega), ⟨(hL.kept.2 _ (by omega) (by omega)).trans y1.1, (hL.kept.2 _ (by omega) (by omega)).trans y1.2⟩, ⟨(hL.kept.2 _ (by omega) (by omega)).trans y2.1, (hL.kept.2 _ (by omega) (by omega)).trans y2.2⟩, ⟨(hL.kept.2 _ (by omega) (by omega)).trans y3.1, (hL.kept.2 _ (by omega) (by omega)).trans y3.2⟩, by omega, by omega, by omega, by omega, by omega, by omega, Nat.le_refl _⟩
end Go.Proofs.Ytemnfnbjapobcaa.Ho
end
section
namespace Go.Proofs.Ytemnfnbjapobcaa.Ho
open Go.RowKit Go.Proofs.YtemnfnbjapobcaaW.PrintWords Go.Proofs.YtemnfnbjapobcaaW.PrintLast Go.Proofs.YtemnfnbjapobcaaW.PrintMore
open Go.Proofs.Ytemnfnbjapobcaa.FS Go.Proofs.Ytemnfnbjapobcaa.HS Go.Proofs.Ytemnfnbjapobcaa.FM
set_option linter.unusedVariables false
set_option linter.unusedSimpArgs false
def rCells (m : Mo) (s : St) (v : Value) : Array Value := #[.int .i64 m.n, .int .i64 m.a, .int .i64 m.b, .int .i64 m.c, .int .i64 s.level, .int .i64 s.trend, v, .int .i64 (s.k : Int)]
structure RStIn (W : World) (lo hi b g cap : Nat) (m : Mo) (s : St) : Prop where
  blk : W.heap[b]? = some (.cells (rCells m s (sl g s.parts.length cap)) 41 (0, 0))
  row : row3 W lo g cap s.parts
  inb : lo ≤ b ∧ b < hi
  ing : lo ≤ g ∧ g < hi
  top : hi ≤ W.heap.size
def RStAt (W : World) (lo hi b : Nat) (m : Mo) (s : St) : Prop := ∃ g cap, RStIn W lo hi b g cap m s
theorem RStAt.kept {W W' : World} {lo hi b : Nat} {m : Mo} {s : St} {S : Nat → Prop} (h : RStAt W lo hi b m s) (hk : Kept W W' S) (hS : ∀ k, lo ≤ k → k < hi → ¬ S k) : RStAt W' lo hi b m s := by
  obtain ⟨g, cap, h⟩ := h
  exact ⟨g, cap, (hk.2 _ (by have := h.top; have := h.inb; omega) (hS _ h.inb.1 h.inb.2)).trans h.blk, own_move h.row (fun k hk' => by
    have e : g = k := by simpa [Value.ownBlock] using hk'
    subst e
    exact hk.2 _ (by have := h.top; have := h.ing; omega) (hS _ h.ing.1 h.ing.2)), h.inb, h.ing, Nat.le_trans h.top hk.1⟩
theorem RStAt.wide {W : World} {lo hi lo' hi' b : Nat} {m : Mo} {s : St} (h : RStAt W lo hi b m s) (h1 : lo' ≤ lo) (h2 : hi ≤ hi') (h3 : hi' ≤ W.heap.size) : RStAt W lo' hi' b m s := by
  obtain ⟨g, cap, a, c, d, e, f⟩ := h
  exact ⟨g, cap, a, own_less c h1, by omega, by omega, h3⟩
end Go.Proofs.Ytemnfnbjapobcaa.Ho
end
section
namespace Go.Proofs.Ytemnfnbjapobcaa.Ho
open Go.RowKit Go.Proofs.YtemnfnbjapobcaaW.PrintWords Go.Proofs.YtemnfnbjapobcaaW.PrintLast Go.Proofs.YtemnfnbjapobcaaW.PrintMore
open Go.Proofs.Ytemnfnbjapobcaa.FS Go.Proofs.Ytemnfnbjapobcaa.HS Go.Proofs.Ytemnfnbjapobcaa.FM
set_option linter.unusedVariables false
set_option linter.unusedSimpArgs false
theorem StAt.wide {W : World} {lo hi lo' hi' b : Nat} {m : Mo} {s : St} (h : StAt W lo hi b m s) (h1 : lo' ≤ lo) (h2 : hi ≤ hi') (h3 : hi' ≤ W.heap.size) : StAt W lo' hi' b m s := by
  obtain ⟨g, cap, m1, m2, m3, h⟩ := h
  obtain ⟨a, b, c, d, e, f, g', i, j, k, l, n⟩ := h
  exact ⟨g, cap, m1, m2, m3, a, own_less b h1, c, d, e, by omega, by omega, by omega, by omega, by omega, l, h3⟩
def StartPost (w : World) (l : List Int) (m : Mo) (e : Ending) (w' : World) : Prop :=
  if startE l m ≠ 0 then e = .returned (.tuple #[.pointer none, .int .i64 1]) ∧ Below w.heap.size w w'
  else ∃ b, e = .returned (.tuple #[.pointer (some ⟨b, 0, none⟩), .int .i64 0]) ∧ StAt w' w.heap.size w'.heap.size b m (startS l m) ∧ Below w.heap.size w w'
theorem check_01 (m : Mo) : checkS m = 0 ∨ checkS m = 1 := by unfold checkS; split; exact .inr rfl; split; exact .inl rfl; exact .inr rfl
theorem okW_iff {x : Int} : okW x = true ↔ 0 ≤ x ∧ x ≤ 4294967296 := by unfold okW; simp
theorem check_ok {m : Mo} (h : checkS m = 0) : (1 ≤ m.n ∧ m.n ≤ 10000) ∧ Mo.wIn m := by
  unfold checkS at h
  split at h
  · cases h
  · split at h
    · rename_i h1 h2
      simp only [Bool.and_eq_true, okW_iff] at h2
      refine ⟨by omega, ⟨by omega, by omega⟩, ⟨by omega, by omega⟩, ⟨by omega, by omega⟩⟩
    · cases h
theorem fold_snoc (m : Mo) (l : List Int) (s : St) (k : Nat) (h : k < l.length) : (l.take (k + 1)).foldl (stepS m) s = stepS m ((l.take k).foldl (stepS m) s) (rd l (k : Int)) := by
  have e : rd l (k : Int) = l[k] := by
    show l.getD k 0 = _
    simp [List.getD_eq_getElem?_getD, List.getElem?_eq_getElem h]
  rw [List.take_succ_eq_append_getElem h, List.foldl_append, e]
  rfl
set_option maxHeartbeats 4000000 in
theorem start_calls (A : Option Addr) (c : Nat) (l : List Int) (m : Mo) (w : World) (hr : Kd.C (Kd.int .i64) w A l.length l) (hc : l.length ≤ c) (hin : AllIn l) (hm : FS.In m.n) (hll : l.length ≤ 1000000000) :
    Calls Try.prog 24 #[.slice A l.length c, moV m] w (StartPost w l m) := by
  have kc := check_calls m
  have kb := begin_calls A c l m
  obtain ⟨n, ma, mb, mc⟩ := m
  dsimp only [moV] at kb ⊢
  dsimp only at kc hm
  by_cases h1 : checkS ⟨n, ma, mb, mc⟩ = 0
  · obtain ⟨hn, hw⟩ := check_ok h1
    dsimp only at hn
    obtain ⟨N, rfl⟩ := Int.eq_ofNat_of_zero_le (show 0 ≤ n by omega)
    obtain ⟨M, hM⟩ : ∃ M, 2 * N = M := ⟨_, rfl⟩
    have e2 : wrap64 (2 * (N : Int)) = (M : Int) := by rw [wrap64_id (by omega) (by omega)]; omega
    have e3 : (2 * (N : Int)) = (M : Int) := by omega
    have b0 : (N : Int) ≤ 10000 := hn.2
    rw [h1] at kc
    have KC := Aside0.mk kc
    by_cases h3 : (l.length : Int) < 2 * (N : Int)
    · have g4 : l.length < M := by omega
      have hp : ∀ e w', e = .returned (.tuple #[.pointer none, .int .i64 1]) ∧ Below w.heap.size w w' → StartPost w l ⟨N, ma, mb, mc⟩ e w' := fun e w' h => by
        unfold StartPost
        rw [if_pos (by unfold startE; rw [if_neg (by rw [h1]; decide), if_pos h3]; decide)]
        exact h
      refine Calls.mono ?_ (fun e w' h => hp e w' h)
      clear kc kb h1 hp h3 hM hn
      go_enter Try.func24, Try.ntmps24
      go_wp2_with fail
      (with_reducible refine (KC.out _).mono ?_)
      rintro e w1 ⟨rfl, hb⟩
      have mb1 := blk_below (blk_new w _) hb
      have d0 := blk_cell mb1 0
      have d1 := blk_cell mb1 1
      have d2 := blk_cell mb1 2
      have d3 := blk_cell mb1 3
      simp only [List.getElem?_toArray, List.getElem?_cons_zero, List.getElem?_cons_succ] at d0 d1 d2 d3
      have HB1 := Aside0.mk (And.intro mb1 hb)
      clear mb1 hb
      go_wp2
      go_ret2
      exact ⟨rfl, (below_alloc (Below.refl _ _) _).trans (HB1.out.2.mono (by simp))⟩
    · have g4 : ¬ l.length < M := by omega
      have g5 : ¬ c = N := by omega
      have hl : 2 * (N : Int) ≤ (l.length : Int) := by omega
      have h0 : startE l ⟨N, ma, mb, mc⟩ = 0 := by unfold startE; rw [if_neg (by rw [h1]; decide), if_neg h3]
      have hp : ∀ e w', (∃ b, e = .returned (.tuple #[.pointer (some ⟨b, 0, none⟩), .int .i64 0]) ∧ StAt w' w.heap.size w'.heap.size b ⟨N, ma, mb, mc⟩ (startS l ⟨N, ma, mb, mc⟩) ∧ Below w.heap.size w w') → StartPost w l ⟨N, ma, mb, mc⟩ e w' := fun e w' h => by
        unfold StartPost
        rw [if_neg (by rw [h0]; decide)]
        exact h
      refine Calls.mono ?_ (fun e w' h => hp e w' h)
      have KB := Aside0.mk (fun W (h : Kd.C (Kd.int .i64) W A l.length l) => kb W h hc hin hw hn.1 hl hll)
      have HR := Aside0.mk hr
      have HN := Aside0.mk (And.intro hn (And.intro hM hl))
      have nM : N ≤ l.length := by omega
      obtain ⟨D, hD⟩ : ∃ D, l.length - N = D := ⟨_, rfl⟩
      obtain ⟨ad, rfl, _⟩ := Kd.at_int hr 0 (by omega) (by omega)
      have hd : Kd.C (Kd.int .i64) w (some (ad.add N)) D (l.drop N) := by
        have h := Kd.C_drop hr (m := N) nM hc
        rw [List.length_drop, if_neg g5, hD] at h
        simpa [show (Kd.int .i64).sz = 1 from rfl] using h
      have HD := Aside0.mk hd
      clear hd
      clear kc kb h1 hp h3 hM hn hr h0 hl
      go_enter Try.func24, Try.ntmps24
      go_wp2_with fail
      (with_reducible refine (KC.out _).mono ?_)
      rintro e w1 ⟨rfl, hb⟩
      have mb1 := blk_below (blk_new w _) hb
      have d0 := blk_cell mb1 0
      have d1 := blk_cell mb1 1
      have d2 := blk_cell mb1 2
      have d3 := blk_cell mb1 3
      simp only [List.getElem?_toArray, List.getElem?_cons_zero, List.getElem?_cons_succ] at d0 d1 d2 d3
      have HB1 := Aside0.mk (And.intro mb1 hb)
      clear mb1 hb
      go_wp2_with (go_at_call 64; (with_reducible refine (KB.out _ (Kd.C_below HR.out ((below_alloc (Below.refl _ _) _).trans (HB1.out.2.mono (by simp))))).mono ?_); rintro e w2 ⟨b, rfl, hst, hb2⟩; clear d0 d1 d2 d3; have mb2 := blk_below HB1.out.1 hb2; have d0 := blk_cell mb2 0; simp only [List.getElem?_toArray, List.getElem?_cons_zero] at d0; have HB2 := Aside0.mk (And.intro hst hb2); clear hst hb2 mb2)
      have HX : Aside0 (Below w.heap.size w w2) := ⟨((below_alloc (Below.refl _ _) _).trans (HB1.out.2.mono (by simp))).trans (HB2.out.2.mono (by have := HB1.out.2.size; simp at this; omega))⟩
      have HL : Aside0 (w.heap.size ≤ w1.heap.size) := ⟨by have := HB1.out.2.size; simp at this; omega⟩
      go_loopg [32] D (fun kq v32 W' => ∃ k : Nat, v32 = .int .i64 (k : Int) ∧ Aside0 (kq + k = D) ∧ Aside0 (StAt W' w1.heap.size w2.heap.size b ⟨N, ma, mb, mc⟩ (((l.drop N).take k).foldl (stepS ⟨N, ma, mb, mc⟩) (beginS l N)) ∧ Below w1.heap.size w2 W'))
      case atStart => exact ⟨0, rfl, ⟨rfl⟩, ⟨by simpa using HB2.out.1, Below.refl _ _⟩⟩
      case round =>
        obtain ⟨k, rfl, HK, HS⟩ := hrel
        by_cases ck : k < D
        · have c1 : decide ((k : Int) < (D : Int)) = true := decide_eq_true (by omega)
          obtain ⟨ad', e, r0⟩ := Kd.at_int (Kd.C_below HD.out (HX.out.trans (HS.out.2.mono HL.out))) (k : Int) (by omega) (by omega)
          cases e
          rw [Int.toNat_natCast] at r0
          have j1 : FS.In (rd (l.drop N) (k : Int)) := allIn_getD (allIn_drop hin N) k
          have hS1 : (((l.drop N).take k).foldl (stepS ⟨N, ma, mb, mc⟩) (beginS l N)).In := fold_in _ _ _ (begin_in l N)
          have hS2 : (((l.drop N).take k).foldl (stepS ⟨N, ma, mb, mc⟩) (beginS l N)).parts.length = N := (fold_len _ _ _).trans (begin_len l N nM)
          have hS3 : (((l.drop N).take k).foldl (stepS ⟨N, ma, mb, mc⟩) (beginS l N)).k = k := by
            rw [fold_k, List.length_take, List.length_drop, hD, Nat.min_eq_left (by omega)]
            simp [beginS]
          have SC := Aside0.mk (step_calls w1.heap.size w2.heap.size b ⟨N, ma, mb, mc⟩ _ (rd (l.drop N) (k : Int)) wr HS.out.1 hS1 j1 hw (by rw [hS3]; omega) (by rw [hS2]; have := HN.out.1.1; omega) (by rw [hS2]; omega))
          have hck := Aside0.mk ck
          clear hS1 hS2 hS3
          cases gk with
          | zero => exact absurd HK.out (by have := hck.out; omega)
          | succ k1 =>
            go_wp2_with (go_at_call 30; (with_reducible refine SC.out.mono ?_); rintro e w' ⟨⟨v, rfl⟩, hst, hb, hkp⟩; have HQ := Aside0.mk (And.intro hst hb); clear hst hb hkp)
            go_roundg k1
            case measure => omega
            case rel =>
              refine ⟨k + 1, by go_num, ⟨by have := HK.out; omega⟩, ⟨?_, HS.out.2.trans HQ.out.2⟩⟩
              rw [fold_snoc _ _ _ _ (by rw [List.length_drop, hD]; exact hck.out)]
              exact HQ.out.1
        · have c1 : decide ((k : Int) < (D : Int)) = false := decide_eq_false (by omega)
          have hS2 : (((l.drop N).take k).foldl (stepS ⟨N, ma, mb, mc⟩) (beginS l N)) = startS l ⟨N, ma, mb, mc⟩ := by
            rw [List.take_of_length_le (by rw [List.length_drop, hD]; omega)]
            simp [startS]
          have HQ := Aside0.mk hS2
          clear hS2
          go_wp2
          go_ret2
          have hsz := HS.out.2.size
          refine ⟨b, rfl, ?_, HX.out.trans (HS.out.2.mono HL.out)⟩
          rw [← HQ.out]
          exact HS.out.1.wide HL.out hsz (Nat.le_refl _)
  · have h2 : checkS ⟨n, ma, mb, mc⟩ = 1 := (check_01 _).resolve_left h1
    have hp : ∀ e w', e = .returned (.tuple #[.pointer none, .int .i64 1]) ∧ Below w.heap.size w w' → StartPost w l ⟨n, ma, mb, mc⟩ e w' := fun e w' h => by
      unfold StartPost
      rw [if_pos (by unfold startE; rw [if_pos h1]; decide)]
      exact h
    rw [h2] at kc
    have KC := Aside0.mk kc
    refine Calls.mono ?_ (fun e w' h => hp e w' h)
    clear kc kb h1 h2 hp
    go_enter Try.func24, Try.ntmps24
    go_wp2_with (go_at_call 33; (with_reducible refine (KC.out _).mono ?_); rintro e w' ⟨rfl, hb⟩)
    go_ret2
    exact ⟨rfl, (below_alloc (Below.refl _ _) _).trans (hb.mono (by simp))⟩
end Go.Proofs.Ytemnfnbjapobcaa.Ho
end
section
namespace Go.Proofs.Ytemnfnbjapobcaa.Ho
open Go.RowKit Go.Proofs.YtemnfnbjapobcaaW.PrintWords Go.Proofs.YtemnfnbjapobcaaW.PrintLast Go.Proofs.YtemnfnbjapobcaaW.PrintMore
open Go.Proofs.Ytemnfnbjapobcaa.FS Go.Proofs.Ytemnfnbjapobcaa.HS Go.Proofs.Ytemnfnbjapobcaa.FM
attribute [local go_sem] max2_int min2_int max_two min_two max_three min_three max_four min_four
set_option linter.unusedVariables false
set_option linter.unusedSimpArgs false
set_option maxHeartbeats 1000000 in
theorem dist_calls (a b : Int) (ha : FS.In a) (hb : FS.In b) (w : World) :
    Calls Try.prog 73 #[.int .i64 a, .int .i64 b] w fun e w' => e = .returned (.int .i64 (distS a b)) ∧ Drawn0 w w' := by
  have e1 : distS a b = if a < b then subS b a else subS a b := rfl
  by_cases h : a < b
  · rw [if_pos h] at e1
    rw [e1]
    clear e1
    have h1 : ¬ b < a := by omega
    go_enter Try.func73, Try.ntmps73
    go_wp2_with (go_at_call 71; (with_reducible refine (fSub (by assumption) (by assumption) _).mono ?_); rintro e w' ⟨rfl, ⟨nd, rfl⟩⟩)
    go_ret
    exact ⟨rfl, by repeat (first | exact Drawn0.refl _ | apply Drawn0.step)⟩
  · rw [if_neg h] at e1
    rw [e1]
    clear e1
    by_cases h2 : b < a
    · skip
      go_enter Try.func73, Try.ntmps73
      go_wp2_with (go_at_call 71; (with_reducible refine (fSub (by assumption) (by assumption) _).mono ?_); rintro e w' ⟨rfl, ⟨nd, rfl⟩⟩)
      go_ret
      exact ⟨rfl, by repeat (first | exact Drawn0.refl _ | apply Drawn0.step)⟩
    · obtain rfl : a = b := by omega
      go_enter Try.func73, Try.ntmps73
      go_wp2_with (go_at_call 71; (with_reducible refine (fSub (by assumption) (by assumption) _).mono ?_); rintro e w' ⟨rfl, ⟨nd, rfl⟩⟩)
      go_ret
      exact ⟨rfl, by repeat (first | exact Drawn0.refl _ | apply Drawn0.step)⟩
theorem begin_start_in (l : List Int) (m : Mo) : (startS l m).In := fold_in _ _ _ (begin_in _ _)
theorem start_len {l : List Int} {m : Mo} (h : startE l m = 0) : 1 ≤ m.n ∧ m.n ≤ 10000 ∧ Mo.wIn m ∧ 2 * m.n ≤ (l.length : Int) ∧ (startS l m).parts.length = m.n.toNat ∧ (startS l m).k = l.length - m.n.toNat := by
  unfold startE at h
  split at h
  · cases h
  · rename_i h1
    split at h
    · cases h
    · rename_i h2
      obtain ⟨h3, h4⟩ := check_ok (Decidable.not_not.1 h1)
      refine ⟨h3.1, h3.2, h4, by omega, (fold_len _ _ _).trans (begin_len _ _ (by omega)), ?_⟩
      unfold startS
      rw [fold_k, List.length_drop]
      simp [beginS]
end Go.Proofs.Ytemnfnbjapobcaa.Ho
end
section
namespace Go.Proofs.Ytemnfnbjapobcaa.Ho
open Go.RowKit Go.Proofs.YtemnfnbjapobcaaW.PrintWords Go.Proofs.YtemnfnbjapobcaaW.PrintLast Go.Proofs.YtemnfnbjapobcaaW.PrintMore
open Go.Proofs.Ytemnfnbjapobcaa.FS Go.Proofs.Ytemnfnbjapobcaa.HS Go.Proofs.Ytemnfnbjapobcaa.FM
set_option linter.unusedVariables false
set_option linter.unusedSimpArgs false
theorem start_n (A : Option Addr) (n c : Nat) (l : List Int) (m : Mo) (w : World) (e : l.length = n) (hr : Kd.C (Kd.int .i64) w A n l) (hc : n ≤ c) (hin : AllIn l) (hm : FS.In m.n) (hll : n ≤ 1000000000) :
    Calls Try.prog 24 #[.slice A n c, moV m] w (StartPost w l m) := by
  subst e
  exact start_calls A c l m w hr hc hin hm hll
theorem misses_snd (m : Mo) : ∀ (l : List Int) (q : Int × St), (l.foldl (missStep m) q).2 = l.foldl (stepS m) q.2
  | [], _ => rfl
  | x :: l, q => misses_snd m l (missStep m q x)
theorem misses_in (m : Mo) : ∀ (l : List Int) (q : Int × St), FS.In q.1 → FS.In (l.foldl (missStep m) q).1
  | [], _, h => h
  | x :: l, q, h => misses_in m l _ (in_addS _ _)
theorem castOf_one (s : St) : (castOf s 1).2 = 0 ∧ FS.In (castOf s 1).1 := by
  unfold castOf
  rw [if_neg (by omega)]
  exact ⟨rfl, in_addS _ _⟩
theorem misses_snoc (m : Mo) (l : List Int) (q : Int × St) (k : Nat) (h : k < l.length) : (l.take (k + 1)).foldl (missStep m) q = missStep m ((l.take k).foldl (missStep m) q) (rd l (k : Int)) := by
  have e : rd l (k : Int) = l[k] := by
    show l.getD k 0 = _
    simp [List.getD_eq_getElem?_getD, List.getElem?_eq_getElem h]
  rw [List.take_succ_eq_append_getElem h, List.foldl_append, e]
  rfl
set_option maxRecDepth 100000 in
set_option maxHeartbeats 4000000 in
theorem miss_calls (A : Option Addr) (c : Nat) (l : List Int) (m : Mo) (last : Int) (w : World) (hr : Kd.C (Kd.int .i64) w A l.length l) (hc : l.length ≤ c) (hin : AllIn l) (hm : FS.In m.n) (ha : FS.In last) (hll : l.length ≤ 1000000000) :
    Calls Try.prog 35 #[.slice A l.length c, moV m, .int .i64 last] w fun e w' => e = .returned (.tuple #[.int .i64 (missS l m last).1, .int .i64 (missS l m last).2]) ∧ Below w.heap.size w w' := by
  obtain ⟨r, er⟩ : ∃ r, missS l m last = r := ⟨_, rfl⟩
  rw [er]
  obtain ⟨r1, r2⟩ := r
  have kc := check_calls m
  rcases check_01 m with hck | hck
  · obtain ⟨⟨n1, n2⟩, n3⟩ := check_ok hck
    rw [hck] at kc
    have KC := Aside0.mk kc
    clear kc
    by_cases h1 : last < 1
    · obtain ⟨rfl, rfl⟩ : r1 = 0 ∧ r2 = 1 := by
        unfold missS at er
        rw [if_neg (by rw [hck]; decide), if_pos (.inl h1)] at er
        cases er; exact ⟨rfl, rfl⟩
      have g1 : decide (last < 1) = true := decide_eq_true h1
      obtain ⟨n, ma, mb, mc⟩ := m
      clear er hck n3
      dsimp only [moV] at *
      go_enter Try.func35, Try.ntmps35
      go_wp2_with (go_at_call 33; (with_reducible refine (KC.out _).mono ?_); rintro e w1 ⟨rfl, hb⟩)
      go_ret2
      exact ⟨rfl, (below_alloc (Below.refl _ _) _).trans (hb.mono (by simp))⟩
    · have g1 : decide (last < 1) = false := decide_eq_false h1
      obtain ⟨n, ma, mb, mc⟩ := m
      dsimp only at n1 n2 hm
      obtain ⟨N, rfl⟩ := Int.eq_ofNat_of_zero_le (show 0 ≤ n by omega)
      obtain ⟨M, hM⟩ : ∃ M, 2 * N = M := ⟨_, rfl⟩
      have e2 : wrap64 (2 * (N : Int)) = (M : Int) := by rw [wrap64_id (by omega) (by omega)]; omega
      have e3 : (2 * (N : Int)) = (M : Int) := by omega
      have b0 : (N : Int) ≤ 10000 := n2
      have ha2 : last ≤ 9223372036854775807 := ha.2
      by_cases h2 : 2 * (N : Int) > (l.length : Int) - last
      · obtain ⟨rfl, rfl⟩ : r1 = 0 ∧ r2 = 1 := by
          unfold missS at er
          rw [if_neg (by rw [hck]; decide), if_pos (.inr h2)] at er
          cases er; exact ⟨rfl, rfl⟩
        obtain ⟨u, hu⟩ : ∃ u, (l.length : Int) - last = u := ⟨_, rfl⟩
        have eu : wrap64 ((l.length : Int) - last) = u := by rw [wrap64_id (by omega) (by omega)]; exact hu
        have g2 : u < (M : Int) := by omega
        have g3 : decide (u < (M : Int)) = true := decide_eq_true g2
        clear er hck n3 hM h2 h1
        dsimp only [moV] at *
        go_enter Try.func35, Try.ntmps35
        go_wp2_with (go_at_call 33; (with_reducible refine (KC.out _).mono ?_); rintro e w1 ⟨rfl, hb⟩; have mb1 := blk_below (blk_new w _) hb; have d0 := blk_cell mb1 0; have d1 := blk_cell mb1 1; have d2 := blk_cell mb1 2; have d3 := blk_cell mb1 3; simp only [List.getElem?_toArray, List.getElem?_cons_zero, List.getElem?_cons_succ] at d0 d1 d2 d3; have HB1 := Aside0.mk (And.intro mb1 hb); clear mb1 hb)
        go_ret2
        exact ⟨rfl, (below_alloc (Below.refl _ _) _).trans (HB1.out.2.mono (by simp))⟩
      · obtain ⟨L, rfl⟩ := Int.eq_ofNat_of_zero_le (show 0 ≤ last by omega)
        obtain ⟨P, hP⟩ : ∃ P, l.length - L = P := ⟨_, rfl⟩
        have eu : wrap64 ((l.length : Int) - (L : Int)) = (P : Int) := by rw [wrap64_id (by omega) (by omega)]; omega
        have eu2 : (l.length : Int) - (L : Int) = (P : Int) := by omega
        have g2 : ¬ (P : Int) < (M : Int) := by omega
        have g4 : ¬ P < M := by omega
        have bP : P ≤ c := by omega
        have bP2 : P ≤ l.length := by omega
        have bP3 : ¬ c = P := by omega
        have hD : l.length - P = L := by omega
        obtain ⟨ad, rfl, _⟩ := Kd.at_int hr 0 (by omega) (by omega)
        have t1 : (l.take P).length = P := by simp; omega
        have m1 : Kd.C (Kd.int .i64) w (some ad) P (l.take P) := by
          have h := Kd.C_take hr (m := P) bP2
          rwa [t1] at h
        have m2 : Kd.C (Kd.int .i64) w (some (ad.add P)) L (l.drop P) := by
          have h := Kd.C_drop hr (m := P) bP2 hc
          rw [List.length_drop, if_neg bP3, hD] at h
          simpa [show (Kd.int .i64).sz = 1 from rfl] using h
        have hs0 : startE (l.take P) ⟨(N : Int), ma, mb, mc⟩ = 0 := by
          unfold startE
          rw [if_neg (by rw [hck]; decide), t1, if_neg (by dsimp only; omega)]
        have ks : ∀ W, Kd.C (Kd.int .i64) W (some ad) P (l.take P) → Calls Try.prog 24 #[.slice (some ad) P P, moV ⟨(N : Int), ma, mb, mc⟩] W fun e w' => ∃ b, e = .returned (.tuple #[.pointer (some ⟨b, 0, none⟩), .int .i64 0]) ∧ StAt w' W.heap.size w'.heap.size b ⟨(N : Int), ma, mb, mc⟩ (startS (l.take P) ⟨(N : Int), ma, mb, mc⟩) ∧ Below W.heap.size W w' := fun W h => by
          refine (start_n (some ad) P P (l.take P) ⟨(N : Int), ma, mb, mc⟩ W t1 h (Nat.le_refl _) (allIn_take hin P) hm (by omega)).mono (fun e w' h => ?_)
          unfold StartPost at h
          rw [if_neg (by rw [hs0]; decide)] at h
          exact h
        obtain ⟨_, _, _, _, s5, s6⟩ := start_len hs0
        rw [Int.toNat_natCast] at s5 s6
        rw [t1] at s6
        have hs := begin_start_in (l.take P) ⟨(N : Int), ma, mb, mc⟩
        obtain ⟨s0, hs0'⟩ : ∃ s0, startS (l.take P) ⟨(N : Int), ma, mb, mc⟩ = s0 := ⟨_, rfl⟩
        rw [hs0'] at ks s5 s6 hs
        have er2 : ((l.drop P).foldl (missStep ⟨(N : Int), ma, mb, mc⟩) (0, s0)).1 = r1 ∧ r2 = 0 := by
          unfold missS at er
          rw [if_neg (by rw [hck]; decide), if_neg (by dsimp only; omega)] at er
          dsimp only at er
          rw [Int.toNat_natCast, hP, hs0'] at er
          obtain ⟨x1, x2⟩ := Prod.mk.inj er
          exact ⟨x1, x2.symm⟩
        have KS := Aside0.mk ks
        have HWI := Aside0.mk n3
        have HM := Aside0.mk (And.intro m1 m2)
        have HI := Aside0.mk (And.intro s5 (And.intro s6 (And.intro hs (And.intro er2 (And.intro hM hP)))))
        have n0 : 1 ≤ N := by omega
        clear n3 h2 ks m1 m2 s5 s6 hs er2 hs0 er hM hP hs0' hck t1 h1 hr
        dsimp only [moV] at *
        go_enter Try.func35, Try.ntmps35
        go_wp2_with (go_at_call 33; (with_reducible refine (KC.out _).mono ?_); rintro e w1 ⟨rfl, hb⟩; have mb1 := blk_below (blk_new w _) hb; have d0 := blk_cell mb1 0; have d1 := blk_cell mb1 1; have d2 := blk_cell mb1 2; have d3 := blk_cell mb1 3; simp only [List.getElem?_toArray, List.getElem?_cons_zero, List.getElem?_cons_succ] at d0 d1 d2 d3; have HB1 := Aside0.mk (And.intro mb1 hb); clear mb1 hb)
        have HB0 : Aside0 (Below w.heap.size w w1.drew) := ⟨pw_below_drewN ((below_alloc (Below.refl _ _) _).trans (HB1.out.2.mono (by simp))) 1⟩
        go_region_held3 (fun w' => w'.cell? ⟨w.heap.size, 0, none⟩ = some (.int .i64 (N : Int)) ∧ w'.cell? ⟨w.heap.size, 1, none⟩ = some (.int .i64 ma) ∧ w'.cell? ⟨w.heap.size, 2, none⟩ = some (.int .i64 mb) ∧ w'.cell? ⟨w.heap.size, 3, none⟩ = some (.int .i64 mc)) (first | go_keep | exact ⟨cell_below hb2 d0, cell_below hb2 d1, cell_below hb2 d2, cell_below hb2 d3⟩) (first | (go_at_call 24; (with_reducible refine (KS.out _ (Kd.C_below HM.out.1 HB0.out)).mono ?_); rintro e w2 ⟨b, rfl, hst, hb2⟩))
        have HB2 : Aside0 (StAt w2 w1.heap.size w2.heap.size b ⟨(N : Int), ma, mb, mc⟩ s0 ∧ Below w.heap.size w w2) := ⟨hst, HB0.out.trans (hb2.mono (by have := HB0.out.size; exact this))⟩
        have HL : Aside0 (w.heap.size ≤ w1.heap.size) := ⟨HB0.out.size⟩
        clear hst hb2 d0 d1 d2 d3
        go_wp2
        go_loopg [12, 54] L (fun kq v12 v54 W' => ∃ k : Nat, v54 = .int .i64 (k : Int) ∧ v12 = .int .i64 (((l.drop P).take k).foldl (missStep ⟨N, ma, mb, mc⟩) (0, s0)).1 ∧ Aside0 (kq + k = L) ∧ Aside0 (StAt W' w1.heap.size w2.heap.size b ⟨N, ma, mb, mc⟩ (((l.drop P).take k).foldl (missStep ⟨N, ma, mb, mc⟩) (0, s0)).2 ∧ Below w1.heap.size w2 W'))
        case atStart => exact ⟨0, rfl, rfl, ⟨rfl⟩, ⟨by simpa using HB2.out.1, Below.refl _ _⟩⟩
        case round =>
          obtain ⟨k, rfl, rfl, HK, HS⟩ := hrel
          by_cases ck : k < L
          · have c1 : decide ((k : Int) < (L : Int)) = true := decide_eq_true (by omega)
            obtain ⟨ad', e, r0⟩ := Kd.at_int (Kd.C_below HM.out.2 (HB2.out.2.trans (HS.out.2.mono HL.out))) (k : Int) (by omega) (by omega)
            cases e
            rw [Int.toNat_natCast] at r0
            have j1 : FS.In (rd (l.drop P) (k : Int)) := allIn_getD (allIn_drop hin P) k
            obtain ⟨q, hq⟩ : ∃ q, ((l.drop P).take k).foldl (missStep ⟨N, ma, mb, mc⟩) (0, s0) = q := ⟨_, rfl⟩
            have hq1 : FS.In q.1 := hq ▸ misses_in _ _ _ (show FS.In 0 from ⟨by decide, by decide⟩)
            have hq2 : q.2 = ((l.drop P).take k).foldl (stepS ⟨N, ma, mb, mc⟩) s0 := by rw [← hq, misses_snd]
            have hS1 : q.2.In := by rw [hq2]; exact fold_in _ _ _ HI.out.2.2.1
            have hS2 : q.2.parts.length = N := by rw [hq2, fold_len]; exact HI.out.1
            have hS3 : q.2.k ≤ l.length := by
              rw [hq2, fold_k, HI.out.2.1, List.length_take, List.length_drop, hD]
              omega
            rw [hq] at HS ⊢
            obtain ⟨x, hx⟩ : ∃ x, rd (l.drop P) (k : Int) = x := ⟨_, rfl⟩
            rw [hx] at j1 r0
            obtain ⟨cv, hcv⟩ : ∃ cv, (castOf q.2 1).1 = cv := ⟨_, rfl⟩
            have j2 : FS.In cv := hcv ▸ (castOf_one q.2).2
            have j3 := in_distS x cv
            have j4 := in_addS q.1 (distS x cv)
            have CC : Aside0 (∀ W, StAt W w1.heap.size w2.heap.size b ⟨N, ma, mb, mc⟩ q.2 → Calls Try.prog 28 #[.pointer (some ⟨b, 0, none⟩), .int .i64 1] W fun e w' => e = .returned (.tuple #[.int .i64 cv, .int .i64 0]) ∧ Drawn0 W w') := ⟨fun W h => by
              have := castOf_calls w1.heap.size w2.heap.size b ⟨N, ma, mb, mc⟩ q.2 1 W h hS1 ⟨by decide, by decide⟩ (by omega) (by omega) (by omega)
              rw [(castOf_one q.2).1, hcv] at this
              exact this⟩
            have SC := Aside0.mk (fun W (h : StAt W w1.heap.size w2.heap.size b ⟨N, ma, mb, mc⟩ q.2) => step_calls w1.heap.size w2.heap.size b ⟨N, ma, mb, mc⟩ q.2 x W h hS1 j1 HWI.out (by omega) (by omega) (by omega))
            have SD : Aside0 (∀ n, StAt (wr.drewN n) w1.heap.size w2.heap.size b ⟨N, ma, mb, mc⟩ q.2) := ⟨fun n => HS.out.1.kept (S := fun _ => False) ((Kept.refl _ _).drewN n) (fun _ _ _ h => h)⟩
            have HQ := Aside0.mk (And.intro hq (And.intro hx (And.intro hcv ck)))
            have j5 := hq1
            clear hq hx hcv hq1 hq2 hS1 hS2 hS3
            obtain ⟨qs, hqs⟩ : ∃ qs, q.1 = qs := ⟨_, rfl⟩
            rw [hqs] at j4 j5 ⊢
            have HQS := Aside0.mk hqs
            clear hqs
            cases gk with
            | zero => exact absurd HK.out (by have := HQ.out.2.2.2; omega)
            | succ k1 =>
              go_wp2_with (first | (go_at_call 28; (with_reducible refine (CC.out _ HS.out.1).mono ?_); rintro e w' ⟨rfl, ⟨nd, rfl⟩⟩) | (go_at_call 73; (with_reducible refine (dist_calls x cv (by assumption) (by assumption) _).mono ?_); rintro e w' ⟨rfl, ⟨nd, rfl⟩⟩) | (go_at_call 67; (with_reducible refine (fAdd (by assumption) (by assumption) _).mono ?_); rintro e w' ⟨rfl, ⟨nd, rfl⟩⟩) | (go_at_call 30; (with_reducible refine (SC.out _ (SD.out _)).mono ?_); rintro e w' ⟨⟨v, rfl⟩, hst, hb, hkp⟩; have HR := Aside0.mk (And.intro hst hb); clear hst hb hkp))
              go_roundg k1
              case measure => omega
              case rel =>
                obtain ⟨hq, hx, hcv, hk⟩ := HQ.out
                have e := misses_snoc ⟨N, ma, mb, mc⟩ (l.drop P) (0, s0) k (by rw [List.length_drop, hD]; exact hk)
                rw [hq, hx] at e
                unfold missStep at e
                rw [hcv, HQS.out] at e
                refine ⟨k + 1, by go_num, by unfold missStep; rw [e], ⟨by have := HK.out; omega⟩, ⟨?_, HS.out.2.trans ((pw_below_drewN (Below.refl _ _) _).trans HR.out.2)⟩⟩
                unfold missStep
                rw [e]
                exact HR.out.1
          · have c1 : decide ((k : Int) < (L : Int)) = false := decide_eq_false (by omega)
            have hS2 : (((l.drop P).take k).foldl (missStep ⟨N, ma, mb, mc⟩) (0, s0)).1 = r1 := by
              rw [List.take_of_length_le (by rw [List.length_drop, hD]; omega)]
              exact HI.out.2.2.2.1.1
            obtain rfl := HI.out.2.2.2.1.2
            rw [hS2]
            clear hS2
            go_wp2
            go_ret2
            exact ⟨rfl, HB2.out.2.trans (HS.out.2.mono HL.out)⟩
  · obtain ⟨rfl, rfl⟩ : r1 = 0 ∧ r2 = 1 := by
      unfold missS at er
      rw [if_pos (by rw [hck]; decide)] at er
      cases er; exact ⟨rfl, rfl⟩
    rw [hck] at kc
    have KC := Aside0.mk kc
    obtain ⟨n, ma, mb, mc⟩ := m
    clear kc er hck
    dsimp only [moV] at KC ⊢
    go_enter Try.func35, Try.ntmps35
    go_wp2_with (go_at_call 33; (with_reducible refine (KC.out _).mono ?_); rintro e w1 ⟨rfl, hb⟩)
    go_ret2
    exact ⟨rfl, (below_alloc (Below.refl _ _) _).trans (hb.mono (by simp))⟩
end Go.Proofs.Ytemnfnbjapobcaa.Ho
end
section
namespace Go.Proofs.Ytemnfnbjapobcaa.Ho
open Go.RowKit Go.Proofs.YtemnfnbjapobcaaW.PrintWords Go.Proofs.YtemnfnbjapobcaaW.PrintLast Go.Proofs.YtemnfnbjapobcaaW.PrintMore
open Go.Proofs.Ytemnfnbjapobcaa.FS Go.Proofs.Ytemnfnbjapobcaa.HS Go.Proofs.Ytemnfnbjapobcaa.FM
set_option linter.unusedVariables false
set_option linter.unusedSimpArgs false
theorem own_slice {W : World} {lo : Nat} {v : Value} {l : List Int} (h : W.ownsRow lo 3 1 v l.length (nums .i64 l)) : ∃ A c, v = .slice A l.length c ∧ l.length ≤ c ∧ Kd.C (Kd.int .i64) W A l.length l := by
  obtain ⟨A, c, rfl, hr⟩ := own_reads h
  exact ⟨A, c, rfl, own_cap h, Kd.C_of_reads (enc := Value.int .i64) (d := (0 : Int)) (h1 := fun _ => rfl) hr⟩
end Go.Proofs.Ytemnfnbjapobcaa.Ho
end
section
namespace Go.Proofs.Ytemnfnbjapobcaa
open Go.Proofs.Ytemnfnbjapobcaa.HS
def okL (l : List Int) : Bool := allInB l && decide (l.length ≤ 1000000000)
theorem okL_iff {l : List Int} : okL l = true ↔ AllIn l ∧ l.length ≤ 1000000000 := by unfold okL; simp [allInB_iff]
end Go.Proofs.Ytemnfnbjapobcaa
end
section
namespace Go.Proofs.Ytemnfnbjapobcaa.Ho
open Go.RowKit Go.Proofs.YtemnfnbjapobcaaW.PrintWords Go.Proofs.YtemnfnbjapobcaaW.PrintLast Go.Proofs.YtemnfnbjapobcaaW.PrintMore
open Go.Proofs.Ytemnfnbjapobcaa.FS Go.Proofs.Ytemnfnbjapobcaa.HS Go.Proofs.Ytemnfnbjapobcaa.FM
set_option linter.unusedVariables false
set_option linter.unusedSimpArgs false
def kMo : Kd Mo := Kd.iso (Kd.pair (Kd.int .i64) (Kd.pair (Kd.int .i64) (Kd.pair (Kd.int .i64) (Kd.int .i64)))) (fun x : Mo => (x.n, x.a, x.b, x.c))
def moCells (x : Mo) : List Value := [.int .i64 x.n, .int .i64 x.a, .int .i64 x.b, .int .i64 x.c]
theorem kMo_open {w : World} {x : Mo} {cs : List Value} (h : kMo.K w x cs) : cs = moCells x := by
  obtain ⟨_, _, rfl, rfl, ⟨_, _, rfl, rfl, ⟨_, _, rfl, rfl, rfl⟩⟩⟩ := h
  exact rfl
theorem kMo_mkM (w : World) (base : Nat) (ok : Nat → Prop) (x : Mo) : kMo.M w base ok x (moCells x) := ⟨[.int .i64 x.n], [.int .i64 x.a, .int .i64 x.b, .int .i64 x.c], rfl, rfl, ⟨[.int .i64 x.a], [.int .i64 x.b, .int .i64 x.c], rfl, rfl, ⟨[.int .i64 x.b], [.int .i64 x.c], rfl, rfl, rfl⟩⟩⟩
theorem info29 : (Try.prog.info? 29).map (fun i => (i.zero, i.size, i.bytes)) = some (some (.agg #[(.int .i64 0), (.int .i64 0), (.int .i64 0), (.int .i64 0)]), 4, 32) := by kernel_rfl
def mods (s : Int) : List Mo := [⟨s, 1073741824, 0, 536870912⟩, ⟨s, 1073741824, 0, 2147483648⟩, ⟨s, 1073741824, 536870912, 536870912⟩, ⟨s, 1073741824, 536870912, 2147483648⟩, ⟨s, 2147483648, 0, 536870912⟩, ⟨s, 2147483648, 0, 2147483648⟩, ⟨s, 2147483648, 536870912, 536870912⟩, ⟨s, 2147483648, 536870912, 2147483648⟩]
def modelsS (s : Int) : List Mo := if s < 1 ∨ s > 10000 then [] else mods s
theorem counted_calls (n : Int) (w : World) : Calls Try.prog 77 #[.int .i64 n] w fun e w' => e = .returned (.bool (decide (1 ≤ n ∧ n ≤ 10000))) ∧ Drawn0 w w' := by
  by_cases h1 : n ≥ 1
  · have c1 : decide (n ≥ 1) = true := decide_eq_true h1
    by_cases h2 : n ≤ 10000
    · have c2 : decide (n ≤ 10000) = true := decide_eq_true h2
      have e : decide (1 ≤ n ∧ n ≤ 10000) = true := decide_eq_true ⟨h1, h2⟩
      rw [e]
      clear h1 h2 e
      go_enter Try.func77, Try.ntmps77
      go_wp2
      go_ret
      exact ⟨rfl, Drawn0.refl _⟩
    · have c2 : decide (n ≤ 10000) = false := decide_eq_false h2
      have e : decide (1 ≤ n ∧ n ≤ 10000) = false := decide_eq_false (fun h => h2 h.2)
      rw [e]
      clear h1 h2 e
      go_enter Try.func77, Try.ntmps77
      go_wp2
      go_ret
      exact ⟨rfl, Drawn0.refl _⟩
  · have c1 : decide (n ≥ 1) = false := decide_eq_false h1
    have e : decide (1 ≤ n ∧ n ≤ 10000) = false := decide_eq_false (fun h => h1 h.1)
    rw [e]
    clear h1 e
    go_enter Try.func77, Try.ntmps77
    go_wp2
    go_ret
    exact ⟨rfl, Drawn0.refl _⟩
theorem idx0 (a b : Int) (W : World) : (Sem.run Try.prog (Instr.index 108 (Value.agg #[Value.int IntKind.i64 a, Value.int IntKind.i64 b]) (Value.int IntKind.i64 0)) W) = .ok (.int .i64 a) W := by
  simp [Instr.index, go_sem]
theorem idx1 (a b : Int) (W : World) : (Sem.run Try.prog (Instr.index 108 (Value.agg #[Value.int IntKind.i64 a, Value.int IntKind.i64 b]) (Value.int IntKind.i64 1)) W) = .ok (.int .i64 b) W := by
  simp [Instr.index, go_sem]
set_option maxRecDepth 100000 in
set_option maxHeartbeats 8000000 in
theorem models_calls (s : Int) (w : World) :
    Calls Try.prog 41 #[.int .i64 s] w fun e w' => ∃ v, e = .returned v ∧ Kd.R kMo 29 w' w.heap.size (fun _ => True) v (modelsS s) ∧ Below w.heap.size w w' := by
  by_cases h : s < 1 ∨ s > 10000
  · have e0 : modelsS s = [] := if_pos h
    have c0 : decide (1 ≤ s ∧ s ≤ 10000) = false := decide_eq_false (by omega)
    have KC := Aside0.mk (fun W => c0 ▸ counted_calls s W)
    rw [e0]
    clear h e0 c0
    go_enter Try.func41, Try.ntmps41
    go_wp2_with (first | (go_at_call 77; (with_reducible refine (KC.out _).mono ?_); rintro e w' ⟨rfl, ⟨nd, rfl⟩⟩))
    go_ret
    exact ⟨_, rfl, Kd.R_nil _ _ _ _ _, pw_below_drewN (Below.refl _ _) _⟩
  · have e0 : modelsS s = mods s := if_neg h
    have c0 : decide (1 ≤ s ∧ s ≤ 10000) = true := decide_eq_true (by omega)
    have KC := Aside0.mk (fun W => c0 ▸ counted_calls s W)
    rw [e0]
    clear h e0 c0
    have i0 := idx0
    have i1 := idx1
    go_enter Try.func41, Try.ntmps41
    go_wp2_with (first | (go_at_call 77; (with_reducible refine (KC.out _).mono ?_); rintro e w' ⟨rfl, ⟨nd, rfl⟩⟩))
    go_loopg [3, 14] 2 (fun kq v3 v14 W' => ∃ i : Nat, v14 = .int .i64 (i : Int) ∧ Aside0 (kq + i = 2) ∧ Aside0 (Kd.R kMo 29 W' w.heap.size (fun _ => True) v3 ((mods s).take (4 * i))) ∧ Aside0 (Below w.heap.size w W'))
    case atStart => exact ⟨0, rfl, ⟨rfl⟩, ⟨Kd.R_nil _ _ _ _ _⟩, ⟨pw_below_drewN (Below.refl _ _) _⟩⟩
    case round =>
      obtain ⟨i, rfl, HK, HO, HB⟩ := hrel
      obtain ⟨U, rfl⟩ : ∃ U : World, U = wr := ⟨_, rfl⟩
      cases gk with
      | zero =>
        obtain rfl : i = 2 := by have := HK.out; omega
        go_wp2
        go_ret
        exact ⟨_, rfl, HO.out, HB.out⟩
      | succ k1 =>
        have hi : i = 0 ∨ i = 1 := by have := HK.out; omega
        rcases hi with rfl | rfl
        · go_wp2
          go_loopg [3, 18] 2 (fun kq v3 v18 W' => ∃ j : Nat, v18 = .int .i64 (j : Int) ∧ Aside0 (kq + j = 2) ∧ Aside0 (Kd.R kMo 29 W' w.heap.size (fun _ => True) v3 ((mods s).take (0 + 2 * j))) ∧ Aside0 (Below w.heap.size w W'))
          case atStart => exact ⟨0, rfl, ⟨rfl⟩, HO, HB⟩
          case round =>
            clear HO HB
            obtain ⟨j, rfl, HK2, HO, HB⟩ := hrel
            obtain ⟨U2, rfl⟩ : ∃ U : World, U = wr := ⟨_, rfl⟩
            cases gk with
            | zero =>
              obtain rfl : j = 2 := by have := HK2.out; omega
              go_wp2
              go_roundg k1
              case measure => omega
              case rel => exact ⟨1, by go_num, ⟨by have := HK.out; omega⟩, HO, HB⟩
            | succ k2 =>
              have hj : j = 0 ∨ j = 1 := by have := HK2.out; omega
              rcases hj with rfl | rfl
              · go_wp2
                go_loopg [3, 22] 2 (fun kq v3 v22 W' => ∃ k : Nat, v22 = .int .i64 (k : Int) ∧ Aside0 (kq + k = 2) ∧ Aside0 (Kd.R kMo 29 W' w.heap.size (fun _ => True) v3 ((mods s).take (0 + k))) ∧ Aside0 (Below w.heap.size w W'))
                case atStart => exact ⟨0, rfl, ⟨rfl⟩, HO, HB⟩
                case round =>
                  clear HO HB
                  obtain ⟨k, rfl, HK3, HO, HB⟩ := hrel
                  obtain ⟨U3, rfl⟩ : ∃ U : World, U = wr := ⟨_, rfl⟩
                  cases gk with
                  | zero =>
                    obtain rfl : k = 2 := by have := HK3.out; omega
                    go_wp2
                    go_roundg k2
                    case measure => omega
                    case rel => exact ⟨1, by go_num, ⟨by have := HK2.out; omega⟩, HO, HB⟩
                  | succ k3 =>
                    have hk : k = 0 ∨ k = 1 := by have := HK3.out; omega
                    rcases hk with rfl | rfl
                    · go_wp2_with (at_builtin; refine Kd.R_append kMo (w0 := w) w.heap.size rfl (.tmp 25) (.tmp 31) 58 29 (.agg #[(.int .i64 0), (.int .i64 0), (.int .i64 0), (.int .i64 0)]) 32 rfl Try.underlying58 info29 rfl (by decide) (by omega) u3 ((mods s).take 0) ⟨s, 1073741824, 0, 536870912⟩ (moCells ⟨s, 1073741824, 0, 536870912⟩) (fun _ => True) (fun _ => False) rfl rfl (kMo_mkM _ _ _ _) (fun _ hk => hk.elim) (fun _ _ => trivial) HO.out HB.out HB.out.size (by simp [mods]) ?_)
                      intro v1 w1 ho hb _ _
                      have HO1 := Aside0.mk ho
                      have HB1 := Aside0.mk hb
                      clear ho hb
                      go_wp2
                      go_roundg k3
                      case measure => omega
                      case rel => exact ⟨1, by go_num, ⟨by have := HK3.out; omega⟩, HO1, HB1⟩
                    · go_wp2_with (at_builtin; refine Kd.R_append kMo (w0 := w) w.heap.size rfl (.tmp 25) (.tmp 31) 58 29 (.agg #[(.int .i64 0), (.int .i64 0), (.int .i64 0), (.int .i64 0)]) 32 rfl Try.underlying58 info29 rfl (by decide) (by omega) u3 ((mods s).take 1) ⟨s, 1073741824, 0, 2147483648⟩ (moCells ⟨s, 1073741824, 0, 2147483648⟩) (fun _ => True) (fun _ => False) rfl rfl (kMo_mkM _ _ _ _) (fun _ hk => hk.elim) (fun _ _ => trivial) HO.out HB.out HB.out.size (by simp [mods]) ?_)
                      intro v1 w1 ho hb _ _
                      have HO1 := Aside0.mk ho
                      have HB1 := Aside0.mk hb
                      clear ho hb
                      go_wp2
                      go_roundg k3
                      case measure => omega
                      case rel => exact ⟨2, by go_num, ⟨by have := HK3.out; omega⟩, HO1, HB1⟩
              · go_wp2
                go_loopg [3, 22] 2 (fun kq v3 v22 W' => ∃ k : Nat, v22 = .int .i64 (k : Int) ∧ Aside0 (kq + k = 2) ∧ Aside0 (Kd.R kMo 29 W' w.heap.size (fun _ => True) v3 ((mods s).take (2 + k))) ∧ Aside0 (Below w.heap.size w W'))
                case atStart => exact ⟨0, rfl, ⟨rfl⟩, HO, HB⟩
                case round =>
                  clear HO HB
                  obtain ⟨k, rfl, HK3, HO, HB⟩ := hrel
                  obtain ⟨U3, rfl⟩ : ∃ U : World, U = wr := ⟨_, rfl⟩
                  cases gk with
                  | zero =>
                    obtain rfl : k = 2 := by have := HK3.out; omega
                    go_wp2
                    go_roundg k2
                    case measure => omega
                    case rel => exact ⟨2, by go_num, ⟨by have := HK2.out; omega⟩, HO, HB⟩
                  | succ k3 =>
                    have hk : k = 0 ∨ k = 1 := by have := HK3.out; omega
                    rcases hk with rfl | rfl
                    · go_wp2_with (at_builtin; refine Kd.R_append kMo (w0 := w) w.heap.size rfl (.tmp 25) (.tmp 31) 58 29 (.agg #[(.int .i64 0), (.int .i64 0), (.int .i64 0), (.int .i64 0)]) 32 rfl Try.underlying58 info29 rfl (by decide) (by omega) u3 ((mods s).take 2) ⟨s, 1073741824, 536870912, 536870912⟩ (moCells ⟨s, 1073741824, 536870912, 536870912⟩) (fun _ => True) (fun _ => False) rfl rfl (kMo_mkM _ _ _ _) (fun _ hk => hk.elim) (fun _ _ => trivial) HO.out HB.out HB.out.size (by simp [mods]) ?_)
                      intro v1 w1 ho hb _ _
                      have HO1 := Aside0.mk ho
                      have HB1 := Aside0.mk hb
                      clear ho hb
                      go_wp2
                      go_roundg k3
                      case measure => omega
                      case rel => exact ⟨1, by go_num, ⟨by have := HK3.out; omega⟩, HO1, HB1⟩
                    · go_wp2_with (at_builtin; refine Kd.R_append kMo (w0 := w) w.heap.size rfl (.tmp 25) (.tmp 31) 58 29 (.agg #[(.int .i64 0), (.int .i64 0), (.int .i64 0), (.int .i64 0)]) 32 rfl Try.underlying58 info29 rfl (by decide) (by omega) u3 ((mods s).take 3) ⟨s, 1073741824, 536870912, 2147483648⟩ (moCells ⟨s, 1073741824, 536870912, 2147483648⟩) (fun _ => True) (fun _ => False) rfl rfl (kMo_mkM _ _ _ _) (fun _ hk => hk.elim) (fun _ _ => trivial) HO.out HB.out HB.out.size (by simp [mods]) ?_)
                      intro v1 w1 ho hb _ _
                      have HO1 := Aside0.mk ho
                      have HB1 := Aside0.mk hb
                      clear ho hb
                      go_wp2
                      go_roundg k3
                      case measure => omega
                      case rel => exact ⟨2, by go_num, ⟨by have := HK3.out; omega⟩, HO1, HB1⟩
        · go_wp2
          go_loopg [3, 18] 2 (fun kq v3 v18 W' => ∃ j : Nat, v18 = .int .i64 (j : Int) ∧ Aside0 (kq + j = 2) ∧ Aside0 (Kd.R kMo 29 W' w.heap.size (fun _ => True) v3 ((mods s).take (4 + 2 * j))) ∧ Aside0 (Below w.heap.size w W'))
          case atStart => exact ⟨0, rfl, ⟨rfl⟩, HO, HB⟩
          case round =>
            clear HO HB
            obtain ⟨j, rfl, HK2, HO, HB⟩ := hrel
            obtain ⟨U2, rfl⟩ : ∃ U : World, U = wr := ⟨_, rfl⟩
            cases gk with
            | zero =>
              obtain rfl : j = 2 := by have := HK2.out; omega
              go_wp2
              go_roundg k1
              case measure => omega
              case rel => exact ⟨2, by go_num, ⟨by have := HK.out; omega⟩, HO, HB⟩
            | succ k2 =>
              have hj : j = 0 ∨ j = 1 := by have := HK2.out; omega
              rcases hj with rfl | rfl
              · go_wp2
                go_loopg [3, 22] 2 (fun kq v3 v22 W' => ∃ k : Nat, v22 = .int .i64 (k : Int) ∧ Aside0 (kq + k = 2) ∧ Aside0 (Kd.R kMo 29 W' w.heap.size (fun _ => True) v3 ((mods s).take (4 + k))) ∧ Aside0 (Below w.heap.size w W'))
                case atStart => exact ⟨0, rfl, ⟨rfl⟩, HO, HB⟩
                case round =>
                  clear HO HB
                  obtain ⟨k, rfl, HK3, HO, HB⟩ := hrel
                  obtain ⟨U3, rfl⟩ : ∃ U : World, U = wr := ⟨_, rfl⟩
                  cases gk with
                  | zero =>
                    obtain rfl : k = 2 := by have := HK3.out; omega
                    go_wp2
                    go_roundg k2
                    case measure => omega
                    case rel => exact ⟨1, by go_num, ⟨by have := HK2.out; omega⟩, HO, HB⟩
                  | succ k3 =>
                    have hk : k = 0 ∨ k = 1 := by have := HK3.out; omega
                    rcases hk with rfl | rfl
                    · go_wp2_with (at_builtin; refine Kd.R_append kMo (w0 := w) w.heap.size rfl (.tmp 25) (.tmp 31) 58 29 (.agg #[(.int .i64 0), (.int .i64 0), (.int .i64 0), (.int .i64 0)]) 32 rfl Try.underlying58 info29 rfl (by decide) (by omega) u3 ((mods s).take 4) ⟨s, 2147483648, 0, 536870912⟩ (moCells ⟨s, 2147483648, 0, 536870912⟩) (fun _ => True) (fun _ => False) rfl rfl (kMo_mkM _ _ _ _) (fun _ hk => hk.elim) (fun _ _ => trivial) HO.out HB.out HB.out.size (by simp [mods]) ?_)
                      intro v1 w1 ho hb _ _
                      have HO1 := Aside0.mk ho
                      have HB1 := Aside0.mk hb
                      clear ho hb
                      go_wp2
                      go_roundg k3
                      case measure => omega
                      case rel => exact ⟨1, by go_num, ⟨by have := HK3.out; omega⟩, HO1, HB1⟩
                    · go_wp2_with (at_builtin; refine Kd.R_append kMo (w0 := w) w.heap.size rfl (.tmp 25) (.tmp 31) 58 29 (.agg #[(.int .i64 0), (.int .i64 0), (.int .i64 0), (.int .i64 0)]) 32 rfl Try.underlying58 info29 rfl (by decide) (by omega) u3 ((mods s).take 5) ⟨s, 2147483648, 0, 2147483648⟩ (moCells ⟨s, 2147483648, 0, 2147483648⟩) (fun _ => True) (fun _ => False) rfl rfl (kMo_mkM _ _ _ _) (fun _ hk => hk.elim) (fun _ _ => trivial) HO.out HB.out HB.out.size (by simp [mods]) ?_)
                      intro v1 w1 ho hb _ _
                      have HO1 := Aside0.mk ho
                      have HB1 := Aside0.mk hb
                      clear ho hb
                      go_wp2
                      go_roundg k3
                      case measure => omega
                      case rel => exact ⟨2, by go_num, ⟨by have := HK3.out; omega⟩, HO1, HB1⟩
              · go_wp2
                go_loopg [3, 22] 2 (fun kq v3 v22 W' => ∃ k : Nat, v22 = .int .i64 (k : Int) ∧ Aside0 (kq + k = 2) ∧ Aside0 (Kd.R kMo 29 W' w.heap.size (fun _ => True) v3 ((mods s).take (6 + k))) ∧ Aside0 (Below w.heap.size w W'))
                case atStart => exact ⟨0, rfl, ⟨rfl⟩, HO, HB⟩
                case round =>
                  clear HO HB
                  obtain ⟨k, rfl, HK3, HO, HB⟩ := hrel
                  obtain ⟨U3, rfl⟩ : ∃ U : World, U = wr := ⟨_, rfl⟩
                  cases gk with
                  | zero =>
                    obtain rfl : k = 2 := by have := HK3.out; omega
                    go_wp2
                    go_roundg k2
                    case measure => omega
                    case rel => exact ⟨2, by go_num, ⟨by have := HK2.out; omega⟩, HO, HB⟩
                  | succ k3 =>
                    have hk : k = 0 ∨ k = 1 := by have := HK3.out; omega
                    rcases hk with rfl | rfl
                    · go_wp2_with (at_builtin; refine Kd.R_append kMo (w0 := w) w.heap.size rfl (.tmp 25) (.tmp 31) 58 29 (.agg #[(.int .i64 0), (.int .i64 0), (.int .i64 0), (.int .i64 0)]) 32 rfl Try.underlying58 info29 rfl (by decide) (by omega) u3 ((mods s).take 6) ⟨s, 2147483648, 536870912, 536870912⟩ (moCells ⟨s, 2147483648, 536870912, 536870912⟩) (fun _ => True) (fun _ => False) rfl rfl (kMo_mkM _ _ _ _) (fun _ hk => hk.elim) (fun _ _ => trivial) HO.out HB.out HB.out.size (by simp [mods]) ?_)
                      intro v1 w1 ho hb _ _
                      have HO1 := Aside0.mk ho
                      have HB1 := Aside0.mk hb
                      clear ho hb
                      go_wp2
                      go_roundg k3
                      case measure => omega
                      case rel => exact ⟨1, by go_num, ⟨by have := HK3.out; omega⟩, HO1, HB1⟩
                    · go_wp2_with (at_builtin; refine Kd.R_append kMo (w0 := w) w.heap.size rfl (.tmp 25) (.tmp 31) 58 29 (.agg #[(.int .i64 0), (.int .i64 0), (.int .i64 0), (.int .i64 0)]) 32 rfl Try.underlying58 info29 rfl (by decide) (by omega) u3 ((mods s).take 7) ⟨s, 2147483648, 536870912, 2147483648⟩ (moCells ⟨s, 2147483648, 536870912, 2147483648⟩) (fun _ => True) (fun _ => False) rfl rfl (kMo_mkM _ _ _ _) (fun _ hk => hk.elim) (fun _ _ => trivial) HO.out HB.out HB.out.size (by simp [mods]) ?_)
                      intro v1 w1 ho hb _ _
                      have HO1 := Aside0.mk ho
                      have HB1 := Aside0.mk hb
                      clear ho hb
                      go_wp2
                      go_roundg k3
                      case measure => omega
                      case rel => exact ⟨2, by go_num, ⟨by have := HK3.out; omega⟩, HO1, HB1⟩
end Go.Proofs.Ytemnfnbjapobcaa.Ho
end
section
namespace Go.Proofs.Ytemnfnbjapobcaa.Ho
open Go.RowKit Go.Proofs.YtemnfnbjapobcaaW.PrintWords Go.Proofs.YtemnfnbjapobcaaW.PrintLast Go.Proofs.YtemnfnbjapobcaaW.PrintMore
open Go.Proofs.Ytemnfnbjapobcaa.FS Go.Proofs.Ytemnfnbjapobcaa.HS Go.Proofs.Ytemnfnbjapobcaa.FM
set_option linter.unusedVariables false
set_option linter.unusedSimpArgs false
def ptr (o : Option Nat) : Value := .pointer (o.map fun b => ⟨b, 0, none⟩)
def kWay : Kd (Int × Option Nat) := Kd.pair (Kd.int .i64) (Kd.scalar ptr (fun _ => rfl))
def wayCells (x : Int × Option Nat) : List Value := [.int .i64 x.1, ptr x.2]
theorem kWay_open {w : World} {x : Int × Option Nat} {cs : List Value} (h : kWay.K w x cs) : cs = wayCells x := by
  obtain ⟨_, _, rfl, rfl, rfl⟩ := h
  exact rfl
theorem kWay_mkM (w : World) (base : Nat) (ok : Nat → Prop) (x : Int × Option Nat) : kWay.M w base ok x (wayCells x) := ⟨[.int .i64 x.1], [ptr x.2], rfl, rfl, rfl⟩
theorem info105 : (Try.prog.info? 105).map (fun i => (i.zero, i.size, i.bytes)) = some (some (.agg #[.int .i64 0, .pointer none]), 2, 16) := by kernel_rfl
def z0 : Mo := ⟨0, 0, 0, 0⟩
def rdMo (xs : List Mo) (i : Int) : Mo := xs.getD i.toNat z0
theorem at_Mo {w : World} {A : Option Addr} {n : Nat} {xs : List Mo} (h : Kd.C kMo w A n xs) (i : Int) (h0 : 0 ≤ i) (h1 : i < n) : ∃ ad, A = some ad ∧ w.cell? (ad.add (i.toNat * 4)) = some (.int .i64 (rdMo xs i).n) ∧ w.cell? ⟨(ad.add (i.toNat * 4)).block, (ad.add (i.toNat * 4)).off + 1, none⟩ = some (.int .i64 (rdMo xs i).a) ∧ w.cell? ⟨(ad.add (i.toNat * 4)).block, (ad.add (i.toNat * 4)).off + 2, none⟩ = some (.int .i64 (rdMo xs i).b) ∧ w.cell? ⟨(ad.add (i.toNat * 4)).block, (ad.add (i.toNat * 4)).off + 3, none⟩ = some (.int .i64 (rdMo xs i).c) := by
  obtain ⟨ad, c, e, _, hK, hc0⟩ := Kd.C_get h z0 i h0 h1
  have hc : ∀ j u, c[j]? = some u → w.cell? (ad.add (i.toNat * 4 + j)) = some u := hc0
  obtain rfl := kMo_open hK
  exact ⟨ad, e, hc 0 _ rfl, by rw [← add_field _ _ 1 (by omega)]; exact hc 1 _ rfl, by rw [← add_field _ _ 2 (by omega)]; exact hc 2 _ rfl, by rw [← add_field _ _ 3 (by omega)]; exact hc 3 _ rfl⟩
structure WaysAt (W : World) (lo : Nat) (v : Value) (s : Int) (ms : List Mo) (bs : List Nat) : Prop where
  row : Kd.R kWay 105 W lo (fun _ => True) v ((s, none) :: bs.map fun b => (s, some b))
  cells : ∀ (i b : Nat) (x : Mo), bs[i]? = some b → ms[i]? = some x → lo ≤ b ∧ W.heap[b]? = some (.cells (moCells x).toArray 29 (0, 0))
theorem R_block {α : Type} {d : Kd α} {e lo n c : Nat} {W : World} {ok : Nat → Prop} {A : Option Addr} {xs : List α} (h : d.R e W lo ok (.slice A n c) xs) : ∀ ad, A = some ad → lo ≤ ad.block := by
  intro ad ea
  subst ea
  obtain ⟨_, inner, ho, _⟩ := h
  exact own_base ho ad.block rfl
theorem add_block_' (a : Addr) (n : Nat) : (a.add n).block = a.block := by unfold Addr.add; split <;> rfl
theorem size_alloc_ (w : World) (o : Obj) : (w.alloc o).heap.size = w.heap.size + 1 := by simp
set_option maxRecDepth 100000 in
set_option maxHeartbeats 8000000 in
theorem ways_calls (s : Int) (w : World) :
    Calls Try.prog 114 #[.int .i64 s] w fun e w' => ∃ v bs, e = .returned v ∧ bs.length = (modelsS s).length ∧ WaysAt w' w.heap.size v s (modelsS s) bs ∧ Below w.heap.size w w' := by
  have KM := Aside0.mk (fun W => models_calls s W)
  obtain ⟨ms, hms⟩ : ∃ ms, modelsS s = ms := ⟨_, rfl⟩
  have hml : ms.length ≤ 8 := by rw [← hms]; unfold modelsS; split <;> simp [mods]
  rw [hms] at KM ⊢
  clear hms
  have HR0 : Aside0 (Kd.R kWay 105 (w.alloc (.cells #[.int .i64 s, .pointer none] 105)) w.heap.size (fun _ => True) (.slice (some ⟨w.heap.size, 0, none⟩) 1 1) [(s, none)]) := ⟨⟨fun _ _ => trivial, [.int .i64 s, .pointer none], World.ownsRow_lit (base := w.heap.size) (e := 105) (size := 2) w #[.int .i64 s, .pointer none] 1 (Nat.le_refl _) (by decide) rfl, Reps.c2 (kWay_mkM _ _ _ (s, none)) (Reps.none _ _)⟩⟩
  go_enter Try.func114, Try.ntmps114
  go_wp2_with (first | (go_at_call 41; (with_reducible refine (KM.out _).mono ?_); rintro e w2 ⟨v, rfl, hv, hb⟩; obtain ⟨A, c, rfl, hc, hC⟩ := Kd.R_reads hv; have hblk := R_block hv; rw [size_alloc_] at hblk; have HM := Aside0.mk (And.intro hC (And.intro hb hblk)); clear hv hC hb hblk))
  have hb0 : Below w.heap.size w w2 := (below_alloc (Below.refl _ _) _).trans (HM.out.2.1.mono (by simp))
  have hsz : w.heap.size < w2.heap.size := by have := HM.out.2.1.size; simp at this; omega
  have HB0 := Aside0.mk (And.intro hb0 hsz)
  have HR1 : Aside0 (Kd.R kWay 105 w2 w.heap.size (fun k => k = w.heap.size ∨ w2.heap.size ≤ k) (.slice (some ⟨w.heap.size, 0, none⟩) 1 1) [(s, none)]) := ⟨by
    have h := Kd.R_below HR0.out HM.out.2.1
    exact ⟨fun k hk => .inl (Eq.symm (show w.heap.size = k by simpa [Value.ownBlock] using hk)), h.2.imp_ (fun _ _ hp => hp)⟩⟩
  clear hb0 hsz HR0
  go_loopg [3, 12] ms.length (fun kq v3 v12 W' => ∃ (k : Nat) (bs : List Nat), v12 = .int .i64 (k : Int) ∧ Aside0 (kq + k = ms.length ∧ bs.length = k) ∧ Aside0 (Kd.R kWay 105 W' w.heap.size (fun k => k = w.heap.size ∨ w2.heap.size ≤ k) v3 ((s, none) :: bs.map fun b => (s, some b))) ∧ Aside0 ((∀ (i b : Nat) (x : Mo), bs[i]? = some b → ms[i]? = some x → w2.heap.size ≤ b ∧ W'.heap[b]? = some (.cells (moCells x).toArray 29 (0, 0))) ∧ Kept w2 W' (fun i => i = w.heap.size) ∧ Below w.heap.size w W'))
  case atStart => exact ⟨0, [], rfl, ⟨rfl, rfl⟩, HR1, ⟨fun i b x h => by simp at h, Kept.refl _ _, HB0.out.1⟩⟩
  case round =>
    obtain ⟨k, bs, rfl, HK, HO, HT⟩ := hrel
    by_cases ck : k < ms.length
    · have c1 : decide ((k : Int) < (ms.length : Int)) = true := decide_eq_true (by omega)
      obtain ⟨ad, e, q0, q1, q2, q3⟩ := at_Mo HM.out.1 (k : Int) (by omega) (by omega)
      have hne := HM.out.2.2 ad e
      cases e
      rw [Int.toNat_natCast] at q0 q1 q2 q3
      have q0' := cell_kept q0 HT.out.2.1 (by show ¬ (ad.add (k * 4)).block = w.heap.size; have := add_block_' ad (k * 4); omega)
      have q1' := cell_kept q1 HT.out.2.1 (by show ¬ (ad.add (k * 4)).block = w.heap.size; have := add_block_' ad (k * 4); omega)
      have q2' := cell_kept q2 HT.out.2.1 (by show ¬ (ad.add (k * 4)).block = w.heap.size; have := add_block_' ad (k * 4); omega)
      have q3' := cell_kept q3 HT.out.2.1 (by show ¬ (ad.add (k * 4)).block = w.heap.size; have := add_block_' ad (k * 4); omega)
      clear q0 q1 q2 q3
      obtain ⟨x, hx⟩ : ∃ x, rdMo ms (k : Int) = x := ⟨_, rfl⟩
      rw [hx] at q0' q1' q2' q3'
      have HX := Aside0.mk (And.intro hx hne)
      clear hx hne
      cases gk with
      | zero => exact absurd HK.out (by omega)
      | succ k1 =>
        obtain ⟨hok, inner, ho_, hre⟩ := HO.out
        have HOW := Aside0.mk ho_
        have HOK := Aside0.mk hok
        clear hok ho_ hre
        go_wp2_with (at_builtin; refine Kd.R_append kWay (W := wr.alloc (.cells #[.int .i64 x.n, .int .i64 x.a, .int .i64 x.b, .int .i64 x.c] 29)) (w0 := w) w.heap.size rfl (.tmp 16) (.tmp 19) 148 105 (.agg #[.int .i64 0, .pointer none]) 16 rfl Try.underlying148 info105 rfl (by decide) (by omega) u3 ((s, none) :: bs.map fun b => (s, some b)) (s, some wr.heap.size) [.int .i64 s, .pointer (some ⟨wr.heap.size, 0, none⟩)] (fun k => k = w.heap.size ∨ w2.heap.size ≤ k) (fun _ => False) rfl (by rw [size_alloc_]; rfl) (kWay_mkM _ _ _ (s, some wr.heap.size)) (fun _ hk => hk.elim) (fun i hi => .inr (by have := HT.out.2.1.1; rw [size_alloc_] at hi; omega)) (Kd.R_alloc HO.out _) (HT.out.2.2.alloc HT.out.2.2.size _) (by have := HT.out.2.2.size; rw [size_alloc_]; omega) (by have := HK.out; simp; omega) ?_)
        intro v1 w1 ho hb hg hat
        have hk1 : Kept w2 w1 (fun i => i = w.heap.size) := Kept.of_grown hg (HT.out.2.1.alloc _) HOK.out
        have hnew : w1.heap[wr.heap.size]? = some (.cells #[.int .i64 x.n, .int .i64 x.a, .int .i64 x.b, .int .i64 x.c] 29 (0, 0)) := blk_grown (blk_new wr _) hg (by have := own_ne_new HOW.out 0; simpa using this)
        have hold : ∀ (b : Nat) (y : Mo), wr.heap[b]? = some (.cells (moCells y).toArray 29 (0, 0)) → w1.heap[b]? = some (.cells (moCells y).toArray 29 (0, 0)) := fun b y h => blk_grown (blk_alloc h _) hg (own_ne HOW.out h (by decide))
        have HN := Aside0.mk (And.intro ho (And.intro hb (And.intro hk1 (And.intro hnew hold))))
        clear ho hb hg hat hk1 hnew hold
        go_wp2
        go_roundg k1
        case measure => omega
        case rel =>
          have hkk := HK.out
          refine ⟨k + 1, bs ++ [wr.heap.size], by go_num, ⟨by omega, by simp; omega⟩, ⟨by simpa using HN.out.1⟩, ⟨fun i b y h1 h2 => ?_, HN.out.2.2.1, HN.out.2.1⟩⟩
          by_cases hi : i < bs.length
          · rw [List.getElem?_append_left hi] at h1
            exact ⟨(HT.out.1 i b y h1 h2).1, HN.out.2.2.2.2 b y (HT.out.1 i b y h1 h2).2⟩
          · have hik : i = k := by
              have := (List.getElem?_eq_some_iff.mp h1).1
              simp at this; omega
            subst hik
            rw [List.getElem?_append_right (by omega)] at h1
            have hz : i - bs.length = 0 := by omega
            rw [hz] at h1
            simp at h1
            subst h1
            have hy : rdMo ms (i : Int) = y := by
              unfold rdMo
              rw [Int.toNat_natCast, List.getD_eq_getElem?_getD, h2]; rfl
            rw [HX.out.1] at hy
            subst hy
            exact ⟨HT.out.2.1.1, HN.out.2.2.2.1⟩
    · have c1 : decide ((k : Int) < (ms.length : Int)) = false := decide_eq_false (by omega)
      go_wp2
      go_ret
      exact ⟨_, bs, rfl, by have := HK.out; omega, ⟨Kd.R_mono HO.out (fun _ _ => trivial), fun i b x h1 h2 => ⟨by have := (HT.out.1 i b x h1 h2).1; have := HB0.out.2; omega, (HT.out.1 i b x h1 h2).2⟩⟩, HT.out.2.2⟩
end Go.Proofs.Ytemnfnbjapobcaa.Ho
end
section
namespace Go.Proofs.Ytemnfnbjapobcaa.HS
def nmissS (l : List Int) (s last : Int) : Int × Int :=
  if s < 1 ∨ s > 10000 ∨ (l.length : Int) < s ∨ last < 1 ∨ s > (l.length : Int) - last then (0, 1)
  else ((List.range' (l.length - last.toNat) last.toNat).foldl (fun q i => addS q (distS (l.getD i 0) (l.getD (i - s.toNat) 0))) 0, 0)
end Go.Proofs.Ytemnfnbjapobcaa.HS
namespace Go.Proofs.Ytemnfnbjapobcaa.Ho
open Go.RowKit Go.Proofs.YtemnfnbjapobcaaW.PrintWords Go.Proofs.YtemnfnbjapobcaaW.PrintLast Go.Proofs.YtemnfnbjapobcaaW.PrintMore
open Go.Proofs.Ytemnfnbjapobcaa.FS Go.Proofs.Ytemnfnbjapobcaa.HS Go.Proofs.Ytemnfnbjapobcaa.FM
set_option linter.unusedVariables false
set_option linter.unusedSimpArgs false
abbrev SeasonMiss : Prop := ∀ (W : World) (A : Option Addr) (c : Nat) (l : List Int) (s last : Int), Kd.C (Kd.int .i64) W A l.length l → l.length ≤ c → AllIn l → FS.In s → FS.In last → l.length ≤ 1000000000 →
  Calls Try.prog 136 #[.slice A l.length c, .int .i64 s, .int .i64 last] W fun e w' => e = .returned (.tuple #[.int .i64 (nmissS l s last).1, .int .i64 (nmissS l s last).2]) ∧ Below W.heap.size W w'
set_option maxRecDepth 100000 in
set_option maxHeartbeats 8000000 in
theorem wayMiss_none (HS : Aside0 SeasonMiss) (A : Option Addr) (c : Nat) (l : List Int) (s : Int) (w : World) (hr : Kd.C (Kd.int .i64) w A l.length l) (hc : l.length ≤ c) (hin : AllIn l) (hs : FS.In s) (hll : l.length ≤ 1000000000) :
    Calls Try.prog 115 #[.agg #[.int .i64 s, .pointer none], .slice A l.length c] w fun e w' => e = .returned (.tuple #[.int .i64 (nmissS l s s).1, .int .i64 (nmissS l s s).2]) ∧ Below w.heap.size w w' := by
  have HR := Aside0.mk hr
  clear hr
  obtain ⟨r, hr⟩ : ∃ r, nmissS l s s = r := ⟨_, rfl⟩
  have KM : Aside0 (∀ W, Kd.C (Kd.int .i64) W A l.length l → Calls Try.prog 136 #[.slice A l.length c, .int .i64 s, .int .i64 s] W fun e w' => e = .returned (.tuple #[.int .i64 r.1, .int .i64 r.2]) ∧ Below W.heap.size W w') := ⟨fun W h => hr ▸ HS.out W A c l s s h hc hin hs hs hll⟩
  rw [hr]
  clear hr
  go_enter Try.func115, Try.ntmps115
  go_wp2_with (go_at_call 136; (with_reducible refine (KM.out _ (Kd.C_below HR.out (below_alloc (Below.refl _ _) _))).mono ?_); rintro e w2 ⟨rfl, hb⟩)
  go_ret2
  exact ⟨rfl, (below_alloc (Below.refl _ _) _).trans (hb.mono (by simp))⟩
set_option maxRecDepth 100000 in
set_option maxHeartbeats 8000000 in
theorem wayMiss_some (A : Option Addr) (c : Nat) (l : List Int) (s : Int) (b : Nat) (m : Mo) (w : World) (hb : w.heap[b]? = some (.cells (moCells m).toArray 29 (0, 0))) (hr : Kd.C (Kd.int .i64) w A l.length l) (hc : l.length ≤ c) (hin : AllIn l) (hs : FS.In s) (hm : FS.In m.n) (hll : l.length ≤ 1000000000) :
    Calls Try.prog 115 #[.agg #[.int .i64 s, .pointer (some ⟨b, 0, none⟩)], .slice A l.length c] w fun e w' => e = .returned (.tuple #[.int .i64 (missS l m s).1, .int .i64 (missS l m s).2]) ∧ Below w.heap.size w w' := by
  have HR := Aside0.mk hr
  obtain ⟨r, er⟩ : ∃ r, missS l m s = r := ⟨_, rfl⟩
  have KM : Aside0 (∀ W, Kd.C (Kd.int .i64) W A l.length l → Calls Try.prog 35 #[.slice A l.length c, moV m, .int .i64 s] W fun e w' => e = .returned (.tuple #[.int .i64 r.1, .int .i64 r.2]) ∧ Below W.heap.size W w') := ⟨fun W h => er ▸ miss_calls A c l m s W h hc hin hm hs hll⟩
  rw [er]
  have hb' := blk_alloc hb (.cells #[.int .i64 s, .pointer (some ⟨b, 0, none⟩)] 105)
  obtain ⟨n, ma, mb, mc⟩ := m
  dsimp only [moV, moCells] at *
  have d0 := blk_cell hb' 0
  have d1 := blk_cell hb' 1
  have d2 := blk_cell hb' 2
  have d3 := blk_cell hb' 3
  simp only [List.getElem?_toArray, List.getElem?_cons_zero, List.getElem?_cons_succ] at d0 d1 d2 d3
  clear er hr hb hb'
  go_enter Try.func115, Try.ntmps115
  go_wp2
  refine wp_region_mid 7 (by kernel_rfl) (by kernel_rfl) rfl ?_
  simp only [List.take_succ_cons, List.take_zero, List.drop_succ_cons, List.drop_zero]
  repeat (go_big_quiet_step (fail))
  refine wpQuiet_nil ?_
  rintro W1 ⟨nq, hnq⟩ K1 hK
  have HB0 : Aside0 (Below w.heap.size w W1) := ⟨hnq ▸ pw_below_drewN (below_alloc (Below.refl _ _) _) _⟩
  clear hnq nq
  refine goes_ Try.func35 (by kernel_rfl) rfl #[.slice A l.length c, .agg #[.int .i64 n, .int .i64 ma, .int .i64 mb, .int .i64 mc], .int .i64 s] (by rfl) rfl rfl (by simp [Act.eval]) ?_
  refine (KM.out _ (Kd.C_below HR.out HB0.out)).mono ?_
  rintro e w2 ⟨rfl, hb2⟩
  refine ⟨_, rfl, hK _ _ ?_⟩
  have HB2 := Aside0.mk (HB0.out.trans (hb2.mono HB0.out.size))
  clear hK K1 d0 d1 d2 d3 hb2
  simp only [Act.put, List.setIfInBounds_toArray, List.set_cons_zero, List.set_cons_succ]
  repeat (go_big_quiet_step (fail))
  refine wpQuiet_nil ?_
  rintro w3 ⟨n3, rfl⟩
  go_wp2
  go_ret2
  exact ⟨rfl, pw_below_drewN HB2.out _⟩
end Go.Proofs.Ytemnfnbjapobcaa.Ho
end
