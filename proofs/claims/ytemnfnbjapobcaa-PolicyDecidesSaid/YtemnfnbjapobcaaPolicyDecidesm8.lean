-- Laid together by wip/shake.py out of: Spec FixC Holt1 QT Holt2 Holt3 Holt4 Holt5 Ref1 Ref2 Ref3 Holt6 Ref4 Ref5
import Derived.Test.YtemnfnbjapobcaaPolicyDecidesm7
import Derived.Deep.Quiet
import Derived.StillTail
import Derived.Deep.QuietTactic
import Derived.Tactics
import Derived.Below
import Derived.Lib.SliceRun
set_option maxHeartbeats 8000000
set_option maxRecDepth 100000
set_option linter.unusedVariables false
set_option linter.unusedSimpArgs false
namespace Go.Proofs
open Go.RowKit
theorem zeH {P : Prop} (h : P := by simp only [Act.put, List.setIfInBounds_toArray, List.set_cons_zero, List.set_cons_succ, zaF, zaM]; rfl) : P := h
theorem zba {P : Prop} (h : P := by assumption) : P := h
theorem zdh {P : Prop} (h : P := by have := HK.out; omega) : P := h
theorem zdi {P : Prop} (h : P := by simp [Act.eval]) : P := h
theorem zeJ {P : Prop} (h : P := by have := HK3.out; omega) : P := h
theorem zbR {P : Prop} (h : P := by go_num) : P := h
theorem zhV {P : Prop} (h : P := by simp [Value.ownBlock]; omega) : P := h
theorem zgs {P : Prop} (h : P := by exact_mod_cast hjl) : P := h
end Go.Proofs
section
namespace Go.Proofs.Ytemnfnbjapobcaa.HS
open Go.Proofs.Ytemnfnbjapobcaa.FM Go.Proofs.Ytemnfnbjapobcaa.FS
def InB (x : Int) : Bool := decide (-9223372036854775808 ≤ x) && decide (x ≤ 9223372036854775807)
theorem zbO {x : Int} : InB x = true ↔ In x := by unfold InB In; simp
def AllIn (l : List Int) : Prop := ∀ x ∈ l, In x
def zlS (l : List Int) : Bool := l.all InB
theorem zny {l : List Int} : zlS l = true ↔ AllIn l := by unfold zlS AllIn; simp [List.all_eq_true, zbO]
def addS (a b : Int) : Int := sat (a + b)
def zbk (a b : Int) : Int := sat (a - b)
def zgY (a b : Int) : Int := sat (a * b / 4294967296)
def ofS (n : Int) : Int := sat (n * 4294967296)
def zch (w x y : Int) : Int := addS (zgY w x) (zgY (zbk 4294967296 w) y)
def distS (a b : Int) : Int := if a < b then zbk b a else zbk a b
structure Mo where
 n : Int
 a : Int
 b : Int
 c : Int
structure St where
 level : Int
 trend : Int
 parts : List Int
 k : Nat
def okW (w : Int) : Bool := decide (0 ≤ w) && decide (w ≤ 4294967296)
def zbP (m : Mo) : Int := if m.n < 1 ∨ m.n > 10000 then 1 else if okW m.a && okW m.b && okW m.c then 0 else 1
def zfs (l : List Int) : Int := l.foldl addS 0
def zdT (l : List Int) : Int := zeZ (zfs l) (ofS l.length)
def zdC (l : List Int) (n : Nat) : St :=
 let a := zdT (l.take n)
 let b := zdT ((l.drop n).take n)
 ⟨a, zeZ (zbk b a) (ofS n), (l.take n).map (fun x => zbk x a), 0⟩
def zcq (m : Mo) (s : St) (x : Int) : St :=
 let j := s.k % s.parts.length
 let p := s.parts.getD j 0
 let level := zch m.a (zbk x p) (addS s.level s.trend)
 ⟨level, zch m.b (zbk level s.level) s.trend, s.parts.set j (zch m.c (zbk x level) p), s.k + 1⟩
def zbG (l : List Int) (m : Mo) : St := (l.drop m.n.toNat).foldl (zcq m) (zdC l m.n.toNat)
def zcr (l : List Int) (m : Mo) : Int := if zbP m ≠ 0 then 1 else if (l.length : Int) < 2 * m.n then 1 else 0
def zcl (s : St) (ahead : Int) : Int × Int :=
 if ahead < 1 ∨ ahead > 10000 then (0, 1) else (addS (addS s.level (zgY (ofS ahead) s.trend)) (s.parts.getD ((s.k + ahead.toNat - 1) % s.parts.length) 0), 0)
def zgN (l : List Int) (m : Mo) (ahead : Int) : Int × Int := if zcr l m ≠ 0 then (0, 1) else zcl (zbG l m) ahead
def zcf (m : Mo) (q : Int × St) (x : Int) : Int × St := (addS q.1 (distS x (zcl q.2 1).1), zcq m q.2 x)
def zcS (l : List Int) (m : Mo) (last : Int) : Int × Int :=
 if zbP m ≠ 0 then (0, 1) else if last < 1 ∨ 2 * m.n > (l.length : Int) - last then (0, 1)
 else
  let n := l.length - last.toNat
  (((l.drop n).foldl (zcf m) (0, zbG (l.take n) m)).1, 0)
theorem zee (a b : Int) : In (addS a b) := zfo _
theorem zet (a b : Int) : In (zbk a b) := zfo _
theorem zgo (a b : Int) : In (zgY a b) := zfo _
theorem zin (a : Int) : In (ofS a) := zfo _
theorem zfg (w x y : Int) : In (zch w x y) := zfo _
theorem zlI (a b : Int) : In (distS a b) := by unfold distS; split <;> exact zfo _
def St.In (s : St) : Prop := FS.In s.level ∧ FS.In s.trend ∧ AllIn s.parts
theorem zcb {l : List Int} (h : AllIn l) (i : Nat) : FS.In (l.getD i 0) := by
 rw [List.getD_eq_getElem?_getD]
 cases e : l[i]? with
 | none => exact ⟨zaR, zaR⟩
 | some x => exact h x (List.mem_of_getElem? e)
theorem zou {l : List Int} (h : AllIn l) (i : Nat) {x : Int} (hx : FS.In x) : AllIn (l.set i x) := fun y hy => by
 rcases List.mem_or_eq_of_mem_set hy with h1 | rfl
 · exact h y h1
 · exact hx
theorem zpR (m : Mo) {s : St} (h : s.In) (x : Int) : (zcq m s x).In := ⟨zfg _ _ _, zfg _ _ _, zou h.2.2 _ (zfg _ _ _)⟩
theorem zoS (m : Mo) (s : St) (x : Int) : (zcq m s x).parts.length = s.parts.length := by simp [zcq]
theorem zgq (m : Mo) : ∀ (l : List Int) (s : St), s.In → (l.foldl (zcq m) s).In
 | [], _, h => h
 | x :: l, s, h => zgq m l _ (zpR m h x)
theorem zfw (m : Mo) : ∀ (l : List Int) (s : St), (l.foldl (zcq m) s).parts.length = s.parts.length
 | [], _ => rfl
 | x :: l, s => (zfw m l _).trans (zoS m s x)
theorem zhj (m : Mo) : ∀ (l : List Int) (s : St), (l.foldl (zcq m) s).k = s.k + l.length
 | [], _ => rfl
 | x :: l, s => by have := zhj m l (zcq m s x); simp only [List.foldl_cons, List.length_cons]; rw [this]; simp only [zcq]; omega
theorem zjf (l : List Int) (n : Nat) : (zdC l n).In := ⟨zgp _ _, zgp _ _, fun x hx => by
 simp only [zdC, List.mem_map] at hx; obtain ⟨y, _, rfl⟩ := hx; exact zet _ _⟩
theorem zix (l : List Int) (n : Nat) (h : n ≤ l.length) : (zdC l n).parts.length = n := by simp [zdC, h]
end Go.Proofs.Ytemnfnbjapobcaa.HS
end
section
namespace Go.Proofs.Ytemnfnbjapobcaa
open Go.RowKit Go.Proofs.ZW.PrintWords Go.Proofs.ZW.PrintLast Go.Proofs.ZW.PrintMore
open Go.Proofs.Ytemnfnbjapobcaa.FS Go.Proofs.Ytemnfnbjapobcaa.HS
section
variable {a b : Int} (ha : FS.In a) (hb : FS.In b) (w : World)
include ha hb
theorem zhH : Calls Try.prog 67 #[.int .i64 a, .int .i64 b] w fun e w' => e = .returned (.int .i64 (addS a b)) ∧ Drawn0 w w' := Fix.zbQ.calls 400 a b _ w (zrc (Nat.le_refl _) ha hb)
theorem zfX : Calls Try.prog 71 #[.int .i64 a, .int .i64 b] w fun e w' => e = .returned (.int .i64 (zbk a b)) ∧ Drawn0 w w' := Fix.zcG.calls 400 a b _ w (zqC (Nat.le_refl _) ha hb)
theorem zpr : Calls Try.prog 68 #[.int .i64 a, .int .i64 b] w fun e w' => e = .returned (.int .i64 (zgY a b)) ∧ Drawn0 w w' := Fix.zfI.calls 400 a b _ w (zqP (Nat.le_refl _) ha hb)
theorem zqS : Calls Try.prog 102 #[.int .i64 a, .int .i64 b] w fun e w' => e = .returned (.int .i64 (zeZ a b)) ∧ Drawn0 w w' := Fix.zfJ.calls 400 a b _ w (zqU (Nat.le_refl _) ha hb)
theorem zps : Calls Try.prog 91 #[.int .i64 a, .int .i64 b] w fun e w' => e = .returned (.int .i64 (cdivS a b)) ∧ Drawn0 w w' := Fix.zbV.calls 400 a b _ w (zqr (Nat.le_refl _) ha hb)
theorem zjb : Calls Try.prog 55 #[.int .i64 a, .int .i64 b] w fun e w' => e = .returned (.int .i64 (addS a b)) ∧ Drawn0 w w' := Fix.zaW.calls 400 a b _ w (zmu (Nat.le_refl _) ha hb)
theorem zii : Calls Try.prog 63 #[.int .i64 a, .int .i64 b] w fun e w' => e = .returned (.int .i64 (zbk a b)) ∧ Drawn0 w w' := Fix.zdL.calls 400 a b _ w (zpU (Nat.le_refl _) ha hb)
theorem zqM : Calls Try.prog 70 #[.int .i64 a, .int .i64 b] w fun e w' => e = .returned (.int .i64 (zgY a b)) ∧ Below w.heap.size w w' := Fix.zdM.calls 400 a b _ w (zpV (Nat.le_refl _) ha hb)
theorem zqN : Calls Try.prog 65 #[.int .i64 a, .int .i64 b] w fun e w' => e = .returned (.int .i64 (zeZ a b)) ∧ Below w.heap.size w w' := Fix.zdN.calls 400 a b _ w (zpX (Nat.le_refl _) ha hb)
theorem zpe : Calls Try.prog 93 #[.int .i64 a, .int .i64 b] w fun e w' => e = .returned (.int .i64 (cdivS a b)) ∧ Below w.heap.size w w' := Fix.zbq.calls 400 a b _ w (zpd (Nat.le_refl _) ha hb)
end
section
variable {a : Int} (ha : FS.In a) (w : World)
include ha
theorem fOf : Calls Try.prog 69 #[.int .i64 a] w fun e w' => e = .returned (.int .i64 (ofS a)) ∧ Drawn0 w w' := Fix.zgA.calls a _ w (zrn ha)
theorem zrr : Calls Try.prog 90 #[.int .i64 a] w fun e w' => e = .returned (.int .i64 (-(-a / 4294967296))) ∧ Drawn0 w w' := Fix.zcp.calls a _ w (zqq ha)
theorem rOf : Calls Try.prog 21 #[.int .i64 a] w fun e w' => e = .returned (.int .i64 (ofS a)) ∧ Drawn0 w w' := Fix.zeg.calls a _ w (zqG ha)
theorem zrk : Calls Try.prog 92 #[.int .i64 a] w fun e w' => e = .returned (.int .i64 (-(-a / 4294967296))) ∧ Drawn0 w w' := Fix.zbv.calls a _ w (zpc ha)
end
theorem zkg {P : Program} {f : FuncId} {args : Array Value} {w : World} {v : Value} (h : Calls P f args w fun e w' => e = .returned v ∧ Drawn0 w w') : Calls P f args w fun e w' => e = .returned v ∧ ∃ m, w' = w.drewN m :=
 h.mono fun _ _ ⟨he, hw⟩ => ⟨he, hw.out⟩
theorem q0 {P : Program} {f : FuncId} {args : Array Value} {w : World} {v : Value} {n : Nat} (h : Calls P f args (w.drewN n) fun e w' => e = .returned v ∧ Drawn0 (w.drewN n) w') : Calls P f args (w.drewN n) fun e w'' => e = .returned v ∧ ∃ m, w'' = w.drewN m :=
 Calls.quiet_of (zkg h)
theorem q1 {P : Program} {f : FuncId} {args : Array Value} {w : World} {v : Value} {n0 n : Nat} (h : Calls P f args (w.drewN (n0 + n)) fun e w' => e = .returned v ∧ Drawn0 (w.drewN (n0 + n)) w') : Calls P f args (w.drewN (n0 + n)) fun e w'' => e = .returned v ∧ ∃ m, w'' = w.drewN (n0 + m) :=
 h.mono fun _ _ ⟨he, m, hm⟩ => ⟨he, n + m, by rw [hm, World.drewN_drewN, Nat.add_assoc]⟩
end Go.Proofs.Ytemnfnbjapobcaa
end
section
namespace Go.Proofs.Ytemnfnbjapobcaa.Ho
open Go.RowKit Go.Proofs.ZW.PrintWords Go.Proofs.ZW.PrintLast Go.Proofs.ZW.PrintMore
open Go.Proofs.Ytemnfnbjapobcaa.FS Go.Proofs.Ytemnfnbjapobcaa.HS
theorem zim (x y wt : Int) (hx : FS.In x) (hy : FS.In y) (hwt : FS.In wt) (bw br : Nat) (w : World) (hw : w.cell? ⟨bw, 0, none⟩ = some (.int .i64 wt)) (hr : w.cell? ⟨br, 0, none⟩ = some (.int .i64 (zbk 4294967296 wt))) :
  Calls Try.prog 135 #[.int .i64 x, .int .i64 y, .pointer (some ⟨bw, 0, none⟩), .pointer (some ⟨br, 0, none⟩)] w fun e w' => e = .returned (.int .i64 (zch wt x y)) ∧ Drawn0 w w' := by
 have h1 := zet 4294967296 wt; have h2 := zgo wt x; have h3 := zgo (zbk 4294967296 wt) y; go_enter Try.func135, Try.ntmps135
 go_wp2_with (first | (go_at_call 68; (with_reducible refine (zpr zba zba _).mono ?_); rintro e w' ⟨rfl, ⟨nd, rfl⟩⟩) | (go_at_call 67; (with_reducible refine (zhH zba zba _).mono ?_); rintro e w' ⟨rfl, ⟨nd, rfl⟩⟩))
 go_quiet ((first | (go_at_call 68; exact Calls.quiet_of (zkg (zpr zba zba _))) | (go_at_call 67; exact Calls.quiet_of (zkg (zhH zba zba _)))))
 go_wp2; go_ret; exact ⟨rfl, zq3⟩
def zjJ (w : World) (b : Nat) (v : Int) : Prop := w.heap[b]? = some (.cells #[.int .i64 v] 3 (0, 0))
def zgR (w : World) (b : Nat) (wt : Int) : Prop := zjJ w b wt ∧ zjJ w (b + 1) (zbk 4294967296 wt)
def zdB (b : Nat) : Value := .func (.func 135) #[] #[.pointer (some ⟨b, 0, none⟩), .pointer (some ⟨b + 1, 0, none⟩)]
structure zpC (w w' : World) (n : Nat) : Prop where
 size : w'.heap.size = w.heap.size + n
 below : Below w.heap.size w w'
theorem zkG (wt : Int) (hwt : FS.In wt) (w : World) :
  Calls Try.prog 103 #[.int .i64 wt] w fun e w' => e = .returned (zdB w.heap.size) ∧ zgR w' w.heap.size wt ∧ zpC w w' 2 := by
 have h0 : FS.In 4294967296 := ⟨zaR, zaR⟩
 go_enter Try.func103, Try.ntmps103
 go_wp2_with (first | (go_at_call 71; (with_reducible refine (zfX zba zba _).mono ?_); rintro e w' ⟨rfl, ⟨nd, rfl⟩⟩))
 go_ret; refine ⟨rfl, ⟨?_, ?_⟩, ⟨by simp, ?_⟩⟩
 · exact zai (zal (zbL w _) nd) _
 · have := zbL ((w.alloc (.cells #[.int .i64 wt] 3)).drewN nd) (.cells #[.int .i64 (zbk 4294967296 wt)] 3); simpa [zjJ] using this
 · exact zaq (zaj (zaq (Below.refl _ _) _) nd) _
theorem ziX (l : List Int) (k : Nat) (h : k < l.length) : zfs (l.take (k + 1)) = addS (zfs (l.take k)) (rd l (k : Int)) := by
 show _ = addS _ (l.getD k 0)
 unfold zfs; rw [List.take_succ_eq_append_getElem h, List.foldl_append]; simp [List.getD_eq_getElem?_getD, List.getElem?_eq_getElem h]
theorem zkk (l : List Int) : FS.In (zfs l) := by
 unfold zfs
 rcases List.eq_nil_or_concat l with rfl | ⟨l', x, rfl⟩
 · exact ⟨zaR, zaR⟩
 · rw [List.concat_eq_append, List.foldl_append]; exact zee _ _
theorem znp (A : Option Addr) (c : Nat) (l : List Int) (w : World) (hr : Kd.C (Kd.int .i64) w A l.length l) (hl : l.length ≤ 1000000000000) (hin : AllIn l) :
  Calls Try.prog 101 #[.slice A l.length c] w fun e w' => e = .returned (.int .i64 (zdT l)) ∧ Drawn0 w w' := by
 go_enter Try.func101, Try.ntmps101
 go_wp2; go_loopg [3, 8] l.length (fun kq v3 v8 w' => ∃ k m : Nat, v3 = .int .i64 (zfs (l.take k)) ∧ v8 = .int .i64 (k : Int) ∧ zaa (kq + k = l.length) ∧ w' = w.drewN m)
 case atStart => exact ⟨0, 0, rfl, rfl, ⟨rfl⟩, rfl⟩
 case round =>
  obtain ⟨k, m, rfl, rfl, HK, rfl⟩ := hrel; have i1 := zkk (l.take k); by_cases c : k < l.length; rotate_left
  · have c1 : decide ((k : Int) < (l.length : Int)) = false := zdf zq8; have e : l.take k = l := List.take_of_length_le zq8; rw [e] at i1; have i3 : FS.In (l.length : Int) := ⟨zq8, zq8⟩
    have i4 := zin (l.length : Int); have HE := zaa.mk e; clear e; go_wp2_with (first | (go_at_call 69; (with_reducible refine (fOf zba _).mono ?_); rintro e w' ⟨rfl, ⟨nd, rfl⟩⟩) | (go_at_call 102; rw [HE.out]; (with_reducible refine (zqS zba zba _).mono ?_); rintro e w' ⟨rfl, ⟨nd, rfl⟩⟩))
    go_ret; exact ⟨rfl, zq3⟩
  have c1 : decide ((k : Int) < (l.length : Int)) = true := zdt zq8; have i2 : FS.In (rd l (k : Int)) := zcb hin k; obtain ⟨ad, rfl, r0⟩ := Kd.zbE (Kd.zaL hr (zaj (Below.refl _ _) m)) (k : Int) zq8 zq8; rw [Int.toNat_natCast] at r0; have e := ziX l k c; have HE := zaa.mk e; clear e
  cases gk with
  | zero => exact absurd HK.out zq8
  | succ k1 =>
   go_wp2_with (go_at_call 67; (with_reducible refine (zhH zba zba _).mono ?_); rintro e w' ⟨rfl, ⟨nd, rfl⟩⟩)
   go_roundg k1
   case measure => omega
   case rel => exact ⟨k + 1, _, by rw [HE.out], zbR, ⟨zdh⟩, rfl⟩
theorem zon (m : Mo) (h : m.n < 1 ∨ m.n > 10000) : zbP m = 1 := by unfold zbP; rw [if_pos h]
theorem ziS (m : Mo) (w : World) :
  Calls Try.prog 33 #[.agg #[.int .i64 m.n, .int .i64 m.a, .int .i64 m.b, .int .i64 m.c]] w fun e w' => e = .returned (.int .i64 (zbP m)) ∧ Below w.heap.size w w' := by
 obtain ⟨n, a, b, c⟩ := m; obtain ⟨r, hr⟩ : ∃ r, zbP ⟨n, a, b, c⟩ = r := ⟨_, rfl⟩
 rw [hr]; have HR := zaa.mk hr; clear hr; have j0 : ∀ w, (Instr.index 102 (.agg #[.int .i64 a, .int .i64 b, .int .i64 c]) (.int .i64 0)).run Try.prog w = .ok (.int .i64 a) w := fun _ => by kernel_rfl
 have j1 : ∀ w, (Instr.index 102 (.agg #[.int .i64 a, .int .i64 b, .int .i64 c]) (.int .i64 1)).run Try.prog w = .ok (.int .i64 b) w := fun _ => by kernel_rfl
 have j2 : ∀ w, (Instr.index 102 (.agg #[.int .i64 a, .int .i64 b, .int .i64 c]) (.int .i64 2)).run Try.prog w = .ok (.int .i64 c) w := fun _ => by kernel_rfl
 by_cases h1 : n < 1
 · obtain rfl : r = 1 := by rw [← HR.out, zon _ (.inl h1)]
   have g1 := zdt h1; clear h1 HR; go_enter Try.func33, Try.ntmps33
   go_wp2; go_ret; exact ⟨rfl, zaq (Below.refl _ _) _⟩
 have g1 := zdf h1; by_cases h2 : 10000 < n
 · have g2 := zdt h2; obtain rfl : r = 1 := by rw [← HR.out]; simp [zbP, okW]; try omega
   clear HR; go_enter Try.func33, Try.ntmps33
   go_wp2; go_ret; exact ⟨rfl, zaq (Below.refl _ _) _⟩
 have g2 := zdf h2; by_cases a1 : a < 0
 · have a1' : decide (a < 0) = true := zdt a1; obtain rfl : r = 1 := by rw [← HR.out]; simp [zbP, okW]; try omega
   clear HR; go_enter Try.func33, Try.ntmps33
   go_wp2; refine wp_loop_rounds 4 ?_; rw [rounds_succ]; go_wp2; go_ret; exact ⟨rfl, zaq (Below.refl _ _) _⟩
 have a1' : decide (a < 0) = false := zdf a1; by_cases a2 : 4294967296 < a
 · have a2' : decide (4294967296 < a) = true := zdt a2; obtain rfl : r = 1 := by rw [← HR.out]; simp [zbP, okW]; try omega
   clear HR; go_enter Try.func33, Try.ntmps33
   go_wp2; refine wp_loop_rounds 4 ?_; rw [rounds_succ]; go_wp2; go_ret; exact ⟨rfl, zaq (Below.refl _ _) _⟩
 have a2' : decide (4294967296 < a) = false := zdf a2; by_cases b1 : b < 0
 · have b1' : decide (b < 0) = true := zdt b1; obtain rfl : r = 1 := by rw [← HR.out]; simp [zbP, okW]; try omega
   clear HR; go_enter Try.func33, Try.ntmps33
   go_wp2; refine wp_loop_rounds 4 ?_; rw [rounds_succ]; go_wp2; rw [rounds_succ]; go_wp2; go_ret; exact ⟨rfl, zaq (Below.refl _ _) _⟩
 have b1' : decide (b < 0) = false := zdf b1; by_cases b2 : 4294967296 < b
 · have b2' : decide (4294967296 < b) = true := zdt b2; obtain rfl : r = 1 := by rw [← HR.out]; simp [zbP, okW]; try omega
   clear HR; go_enter Try.func33, Try.ntmps33
   go_wp2; refine wp_loop_rounds 4 ?_; rw [rounds_succ]; go_wp2; rw [rounds_succ]; go_wp2; go_ret; exact ⟨rfl, zaq (Below.refl _ _) _⟩
 have b2' : decide (4294967296 < b) = false := zdf b2; by_cases c1 : c < 0
 · have c1' : decide (c < 0) = true := zdt c1; obtain rfl : r = 1 := by rw [← HR.out]; simp [zbP, okW]; try omega
   clear HR; go_enter Try.func33, Try.ntmps33
   go_wp2; refine wp_loop_rounds 4 ?_; rw [rounds_succ]; go_wp2; rw [rounds_succ]; go_wp2; rw [rounds_succ]; go_wp2; go_ret; exact ⟨rfl, zaq (Below.refl _ _) _⟩
 have c1' : decide (c < 0) = false := zdf c1; by_cases c2 : 4294967296 < c
 · have c2' : decide (4294967296 < c) = true := zdt c2; obtain rfl : r = 1 := by rw [← HR.out]; simp [zbP, okW]; try omega
   clear HR; go_enter Try.func33, Try.ntmps33
   go_wp2; refine wp_loop_rounds 4 ?_; rw [rounds_succ]; go_wp2; rw [rounds_succ]; go_wp2; rw [rounds_succ]; go_wp2; go_ret; exact ⟨rfl, zaq (Below.refl _ _) _⟩
 have c2' : decide (4294967296 < c) = false := zdf c2; obtain rfl : r = 0 := by rw [← HR.out]; simp [zbP, okW]; try omega
 clear HR; go_enter Try.func33, Try.ntmps33
 go_wp2; refine wp_loop_rounds 4 ?_; rw [rounds_succ]; go_wp2; rw [rounds_succ]; go_wp2; rw [rounds_succ]; go_wp2; rw [rounds_succ]; go_wp2; go_ret; exact ⟨rfl, zaq (Below.refl _ _) _⟩
end Go.Proofs.Ytemnfnbjapobcaa.Ho
end
section
namespace Go.Proofs.Ytemnfnbjapobcaa
open Go Go.RowKit Go.Proofs.ZW.PrintLast
section
variable {P : Program} {ops : Array Oper} {md : Region.Mode} {C : World → Prop}
def zdS (ops : Array Oper) (l : List Nat) : List Oper := l.filterMap fun i => ops[i]?
def zhb (P : Program) (md : Region.Mode) (ops : Array Oper) (C : World → Prop) (ts : List Nat) (L : Array Bool → Act → Prop) : Nat → Array Bool → Act → Prop
 | 0, listed, a => L listed a
 | f + 1, listed, a => Region.ready md ops listed ≠ [] ∧ ∀ i ∈ Region.ready md ops listed, i ∉ ts ∧ qOp P ops C i (zhb P md ops C ts L f (listed.setIfInBounds i true)) a
theorem zhp {ts : List Nat} {g : Nat} {L : Array Bool → Act → Prop} {Q' : Exit → Act → World → Prop} (hL : ∀ listed a w, C w → L listed a → wpAny P md ops Q' g listed a w) :
  ∀ (f : Nat) (listed : Array Bool) (a : Act) (w : World), C w → zhb P md ops C ts L f listed a → wpAny P md ops Q' (f + g) listed a w
 | 0, listed, a, w, hw, h => by rw [Nat.zero_add]; exact hL _ _ _ hw h
 | f + 1, listed, a, w, hw, h => by
  rw [show f + 1 + g = (f + g) + 1 by omega]; exact ⟨fun h0 => absurd h0 h.1, fun i hi => wpOp_of_qOp hw (fun a' w' hw' h' => zhp hL f _ a' w' hw' h') (h.2 i hi).2⟩
theorem zhY {ts : List Nat} {n i : Nat} {oi : Oper} {v : Value} {L : Array Bool → Act → Prop} (hi : ops[i]? = some oi) (hsel : ∀ (j : Nat) (o : Oper) cs b, ops[j]? = some o → o.op ≠ .select cs b)
  (hreach : ∀ t ∈ ts, Region.reachB md ops i n t = true) (hdone : ∀ listed a, L listed a → ∀ j ∈ Region.ready md ops listed, j ∈ ts) :
  ∀ (f : Nat) (listed : Array Bool) (a : Act), zcD md ops listed →
   (∀ j oj, ops[j]? = some oj → j ≠ i → listed.getD j true = false → (∀ e ∈ oj.after, Region.binds md e = true → e.on ≠ i) → oi.apart ops oj = true) →
   i ∈ Region.ready md ops listed → YieldsIn P ops C oi v a →
   zhb P md ops C ts L f (listed.setIfInBounds i true) (a.put oi.dst v) → zhb P md ops C ts L (f + 1) listed a := by
 intro f
 induction f with
 | zero =>
  intro listed a inv _ hr hy H; have hun := (mem_ready.1 hr).1; refine ⟨fun h => (by rw [h] at hr; cases hr), fun j hj => ?_⟩; have hjt : j ∉ ts := fun h => Region.reach_not_ready inv (hreach j h) hun hj
  refine ⟨hjt, ?_⟩; by_cases hji : j = i
  · subst hji; exact hy.qOp hi H
  exact absurd (hdone _ _ H j (ready_mono hj hji)) hjt
 | succ f ih =>
  intro listed a inv hfree hr hy H; have hun := (mem_ready.1 hr).1; refine ⟨fun h => (by rw [h] at hr; cases hr), fun j hj => ?_⟩; have hjt : j ∉ ts := fun h => Region.reach_not_ready inv (hreach j h) hun hj
  refine ⟨hjt, ?_⟩; by_cases hji : j = i
  · subst hji; exact hy.qOp hi H
  have h1 := (H.2 j (ready_mono hj hji)).2; obtain ⟨hjun, oj, hoj, hall⟩ := mem_ready.1 hj; have hnot : ∀ e ∈ oj.after, Region.binds md e = true → e.on ≠ i := fun e he hb heq => by
   have h1 := hall e he hb; rw [heq, getD_both hun] at h1
   cases h1
  have h2 := qOp_put hoj (hfree j oj hoj hji hjun hnot) (fun cs b => hsel i oi cs b hi) (fun cs b => hsel j oj cs b hoj) hy h1; have hfree' : ∀ k ok, ops[k]? = some ok → k ≠ i → (listed.setIfInBounds j true).getD k true = false →
    (∀ e ∈ ok.after, Region.binds md e = true → e.on ≠ i) → oi.apart ops ok = true := fun k ok hk hki hun hno => by
   refine hfree k ok hk hki ?_ hno; by_cases hjk : j = k
   · subst hjk; exact hjun
   rw [getD_set_ne true hjk] at hun; exact hun
  refine qOp_mono (fun a' h3 => ih (listed.setIfInBounds j true) a' (inv.set hj) hfree' (ready_mono hr (Ne.symm hji)) h3.1 ?_) h2; rw [Array.setIfInBounds_comm _ _ hji]; exact h3.2
def zga (md : Region.Mode) (ops : Array Oper) : List Nat → Array Bool → Bool
 | [], listed => (Region.ready md ops listed).isEmpty
 | t :: ts, listed => decide (Region.ready md ops listed = [t]) && zga md ops ts (listed.setIfInBounds t true)
def zjC (md : Region.Mode) (ops : Array Oper) (ts : List Nat) : List Nat → Array Bool → Bool
 | [], listed => zga md ops ts listed
 | k :: hs, listed => (Region.ready md ops listed).contains k && Region.free md ops listed k && ts.all (fun t => Region.reachB md ops k ops.size t) && zjC md ops ts hs (listed.setIfInBounds k true)
def zlH (o : Oper) : Bool := o.guard.isNone && o.dst.isSome && match o.op with | .move _ => true | _ => false
def zoa (a : Act) (o : Oper) : Act := match o.op with | .move x => a.put o.dst (a.eval x) | _ => a
def zhh (ops : Array Oper) : List Nat → Act → Act
 | [], a => a
 | k :: ps, a => match ops[k]? with | some o => zhh ops ps (zoa a o) | none => zhh ops ps a
def zjy (md : Region.Mode) (ops : Array Oper) (hs ts : List Nat) : List Nat → Array Bool → Bool
 | [], listed => zjC md ops ts hs listed
 | k :: ps, listed => (Region.ready md ops listed).contains k && Region.free md ops listed k && (match ops[k]? with | some o => zlH o | none => false) && zjy md ops hs ts ps (listed.setIfInBounds k true)
def zjz (md : Region.Mode) (ops : Array Oper) (ps hs ts : List Nat) : Bool :=
 Region.noSelect ops && decide (ps.length + (hs.length + ts.length) = ops.size) && zjy md ops hs ts ps (Array.replicate ops.size false)
theorem zhL {Q' : Exit → Act → World → Prop} : ∀ (ts : List Nat) (listed : Array Bool) (a : Act) (w : World),
  zga md ops ts listed = true → wpList P ops Q' (zdS ops ts) a w → wpAny P md ops Q' ts.length listed a w
 | [], _, _, _, hB, h => ⟨by simpa [zga] using hB, h⟩
 | t :: ts, listed, a, w, hB, h => by
  simp only [zga, Bool.and_eq_true, decide_eq_true_eq] at hB; have hr : t ∈ Region.ready md ops listed := by rw [hB.1]; simp
  obtain ⟨_, o, h0, _⟩ := mem_ready.1 hr; simp only [zdS, List.filterMap_cons, h0] at h; refine ⟨fun h1 => (by rw [hB.1] at h1; cases h1), fun i hi => ?_⟩; rw [hB.1] at hi; obtain rfl : i = t := by simpa using hi
  have hw : wpOp P ops Q' i (wpList P ops Q' (zdS ops ts)) a w := by unfold wpOp; simp only [h0]; exact h
  exact wpOp_mono (fun a' w' h' => zhL ts _ a' w' hB.2 h') hw
theorem zlW {ts : List Nat} {listed : Array Bool} (h : zga md ops ts listed = true) : ∀ j ∈ Region.ready md ops listed, j ∈ ts := by
 cases ts with
 | nil => intro j hj; simp only [zga, List.isEmpty_iff] at h; rw [h] at hj; cases hj
 | cons t ts =>
  intro j hj; simp only [zga, Bool.and_eq_true, decide_eq_true_eq] at h; rw [h.1] at hj; simp at hj
  simp [hj]
theorem ziE {ts : List Nat} {Lq : Act → Prop} (hsel : Region.noSelect ops = true) :
  ∀ (hs : List Nat) (listed : Array Bool) (a : Act), zcD md ops listed → zjC md ops ts hs listed = true → wpQuiet P ops C Lq (zdS ops hs) a →
  zhb P md ops C ts (fun listed' a' => zga md ops ts listed' = true ∧ Lq a') hs.length listed a
 | [], listed, a, _, hB, h => ⟨by simpa [zjC] using hB, h⟩
 | k :: hs, listed, a, inv, hB, h => by
  simp only [zjC, Bool.and_eq_true, List.all_eq_true] at hB; obtain ⟨⟨⟨hr, hf⟩, hre⟩, hB'⟩ := hB; have hr' : k ∈ Region.ready md ops listed := by simpa using hr
  obtain ⟨_, o, h0, _⟩ := mem_ready.1 hr'; simp only [zdS, List.filterMap_cons, h0] at h; have hst : qOp P ops C k (wpQuiet P ops C Lq (zdS ops hs)) a := by unfold qOp; simp only [h0]; exact h
  obtain ⟨v, hy, hK⟩ := yieldsIn_of_qOp h0 hst; exact zhY h0 (Region.noSelect_spec hsel) hre (fun listed' a' hL => zlW hL.1) hs.length listed a inv (Region.free_spec h0 hf) hr' hy (ziE hsel hs _ _ (inv.set hr') hB' hK)
theorem zmh {o : Oper} (a : Act) (h : zlH o = true) : ∃ d v, o.dst = some d ∧ Yields P ops o v a ∧ zoa a o = a.put o.dst v := by
 obtain ⟨dst, op, ty, pos, after, guard⟩ := o
 cases op <;> simp [zlH] at h
 case move x =>
  obtain ⟨rfl, h2⟩ := h; obtain ⟨d, rfl⟩ := Option.isSome_iff_exists.1 h2; refine ⟨d, a.eval x, rfl, .inl ⟨by simp [Region.wanted], fun w => by simp [execOp, go_sem]⟩, rfl⟩
theorem zgT {hs ts : List Nat} {Q : Exit → Act → World → Prop} (hsel : Region.noSelect ops = true) (hQ : ∀ c (a : Act) (d : Nat) v w, Q (.panic c) (a.put (some d) v) w → Q (.panic c) a w) :
  ∀ (ps : List Nat) (listed : Array Bool) (a : Act) (w : World), C w → zcD md ops listed → zjy md ops hs ts ps listed = true →
   wpQuiet P ops C (fun a' => ∀ w', C w' → wpList P ops Q (zdS ops ts) a' w') (zdS ops hs) (zhh ops ps a) →
   wpAny P md ops Q (ps.length + (hs.length + ts.length)) listed a w
 | [], listed, a, w, hw, inv, hB, h => by
  have H := ziE (C := C) (ts := ts) (Lq := fun a' => ∀ w', C w' → wpList P ops Q (zdS ops ts) a' w') hsel hs listed a inv (by simpa [zjy] using hB) h; rw [List.length_nil, Nat.zero_add]; exact zhp (fun listed' a' w' hw' hL => zhL ts listed' a' w' hL.1 (hL.2 w' hw')) _ _ _ _ hw H
 | k :: ps, listed, a, w, hw, inv, hB, h => by
  simp only [zjy, Bool.and_eq_true] at hB; obtain ⟨⟨⟨hr, hf⟩, hm⟩, hB'⟩ := hB; have hr' : k ∈ Region.ready md ops listed := by simpa using hr
  obtain ⟨_, o, h0, _⟩ := mem_ready.1 hr'; simp only [h0] at hm; obtain ⟨d, v, hd, hy, he⟩ := zmh (P := P) (ops := ops) a hm; simp only [zhh, h0, he] at h; rw [List.length_cons, show ps.length + 1 + (hs.length + ts.length) = (ps.length + (hs.length + ts.length)) + 1 by omega]; exact wpAny_take h0 hsel hf hr (fun c a w => by rw [hd]; exact hQ c a d v w) hy (zgT hsel hQ ps _ _ w hw (inv.set hr') hB' h)
theorem zgZ {n : Nat} : zcD md ops (Array.replicate n false) := fun j oj _ hl => by rw [getD_replicate_false] at hl; cases hl
theorem zjg {id : Nat} {Q : Exit → Act → World → Prop} {a : Act} {w : World} {l : List Oper} (ps hs ts : List Nat) (hm : P.follows .mixedOrders = true) (hQ : ∀ c (a : Act) (d : Nat) v w, Q (.panic c) (a.put (some d) v) w → Q (.panic c) a w)
  (hB : zjz .any l.toArray ps hs ts = true)
  (h : wpQuiet P l.toArray (fun w' => ∃ n, w' = w.drewN n) (fun a' => ∀ w', (∃ n, w' = w.drewN n) → wpList P l.toArray Q (zdS l.toArray ts) a' w') (zdS l.toArray hs) (zhh l.toArray ps a)) :
  (Code.region id l.toArray true).wp P Q a w := by
 simp only [zjz, Bool.and_eq_true, decide_eq_true_eq] at hB; obtain ⟨⟨hsel, hlen⟩, hB⟩ := hB; refine wp_region_any hm ?_; rw [← hlen]; refine zgT (C := fun w' => ∃ n, w' = w.drewN n) hsel hQ ps _ a _ ⟨1, rfl⟩ zgZ ?_ h; rw [hlen]; exact hB
theorem zeC (l : List Oper) : ∀ (m s : Nat), zdS l.toArray (List.range' s m) = (l.drop s).take m
 | 0, s => by simp [zdS]
 | m + 1, s => by
  have ih := zeC l m (s + 1); rw [List.range'_succ]; by_cases h : s < l.length
  · rw [List.drop_eq_getElem_cons h, List.take_succ_cons, ← ih]; simp [zdS, List.getElem?_eq_getElem h]
  rw [List.drop_eq_nil_of_le zq8]; rw [List.drop_eq_nil_of_le zq8] at ih; simp only [List.take_nil] at ih ⊢; rw [← ih]; simp [zdS, List.getElem?_eq_none (show l.length ≤ s by omega)]
def zhz (md : Region.Mode) (ops : Array Oper) (n : Nat) : Bool := zjz md ops [] (List.range' 0 n) (List.range' n (ops.size - n))
theorem zdR {id : Nat} {Q : Exit → Act → World → Prop} {a : Act} {w : World} {l : List Oper} (n : Nat) (hm : P.follows .mixedOrders = true) (hB : zhz .any l.toArray n = true)
  (hQ : ∀ c (a : Act) (d : Nat) v w, Q (.panic c) (a.put (some d) v) w → Q (.panic c) a w)
  (h : wpQuiet P l.toArray (fun w' => ∃ n, w' = w.drewN n) (fun a' => ∀ w', (∃ n, w' = w.drewN n) → wpList P l.toArray Q (l.drop n) a' w') (l.take n) a) :
  (Code.region id l.toArray true).wp P Q a w := by
 refine zjg [] _ _ hm hQ hB ?_; have e : l.toArray.size - n = l.length - n := by simp
 rw [zeC, zeC, e, List.take_of_length_le (by simp), List.drop_zero]; exact h
structure Ext (w : World) where
 val : World
 below : Below w.heap.size w val
instance (w : World) : Inhabited (Ext w) := ⟨⟨w, Below.refl _ _⟩⟩
theorem Ext.cell {w : World} {p : Addr} {v : Value} (hc : w.cell? p = some v) (k : Ext w) : k.val.cell? p = some v := (k.below.cell (World.block_lt_of_cell? _ _ hc)).trans hc
theorem zel {w : World} {k : Ext w} {f : FuncId} {args : Array Value} {v : Value} (h : Calls P f args k.val fun e w' => e = .returned v ∧ Below k.val.heap.size k.val w') : Calls P f args k.val fun e w'' => e = .returned v ∧ ∃ k' : Ext w, w'' = k'.val :=
 h.mono fun _ w' ⟨he, hb⟩ => ⟨he, ⟨w', k.below.trans (hb.mono k.below.size)⟩, rfl⟩
theorem ziT (w : World) : Below w.heap.size w { w with drawn := w.drawn + 1 } := ⟨rfl, rfl, rfl, Nat.le_refl _, fun _ _ => rfl⟩
theorem zdj {id : Nat} {Q : Exit → Act → World → Prop} {a : Act} {w : World} {l : List Oper} (hm : P.follows .mixedOrders = true) (hB : Region.lexB .any l.toArray = true)
  (h : wpQuiet P l.toArray (fun w' => ∃ k : Ext w, w' = k.val) (fun a' => ∀ w', (∃ k : Ext w, w' = k.val) → Q .normal a' w') l a) : (Code.region id l.toArray true).wp P Q a w :=
 wp_region_quiet (C := fun w' => ∃ k : Ext w, w' = k.val) hm hB ⟨⟨_, ziT w⟩, rfl⟩ (by simpa using h)
theorem zfj {id : Nat} {Q : Exit → Act → World → Prop} {a : Act} {w : World} {l : List Oper} (n : Nat) (hm : P.follows .mixedOrders = true) (hB : zhz .any l.toArray n = true)
  (hQ : ∀ c (a : Act) (d : Nat) v w, Q (.panic c) (a.put (some d) v) w → Q (.panic c) a w)
  (h : wpQuiet P l.toArray (fun w' => ∃ k : Ext w, w' = k.val) (fun a' => ∀ w', (∃ k : Ext w, w' = k.val) → wpList P l.toArray Q (l.drop n) a' w') (l.take n) a) :
  (Code.region id l.toArray true).wp P Q a w := by
 simp only [zhz, zjz, Bool.and_eq_true, decide_eq_true_eq] at hB; obtain ⟨⟨hsel, hlen⟩, hB⟩ := hB; refine wp_region_any hm ?_; rw [← hlen]; refine zgT (C := fun w' => ∃ k : Ext w, w' = k.val) hsel hQ [] _ a _ ⟨⟨_, ziT w⟩, rfl⟩ zgZ ?_ ?_
 · rw [hlen]; exact hB
 · have e : l.toArray.size - n = l.length - n := by simp
   rw [zeC, zeC, e, List.take_of_length_le (l := List.drop n l) (by simp), List.drop_zero]; exact h
def zjB (md : Region.Mode) (ops : Array Oper) (ts : List Nat) (F : Array Bool → Bool) : List Nat → Array Bool → Bool
 | [], listed => F listed
 | k :: hs, listed => (Region.ready md ops listed).contains k && Region.free md ops listed k && ts.all (fun t => Region.reachB md ops k ops.size t) && zjB md ops ts F hs (listed.setIfInBounds k true)
theorem zhX {ts : List Nat} {F : Array Bool → Bool} {Lq : Act → Prop} (hsel : Region.noSelect ops = true) (hF : ∀ listed, F listed = true → ∀ j ∈ Region.ready md ops listed, j ∈ ts) :
  ∀ (hs : List Nat) (listed : Array Bool) (a : Act), zcD md ops listed → zjB md ops ts F hs listed = true → wpQuiet P ops C Lq (zdS ops hs) a →
  zhb P md ops C ts (fun listed' a' => F listed' = true ∧ Lq a') hs.length listed a
 | [], listed, a, _, hB, h => ⟨by simpa [zjB] using hB, h⟩
 | k :: hs, listed, a, inv, hB, h => by
  simp only [zjB, Bool.and_eq_true, List.all_eq_true] at hB; obtain ⟨⟨⟨hr, hf⟩, hre⟩, hB'⟩ := hB; have hr' : k ∈ Region.ready md ops listed := by simpa using hr
  obtain ⟨_, o, h0, _⟩ := mem_ready.1 hr'; simp only [zdS, List.filterMap_cons, h0] at h; have hst : qOp P ops C k (wpQuiet P ops C Lq (zdS ops hs)) a := by unfold qOp; simp only [h0]; exact h
  obtain ⟨v, hy, hK⟩ := yieldsIn_of_qOp h0 hst; exact zhY h0 (Region.noSelect_spec hsel) hre (fun listed' a' hL => hF listed' hL.1) hs.length listed a inv (Region.free_spec h0 hf) hr' hy (zhX hsel hF hs _ _ (inv.set hr') hB' hK)
def zkS (md : Region.Mode) (ops : Array Oper) (n : Nat) (listed : Array Bool) : Bool :=
 decide (Region.ready md ops listed = [n]) && Region.lexFrom md ops (ops.size - (n + 1)) (n + 1) (listed.setIfInBounds n true)
def zqQ (md : Region.Mode) (ops : Array Oper) (n : Nat) : Bool :=
 Region.noSelect ops && decide (n < ops.size) && zjB md ops [n] (zkS md ops n) (List.range' 0 n) (Array.replicate ops.size false)
theorem zbU {id : Nat} {Q : Exit → Act → World → Prop} {a : Act} {w : World} {l : List Oper} {o : Oper} (n : Nat) (hm : P.follows .mixedOrders = true) (hB : zqQ .any l.toArray n = true) (ho : l[n]? = some o)
  (h : wpQuiet P l.toArray (fun w' => ∃ n, w' = w.drewN n) (fun a' => ∀ w', (∃ n, w' = w.drewN n) → ∀ K : Act → World → Prop,
   (∀ a2 w2, wpQuiet P l.toArray (fun w' => ∃ n, w' = w2.drewN n) (fun a3 => ∀ w3, (∃ n, w3 = w2.drewN n) → Q .normal a3 w3) (l.drop (n + 1)) a2 → K a2 w2) →
   if Region.wanted o (yielded l.toArray a'.tmps) = true then Oper.wp P o a' w' K Q else K (a'.put o.dst undef) w') (l.take n) a) :
  (Code.region id l.toArray true).wp P Q a w := by
 simp only [zqQ, Bool.and_eq_true, decide_eq_true_eq] at hB; obtain ⟨⟨hsel, hn⟩, hB⟩ := hB; have hn' : n < l.length := by simpa using hn
 refine wp_region_any hm ?_; have hl : l.take n = zdS l.toArray (List.range' 0 n) := by rw [zeC, List.drop_zero]
 rw [hl] at h; have H := zhX (C := fun w' => ∃ n, w' = w.drewN n) (ts := [n]) (F := zkS .any l.toArray n) hsel (fun listed hF j hj => by
  simp only [zkS, Bool.and_eq_true, decide_eq_true_eq] at hF; rw [hF.1] at hj; exact hj) (List.range' 0 n) _ a zgZ hB h
 have key := zhp (Q' := Q) (g := 1 + (l.length - (n + 1))) (C := fun w' => ∃ n, w' = w.drewN n) (fun listed a' w' hw' hL => by
  obtain ⟨hF, hq⟩ := hL; simp only [zkS, Bool.and_eq_true, decide_eq_true_eq] at hF; rw [Nat.add_comm 1]; refine ⟨fun h0 => (by rw [hF.1] at h0; cases h0), fun i hi => ?_⟩; rw [hF.1] at hi; obtain rfl : i = n := by simpa using hi
  unfold wpOp; rw [show l.toArray[i]? = some o by simpa using ho]; dsimp only; have h3 := hq w' hw' (wpAny P .any l.toArray Q (l.length - (i + 1)) (listed.setIfInBounds i true)) (fun a2 w2 h2 => ?_)
  · by_cases hwn : Region.wanted o (yielded l.toArray a'.tmps) = true
    · rw [if_pos hwn] at h3 ⊢; exact .inl h3
    rw [if_neg hwn] at h3 ⊢; exact h3
  have e : l.toArray.size - (i + 1) = l.length - (i + 1) := by simp
  have H2 := wpAnyQ_lex (C := fun w' => ∃ n, w' = w2.drewN n) (md := .any) hsel (l.drop (i + 1)) (i + 1) (listed.setIfInBounds i true) a2 (fun j => by simp [List.getElem?_drop]) (by rw [List.length_drop, ← e]; exact hF.2) h2; rw [List.length_drop] at H2; exact wpAny_of_quiet (Q := fun a3 => ∀ w3, (∃ n, w3 = w2.drewN n) → Q .normal a3 w3) (fun _ w3 hw3 h => h w3 hw3) _ _ _ _ ⟨0, rfl⟩ H2) _ _ _ _ ⟨1, rfl⟩ H
 rw [List.length_range', show n + (1 + (l.length - (n + 1))) = l.length by omega] at key; have e : l.toArray.size = l.length := by simp
 rw [e] at key ⊢; exact key
end
end Go.Proofs.Ytemnfnbjapobcaa
end
section
namespace Go.Proofs.Ytemnfnbjapobcaa.Ho
open Go.RowKit Go.Proofs.ZW.PrintWords Go.Proofs.ZW.PrintLast Go.Proofs.ZW.PrintMore
open Go.Proofs.Ytemnfnbjapobcaa.FS Go.Proofs.Ytemnfnbjapobcaa.HS
def sl (g n cap : Nat) : Value := .slice (some ⟨g, 0, none⟩) n cap
def ziz (s : St) (v : Value) (m1 m2 m3 : Nat) : Array Value := #[.int .i64 s.level, .int .i64 s.trend, v, .int .i64 (s.k : Int), zdB m1, zdB m2, zdB m3]
def zgv (W : World) (lo g cap : Nat) (l : List Int) : Prop := W.ownsRow lo 3 1 (.slice (some ⟨g, 0, none⟩) l.length cap) l.length (zeI .i64 l)
structure znz (W : World) (lo hi b g cap m1 m2 m3 : Nat) (m : Mo) (s : St) : Prop where
 blk : W.heap[b]? = some (.cells (ziz s (sl g s.parts.length cap) m1 m2 m3) 99 (0, 0))
 row : zgv W lo g cap s.parts
 at1 : zgR W m1 m.a
 at2 : zgR W m2 m.b
 at3 : zgR W m3 m.c
 inb : lo ≤ b ∧ b < hi
 ing : lo ≤ g ∧ g < hi
 in1 : lo ≤ m1 ∧ m1 + 1 < hi
 in2 : lo ≤ m2 ∧ m2 + 1 < hi
 in3 : lo ≤ m3 ∧ m3 + 1 < hi
 sep : m1 + 1 < g ∧ m2 + 1 < g ∧ m3 + 1 < g
 top : hi ≤ W.heap.size
def zdJ (W : World) (lo hi b : Nat) (m : Mo) (s : St) : Prop := ∃ g cap m1 m2 m3, znz W lo hi b g cap m1 m2 m3 m s
def Ran (lo hi : Nat) : Nat → Prop := fun k => lo ≤ k ∧ k < hi
theorem znz.kept {W W' : World} {lo hi b g cap m1 m2 m3 : Nat} {m : Mo} {s : St} {S : Nat → Prop} (h : znz W lo hi b g cap m1 m2 m3 m s) (hk : zbM W W' S) (hS : ∀ k, lo ≤ k → k < hi → ¬ S k) : znz W' lo hi b g cap m1 m2 m3 m s where
 blk := (hk.2 _ (by have := h.top; have := h.inb; omega) (hS _ h.inb.1 h.inb.2)).trans h.blk
 row := zjc h.row (fun k hk' => by
  have e : g = k := by simpa [Value.ownBlock] using hk'
  subst e; exact hk.2 _ (by have := h.top; have := h.ing; omega) (hS _ h.ing.1 h.ing.2))
 at1 := ⟨(hk.2 _ (by have := h.top; have := h.in1; omega) (hS _ h.in1.1 (by have := h.in1; omega))).trans h.at1.1, (hk.2 _ (by have := h.top; have := h.in1; omega) (hS _ (by have := h.in1; omega) (by have := h.in1; omega))).trans h.at1.2⟩
 at2 := ⟨(hk.2 _ (by have := h.top; have := h.in2; omega) (hS _ h.in2.1 (by have := h.in2; omega))).trans h.at2.1, (hk.2 _ (by have := h.top; have := h.in2; omega) (hS _ (by have := h.in2; omega) (by have := h.in2; omega))).trans h.at2.2⟩
 at3 := ⟨(hk.2 _ (by have := h.top; have := h.in3; omega) (hS _ h.in3.1 (by have := h.in3; omega))).trans h.at3.1, (hk.2 _ (by have := h.top; have := h.in3; omega) (hS _ (by have := h.in3; omega) (by have := h.in3; omega))).trans h.at3.2⟩
 inb := h.inb
 ing := h.ing
 in1 := h.in1
 in2 := h.in2
 in3 := h.in3
 sep := h.sep
 top := Nat.le_trans h.top hk.1
theorem zdJ.kept {W W' : World} {lo hi b : Nat} {m : Mo} {s : St} {S : Nat → Prop} (h : zdJ W lo hi b m s) (hk : zbM W W' S) (hS : ∀ k, lo ≤ k → k < hi → ¬ S k) : zdJ W' lo hi b m s := by
 obtain ⟨g, cap, m1, m2, m3, h⟩ := h; exact ⟨g, cap, m1, m2, m3, h.kept hk hS⟩
def Mo.wIn (m : Mo) : Prop := FS.In m.a ∧ FS.In m.b ∧ FS.In m.c
theorem zjj (lo hi b : Nat) (m : Mo) (s : St) (x : Int) (w : World) (h : zdJ w lo hi b m s) (hs : s.In) (hx : FS.In x) (hm : Mo.wIn m) (hk : s.k < 1000000000000) (hn : 0 < s.parts.length) (hl : s.parts.length ≤ 1000000000000) :
  Calls Try.prog 30 #[.pointer (some ⟨b, 0, none⟩), .int .i64 x] w fun e w' => (∃ v, e = .returned v) ∧ zdJ w' lo hi b m (zcq m s x) ∧ Below lo w w' ∧ zbM w w' (Ran lo hi) := by
 obtain ⟨g, cap, m1, m2, m3, h⟩ := h; obtain ⟨level, trend, parts, k⟩ := s; obtain ⟨hw1, hw2, hw3⟩ := hm; obtain ⟨hs1, hs2, hs3⟩ := hs; dsimp only at hk hn hl hs1 hs2 hs3; obtain ⟨j, hj⟩ : ∃ j, k % parts.length = j := ⟨_, rfl⟩
 have hjl : j < parts.length := hj ▸ Nat.mod_lt _ hn; have hjm : Int.tmod (k : Int) (parts.length : Int) = (j : Int) := by rw [← hj]; rfl
 have hb := h.blk; dsimp only [ziz, sl, zdB] at hb; have c0 := zab hb 0; have c1 := zab hb 1; have c2 := zab hb 2; have c3 := zab hb 3; have c4 := zab hb 4; have c5 := zab hb 5; have c6 := zab hb 6; simp only [List.getElem?_toArray, List.getElem?_cons_zero, List.getElem?_cons_succ] at c0 c1 c2 c3 c4 c5 c6; have z : ∀ i, w.frozen? ⟨b, i, none⟩ = false := fun i => zac hb i
 have hbg : b ≠ g := fun e => by
  have := zjw h.row hb zaR; simp [Value.ownBlock] at this
  omega
 have p0 := zeL h.row (j : Int) zq8 zgs; dsimp only at p0; rw [Int.toNat_natCast] at p0; obtain ⟨p, hp⟩ : ∃ p, rd parts (j : Int) = p := ⟨_, rfl⟩
 rw [hp] at p0; obtain ⟨p1, p2⟩ := p0; have hpi : FS.In p := hp ▸ zcb hs3 j; have HP := zaa.mk hp; have HB := zaa.mk hb; have HH := zaa.mk h; have HJ := zaa.mk hj; clear hp hb h hj; have k1 := zab HH.out.at1.1 0; have k2 := zab HH.out.at1.2 0; have k3 := zab HH.out.at2.1 0; have k4 := zab HH.out.at2.2 0; have k5 := zab HH.out.at3.1 0; have k6 := zab HH.out.at3.2 0; simp only [List.getElem?_toArray, List.getElem?_cons_zero] at k1 k2 k3 k4 k5 k6; have a1 := zet x p; have a2 := zee level trend; have a3 := zfg m.a (zbk x p) (addS level trend); have a4 := zet (zch m.a (zbk x p) (addS level trend)) level; have a5 := zet x (zch m.a (zbk x p) (addS level trend)); have hn0 : ¬ parts.length = 0 := by omega
 have hjl2 : (j : Int) < (parts.length : Int) := by omega
 go_enter Try.func30, Try.ntmps30
 go_wp2; go_quiet (fail)
 revert nq
 intro n1; go_wp2; go_quiet ((first | (go_at_call 71; first | exact q0 (zfX zba zba _) | exact q1 (zfX zba zba _)) | (go_at_call 67; first | exact q0 (zhH zba zba _) | exact q1 (zhH zba zba _)) | (go_at_call 135; exact q1 (zim _ _ m.a zba zba zba m1 (m1 + 1) _ k1 k2))))
 revert nq
 intro n2; go_wp2; refine zdR 18 zq6 zq6 (fun _ _ _ _ _ h => h) ?_; simp only [List.take_succ_cons, List.take_zero, List.drop_succ_cons, List.drop_zero]; repeat (go_big_quiet_step ((first | (go_at_call 71; first | exact q0 (zfX zba zba _) | exact q1 (zfX zba zba _)) | (go_at_call 135; exact q1 (zim _ _ m.b zba zba zba m2 (m2 + 1) _ k3 k4)))))
 refine wpQuiet_nil ?_; intro _ hw'; obtain ⟨nq, hw''⟩ := hw'; subst hw''
 revert nq
 intro n3; go_wp2; obtain ⟨W4, hW4⟩ : ∃ W4, (w.drewN (n1 + n2 + n3)).setCell ⟨b, 1, none⟩ (.int .i64 (zch m.b (zbk (zch m.a (zbk x p) (addS level trend)) level) trend)) = W4 := ⟨_, rfl⟩
 rw [hW4]; have hb4 : W4.heap[b]? = some (.cells #[.int .i64 level, .int .i64 (zch m.b (zbk (zch m.a (zbk x p) (addS level trend)) level) trend), .slice (some ⟨g, 0, none⟩) parts.length cap, .int .i64 (k : Int), zdB m1, zdB m2, zdB m3] 99 (0, 0)) := hW4 ▸ zaA (zal HB.out _) 1 _ rfl; have far : ∀ (c : Nat) (v : Int), w.heap[c]? = some (.cells #[.int .i64 v] 3 (0, 0)) → W4.heap[c]? = some (.cells #[.int .i64 v] 3 (0, 0)) := fun c v hc => by
  rw [← hW4]; exact zaP (zal hc _) (zos hc HB.out zaR) _
 have row4 : zgv W4 lo g cap parts := by
  rw [← hW4]; exact zdZ (zes HH.out.row _) zhV _
 have KB : Below lo w W4 := hW4 ▸ (zaj (Below.refl _ _) _).setCell HH.out.inb.1 _; have KK : zbM w W4 (Ran lo hi) := hW4 ▸ ((zbM.refl w _).drewN _).setCell (.inl HH.out.inb) _; have l1 := far _ _ HH.out.at1.1; have l2 := far _ _ HH.out.at1.2; have l3 := far _ _ HH.out.at2.1; have l4 := far _ _ HH.out.at2.2; have l5 := far _ _ HH.out.at3.1; have l6 := far _ _ HH.out.at3.2; have G := And.intro HH.out (And.intro hb4 (And.intro row4 (And.intro KB (And.intro KK (And.intro l1 (And.intro l2 (And.intro l3 (And.intro l4 (And.intro l5 l6))))))))); have GG := zaa.mk G; have p0 := zeL row4 (j : Int) zq8 zgs; rw [Int.toNat_natCast, HP.out] at p0; clear c0 c1 c2 c3 c4 c5 c6 z p1 p2 k1 k2 k3 k4 k5 k6 G far row4 KB KK; have c0 := zab hb4 0; have c2 := zab hb4 2; have c3 := zab hb4 3; have c6 := zab hb4 6; dsimp only [zdB] at c6; have k5 := zab l5 0; have k6 := zab l6 0; simp only [List.getElem?_toArray, List.getElem?_cons_zero, List.getElem?_cons_succ] at c0 c2 c3 c6 k5 k6; have z : ∀ i, W4.frozen? ⟨b, i, none⟩ = false := fun i => zac hb4 i
 obtain ⟨p1, p2⟩ := p0; have HW := zaa.mk hW4; clear hW4 hb4 l1 l2 l3 l4 l5 l6; have a6 := zfg m.c (zbk x (zch m.a (zbk x p) (addS level trend))) p; refine zdR 21 zq6 zq6 (fun _ _ _ _ _ h => h) ?_; simp only [List.take_succ_cons, List.take_zero, List.drop_succ_cons, List.drop_zero]; repeat (go_big_quiet_step ((first | (go_at_call 71; first | exact q0 (zfX zba zba _) | exact q1 (zfX zba zba _)) | (go_at_call 135; exact q0 (zim _ _ m.c zba zba zba m3 (m3 + 1) _ k5 k6)))))
 refine wpQuiet_nil ?_; intro _ hw'; obtain ⟨nq, hw''⟩ := hw'; subst hw''
 revert nq
 intro n4; go_wp2; go_end0
 obtain ⟨h, hb4, row4, KB, KK, l1, l2, l3, l4, l5, l6⟩ := GG.out; have es : zcq m ⟨level, trend, parts, k⟩ x = ⟨zch m.a (zbk x p) (addS level trend), zch m.b (zbk (zch m.a (zbk x p) (addS level trend)) level) trend, parts.set j (zch m.c (zbk x (zch m.a (zbk x p) (addS level trend))) p), k + 1⟩ := by
  have e : parts.getD j 0 = p := HP.out; simp only [zcq, HJ.out, e]
 rw [es]; obtain ⟨hin1, hin2⟩ := h.inb; obtain ⟨hin3, hin4⟩ := h.ing; have htop := h.top; have kk : zbM w (((((W4.drewN n4).setCell ⟨g, j, none⟩ (.int .i64 (zch m.c (zbk x (zch m.a (zbk x p) (addS level trend))) p))).setCell ⟨b, 0, none⟩ (.int .i64 (zch m.a (zbk x p) (addS level trend)))).setCell ⟨b, 3, none⟩ (.int .i64 ((k : Int) + 1)))) (Ran lo hi) :=
  (((KK.drewN n4).setCell (p := ⟨g, j, none⟩) (.inl h.ing) _).setCell (p := ⟨b, 0, none⟩) (.inl h.inb) _).setCell (p := ⟨b, 3, none⟩) (.inl h.inb) _
 refine ⟨⟨_, rfl⟩, ⟨g, cap, m1, m2, m3, ?_⟩, (((zaj KB n4).setCell hin3 _).setCell hin1 _).setCell hin1 _, kk⟩; have fr : ∀ (c : Nat) (v : Int), W4.heap[c]? = some (.cells #[.int .i64 v] 3 (0, 0)) → c ≠ g → ((((W4.drewN n4).setCell ⟨g, j, none⟩ (.int .i64 (zch m.c (zbk x (zch m.a (zbk x p) (addS level trend))) p))).setCell ⟨b, 0, none⟩ (.int .i64 (zch m.a (zbk x p) (addS level trend)))).setCell ⟨b, 3, none⟩ (.int .i64 ((k : Int) + 1))).heap[c]? = some (.cells #[.int .i64 v] 3 (0, 0)) := fun c v hc hg => by
  have hcb := zos hc hb4 zaR; exact zaP (zaP (zaP (zal hc _) hg _) hcb _) hcb _
 obtain ⟨g1, g2, g3⟩ := h.sep; have rw1 := zmw (zes row4 n4) (j : Int) (zch m.c (zbk x (zch m.a (zbk x p) (addS level trend))) p); rw [Int.toNat_natCast] at rw1; refine ⟨?_, ?_, ⟨fr _ _ l1 zq8, fr _ _ l2 zq8⟩, ⟨fr _ _ l3 zq8, fr _ _ l4 zq8⟩, ⟨fr _ _ l5 zq8, fr _ _ l6 zq8⟩, h.inb, h.ing, h.in1, h.in2, h.in3, h.sep, Nat.le_trans htop kk.1⟩
 · refine zaA (zaA (zaP (zal hb4 _) hbg _) 0 _ rfl) 3 _ ?_; simp [ziz, sl]
 · show zgv _ lo g cap (parts.set j _)
   unfold zgv; have rw2 := zdZ (p := ⟨b, 3, none⟩) (zdZ (p := ⟨b, 0, none⟩) rw1 zhV (.int .i64 (zch m.a (zbk x p) (addS level trend)))) zhV (.int .i64 ((k : Int) + 1)); rw [List.length_set] at rw2 ⊢; exact rw2
theorem zeE {x : Int} (h0 : -9223372036854775808 ≤ x) (h1 : x ≤ 9223372036854775807) : IntKind.i64.wrap x = x := by rw [IntKind.wrap_i64]; omega
theorem zis (lo hi b : Nat) (m : Mo) (s : St) (ahead : Int) (w : World) (h : zdJ w lo hi b m s) (hs : s.In) (ha : FS.In ahead) (hk : s.k < 1000000000000) (hn : 0 < s.parts.length) (hl : s.parts.length ≤ 1000000000000) :
  Calls Try.prog 28 #[.pointer (some ⟨b, 0, none⟩), .int .i64 ahead] w fun e w' => e = .returned (.tuple #[.int .i64 (zcl s ahead).1, .int .i64 (zcl s ahead).2]) ∧ Drawn0 w w' := by
 obtain ⟨g, cap, m1, m2, m3, h⟩ := h; obtain ⟨level, trend, parts, k⟩ := s; obtain ⟨hs1, hs2, hs3⟩ := hs; dsimp only at hk hn hl hs1 hs2 hs3; obtain ⟨r, hr⟩ : ∃ r, zcl ⟨level, trend, parts, k⟩ ahead = r := ⟨_, rfl⟩
 rw [hr]; obtain ⟨r1, r2⟩ := r; have HR := zaa.mk hr; clear hr; have hb := h.blk; dsimp only [ziz, sl, zdB] at hb; have c0 := zab hb 0; have c1 := zab hb 1; have c2 := zab hb 2; have c3 := zab hb 3; simp only [List.getElem?_toArray, List.getElem?_cons_zero, List.getElem?_cons_succ] at c0 c1 c2 c3; have hn1 : ¬ parts.length = 0 := by omega
 have hn0 : ((parts.length : Int) == 0) = false := by rw [beq_eq_false_iff_ne]; omega
 by_cases h1 : ahead < 1
 · obtain ⟨rfl, rfl⟩ : r1 = 0 ∧ r2 = 1 := by have := HR.out; simp only [zcl] at this; rw [if_pos (.inl h1)] at this; simpa [eq_comm] using this
   have g1 := zdt h1; clear h1 HR h hb; go_enter Try.func28, Try.ntmps28
   go_wp2; go_ret2
   exact ⟨rfl, Drawn0.refl _⟩
 have g1 := zdf h1; by_cases h2 : 10000 < ahead
 · obtain ⟨rfl, rfl⟩ : r1 = 0 ∧ r2 = 1 := by have := HR.out; simp only [zcl] at this; rw [if_pos (.inr h2)] at this; simpa [eq_comm] using this
   have g2 := zdt h2; clear h1 h2 HR h hb; go_enter Try.func28, Try.ntmps28
   go_wp2; go_ret2
   exact ⟨rfl, Drawn0.refl _⟩
 have g2 := zdf h2; obtain ⟨A, rfl⟩ := Int.eq_ofNat_of_zero_le (show 0 ≤ ahead by omega); obtain ⟨j, hj⟩ : ∃ j, (k + A - 1) % parts.length = j := ⟨_, rfl⟩
 have hjl : j < parts.length := hj ▸ Nat.mod_lt _ hn; obtain ⟨p, hp⟩ : ∃ p, rd parts (j : Int) = p := ⟨_, rfl⟩
 obtain ⟨rfl, rfl⟩ : r1 = addS (addS level (zgY (ofS (A : Int)) trend)) p ∧ r2 = 0 := by
  have := HR.out; simp only [zcl] at this; rw [if_neg zq8] at this; obtain ⟨e1, e2⟩ := Prod.mk.inj this; refine ⟨?_, e2.symm⟩; rw [← e1, ← hp, Int.toNat_natCast, hj]; rfl
 have p0 := zeL h.row (j : Int) zq8 zgs; dsimp only at p0; rw [Int.toNat_natCast, hp] at p0; obtain ⟨p1, p2⟩ := p0; have hpi : FS.In p := hp ▸ zcb hs3 j; obtain ⟨u, hq⟩ : ∃ u : Int, IntKind.i64.wrap ((k : Int) + (A : Int)) = u := ⟨_, rfl⟩
 have hq' : u = (k : Int) + A := by rw [← hq]; exact zeE zq8 zq8
 obtain ⟨u1, hq1⟩ : ∃ u1 : Int, IntKind.i64.wrap (u - 1) = u1 := ⟨_, rfl⟩
 have hq1' : u1 = ((k + A - 1 : Nat) : Int) := by rw [← hq1, hq', zeE zq8 zq8]; omega
 have hjm : Int.tmod u1 (parts.length : Int) = (j : Int) := by rw [hq1', ← hj]; rfl
 have a1 := zin (A : Int); have a2 := zgo (ofS (A : Int)) trend; have a3 := zee level (zgY (ofS (A : Int)) trend); have hjl2 : (j : Int) < (parts.length : Int) := by omega
 clear hq' hq1' HR h hb hp hj h1 h2; go_enter Try.func28, Try.ntmps28
 go_wp2; go_quiet ((first | (go_at_call 69; exact q0 (fOf zba _)) | (go_at_call 68; exact q0 (zpr zba zba _)) | (go_at_call 67; exact q0 (zhH zba zba _))))
 go_wp2; go_quiet ((first | (go_at_call 67; exact q1 (zhH zba zba _))))
 go_wp2; go_ret2
 exact ⟨rfl, zq3⟩
theorem zgL : (Try.prog.info? 3).map (fun i => (i.zero, i.size, i.bytes)) = some (some (.int .i64 0), 1, 8) := by kernel_rfl
theorem zgg {w w' : World} {p : Addr} {v : Value} (hb : Below w.drew.heap.size w.drew w') (hc : w.cell? p = some v) : w'.cell? p = some v := (hb.cell (World.block_lt_of_cell? _ _ hc)).trans hc
theorem zhv {W : World} {lo : Nat} {v : Value} {l : List Int} (h : W.ownsRow lo 3 1 v l.length (zeI .i64 l)) (hn : 0 < l.length) : ∃ g cap, v = .slice (some ⟨g, 0, none⟩) l.length cap ∧ lo ≤ g ∧ g < W.heap.size := by
 rcases h.2 with ⟨_, h2⟩ | ⟨g, cap, cur, rfl, h2, h3, _⟩
 · omega
 · exact ⟨g, cap, rfl, h2, zbT h3⟩
theorem zoc (A : Option Addr) (n c : Nat) (l : List Int) (w : World) (e : l.length = n) (hr : Kd.C (Kd.int .i64) w A n l) (hl : n ≤ 1000000000000) (hin : AllIn l) :
  Calls Try.prog 101 #[.slice A n c] w fun e w' => e = .returned (.int .i64 (zdT l)) ∧ Drawn0 w w' := by
 subst e; exact znp A c l w hr hl hin
theorem zgk {l : List Int} (h : AllIn l) (n : Nat) : AllIn (l.take n) := fun x hx => h x (List.mem_of_mem_take hx)
theorem zhK {l : List Int} (h : AllIn l) (n : Nat) : AllIn (l.drop n) := fun x hx => h x (List.mem_of_mem_drop hx)
theorem zir {w w' : World} {n : Nat} {p : Addr} {v : Value} (h : zpC w w' n) (hc : w.cell? p = some v) : w'.cell? p = some v := (h.below.cell (World.block_lt_of_cell? _ _ hc)).trans hc
theorem znC (wt : Int) (hwt : FS.In wt) (w : World) :
 Calls Try.prog 103 #[.int .i64 wt] w fun e w' => e = .returned (.func (.func 135) #[] #[.pointer (some ⟨w.heap.size, 0, none⟩), .pointer (some ⟨w.heap.size + 1, 0, none⟩)]) ∧ zgR w' w.heap.size wt ∧ zpC w w' 2 := zkG wt hwt w
theorem ziw {n : Nat} {w W : World} (h : Below n w W) (hn : n ≤ W.heap.size) (o : Obj) : Below n w (W.alloc o) := h.alloc hn o
theorem zdW {w : World} {p : Addr} {v : Value} (hc : w.cell? p = some v) (o : Obj) : (w.alloc o).cell? p = some v := by
 rw [World.cell?_alloc_lt _ _ _ (World.block_lt_of_cell? _ _ hc)]; exact hc
theorem zfY {w : World} {p : Addr} {v : Value} {o : Obj} (hc : (w.alloc o).cell? p = some v) (hp : p.block < w.heap.size) : w.cell? p = some v := by
 rwa [World.cell?_alloc_lt _ _ _ hp] at hc
theorem zfe (l : List Int) (av : Int) {k N : Nat} (h : k ≤ N) (hN : N ≤ l.length) : (((l.take N).take k).map (fun x => zbk x av)).length = k := by simp; omega
theorem zjv (l : List Int) (av : Int) {k N : Nat} (h : k < N) (hN : N ≤ l.length) : ((l.take N).take (k + 1)).map (fun x => zbk x av) = ((l.take N).take k).map (fun x => zbk x av) ++ [zbk (rd l (k : Int)) av] := by
 have e : rd l (k : Int) = l[k]'zq8 := by
  show l.getD k 0 = _
  simp [List.getD_eq_getElem?_getD, List.getElem?_eq_getElem (show k < l.length by omega)]
 rw [List.take_succ_eq_append_getElem zeG, List.map_append, e]; simp
structure Lay (V W : World) (lo b : Nat) (cs : Value → Array Value) (v : Value) (l : List Int) : Prop where
 blk : W.heap[b]? = some (.cells (cs v) 99 (0, 0))
 row : W.ownsRow (b + 1) 3 1 v l.length (zeI .i64 l)
 kept : zbM V W (· = b)
 below : Below lo V W
def moV (m : Mo) : Value := .agg #[.int .i64 m.n, .int .i64 m.a, .int .i64 m.b, .int .i64 m.c]
theorem zmp (A : Option Addr) (c : Nat) (l : List Int) (m : Mo) (w : World) (hr : Kd.C (Kd.int .i64) w A l.length l) (hc : l.length ≤ c) (hin : AllIn l) (hm : Mo.wIn m) (hn : 1 ≤ m.n) (hl : 2 * m.n ≤ (l.length : Int)) (hll : l.length ≤ 1000000000) :
  Calls Try.prog 64 #[.slice A l.length c, moV m] w fun e w' => ∃ b, e = .returned (.pointer (some ⟨b, 0, none⟩)) ∧ zdJ w' w.heap.size w'.heap.size b m (zdC l m.n.toNat) ∧ Below w.heap.size w w' := by
 obtain ⟨n, ma, mb, mc⟩ := m; dsimp only at hn hl; obtain ⟨N, rfl⟩ := Int.eq_ofNat_of_zero_le (show 0 ≤ n by omega); rw [Int.toNat_natCast]; dsimp only [moV]; obtain ⟨ad, rfl, _⟩ := Kd.zbE hr 0 zq8 zq8; obtain ⟨M, hM⟩ : ∃ M, 2 * N = M := ⟨_, rfl⟩
 have e2 : IntKind.i64.wrap (2 * (N : Int)) = (M : Int) := by rw [zeE zq8 zq8]; omega
 have b1 : N ≤ M := by omega
 have b2 : M ≤ c := by omega
 have b3 : N ≤ c := by omega
 have b4 : ¬ M = N := by omega
 have b5 : M - N = N := by omega
 have b6 : ¬ N = 0 := by omega
 have m1 : Kd.C (Kd.int .i64) w (some ad) N (l.take N) := by
  have h := Kd.zhn hr (m := N) zq8; rwa [List.length_take, Nat.min_eq_left zq8] at h
 have m2 : Kd.C (Kd.int .i64) w (some (ad.add N)) N ((l.drop N).take N) := by
  have h := Kd.C_mid hr (lo := N) (hi := M) (c := c) b1 zq8 hc; rw [List.drop_take, b5, if_neg zq8] at h; have e : ((l.drop N).take N).length = N := by simp; omega
  rw [e] at h; simpa [show (Kd.int .i64).sz = 1 from rfl] using h
 have i1 : FS.In (zdT (l.take N)) := zgp _ _; have i2 : FS.In (zdT ((l.drop N).take N)) := zgp _ _; have i3 := zet (zdT ((l.drop N).take N)) (zdT (l.take N)); have i4 : FS.In (N : Int) := ⟨zq8, zq8⟩
 have i5 := zin (N : Int); obtain ⟨i6, i7, i8⟩ := hm; dsimp only at i6 i7 i8; have t1 : (l.take N).length = N := by simp; omega
 have t2 : ((l.drop N).take N).length = N := by simp; omega
 have HH := zaa.mk (And.intro hr (And.intro hM (And.intro hin (And.intro m1 (And.intro m2 (And.intro t1 t2)))))); clear hr hM hin m1 m2 t1 t2; go_enter Try.func64, Try.ntmps64
 go_wp2; go_quiet ((go_at_call 101; first | exact q0 (zoc _ _ _ (l.take N) _ HH.out.2.2.2.2.2.1 (Kd.zcX (Kd.zcF HH.out.2.2.2.1 _) _) zq8 (zgk HH.out.2.2.1 _)) | exact q0 (zoc _ _ _ ((l.drop N).take N) _ HH.out.2.2.2.2.2.2 (Kd.zcX (Kd.zcF HH.out.2.2.2.2.1 _) _) zq8 (zgk (zhK HH.out.2.2.1 _) _))))
 revert nq
 intro n1; go_wp2; obtain ⟨W, hW⟩ : ∃ W, (w.alloc (.cells #[.int .i64 (N : Int), .int .i64 ma, .int .i64 mb, .int .i64 mc] 29)).drewN n1 = W := ⟨_, rfl⟩
 rw [hW]; have hb : W.heap[w.heap.size]? = some (.cells #[.int .i64 (N : Int), .int .i64 ma, .int .i64 mb, .int .i64 mc] 29 (0, 0)) := hW ▸ zal (zbL w _) n1; have hs : W.heap.size = w.heap.size + 1 := by rw [← hW]; simp
 have hB : Below w.heap.size w W := hW ▸ zaj (zaq (Below.refl _ _) _) n1; have d1 := zab hb 1; have d2 := zab hb 2; have d3 := zab hb 3; simp only [List.getElem?_toArray, List.getElem?_cons_zero, List.getElem?_cons_succ] at d1 d2 d3; have HW := zaa.mk (And.intro hW (And.intro hb (And.intro hs hB))); clear hW hb hs hB; go_region_held3 (fun w' => w'.cell? ⟨w.heap.size, 1, none⟩ = some (.int .i64 ma) ∧ w'.cell? ⟨w.heap.size, 2, none⟩ = some (.int .i64 mb) ∧ w'.cell? ⟨w.heap.size, 3, none⟩ = some (.int .i64 mc)) (first | go_keep | (go_split_ands; exact ⟨zir hmade zba, zir hmade zba, zir hmade zba⟩)) (first | (go_at_call 71; (with_reducible refine (zfX zba zba _).mono ?_); rintro e w' ⟨rfl, ⟨nd, rfl⟩⟩) | (go_at_call 69; (with_reducible refine (fOf zba _).mono ?_); rintro e w' ⟨rfl, ⟨nd, rfl⟩⟩) | (go_at_call 102; (with_reducible refine (zqS zba zba _).mono ?_); rintro e w' ⟨rfl, ⟨nd, rfl⟩⟩) | (go_at_call 103; (with_reducible refine (znC _ zba _).mono ?_); rintro e w' ⟨rfl, hmix, hmade⟩))
 rename_i w1 hx1 hd1 w2 hx2 hd2 hheld
 clear hheld; obtain ⟨hW, hb, hs, hB⟩ := HW.out; have z1 : w1.heap.size = w.heap.size + 3 := by have := hd1.size; simp at this; omega
 have z2 : w2.heap.size = w.heap.size + 5 := by have := hd2.size; omega
 have z3 : w'.heap.size = w.heap.size + 7 := by have := hmade.size; omega
 obtain ⟨tr, htr⟩ : ∃ tr, zeZ (zbk (zdT ((l.drop N).take N)) (zdT (l.take N))) (ofS (N : Int)) = tr := ⟨_, rfl⟩
 rw [htr]; obtain ⟨av, hav⟩ : ∃ av, zdT (l.take N) = av := ⟨_, rfl⟩
 rw [hav] at i1 ⊢; obtain ⟨V, hV⟩ : ∃ V, w'.alloc (.cells #[.int .i64 av, .int .i64 tr, .slice none 0 0, .int .i64 0, zdB W.heap.size, zdB w1.heap.size, zdB w2.heap.size] 99) = V := ⟨_, rfl⟩
 dsimp only [zdB] at hV; rw [hV]; obtain ⟨B, hBz⟩ : ∃ B, w'.heap.size = B := ⟨_, rfl⟩
 obtain ⟨M1, hM1⟩ : ∃ M1, W.heap.size = M1 := ⟨_, rfl⟩
 obtain ⟨M2, hM2⟩ : ∃ M2, w1.heap.size = M2 := ⟨_, rfl⟩
 obtain ⟨M3, hM3⟩ : ∃ M3, w2.heap.size = M3 := ⟨_, rfl⟩
 rw [hBz, hM1, hM2, hM3]; rw [hM1, hM2, hM3] at hV; have y1 : zgR V M1 ma := by
  rw [← hV, ← hM1]; have h1 : zjJ w1 W.heap.size ma ∧ zjJ w1 (W.heap.size + 1) (zbk 4294967296 ma) := hx1; exact ⟨zai (zax (zax h1.1 hd2.below) hmade.below) _, zai (zax (zax h1.2 hd2.below) hmade.below) _⟩
 have y2 : zgR V M2 mb := by
  rw [← hV, ← hM2]; exact ⟨zai (zax hx2.1 hmade.below) _, zai (zax hx2.2 hmade.below) _⟩
 have y3 : zgR V M3 mc := by
  rw [← hV, ← hM3]; exact ⟨zai hmix.1 _, zai hmix.2 _⟩
 have BV : Below w.heap.size w V := by
  rw [← hV]; refine ziw (((hB.trans ((zaj (Below.refl _ _) _).trans (hd1.below.mono ?_))).trans (hd2.below.mono ?_)).trans (hmade.below.mono ?_)) ?_ _ <;> first | omega | (simp; omega)
 have hbV : V.heap[B]? = some (.cells #[.int .i64 av, .int .i64 tr, .slice none 0 0, .int .i64 0, zdB M1, zdB M2, zdB M3] 99 (0, 0)) := by
  rw [← hV, ← hBz]; exact zbL w' _
 have hVz : V.heap.size = B + 1 := by rw [← hV, ← hBz]; simp
 have L0 : Lay V V w.heap.size B (fun v => #[.int .i64 av, .int .i64 tr, v, .int .i64 0, zdB M1, zdB M2, zdB M3]) (.slice none 0 0) [] :=
  ⟨hbV, zkh _ _ _ _, zbM.refl _ _, Below.refl _ _⟩
 have lB : w.heap.size + 7 = B := by omega
 have lM : M1 = w.heap.size + 1 ∧ M2 = w.heap.size + 3 ∧ M3 = w.heap.size + 5 := by omega
 have G := zaa.mk (And.intro y1 (And.intro y2 (And.intro y3 (And.intro BV (And.intro hVz (And.intro lB (And.intro lM (And.intro htr hav)))))))); have GL := zaa.mk L0; clear hbV hVz BV y1 y2 y3 hV L0 hM1 hM2 hM3 hBz z1 z2 z3 hW hb hs hB hx1 hd1 hx2 hd2 hmix hmade d1 d2 d3 HW lB lM htr hav; go_wp2; go_loopg [49] N (fun kq v49 W' => ∃ (k : Nat) (v : Value), v49 = .int .i64 (k : Int) ∧ zaa (kq + k = N) ∧ zaa (Lay V W' w.heap.size B (fun v => #[.int .i64 av, .int .i64 tr, v, .int .i64 0, zdB M1, zdB M2, zdB M3]) v (((l.take N).take k).map (fun x => zbk x av))))
 case atStart => exact ⟨0, _, rfl, ⟨rfl⟩, by simpa using GL⟩
 case round =>
  obtain ⟨k, v, rfl, HK, HL⟩ := hrel; by_cases ck : k < N; rotate_left
  · have c1 : decide ((k : Int) < (N : Int)) = false := zdf zq8; obtain rfl : k = N := by have := HK.out; omega
    go_wp2; go_ret; obtain ⟨y1, y2, y3, BV, hVz, lB, lM, htr, hav⟩ := G.out; have hL := HL.out; have hlk := zfe l av (Nat.le_refl k) (show k ≤ l.length by omega); obtain ⟨g, cap, rfl, hg1, hg2⟩ := zhv hL.row zq8; have hsz := hL.kept.1; refine ⟨B, rfl, ⟨g, cap, M1, M2, M3, ?_⟩, BV.trans hL.below⟩; have ebeg : zdC l k = ⟨av, tr, (((l.take k).take k).map (fun x => zbk x av)), 0⟩ := by
     rw [← htr, ← hav, List.take_take, Nat.min_self]; rfl
    rw [ebeg]; exact ⟨hL.blk, zhA hL.row zq8, ⟨(hL.kept.2 _ zq8 zq8).trans y1.1, (hL.kept.2 _ zq8 zq8).trans y1.2⟩, ⟨(hL.kept.2 _ zq8 zq8).trans y2.1, (hL.kept.2 _ zq8 zq8).trans y2.2⟩, ⟨(hL.kept.2 _ zq8 zq8).trans y3.1, (hL.kept.2 _ zq8 zq8).trans y3.2⟩, zq8, zq8, zq8, zq8, zq8, zq8, Nat.le_refl _⟩
  have c1 : decide ((k : Int) < (N : Int)) = true := zdt zq8; obtain ⟨ad', e, r0⟩ := Kd.zbE (Kd.zaL HH.out.1 (G.out.2.2.2.1.trans HL.out.below)) (k : Int) zq8 zq8
  cases e; rw [Int.toNat_natCast] at r0; have j1 : FS.In (rd l (k : Int)) := zcb HH.out.2.2.1 k; have u2 := zab HL.out.blk 2; simp only [List.getElem?_toArray, List.getElem?_cons_zero, List.getElem?_cons_succ] at u2; have f2 := zac HL.out.blk 2; have kN : k < N := ck; clear ck; go_wp2; refine zer (n := 13) (S := fun w' => w'.cell? ⟨B, 2, none⟩ = some v) (ds := [12]) #[false, false, false, false, false, false, false, false, false, false, false, false, false] zq6 rfl rfl u2 (fun hHeld => ?_); refine zbg (i := 0) (N := some 53) (v := ?_) (a' := ?_) #[true, false, false, false, false, false, false, false, false, false, false, false, false] rfl rfl zq6 (fun _ _ _ h => h) (Or.inl ⟨by rfl, ?_⟩) ?_ ?_; rotate_left
  · intro w'; go_simp; with_reducible rfl
  rotate_left
  · simp only [Act.put, List.setIfInBounds_toArray, List.set_cons_zero, List.set_cons_succ, zaF, zaM]; rfl
  refine zbg (i := 1) (N := some 54) (v := ?_) (a' := ?_) #[true, true, false, false, false, false, false, false, false, false, false, false, false] rfl rfl zq6 (fun _ _ _ h => h) (Or.inl ⟨by rfl, ?_⟩) ?_ ?_; rotate_left
  · intro w'; go_simp; with_reducible rfl
  rotate_left
  · simp only [Act.put, List.setIfInBounds_toArray, List.set_cons_zero, List.set_cons_succ, zaF, zaM]; rfl
  refine zbg (i := 2) (N := some 55) (v := ?_) (a' := ?_) #[true, true, true, false, false, false, false, false, false, false, false, false, false] rfl rfl zq6 (fun _ _ _ h => h) (Or.inl ⟨by rfl, ?_⟩) ?_ ?_; rotate_left
  · intro w'; go_simp; with_reducible rfl
  rotate_left
  · simp only [Act.put, List.setIfInBounds_toArray, List.set_cons_zero, List.set_cons_succ, zaF, zaM]; rfl
  refine zbg (i := 3) (N := some 56) (v := ?_) (a' := ?_) #[true, true, true, true, false, false, false, false, false, false, false, false, false] rfl rfl zq6 (fun _ _ _ h => h) (Or.inl ⟨by rfl, ?_⟩) ?_ ?_; rotate_left
  · intro w'; go_simp; with_reducible rfl
  rotate_left
  · simp only [Act.put, List.setIfInBounds_toArray, List.set_cons_zero, List.set_cons_succ, zaF, zaM]; rfl
  refine zbg (i := 5) (N := some 58) (v := ?_) (a' := ?_) #[true, true, true, true, false, true, false, false, false, false, false, false, false] rfl rfl zq6 (fun _ _ _ h => h) (Or.inl ⟨by rfl, ?_⟩) ?_ ?_; rotate_left
  · intro w'; go_simp; with_reducible rfl
  rotate_left
  · simp only [Act.put, List.setIfInBounds_toArray, List.set_cons_zero, List.set_cons_succ, zaF, zaM]; rfl
  refine zbg (i := 6) (N := some 59) (v := ?_) (a' := ?_) #[true, true, true, true, false, true, true, false, false, false, false, false, false] rfl rfl zq6 (fun _ _ _ h => h) (Or.inl ⟨by rfl, ?_⟩) ?_ ?_; rotate_left
  · intro w'; go_simp; with_reducible rfl
  rotate_left
  · simp only [Act.put, List.setIfInBounds_toArray, List.set_cons_zero, List.set_cons_succ, zaF, zaM]; rfl
  refine take_ (i := 4) (N := some 57) (v := ?_) (a' := ?_) #[true, true, true, true, true, true, true, false, false, false, false, false, false] rfl rfl zq6 (fun _ _ _ h => h) (Or.inl ⟨by rfl, ?_⟩) hHeld ?_ ?_; rotate_left
  · rintro w' s0; go_simp; with_reducible rfl
  rotate_left
  · simp only [Act.put, List.setIfInBounds_toArray, List.set_cons_zero, List.set_cons_succ, zaF, zaM]; rfl
  refine zef (i := 7) (N := some 60) #[true, true, true, true, true, true, true, true, false, false, false, false, false] rfl rfl zq6 zaR (fun K hK => ?_); refine zcT Try.func71 zq6 rfl #[.int .i64 (rd l (k : Int)), .int .i64 av] (by rfl) rfl rfl zdi ?_; refine (zfX j1 i1 _).mono ?_; rintro e w' ⟨rfl, ⟨nd, rfl⟩⟩; refine ⟨_, rfl, hK.out _ _ hHeld (fun hHeld => ?_)⟩; clear hK K; refine zcR zeH ?_; refine zef (i := 8) (N := some 61) #[true, true, true, true, true, true, true, true, true, false, false, false, false] rfl rfl zq6 zaR (fun K hK => ?_); refine zgt (w1 := (wr.drew.drewN nd).alloc (.cells #[.int .i64 (zbk (rd l (k : Int)) av)] 3)) (v := .slice (some ⟨wr.heap.size, 0, none⟩) 1 1) (by rfl) rfl (by go_simp) ?_; refine hK.out _ _ (zdW hHeld _) (fun hHeld => ?_); clear hK K; refine zcR zeH ?_; refine zef (i := 9) (N := some 62) #[true, true, true, true, true, true, true, true, true, true, false, false, false] rfl rfl zq6 zaR (fun K hK => ?_); have hlk := zfe l av (show k ≤ N by omega) (show N ≤ l.length by omega); obtain ⟨gB, gz⟩ : w.heap.size + 7 = B ∧ V.heap.size = B + 1 := ⟨G.out.2.2.2.2.2.1, G.out.2.2.2.2.1⟩
  have gz2 := HL.out.kept.1; refine zfZ (w0 := wr.drew.drewN nd) (W := wr.drew.drewN nd) (B + 1) (by rfl) (.tmp 57) (.tmp 61) 23 3 (.int .i64 0) 1 8 rfl Try.underlying23 zgL rfl zaR zaR v _ _ [.int .i64 (zbk (rd l (k : Int)) av)] zdi zdi rfl (by intro u hu; simp at hu; subst hu; rfl) (zes (zhB HL.out.row) nd) (Below.refl _ _) zeG (by rw [hlk]; omega) ?_; intro v1 w1 hown hbel hgr hat; have hHeld2 := (hbel.cell (p := ⟨B, 2, none⟩) (by simp)).trans (zfY hHeld zeG); refine hK.out _ _ hHeld2 (fun hHeld => ?_); clear hK K; refine zcR zeH ?_; refine zbg (i := 10) (N := some 63) (v := ?_) (a' := ?_) #[true, true, true, true, true, true, true, true, true, true, true, false, false] rfl rfl zq6 (fun _ _ _ h => h) (Or.inl ⟨by rfl, ?_⟩) ?_ ?_; rotate_left
  · intro w'; go_simp; with_reducible rfl
  rotate_left
  · simp only [Act.put, List.setIfInBounds_toArray, List.set_cons_zero, List.set_cons_succ, zaF, zaM]; rfl
  refine zbg (i := 11) (N := some 64) (v := ?_) (a' := ?_) #[true, true, true, true, true, true, true, true, true, true, true, true, false] rfl rfl zq6 (fun _ _ _ h => h) (Or.inl ⟨by rfl, ?_⟩) ?_ ?_; rotate_left
  · intro w'; go_simp; with_reducible rfl
  rotate_left
  · simp only [Act.put, List.setIfInBounds_toArray, List.set_cons_zero, List.set_cons_succ, zaF, zaM]; rfl
  refine zkT (i := 12) (N := none) #[true, true, true, true, true, true, true, true, true, true, true, true, true] rfl rfl zq6 zaR (fun K hK => ?_); have hn1 := zjv l av (show k < N by omega) (show N ≤ l.length by omega); have hb1 : w1.heap[B]? = some (.cells #[.int .i64 av, .int .i64 tr, v, .int .i64 0, zdB M1, zdB M2, zdB M3] 99 (0, 0)) := (hbel.block B zq8).trans HL.out.blk; have fz := zac hb1 2; have hown2 : w1.ownsRow (B + 1) 3 1 v1 (((l.take N).take (k + 1)).map (fun x => zbk x av)).length (zeI .i64 (((l.take N).take (k + 1)).map (fun x => zbk x av))) := by
   rw [hn1]; simpa [zeI] using hown
  have hlk2 := zfe l av (show k + 1 ≤ N by omega) (show N ≤ l.length by omega); obtain ⟨g, cap, hv1, hg1, hg2⟩ := zhv hown2 zq8; rw [hlk2] at hv1; subst hv1; have HZ := zaa.mk (And.intro hown2 (And.intro hb1 (And.intro hbel (And.intro hgr hn1)))); clear hown2 hown hb1 hbel hgr hn1 hlk hlk2 hat; refine zeT (w1 := w1.setCell ⟨B, 2, none⟩ (.slice (some ⟨g, 0, none⟩) (k + 1) cap)) (by rfl) rfl (by go_simp) ?_; refine hK.out _ _ ?_; clear hK K; refine zeN zq6 ?_
  cases gk with
  | zero => exact absurd HK.out zq8
  | succ k1 =>
   go_wp2; go_roundg k1
   case measure => omega
   case rel =>
    obtain ⟨hown2, hb1, hbel, hgr, hn1⟩ := HZ.out; refine ⟨k + 1, _, zbR, ⟨zdh⟩, ⟨⟨zaA hb1 2 _ rfl, zdZ (p := ⟨B, 2, none⟩) hown2 zhV _, ?_, ?_⟩⟩⟩
    · refine ((HL.out.kept.drew.drewN nd).of_grown hgr (fun j hj => ?_)).setCell (.inl rfl) _; exact .inr (by have := zeK (zes (zhB HL.out.row) nd) j hj; omega)
    · exact ((HL.out.below.trans ((zaj (zaU (Below.refl _ _)) nd).trans (hbel.mono zq8))).setCell zeG _)
end Go.Proofs.Ytemnfnbjapobcaa.Ho
end
section
namespace Go.Proofs.Ytemnfnbjapobcaa.Ho
open Go.RowKit Go.Proofs.ZW.PrintWords Go.Proofs.ZW.PrintLast Go.Proofs.ZW.PrintMore
open Go.Proofs.Ytemnfnbjapobcaa.FS Go.Proofs.Ytemnfnbjapobcaa.HS Go.Proofs.Ytemnfnbjapobcaa.FM
theorem zhw (wt x y : Int) (hwt : FS.In wt) (hx : FS.In x) (hy : FS.In y) (w : World) :
  Calls Try.prog 72 #[.int .i64 wt, .int .i64 x, .int .i64 y] w fun e w' => e = .returned (.int .i64 (zch wt x y)) ∧ Below w.heap.size w w' := by
 have h0 : FS.In 4294967296 := ⟨zaR, zaR⟩
 have h1 := zet 4294967296 wt; have h2 := zgo wt x; have h3 := zgo (zbk 4294967296 wt) y; go_enter Try.func72, Try.ntmps72
 go_wp2_with (first | (go_at_call 70; (with_reducible refine (zqM zba zba _).mono ?_); rintro e w' ⟨rfl, hb⟩; have HB := zaa.mk hb; clear hb) | (go_at_call 63; (with_reducible refine (zii zba zba _).mono ?_); rintro e w' ⟨rfl, ⟨nd, rfl⟩⟩) | (go_at_call 55; (with_reducible refine (zjb zba zba _).mono ?_); rintro e w' ⟨rfl, ⟨nd, rfl⟩⟩))
 go_ret
 rename_i w1 HB1 n1
 have s1 := HB1.out.size; exact ⟨rfl, zaj (HB1.out.trans ((zaj (Below.refl _ _) _).trans (HB.out.mono (by simp at s1 ⊢; omega)))) _⟩
def zjq (m : Mo) (s : St) (v : Value) : Array Value := #[.int .i64 m.n, .int .i64 m.a, .int .i64 m.b, .int .i64 m.c, .int .i64 s.level, .int .i64 s.trend, v, .int .i64 (s.k : Int)]
structure zru (W : World) (lo hi b g cap : Nat) (m : Mo) (s : St) : Prop where
 blk : W.heap[b]? = some (.cells (zjq m s (sl g s.parts.length cap)) 41 (0, 0))
 row : zgv W lo g cap s.parts
 inb : lo ≤ b ∧ b < hi
 ing : lo ≤ g ∧ g < hi
 top : hi ≤ W.heap.size
def zdg (W : World) (lo hi b : Nat) (m : Mo) (s : St) : Prop := ∃ g cap, zru W lo hi b g cap m s
theorem zdg.kept {W W' : World} {lo hi b : Nat} {m : Mo} {s : St} {S : Nat → Prop} (h : zdg W lo hi b m s) (hk : zbM W W' S) (hS : ∀ k, lo ≤ k → k < hi → ¬ S k) : zdg W' lo hi b m s := by
 obtain ⟨g, cap, h⟩ := h; exact ⟨g, cap, (hk.2 _ (by have := h.top; have := h.inb; omega) (hS _ h.inb.1 h.inb.2)).trans h.blk, zjc h.row (fun k hk' => by
  have e : g = k := by simpa [Value.ownBlock] using hk'
  subst e; exact hk.2 _ (by have := h.top; have := h.ing; omega) (hS _ h.ing.1 h.ing.2)), h.inb, h.ing, Nat.le_trans h.top hk.1⟩
theorem zdg.wide {W : World} {lo hi lo' hi' b : Nat} {m : Mo} {s : St} (h : zdg W lo hi b m s) (h1 : lo' ≤ lo) (h2 : hi ≤ hi') (h3 : hi' ≤ W.heap.size) : zdg W lo' hi' b m s := by
 obtain ⟨g, cap, a, c, d, e, f⟩ := h; exact ⟨g, cap, a, zhA c h1, zq8, zq8, h3⟩
theorem zfb {w W : World} {lo g cap : Nat} {l : List Int} (h : zgv w lo g cap l) (hb : Below w.heap.size w W) : zgv W lo g cap l := zij h hb
theorem ziJ (lo hi b : Nat) (m : Mo) (s : St) (x : Int) (w : World) (h : zdg w lo hi b m s) (hs : s.In) (hx : FS.In x) (hm : Mo.wIn m) (hk : s.k < 1000000000000) (hn : 0 < s.parts.length) (hl : s.parts.length ≤ 1000000000000) (hmn : m.n = (s.parts.length : Int)) :
  Calls Try.prog 31 #[.pointer (some ⟨b, 0, none⟩), .int .i64 x] w fun e w' => (∃ v, e = .returned v) ∧ zdg w' lo hi b m (zcq m s x) ∧ Below lo w w' ∧ zbM w w' (Ran lo hi) := by
 obtain ⟨g, cap, h⟩ := h; obtain ⟨level, trend, parts, k⟩ := s; obtain ⟨n, ma, mb, mc⟩ := m; obtain ⟨hw1, hw2, hw3⟩ := hm; obtain ⟨hs1, hs2, hs3⟩ := hs; dsimp only at hk hn hl hs1 hs2 hs3 hmn hw1 hw2 hw3; subst hmn; obtain ⟨j, hj⟩ : ∃ j, k % parts.length = j := ⟨_, rfl⟩
 have hjl : j < parts.length := hj ▸ Nat.mod_lt _ hn; have hjm : Int.tmod (k : Int) (parts.length : Int) = (j : Int) := by rw [← hj]; rfl
 have hn1 : ¬ parts.length = 0 := by omega
 have hn0 : ((parts.length : Int) == 0) = false := by rw [beq_eq_false_iff_ne]; omega
 have hjl2 : (j : Int) < (parts.length : Int) := by omega
 obtain ⟨p, hp⟩ : ∃ p, rd parts (j : Int) = p := ⟨_, rfl⟩
 have hpi : FS.In p := hp ▸ zcb hs3 j; have HP := zaa.mk hp; have HJ := zaa.mk hj; clear hp hj; have hb := h.blk; dsimp only [zjq, sl] at hb; have hrow : zgv w lo g cap parts := h.row; have hbg : b ≠ g := fun e => by
  have := zjw h.row hb zaR; simp [Value.ownBlock] at this
  omega
 have HH := zaa.mk h; clear h; have a1 := zet x p; have a2 := zee level trend; have a3 := zfg ma (zbk x p) (addS level trend); have a4 := zet (zch ma (zbk x p) (addS level trend)) level; have a5 := zet x (zch ma (zbk x p) (addS level trend)); have a6 := zfg mb (zbk (zch ma (zbk x p) (addS level trend)) level) trend; have a7 := zfg mc (zbk x (zch ma (zbk x p) (addS level trend))) p; go_enter Try.func31, Try.ntmps31
 have c0 := zab hb 0; have c1 := zab hb 1; have c2 := zab hb 2; have c3 := zab hb 3; have c4 := zab hb 4; have c5 := zab hb 5; have c6 := zab hb 6; have c7 := zab hb 7; simp only [List.getElem?_toArray, List.getElem?_cons_zero, List.getElem?_cons_succ] at c0 c1 c2 c3 c4 c5 c6 c7; have e0 := fun k => Ext.cell c0 k
 have e1 := fun k => Ext.cell c1 k
 have e2 := fun k => Ext.cell c2 k
 have e3 := fun k => Ext.cell c3 k
 have e4 := fun k => Ext.cell c4 k
 have e5 := fun k => Ext.cell c5 k
 have e6 := fun k => Ext.cell c6 k
 have e7 := fun k => Ext.cell c7 k
 obtain ⟨p1, p2⟩ := zeL hrow (j : Int) zq8 zgs; rw [Int.toNat_natCast, HP.out] at p1; rw [Int.toNat_natCast] at p2; have ep := fun k => Ext.cell p1 k
 clear c0 c1 c2 c3 c4 c5 c6 c7 p1 p2; have HB := zaa.mk (And.intro hb hrow); clear hb hrow; go_wp2; refine zdj zq6 zq6 ?_; repeat (go_big_quiet_step (fail))
 refine wpQuiet_nil ?_; rintro W1 ⟨k4, hk4⟩; have hW1 : Below w.heap.size w W1 := hk4 ▸ k4.below; clear e0 e1 e2 e3 e4 e5 e6 e7 ep hk4 k4; have HW1 := zaa.mk hW1; clear hW1; have hb := zax HB.out.1 HW1.out; have hrow := zfb HB.out.2 HW1.out; have c0 := zab hb 0; have c1 := zab hb 1; have c2 := zab hb 2; have c3 := zab hb 3; have c4 := zab hb 4; have c5 := zab hb 5; have c6 := zab hb 6; have c7 := zab hb 7; simp only [List.getElem?_toArray, List.getElem?_cons_zero, List.getElem?_cons_succ] at c0 c1 c2 c3 c4 c5 c6 c7; have e0 := fun k => Ext.cell c0 k
 have e1 := fun k => Ext.cell c1 k
 have e2 := fun k => Ext.cell c2 k
 have e3 := fun k => Ext.cell c3 k
 have e4 := fun k => Ext.cell c4 k
 have e5 := fun k => Ext.cell c5 k
 have e6 := fun k => Ext.cell c6 k
 have e7 := fun k => Ext.cell c7 k
 obtain ⟨p1, p2⟩ := zeL hrow (j : Int) zq8 zgs; rw [Int.toNat_natCast, HP.out] at p1; rw [Int.toNat_natCast] at p2; have ep := fun k => Ext.cell p1 k
 clear c0 c1 c2 c3 c4 c5 c6 c7 p1 p2; have HB1 := zaa.mk (And.intro hb hrow); clear hb hrow; go_wp2; refine zdj zq6 zq6 ?_; repeat (go_big_quiet_step ((first | (go_at_call 63; exact zel ((zii zba zba _).mono fun _ _ ⟨he, hw⟩ => ⟨he, hw.below⟩)) | (go_at_call 55; exact zel ((zjb zba zba _).mono fun _ _ ⟨he, hw⟩ => ⟨he, hw.below⟩)) | (go_at_call 72; exact zel (zhw _ _ _ zba zba zba _)))))
 refine wpQuiet_nil ?_; rintro W2 ⟨k4, hk4⟩; have hW2 : Below W1.heap.size W1 W2 := hk4 ▸ k4.below; clear e0 e1 e2 e3 e4 e5 e6 e7 ep hk4 k4; have HW2 := zaa.mk hW2; clear hW2; have hb := zax HB1.out.1 HW2.out; have hrow := zfb HB1.out.2 HW2.out; have c0 := zab hb 0; have c1 := zab hb 1; have c2 := zab hb 2; have c3 := zab hb 3; have c4 := zab hb 4; have c5 := zab hb 5; have c6 := zab hb 6; have c7 := zab hb 7; simp only [List.getElem?_toArray, List.getElem?_cons_zero, List.getElem?_cons_succ] at c0 c1 c2 c3 c4 c5 c6 c7; have e0 := fun k => Ext.cell c0 k
 have e1 := fun k => Ext.cell c1 k
 have e2 := fun k => Ext.cell c2 k
 have e3 := fun k => Ext.cell c3 k
 have e4 := fun k => Ext.cell c4 k
 have e5 := fun k => Ext.cell c5 k
 have e6 := fun k => Ext.cell c6 k
 have e7 := fun k => Ext.cell c7 k
 obtain ⟨p1, p2⟩ := zeL hrow (j : Int) zq8 zgs; rw [Int.toNat_natCast, HP.out] at p1; rw [Int.toNat_natCast] at p2; have ep := fun k => Ext.cell p1 k
 clear c0 c1 c2 c3 c4 c5 c6 c7 p1 p2; have HB2 := zaa.mk (And.intro hb hrow); clear hb hrow; go_wp2; refine zdj zq6 zq6 ?_; repeat (go_big_quiet_step ((first | (go_at_call 63; exact zel ((zii zba zba _).mono fun _ _ ⟨he, hw⟩ => ⟨he, hw.below⟩)) | (go_at_call 72; exact zel (zhw _ _ _ zba zba zba _)))))
 refine wpQuiet_nil ?_; rintro W3 ⟨k4, hk4⟩; have hW3 : Below W2.heap.size W2 W3 := hk4 ▸ k4.below; clear e0 e1 e2 e3 e4 e5 e6 e7 ep hk4 k4; have HW3 := zaa.mk hW3; clear hW3; have hb := zax HB2.out.1 HW3.out; have hrow := zfb HB2.out.2 HW3.out; have c0 := zab hb 0; have c1 := zab hb 1; have c2 := zab hb 2; have c3 := zab hb 3; have c4 := zab hb 4; have c5 := zab hb 5; have c6 := zab hb 6; have c7 := zab hb 7; simp only [List.getElem?_toArray, List.getElem?_cons_zero, List.getElem?_cons_succ] at c0 c1 c2 c3 c4 c5 c6 c7; have e0 := fun k => Ext.cell c0 k
 have e1 := fun k => Ext.cell c1 k
 have e2 := fun k => Ext.cell c2 k
 have e3 := fun k => Ext.cell c3 k
 have e4 := fun k => Ext.cell c4 k
 have e5 := fun k => Ext.cell c5 k
 have e6 := fun k => Ext.cell c6 k
 have e7 := fun k => Ext.cell c7 k
 obtain ⟨p1, p2⟩ := zeL hrow (j : Int) zq8 zgs; rw [Int.toNat_natCast, HP.out] at p1; rw [Int.toNat_natCast] at p2; have ep := fun k => Ext.cell p1 k
 clear c0 c1 c2 c3 c4 c5 c6 c7 p1 p2; have HB3 := zaa.mk (And.intro hb hrow); clear hb hrow; go_wp2; refine zfj 22 zq6 zq6 (fun _ _ _ _ _ h => h) ?_; simp only [List.take_succ_cons, List.take_zero, List.drop_succ_cons, List.drop_zero]; repeat (go_big_quiet_step ((first | (go_at_call 63; exact zel ((zii zba zba _).mono fun _ _ ⟨he, hw⟩ => ⟨he, hw.below⟩)) | (go_at_call 72; exact zel (zhw _ _ _ zba zba zba _)))))
 refine wpQuiet_nil ?_; rintro W4 ⟨k4, hk4⟩; have hW4 : Below W3.heap.size W3 W4 := hk4 ▸ k4.below; clear e0 e1 e2 e3 e4 e5 e6 e7 ep hk4 k4; have hb := zax HB3.out.1 hW4; have hrow := zfb HB3.out.2 hW4; have HB4 := zaa.mk (And.intro hb (And.intro hrow hW4)); have c4 := zab hb 4; have c5 := zab hb 5; have c7 := zab hb 7; simp only [List.getElem?_toArray, List.getElem?_cons_zero, List.getElem?_cons_succ] at c4 c5 c7; have z : ∀ i, W4.frozen? ⟨b, i, none⟩ = false := fun i => zac hb i
 obtain ⟨p1, p2⟩ := zeL hrow (j : Int) zq8 zgs; rw [Int.toNat_natCast, HP.out] at p1; rw [Int.toNat_natCast] at p2; clear hb hrow hW4; go_wp2; go_end0
 have h := HH.out; obtain ⟨hb, hrow, hW4⟩ := HB4.out; have s1 := HW1.out.size; have s2 := HW2.out.size; have s3 := HW3.out.size; have BW : Below w.heap.size w W4 := ((HW1.out.trans (HW2.out.mono s1)).trans (HW3.out.mono zq8)).trans (hW4.mono zq8); have es : zcq ⟨(parts.length : Int), ma, mb, mc⟩ ⟨level, trend, parts, k⟩ x = ⟨zch ma (zbk x p) (addS level trend), zch mb (zbk (zch ma (zbk x p) (addS level trend)) level) trend, parts.set j (zch mc (zbk x (zch ma (zbk x p) (addS level trend))) p), k + 1⟩ := by
  have e : parts.getD j 0 = p := HP.out; simp only [zcq, HJ.out, e]
 rw [es]; obtain ⟨hin1, hin2⟩ := h.inb; obtain ⟨hin3, hin4⟩ := h.ing; have htop := h.top; have kk := ((((zbM.of_below BW (Ran lo hi)).setCell (p := ⟨g, j, none⟩) (.inl h.ing) (.int .i64 (zch mc (zbk x (zch ma (zbk x p) (addS level trend))) p))).setCell (p := ⟨b, 4, none⟩) (.inl h.inb) (.int .i64 (zch ma (zbk x p) (addS level trend)))).setCell (p := ⟨b, 5, none⟩) (.inl h.inb) (.int .i64 (zch mb (zbk (zch ma (zbk x p) (addS level trend)) level) trend))).setCell (p := ⟨b, 7, none⟩) (.inl h.inb) (.int .i64 ((k : Int) + 1)); have rw1 := zmw hrow (j : Int) (zch mc (zbk x (zch ma (zbk x p) (addS level trend))) p); rw [Int.toNat_natCast] at rw1; have rw2 := zdZ (p := ⟨b, 7, none⟩) (zdZ (p := ⟨b, 5, none⟩) (zdZ (p := ⟨b, 4, none⟩) rw1 zhV (.int .i64 (zch ma (zbk x p) (addS level trend)))) zhV (.int .i64 (zch mb (zbk (zch ma (zbk x p) (addS level trend)) level) trend))) zhV (.int .i64 ((k : Int) + 1)); refine ⟨⟨_, rfl⟩, ⟨g, cap, ?_, ?_, h.inb, h.ing, Nat.le_trans htop kk.1⟩, (((((BW.mono zq8).setCell (p := ⟨g, j, none⟩) hin3 _).setCell (p := ⟨b, 4, none⟩) hin1 _).setCell (p := ⟨b, 5, none⟩) hin1 _).setCell (p := ⟨b, 7, none⟩) hin1 _), kk⟩
 · refine zaA (zaA (zaA (zaP hb hbg _) 4 _ rfl) 5 _ rfl) 7 _ ?_; simp [zjq, sl]
 · show zgv _ lo g cap (parts.set j _)
   unfold zgv; rw [List.length_set] at rw2 ⊢; exact rw2
theorem zpn (k A n : Nat) (hA : 1 ≤ A) : (k % n + A - 1) % n = (k + A - 1) % n := by
 rw [show k % n + A - 1 = k % n + (A - 1) by omega, Nat.mod_add_mod, show k + A - 1 = k + (A - 1) by omega]
theorem zfW (lo hi b : Nat) (m : Mo) (s : St) (ahead : Int) (w : World) (h : zdg w lo hi b m s) (hs : s.In) (ha : FS.In ahead) (hk : s.k < 1000000000000) (hn : 0 < s.parts.length) (hl : s.parts.length ≤ 1000000000000) (hmn : m.n = (s.parts.length : Int)) :
  Calls Try.prog 29 #[.pointer (some ⟨b, 0, none⟩), .int .i64 ahead] w fun e w' => e = .returned (.tuple #[.int .i64 (zcl s ahead).1, .int .i64 (zcl s ahead).2]) ∧ Below w.heap.size w w' := by
 obtain ⟨g, cap, h⟩ := h; obtain ⟨level, trend, parts, k⟩ := s; obtain ⟨n, ma, mb, mc⟩ := m; obtain ⟨hs1, hs2, hs3⟩ := hs; dsimp only at hk hn hl hs1 hs2 hs3 hmn; subst hmn; obtain ⟨r, hr⟩ : ∃ r, zcl ⟨level, trend, parts, k⟩ ahead = r := ⟨_, rfl⟩
 rw [hr]; obtain ⟨r1, r2⟩ := r; have HR := zaa.mk hr; clear hr; have hb := h.blk; have hrow : zgv w lo g cap parts := h.row; dsimp only [zjq, sl] at hb; by_cases h1 : ahead < 1
 · obtain ⟨rfl, rfl⟩ : r1 = 0 ∧ r2 = 1 := by have := HR.out; simp only [zcl] at this; rw [if_pos (.inl h1)] at this; simpa [eq_comm] using this
   have g1 := zdt h1; clear h1 HR h hb hrow; go_enter Try.func29, Try.ntmps29
   go_wp2; go_ret2
   exact ⟨rfl, Below.refl _ _⟩
 have g1 := zdf h1; by_cases h2 : 10000 < ahead
 · obtain ⟨rfl, rfl⟩ : r1 = 0 ∧ r2 = 1 := by have := HR.out; simp only [zcl] at this; rw [if_pos (.inr h2)] at this; simpa [eq_comm] using this
   have g2 := zdt h2; clear h1 h2 HR h hb hrow; go_enter Try.func29, Try.ntmps29
   go_wp2; go_ret2
   exact ⟨rfl, Below.refl _ _⟩
 have g2 := zdf h2; obtain ⟨A, rfl⟩ := Int.eq_ofNat_of_zero_le (show 0 ≤ ahead by omega); obtain ⟨j, hj⟩ : ∃ j, (k + A - 1) % parts.length = j := ⟨_, rfl⟩
 have hjl : j < parts.length := hj ▸ Nat.mod_lt _ hn; obtain ⟨p, hp⟩ : ∃ p, rd parts (j : Int) = p := ⟨_, rfl⟩
 obtain ⟨rfl, rfl⟩ : r1 = addS (addS level (zgY (ofS (A : Int)) trend)) p ∧ r2 = 0 := by
  have := HR.out; simp only [zcl] at this; rw [if_neg zq8] at this; obtain ⟨e1, e2⟩ := Prod.mk.inj this; refine ⟨?_, e2.symm⟩; rw [← e1, ← hp, Int.toNat_natCast, hj]; rfl
 have hpi : FS.In p := hp ▸ zcb hs3 j; have HP := zaa.mk hp; obtain ⟨q, hq⟩ : ∃ q, k % parts.length = q := ⟨_, rfl⟩
 have hql : q < parts.length := hq ▸ Nat.mod_lt _ hn; have t1 : Int.tmod (k : Int) (parts.length : Int) = (q : Int) := by rw [← hq]; rfl
 obtain ⟨u, hu⟩ : ∃ u : Int, IntKind.i64.wrap ((q : Int) + (A : Int)) = u := ⟨_, rfl⟩
 have hu' : u = (q : Int) + A := by rw [← hu]; exact zeE zq8 zq8
 obtain ⟨u1, hu1⟩ : ∃ u1 : Int, IntKind.i64.wrap (u - 1) = u1 := ⟨_, rfl⟩
 have hu1' : u1 = ((q + A - 1 : Nat) : Int) := by rw [← hu1, hu', zeE zq8 zq8]; omega
 have hjm : Int.tmod u1 (parts.length : Int) = (j : Int) := by rw [hu1', ← hj, ← zpn k A parts.length zq8, hq]; rfl
 have a1 := zin (A : Int); have a2 := zgo (ofS (A : Int)) trend; have a3 := zee level (zgY (ofS (A : Int)) trend); have hjl2 : (j : Int) < (parts.length : Int) := by omega
 have hn1 : ¬ parts.length = 0 := by omega
 have hn0 : ((parts.length : Int) == 0) = false := by rw [beq_eq_false_iff_ne]; omega
 clear hu' hu1' HR hp hj hq h1 h2 h; go_enter Try.func29, Try.ntmps29
 have c0 := zab hb 0; have c4 := zab hb 4; have c5 := zab hb 5; have c6 := zab hb 6; have c7 := zab hb 7; simp only [List.getElem?_toArray, List.getElem?_cons_zero, List.getElem?_cons_succ] at c0 c4 c5 c6 c7; have e0 := fun k => Ext.cell c0 k
 have e4 := fun k => Ext.cell c4 k
 have e5 := fun k => Ext.cell c5 k
 have e6 := fun k => Ext.cell c6 k
 have e7 := fun k => Ext.cell c7 k
 obtain ⟨p1, p2⟩ := zeL hrow (j : Int) zq8 zgs; rw [Int.toNat_natCast, HP.out] at p1; rw [Int.toNat_natCast] at p2; have ep := fun k => Ext.cell p1 k
 clear c0 c4 c5 c6 c7 p1 p2; have HB := zaa.mk (And.intro hb hrow); clear hb hrow; go_wp2; refine zdj zq6 zq6 ?_; repeat (go_big_quiet_step (fail))
 refine wpQuiet_nil ?_; rintro W1 ⟨k4, hk4⟩; have hW1 : Below w.heap.size w W1 := hk4 ▸ k4.below; clear e0 e4 e5 e6 e7 ep hk4 k4; have HW1 := zaa.mk hW1; clear hW1; have hb := zax HB.out.1 HW1.out; have hrow := zfb HB.out.2 HW1.out; have c0 := zab hb 0; have c4 := zab hb 4; have c5 := zab hb 5; have c6 := zab hb 6; have c7 := zab hb 7; simp only [List.getElem?_toArray, List.getElem?_cons_zero, List.getElem?_cons_succ] at c0 c4 c5 c6 c7; have e0 := fun k => Ext.cell c0 k
 have e4 := fun k => Ext.cell c4 k
 have e5 := fun k => Ext.cell c5 k
 have e6 := fun k => Ext.cell c6 k
 have e7 := fun k => Ext.cell c7 k
 obtain ⟨p1, p2⟩ := zeL hrow (j : Int) zq8 zgs; rw [Int.toNat_natCast, HP.out] at p1; rw [Int.toNat_natCast] at p2; have ep := fun k => Ext.cell p1 k
 clear c0 c4 c5 c6 c7 p1 p2; have HB1 := zaa.mk (And.intro hb hrow); clear hb hrow; go_wp2; refine zdj zq6 zq6 ?_; repeat (go_big_quiet_step ((first | (go_at_call 21; exact zel ((rOf zba _).mono fun _ _ ⟨he, hw⟩ => ⟨he, hw.below⟩)) | (go_at_call 70; exact zel (zqM zba zba _)))))
 refine wpQuiet_nil ?_; rintro W2 ⟨k4, hk4⟩; have hW2 : Below W1.heap.size W1 W2 := hk4 ▸ k4.below; clear e0 e4 e5 e6 e7 ep hk4 k4; have HW2 := zaa.mk hW2; clear hW2; have hb := zax HB1.out.1 HW2.out; have hrow := zfb HB1.out.2 HW2.out; have c0 := zab hb 0; have c4 := zab hb 4; have c5 := zab hb 5; have c6 := zab hb 6; have c7 := zab hb 7; simp only [List.getElem?_toArray, List.getElem?_cons_zero, List.getElem?_cons_succ] at c0 c4 c5 c6 c7; have e0 := fun k => Ext.cell c0 k
 have e4 := fun k => Ext.cell c4 k
 have e5 := fun k => Ext.cell c5 k
 have e6 := fun k => Ext.cell c6 k
 have e7 := fun k => Ext.cell c7 k
 obtain ⟨p1, p2⟩ := zeL hrow (j : Int) zq8 zgs; rw [Int.toNat_natCast, HP.out] at p1; rw [Int.toNat_natCast] at p2; have ep := fun k => Ext.cell p1 k
 clear c0 c4 c5 c6 c7 p1 p2; have HB2 := zaa.mk (And.intro hb hrow); clear hb hrow; go_wp2; refine zdj zq6 zq6 ?_; repeat (go_big_quiet_step ((go_at_call 55; exact zel ((zjb zba zba _).mono fun _ _ ⟨he, hw⟩ => ⟨he, hw.below⟩))))
 refine wpQuiet_nil ?_; rintro W3 ⟨k4, hk4⟩; have hW3 : Below W2.heap.size W2 W3 := hk4 ▸ k4.below; clear e0 e4 e5 e6 e7 ep hk4 k4; have HW3 := zaa.mk hW3; clear hW3; go_wp2; go_ret2
 have s1 := HW1.out.size; have s2 := HW2.out.size; exact ⟨rfl, (HW1.out.trans (HW2.out.mono s1)).trans (HW3.out.mono zq8)⟩
theorem zdJ.wide {W : World} {lo hi lo' hi' b : Nat} {m : Mo} {s : St} (h : zdJ W lo hi b m s) (h1 : lo' ≤ lo) (h2 : hi ≤ hi') (h3 : hi' ≤ W.heap.size) : zdJ W lo' hi' b m s := by
 obtain ⟨g, cap, m1, m2, m3, h⟩ := h; obtain ⟨a, b, c, d, e, f, g', i, j, k, l, n⟩ := h; exact ⟨g, cap, m1, m2, m3, a, zhA b h1, c, d, e, zq8, zq8, zq8, zq8, zq8, l, h3⟩
def zea (w : World) (l : List Int) (m : Mo) (e : Ending) (w' : World) : Prop :=
 if zcr l m ≠ 0 then e = .returned (.tuple #[.pointer none, .int .i64 1]) ∧ Below w.heap.size w w'
 else ∃ b, e = .returned (.tuple #[.pointer (some ⟨b, 0, none⟩), .int .i64 0]) ∧ zdJ w' w.heap.size w'.heap.size b m (zbG l m) ∧ Below w.heap.size w w'
theorem zhJ (m : Mo) : zbP m = 0 ∨ zbP m = 1 := by unfold zbP; split; exact .inr rfl; split; exact .inl rfl; exact .inr rfl
theorem zqc {x : Int} : okW x = true ↔ 0 ≤ x ∧ x ≤ 4294967296 := by unfold okW; simp
theorem zgF {m : Mo} (h : zbP m = 0) : (1 ≤ m.n ∧ m.n ≤ 10000) ∧ Mo.wIn m := by
 unfold zbP at h; split at h
 · cases h
 · split at h
   · rename_i h1 h2
     simp only [Bool.and_eq_true, zqc] at h2; refine ⟨zq8, ⟨zq8, zq8⟩, ⟨zq8, zq8⟩, ⟨zq8, zq8⟩⟩
   · cases h
theorem zkz (m : Mo) (l : List Int) (s : St) (k : Nat) (h : k < l.length) : (l.take (k + 1)).foldl (zcq m) s = zcq m ((l.take k).foldl (zcq m) s) (rd l (k : Int)) := by
 have e : rd l (k : Int) = l[k] := by
  show l.getD k 0 = _
  simp [List.getD_eq_getElem?_getD, List.getElem?_eq_getElem h]
 rw [List.take_succ_eq_append_getElem h, List.foldl_append, e]; rfl
theorem ziI (A : Option Addr) (c : Nat) (l : List Int) (m : Mo) (w : World) (hr : Kd.C (Kd.int .i64) w A l.length l) (hc : l.length ≤ c) (hin : AllIn l) (hm : FS.In m.n) (hll : l.length ≤ 1000000000) :
  Calls Try.prog 24 #[.slice A l.length c, moV m] w (zea w l m) := by
 have kc := ziS m; have kb := zmp A c l m; obtain ⟨n, ma, mb, mc⟩ := m; dsimp only [moV] at kb ⊢; dsimp only at kc hm; by_cases h1 : zbP ⟨n, ma, mb, mc⟩ = 0; rotate_left
 · have h2 : zbP ⟨n, ma, mb, mc⟩ = 1 := (zhJ _).resolve_left h1; have hp : ∀ e w', e = .returned (.tuple #[.pointer none, .int .i64 1]) ∧ Below w.heap.size w w' → zea w l ⟨n, ma, mb, mc⟩ e w' := fun e w' h => by
    unfold zea; rw [if_pos (by unfold zcr; rw [if_pos h1]; decide)]; exact h
   rw [h2] at kc; have KC := zaa.mk kc; refine Calls.mono ?_ (fun e w' h => hp e w' h); clear kc kb h1 h2 hp; go_enter Try.func24, Try.ntmps24
   go_wp2_with (go_at_call 33; (with_reducible refine (KC.out _).mono ?_); rintro e w' ⟨rfl, hb⟩)
   go_ret2
   exact ⟨rfl, (zaq (Below.refl _ _) _).trans (hb.mono (by simp))⟩
 obtain ⟨hn, hw⟩ := zgF h1; dsimp only at hn; obtain ⟨N, rfl⟩ := Int.eq_ofNat_of_zero_le (show 0 ≤ n by omega); obtain ⟨M, hM⟩ : ∃ M, 2 * N = M := ⟨_, rfl⟩
 have e2 : wrap64 (2 * (N : Int)) = (M : Int) := by rw [zaI zq8 zq8]; omega
 have e3 : (2 * (N : Int)) = (M : Int) := by omega
 have b0 : (N : Int) ≤ 10000 := hn.2; rw [h1] at kc; have KC := zaa.mk kc; by_cases h3 : (l.length : Int) < 2 * (N : Int)
 · have g4 : l.length < M := by omega
   have hp : ∀ e w', e = .returned (.tuple #[.pointer none, .int .i64 1]) ∧ Below w.heap.size w w' → zea w l ⟨N, ma, mb, mc⟩ e w' := fun e w' h => by
    unfold zea; rw [if_pos (by unfold zcr; rw [if_neg (by rw [h1]; decide), if_pos h3]; decide)]; exact h
   refine Calls.mono ?_ (fun e w' h => hp e w' h); clear kc kb h1 hp h3 hM hn; go_enter Try.func24, Try.ntmps24
   go_wp2_with fail
   (with_reducible refine (KC.out _).mono ?_)
   rintro e w1 ⟨rfl, hb⟩; have mb1 := zax (zbL w _) hb; have d0 := zab mb1 0; have d1 := zab mb1 1; have d2 := zab mb1 2; have d3 := zab mb1 3; simp only [List.getElem?_toArray, List.getElem?_cons_zero, List.getElem?_cons_succ] at d0 d1 d2 d3; have HB1 := zaa.mk (And.intro mb1 hb); clear mb1 hb; go_wp2; go_ret2
   exact ⟨rfl, (zaq (Below.refl _ _) _).trans (HB1.out.2.mono (by simp))⟩
 have g4 : ¬ l.length < M := by omega
 have g5 : ¬ c = N := by omega
 have hl : 2 * (N : Int) ≤ (l.length : Int) := by omega
 have h0 : zcr l ⟨N, ma, mb, mc⟩ = 0 := by unfold zcr; rw [if_neg (by rw [h1]; decide), if_neg h3]
 have hp : ∀ e w', (∃ b, e = .returned (.tuple #[.pointer (some ⟨b, 0, none⟩), .int .i64 0]) ∧ zdJ w' w.heap.size w'.heap.size b ⟨N, ma, mb, mc⟩ (zbG l ⟨N, ma, mb, mc⟩) ∧ Below w.heap.size w w') → zea w l ⟨N, ma, mb, mc⟩ e w' := fun e w' h => by
  unfold zea; rw [if_neg (by rw [h0]; decide)]; exact h
 refine Calls.mono ?_ (fun e w' h => hp e w' h); have KB := zaa.mk (fun W (h : Kd.C (Kd.int .i64) W A l.length l) => kb W h hc hin hw hn.1 hl hll); have HR := zaa.mk hr; have HN := zaa.mk (And.intro hn (And.intro hM hl)); have nM : N ≤ l.length := by omega
 obtain ⟨D, hD⟩ : ∃ D, l.length - N = D := ⟨_, rfl⟩
 obtain ⟨ad, rfl, _⟩ := Kd.zbE hr 0 zq8 zq8; have hd : Kd.C (Kd.int .i64) w (some (ad.add N)) D (l.drop N) := by
  have h := Kd.zlU hr (m := N) nM hc; rw [List.length_drop, if_neg g5, hD] at h; simpa [show (Kd.int .i64).sz = 1 from rfl] using h
 have HD := zaa.mk hd; clear hd; clear kc kb h1 hp h3 hM hn hr h0 hl; go_enter Try.func24, Try.ntmps24
 go_wp2_with fail
 (with_reducible refine (KC.out _).mono ?_)
 rintro e w1 ⟨rfl, hb⟩; have mb1 := zax (zbL w _) hb; have d0 := zab mb1 0; have d1 := zab mb1 1; have d2 := zab mb1 2; have d3 := zab mb1 3; simp only [List.getElem?_toArray, List.getElem?_cons_zero, List.getElem?_cons_succ] at d0 d1 d2 d3; have HB1 := zaa.mk (And.intro mb1 hb); clear mb1 hb; go_wp2_with (go_at_call 64; (with_reducible refine (KB.out _ (Kd.zaL HR.out ((zaq (Below.refl _ _) _).trans (HB1.out.2.mono (by simp))))).mono ?_); rintro e w2 ⟨b, rfl, hst, hb2⟩; clear d0 d1 d2 d3; have mb2 := zax HB1.out.1 hb2; have d0 := zab mb2 0; simp only [List.getElem?_toArray, List.getElem?_cons_zero] at d0; have HB2 := zaa.mk (And.intro hst hb2); clear hst hb2 mb2)
 have HX : zaa (Below w.heap.size w w2) := ⟨((zaq (Below.refl _ _) _).trans (HB1.out.2.mono (by simp))).trans (HB2.out.2.mono (by have := HB1.out.2.size; simp at this; omega))⟩
 have HL : zaa (w.heap.size ≤ w1.heap.size) := ⟨by have := HB1.out.2.size; simp at this; omega⟩
 go_loopg [32] D (fun kq v32 W' => ∃ k : Nat, v32 = .int .i64 (k : Int) ∧ zaa (kq + k = D) ∧ zaa (zdJ W' w1.heap.size w2.heap.size b ⟨N, ma, mb, mc⟩ (((l.drop N).take k).foldl (zcq ⟨N, ma, mb, mc⟩) (zdC l N)) ∧ Below w1.heap.size w2 W'))
 case atStart => exact ⟨0, rfl, ⟨rfl⟩, ⟨by simpa using HB2.out.1, Below.refl _ _⟩⟩
 case round =>
  obtain ⟨k, rfl, HK, HS⟩ := hrel; by_cases ck : k < D; rotate_left
  · have c1 : decide ((k : Int) < (D : Int)) = false := zdf zq8; have hS2 : (((l.drop N).take k).foldl (zcq ⟨N, ma, mb, mc⟩) (zdC l N)) = zbG l ⟨N, ma, mb, mc⟩ := by
     rw [List.take_of_length_le (by rw [List.length_drop, hD]; omega)]; simp [zbG]
    have HQ := zaa.mk hS2; clear hS2; go_wp2; go_ret2
    have hsz := HS.out.2.size; refine ⟨b, rfl, ?_, HX.out.trans (HS.out.2.mono HL.out)⟩; rw [← HQ.out]; exact HS.out.1.wide HL.out hsz (Nat.le_refl _)
  have c1 : decide ((k : Int) < (D : Int)) = true := zdt zq8; obtain ⟨ad', e, r0⟩ := Kd.zbE (Kd.zaL HD.out (HX.out.trans (HS.out.2.mono HL.out))) (k : Int) zq8 zq8
  cases e; rw [Int.toNat_natCast] at r0; have j1 : FS.In (rd (l.drop N) (k : Int)) := zcb (zhK hin N) k; have hS1 : (((l.drop N).take k).foldl (zcq ⟨N, ma, mb, mc⟩) (zdC l N)).In := zgq _ _ _ (zjf l N); have hS2 : (((l.drop N).take k).foldl (zcq ⟨N, ma, mb, mc⟩) (zdC l N)).parts.length = N := (zfw _ _ _).trans (zix l N nM); have hS3 : (((l.drop N).take k).foldl (zcq ⟨N, ma, mb, mc⟩) (zdC l N)).k = k := by
   rw [zhj, List.length_take, List.length_drop, hD, Nat.min_eq_left zq8]; simp [zdC]
  have SC := zaa.mk (zjj w1.heap.size w2.heap.size b ⟨N, ma, mb, mc⟩ _ (rd (l.drop N) (k : Int)) wr HS.out.1 hS1 j1 hw (by rw [hS3]; omega) (by rw [hS2]; have := HN.out.1.1; omega) (by rw [hS2]; omega)); have hck := zaa.mk ck; clear hS1 hS2 hS3
  cases gk with
  | zero => exact absurd HK.out (by have := hck.out; omega)
  | succ k1 =>
   go_wp2_with (go_at_call 30; (with_reducible refine SC.out.mono ?_); rintro e w' ⟨⟨v, rfl⟩, hst, hb, hkp⟩; have HQ := zaa.mk (And.intro hst hb); clear hst hb hkp)
   go_roundg k1
   case measure => omega
   case rel =>
    refine ⟨k + 1, zbR, ⟨zdh⟩, ⟨?_, HS.out.2.trans HQ.out.2⟩⟩; rw [zkz _ _ _ _ (by rw [List.length_drop, hD]; exact hck.out)]; exact HQ.out.1
theorem zih (m : Mo) (w : World) :
  Calls Try.prog 32 #[.agg #[.int .i64 m.n, .int .i64 m.a, .int .i64 m.b, .int .i64 m.c]] w fun e w' => e = .returned (.int .i64 (zbP m)) ∧ Below w.heap.size w w' := by
 obtain ⟨n, a, b, c⟩ := m; obtain ⟨r, hr⟩ : ∃ r, zbP ⟨n, a, b, c⟩ = r := ⟨_, rfl⟩
 rw [hr]; have HR := zaa.mk hr; clear hr; dsimp only; by_cases h1 : n < 1
 · have g1 := zdt h1; obtain rfl : r = 1 := by rw [← HR.out]; simp [zbP, okW]; try omega
   clear HR; go_enter Try.func32, Try.ntmps32
   go_wp2; go_ret; exact ⟨rfl, zaq (Below.refl _ _) _⟩
 have g1 := zdf h1; by_cases h2 : 10000 < n
 · have g2 := zdt h2; obtain rfl : r = 1 := by rw [← HR.out]; simp [zbP, okW]; try omega
   clear HR; go_enter Try.func32, Try.ntmps32
   go_wp2; go_ret; exact ⟨rfl, zaq (Below.refl _ _) _⟩
 have g2 := zdf h2; by_cases a1 : a < 0
 · have a1' : decide (a < 0) = true := zdt a1; obtain rfl : r = 1 := by rw [← HR.out]; simp [zbP, okW]; try omega
   clear HR; go_enter Try.func32, Try.ntmps32
   go_wp2; refine wp_loop_rounds 4 ?_; rw [rounds_succ]; go_wp2; go_ret; exact ⟨rfl, zaq (zaq (Below.refl _ _) _) _⟩
 have a1' : decide (a < 0) = false := zdf a1; by_cases a2 : 4294967296 < a
 · have a2' : decide (4294967296 < a) = true := zdt a2; obtain rfl : r = 1 := by rw [← HR.out]; simp [zbP, okW]; try omega
   clear HR; go_enter Try.func32, Try.ntmps32
   go_wp2; refine wp_loop_rounds 4 ?_; rw [rounds_succ]; go_wp2; go_ret; exact ⟨rfl, zaq (zaq (Below.refl _ _) _) _⟩
 have a2' : decide (4294967296 < a) = false := zdf a2; by_cases b1 : b < 0
 · have b1' : decide (b < 0) = true := zdt b1; obtain rfl : r = 1 := by rw [← HR.out]; simp [zbP, okW]; try omega
   clear HR; go_enter Try.func32, Try.ntmps32
   go_wp2; refine wp_loop_rounds 4 ?_; rw [rounds_succ]; go_wp2; rw [rounds_succ]; go_wp2; go_ret; exact ⟨rfl, zaq (zaq (Below.refl _ _) _) _⟩
 have b1' : decide (b < 0) = false := zdf b1; by_cases b2 : 4294967296 < b
 · have b2' : decide (4294967296 < b) = true := zdt b2; obtain rfl : r = 1 := by rw [← HR.out]; simp [zbP, okW]; try omega
   clear HR; go_enter Try.func32, Try.ntmps32
   go_wp2; refine wp_loop_rounds 4 ?_; rw [rounds_succ]; go_wp2; rw [rounds_succ]; go_wp2; go_ret; exact ⟨rfl, zaq (zaq (Below.refl _ _) _) _⟩
 have b2' : decide (4294967296 < b) = false := zdf b2; by_cases c1 : c < 0
 · have c1' : decide (c < 0) = true := zdt c1; obtain rfl : r = 1 := by rw [← HR.out]; simp [zbP, okW]; try omega
   clear HR; go_enter Try.func32, Try.ntmps32
   go_wp2; refine wp_loop_rounds 4 ?_; rw [rounds_succ]; go_wp2; rw [rounds_succ]; go_wp2; rw [rounds_succ]; go_wp2; go_ret; exact ⟨rfl, zaq (zaq (Below.refl _ _) _) _⟩
 have c1' : decide (c < 0) = false := zdf c1; by_cases c2 : 4294967296 < c
 · have c2' : decide (4294967296 < c) = true := zdt c2; obtain rfl : r = 1 := by rw [← HR.out]; simp [zbP, okW]; try omega
   clear HR; go_enter Try.func32, Try.ntmps32
   go_wp2; refine wp_loop_rounds 4 ?_; rw [rounds_succ]; go_wp2; rw [rounds_succ]; go_wp2; rw [rounds_succ]; go_wp2; go_ret; exact ⟨rfl, zaq (zaq (Below.refl _ _) _) _⟩
 have c2' : decide (4294967296 < c) = false := zdf c2; obtain rfl : r = 0 := by rw [← HR.out]; simp [zbP, okW]; try omega
 clear HR; go_enter Try.func32, Try.ntmps32
 go_wp2; refine wp_loop_rounds 4 ?_; rw [rounds_succ]; go_wp2; rw [rounds_succ]; go_wp2; rw [rounds_succ]; go_wp2; rw [rounds_succ]; go_wp2; go_ret; exact ⟨rfl, zaq (zaq (Below.refl _ _) _) _⟩
def zcW (w : World) (l : List Int) (m : Mo) (e : Ending) (w' : World) : Prop :=
 if zcr l m ≠ 0 then e = .returned (.tuple #[.pointer none, .int .i64 1]) ∧ Below w.heap.size w w'
 else ∃ b, e = .returned (.tuple #[.pointer (some ⟨b, 0, none⟩), .int .i64 0]) ∧ zdg w' w.heap.size w'.heap.size b m (zbG l m) ∧ Below w.heap.size w w'
structure zrf (V W : World) (lo b : Nat) (cs : Value → Array Value) (v : Value) (l : List Int) : Prop where
 blk : W.heap[b]? = some (.cells (cs v) 41 (0, 0))
 row : W.ownsRow (b + 1) 3 1 v l.length (zeI .i64 l)
 kept : zbM V W (· = b)
 below : Below lo V W
theorem zgu (A : Option Addr) (c : Nat) (l : List Int) (m : Mo) (w : World) (hr : Kd.C (Kd.int .i64) w A l.length l) (hc : l.length ≤ c) (hin : AllIn l) (hm : FS.In m.n) (hll : l.length ≤ 1000000000) :
  Calls Try.prog 25 #[.slice A l.length c, moV m] w (zcW w l m) := by
 have kc := zih m; obtain ⟨n, ma, mb, mc⟩ := m; dsimp only [moV] at ⊢; dsimp only at kc hm; by_cases h1 : zbP ⟨n, ma, mb, mc⟩ = 0; rotate_left
 · have h2 : zbP ⟨n, ma, mb, mc⟩ = 1 := (zhJ _).resolve_left h1; have hp : ∀ e w', e = .returned (.tuple #[.pointer none, .int .i64 1]) ∧ Below w.heap.size w w' → zcW w l ⟨n, ma, mb, mc⟩ e w' := fun e w' h => by
    unfold zcW; rw [if_pos (by unfold zcr; rw [if_pos h1]; decide)]; exact h
   rw [h2] at kc; have KC := zaa.mk kc; refine Calls.mono ?_ (fun e w' h => hp e w' h); clear kc h1 h2 hp; go_enter Try.func25, Try.ntmps25
   go_wp2_with (go_at_call 32; (with_reducible refine (KC.out _).mono ?_); rintro e w' ⟨rfl, hb⟩)
   go_ret2
   exact ⟨rfl, (zaq (Below.refl _ _) _).trans (hb.mono (by simp))⟩
 obtain ⟨hn, hw⟩ := zgF h1; dsimp only at hn; obtain ⟨N, rfl⟩ := Int.eq_ofNat_of_zero_le (show 0 ≤ n by omega); have b0 : (N : Int) ≤ 10000 := hn.2; rw [h1] at kc; have KC := zaa.mk kc; by_cases h3 : (l.length : Int) < 2 * (N : Int)
 · have g4 : l.length / 2 < N := by omega
   have hp : ∀ e w', e = .returned (.tuple #[.pointer none, .int .i64 1]) ∧ Below w.heap.size w w' → zcW w l ⟨N, ma, mb, mc⟩ e w' := fun e w' h => by
    unfold zcW; rw [if_pos (by unfold zcr; rw [if_neg (by rw [h1]; decide), if_pos h3]; decide)]; exact h
   refine Calls.mono ?_ (fun e w' h => hp e w' h); clear kc h1 hp h3 hn; go_enter Try.func25, Try.ntmps25
   go_wp2_with (go_at_call 32; (with_reducible refine (KC.out _).mono ?_); rintro e w1 ⟨rfl, hb⟩; have mb1 := zax (zbL w _) hb; have d0 := zab mb1 0; simp only [List.getElem?_toArray, List.getElem?_cons_zero, List.getElem?_cons_succ] at d0; have HB1 := zaa.mk (And.intro mb1 hb); clear mb1 hb)
   go_ret2
   exact ⟨rfl, (zaq (Below.refl _ _) _).trans (HB1.out.2.mono (by simp))⟩
 have g4 : ¬ l.length / 2 < N := by omega
 have hl : 2 * (N : Int) ≤ (l.length : Int) := by omega
 have h0 : zcr l ⟨N, ma, mb, mc⟩ = 0 := by unfold zcr; rw [if_neg (by rw [h1]; decide), if_neg h3]
 have hp : ∀ e w', (∃ b, e = .returned (.tuple #[.pointer (some ⟨b, 0, none⟩), .int .i64 0]) ∧ zdg w' w.heap.size w'.heap.size b ⟨N, ma, mb, mc⟩ (zbG l ⟨N, ma, mb, mc⟩) ∧ Below w.heap.size w w') → zcW w l ⟨N, ma, mb, mc⟩ e w' := fun e w' h => by
  unfold zcW; rw [if_neg (by rw [h0]; decide)]; exact h
 refine Calls.mono ?_ (fun e w' h => hp e w' h); have HR := zaa.mk hr; have nM : 2 * N ≤ l.length := by omega
 have n0 : 1 ≤ N := by omega
 obtain ⟨ad, rfl, _⟩ := Kd.zbE hr 0 zq8 zq8; have HW := zaa.mk hw; clear kc h1 hp h3 hr h0 hw; go_enter Try.func25, Try.ntmps25
 go_wp2_with (go_at_call 32; (with_reducible refine (KC.out _).mono ?_); rintro e w1 ⟨rfl, hb⟩; have mb1 := zax (zbL w _) hb; have d0 := zab mb1 0; simp only [List.getElem?_toArray, List.getElem?_cons_zero, List.getElem?_cons_succ] at d0; have HB1 := zaa.mk (And.intro mb1 hb); clear mb1 hb)
 have HX : zaa (Below w.heap.size w w1) := ⟨(zaq (Below.refl _ _) _).trans (HB1.out.2.mono (by simp))⟩
 go_loopg [7, 8, 9] N (fun kq v7 v8 v9 W' => ∃ k m : Nat, v7 = .int .i64 (zfs (l.take k)) ∧ v8 = .int .i64 (zfs ((l.drop N).take k)) ∧ v9 = .int .i64 (k : Int) ∧ zaa (kq + k = N) ∧ W' = w1.drewN m)
 case atStart => exact ⟨0, 0, rfl, rfl, rfl, ⟨rfl⟩, rfl⟩
 case round =>
  obtain ⟨k, q, rfl, rfl, rfl, HK, rfl⟩ := hrel; have i1 := zkk (l.take k); have i2 := zkk ((l.drop N).take k); by_cases ck : k < N
  · have c1 : decide ((k : Int) < (N : Int)) = true := zdt zq8; obtain ⟨T, hT⟩ : ∃ T, N + k = T := ⟨_, rfl⟩
    obtain ⟨ad', e, r0⟩ := Kd.zbE (Kd.zaL HR.out HX.out) (k : Int) zq8 zq8
    cases e; obtain ⟨ad', e, r1⟩ := Kd.zbE (Kd.zaL HR.out HX.out) (T : Int) zq8 zq8
    cases e; rw [Int.toNat_natCast] at r0 r1; have j1 : FS.In (rd l (k : Int)) := zcb hin k; obtain ⟨y, hy⟩ : ∃ y, rd l (T : Int) = y := ⟨_, rfl⟩
    have j2 : FS.In y := hy ▸ zcb hin T; rw [hy] at r1; have e1 : wrap64 ((N : Int) + (k : Int)) = (T : Int) := by rw [zaI zq8 zq8]; omega
    have e3 : (N : Int) + (k : Int) = (T : Int) := by omega
    have s1 := ziX l k zq8; have s2 : zfs ((l.drop N).take (k + 1)) = addS (zfs ((l.drop N).take k)) y := by
     rw [ziX (l.drop N) k zjN, ← hy]
     congr 1
     show (l.drop N).getD k 0 = l.getD T 0
     rw [← hT]; simp [List.getD_eq_getElem?_getD]
    have HS := zaa.mk (And.intro s1 s2); have q1 : T < l.length := by omega
    clear s1 s2 hy hT; have q2 : k < l.length := by omega
    cases gk with
    | zero => exact absurd HK.out zq8
    | succ k1 =>
     go_wp2_with (go_at_call 55; (with_reducible refine (zjb zba zba _).mono ?_); rintro e w' ⟨rfl, ⟨nd, rfl⟩⟩)
     go_roundg k1
     case measure => omega
     case rel => exact ⟨k + 1, _, by rw [HS.out.1], by rw [HS.out.2], zbR, ⟨zdh⟩, rfl⟩
  have c1 : decide ((k : Int) < (N : Int)) = false := zdf zq8; obtain rfl : k = N := by have := HK.out; omega
  have i3 : FS.In (k : Int) := ⟨zq8, zq8⟩
  have i4 := zin (k : Int); have t1 : (l.take k).length = k := by simp; omega
  have t2 : ((l.drop k).take k).length = k := by simp; omega
  obtain ⟨av, hav⟩ : ∃ av, zeZ (zfs (l.take k)) (ofS (k : Int)) = av := ⟨_, rfl⟩
  obtain ⟨bv, hbv⟩ : ∃ bv, zeZ (zfs ((l.drop k).take k)) (ofS (k : Int)) = bv := ⟨_, rfl⟩
  have i5 : FS.In av := hav ▸ zgp _ _; have i6 : FS.In bv := hbv ▸ zgp _ _; have hav2 : zdT (l.take k) = av := by unfold zdT; rw [t1]; exact hav
  have hbv2 : zdT ((l.drop k).take k) = bv := by unfold zdT; rw [t2]; exact hbv
  have i7 := zet bv av; obtain ⟨tr, htr⟩ : ∃ tr, zeZ (zbk bv av) (ofS (k : Int)) = tr := ⟨_, rfl⟩
  have HV := zaa.mk (And.intro hav (And.intro hbv (And.intro hav2 (And.intro hbv2 htr)))); clear hav hbv hav2 hbv2 t1 t2 htr; have c2 : ¬ (k < k) := by omega
  have mb1 := zal HB1.out.1 q; go_wp2_with (first | (go_at_call 21; (with_reducible refine (rOf zba _).mono ?_); rintro e w' ⟨rfl, ⟨nd, rfl⟩⟩) | (go_at_call 65; (with_reducible refine (zqN zba zba _).mono ?_); rintro e w' ⟨rfl, hb⟩; have HD := zaa.mk hb; clear hb))
  rename_i w2 HD1 K2 hK2
  rw [HV.out.1, HV.out.2.1]; have hz1 := HD1.out.size; simp at hz1
  have BX : Below w.heap.size w w' := ((zaj HX.out _).trans (HD1.out.mono (by simpa using HX.out.size))).trans (HD.out.mono (by have := HX.out.size; omega)); have mb2 := zax (zax (zal HB1.out.1 _) HD1.out) HD.out; have d0' := zab mb2 0; have d1' := zab mb2 1; have d2' := zab mb2 2; have d3' := zab mb2 3; simp only [List.getElem?_toArray, List.getElem?_cons_zero, List.getElem?_cons_succ] at d0' d1' d2' d3'; have e0 := fun k => Ext.cell d0' k
  have e1 := fun k => Ext.cell d1' k
  have e2 := fun k => Ext.cell d2' k
  have e3 := fun k => Ext.cell d3' k
  have HBX := zaa.mk (And.intro BX mb2); clear d0' d1' d2' d3' mb2 BX hz1 d0 mb1; refine zfj 8 zq6 zq6 (fun _ _ _ _ _ h => h) ?_; simp only [List.take_succ_cons, List.take_zero, List.drop_succ_cons, List.drop_zero]; repeat (go_big_quiet_step ((first | (go_at_call 63; exact zel ((zii zba zba _).mono fun _ _ ⟨he, hw⟩ => ⟨he, hw.below⟩)) | (go_at_call 65; exact zel (zqN zba zba _)))))
  refine wpQuiet_nil ?_; rintro W5 ⟨k4, hk4⟩; have hW5 : Below w'.heap.size w' W5 := hk4 ▸ k4.below; clear e0 e1 e2 e3 hk4 k4; rw [HV.out.2.2.2.2]; have mb5 := zax HBX.out.2 hW5; have B5 : Below w.heap.size w W5 := HBX.out.1.trans (hW5.mono HBX.out.1.size); have d0 := zab mb5 0; simp only [List.getElem?_toArray, List.getElem?_cons_zero, List.getElem?_cons_succ] at d0; have H5 := zaa.mk (And.intro mb5 B5); clear mb5 B5 hW5; go_wp2; obtain ⟨V, hV⟩ : ∃ V, W5.alloc (.cells #[.int .i64 (k : Int), .int .i64 ma, .int .i64 mb, .int .i64 mc, .int .i64 av, .int .i64 tr, .slice none 0 0, .int .i64 0] 41) = V := ⟨_, rfl⟩
  rw [hV]; obtain ⟨B, hB⟩ : ∃ B, W5.heap.size = B := ⟨_, rfl⟩
  rw [hB]; have hbV : V.heap[B]? = some (.cells #[.int .i64 (k : Int), .int .i64 ma, .int .i64 mb, .int .i64 mc, .int .i64 av, .int .i64 tr, .slice none 0 0, .int .i64 0] 41 (0, 0)) := by
   rw [← hV, ← hB]; exact zbL W5 _
  have hVz : V.heap.size = B + 1 := by rw [← hV, ← hB]; simp
  have hlt : w.heap.size < B := by rw [← hB]; exact zbT H5.out.1
  have BV : Below w.heap.size w V := by rw [← hV]; exact ziw H5.out.2 H5.out.2.size _
  have mbV : V.heap[w.heap.size]? = some (.cells #[.int .i64 (k : Int), .int .i64 ma, .int .i64 mb, .int .i64 mc] 29 (0, 0)) := by rw [← hV]; exact zai H5.out.1 _
  have hadl : ∀ i, i < l.length → (ad.add i).block < w.heap.size := fun i hi => by
   obtain ⟨ad', e, r0⟩ := Kd.zbE HR.out (i : Int) zq8 zq8
   cases e; rw [Int.toNat_natCast] at r0; exact World.block_lt_of_cell? _ _ r0
  have L0 : zrf V V w.heap.size B (fun v => #[.int .i64 (k : Int), .int .i64 ma, .int .i64 mb, .int .i64 mc, .int .i64 av, .int .i64 tr, v, .int .i64 0]) (.slice none 0 0) [] :=
   ⟨hbV, zkh _ _ _ _, zbM.refl _ _, Below.refl _ _⟩
  have G := zaa.mk (And.intro (And.intro hlt hVz) (And.intro BV (And.intro mbV (fun i (hi : i < k) => Nat.lt_trans (hadl i zq8) hlt)))); have GL := zaa.mk L0; have HC2 := zaa.mk c2; clear hbV hVz hlt BV mbV hadl L0 hV hB d0 c2; go_loopg [12] k (fun kq v12 W' => ∃ (i : Nat) (v : Value), v12 = .int .i64 (i : Int) ∧ zaa (kq + i = k) ∧ zaa (zrf V W' w.heap.size B (fun v => #[.int .i64 (k : Int), .int .i64 ma, .int .i64 mb, .int .i64 mc, .int .i64 av, .int .i64 tr, v, .int .i64 0]) v (((l.take k).take i).map (fun x => zbk x av))))
  case atStart => exact ⟨0, _, rfl, ⟨rfl⟩, by simpa using GL⟩
  case round =>
   obtain ⟨i, v, rfl, HK, HL⟩ := hrel; have mbi : wr.heap[w.heap.size]? = some (.cells #[.int .i64 (k : Int), .int .i64 ma, .int .i64 mb, .int .i64 mc] 29 (0, 0)) := (HL.out.kept.2 _ (by have := G.out.1; omega) (by have := G.out.1; omega)).trans G.out.2.2.1; have d0 := zab mbi 0; simp only [List.getElem?_toArray, List.getElem?_cons_zero, List.getElem?_cons_succ] at d0; have MB := zaa.mk mbi; clear mbi; by_cases ci : i < k; rotate_left
   · have c1 : decide ((i : Int) < (k : Int)) = false := zdf zq8; obtain rfl : i = k := by have := HK.out; omega
     obtain ⟨gB, gz⟩ : w.heap.size < B ∧ V.heap.size = B + 1 := G.out.1; have gz2 := HL.out.kept.1; have hlk := zfe l av (Nat.le_refl i) (show i ≤ l.length by omega); obtain ⟨g, cap, rfl, hg1, hg2⟩ := zhv HL.out.row zq8; have ebeg : zdC l i = ⟨av, tr, (((l.take i).take i).map (fun x => zbk x av)), 0⟩ := by
      obtain ⟨hav, hbv, hav2, hbv2, htr⟩ := HV.out; have e1 : zdC l i = ⟨zdT (l.take i), zeZ (zbk (zdT ((l.drop i).take i)) (zdT (l.take i))) (ofS i), (l.take i).map (fun x => zbk x (zdT (l.take i))), 0⟩ := rfl; rw [e1, hav2, hbv2, htr, List.take_take, Nat.min_self]
     obtain ⟨s0, hs0⟩ : ∃ s0, zdC l i = s0 := ⟨_, rfl⟩
     have hst0 : zdg wr w.heap.size wr.heap.size B ⟨i, ma, mb, mc⟩ s0 := by
      rw [← hs0, ebeg]; exact ⟨g, cap, HL.out.blk, zhA HL.out.row zq8, zq8, zq8, Nat.le_refl _⟩
     have h01 : s0.In := hs0 ▸ zjf l i; have h02 : s0.parts.length = i := by rw [← hs0]; exact zix l i zq8
     have h03 : s0.k = 0 := by rw [← hs0]; rfl
     have hstart : zbG l ⟨i, ma, mb, mc⟩ = (l.drop i).foldl (zcq ⟨i, ma, mb, mc⟩) s0 := by rw [← hs0]; simp [zbG]
     have BU : Below w.heap.size w wr := G.out.2.1.trans HL.out.below; have HS0 := zaa.mk (And.intro hst0 (And.intro h01 (And.intro h02 (And.intro h03 (And.intro hstart BU))))); obtain ⟨U, rfl⟩ : ∃ U : World, U = wr := ⟨_, rfl⟩
     clear hst0 h01 h02 h03 hstart BU hs0 ebeg hlk gz2; have il : i ≤ l.length := by omega
     go_wp2; go_loopg [13] (l.length - i) (fun kq v13 W' => ∃ T : Nat, v13 = .int .i64 (T : Int) ∧ i ≤ T ∧ zaa (kq + T = l.length) ∧ zaa (zdg W' w.heap.size U.heap.size B ⟨i, ma, mb, mc⟩ (((l.drop i).take (T - i)).foldl (zcq ⟨i, ma, mb, mc⟩) s0) ∧ Below w.heap.size U W'))
     case atStart => exact ⟨i, rfl, Nat.le_refl _, ⟨zq8⟩, ⟨by simpa using HS0.out.1, Below.refl _ _⟩⟩
     case round =>
      obtain ⟨T, rfl, hT1, HK3, HS⟩ := hrel; by_cases cT : T < l.length; rotate_left
      · have c3 : decide ((T : Int) < (l.length : Int)) = false := zdf zq8; have hS2 : (((l.drop i).take (T - i)).foldl (zcq ⟨i, ma, mb, mc⟩) s0) = zbG l ⟨i, ma, mb, mc⟩ := by
         rw [HS0.out.2.2.2.2.1, List.take_of_length_le zjN]
        have HQ := zaa.mk hS2; clear hS2; go_wp2; go_ret2
        have hsz := HS.out.2.size; refine ⟨B, rfl, ?_, HS0.out.2.2.2.2.2.trans HS.out.2⟩; rw [← HQ.out]; exact HS.out.1.wide (Nat.le_refl _) hsz (Nat.le_refl _)
      have c3 : decide ((T : Int) < (l.length : Int)) = true := zdt zq8; obtain ⟨ad', e, u3⟩ := Kd.zbE (Kd.zaL HR.out (HS0.out.2.2.2.2.2.trans HS.out.2)) (T : Int) zq8 zq8
      cases e; rw [Int.toNat_natCast] at u3; have j1 : FS.In (rd l (T : Int)) := zcb hin T; have hS1 : (((l.drop i).take (T - i)).foldl (zcq ⟨i, ma, mb, mc⟩) s0).In := zgq _ _ _ HS0.out.2.1; have hS2 : (((l.drop i).take (T - i)).foldl (zcq ⟨i, ma, mb, mc⟩) s0).parts.length = i := (zfw _ _ _).trans HS0.out.2.2.1; have hS3 : (((l.drop i).take (T - i)).foldl (zcq ⟨i, ma, mb, mc⟩) s0).k ≤ l.length := by
       rw [zhj, HS0.out.2.2.2.1, List.length_take, List.length_drop]; omega
      have SC := zaa.mk (fun W (h : zdg W w.heap.size U.heap.size B ⟨i, ma, mb, mc⟩ (((l.drop i).take (T - i)).foldl (zcq ⟨i, ma, mb, mc⟩) s0)) => ziJ w.heap.size U.heap.size B ⟨i, ma, mb, mc⟩ _ (rd l (T : Int)) W h hS1 j1 HW.out zq8 zq8 zq8 (by rw [hS2])); clear hS1 hS2 hS3
      cases gk with
      | zero => exact absurd HK3.out zq8
      | succ k1 =>
       go_wp2_with (go_at_call 31; (with_reducible refine (SC.out _ HS.out.1).mono ?_); rintro e w' ⟨⟨v, rfl⟩, hst, hb, hkp⟩; have HQ := zaa.mk (And.intro hst hb); clear hst hb hkp)
       go_roundg k1
       case measure => omega
       case rel =>
        refine ⟨T + 1, zbR, zq8, ⟨zeJ⟩, ⟨?_, HS.out.2.trans HQ.out.2⟩⟩; have e := zkz ⟨i, ma, mb, mc⟩ (l.drop i) s0 (T - i) zjN; have e2 : rd (l.drop i) ((T - i : Nat) : Int) = rd l (T : Int) := by
         show (l.drop i).getD (T - i) 0 = l.getD T 0
         simp only [List.getD_eq_getElem?_getD, List.getElem?_drop]; rw [show i + (T - i) = T by omega]
        rw [show T + 1 - i = T - i + 1 by omega, e, e2]; exact HQ.out.1
   have c1 : decide ((i : Int) < (k : Int)) = true := zdt zq8; obtain ⟨ad', e, u3⟩ := Kd.zbE (Kd.zaL HR.out (G.out.2.1.trans HL.out.below)) (i : Int) zq8 zq8
   cases e; rw [Int.toNat_natCast] at u3; have j1 : FS.In (rd l (i : Int)) := zcb hin i; have u2 := zab HL.out.blk 6; simp only [List.getElem?_toArray, List.getElem?_cons_zero, List.getElem?_cons_succ] at u2; have il : i < l.length := by omega
   go_wp2; refine zer (n := 16) (S := fun w' => w'.cell? ⟨B, 6, none⟩ = some v ∧ w'.cell? (ad.add i) = some (.int .i64 (rd l (i : Int)))) (ds := [15]) #[false, false, false, false, false, false, false, false, false, false, false, false, false, false, false, false] zq6 rfl rfl ⟨u2, u3⟩ (fun hHeld => ?_); refine zbg (i := 0) (N := some 70) (v := ?_) (a' := ?_) #[true, false, false, false, false, false, false, false, false, false, false, false, false, false, false, false] rfl rfl zq6 (fun _ _ _ h => h) (Or.inl ⟨by rfl, ?_⟩) ?_ ?_; rotate_left
   · intro w'; go_simp; with_reducible rfl
   rotate_left
   · simp only [Act.put, List.setIfInBounds_toArray, List.set_cons_zero, List.set_cons_succ, zaF, zaM]; rfl
   refine zbg (i := 1) (N := some 71) (v := ?_) (a' := ?_) #[true, true, false, false, false, false, false, false, false, false, false, false, false, false, false, false] rfl rfl zq6 (fun _ _ _ h => h) (Or.inl ⟨by rfl, ?_⟩) ?_ ?_; rotate_left
   · intro w'; go_simp; with_reducible rfl
   rotate_left
   · simp only [Act.put, List.setIfInBounds_toArray, List.set_cons_zero, List.set_cons_succ, zaF, zaM]; rfl
   refine zbg (i := 2) (N := some 72) (v := ?_) (a' := ?_) #[true, true, true, false, false, false, false, false, false, false, false, false, false, false, false, false] rfl rfl zq6 (fun _ _ _ h => h) (Or.inl ⟨by rfl, ?_⟩) ?_ ?_; rotate_left
   · intro w'; go_simp; with_reducible rfl
   rotate_left
   · simp only [Act.put, List.setIfInBounds_toArray, List.set_cons_zero, List.set_cons_succ, zaF, zaM]; rfl
   refine zbg (i := 3) (N := some 73) (v := ?_) (a' := ?_) #[true, true, true, true, false, false, false, false, false, false, false, false, false, false, false, false] rfl rfl zq6 (fun _ _ _ h => h) (Or.inl ⟨by rfl, ?_⟩) ?_ ?_; rotate_left
   · intro w'; go_simp; with_reducible rfl
   rotate_left
   · simp only [Act.put, List.setIfInBounds_toArray, List.set_cons_zero, List.set_cons_succ, zaF, zaM]; rfl
   refine zbg (i := 5) (N := some 75) (v := ?_) (a' := ?_) #[true, true, true, true, false, true, false, false, false, false, false, false, false, false, false, false] rfl rfl zq6 (fun _ _ _ h => h) (Or.inl ⟨by rfl, ?_⟩) ?_ ?_; rotate_left
   · intro w'; go_simp; with_reducible rfl
   rotate_left
   · simp only [Act.put, List.setIfInBounds_toArray, List.set_cons_zero, List.set_cons_succ, zaF, zaM]; rfl
   refine zbg (i := 6) (N := some 76) (v := ?_) (a' := ?_) #[true, true, true, true, false, true, true, false, false, false, false, false, false, false, false, false] rfl rfl zq6 (fun _ _ _ h => h) (Or.inl ⟨by rfl, ?_⟩) ?_ ?_; rotate_left
   · intro w'; go_simp; with_reducible rfl
   rotate_left
   · simp only [Act.put, List.setIfInBounds_toArray, List.set_cons_zero, List.set_cons_succ, zaF, zaM]; rfl
   refine zbg (i := 7) (N := some 77) (v := ?_) (a' := ?_) #[true, true, true, true, false, true, true, true, false, false, false, false, false, false, false, false] rfl rfl zq6 (fun _ _ _ h => h) (Or.inl ⟨by rfl, ?_⟩) ?_ ?_; rotate_left
   · intro w'; go_simp; with_reducible rfl
   rotate_left
   · simp only [Act.put, List.setIfInBounds_toArray, List.set_cons_zero, List.set_cons_succ, zaF, zaM]; rfl
   refine zbg (i := 9) (N := some 79) (v := ?_) (a' := ?_) #[true, true, true, true, false, true, true, true, false, true, false, false, false, false, false, false] rfl rfl zq6 (fun _ _ _ h => h) (Or.inl ⟨by rfl, ?_⟩) ?_ ?_; rotate_left
   · intro w'; go_simp; with_reducible rfl
   rotate_left
   · simp only [Act.put, List.setIfInBounds_toArray, List.set_cons_zero, List.set_cons_succ, zaF, zaM]; rfl
   refine take_ (i := 4) (N := some 74) (v := ?_) (a' := ?_) #[true, true, true, true, true, true, true, true, false, true, false, false, false, false, false, false] rfl rfl zq6 (fun _ _ _ h => h) (Or.inl ⟨by rfl, ?_⟩) hHeld ?_ ?_; rotate_left
   · rintro w' ⟨s0, s1⟩; go_simp; with_reducible rfl
   rotate_left
   · simp only [Act.put, List.setIfInBounds_toArray, List.set_cons_zero, List.set_cons_succ, zaF, zaM]; rfl
   refine take_ (i := 8) (N := some 78) (v := ?_) (a' := ?_) #[true, true, true, true, true, true, true, true, true, true, false, false, false, false, false, false] rfl rfl zq6 (fun _ _ _ h => h) (Or.inl ⟨by rfl, ?_⟩) hHeld ?_ ?_; rotate_left
   · rintro w' ⟨s0, s1⟩; go_simp; with_reducible rfl
   rotate_left
   · simp only [Act.put, List.setIfInBounds_toArray, List.set_cons_zero, List.set_cons_succ, zaF, zaM]; rfl
   refine zef (i := 10) (N := some 80) #[true, true, true, true, true, true, true, true, true, true, true, false, false, false, false, false] rfl rfl zq6 zaR (fun K hK => ?_); refine zcT Try.func63 zq6 rfl #[.int .i64 (rd l (i : Int)), .int .i64 av] (by rfl) rfl rfl zdi ?_; refine (zii j1 i5 _).mono ?_; rintro e w' ⟨rfl, ⟨nd, rfl⟩⟩; refine ⟨_, rfl, hK.out _ _ hHeld (fun hHeld => ?_)⟩; clear hK K; refine zcR zeH ?_; refine zef (i := 11) (N := some 81) #[true, true, true, true, true, true, true, true, true, true, true, true, false, false, false, false] rfl rfl zq6 zaR (fun K hK => ?_); refine zgt (w1 := (wr.drew.drewN nd).alloc (.cells #[.int .i64 (zbk (rd l (i : Int)) av)] 3)) (v := .slice (some ⟨wr.heap.size, 0, none⟩) 1 1) (by rfl) rfl (by go_simp) ?_; refine hK.out _ _ ⟨zdW hHeld.1 _, zdW hHeld.2 _⟩ (fun hHeld => ?_); clear hK K; refine zcR zeH ?_; refine zef (i := 12) (N := some 82) #[true, true, true, true, true, true, true, true, true, true, true, true, true, false, false, false] rfl rfl zq6 zaR (fun K hK => ?_); have hlk := zfe l av (show i ≤ k by omega) (show k ≤ l.length by omega); obtain ⟨gB, gz⟩ : w.heap.size < B ∧ V.heap.size = B + 1 := G.out.1
   have gz2 := HL.out.kept.1; refine zfZ (w0 := wr.drew.drewN nd) (W := wr.drew.drewN nd) (B + 1) (by rfl) (.tmp 74) (.tmp 81) 23 3 (.int .i64 0) 1 8 rfl Try.underlying23 zgL rfl zaR zaR v _ _ [.int .i64 (zbk (rd l (i : Int)) av)] zdi zdi rfl (by intro u hu; simp at hu; subst hu; rfl) (zes (zhB HL.out.row) nd) (Below.refl _ _) zeG (by rw [hlk]; omega) ?_; intro v1 w1 hown hbel hgr hat; have hHeld2 := (hbel.cell (p := ⟨B, 6, none⟩) (by simp)).trans (zfY hHeld.1 zeG); have hHeld3 := (hbel.cell (p := ad.add i) (by have := G.out.2.2.2 i zq8; omega)).trans (zfY hHeld.2 (by have := G.out.2.2.2 i zq8; simp; omega)); refine hK.out _ _ ⟨hHeld2, hHeld3⟩ (fun hHeld => ?_); clear hK K; refine zcR zeH ?_; refine zbg (i := 13) (N := some 83) (v := ?_) (a' := ?_) #[true, true, true, true, true, true, true, true, true, true, true, true, true, true, false, false] rfl rfl zq6 (fun _ _ _ h => h) (Or.inl ⟨by rfl, ?_⟩) ?_ ?_; rotate_left
   · intro w'; go_simp; with_reducible rfl
   rotate_left
   · simp only [Act.put, List.setIfInBounds_toArray, List.set_cons_zero, List.set_cons_succ, zaF, zaM]; rfl
   refine zbg (i := 14) (N := some 84) (v := ?_) (a' := ?_) #[true, true, true, true, true, true, true, true, true, true, true, true, true, true, true, false] rfl rfl zq6 (fun _ _ _ h => h) (Or.inl ⟨by rfl, ?_⟩) ?_ ?_; rotate_left
   · intro w'; go_simp; with_reducible rfl
   rotate_left
   · simp only [Act.put, List.setIfInBounds_toArray, List.set_cons_zero, List.set_cons_succ, zaF, zaM]; rfl
   refine zkT (i := 15) (N := none) #[true, true, true, true, true, true, true, true, true, true, true, true, true, true, true, true] rfl rfl zq6 zaR (fun K hK => ?_); have hn1 := zjv l av (show i < k by omega) (show k ≤ l.length by omega); have hb1 : w1.heap[B]? = some (.cells #[.int .i64 (k : Int), .int .i64 ma, .int .i64 mb, .int .i64 mc, .int .i64 av, .int .i64 tr, v, .int .i64 0] 41 (0, 0)) := (hbel.block B zq8).trans HL.out.blk; have fz := zac hb1 6; have hown2 : w1.ownsRow (B + 1) 3 1 v1 (((l.take k).take (i + 1)).map (fun x => zbk x av)).length (zeI .i64 (((l.take k).take (i + 1)).map (fun x => zbk x av))) := by
    rw [hn1]; simpa [zeI] using hown
   have hlk2 := zfe l av (show i + 1 ≤ k by omega) (show k ≤ l.length by omega); obtain ⟨g, cap, hv1, hg1, hg2⟩ := zhv hown2 zq8; rw [hlk2] at hv1; subst hv1; have HZ := zaa.mk (And.intro hown2 (And.intro hb1 (And.intro hbel (And.intro hgr hn1)))); clear hown2 hown hb1 hbel hgr hn1 hlk hlk2 hat; obtain ⟨hH1, _⟩ := hHeld; refine zeT (w1 := w1.setCell ⟨B, 6, none⟩ (.slice (some ⟨g, 0, none⟩) (i + 1) cap)) (by rfl) rfl (by go_simp) ?_; refine hK.out _ _ ?_; clear hK K; refine zeN zq6 ?_
   cases gk with
   | zero => exact absurd HK.out zq8
   | succ k1 =>
    go_wp2; go_roundg k1
    case measure => omega
    case rel =>
     obtain ⟨hown2, hb1, hbel, hgr, hn1⟩ := HZ.out; refine ⟨i + 1, _, zbR, ⟨zdh⟩, ⟨⟨zaA hb1 6 _ rfl, zdZ (p := ⟨B, 6, none⟩) hown2 zhV _, ?_, ?_⟩⟩⟩
     · refine ((HL.out.kept.drew.drewN nd).of_grown hgr (fun j hj => ?_)).setCell (.inl rfl) _; exact .inr (by have := zeK (zes (zhB HL.out.row) nd) j hj; omega)
     · exact ((HL.out.below.trans ((zaj (zaU (Below.refl _ _)) nd).trans (hbel.mono zq8))).setCell zeG _)
end Go.Proofs.Ytemnfnbjapobcaa.Ho
end
