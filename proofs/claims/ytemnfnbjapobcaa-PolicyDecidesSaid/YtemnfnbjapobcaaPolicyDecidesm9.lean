-- Laid together by wip/shake.py out of: Holt7 Holt8 Ref6 Ref7 Extra Ch1 Ch2 Ch3 Ch4 Ch5 Ch6 Ch7 Cmx0
import Derived.Test.YtemnfnbjapobcaaPolicyDecidesm8
import Derived.Test.YtemnfnbjapobcaaProg
import Derived.Below
import Derived.Deep.Draws
import Derived.Deep.AppendLies
import Derived.Maps.AppendAt
import Derived.OwnWalk
import Derived.Laws.BytesArg
import Derived.Laws.MakeOwn
import Derived.Laws.OwnMore
import Derived.Deep.OwnRows
import Derived.Tactics
import Derived.Lib.ConvBytes
import Derived.Laws.Slices
import Derived.WalkKit
import Derived.KernelRfl
import Derived.RowKit3
import Derived.Deep.LoopGhost
import Derived.Deep.QuietTactic
import Derived.BigQuiet
import Derived.WideLaws
import Derived.Deep.DeepCutAuto
import Derived.Deep.CutBlock
import Derived.Deep.RegionHeld3
import Derived.Laws.Rows
import Derived.Lib.AppendStr
import Derived.ArgAppend
import Derived.Laws.IdiomCopy
import Derived.OrdersHeld
import Derived.Laws.BitsLemmas
import Derived.RowKit
set_option maxHeartbeats 8000000
set_option maxRecDepth 100000
set_option linter.unusedVariables false
set_option linter.unusedSimpArgs false
namespace Go.Proofs
open Go.RowKit
theorem zmU {P : Prop} (h : P := by show ¬ (ad.add (k * 4)).block = w.heap.size; have := zmr ad (k * 4); omega) : P := h
theorem zhT {P : Prop} (h : P := by first | rfl | (simp; rfl)) : P := h
theorem zeP {P : Prop} (h : P := by simp [zbt]) : P := h
theorem zgr {P : Prop} (h : P := by rw [hck]; decide) : P := h
theorem zhS {P : Prop} (h : P := by have := HK2.out; omega) : P := h
theorem zhR {P : Prop} (h : P := by unfold zda; omega) : P := h
theorem zhP {P : Prop} (h : P := by dsimp only; omega) : P := h
end Go.Proofs
section
namespace Go.Proofs.Ytemnfnbjapobcaa.Ho
open Go.RowKit Go.Proofs.ZW.PrintWords Go.Proofs.ZW.PrintLast Go.Proofs.ZW.PrintMore
open Go.Proofs.Ytemnfnbjapobcaa.FS Go.Proofs.Ytemnfnbjapobcaa.HS Go.Proofs.Ytemnfnbjapobcaa.FM
attribute [local go_sem] zcx zcw zcO zcN zco zcn zcJ zcI
theorem zjF (a b : Int) (ha : FS.In a) (hb : FS.In b) (w : World) :
  Calls Try.prog 73 #[.int .i64 a, .int .i64 b] w fun e w' => e = .returned (.int .i64 (distS a b)) ∧ Drawn0 w w' := by
 have e1 : distS a b = if a < b then zbk b a else zbk a b := rfl
 by_cases h : a < b
 · rw [if_pos h] at e1; rw [e1]; clear e1; have h1 : ¬ b < a := by omega
   go_enter Try.func73, Try.ntmps73
   go_wp2_with (go_at_call 71; (with_reducible refine (zfX zba zba _).mono ?_); rintro e w' ⟨rfl, ⟨nd, rfl⟩⟩)
   go_ret; exact ⟨rfl, zq3⟩
 rw [if_neg h] at e1; rw [e1]; clear e1; by_cases h2 : b < a
 · skip
   go_enter Try.func73, Try.ntmps73
   go_wp2_with (go_at_call 71; (with_reducible refine (zfX zba zba _).mono ?_); rintro e w' ⟨rfl, ⟨nd, rfl⟩⟩)
   go_ret; exact ⟨rfl, zq3⟩
 obtain rfl : a = b := by omega
 go_enter Try.func73, Try.ntmps73
 go_wp2_with (go_at_call 71; (with_reducible refine (zfX zba zba _).mono ?_); rintro e w' ⟨rfl, ⟨nd, rfl⟩⟩)
 go_ret; exact ⟨rfl, zq3⟩
theorem znG (l : List Int) (m : Mo) : zcr l m = 0 ∨ zcr l m = 1 := by unfold zcr; split; exact .inr rfl; split; exact .inr rfl; exact .inl rfl
theorem zev (l : List Int) (m : Mo) : (zbG l m).In := zgq _ _ _ (zjf _ _)
theorem zfC {l : List Int} {m : Mo} (h : zcr l m = 0) : 1 ≤ m.n ∧ m.n ≤ 10000 ∧ Mo.wIn m ∧ 2 * m.n ≤ (l.length : Int) ∧ (zbG l m).parts.length = m.n.toNat ∧ (zbG l m).k = l.length - m.n.toNat := by
 unfold zcr at h; split at h
 · cases h
 · rename_i h1
   split at h
   · cases h
   · rename_i h2
     obtain ⟨h3, h4⟩ := zgF (Decidable.not_not.1 h1); refine ⟨h3.1, h3.2, h4, zq8, (zfw _ _ _).trans (zix _ _ zq8), ?_⟩; unfold zbG; rw [zhj, List.length_drop]; simp [zdC]
end Go.Proofs.Ytemnfnbjapobcaa.Ho
end
section
namespace Go.Proofs.Ytemnfnbjapobcaa.Ho
open Go.RowKit Go.Proofs.ZW.PrintWords Go.Proofs.ZW.PrintLast Go.Proofs.ZW.PrintMore
open Go.Proofs.Ytemnfnbjapobcaa.FS Go.Proofs.Ytemnfnbjapobcaa.HS Go.Proofs.Ytemnfnbjapobcaa.FM
theorem zpS (A : Option Addr) (n c : Nat) (l : List Int) (m : Mo) (w : World) (e : l.length = n) (hr : Kd.C (Kd.int .i64) w A n l) (hc : n ≤ c) (hin : AllIn l) (hm : FS.In m.n) (hll : n ≤ 1000000000) :
  Calls Try.prog 24 #[.slice A n c, moV m] w (zea w l m) := by
 subst e; exact ziI A c l m w hr hc hin hm hll
theorem zhC (m : Mo) : ∀ (l : List Int) (q : Int × St), (l.foldl (zcf m) q).2 = l.foldl (zcq m) q.2
 | [], _ => rfl
 | x :: l, q => zhC m l (zcf m q x)
theorem zgK (m : Mo) : ∀ (l : List Int) (q : Int × St), FS.In q.1 → FS.In (l.foldl (zcf m) q).1
 | [], _, h => h
 | x :: l, q, h => zgK m l _ (zee _ _)
theorem zgh (s : St) : (zcl s 1).2 = 0 ∧ FS.In (zcl s 1).1 := by
 unfold zcl; rw [if_neg zq8]; exact ⟨rfl, zee _ _⟩
theorem ziP (m : Mo) (l : List Int) (q : Int × St) (k : Nat) (h : k < l.length) : (l.take (k + 1)).foldl (zcf m) q = zcf m ((l.take k).foldl (zcf m) q) (rd l (k : Int)) := by
 have e : rd l (k : Int) = l[k] := by
  show l.getD k 0 = _
  simp [List.getD_eq_getElem?_getD, List.getElem?_eq_getElem h]
 rw [List.take_succ_eq_append_getElem h, List.foldl_append, e]; rfl
theorem zno (A : Option Addr) (c : Nat) (l : List Int) (m : Mo) (last : Int) (w : World) (hr : Kd.C (Kd.int .i64) w A l.length l) (hc : l.length ≤ c) (hin : AllIn l) (hm : FS.In m.n) (ha : FS.In last) (hll : l.length ≤ 1000000000) :
  Calls Try.prog 35 #[.slice A l.length c, moV m, .int .i64 last] w fun e w' => e = .returned (.tuple #[.int .i64 (zcS l m last).1, .int .i64 (zcS l m last).2]) ∧ Below w.heap.size w w' := by
 obtain ⟨r, er⟩ : ∃ r, zcS l m last = r := ⟨_, rfl⟩
 rw [er]; obtain ⟨r1, r2⟩ := r; have kc := ziS m
 rcases zhJ m with hck | hck
 · obtain ⟨⟨n1, n2⟩, n3⟩ := zgF hck; rw [hck] at kc; have KC := zaa.mk kc; clear kc; by_cases h1 : last < 1
   · obtain ⟨rfl, rfl⟩ : r1 = 0 ∧ r2 = 1 := by
      unfold zcS at er; rw [if_neg zgr, if_pos (.inl h1)] at er
      cases er; exact ⟨rfl, rfl⟩
     have g1 := zdt h1; obtain ⟨n, ma, mb, mc⟩ := m; clear er hck n3; dsimp only [moV] at *; go_enter Try.func35, Try.ntmps35
     go_wp2_with (go_at_call 33; (with_reducible refine (KC.out _).mono ?_); rintro e w1 ⟨rfl, hb⟩)
     go_ret2
     exact ⟨rfl, (zaq (Below.refl _ _) _).trans (hb.mono (by simp))⟩
   have g1 := zdf h1; obtain ⟨n, ma, mb, mc⟩ := m; dsimp only at n1 n2 hm; obtain ⟨N, rfl⟩ := Int.eq_ofNat_of_zero_le (show 0 ≤ n by omega); obtain ⟨M, hM⟩ : ∃ M, 2 * N = M := ⟨_, rfl⟩
   have e2 : wrap64 (2 * (N : Int)) = (M : Int) := by rw [zaI zq8 zq8]; omega
   have e3 : (2 * (N : Int)) = (M : Int) := by omega
   have b0 : (N : Int) ≤ 10000 := n2; have ha2 : last ≤ 9223372036854775807 := ha.2; by_cases h2 : 2 * (N : Int) > (l.length : Int) - last
   · obtain ⟨rfl, rfl⟩ : r1 = 0 ∧ r2 = 1 := by
      unfold zcS at er; rw [if_neg zgr, if_pos (.inr h2)] at er
      cases er; exact ⟨rfl, rfl⟩
     obtain ⟨u, hu⟩ : ∃ u, (l.length : Int) - last = u := ⟨_, rfl⟩
     have eu : wrap64 ((l.length : Int) - last) = u := by rw [zaI zq8 zq8]; exact hu
     have g2 : u < (M : Int) := by omega
     have g3 : decide (u < (M : Int)) = true := zdt g2; clear er hck n3 hM h2 h1; dsimp only [moV] at *; go_enter Try.func35, Try.ntmps35
     go_wp2_with (go_at_call 33; (with_reducible refine (KC.out _).mono ?_); rintro e w1 ⟨rfl, hb⟩; have mb1 := zax (zbL w _) hb; have d0 := zab mb1 0; have d1 := zab mb1 1; have d2 := zab mb1 2; have d3 := zab mb1 3; simp only [List.getElem?_toArray, List.getElem?_cons_zero, List.getElem?_cons_succ] at d0 d1 d2 d3; have HB1 := zaa.mk (And.intro mb1 hb); clear mb1 hb)
     go_ret2
     exact ⟨rfl, (zaq (Below.refl _ _) _).trans (HB1.out.2.mono (by simp))⟩
   obtain ⟨L, rfl⟩ := Int.eq_ofNat_of_zero_le (show 0 ≤ last by omega); obtain ⟨P, hP⟩ : ∃ P, l.length - L = P := ⟨_, rfl⟩
   have eu : wrap64 ((l.length : Int) - (L : Int)) = (P : Int) := by rw [zaI zq8 zq8]; omega
   have eu2 : (l.length : Int) - (L : Int) = (P : Int) := by omega
   have g2 : ¬ (P : Int) < (M : Int) := by omega
   have g4 : ¬ P < M := by omega
   have bP : P ≤ c := by omega
   have bP2 : P ≤ l.length := by omega
   have bP3 : ¬ c = P := by omega
   have hD : l.length - P = L := by omega
   obtain ⟨ad, rfl, _⟩ := Kd.zbE hr 0 zq8 zq8; have t1 : (l.take P).length = P := by simp; omega
   have m1 : Kd.C (Kd.int .i64) w (some ad) P (l.take P) := by
    have h := Kd.zhn hr (m := P) bP2; rwa [t1] at h
   have m2 : Kd.C (Kd.int .i64) w (some (ad.add P)) L (l.drop P) := by
    have h := Kd.zlU hr (m := P) bP2 hc; rw [List.length_drop, if_neg bP3, hD] at h; simpa [show (Kd.int .i64).sz = 1 from rfl] using h
   have hs0 : zcr (l.take P) ⟨(N : Int), ma, mb, mc⟩ = 0 := by
    unfold zcr; rw [if_neg zgr, t1, if_neg zhP]
   have ks : ∀ W, Kd.C (Kd.int .i64) W (some ad) P (l.take P) → Calls Try.prog 24 #[.slice (some ad) P P, moV ⟨(N : Int), ma, mb, mc⟩] W fun e w' => ∃ b, e = .returned (.tuple #[.pointer (some ⟨b, 0, none⟩), .int .i64 0]) ∧ zdJ w' W.heap.size w'.heap.size b ⟨(N : Int), ma, mb, mc⟩ (zbG (l.take P) ⟨(N : Int), ma, mb, mc⟩) ∧ Below W.heap.size W w' := fun W h => by
    refine (zpS (some ad) P P (l.take P) ⟨(N : Int), ma, mb, mc⟩ W t1 h (Nat.le_refl _) (zgk hin P) hm zq8).mono (fun e w' h => ?_); unfold zea at h; rw [if_neg (by rw [hs0]; decide)] at h; exact h
   obtain ⟨_, _, _, _, s5, s6⟩ := zfC hs0; rw [Int.toNat_natCast] at s5 s6; rw [t1] at s6; have hs := zev (l.take P) ⟨(N : Int), ma, mb, mc⟩; obtain ⟨s0, hs0'⟩ : ∃ s0, zbG (l.take P) ⟨(N : Int), ma, mb, mc⟩ = s0 := ⟨_, rfl⟩
   rw [hs0'] at ks s5 s6 hs; have er2 : ((l.drop P).foldl (zcf ⟨(N : Int), ma, mb, mc⟩) (0, s0)).1 = r1 ∧ r2 = 0 := by
    unfold zcS at er; rw [if_neg zgr, if_neg zhP] at er; dsimp only at er; rw [Int.toNat_natCast, hP, hs0'] at er; obtain ⟨x1, x2⟩ := Prod.mk.inj er; exact ⟨x1, x2.symm⟩
   have KS := zaa.mk ks; have HWI := zaa.mk n3; have HM := zaa.mk (And.intro m1 m2); have HI := zaa.mk (And.intro s5 (And.intro s6 (And.intro hs (And.intro er2 (And.intro hM hP))))); have n0 : 1 ≤ N := by omega
   clear n3 h2 ks m1 m2 s5 s6 hs er2 hs0 er hM hP hs0' hck t1 h1 hr; dsimp only [moV] at *; go_enter Try.func35, Try.ntmps35
   go_wp2_with (go_at_call 33; (with_reducible refine (KC.out _).mono ?_); rintro e w1 ⟨rfl, hb⟩; have mb1 := zax (zbL w _) hb; have d0 := zab mb1 0; have d1 := zab mb1 1; have d2 := zab mb1 2; have d3 := zab mb1 3; simp only [List.getElem?_toArray, List.getElem?_cons_zero, List.getElem?_cons_succ] at d0 d1 d2 d3; have HB1 := zaa.mk (And.intro mb1 hb); clear mb1 hb)
   have HB0 : zaa (Below w.heap.size w w1.drew) := ⟨zaj ((zaq (Below.refl _ _) _).trans (HB1.out.2.mono (by simp))) 1⟩
   go_region_held3 (fun w' => w'.cell? ⟨w.heap.size, 0, none⟩ = some (.int .i64 (N : Int)) ∧ w'.cell? ⟨w.heap.size, 1, none⟩ = some (.int .i64 ma) ∧ w'.cell? ⟨w.heap.size, 2, none⟩ = some (.int .i64 mb) ∧ w'.cell? ⟨w.heap.size, 3, none⟩ = some (.int .i64 mc)) (first | go_keep | exact ⟨zgg hb2 d0, zgg hb2 d1, zgg hb2 d2, zgg hb2 d3⟩) (first | (go_at_call 24; (with_reducible refine (KS.out _ (Kd.zaL HM.out.1 HB0.out)).mono ?_); rintro e w2 ⟨b, rfl, hst, hb2⟩))
   have HB2 : zaa (zdJ w2 w1.heap.size w2.heap.size b ⟨(N : Int), ma, mb, mc⟩ s0 ∧ Below w.heap.size w w2) := ⟨hst, HB0.out.trans (hb2.mono (by have := HB0.out.size; exact this))⟩
   have HL : zaa (w.heap.size ≤ w1.heap.size) := ⟨HB0.out.size⟩
   clear hst hb2 d0 d1 d2 d3; go_wp2; go_loopg [12, 54] L (fun kq v12 v54 W' => ∃ k : Nat, v54 = .int .i64 (k : Int) ∧ v12 = .int .i64 (((l.drop P).take k).foldl (zcf ⟨N, ma, mb, mc⟩) (0, s0)).1 ∧ zaa (kq + k = L) ∧ zaa (zdJ W' w1.heap.size w2.heap.size b ⟨N, ma, mb, mc⟩ (((l.drop P).take k).foldl (zcf ⟨N, ma, mb, mc⟩) (0, s0)).2 ∧ Below w1.heap.size w2 W'))
   case atStart => exact ⟨0, rfl, rfl, ⟨rfl⟩, ⟨by simpa using HB2.out.1, Below.refl _ _⟩⟩
   case round =>
    obtain ⟨k, rfl, rfl, HK, HS⟩ := hrel; by_cases ck : k < L; rotate_left
    · have c1 : decide ((k : Int) < (L : Int)) = false := zdf zq8; have hS2 : (((l.drop P).take k).foldl (zcf ⟨N, ma, mb, mc⟩) (0, s0)).1 = r1 := by
       rw [List.take_of_length_le (by rw [List.length_drop, hD]; omega)]; exact HI.out.2.2.2.1.1
      obtain rfl := HI.out.2.2.2.1.2; rw [hS2]; clear hS2; go_wp2; go_ret2
      exact ⟨rfl, HB2.out.2.trans (HS.out.2.mono HL.out)⟩
    have c1 : decide ((k : Int) < (L : Int)) = true := zdt zq8; obtain ⟨ad', e, r0⟩ := Kd.zbE (Kd.zaL HM.out.2 (HB2.out.2.trans (HS.out.2.mono HL.out))) (k : Int) zq8 zq8
    cases e; rw [Int.toNat_natCast] at r0; have j1 : FS.In (rd (l.drop P) (k : Int)) := zcb (zhK hin P) k; obtain ⟨q, hq⟩ : ∃ q, ((l.drop P).take k).foldl (zcf ⟨N, ma, mb, mc⟩) (0, s0) = q := ⟨_, rfl⟩
    have hq1 : FS.In q.1 := hq ▸ zgK _ _ _ (show FS.In 0 from ⟨zaR, zaR⟩); have hq2 : q.2 = ((l.drop P).take k).foldl (zcq ⟨N, ma, mb, mc⟩) s0 := by rw [← hq, zhC]
    have hS1 : q.2.In := by rw [hq2]; exact zgq _ _ _ HI.out.2.2.1
    have hS2 : q.2.parts.length = N := by rw [hq2, zfw]; exact HI.out.1
    have hS3 : q.2.k ≤ l.length := by
     rw [hq2, zhj, HI.out.2.1, List.length_take, List.length_drop, hD]; omega
    rw [hq] at HS ⊢; obtain ⟨x, hx⟩ : ∃ x, rd (l.drop P) (k : Int) = x := ⟨_, rfl⟩
    rw [hx] at j1 r0; obtain ⟨cv, hcv⟩ : ∃ cv, (zcl q.2 1).1 = cv := ⟨_, rfl⟩
    have j2 : FS.In cv := hcv ▸ (zgh q.2).2; have j3 := zlI x cv; have j4 := zee q.1 (distS x cv); have CC : zaa (∀ W, zdJ W w1.heap.size w2.heap.size b ⟨N, ma, mb, mc⟩ q.2 → Calls Try.prog 28 #[.pointer (some ⟨b, 0, none⟩), .int .i64 1] W fun e w' => e = .returned (.tuple #[.int .i64 cv, .int .i64 0]) ∧ Drawn0 W w') := ⟨fun W h => by
     have := zis w1.heap.size w2.heap.size b ⟨N, ma, mb, mc⟩ q.2 1 W h hS1 ⟨zaR, zaR⟩ zq8 zq8 zq8; rw [(zgh q.2).1, hcv] at this; exact this⟩
    have SC := zaa.mk (fun W (h : zdJ W w1.heap.size w2.heap.size b ⟨N, ma, mb, mc⟩ q.2) => zjj w1.heap.size w2.heap.size b ⟨N, ma, mb, mc⟩ q.2 x W h hS1 j1 HWI.out zq8 zq8 zq8); have SD : zaa (∀ n, zdJ (wr.drewN n) w1.heap.size w2.heap.size b ⟨N, ma, mb, mc⟩ q.2) := ⟨fun n => HS.out.1.kept (S := fun _ => False) ((zbM.refl _ _).drewN n) (fun _ _ _ h => h)⟩
    have HQ := zaa.mk (And.intro hq (And.intro hx (And.intro hcv ck))); have j5 := hq1; clear hq hx hcv hq1 hq2 hS1 hS2 hS3; obtain ⟨qs, hqs⟩ : ∃ qs, q.1 = qs := ⟨_, rfl⟩
    rw [hqs] at j4 j5 ⊢; have HQS := zaa.mk hqs; clear hqs
    cases gk with
    | zero => exact absurd HK.out (by have := HQ.out.2.2.2; omega)
    | succ k1 =>
     go_wp2_with (first | (go_at_call 28; (with_reducible refine (CC.out _ HS.out.1).mono ?_); rintro e w' ⟨rfl, ⟨nd, rfl⟩⟩) | (go_at_call 73; (with_reducible refine (zjF x cv zba zba _).mono ?_); rintro e w' ⟨rfl, ⟨nd, rfl⟩⟩) | (go_at_call 67; (with_reducible refine (zhH zba zba _).mono ?_); rintro e w' ⟨rfl, ⟨nd, rfl⟩⟩) | (go_at_call 30; (with_reducible refine (SC.out _ (SD.out _)).mono ?_); rintro e w' ⟨⟨v, rfl⟩, hst, hb, hkp⟩; have HR := zaa.mk (And.intro hst hb); clear hst hb hkp))
     go_roundg k1
     case measure => omega
     case rel =>
      obtain ⟨hq, hx, hcv, hk⟩ := HQ.out; have e := ziP ⟨N, ma, mb, mc⟩ (l.drop P) (0, s0) k (by rw [List.length_drop, hD]; exact hk); rw [hq, hx] at e; unfold zcf at e; rw [hcv, HQS.out] at e; refine ⟨k + 1, zbR, by unfold zcf; rw [e], ⟨zdh⟩, ⟨?_, HS.out.2.trans ((zaj (Below.refl _ _) _).trans HR.out.2)⟩⟩; unfold zcf; rw [e]; exact HR.out.1
 · obtain ⟨rfl, rfl⟩ : r1 = 0 ∧ r2 = 1 := by
    unfold zcS at er; rw [if_pos zgr] at er
    cases er; exact ⟨rfl, rfl⟩
   rw [hck] at kc; have KC := zaa.mk kc; obtain ⟨n, ma, mb, mc⟩ := m; clear kc er hck; dsimp only [moV] at KC ⊢; go_enter Try.func35, Try.ntmps35
   go_wp2_with (go_at_call 33; (with_reducible refine (KC.out _).mono ?_); rintro e w1 ⟨rfl, hb⟩)
   go_ret2
   exact ⟨rfl, (zaq (Below.refl _ _) _).trans (hb.mono (by simp))⟩
theorem ziL (a b : Int) (ha : FS.In a) (hb : FS.In b) (w : World) :
  Calls Try.prog 74 #[.int .i64 a, .int .i64 b] w fun e w' => e = .returned (.int .i64 (distS a b)) ∧ Drawn0 w w' := by
 have e1 : distS a b = if a < b then zbk b a else zbk a b := rfl
 by_cases h : a < b
 · rw [if_pos h] at e1; rw [e1]; clear e1; go_enter Try.func74, Try.ntmps74
   go_wp2_with (go_at_call 63; (with_reducible refine (zii zba zba _).mono ?_); rintro e w' ⟨rfl, ⟨nd, rfl⟩⟩)
   go_ret; exact ⟨rfl, zq3⟩
 rw [if_neg h] at e1; rw [e1]; clear e1; go_enter Try.func74, Try.ntmps74
 go_wp2_with (go_at_call 63; (with_reducible refine (zii zba zba _).mono ?_); rintro e w' ⟨rfl, ⟨nd, rfl⟩⟩)
 go_ret; exact ⟨rfl, zq3⟩
theorem zlZ (A : Option Addr) (c : Nat) (l : List Int) (m : Mo) (ahead : Int) (w : World) (hr : Kd.C (Kd.int .i64) w A l.length l) (hc : l.length ≤ c) (hin : AllIn l) (hm : FS.In m.n) (ha : FS.In ahead) (hll : l.length ≤ 1000000000) :
  Calls Try.prog 34 #[.slice A l.length c, moV m, .int .i64 ahead] w fun e w' => e = .returned (.tuple #[.int .i64 (zgN l m ahead).1, .int .i64 (zgN l m ahead).2]) ∧ Below w.heap.size w w' := by
 have ks : ∀ W, Kd.C (Kd.int .i64) W A l.length l → Calls Try.prog 25 #[.slice A l.length c, moV m] W (zcW W l m) := fun W h => zgu A c l m W h hc hin hm hll
 have HR := zaa.mk hr; clear hr
 rcases znG l m with h0 | h0
 · obtain ⟨n1, n2, n3, n4, n5, n6⟩ := zfC h0; have ks' : ∀ W, Kd.C (Kd.int .i64) W A l.length l → Calls Try.prog 25 #[.slice A l.length c, moV m] W fun e w' => ∃ b, e = .returned (.tuple #[.pointer (some ⟨b, 0, none⟩), .int .i64 0]) ∧ zdg w' W.heap.size w'.heap.size b m (zbG l m) ∧ Below W.heap.size W w' := fun W h => by
    refine (ks W h).mono (fun e w' h => ?_); unfold zcW at h; rw [if_neg (by rw [h0]; decide)] at h; exact h
   have ec : zgN l m ahead = zcl (zbG l m) ahead := by unfold zgN; rw [if_neg (by rw [h0]; decide)]
   rw [ec]; have KC := zaa.mk (fun lo hi b W (h : zdg W lo hi b m (zbG l m)) => zfW lo hi b m (zbG l m) ahead W h (zev l m) ha (by rw [n6]; omega) (by rw [n5]; omega) (by rw [n5]; omega) (by rw [n5]; omega)); have KS := zaa.mk ks'; clear ks ks' ec h0 n1 n2 n3 n4 n5 n6; obtain ⟨n, ma, mb, mc⟩ := m; obtain ⟨r1, r2⟩ : ∃ r, zcl (zbG l ⟨n, ma, mb, mc⟩) ahead = r := ⟨_, rfl⟩
   obtain ⟨r1, r3⟩ := r1; rw [r2] at KC ⊢; have R2 := zaa.mk r2; clear r2; dsimp only [moV] at KS ⊢; go_enter Try.func34, Try.ntmps34
   go_wp2_with (first | (go_at_call 25; (with_reducible refine (KS.out _ (Kd.zcF HR.out _)).mono ?_); rintro e w1 ⟨b, rfl, hst, hb⟩; have HS := zaa.mk (And.intro hst hb); clear hst hb) | (go_at_call 29; (with_reducible refine (KC.out _ _ _ _ HS.out.1).mono ?_); rintro e w' ⟨rfl, hb3⟩; have H3 := zaa.mk hb3; clear hb3))
   go_ret2
   have hsz := HS.out.2.size; simp at hsz
   exact ⟨rfl, ((zaq (Below.refl _ _) _).trans (HS.out.2.mono (by simp))).trans (H3.out.mono zq8)⟩
 · have ks' : ∀ W, Kd.C (Kd.int .i64) W A l.length l → Calls Try.prog 25 #[.slice A l.length c, moV m] W fun e w' => e = .returned (.tuple #[.pointer none, .int .i64 1]) ∧ Below W.heap.size W w' := fun W h => by
    refine (ks W h).mono (fun e w' h => ?_); unfold zcW at h; rw [if_pos (by rw [h0]; decide)] at h; exact h
   have ec : zgN l m ahead = (0, 1) := by unfold zgN; rw [if_pos (by rw [h0]; decide)]
   rw [ec]; have KS := zaa.mk ks'; clear ks ks' ec h0; obtain ⟨n, ma, mb, mc⟩ := m; dsimp only [moV] at KS ⊢; go_enter Try.func34, Try.ntmps34
   go_wp2_with (go_at_call 25; (with_reducible refine (KS.out _ (Kd.zcF HR.out _)).mono ?_); rintro e w1 ⟨rfl, hb⟩)
   go_ret2
   exact ⟨rfl, (zaq (Below.refl _ _) _).trans (hb.mono (by simp))⟩
theorem zoV (A : Option Addr) (n c : Nat) (l : List Int) (m : Mo) (w : World) (e : l.length = n) (hr : Kd.C (Kd.int .i64) w A n l) (hc : n ≤ c) (hin : AllIn l) (hm : FS.In m.n) (hll : n ≤ 1000000000) :
  Calls Try.prog 25 #[.slice A n c, moV m] w (zcW w l m) := by
 subst e; exact zgu A c l m w hr hc hin hm hll
theorem zlY (A : Option Addr) (c : Nat) (l : List Int) (m : Mo) (last : Int) (w : World) (hr : Kd.C (Kd.int .i64) w A l.length l) (hc : l.length ≤ c) (hin : AllIn l) (hm : FS.In m.n) (ha : FS.In last) (hll : l.length ≤ 1000000000) :
  Calls Try.prog 36 #[.slice A l.length c, moV m, .int .i64 last] w fun e w' => e = .returned (.tuple #[.int .i64 (zcS l m last).1, .int .i64 (zcS l m last).2]) ∧ Below w.heap.size w w' := by
 obtain ⟨r, er⟩ : ∃ r, zcS l m last = r := ⟨_, rfl⟩
 rw [er]; obtain ⟨r1, r2⟩ := r; have kc := zih m
 rcases zhJ m with hck | hck
 · obtain ⟨⟨n1, n2⟩, n3⟩ := zgF hck; rw [hck] at kc; have KC := zaa.mk kc; clear kc; by_cases h1 : last < 1
   · obtain ⟨rfl, rfl⟩ : r1 = 0 ∧ r2 = 1 := by
      unfold zcS at er; rw [if_neg zgr, if_pos (.inl h1)] at er
      cases er; exact ⟨rfl, rfl⟩
     have g1 := zdt h1; obtain ⟨n, ma, mb, mc⟩ := m; clear er hck n3; dsimp only [moV] at *; go_enter Try.func36, Try.ntmps36
     go_wp2_with (go_at_call 32; (with_reducible refine (KC.out _).mono ?_); rintro e w1 ⟨rfl, hb⟩)
     go_ret2
     exact ⟨rfl, (zaq (Below.refl _ _) _).trans (hb.mono (by simp))⟩
   have g1 := zdf h1; obtain ⟨n, ma, mb, mc⟩ := m; dsimp only at n1 n2 hm; obtain ⟨N, rfl⟩ := Int.eq_ofNat_of_zero_le (show 0 ≤ n by omega); obtain ⟨M, hM⟩ : ∃ M, 2 * N = M := ⟨_, rfl⟩
   have e2 : wrap64 (2 * (N : Int)) = (M : Int) := by rw [zaI zq8 zq8]; omega
   have e3 : (2 * (N : Int)) = (M : Int) := by omega
   have b0 : (N : Int) ≤ 10000 := n2; have ha2 : last ≤ 9223372036854775807 := ha.2; by_cases h2 : (l.length : Int) < (M : Int)
   · obtain ⟨rfl, rfl⟩ : r1 = 0 ∧ r2 = 1 := by
      unfold zcS at er; rw [if_neg zgr, if_pos (.inr zhP)] at er
      cases er; exact ⟨rfl, rfl⟩
     have g2 := zdt h2; have g3 : l.length < M := by omega
     clear hM; clear er hck n3 h1; dsimp only [moV] at *; go_enter Try.func36, Try.ntmps36
     go_wp2_with (go_at_call 32; (with_reducible refine (KC.out _).mono ?_); rintro e w1 ⟨rfl, hb⟩; have mb1 := zax (zbL w _) hb; have d0 := zab mb1 0; have d1 := zab mb1 1; have d2 := zab mb1 2; have d3 := zab mb1 3; simp only [List.getElem?_toArray, List.getElem?_cons_zero, List.getElem?_cons_succ] at d0 d1 d2 d3; have HB1 := zaa.mk (And.intro mb1 hb); clear mb1 hb)
     go_ret2
     exact ⟨rfl, (zaq (Below.refl _ _) _).trans (HB1.out.2.mono (by simp))⟩
   have g3 : ¬ l.length < M := by omega
   have g2 := zdf h2; obtain ⟨Q, hQ⟩ : ∃ Q, l.length - M = Q := ⟨_, rfl⟩
   have eq1 : wrap64 ((l.length : Int) - (M : Int)) = (Q : Int) := by rw [zaI zq8 zq8]; omega
   have eq2 : (l.length : Int) - (M : Int) = (Q : Int) := by omega
   by_cases h4 : (Q : Int) < last
   · obtain ⟨rfl, rfl⟩ : r1 = 0 ∧ r2 = 1 := by
      unfold zcS at er; rw [if_neg zgr, if_pos (.inr zhP)] at er
      cases er; exact ⟨rfl, rfl⟩
     have g4 := zdt h4; clear hM hQ h2; clear er hck n3 h1; dsimp only [moV] at *; go_enter Try.func36, Try.ntmps36
     go_wp2_with (go_at_call 32; (with_reducible refine (KC.out _).mono ?_); rintro e w1 ⟨rfl, hb⟩; have mb1 := zax (zbL w _) hb; have d0 := zab mb1 0; have d1 := zab mb1 1; have d2 := zab mb1 2; have d3 := zab mb1 3; simp only [List.getElem?_toArray, List.getElem?_cons_zero, List.getElem?_cons_succ] at d0 d1 d2 d3; have HB1 := zaa.mk (And.intro mb1 hb); clear mb1 hb)
     go_ret2
     exact ⟨rfl, (zaq (Below.refl _ _) _).trans (HB1.out.2.mono (by simp))⟩
   have g4 := zdf h4; obtain ⟨L, rfl⟩ := Int.eq_ofNat_of_zero_le (show 0 ≤ last by omega); have g5 : ¬ Q < L := by omega
   obtain ⟨P, hP⟩ : ∃ P, l.length - L = P := ⟨_, rfl⟩
   have eu : wrap64 ((l.length : Int) - (L : Int)) = (P : Int) := by rw [zaI zq8 zq8]; omega
   have eu1 : IntKind.i64.wrap ((l.length : Int) - (L : Int)) = (P : Int) := by rw [zeE zq8 zq8]; omega
   have eu2 : (l.length : Int) - (L : Int) = (P : Int) := by omega
   have bP : P ≤ c := by omega
   have bP2 : P ≤ l.length := by omega
   obtain ⟨ad, rfl, _⟩ := Kd.zbE hr 0 zq8 zq8; have t1 : (l.take P).length = P := by simp; omega
   have m1 : Kd.C (Kd.int .i64) w (some ad) P (l.take P) := by
    have h := Kd.zhn hr (m := P) bP2; rwa [t1] at h
   have hs0 : zcr (l.take P) ⟨(N : Int), ma, mb, mc⟩ = 0 := by
    unfold zcr; rw [if_neg zgr, t1, if_neg zhP]
   have ks : ∀ W, Kd.C (Kd.int .i64) W (some ad) P (l.take P) → Calls Try.prog 25 #[.slice (some ad) P c, moV ⟨(N : Int), ma, mb, mc⟩] W fun e w' => ∃ b, e = .returned (.tuple #[.pointer (some ⟨b, 0, none⟩), .int .i64 0]) ∧ zdg w' W.heap.size w'.heap.size b ⟨(N : Int), ma, mb, mc⟩ (zbG (l.take P) ⟨(N : Int), ma, mb, mc⟩) ∧ Below W.heap.size W w' := fun W h => by
    refine (zoV (some ad) P c (l.take P) ⟨(N : Int), ma, mb, mc⟩ W t1 h bP (zgk hin P) hm zq8).mono (fun e w' h => ?_); unfold zcW at h; rw [if_neg (by rw [hs0]; decide)] at h; exact h
   obtain ⟨_, _, _, _, s5, s6⟩ := zfC hs0; rw [Int.toNat_natCast] at s5 s6; rw [t1] at s6; have hs := zev (l.take P) ⟨(N : Int), ma, mb, mc⟩; obtain ⟨s0, hs0'⟩ : ∃ s0, zbG (l.take P) ⟨(N : Int), ma, mb, mc⟩ = s0 := ⟨_, rfl⟩
   rw [hs0'] at ks s5 s6 hs; have er2 : ((l.drop P).foldl (zcf ⟨(N : Int), ma, mb, mc⟩) (0, s0)).1 = r1 ∧ r2 = 0 := by
    unfold zcS at er; rw [if_neg zgr, if_neg zhP] at er; dsimp only at er; rw [Int.toNat_natCast, hP, hs0'] at er; obtain ⟨x1, x2⟩ := Prod.mk.inj er; exact ⟨x1, x2.symm⟩
   have KS := zaa.mk ks; have HWI := zaa.mk n3; have HM := zaa.mk (And.intro m1 hr); have HI := zaa.mk (And.intro s5 (And.intro s6 (And.intro hs (And.intro er2 (And.intro hM hP))))); have n0 : 1 ≤ N := by omega
   clear n3 h2 ks m1 s5 s6 hs er2 hs0 er hM hP hs0' hck t1 h1 hr h4 hQ; dsimp only [moV] at *; go_enter Try.func36, Try.ntmps36
   go_wp2_with (go_at_call 32; (with_reducible refine (KC.out _).mono ?_); rintro e w1 ⟨rfl, hb⟩; have mb1 := zax (zbL w _) hb; have d0 := zab mb1 0; have d1 := zab mb1 1; have d2 := zab mb1 2; have d3 := zab mb1 3; simp only [List.getElem?_toArray, List.getElem?_cons_zero, List.getElem?_cons_succ] at d0 d1 d2 d3; have HB1 := zaa.mk (And.intro mb1 hb); clear mb1 hb)
   refine zbU 7 zq6 zq6 rfl ?_; simp only [List.take_succ_cons, List.take_zero, List.drop_succ_cons, List.drop_zero]; repeat (go_big_quiet_step (fail))
   refine wpQuiet_nil ?_; rintro W1 ⟨nq, hnq⟩ K hK; have HB0 : zaa (Below w.heap.size w W1) := ⟨hnq ▸ zaj ((zaq (Below.refl _ _) _).trans (HB1.out.2.mono (by simp))) _⟩
   clear hnq nq; refine zcT Try.func25 zq6 rfl #[.slice (some ad) P c, .agg #[.int .i64 (N : Int), .int .i64 ma, .int .i64 mb, .int .i64 mc]] (by rfl) rfl rfl zdi ?_; refine (KS.out _ (Kd.zaL HM.out.1 HB0.out)).mono ?_; rintro e w2 ⟨b, rfl, hst, hb2⟩; refine ⟨_, rfl, hK _ _ ?_⟩; clear hK K d0 d1 d2 d3; simp only [Act.put, List.setIfInBounds_toArray, List.set_cons_zero, List.set_cons_succ]; repeat (go_big_quiet_step (fail))
   refine wpQuiet_nil ?_; rintro w3 ⟨n3, hn3⟩; have HB2 : zaa (zdg w3 W1.heap.size w2.heap.size b ⟨(N : Int), ma, mb, mc⟩ s0 ∧ Below w.heap.size w w3) := ⟨by rw [hn3]; exact hst.kept (S := fun _ => False) ((zbM.refl _ _).drewN n3) (fun _ _ _ h => h), by rw [hn3]; exact zaj (HB0.out.trans (hb2.mono HB0.out.size)) n3⟩
   have HL : zaa (w.heap.size ≤ W1.heap.size) := ⟨HB0.out.size⟩
   clear hst hb2 hn3; go_wp2; go_loopg [11, 12] L (fun kq v11 v12 W' => ∃ k : Nat, v12 = .int .i64 ((P + k : Nat) : Int) ∧ v11 = .int .i64 (((l.drop P).take k).foldl (zcf ⟨N, ma, mb, mc⟩) (0, s0)).1 ∧ zaa (kq + k = L) ∧ zaa (zdg W' W1.heap.size w2.heap.size b ⟨N, ma, mb, mc⟩ (((l.drop P).take k).foldl (zcf ⟨N, ma, mb, mc⟩) (0, s0)).2 ∧ Below w.heap.size w3 W'))
   case atStart => exact ⟨0, rfl, rfl, ⟨rfl⟩, ⟨by simpa using HB2.out.1, Below.refl _ _⟩⟩
   case round =>
    obtain ⟨k, rfl, rfl, HK, HS⟩ := hrel; obtain ⟨T, hT⟩ : ∃ T, P + k = T := ⟨_, rfl⟩
    rw [hT]; by_cases ck : T < l.length; rotate_left
    · have c1 : decide ((T : Int) < (l.length : Int)) = false := zdf zq8; have hS2 : (((l.drop P).take k).foldl (zcf ⟨N, ma, mb, mc⟩) (0, s0)).1 = r1 := by
       rw [List.take_of_length_le zjN]; exact HI.out.2.2.2.1.1
      obtain rfl := HI.out.2.2.2.1.2; rw [hS2]; clear hS2; go_wp2; go_ret2
      exact ⟨rfl, HB2.out.2.trans HS.out.2⟩
    have c1 : decide ((T : Int) < (l.length : Int)) = true := zdt zq8; obtain ⟨ad', e, r0⟩ := Kd.zbE (Kd.zaL HM.out.2 (HB2.out.2.trans HS.out.2)) (T : Int) zq8 zq8
    cases e; rw [Int.toNat_natCast] at r0; have hPL := HI.out.2.2.2.2.2; have hrd : rd (l.drop P) (k : Int) = rd l (T : Int) := by
     show (l.drop P).getD k 0 = l.getD T 0
     simp only [List.getD_eq_getElem?_getD, List.getElem?_drop]; rw [hT]
    have j1 : FS.In (rd l (T : Int)) := zcb hin T; obtain ⟨q, hq⟩ : ∃ q, ((l.drop P).take k).foldl (zcf ⟨N, ma, mb, mc⟩) (0, s0) = q := ⟨_, rfl⟩
    have hq1 : FS.In q.1 := hq ▸ zgK _ _ _ (show FS.In 0 from ⟨zaR, zaR⟩); have hq2 : q.2 = ((l.drop P).take k).foldl (zcq ⟨N, ma, mb, mc⟩) s0 := by rw [← hq, zhC]
    have hS1 : q.2.In := by rw [hq2]; exact zgq _ _ _ HI.out.2.2.1
    have hS2 : q.2.parts.length = N := by rw [hq2, zfw]; exact HI.out.1
    have hS3 : q.2.k ≤ l.length := by
     rw [hq2, zhj, HI.out.2.1, List.length_take, List.length_drop]; omega
    rw [hq] at HS ⊢; obtain ⟨x, hx⟩ : ∃ x, rd l (T : Int) = x := ⟨_, rfl⟩
    rw [hx] at j1 r0 hrd; obtain ⟨cv, hcv⟩ : ∃ cv, (zcl q.2 1).1 = cv := ⟨_, rfl⟩
    have j2 : FS.In cv := hcv ▸ (zgh q.2).2; have j3 := zlI x cv; have j4 := zee q.1 (distS x cv); have CC : zaa (∀ W, zdg W W1.heap.size w2.heap.size b ⟨N, ma, mb, mc⟩ q.2 → Calls Try.prog 29 #[.pointer (some ⟨b, 0, none⟩), .int .i64 1] W fun e w' => e = .returned (.tuple #[.int .i64 cv, .int .i64 0]) ∧ Below W.heap.size W w') := ⟨fun W h => by
     have := zfW W1.heap.size w2.heap.size b ⟨N, ma, mb, mc⟩ q.2 1 W h hS1 ⟨zaR, zaR⟩ zq8 zq8 zq8 (by rw [hS2]); rw [(zgh q.2).1, hcv] at this; exact this⟩
    have SC := zaa.mk (fun W (h : zdg W W1.heap.size w2.heap.size b ⟨N, ma, mb, mc⟩ q.2) => ziJ W1.heap.size w2.heap.size b ⟨N, ma, mb, mc⟩ q.2 x W h hS1 j1 HWI.out zq8 zq8 zq8 (by rw [hS2])); have SD : zaa (∀ W, Below wr.heap.size wr W → zdg W W1.heap.size w2.heap.size b ⟨N, ma, mb, mc⟩ q.2) := ⟨fun W hW => HS.out.1.kept (S := fun _ => False) (zbM.of_below hW _) (fun _ _ _ h => h)⟩
    have hkL : k < L := by omega
    have HQ := zaa.mk (And.intro hq (And.intro hrd (And.intro hcv (And.intro hkL hT)))); have j5 := hq1; clear hq hx hrd hcv hq1 hq2 hS1 hS2 hS3; obtain ⟨qs, hqs⟩ : ∃ qs, q.1 = qs := ⟨_, rfl⟩
    rw [hqs] at j4 j5 ⊢; have HQS := zaa.mk hqs; clear hqs hT hPL
    cases gk with
    | zero => exact absurd HK.out zq8
    | succ k1 =>
     go_wp2_with (first | (go_at_call 29; (with_reducible refine (CC.out _ HS.out.1).mono ?_); rintro e w4 ⟨rfl, hb3⟩; have r1' := (hb3.cell (World.block_lt_of_cell? _ _ r0)).trans r0; have H3 := zaa.mk hb3; clear hb3 r0) | (go_at_call 74; (with_reducible refine (ziL x cv zba zba _).mono ?_); rintro e w' ⟨rfl, ⟨nd, rfl⟩⟩) | (go_at_call 55; (with_reducible refine (zjb zba zba _).mono ?_); rintro e w' ⟨rfl, ⟨nd, rfl⟩⟩) | (go_at_call 31; (with_reducible refine (SC.out _ (SD.out _ (zaj H3.out _))).mono ?_); rintro e w' ⟨⟨v, rfl⟩, hst, hb, hkp⟩; have HR := zaa.mk (And.intro hst hb); clear hst hb hkp))
     go_roundg k1
     case measure => omega
     case rel =>
      obtain ⟨hq, hx, hcv, hk, hT⟩ := HQ.out; have e := ziP ⟨N, ma, mb, mc⟩ (l.drop P) (0, s0) k (by rw [List.length_drop]; have := HI.out.2.2.2.2.2; omega); rw [hq, hx] at e; unfold zcf at e; rw [hcv, HQS.out] at e; have hBw : Below w.heap.size w3 wr := HS.out.2; have hsz := hBw.size; refine ⟨k + 1, by rw [← hT]; go_num, by unfold zcf; rw [e], ⟨zdh⟩, ⟨?_, (HS.out.2.trans ((zaj H3.out _).mono (by have := HB2.out.2.size; omega))).trans (HR.out.2.mono HL.out)⟩⟩; unfold zcf; rw [e]; exact HR.out.1
 · obtain ⟨rfl, rfl⟩ : r1 = 0 ∧ r2 = 1 := by
    unfold zcS at er; rw [if_pos zgr] at er
    cases er; exact ⟨rfl, rfl⟩
   rw [hck] at kc; have KC := zaa.mk kc; obtain ⟨n, ma, mb, mc⟩ := m; clear kc er hck; dsimp only [moV] at KC ⊢; go_enter Try.func36, Try.ntmps36
   go_wp2_with (go_at_call 32; (with_reducible refine (KC.out _).mono ?_); rintro e w1 ⟨rfl, hb⟩)
   go_ret2
   exact ⟨rfl, (zaq (Below.refl _ _) _).trans (hb.mono (by simp))⟩
end Go.Proofs.Ytemnfnbjapobcaa.Ho
end
section
namespace Go.Proofs.Ytemnfnbjapobcaa
open Go.Proofs.Ytemnfnbjapobcaa.HS
def okL (l : List Int) : Bool := zlS l && decide (l.length ≤ 1000000000)
theorem zff {l : List Int} : okL l = true ↔ AllIn l ∧ l.length ≤ 1000000000 := by unfold okL; simp [zny]
end Go.Proofs.Ytemnfnbjapobcaa
end
section
namespace Go.Proofs.Ytemnfnbjapobcaa.Ho
open Go.RowKit Go.Proofs.ZW.PrintWords Go.Proofs.ZW.PrintLast Go.Proofs.ZW.PrintMore
open Go.Proofs.Ytemnfnbjapobcaa.FS Go.Proofs.Ytemnfnbjapobcaa.HS Go.Proofs.Ytemnfnbjapobcaa.FM
def kMo : Kd Mo := Kd.iso (Kd.pair (Kd.int .i64) (Kd.pair (Kd.int .i64) (Kd.pair (Kd.int .i64) (Kd.int .i64)))) (fun x : Mo => (x.n, x.a, x.b, x.c))
def zbW (x : Mo) : List Value := [.int .i64 x.n, .int .i64 x.a, .int .i64 x.b, .int .i64 x.c]
theorem zpo {w : World} {x : Mo} {cs : List Value} (h : kMo.K w x cs) : cs = zbW x := by
 obtain ⟨_, _, rfl, rfl, ⟨_, _, rfl, rfl, ⟨_, _, rfl, rfl, rfl⟩⟩⟩ := h; exact rfl
theorem zdo (w : World) (base : Nat) (ok : Nat → Prop) (x : Mo) : kMo.M w base ok x (zbW x) := ⟨[.int .i64 x.n], [.int .i64 x.a, .int .i64 x.b, .int .i64 x.c], rfl, rfl, ⟨[.int .i64 x.a], [.int .i64 x.b, .int .i64 x.c], rfl, rfl, ⟨[.int .i64 x.b], [.int .i64 x.c], rfl, rfl, rfl⟩⟩⟩
theorem zdO : (Try.prog.info? 29).map (fun i => (i.zero, i.size, i.bytes)) = some (some (.agg #[(.int .i64 0), (.int .i64 0), (.int .i64 0), (.int .i64 0)]), 4, 32) := by kernel_rfl
def zbt (s : Int) : List Mo := [⟨s, 1073741824, 0, 536870912⟩, ⟨s, 1073741824, 0, 2147483648⟩, ⟨s, 1073741824, 536870912, 536870912⟩, ⟨s, 1073741824, 536870912, 2147483648⟩, ⟨s, 2147483648, 0, 536870912⟩, ⟨s, 2147483648, 0, 2147483648⟩, ⟨s, 2147483648, 536870912, 536870912⟩, ⟨s, 2147483648, 536870912, 2147483648⟩]
def zed (s : Int) : List Mo := if s < 1 ∨ s > 10000 then [] else zbt s
theorem zej (n : Int) (w : World) : Calls Try.prog 77 #[.int .i64 n] w fun e w' => e = .returned (.bool (decide (1 ≤ n ∧ n ≤ 10000))) ∧ Drawn0 w w' := by
 by_cases h1 : n ≥ 1; rotate_left
 · have c1 := zdf h1; have e : decide (1 ≤ n ∧ n ≤ 10000) = false := zdf (fun h => h1 h.1); rw [e]; clear h1 e; go_enter Try.func77, Try.ntmps77
   go_wp2; go_ret; exact ⟨rfl, Drawn0.refl _⟩
 have c1 := zdt h1; by_cases h2 : n ≤ 10000
 · have c2 := zdt h2; have e : decide (1 ≤ n ∧ n ≤ 10000) = true := zdt ⟨h1, h2⟩; rw [e]; clear h1 h2 e; go_enter Try.func77, Try.ntmps77
   go_wp2; go_ret; exact ⟨rfl, Drawn0.refl _⟩
 have c2 := zdf h2; have e : decide (1 ≤ n ∧ n ≤ 10000) = false := zdf (fun h => h2 h.2); rw [e]; clear h1 h2 e; go_enter Try.func77, Try.ntmps77
 go_wp2; go_ret; exact ⟨rfl, Drawn0.refl _⟩
theorem zrC (a b : Int) (W : World) : (Sem.run Try.prog (Instr.index 108 (Value.agg #[Value.int IntKind.i64 a, Value.int IntKind.i64 b]) (Value.int IntKind.i64 0)) W) = .ok (.int .i64 a) W := by
 simp [Instr.index, go_sem]
theorem zrB (a b : Int) (W : World) : (Sem.run Try.prog (Instr.index 108 (Value.agg #[Value.int IntKind.i64 a, Value.int IntKind.i64 b]) (Value.int IntKind.i64 1)) W) = .ok (.int .i64 b) W := by
 simp [Instr.index, go_sem]
theorem zlD (s : Int) (w : World) :
  Calls Try.prog 41 #[.int .i64 s] w fun e w' => ∃ v, e = .returned v ∧ Kd.R kMo 29 w' w.heap.size (fun _ => True) v (zed s) ∧ Below w.heap.size w w' := by
 by_cases h : s < 1 ∨ s > 10000
 · have e0 : zed s = [] := if_pos h; have c0 : decide (1 ≤ s ∧ s ≤ 10000) = false := zdf zq8; have KC := zaa.mk (fun W => c0 ▸ zej s W); rw [e0]; clear h e0 c0; go_enter Try.func41, Try.ntmps41
   go_wp2_with (first | (go_at_call 77; (with_reducible refine (KC.out _).mono ?_); rintro e w' ⟨rfl, ⟨nd, rfl⟩⟩))
   go_ret; exact ⟨_, rfl, Kd.R_nil _ _ _ _ _, zaj (Below.refl _ _) _⟩
 have e0 : zed s = zbt s := if_neg h; have c0 : decide (1 ≤ s ∧ s ≤ 10000) = true := zdt zq8; have KC := zaa.mk (fun W => c0 ▸ zej s W); rw [e0]; clear h e0 c0; have i0 := zrC; have i1 := zrB; go_enter Try.func41, Try.ntmps41
 go_wp2_with (first | (go_at_call 77; (with_reducible refine (KC.out _).mono ?_); rintro e w' ⟨rfl, ⟨nd, rfl⟩⟩))
 go_loopg [3, 14] 2 (fun kq v3 v14 W' => ∃ i : Nat, v14 = .int .i64 (i : Int) ∧ zaa (kq + i = 2) ∧ zaa (Kd.R kMo 29 W' w.heap.size (fun _ => True) v3 ((zbt s).take (4 * i))) ∧ zaa (Below w.heap.size w W'))
 case atStart => exact ⟨0, rfl, ⟨rfl⟩, ⟨Kd.R_nil _ _ _ _ _⟩, ⟨zaj (Below.refl _ _) _⟩⟩
 case round =>
  obtain ⟨i, rfl, HK, HO, HB⟩ := hrel; obtain ⟨U, rfl⟩ : ∃ U : World, U = wr := ⟨_, rfl⟩
  cases gk with
  | zero =>
   obtain rfl : i = 2 := by have := HK.out; omega
   go_wp2; go_ret; exact ⟨_, rfl, HO.out, HB.out⟩
  | succ k1 =>
   have hi : i = 0 ∨ i = 1 := by have := HK.out; omega
   rcases hi with rfl | rfl
   · go_wp2; go_loopg [3, 18] 2 (fun kq v3 v18 W' => ∃ j : Nat, v18 = .int .i64 (j : Int) ∧ zaa (kq + j = 2) ∧ zaa (Kd.R kMo 29 W' w.heap.size (fun _ => True) v3 ((zbt s).take (0 + 2 * j))) ∧ zaa (Below w.heap.size w W'))
     case atStart => exact ⟨0, rfl, ⟨rfl⟩, HO, HB⟩
     case round =>
      clear HO HB; obtain ⟨j, rfl, HK2, HO, HB⟩ := hrel; obtain ⟨U2, rfl⟩ : ∃ U : World, U = wr := ⟨_, rfl⟩
      cases gk with
      | zero =>
       obtain rfl : j = 2 := by have := HK2.out; omega
       go_wp2; go_roundg k1
       case measure => omega
       case rel => exact ⟨1, zbR, ⟨zdh⟩, HO, HB⟩
      | succ k2 =>
       have hj : j = 0 ∨ j = 1 := by have := HK2.out; omega
       rcases hj with rfl | rfl
       · go_wp2; go_loopg [3, 22] 2 (fun kq v3 v22 W' => ∃ k : Nat, v22 = .int .i64 (k : Int) ∧ zaa (kq + k = 2) ∧ zaa (Kd.R kMo 29 W' w.heap.size (fun _ => True) v3 ((zbt s).take (0 + k))) ∧ zaa (Below w.heap.size w W'))
         case atStart => exact ⟨0, rfl, ⟨rfl⟩, HO, HB⟩
         case round =>
          clear HO HB; obtain ⟨k, rfl, HK3, HO, HB⟩ := hrel; obtain ⟨U3, rfl⟩ : ∃ U : World, U = wr := ⟨_, rfl⟩
          cases gk with
          | zero =>
           obtain rfl : k = 2 := by have := HK3.out; omega
           go_wp2; go_roundg k2
           case measure => omega
           case rel => exact ⟨1, zbR, ⟨zhS⟩, HO, HB⟩
          | succ k3 =>
           have hk : k = 0 ∨ k = 1 := by have := HK3.out; omega
           rcases hk with rfl | rfl
           · go_wp2_with (at_builtin; refine Kd.zcy kMo (w0 := w) w.heap.size rfl (.tmp 25) (.tmp 31) 58 29 (.agg #[(.int .i64 0), (.int .i64 0), (.int .i64 0), (.int .i64 0)]) 32 rfl Try.underlying58 zdO rfl zaR zq8 u3 ((zbt s).take 0) ⟨s, 1073741824, 0, 536870912⟩ (zbW ⟨s, 1073741824, 0, 536870912⟩) (fun _ => True) (fun _ => False) rfl rfl (zdo _ _ _ _) (fun _ hk => hk.elim) (fun _ _ => trivial) HO.out HB.out HB.out.size zeP ?_)
             intro v1 w1 ho hb _ _; have HO1 := zaa.mk ho; have HB1 := zaa.mk hb; clear ho hb; go_wp2; go_roundg k3
             case measure => omega
             case rel => exact ⟨1, zbR, ⟨zeJ⟩, HO1, HB1⟩
           · go_wp2_with (at_builtin; refine Kd.zcy kMo (w0 := w) w.heap.size rfl (.tmp 25) (.tmp 31) 58 29 (.agg #[(.int .i64 0), (.int .i64 0), (.int .i64 0), (.int .i64 0)]) 32 rfl Try.underlying58 zdO rfl zaR zq8 u3 ((zbt s).take 1) ⟨s, 1073741824, 0, 2147483648⟩ (zbW ⟨s, 1073741824, 0, 2147483648⟩) (fun _ => True) (fun _ => False) rfl rfl (zdo _ _ _ _) (fun _ hk => hk.elim) (fun _ _ => trivial) HO.out HB.out HB.out.size zeP ?_)
             intro v1 w1 ho hb _ _; have HO1 := zaa.mk ho; have HB1 := zaa.mk hb; clear ho hb; go_wp2; go_roundg k3
             case measure => omega
             case rel => exact ⟨2, zbR, ⟨zeJ⟩, HO1, HB1⟩
       · go_wp2; go_loopg [3, 22] 2 (fun kq v3 v22 W' => ∃ k : Nat, v22 = .int .i64 (k : Int) ∧ zaa (kq + k = 2) ∧ zaa (Kd.R kMo 29 W' w.heap.size (fun _ => True) v3 ((zbt s).take (2 + k))) ∧ zaa (Below w.heap.size w W'))
         case atStart => exact ⟨0, rfl, ⟨rfl⟩, HO, HB⟩
         case round =>
          clear HO HB; obtain ⟨k, rfl, HK3, HO, HB⟩ := hrel; obtain ⟨U3, rfl⟩ : ∃ U : World, U = wr := ⟨_, rfl⟩
          cases gk with
          | zero =>
           obtain rfl : k = 2 := by have := HK3.out; omega
           go_wp2; go_roundg k2
           case measure => omega
           case rel => exact ⟨2, zbR, ⟨zhS⟩, HO, HB⟩
          | succ k3 =>
           have hk : k = 0 ∨ k = 1 := by have := HK3.out; omega
           rcases hk with rfl | rfl
           · go_wp2_with (at_builtin; refine Kd.zcy kMo (w0 := w) w.heap.size rfl (.tmp 25) (.tmp 31) 58 29 (.agg #[(.int .i64 0), (.int .i64 0), (.int .i64 0), (.int .i64 0)]) 32 rfl Try.underlying58 zdO rfl zaR zq8 u3 ((zbt s).take 2) ⟨s, 1073741824, 536870912, 536870912⟩ (zbW ⟨s, 1073741824, 536870912, 536870912⟩) (fun _ => True) (fun _ => False) rfl rfl (zdo _ _ _ _) (fun _ hk => hk.elim) (fun _ _ => trivial) HO.out HB.out HB.out.size zeP ?_)
             intro v1 w1 ho hb _ _; have HO1 := zaa.mk ho; have HB1 := zaa.mk hb; clear ho hb; go_wp2; go_roundg k3
             case measure => omega
             case rel => exact ⟨1, zbR, ⟨zeJ⟩, HO1, HB1⟩
           · go_wp2_with (at_builtin; refine Kd.zcy kMo (w0 := w) w.heap.size rfl (.tmp 25) (.tmp 31) 58 29 (.agg #[(.int .i64 0), (.int .i64 0), (.int .i64 0), (.int .i64 0)]) 32 rfl Try.underlying58 zdO rfl zaR zq8 u3 ((zbt s).take 3) ⟨s, 1073741824, 536870912, 2147483648⟩ (zbW ⟨s, 1073741824, 536870912, 2147483648⟩) (fun _ => True) (fun _ => False) rfl rfl (zdo _ _ _ _) (fun _ hk => hk.elim) (fun _ _ => trivial) HO.out HB.out HB.out.size zeP ?_)
             intro v1 w1 ho hb _ _; have HO1 := zaa.mk ho; have HB1 := zaa.mk hb; clear ho hb; go_wp2; go_roundg k3
             case measure => omega
             case rel => exact ⟨2, zbR, ⟨zeJ⟩, HO1, HB1⟩
   · go_wp2; go_loopg [3, 18] 2 (fun kq v3 v18 W' => ∃ j : Nat, v18 = .int .i64 (j : Int) ∧ zaa (kq + j = 2) ∧ zaa (Kd.R kMo 29 W' w.heap.size (fun _ => True) v3 ((zbt s).take (4 + 2 * j))) ∧ zaa (Below w.heap.size w W'))
     case atStart => exact ⟨0, rfl, ⟨rfl⟩, HO, HB⟩
     case round =>
      clear HO HB; obtain ⟨j, rfl, HK2, HO, HB⟩ := hrel; obtain ⟨U2, rfl⟩ : ∃ U : World, U = wr := ⟨_, rfl⟩
      cases gk with
      | zero =>
       obtain rfl : j = 2 := by have := HK2.out; omega
       go_wp2; go_roundg k1
       case measure => omega
       case rel => exact ⟨2, zbR, ⟨zdh⟩, HO, HB⟩
      | succ k2 =>
       have hj : j = 0 ∨ j = 1 := by have := HK2.out; omega
       rcases hj with rfl | rfl
       · go_wp2; go_loopg [3, 22] 2 (fun kq v3 v22 W' => ∃ k : Nat, v22 = .int .i64 (k : Int) ∧ zaa (kq + k = 2) ∧ zaa (Kd.R kMo 29 W' w.heap.size (fun _ => True) v3 ((zbt s).take (4 + k))) ∧ zaa (Below w.heap.size w W'))
         case atStart => exact ⟨0, rfl, ⟨rfl⟩, HO, HB⟩
         case round =>
          clear HO HB; obtain ⟨k, rfl, HK3, HO, HB⟩ := hrel; obtain ⟨U3, rfl⟩ : ∃ U : World, U = wr := ⟨_, rfl⟩
          cases gk with
          | zero =>
           obtain rfl : k = 2 := by have := HK3.out; omega
           go_wp2; go_roundg k2
           case measure => omega
           case rel => exact ⟨1, zbR, ⟨zhS⟩, HO, HB⟩
          | succ k3 =>
           have hk : k = 0 ∨ k = 1 := by have := HK3.out; omega
           rcases hk with rfl | rfl
           · go_wp2_with (at_builtin; refine Kd.zcy kMo (w0 := w) w.heap.size rfl (.tmp 25) (.tmp 31) 58 29 (.agg #[(.int .i64 0), (.int .i64 0), (.int .i64 0), (.int .i64 0)]) 32 rfl Try.underlying58 zdO rfl zaR zq8 u3 ((zbt s).take 4) ⟨s, 2147483648, 0, 536870912⟩ (zbW ⟨s, 2147483648, 0, 536870912⟩) (fun _ => True) (fun _ => False) rfl rfl (zdo _ _ _ _) (fun _ hk => hk.elim) (fun _ _ => trivial) HO.out HB.out HB.out.size zeP ?_)
             intro v1 w1 ho hb _ _; have HO1 := zaa.mk ho; have HB1 := zaa.mk hb; clear ho hb; go_wp2; go_roundg k3
             case measure => omega
             case rel => exact ⟨1, zbR, ⟨zeJ⟩, HO1, HB1⟩
           · go_wp2_with (at_builtin; refine Kd.zcy kMo (w0 := w) w.heap.size rfl (.tmp 25) (.tmp 31) 58 29 (.agg #[(.int .i64 0), (.int .i64 0), (.int .i64 0), (.int .i64 0)]) 32 rfl Try.underlying58 zdO rfl zaR zq8 u3 ((zbt s).take 5) ⟨s, 2147483648, 0, 2147483648⟩ (zbW ⟨s, 2147483648, 0, 2147483648⟩) (fun _ => True) (fun _ => False) rfl rfl (zdo _ _ _ _) (fun _ hk => hk.elim) (fun _ _ => trivial) HO.out HB.out HB.out.size zeP ?_)
             intro v1 w1 ho hb _ _; have HO1 := zaa.mk ho; have HB1 := zaa.mk hb; clear ho hb; go_wp2; go_roundg k3
             case measure => omega
             case rel => exact ⟨2, zbR, ⟨zeJ⟩, HO1, HB1⟩
       · go_wp2; go_loopg [3, 22] 2 (fun kq v3 v22 W' => ∃ k : Nat, v22 = .int .i64 (k : Int) ∧ zaa (kq + k = 2) ∧ zaa (Kd.R kMo 29 W' w.heap.size (fun _ => True) v3 ((zbt s).take (6 + k))) ∧ zaa (Below w.heap.size w W'))
         case atStart => exact ⟨0, rfl, ⟨rfl⟩, HO, HB⟩
         case round =>
          clear HO HB; obtain ⟨k, rfl, HK3, HO, HB⟩ := hrel; obtain ⟨U3, rfl⟩ : ∃ U : World, U = wr := ⟨_, rfl⟩
          cases gk with
          | zero =>
           obtain rfl : k = 2 := by have := HK3.out; omega
           go_wp2; go_roundg k2
           case measure => omega
           case rel => exact ⟨2, zbR, ⟨zhS⟩, HO, HB⟩
          | succ k3 =>
           have hk : k = 0 ∨ k = 1 := by have := HK3.out; omega
           rcases hk with rfl | rfl
           · go_wp2_with (at_builtin; refine Kd.zcy kMo (w0 := w) w.heap.size rfl (.tmp 25) (.tmp 31) 58 29 (.agg #[(.int .i64 0), (.int .i64 0), (.int .i64 0), (.int .i64 0)]) 32 rfl Try.underlying58 zdO rfl zaR zq8 u3 ((zbt s).take 6) ⟨s, 2147483648, 536870912, 536870912⟩ (zbW ⟨s, 2147483648, 536870912, 536870912⟩) (fun _ => True) (fun _ => False) rfl rfl (zdo _ _ _ _) (fun _ hk => hk.elim) (fun _ _ => trivial) HO.out HB.out HB.out.size zeP ?_)
             intro v1 w1 ho hb _ _; have HO1 := zaa.mk ho; have HB1 := zaa.mk hb; clear ho hb; go_wp2; go_roundg k3
             case measure => omega
             case rel => exact ⟨1, zbR, ⟨zeJ⟩, HO1, HB1⟩
           · go_wp2_with (at_builtin; refine Kd.zcy kMo (w0 := w) w.heap.size rfl (.tmp 25) (.tmp 31) 58 29 (.agg #[(.int .i64 0), (.int .i64 0), (.int .i64 0), (.int .i64 0)]) 32 rfl Try.underlying58 zdO rfl zaR zq8 u3 ((zbt s).take 7) ⟨s, 2147483648, 536870912, 2147483648⟩ (zbW ⟨s, 2147483648, 536870912, 2147483648⟩) (fun _ => True) (fun _ => False) rfl rfl (zdo _ _ _ _) (fun _ hk => hk.elim) (fun _ _ => trivial) HO.out HB.out HB.out.size zeP ?_)
             intro v1 w1 ho hb _ _; have HO1 := zaa.mk ho; have HB1 := zaa.mk hb; clear ho hb; go_wp2; go_roundg k3
             case measure => omega
             case rel => exact ⟨2, zbR, ⟨zeJ⟩, HO1, HB1⟩
def ptr (o : Option Nat) : Value := .pointer (o.map fun b => ⟨b, 0, none⟩)
def zhD : Kd (Int × Option Nat) := Kd.pair (Kd.int .i64) (Kd.scalar ptr (fun _ => rfl))
def zli (x : Int × Option Nat) : List Value := [.int .i64 x.1, ptr x.2]
theorem zoe {w : World} {x : Int × Option Nat} {cs : List Value} (h : zhD.K w x cs) : cs = zli x := by
 obtain ⟨_, _, rfl, rfl, rfl⟩ := h; exact rfl
theorem zlG (w : World) (base : Nat) (ok : Nat → Prop) (x : Int × Option Nat) : zhD.M w base ok x (zli x) := ⟨[.int .i64 x.1], [ptr x.2], rfl, rfl, rfl⟩
theorem zqk : (Try.prog.info? 105).map (fun i => (i.zero, i.size, i.bytes)) = some (some (.agg #[.int .i64 0, .pointer none]), 2, 16) := by kernel_rfl
def z0 : Mo := ⟨0, 0, 0, 0⟩
def zhx (xs : List Mo) (i : Int) : Mo := xs.getD i.toNat z0
theorem zkV {w : World} {A : Option Addr} {n : Nat} {xs : List Mo} (h : Kd.C kMo w A n xs) (i : Int) (h0 : 0 ≤ i) (h1 : i < n) : ∃ ad, A = some ad ∧ w.cell? (ad.add (i.toNat * 4)) = some (.int .i64 (zhx xs i).n) ∧ w.cell? ⟨(ad.add (i.toNat * 4)).block, (ad.add (i.toNat * 4)).off + 1, none⟩ = some (.int .i64 (zhx xs i).a) ∧ w.cell? ⟨(ad.add (i.toNat * 4)).block, (ad.add (i.toNat * 4)).off + 2, none⟩ = some (.int .i64 (zhx xs i).b) ∧ w.cell? ⟨(ad.add (i.toNat * 4)).block, (ad.add (i.toNat * 4)).off + 3, none⟩ = some (.int .i64 (zhx xs i).c) := by
 obtain ⟨ad, c, e, _, hK, hc0⟩ := Kd.C_get h z0 i h0 h1; have hc : ∀ j u, c[j]? = some u → w.cell? (ad.add (i.toNat * 4 + j)) = some u := hc0; obtain rfl := zpo hK; exact ⟨ad, e, hc 0 _ rfl, by rw [← zfi _ _ 1 zq8]; exact hc 1 _ rfl, by rw [← zfi _ _ 2 zq8]; exact hc 2 _ rfl, by rw [← zfi _ _ 3 zq8]; exact hc 3 _ rfl⟩
structure zrd (W : World) (lo : Nat) (v : Value) (s : Int) (ms : List Mo) (bs : List Nat) : Prop where
 row : Kd.R zhD 105 W lo (fun _ => True) v ((s, none) :: bs.map fun b => (s, some b))
 cells : ∀ (i b : Nat) (x : Mo), bs[i]? = some b → ms[i]? = some x → lo ≤ b ∧ W.heap[b]? = some (.cells (zbW x).toArray 29 (0, 0))
theorem zqw {α : Type} {d : Kd α} {e lo n c : Nat} {W : World} {ok : Nat → Prop} {A : Option Addr} {xs : List α} (h : d.R e W lo ok (.slice A n c) xs) : ∀ ad, A = some ad → lo ≤ ad.block := by
 intro ad ea; subst ea; obtain ⟨_, inner, ho, _⟩ := h; exact zeK ho ad.block rfl
theorem zmr (a : Addr) (n : Nat) : (a.add n).block = a.block := by unfold Addr.add; split <;> rfl
theorem zcE (w : World) (o : Obj) : (w.alloc o).heap.size = w.heap.size + 1 := by simp
theorem znb (s : Int) (w : World) :
  Calls Try.prog 114 #[.int .i64 s] w fun e w' => ∃ v bs, e = .returned v ∧ bs.length = (zed s).length ∧ zrd w' w.heap.size v s (zed s) bs ∧ Below w.heap.size w w' := by
 have KM := zaa.mk (fun W => zlD s W); obtain ⟨ms, hms⟩ : ∃ ms, zed s = ms := ⟨_, rfl⟩
 have hml : ms.length ≤ 8 := by rw [← hms]; unfold zed; split <;> simp [zbt]
 rw [hms] at KM ⊢; clear hms; have HR0 : zaa (Kd.R zhD 105 (w.alloc (.cells #[.int .i64 s, .pointer none] 105)) w.heap.size (fun _ => True) (.slice (some ⟨w.heap.size, 0, none⟩) 1 1) [(s, none)]) := ⟨⟨fun _ _ => trivial, [.int .i64 s, .pointer none], World.ownsRow_lit (base := w.heap.size) (e := 105) (size := 2) w #[.int .i64 s, .pointer none] 1 (Nat.le_refl _) zaR rfl, zbp.c2 (zlG _ _ _ (s, none)) (zbp.none _ _)⟩⟩
 go_enter Try.func114, Try.ntmps114
 go_wp2_with (first | (go_at_call 41; (with_reducible refine (KM.out _).mono ?_); rintro e w2 ⟨v, rfl, hv, hb⟩; obtain ⟨A, c, rfl, hc, hC⟩ := Kd.zew hv; have hblk := zqw hv; rw [zcE] at hblk; have HM := zaa.mk (And.intro hC (And.intro hb hblk)); clear hv hC hb hblk))
 have hb0 : Below w.heap.size w w2 := (zaq (Below.refl _ _) _).trans (HM.out.2.1.mono (by simp)); have hsz : w.heap.size < w2.heap.size := by have := HM.out.2.1.size; simp at this; omega
 have HB0 := zaa.mk (And.intro hb0 hsz); have HR1 : zaa (Kd.R zhD 105 w2 w.heap.size (fun k => k = w.heap.size ∨ w2.heap.size ≤ k) (.slice (some ⟨w.heap.size, 0, none⟩) 1 1) [(s, none)]) := ⟨by
  have h := Kd.zbo HR0.out HM.out.2.1; exact ⟨fun k hk => .inl (Eq.symm (show w.heap.size = k by simpa [Value.ownBlock] using hk)), h.2.imp_ (fun _ _ hp => hp)⟩⟩
 clear hb0 hsz HR0; go_loopg [3, 12] ms.length (fun kq v3 v12 W' => ∃ (k : Nat) (bs : List Nat), v12 = .int .i64 (k : Int) ∧ zaa (kq + k = ms.length ∧ bs.length = k) ∧ zaa (Kd.R zhD 105 W' w.heap.size (fun k => k = w.heap.size ∨ w2.heap.size ≤ k) v3 ((s, none) :: bs.map fun b => (s, some b))) ∧ zaa ((∀ (i b : Nat) (x : Mo), bs[i]? = some b → ms[i]? = some x → w2.heap.size ≤ b ∧ W'.heap[b]? = some (.cells (zbW x).toArray 29 (0, 0))) ∧ zbM w2 W' (fun i => i = w.heap.size) ∧ Below w.heap.size w W'))
 case atStart => exact ⟨0, [], rfl, ⟨rfl, rfl⟩, HR1, ⟨fun i b x h => by simp at h, zbM.refl _ _, HB0.out.1⟩⟩
 case round =>
  obtain ⟨k, bs, rfl, HK, HO, HT⟩ := hrel; by_cases ck : k < ms.length; rotate_left
  · have c1 : decide ((k : Int) < (ms.length : Int)) = false := zdf zq8; go_wp2; go_ret; exact ⟨_, bs, rfl, zdh, ⟨Kd.zdP HO.out (fun _ _ => trivial), fun i b x h1 h2 => ⟨by have := (HT.out.1 i b x h1 h2).1; have := HB0.out.2; omega, (HT.out.1 i b x h1 h2).2⟩⟩, HT.out.2.2⟩
  have c1 : decide ((k : Int) < (ms.length : Int)) = true := zdt zq8; obtain ⟨ad, e, q0, q1, q2, q3⟩ := zkV HM.out.1 (k : Int) zq8 zq8; have hne := HM.out.2.2 ad e
  cases e; rw [Int.toNat_natCast] at q0 q1 q2 q3; have q0' := zgM q0 HT.out.2.1 zmU; have q1' := zgM q1 HT.out.2.1 zmU; have q2' := zgM q2 HT.out.2.1 zmU; have q3' := zgM q3 HT.out.2.1 zmU; clear q0 q1 q2 q3; obtain ⟨x, hx⟩ : ∃ x, zhx ms (k : Int) = x := ⟨_, rfl⟩
  rw [hx] at q0' q1' q2' q3'; have HX := zaa.mk (And.intro hx hne); clear hx hne
  cases gk with
  | zero => exact absurd HK.out zq8
  | succ k1 =>
   obtain ⟨hok, inner, ho_, hre⟩ := HO.out; have HOW := zaa.mk ho_; have HOK := zaa.mk hok; clear hok ho_ hre; go_wp2_with (at_builtin; refine Kd.zcy zhD (W := wr.alloc (.cells #[.int .i64 x.n, .int .i64 x.a, .int .i64 x.b, .int .i64 x.c] 29)) (w0 := w) w.heap.size rfl (.tmp 16) (.tmp 19) 148 105 (.agg #[.int .i64 0, .pointer none]) 16 rfl Try.underlying148 zqk rfl zaR zq8 u3 ((s, none) :: bs.map fun b => (s, some b)) (s, some wr.heap.size) [.int .i64 s, .pointer (some ⟨wr.heap.size, 0, none⟩)] (fun k => k = w.heap.size ∨ w2.heap.size ≤ k) (fun _ => False) rfl (by rw [zcE]; rfl) (zlG _ _ _ (s, some wr.heap.size)) (fun _ hk => hk.elim) (fun i hi => .inr (by have := HT.out.2.1.1; rw [zcE] at hi; omega)) (Kd.zcg HO.out _) (HT.out.2.2.alloc HT.out.2.2.size _) (by have := HT.out.2.2.size; rw [zcE]; omega) (by have := HK.out; simp; omega) ?_)
   intro v1 w1 ho hb hg hat; have hk1 : zbM w2 w1 (fun i => i = w.heap.size) := zbM.of_grown hg (HT.out.2.1.alloc _) HOK.out; have hnew : w1.heap[wr.heap.size]? = some (.cells #[.int .i64 x.n, .int .i64 x.a, .int .i64 x.b, .int .i64 x.c] 29 (0, 0)) := zit (zbL wr _) hg (by have := znm HOW.out 0; simpa using this); have hold : ∀ (b : Nat) (y : Mo), wr.heap[b]? = some (.cells (zbW y).toArray 29 (0, 0)) → w1.heap[b]? = some (.cells (zbW y).toArray 29 (0, 0)) := fun b y h => zit (zai h _) hg (zjw HOW.out h zaR)
   have HN := zaa.mk (And.intro ho (And.intro hb (And.intro hk1 (And.intro hnew hold)))); clear ho hb hg hat hk1 hnew hold; go_wp2; go_roundg k1
   case measure => omega
   case rel =>
    have hkk := HK.out; refine ⟨k + 1, bs ++ [wr.heap.size], zbR, ⟨zq8, zeG⟩, ⟨by simpa using HN.out.1⟩, ⟨fun i b y h1 h2 => ?_, HN.out.2.2.1, HN.out.2.1⟩⟩; by_cases hi : i < bs.length
    · rw [List.getElem?_append_left hi] at h1; exact ⟨(HT.out.1 i b y h1 h2).1, HN.out.2.2.2.2 b y (HT.out.1 i b y h1 h2).2⟩
    have hik : i = k := by
     have := (List.getElem?_eq_some_iff.mp h1).1; simp at this; omega
    subst hik; rw [List.getElem?_append_right zq8] at h1; have hz : i - bs.length = 0 := by omega
    rw [hz] at h1; simp at h1
    subst h1; have hy : zhx ms (i : Int) = y := by
     unfold zhx; rw [Int.toNat_natCast, List.getD_eq_getElem?_getD, h2]; rfl
    rw [HX.out.1] at hy; subst hy; exact ⟨HT.out.2.1.1, HN.out.2.2.2.1⟩
end Go.Proofs.Ytemnfnbjapobcaa.Ho
end
section
namespace Go.Proofs.Ytemnfnbjapobcaa.HS
def zcY (l : List Int) (s last : Int) : Int × Int :=
 if s < 1 ∨ s > 10000 ∨ (l.length : Int) < s ∨ last < 1 ∨ s > (l.length : Int) - last then (0, 1)
 else ((List.range' (l.length - last.toNat) last.toNat).foldl (fun q i => addS q (distS (l.getD i 0) (l.getD (i - s.toNat) 0))) 0, 0)
end Go.Proofs.Ytemnfnbjapobcaa.HS
namespace Go.Proofs.Ytemnfnbjapobcaa.Ho
open Go.RowKit Go.Proofs.ZW.PrintWords Go.Proofs.ZW.PrintLast Go.Proofs.ZW.PrintMore
open Go.Proofs.Ytemnfnbjapobcaa.FS Go.Proofs.Ytemnfnbjapobcaa.HS Go.Proofs.Ytemnfnbjapobcaa.FM
abbrev SeasonMiss : Prop := ∀ (W : World) (A : Option Addr) (c : Nat) (l : List Int) (s last : Int), Kd.C (Kd.int .i64) W A l.length l → l.length ≤ c → AllIn l → FS.In s → FS.In last → l.length ≤ 1000000000 →
 Calls Try.prog 136 #[.slice A l.length c, .int .i64 s, .int .i64 last] W fun e w' => e = .returned (.tuple #[.int .i64 (zcY l s last).1, .int .i64 (zcY l s last).2]) ∧ Below W.heap.size W w'
theorem zlh (HS : zaa SeasonMiss) (A : Option Addr) (c : Nat) (l : List Int) (s : Int) (w : World) (hr : Kd.C (Kd.int .i64) w A l.length l) (hc : l.length ≤ c) (hin : AllIn l) (hs : FS.In s) (hll : l.length ≤ 1000000000) :
  Calls Try.prog 115 #[.agg #[.int .i64 s, .pointer none], .slice A l.length c] w fun e w' => e = .returned (.tuple #[.int .i64 (zcY l s s).1, .int .i64 (zcY l s s).2]) ∧ Below w.heap.size w w' := by
 have HR := zaa.mk hr; clear hr; obtain ⟨r, hr⟩ : ∃ r, zcY l s s = r := ⟨_, rfl⟩
 have KM : zaa (∀ W, Kd.C (Kd.int .i64) W A l.length l → Calls Try.prog 136 #[.slice A l.length c, .int .i64 s, .int .i64 s] W fun e w' => e = .returned (.tuple #[.int .i64 r.1, .int .i64 r.2]) ∧ Below W.heap.size W w') := ⟨fun W h => hr ▸ HS.out W A c l s s h hc hin hs hs hll⟩
 rw [hr]; clear hr; go_enter Try.func115, Try.ntmps115
 go_wp2_with (go_at_call 136; (with_reducible refine (KM.out _ (Kd.zaL HR.out (zaq (Below.refl _ _) _))).mono ?_); rintro e w2 ⟨rfl, hb⟩)
 go_ret2
 exact ⟨rfl, (zaq (Below.refl _ _) _).trans (hb.mono (by simp))⟩
theorem zlg (A : Option Addr) (c : Nat) (l : List Int) (s : Int) (b : Nat) (m : Mo) (w : World) (hb : w.heap[b]? = some (.cells (zbW m).toArray 29 (0, 0))) (hr : Kd.C (Kd.int .i64) w A l.length l) (hc : l.length ≤ c) (hin : AllIn l) (hs : FS.In s) (hm : FS.In m.n) (hll : l.length ≤ 1000000000) :
  Calls Try.prog 115 #[.agg #[.int .i64 s, .pointer (some ⟨b, 0, none⟩)], .slice A l.length c] w fun e w' => e = .returned (.tuple #[.int .i64 (zcS l m s).1, .int .i64 (zcS l m s).2]) ∧ Below w.heap.size w w' := by
 have HR := zaa.mk hr; obtain ⟨r, er⟩ : ∃ r, zcS l m s = r := ⟨_, rfl⟩
 have KM : zaa (∀ W, Kd.C (Kd.int .i64) W A l.length l → Calls Try.prog 35 #[.slice A l.length c, moV m, .int .i64 s] W fun e w' => e = .returned (.tuple #[.int .i64 r.1, .int .i64 r.2]) ∧ Below W.heap.size W w') := ⟨fun W h => er ▸ zno A c l m s W h hc hin hm hs hll⟩
 rw [er]; have hb' := zai hb (.cells #[.int .i64 s, .pointer (some ⟨b, 0, none⟩)] 105); obtain ⟨n, ma, mb, mc⟩ := m; dsimp only [moV, zbW] at *; have d0 := zab hb' 0; have d1 := zab hb' 1; have d2 := zab hb' 2; have d3 := zab hb' 3; simp only [List.getElem?_toArray, List.getElem?_cons_zero, List.getElem?_cons_succ] at d0 d1 d2 d3; clear er hr hb hb'; go_enter Try.func115, Try.ntmps115
 go_wp2; refine zbU 7 zq6 zq6 rfl ?_; simp only [List.take_succ_cons, List.take_zero, List.drop_succ_cons, List.drop_zero]; repeat (go_big_quiet_step (fail))
 refine wpQuiet_nil ?_; rintro W1 ⟨nq, hnq⟩ K1 hK; have HB0 : zaa (Below w.heap.size w W1) := ⟨hnq ▸ zaj (zaq (Below.refl _ _) _) _⟩
 clear hnq nq; refine zcT Try.func35 zq6 rfl #[.slice A l.length c, .agg #[.int .i64 n, .int .i64 ma, .int .i64 mb, .int .i64 mc], .int .i64 s] (by rfl) rfl rfl zdi ?_; refine (KM.out _ (Kd.zaL HR.out HB0.out)).mono ?_; rintro e w2 ⟨rfl, hb2⟩; refine ⟨_, rfl, hK _ _ ?_⟩; have HB2 := zaa.mk (HB0.out.trans (hb2.mono HB0.out.size)); clear hK K1 d0 d1 d2 d3 hb2; simp only [Act.put, List.setIfInBounds_toArray, List.set_cons_zero, List.set_cons_succ]; repeat (go_big_quiet_step (fail))
 refine wpQuiet_nil ?_; rintro w3 ⟨n3, rfl⟩; go_wp2; go_ret2
 exact ⟨rfl, zaj HB2.out _⟩
end Go.Proofs.Ytemnfnbjapobcaa.Ho
end
section
namespace Go.Proofs.Ytemnfnbjapobcaa.HS
open Go.Proofs.Ytemnfnbjapobcaa.Ho
def zgO (l : List Int) (s : Int) (q : Int × Int) (p : Mo × Nat) : Int × Int := if (zcS l p.1 s).1 < q.2 then ((p.2 : Int) + 1, (zcS l p.1 s).1) else q
def zcs (l : List Int) (s : Int) : Nat → Int × Int
 | 0 => (0, 0)
 | i + 1 => ((zbt s).zipIdx.take i).foldl (zgO l s) (0, (zcY l s s).1)
def zgi (l : List Int) (s : Int) : Int × Int := zcs l s 9
def zcv (l : List Int) (s : Int) : Prop := s < 1 ∨ s > 10000 ∨ (l.length : Int) / 3 < s
end Go.Proofs.Ytemnfnbjapobcaa.HS
namespace Go.Proofs.Ytemnfnbjapobcaa.Ho
open Go.RowKit Go.Proofs.ZW.PrintWords Go.Proofs.ZW.PrintLast Go.Proofs.ZW.PrintMore
open Go.Proofs.Ytemnfnbjapobcaa.FS Go.Proofs.Ytemnfnbjapobcaa.HS Go.Proofs.Ytemnfnbjapobcaa.FM
def zw : Int × Option Nat := (0, none)
theorem zot {w : World} {A : Option Addr} {n : Nat} {xs : List (Int × Option Nat)} (h : Kd.C zhD w A n xs) (i : Nat) (h1 : i < n) : ∃ ad, A = some ad ∧ w.cell? (ad.add (i * 2)) = some (.int .i64 (xs.getD i zw).1) ∧ w.cell? ⟨(ad.add (i * 2)).block, (ad.add (i * 2)).off + 1, none⟩ = some (ptr (xs.getD i zw).2) := by
 obtain ⟨ad, c, e, _, hK, hc0⟩ := Kd.C_get h zw (i : Int) zq8 zq8; rw [Int.toNat_natCast] at hK hc0; have hc : ∀ j u, c[j]? = some u → w.cell? (ad.add (i * 2 + j)) = some u := hc0; obtain rfl := zoe hK; exact ⟨ad, e, hc 0 _ rfl, by rw [← zfi _ _ 1 zq8]; exact hc 1 _ rfl⟩
theorem zfv {s : Int} (h1 : 1 ≤ s) (h2 : s ≤ 10000) {m : Mo} (h : m ∈ zbt s) : m.n = s ∧ zbP m = 0 := by
 simp only [zbt, List.mem_cons, List.not_mem_nil, or_false] at h; have ok : ∀ a b c : Int, okW a = true → okW b = true → okW c = true → zbP ⟨s, a, b, c⟩ = 0 := by
  intro a b c ha hb hc; unfold zbP; rw [if_neg (by simp only; omega)]; simp only [ha, hb, hc, Bool.and_true, if_true]
 rcases h with rfl | rfl | rfl | rfl | rfl | rfl | rfl | rfl <;> exact ⟨rfl, ok _ _ _ zaR zaR zaR⟩
theorem zmC {l : List Int} {s : Int} (h : ¬ zcv l s) {m : Mo} (hm : m ∈ zbt s) : (zcS l m s).2 = 0 ∧ FS.In (zcS l m s).1 := by
 unfold zcv at h; obtain ⟨e1, e2⟩ := zfv (s := s) zq8 zq8 hm; unfold zcS; rw [if_neg (by rw [e2]; decide), if_neg (by rw [e1]; omega)]; exact ⟨rfl, zgK _ _ _ (show FS.In 0 from ⟨zaR, zaR⟩)⟩
theorem zlC {l : List Int} {s : Int} (h : ¬ zcv l s) : (zcY l s s).2 = 0 := by
 unfold zcv at h; unfold zcY; rw [if_neg zq8]
theorem ziu {l : List Int} {s : Int} {j : Nat} {m : Mo} (h : (zbt s)[j]? = some m) : zcs l s (j + 2) = zgO l s (zcs l s (j + 1)) (m, j) := by
 show ((zbt s).zipIdx.take (j + 1)).foldl (zgO l s) (0, (zcY l s s).1) = zgO l s (((zbt s).zipIdx.take j).foldl (zgO l s) (0, (zcY l s s).1)) (m, j)
 have hz : (zbt s).zipIdx[j]? = some (m, j) := by simp [List.getElem?_zipIdx, h]
 obtain ⟨hl, e⟩ := List.getElem?_eq_some_iff.mp hz; rw [List.take_succ_eq_append_getElem hl, List.foldl_append, e]; rfl
theorem zje (l : List Int) (s : Int) : ∀ i, i ≤ 9 → (zcs l s i).1 = 0 ∨ ∃ (j : Nat) (m : Mo), (zcs l s i).1 = (j : Int) + 1 ∧ (zbt s)[j]? = some m
 | 0, _ => .inl rfl
 | 1, _ => .inl rfl
 | j + 2, h => by
  obtain ⟨m, hm⟩ : ∃ m, (zbt s)[j]? = some m := ⟨_, List.getElem?_eq_getElem (show j < (zbt s).length by simp [zbt]; omega)⟩
  rw [ziu hm]; unfold zgO; split
  · exact .inr ⟨j, m, rfl, hm⟩
  · exact zje l s (j + 1) zq8
def zgQ (W : World) (s : Int) (which : Int) (o : Option Nat) : Prop := (o = none ∧ which = 0) ∨ ∃ b j m, o = some b ∧ which = (j : Nat) + 1 ∧ (zbt s)[j]? = some m ∧ W.heap[b]? = some (.cells (zbW m).toArray 29 (0, 0))
theorem zgQ.below {W W' : World} {s which : Int} {o : Option Nat} (h : zgQ W s which o) (hb : Below W.heap.size W W') : zgQ W' s which o := by
 rcases h with h | ⟨b, j, m, h1, h2, h3, h4⟩
 · exact .inl h
 · exact .inr ⟨b, j, m, h1, h2, h3, zax h4 hb⟩
def zpD (w : World) (l : List Int) (s : Int) (e : Ending) (w' : World) : Prop :=
 (zcv l s → e = .returned (.tuple #[.agg #[.int .i64 0, .pointer none], .int .i64 0, .int .i64 0, .int .i64 1])) ∧
 (¬ zcv l s → ∃ o, e = .returned (.tuple #[.agg #[.int .i64 s, ptr o], .int .i64 (zgi l s).1, .int .i64 (zgi l s).2, .int .i64 0]) ∧ zgQ w' s (zgi l s).1 o) ∧ Below w.heap.size w w'
theorem znv (HS : zaa SeasonMiss) (A : Option Addr) (c : Nat) (l : List Int) (s : Int) (w : World) (hr : Kd.C (Kd.int .i64) w A l.length l) (hc : l.length ≤ c) (hin : AllIn l) (hs : FS.In s) (hll : l.length ≤ 1000000000) :
  Calls Try.prog 75 #[.slice A l.length c, .int .i64 s] w (zpD w l s) := by
 obtain ⟨D, hD⟩ : ∃ D, l.length / 3 = D := ⟨_, rfl⟩
 have hD3 : (l.length : Int) / 3 = (D : Int) := by omega
 have t3 : Int.tdiv (l.length : Int) 3 = (D : Int) := by rw [Int.tdiv_eq_ediv_of_nonneg zq8]; exact hD3
 have t4 : wrap64 (D : Int) = (D : Int) := zaI zq8 zq8; have HR := zaa.mk hr; clear hr; by_cases h1 : s < 1 ∨ s > 10000
 · have c0 : decide (1 ≤ s ∧ s ≤ 10000) = false := zdf zq8; have KC := zaa.mk (fun W => c0 ▸ zej s W); have hn : zcv l s := by unfold zcv; omega
   have HN := zaa.mk hn; clear hn c0 h1; go_enter Try.func75, Try.ntmps75
   go_wp2_with (first | (go_at_call 77; (with_reducible refine (KC.out _).mono ?_); rintro e w' ⟨rfl, ⟨nd, rfl⟩⟩))
   refine bodyPost_ret (v := .tuple #[.agg #[.int .i64 0, .pointer none], .int .i64 0, .int .i64 0, .int .i64 1]) (by simp [results, Try.results75, go_sem]) rfl ?_; exact ⟨fun _ => rfl, fun h => absurd HN.out h, ((zaj (zaq (Below.refl _ _) _) _).setCell (Nat.le_refl _) _).setCell (Nat.le_refl _) _⟩
 have c0 : decide (1 ≤ s ∧ s ≤ 10000) = true := zdt zq8; have KC := zaa.mk (fun W => c0 ▸ zej s W); obtain ⟨N, rfl⟩ := Int.eq_ofNat_of_zero_le (show 0 ≤ s by omega); clear c0; by_cases h2 : (D : Int) < (N : Int)
 · have g2 := zdt h2; have g3 : D < N := by omega
   have hn : zcv l (N : Int) := by unfold zcv; omega
   have HN := zaa.mk hn; clear hn h1 hD3 h2 hD; go_enter Try.func75, Try.ntmps75
   go_wp2_with (first | (go_at_call 77; (with_reducible refine (KC.out _).mono ?_); rintro e w' ⟨rfl, ⟨nd, rfl⟩⟩))
   refine bodyPost_ret (v := .tuple #[.agg #[.int .i64 0, .pointer none], .int .i64 0, .int .i64 0, .int .i64 1]) (by simp [results, Try.results75, go_sem]) rfl ?_; exact ⟨fun _ => rfl, fun h => absurd HN.out h, ((zaj (zaq (Below.refl _ _) _) _).setCell (Nat.le_refl _) _).setCell (Nat.le_refl _) _⟩
 have g2 := zdf h2; have g3 : ¬ D < N := by omega
 have hn : ¬ zcv l (N : Int) := by unfold zcv; omega
 have hms : zed (N : Int) = zbt (N : Int) := if_neg h1; have KW : zaa (∀ W, Calls Try.prog 114 #[.int .i64 (N : Int)] W fun e w' => ∃ (B : Option Addr) (d : Nat) (bs : List Nat), e = .returned (.slice B 9 d) ∧ 9 ≤ d ∧ bs.length = 8 ∧ Kd.C zhD w' B 9 (((N : Int), none) :: bs.map fun b => ((N : Int), some b)) ∧ (∀ (i b : Nat) (x : Mo), bs[i]? = some b → (zbt (N : Int))[i]? = some x → w'.heap[b]? = some (.cells (zbW x).toArray 29 (0, 0))) ∧ Below W.heap.size W w') := ⟨fun W => by
  refine (hms ▸ znb (N : Int) W).mono ?_; rintro e w' ⟨v, bs, rfl, hbl, hwa, hb⟩; obtain ⟨B, d, rfl, hd, hC⟩ := Kd.zew hwa.row; have hn9 : (((N : Int), (none : Option Nat)) :: bs.map fun b => ((N : Int), some b)).length = 9 := by simp [hbl, zbt]
  rw [hn9] at hC hd; exact ⟨B, d, bs, by rw [hn9], hd, by simpa [zbt] using hbl, hC, fun i b x h1 h2 => (hwa.cells i b x h1 h2).2, hb⟩⟩
 have HN := zaa.mk (And.intro hn (show 1 ≤ N ∧ N ≤ 10000 by omega)); have KN : zaa (∀ W, Kd.C (Kd.int .i64) W A l.length l → Calls Try.prog 115 #[.agg #[.int .i64 (N : Int), .pointer none], .slice A l.length c] W fun e w' => e = .returned (.tuple #[.int .i64 (zcY l N N).1, .int .i64 0]) ∧ Below W.heap.size W w') := ⟨fun W h => by
  have := zlh HS A c l (N : Int) W h hc hin hs hll; rwa [zlC hn] at this⟩
 have KS : zaa (∀ W m b, m ∈ zbt (N : Int) → W.heap[b]? = some (.cells (zbW m).toArray 29 (0, 0)) → Kd.C (Kd.int .i64) W A l.length l → Calls Try.prog 115 #[.agg #[.int .i64 (N : Int), .pointer (some ⟨b, 0, none⟩)], .slice A l.length c] W fun e w' => e = .returned (.tuple #[.int .i64 (zcS l m N).1, .int .i64 0]) ∧ Below W.heap.size W w') := ⟨fun W m b hm hb h => by
  have := zlg A c l (N : Int) b m W hb h hc hin hs (by rw [(zfv (s := (N : Int)) zq8 zq8 hm).1]; exact hs) hll; rwa [(zmC hn hm).1] at this⟩
 clear hn hms h1 h2 hD3 hD; go_enter Try.func75, Try.ntmps75
 go_wp2_with (first | (go_at_call 77; (with_reducible refine (KC.out _).mono ?_); rintro e w' ⟨rfl, ⟨nd, rfl⟩⟩) | (go_at_call 114; (with_reducible refine (KW.out _).mono ?_); rintro e w2 ⟨B, d, bs, rfl, hd, hbl, hC, hcl, hb⟩; have HW := zaa.mk (And.intro hC (And.intro hcl (And.intro hbl hb))); clear hC hcl hbl hb))
 have hb2 : Below w.heap.size w w2 := (zaj (zaq (Below.refl _ _) _) nd).trans (HW.out.2.2.2.mono (by simp)); have hsz : w.heap.size < w2.heap.size := by have := HW.out.2.2.2.size; simp at this; omega
 have hblk : w2.heap[w.heap.size]? = some (.cells #[.int .i64 0, .pointer none] 105 (0, 0)) := zax (zal (zbL w _) nd) HW.out.2.2.2; have HB2 := zaa.mk (And.intro hb2 (And.intro hblk hsz)); clear hb2 hblk hsz; go_loopg [9, 10, 30] 9 (fun kq v9 v10 v30 W' => ∃ (i : Nat) (q1 q2 : Int), v9 = .int .i64 q1 ∧ v10 = .int .i64 q2 ∧ v30 = .int .i64 (i : Int) ∧ zaa (zcs l (N : Int) i = (q1, q2)) ∧ zaa (kq + i = 9) ∧ zaa (Below w2.heap.size w2 W'))
 case atStart => exact ⟨0, 0, 0, rfl, rfl, rfl, ⟨rfl⟩, ⟨rfl⟩, ⟨Below.refl _ _⟩⟩
 case round =>
  obtain ⟨i, q1, q2, rfl, rfl, rfl, HQ, HK, HB⟩ := hrel; obtain ⟨U, rfl⟩ : ∃ U : World, U = wr := ⟨_, rfl⟩
  have hbw : Below w.heap.size w U := HB2.out.1.trans (HB.out.mono HB2.out.1.size); by_cases ci : i < 9; rotate_left
  · have c1 : decide ((i : Int) < 9) = false := zdf zq8; obtain rfl : i = 9 := by have := HK.out; omega
    obtain ⟨n, o, hn1, hn2, hn3, hn4⟩ : ∃ (n : Nat) (o : Option Nat), q1 = (n : Int) ∧ n < 9 ∧ (((N : Int), (none : Option Nat)) :: bs.map fun b => ((N : Int), some b)).getD n zw = ((N : Int), o) ∧ zgQ U (N : Int) (n : Int) o := by
     have hw := zje l (N : Int) 9 (Nat.le_refl _); rw [show zcs l (N : Int) 9 = (q1, q2) from HQ.out] at hw
     rcases hw with e0 | ⟨j, m, e1, hm⟩
     · exact ⟨0, none, e0, zaR, rfl, .inl ⟨rfl, rfl⟩⟩
     · have hj : j < 8 := by have := (List.getElem?_eq_some_iff.mp hm).1; simpa [zbt] using this
       obtain ⟨b, hbj⟩ : ∃ b, bs[j]? = some b := ⟨_, List.getElem?_eq_getElem (show j < bs.length by have := HW.out.2.2.1; omega)⟩
       refine ⟨j + 1, some b, by rw [show q1 = _ from e1]; rfl, zq8, ?_, .inr ⟨b, j, m, rfl, rfl, hm, zax (HW.out.2.1 j b m hbj hm) HB.out⟩⟩; rw [List.getD_cons_succ, List.getD_eq_getElem?_getD, List.getElem?_map, hbj]; rfl
    subst hn1; obtain ⟨ad, e, r1, r2⟩ := zot (Kd.zaL HW.out.1 HB.out) n hn2
    cases e; rw [hn3] at r1 r2; have hbk := zax HB2.out.2.1 HB.out; have d0 := zab hbk 0; have d1 := zab hbk 1; simp only [List.getElem?_toArray, List.getElem?_cons_zero, List.getElem?_cons_succ] at d0 d1; have z0 := zac hbk 0; have z1 := zac hbk 1; have HBW := zaa.mk hbw; obtain ⟨po, hpo⟩ : ∃ po, ptr o = .pointer po := ⟨_, rfl⟩
    rw [hpo] at r2; have HN4 := zaa.mk (And.intro hn4 (And.intro hbk hpo)); clear hbw hn4 hn3 hbk hpo; go_wp2; obtain ⟨hwi, hbk, hpo⟩ := HN4.out; have hbk1 : ((U.setCell ⟨w.heap.size, 0, none⟩ (.int .i64 (N : Int))).setCell ⟨w.heap.size, 1, none⟩ (.pointer po)).heap[w.heap.size]? = some (.cells #[.int .i64 (N : Int), .pointer po] 105 (0, 0)) := zaA (zaA hbk 0 _ rfl) 1 _ rfl; have e0 := zab hbk1 0; have e1 := zab hbk1 1; simp only [List.getElem?_toArray, List.getElem?_cons_zero, List.getElem?_cons_succ] at e0 e1; refine bodyPost_ret (v := .tuple #[.agg #[.int .i64 (N : Int), .pointer po], .int .i64 (n : Int), .int .i64 q2, .int .i64 0]) (by simp [results, Try.results75, go_sem, e0, e1]) rfl ?_; have hq : zgi l (N : Int) = ((n : Int), q2) := HQ.out; refine ⟨fun h => absurd h HN.out.1, fun _ => ⟨o, by rw [hq, hpo], ?_⟩, (HBW.out.setCell (Nat.le_refl _) _).setCell (Nat.le_refl _) _⟩; rw [hq]
    rcases hwi with h | ⟨b, j, m, h1, h2, h3, h4⟩
    · exact .inl h
    · exact .inr ⟨b, j, m, h1, h2, h3, by
       have hne : b ≠ w.heap.size := fun e => by
        rw [e] at h4; rw [hbk] at h4; simp at h4
       exact zaP (zaP h4 hne _) hne _⟩
  have c1 : decide ((i : Int) < 9) = true := zdt zq8; obtain ⟨ad, e, r1, r2⟩ := zot (Kd.zaL HW.out.1 HB.out) i ci
  cases e; have HBW := zaa.mk hbw; clear hbw
  cases gk with
  | zero => exact absurd HK.out zq8
  | succ k1 =>
   rcases Nat.eq_zero_or_pos i with hi | hi
   · have c2 : ((i : Int) == 0) = true := by simp [hi]
     have c3 : (i = 0) = True := eq_true hi; have ew : (((N : Int), (none : Option Nat)) :: bs.map fun b => ((N : Int), some b)).getD i zw = ((N : Int), none) := by rw [hi]; rfl
     rw [ew] at r1 r2; have r2' : U.cell? ⟨(ad.add (i * 2)).block, (ad.add (i * 2)).off + 1, none⟩ = some (.pointer none) := r2; have HI := zaa.mk hi; clear r2 ew hi; go_wp2_with (go_at_call 115; (with_reducible refine (KN.out _ (Kd.zaL HR.out (zaq HBW.out _))).mono ?_); rintro e w3 ⟨rfl, hb⟩; have HB3 := zaa.mk hb; clear hb)
     go_roundg k1
     case measure => omega
     case rel =>
      refine ⟨i + 1, (i : Int), (zcY l N N).1, rfl, rfl, zbR, ⟨?_⟩, ⟨zdh⟩, ⟨(HB.out.alloc HB.out.size _).trans (HB3.out.mono (by have := HB.out.size; simp; omega))⟩⟩; rw [HI.out]; rfl
   · obtain ⟨j, rfl⟩ : ∃ j, i = j + 1 := ⟨i - 1, zq8⟩
     have c2 : (((j + 1 : Nat) : Int) == 0) = false := by simp; omega
     have c3 : (j + 1 = 0) = False := eq_false zq8; have c4 : ((j : Int) + 1 = 0) = False := eq_false zq8; have hbl := HW.out.2.2.1; obtain ⟨b, hbj⟩ : ∃ b, bs[j]? = some b := ⟨_, List.getElem?_eq_getElem (show j < bs.length by omega)⟩
     obtain ⟨m, hmj⟩ : ∃ m, (zbt (N : Int))[j]? = some m := ⟨_, List.getElem?_eq_getElem (show j < (zbt (N : Int)).length by simp [zbt]; omega)⟩
     have ew : (((N : Int), (none : Option Nat)) :: bs.map fun b => ((N : Int), some b)).getD (j + 1) zw = ((N : Int), some b) := by
      rw [List.getD_cons_succ, List.getD_eq_getElem?_getD, List.getElem?_map, hbj]; rfl
     rw [ew] at r1 r2; have r2' : U.cell? ⟨(ad.add ((j + 1) * 2)).block, (ad.add ((j + 1) * 2)).off + 1, none⟩ = some (.pointer (some ⟨b, 0, none⟩)) := r2; have hbk := zai (zax (HW.out.2.1 j b m hbj hmj) HB.out) (.cells #[.int .i64 (N : Int), .pointer (some ⟨b, 0, none⟩)] 105); have hnx := ziu (l := l) hmj; rw [show zcs l (N : Int) (j + 1) = (q1, q2) from HQ.out] at hnx; have KS1 : zaa (∀ W, W.heap[b]? = some (.cells (zbW m).toArray 29 (0, 0)) → Kd.C (Kd.int .i64) W A l.length l → Calls Try.prog 115 #[.agg #[.int .i64 (N : Int), .pointer (some ⟨b, 0, none⟩)], .slice A l.length c] W fun e w' => e = .returned (.tuple #[.int .i64 (zcS l m N).1, .int .i64 0]) ∧ Below W.heap.size W w') := ⟨fun W => KS.out W m b (List.mem_of_getElem? hmj)⟩
     unfold zgO at hnx; obtain ⟨x, hx⟩ : ∃ x, (zcS l m N).1 = x := ⟨_, rfl⟩
     dsimp only at hnx; rw [hx] at KS1 hnx; have HX := zaa.mk hbk; have HV := zaa.mk hnx; clear r2 ew hbk hbj hmj hnx hx hbl hi; by_cases cx : x < q2; rotate_left
     · have c5 := zdf cx; go_wp2_with (go_at_call 115; (with_reducible refine (KS1.out _ HX.out (Kd.zaL HR.out (zaq HBW.out _))).mono ?_); rintro e w3 ⟨rfl, hb⟩; have HB3 := zaa.mk hb; clear hb)
       go_roundg k1
       case measure => omega
       case rel =>
        refine ⟨j + 2, q1, q2, rfl, rfl, zbR, ⟨?_⟩, ⟨zdh⟩, ⟨(HB.out.alloc HB.out.size _).trans (HB3.out.mono (by have := HB.out.size; simp; omega))⟩⟩; rw [HV.out, if_neg (Int.not_lt.mpr cx)]
     have c5 := zdt cx; go_wp2_with (go_at_call 115; (with_reducible refine (KS1.out _ HX.out (Kd.zaL HR.out (zaq HBW.out _))).mono ?_); rintro e w3 ⟨rfl, hb⟩; have HB3 := zaa.mk hb; clear hb)
     go_roundg k1
     case measure => omega
     case rel =>
      refine ⟨j + 2, ((j + 1 : Nat) : Int), x, rfl, rfl, zbR, ⟨?_⟩, ⟨zdh⟩, ⟨(HB.out.alloc HB.out.size _).trans (HB3.out.mono (by have := HB.out.size; simp; omega))⟩⟩; rw [HV.out, if_pos cx]; rfl
end Go.Proofs.Ytemnfnbjapobcaa.Ho
end
section
namespace Go.Proofs.Ytemnfnbjapobcaa.HS
open Go.Proofs.Ytemnfnbjapobcaa.Ho
def zdk (l : List Int) (s ahead : Int) : Int × Int :=
 if s < 1 ∨ s > 10000 ∨ ahead < 1 ∨ ahead > 10000 ∨ (l.length : Int) < s then (0, 1)
 else (l.getD (l.length - s.toNat + (ahead.toNat - 1) % s.toNat) 0, 0)
def zbJ (l : List Int) (s : Int) (o : Option Mo) (ahead : Int) : Int × Int := match o with
 | none => zdk l s ahead
 | some m => zcl (zbG l m) ahead
def zfl (s which : Int) : Option Mo := if which = 0 then none else (zbt s)[(which - 1).toNat]?
def zcQ (l : List Int) (s : Int) : Option Mo := if (l.length : Int) / 3 < s then none else zfl s (zgi l s).1
end Go.Proofs.Ytemnfnbjapobcaa.HS
namespace Go.Proofs.Ytemnfnbjapobcaa.Ho
open Go.RowKit Go.Proofs.ZW.PrintWords Go.Proofs.ZW.PrintLast Go.Proofs.ZW.PrintMore
open Go.Proofs.Ytemnfnbjapobcaa.FS Go.Proofs.Ytemnfnbjapobcaa.HS Go.Proofs.Ytemnfnbjapobcaa.FM
abbrev SeasonCast : Prop := ∀ (W : World) (A : Option Addr) (c : Nat) (l : List Int) (s ahead : Int), Kd.C (Kd.int .i64) W A l.length l → l.length ≤ c → AllIn l → FS.In s → FS.In ahead → l.length ≤ 1000000000 →
 Calls Try.prog 138 #[.slice A l.length c, .int .i64 s, .int .i64 ahead] W fun e w' => e = .returned (.tuple #[.int .i64 (zdk l s ahead).1, .int .i64 (zdk l s ahead).2]) ∧ Below W.heap.size W w'
def zqd (b1 b2 : Nat) : Value := .func (.func 137) #[] #[.pointer (some ⟨b1, 0, none⟩), .pointer (some ⟨b2, 0, none⟩)]
def zmB (b : Nat) : Value := .func (.func 28) #[.pointer (some ⟨b, 0, none⟩)] #[]
def zfP (W : World) (A : Option Addr) (c : Nat) (l : List Int) (s : Int) (o : Option Mo) (v : Value) : Prop := match o with
 | none => ∃ b1 b2, v = zqd b1 b2 ∧ W.heap[b1]? = some (.cells #[.slice A l.length c] 23 (0, 0)) ∧ W.heap[b2]? = some (.cells #[.int .i64 s, .pointer none] 105 (0, 0))
 | some m => ∃ b lo hi, v = zmB b ∧ zdJ W lo hi b m (zbG l m)
theorem zfP.below {W W' : World} {A : Option Addr} {c : Nat} {l : List Int} {s : Int} {o : Option Mo} {v : Value} (h : zfP W A c l s o v) (hb : Below W.heap.size W W') : zfP W' A c l s o v := by
 cases o with
 | none =>
  obtain ⟨b1, b2, e, h1, h2⟩ := h; exact ⟨b1, b2, e, zax h1 hb, zax h2 hb⟩
 | some m =>
  obtain ⟨b, lo, hi, e, h1⟩ := h; exact ⟨b, lo, hi, e, h1.kept (S := fun _ => False) (zbM.of_below hb _) (fun _ _ _ h => h)⟩
theorem zmo (HS : zaa SeasonCast) (A : Option Addr) (c : Nat) (l : List Int) (s ahead : Int) (b1 b2 : Nat) (w : World) (h1 : w.heap[b1]? = some (.cells #[.slice A l.length c] 23 (0, 0))) (h2 : w.heap[b2]? = some (.cells #[.int .i64 s, .pointer none] 105 (0, 0))) (hr : Kd.C (Kd.int .i64) w A l.length l) (hc : l.length ≤ c) (hin : AllIn l) (hs : FS.In s) (ha : FS.In ahead) (hll : l.length ≤ 1000000000) :
  Calls Try.prog 137 #[.int .i64 ahead, .pointer (some ⟨b1, 0, none⟩), .pointer (some ⟨b2, 0, none⟩)] w fun e w' => e = .returned (.tuple #[.int .i64 (zdk l s ahead).1, .int .i64 (zdk l s ahead).2]) ∧ Below w.heap.size w w' := by
 obtain ⟨r, er⟩ : ∃ r, zdk l s ahead = r := ⟨_, rfl⟩
 have KM : zaa (∀ W, Kd.C (Kd.int .i64) W A l.length l → Calls Try.prog 138 #[.slice A l.length c, .int .i64 s, .int .i64 ahead] W fun e w' => e = .returned (.tuple #[.int .i64 r.1, .int .i64 r.2]) ∧ Below W.heap.size W w') := ⟨fun W h => er ▸ HS.out W A c l s ahead h hc hin hs ha hll⟩
 have HR := zaa.mk hr; rw [er]; have d0 := zab h1 0; have d1 := zab h2 0; simp only [List.getElem?_toArray, List.getElem?_cons_zero, List.getElem?_cons_succ] at d0 d1; clear er hr h1 h2; go_enter Try.func137, Try.ntmps137
 go_wp2_with (go_at_call 138; (with_reducible refine (KM.out _ HR.out).mono ?_); rintro e w2 ⟨rfl, hb⟩)
 go_ret2
 exact ⟨rfl, hb⟩
theorem zhZ (A : Option Addr) (c : Nat) (l : List Int) (s : Int) (w : World) :
  Calls Try.prog 116 #[.agg #[.int .i64 s, .pointer none], .slice A l.length c] w fun e w' => ∃ v, e = .returned (.tuple #[v, .int .i64 0]) ∧ zfP w' A c l s none v ∧ Below w.heap.size w w' := by
 go_enter Try.func116, Try.ntmps116
 go_wp2; go_ret2
 refine ⟨_, rfl, ⟨w.heap.size + 1, w.heap.size, rfl, ?_, zai (zbL _ _) _⟩, zaq (zaq (Below.refl _ _) _) _⟩; have := zbL (w.alloc (.cells #[.int .i64 s, .pointer none] 105)) (.cells #[.slice A l.length c] 23); rwa [zcE] at this
theorem zlj (A : Option Addr) (c : Nat) (l : List Int) (s : Int) (b : Nat) (m : Mo) (w : World) (hb : w.heap[b]? = some (.cells (zbW m).toArray 29 (0, 0))) (hr : Kd.C (Kd.int .i64) w A l.length l) (hc : l.length ≤ c) (hin : AllIn l) (hm : FS.In m.n) (hll : l.length ≤ 1000000000) (h0 : zcr l m = 0) :
  Calls Try.prog 116 #[.agg #[.int .i64 s, .pointer (some ⟨b, 0, none⟩)], .slice A l.length c] w fun e w' => ∃ v, e = .returned (.tuple #[v, .int .i64 0]) ∧ zfP w' A c l s (some m) v ∧ Below w.heap.size w w' := by
 have HR := zaa.mk hr; have KM : zaa (∀ W, Kd.C (Kd.int .i64) W A l.length l → Calls Try.prog 24 #[.slice A l.length c, moV m] W fun e w' => ∃ b', e = .returned (.tuple #[.pointer (some ⟨b', 0, none⟩), .int .i64 0]) ∧ zdJ w' W.heap.size w'.heap.size b' m (zbG l m) ∧ Below W.heap.size W w') := ⟨fun W h => by
  refine (ziI A c l m W h hc hin hm hll).mono (fun e w' h => ?_); unfold zea at h; rwa [if_neg (by rw [h0]; decide)] at h⟩
 show Calls Try.prog 116 #[.agg #[.int .i64 s, .pointer (some ⟨b, 0, none⟩)], .slice A l.length c] w fun e w' => ∃ v, e = .returned (.tuple #[v, .int .i64 0]) ∧ (∃ b lo hi, v = zmB b ∧ zdJ w' lo hi b m (zbG l m)) ∧ Below w.heap.size w w'
 obtain ⟨s0, hs0⟩ : ∃ s0, zbG l m = s0 := ⟨_, rfl⟩
 rw [hs0] at KM ⊢; have hb' := zai (zai hb (.cells #[.int .i64 s, .pointer (some ⟨b, 0, none⟩)] 105)) (.cells #[.slice A l.length c] 23); obtain ⟨n, ma, mb, mc⟩ := m; dsimp only [moV, zbW] at *; have d0 := zab hb' 0; have d1 := zab hb' 1; have d2 := zab hb' 2; have d3 := zab hb' 3; simp only [List.getElem?_toArray, List.getElem?_cons_zero, List.getElem?_cons_succ] at d0 d1 d2 d3; clear hs0 hr hb hb' h0; go_enter Try.func116, Try.ntmps116
 go_wp2; refine zbU 5 zq6 zq6 rfl ?_; simp only [List.take_succ_cons, List.take_zero, List.drop_succ_cons, List.drop_zero]; repeat (go_big_quiet_step (fail))
 refine wpQuiet_nil ?_; rintro W1 ⟨nq, hnq⟩ K1 hK; have HB0 : zaa (Below w.heap.size w W1) := ⟨hnq ▸ zaj (zaq (zaq (Below.refl _ _) _) _) _⟩
 clear hnq nq; refine zcT Try.func24 zq6 rfl #[.slice A l.length c, .agg #[.int .i64 n, .int .i64 ma, .int .i64 mb, .int .i64 mc]] (by rfl) rfl rfl zdi ?_; refine (KM.out _ (Kd.zaL HR.out HB0.out)).mono ?_; rintro e w2 ⟨b', rfl, hst, hb2⟩; refine ⟨_, rfl, hK _ _ ?_⟩; have HB2 := zaa.mk (And.intro (HB0.out.trans (hb2.mono HB0.out.size)) hst); clear hK K1 d0 d1 d2 d3 hb2 hst; simp only [Act.put, List.setIfInBounds_toArray, List.set_cons_zero, List.set_cons_succ]; repeat (go_big_quiet_step (fail))
 refine wpQuiet_nil ?_; rintro w3 ⟨n3, rfl⟩; go_wp2; go_ret2
 exact ⟨_, rfl, ⟨b', W1.heap.size, w2.heap.size, rfl, HB2.out.2.kept (S := fun _ => False) ((zbM.refl _ _).drewN n3) (fun _ _ _ h => h)⟩, zaj HB2.out.1 _⟩
theorem zpm {s : Int} {j : Nat} {m : Mo} (h : (zbt s)[j]? = some m) : m ∈ zbt s := List.mem_of_getElem? h
theorem zhu {l : List Int} {s : Int} {m : Mo} (hn : ¬ zcv l s) (hm : m ∈ zbt s) : zcr l m = 0 := by
 unfold zcv at hn; obtain ⟨e1, e2⟩ := zfv (s := s) zq8 zq8 hm; unfold zcr; rw [if_neg (by rw [e2]; decide), if_neg (by rw [e1]; omega)]
theorem zkH (A : Option Addr) (c : Nat) (l : List Int) (s which : Int) (o : Option Nat) (w : World) (hw : zgQ w s which o) (hr : Kd.C (Kd.int .i64) w A l.length l) (hc : l.length ≤ c) (hin : AllIn l) (hs : FS.In s) (hll : l.length ≤ 1000000000) (hn : ¬ zcv l s) :
  Calls Try.prog 116 #[.agg #[.int .i64 s, ptr o], .slice A l.length c] w fun e w' => ∃ v, e = .returned (.tuple #[v, .int .i64 0]) ∧ zfP w' A c l s (zfl s which) v ∧ Below w.heap.size w w' := by
 rcases hw with ⟨rfl, rfl⟩ | ⟨b, j, m, rfl, rfl, hm, hh⟩
 · exact zhZ A c l s w
 · have e : zfl s ((j : Nat) + 1) = some m := by
    unfold zfl; rw [if_neg zq8, show (((j : Nat) : Int) + 1 - 1).toNat = j by omega]; exact hm
   have hmm := zpm hm; have hn' := hn; unfold zcv at hn'; have hmo := (zfv (s := s) zq8 zq8 hmm).1; rw [e]; exact zlj A c l s b m w hh hr hc hin (by rw [hmo]; exact hs) hll (zhu hn hmm)
def zfO (w : World) (A : Option Addr) (c : Nat) (l : List Int) (s : Int) (e : Ending) (w' : World) : Prop :=
 if (l.length : Int) < s then e = .returned (.tuple #[Value.nilFunc, .int .i64 1]) ∧ Below w.heap.size w w'
 else ∃ v, e = .returned (.tuple #[v, .int .i64 0]) ∧ zfP w' A c l s (zcQ l s) v ∧ Below w.heap.size w w'
theorem zha (HS : zaa SeasonMiss) (A : Option Addr) (c : Nat) (l : List Int) (s : Int) (w : World) (hr : Kd.C (Kd.int .i64) w A l.length l) (hc : l.length ≤ c) (hin : AllIn l) (h1 : 1 ≤ s) (h2 : s ≤ 10000) (hll : l.length ≤ 1000000000) :
  Calls Try.prog 78 #[.slice A l.length c, .int .i64 s] w (zfO w A c l s) := by
 have hs : FS.In s := ⟨zq8, zq8⟩
 unfold zfO; have HR := zaa.mk hr; clear hr; by_cases g : (l.length : Int) < s
 · simp only [if_pos g]; have c1 := zdt g; clear g; go_enter Try.func78, Try.ntmps78
   go_wp2; go_ret2
   exact ⟨rfl, Below.refl _ _⟩
 simp only [if_neg g]; have c1 := zdf g; obtain ⟨D, hD⟩ : ∃ D, l.length / 3 = D := ⟨_, rfl⟩
 have hD3 : (l.length : Int) / 3 = (D : Int) := by omega
 have t3 : Int.tdiv (l.length : Int) 3 = (D : Int) := by rw [Int.tdiv_eq_ediv_of_nonneg zq8]; exact hD3
 have t4 : wrap64 (D : Int) = (D : Int) := zaI zq8 zq8; have ew : zcQ l s = if (D : Int) < s then none else zfl s (zgi l s).1 := by unfold zcQ; rw [hD3]
 by_cases g2 : (D : Int) < s
 · have c2 := zdt g2; rw [if_pos g2] at ew; rw [ew]; have KC := zaa.mk (fun W => zhZ A c l s W); clear ew g g2 hD3 hD; go_enter Try.func78, Try.ntmps78
   go_wp2_with (go_at_call 116; (with_reducible refine (KC.out _).mono ?_); rintro e w2 ⟨v, rfl, hv, hb⟩; have HV := zaa.mk (And.intro hv hb); clear hv hb)
   go_ret2
   exact ⟨_, rfl, HV.out.1, HV.out.2⟩
 have c2 := zdf g2; rw [if_neg g2] at ew; rw [ew]; have hn : ¬ zcv l s := by unfold zcv; omega
 obtain ⟨r, er⟩ : ∃ r, zgi l s = r := ⟨_, rfl⟩
 have KB : zaa (∀ W, Kd.C (Kd.int .i64) W A l.length l → Calls Try.prog 75 #[.slice A l.length c, .int .i64 s] W fun e w' => ∃ o po, ptr o = .pointer po ∧ e = .returned (.tuple #[.agg #[.int .i64 s, .pointer po], .int .i64 r.1, .int .i64 r.2, .int .i64 0]) ∧ zgQ w' s r.1 o ∧ Below W.heap.size W w') := ⟨fun W h => (znv HS A c l s W h hc hin hs hll).mono (fun e w' h => by
  obtain ⟨o, q1, q2⟩ := h.2.1 hn; rw [er] at q1 q2; exact ⟨o, _, rfl, q1, q2, h.2.2⟩)⟩
 have KC : zaa (∀ W o po, ptr o = .pointer po → zgQ W s r.1 o → Kd.C (Kd.int .i64) W A l.length l → Calls Try.prog 116 #[.agg #[.int .i64 s, .pointer po], .slice A l.length c] W fun e w' => ∃ v, e = .returned (.tuple #[v, .int .i64 0]) ∧ zfP w' A c l s (zfl s r.1) v ∧ Below W.heap.size W w') := ⟨fun W o po hp hw h => hp ▸ zkH A c l s r.1 o W hw h hc hin hs hll hn⟩
 rw [er]; clear ew er g g2 hD3 hD hn; go_enter Try.func78, Try.ntmps78
 go_wp2_with (first | (go_at_call 75; (with_reducible refine (KB.out _ HR.out).mono ?_); rintro e w2 ⟨o, po, hpo, rfl, hw, hb⟩; have HW := zaa.mk (And.intro hw (And.intro hb hpo)); clear hw hb hpo) | (go_at_call 116; (with_reducible refine (KC.out _ o po HW.out.2.2 (HW.out.1.below (zaq (Below.refl _ _) _)) (Kd.zaL HR.out (HW.out.2.1.alloc HW.out.2.1.size _))).mono ?_); rintro e w3 ⟨v, rfl, hv, hb⟩; have HV := zaa.mk (And.intro hv hb); clear hv hb))
 go_ret2
 exact ⟨_, rfl, HV.out.1, (HW.out.2.1.alloc HW.out.2.1.size _).trans (HV.out.2.mono (by have := HW.out.2.1.size; simp; omega))⟩
end Go.Proofs.Ytemnfnbjapobcaa.Ho
end
section
namespace Go.Proofs.Ytemnfnbjapobcaa.HS
open Go.Proofs.Ytemnfnbjapobcaa.Ho
def zeW (l : List Int) (s : Int) : Int × Int × Int := if s < 1 ∨ s > 10000 ∨ (l.length : Int) / 3 < s then (0, 0, 1) else ((zgi l s).1, (zgi l s).2, 0)
def zda (l : List Int) (s ahead : Int) : Prop := s < 1 ∨ s > 10000 ∨ ahead < 1 ∨ ahead > 10000 ∨ (l.length : Int) < s
instance (l : List Int) (s ahead : Int) : Decidable (zda l s ahead) := by unfold zda; infer_instance
def zcP (l : List Int) (s ahead : Int) : Int × Int := if zda l s ahead then (0, 1) else ((zbJ l s (zcQ l s) ahead).1, 0)
def zcL (l : List Int) (s : Int) (o : Option Mo) : Nat → Int
 | 0 => -9223372036854775808
 | i + 1 => max (zcL l s o i) (zbJ l s o ((i : Int) + 1)).1
def zde (l : List Int) (s ahead : Int) : Int × Int := if zda l s ahead then (0, 1) else (zcL l s (zcQ l s) ahead.toNat, 0)
end Go.Proofs.Ytemnfnbjapobcaa.HS
namespace Go.Proofs.Ytemnfnbjapobcaa.Ho
open Go.RowKit Go.Proofs.ZW.PrintWords Go.Proofs.ZW.PrintLast Go.Proofs.ZW.PrintMore
open Go.Proofs.Ytemnfnbjapobcaa.FS Go.Proofs.Ytemnfnbjapobcaa.HS Go.Proofs.Ytemnfnbjapobcaa.FM
attribute [local go_sem] zcx zcw zcO zcN
theorem zpO {l : List Int} {s : Int} {m : Mo} (h : zcQ l s = some m) : ¬ (l.length : Int) / 3 < s ∧ m ∈ zbt s := by
 unfold zcQ at h; by_cases c : (l.length : Int) / 3 < s
 · rw [if_pos c] at h; cases h
 rw [if_neg c] at h; refine ⟨c, ?_⟩; unfold zfl at h; split at h
 · cases h
 · exact List.mem_of_getElem? h
theorem zkD {l : List Int} {s ahead : Int} (h : ¬ zda l s ahead) : (zbJ l s (zcQ l s) ahead).2 = 0 := by
 unfold zda at h
 cases hw : zcQ l s with
 | none =>
  show (zdk l s ahead).2 = 0
  unfold zdk; rw [if_neg zq8]
 | some m =>
  show (zcl (zbG l m) ahead).2 = 0
  unfold zcl; rw [if_neg zq8]
theorem znY {l : List Int} {s ahead i : Int} (h : ¬ zda l s ahead) (h1 : 1 ≤ i) (h2 : i ≤ ahead) : ¬ zda l s i := by
 unfold zda at *; omega
theorem znD {l : List Int} {s : Int} {m : Mo} (hs : 1 ≤ s) (hs2 : s ≤ 10000) (h : zcQ l s = some m) : zcr l m = 0 := by
 obtain ⟨h1, h2⟩ := zpO h; exact zhu (s := s) (by unfold zcv; omega) h2
theorem zqV (HC : zaa SeasonCast) (A : Option Addr) (c : Nat) (l : List Int) (s ahead : Int) (hc : l.length ≤ c) (hin : AllIn l) (hs : FS.In s) (ha : FS.In ahead) (hll : l.length ≤ 1000000000) (b1 b2 : Nat) (W : World) (h1 : W.heap[b1]? = some (.cells #[.slice A l.length c] 23 (0, 0)) ∧ W.heap[b2]? = some (.cells #[.int .i64 s, .pointer none] 105 (0, 0))) (hr : Kd.C (Kd.int .i64) W A l.length l) :
  Calls Try.prog 137 #[.int .i64 ahead, .pointer (some ⟨b1, 0, none⟩), .pointer (some ⟨b2, 0, none⟩)] W fun e w' => e = .returned (.tuple #[.int .i64 (zbJ l s none ahead).1, .int .i64 (zbJ l s none ahead).2]) ∧ Below W.heap.size W w' :=
 zmo HC A c l s ahead b1 b2 W h1.1 h1.2 hr hc hin hs ha hll
theorem zqW (l : List Int) (s ahead : Int) (m : Mo) (hs : zcr l m = 0) (ha : FS.In ahead) (hll : l.length ≤ 1000000000) (b lo hi : Nat) (W : World) (h1 : zdJ W lo hi b m (zbG l m)) :
  Calls Try.prog 28 #[.pointer (some ⟨b, 0, none⟩), .int .i64 ahead] W fun e w' => e = .returned (.tuple #[.int .i64 (zbJ l s (some m) ahead).1, .int .i64 (zbJ l s (some m) ahead).2]) ∧ Below W.heap.size W w' := by
 obtain ⟨n1, n2, n3, n4, s5, s6⟩ := zfC hs; refine (zis lo hi b m (zbG l m) ahead W h1 (zev l m) ha zq8 zq8 zq8).mono ?_; rintro e w' ⟨rfl, ⟨nd, rfl⟩⟩; exact ⟨rfl, zaj (Below.refl _ _) _⟩
theorem ziR {n : Int} (h : 1 ≤ n ∧ n ≤ 10000) (W : World) : Calls Try.prog 77 #[.int .i64 n] W fun e w' => e = .returned (.bool true) ∧ Drawn0 W w' := by
 have := zej n W; rwa [zdt h] at this
theorem zjG {n : Int} (h : ¬ (1 ≤ n ∧ n ≤ 10000)) (W : World) : Calls Try.prog 77 #[.int .i64 n] W fun e w' => e = .returned (.bool false) ∧ Drawn0 W w' := by
 have := zej n W; rwa [zdf h] at this
theorem zoq (HS : zaa SeasonMiss) (A : Option Addr) (c : Nat) (l : List Int) (s : Int) (hc : l.length ≤ c) (hin : AllIn l) (h1 : 1 ≤ s) (h2 : s ≤ 10000) (hll : l.length ≤ 1000000000) (g : (l.length : Int) < s) (W : World) (hr : Kd.C (Kd.int .i64) W A l.length l) :
  Calls Try.prog 78 #[.slice A l.length c, .int .i64 s] W fun e w' => e = .returned (.tuple #[Value.nilFunc, .int .i64 1]) ∧ Below W.heap.size W w' := by
 refine (zha HS A c l s W hr hc hin h1 h2 hll).mono (fun e w' h => ?_); unfold zfO at h; rwa [if_pos g] at h
theorem zmm (HS : zaa SeasonMiss) (A : Option Addr) (c : Nat) (l : List Int) (s : Int) (hc : l.length ≤ c) (hin : AllIn l) (h1 : 1 ≤ s) (h2 : s ≤ 10000) (hll : l.length ≤ 1000000000) (g : ¬ (l.length : Int) < s) (ew : zcQ l s = none) (W : World) (hr : Kd.C (Kd.int .i64) W A l.length l) :
  Calls Try.prog 78 #[.slice A l.length c, .int .i64 s] W fun e w' => ∃ b1 b2, e = .returned (.tuple #[.func (.func 137) #[] #[.pointer (some ⟨b1, 0, none⟩), .pointer (some ⟨b2, 0, none⟩)], .int .i64 0]) ∧ (w'.heap[b1]? = some (.cells #[.slice A l.length c] 23 (0, 0)) ∧ w'.heap[b2]? = some (.cells #[.int .i64 s, .pointer none] 105 (0, 0))) ∧ Below W.heap.size W w' := by
 refine (zha HS A c l s W hr hc hin h1 h2 hll).mono (fun e w' h => ?_); unfold zfO at h; rw [if_neg g, ew] at h; obtain ⟨v, rfl, ⟨b1, b2, rfl, p1, p2⟩, hb⟩ := h; exact ⟨b1, b2, rfl, ⟨p1, p2⟩, hb⟩
theorem zmn (HS : zaa SeasonMiss) (A : Option Addr) (c : Nat) (l : List Int) (s : Int) (m : Mo) (hc : l.length ≤ c) (hin : AllIn l) (h1 : 1 ≤ s) (h2 : s ≤ 10000) (hll : l.length ≤ 1000000000) (g : ¬ (l.length : Int) < s) (ew : zcQ l s = some m) (W : World) (hr : Kd.C (Kd.int .i64) W A l.length l) :
  Calls Try.prog 78 #[.slice A l.length c, .int .i64 s] W fun e w' => ∃ b lo hi, e = .returned (.tuple #[.func (.func 28) #[.pointer (some ⟨b, 0, none⟩)] #[], .int .i64 0]) ∧ zdJ w' lo hi b m (zbG l m) ∧ Below W.heap.size W w' := by
 refine (zha HS A c l s W hr hc hin h1 h2 hll).mono (fun e w' h => ?_); unfold zfO at h; rw [if_neg g, ew] at h; obtain ⟨v, rfl, ⟨b, lo, hi, rfl, p1⟩, hb⟩ := h; exact ⟨b, lo, hi, rfl, p1, hb⟩
theorem zkP (HS : zaa SeasonMiss) (HC : zaa SeasonCast) (A : Option Addr) (c : Nat) (l : List Int) (s ahead : Int) (w : World) (hr : Kd.C (Kd.int .i64) w A l.length l) (hc : l.length ≤ c) (hin : AllIn l) (hs : FS.In s) (ha : FS.In ahead) (hll : l.length ≤ 1000000000) :
  Calls Try.prog 45 #[.slice A l.length c, .int .i64 s, .int .i64 ahead] w fun e w' => e = .returned (.tuple #[.int .i64 (zde l s ahead).1, .int .i64 (zde l s ahead).2]) ∧ Below w.heap.size w w' := by
 have HR := zaa.mk hr; clear hr; by_cases g1 : 1 ≤ s ∧ s ≤ 10000; rotate_left
 · have KC := zaa.mk (zjG g1); have e : zde l s ahead = (0, 1) := by unfold zde; rw [if_pos zhR]
   rw [e]; clear e g1; go_enter Try.func45, Try.ntmps45
   go_wp2_with (first | (go_at_call 77; (with_reducible refine (KC.out _).mono ?_); rintro e w' ⟨rfl, ⟨nd, rfl⟩⟩))
   go_ret2
   exact ⟨rfl, zaj (Below.refl _ _) _⟩
 have KC := zaa.mk (ziR g1); by_cases g2 : 1 ≤ ahead ∧ ahead ≤ 10000; rotate_left
 · have KD := zaa.mk (zjG g2); have e : zde l s ahead = (0, 1) := by unfold zde; rw [if_pos zhR]
   rw [e]; clear e g1 g2; go_enter Try.func45, Try.ntmps45
   go_wp2_with (first | (go_at_call 77; (with_reducible refine (KC.out _).mono ?_); rintro e w' ⟨rfl, ⟨nd, rfl⟩⟩) | (go_at_call 77; (with_reducible refine (KD.out _).mono ?_); rintro e w' ⟨rfl, ⟨nd, rfl⟩⟩))
   go_ret2
   exact ⟨rfl, zaj (Below.refl _ _) _⟩
 have KD := zaa.mk (ziR g2); by_cases g3 : (l.length : Int) < s
 · have KK := zaa.mk (zoq HS A c l s hc hin g1.1 g1.2 hll g3); have e : zde l s ahead = (0, 1) := by unfold zde; rw [if_pos zhR]
   rw [e]; clear e g1 g2 g3; go_enter Try.func45, Try.ntmps45
   go_wp2_with (first | (go_at_call 77; (with_reducible refine (KC.out _).mono ?_); rintro e w' ⟨rfl, ⟨nd, rfl⟩⟩) | (go_at_call 77; (with_reducible refine (KD.out _).mono ?_); rintro e w' ⟨rfl, ⟨nd, rfl⟩⟩) | (go_at_call 78; (with_reducible refine (KK.out _ (Kd.zaL HR.out (zaj (Below.refl _ _) _))).mono ?_); rintro e w2 ⟨rfl, hb⟩; have HB : zaa (Below w.heap.size w w2) := ⟨(zaj (Below.refl _ _) _).trans hb⟩; clear hb))
   go_ret2
   exact ⟨rfl, HB.out⟩
 have hno : ¬ zda l s ahead := by unfold zda; omega
 have e : zde l s ahead = (zcL l s (zcQ l s) ahead.toNat, 0) := by unfold zde; rw [if_neg hno]
 obtain ⟨N, rfl⟩ := Int.eq_ofNat_of_zero_le (show 0 ≤ ahead by omega); rw [e, Int.toNat_natCast]; have ok : ∀ i : Nat, i < N → (zbJ l s (zcQ l s) ((i : Int) + 1)).2 = 0 := fun i hi => zkD (znY (i := (i : Int) + 1) hno zq8 zq8)
 have bN : N ≤ 10000 := by omega
 cases ew : zcQ l s with
 | none =>
  rw [ew] at ok; have KK := zaa.mk (zmm HS A c l s hc hin g1.1 g1.2 hll g3 ew); have KF : zaa (∀ (i : Nat), i < N → ∀ b1 b2 W, (W.heap[b1]? = some (.cells #[.slice A l.length c] 23 (0, 0)) ∧ W.heap[b2]? = some (.cells #[.int .i64 s, .pointer none] 105 (0, 0))) → Kd.C (Kd.int .i64) W A l.length l → Calls Try.prog 137 #[.int .i64 ((i : Int) + 1), .pointer (some ⟨b1, 0, none⟩), .pointer (some ⟨b2, 0, none⟩)] W fun e w' => e = .returned (.tuple #[.int .i64 (zbJ l s none ((i : Int) + 1)).1, .int .i64 0]) ∧ Below W.heap.size W w') := ⟨fun i hi b1 b2 W h1 h2 => by
   have := zqV HC A c l s ((i : Int) + 1) hc hin hs ⟨zq8, zq8⟩ hll b1 b2 W h1 h2; rwa [ok i hi] at this⟩
  clear e g1 g2 g3 hno ew ok; go_enter Try.func45, Try.ntmps45
  go_wp2_with (first | (go_at_call 77; (with_reducible refine (KC.out _).mono ?_); rintro e w' ⟨rfl, ⟨nd, rfl⟩⟩) | (go_at_call 77; (with_reducible refine (KD.out _).mono ?_); rintro e w' ⟨rfl, ⟨nd, rfl⟩⟩) | (go_at_call 78; (with_reducible refine (KK.out _ (Kd.zaL HR.out (zaj (Below.refl _ _) _))).mono ?_); rintro e w2 ⟨b1, b2, rfl, hv, hb⟩; have hb' : Below w.heap.size w w2 := (zaj (Below.refl _ _) _).trans hb; have HB := zaa.mk (And.intro hv hb'); clear hv hb hb'))
  go_loopg [10, 32] N (fun kq v10 v32 W' => ∃ i : Nat, v10 = .int .i64 (zcL l s none i) ∧ v32 = .int .i64 (i : Int) ∧ zaa (kq + i = N) ∧ zaa (Below w2.heap.size w2 W'))
  case atStart => exact ⟨0, rfl, rfl, ⟨rfl⟩, ⟨Below.refl _ _⟩⟩
  case round =>
   obtain ⟨i, rfl, rfl, HK, HQ⟩ := hrel; obtain ⟨U, rfl⟩ : ∃ U : World, U = wr := ⟨_, rfl⟩
   by_cases ci : i < N; rotate_left
   · have c1 : decide ((i : Int) < (N : Int)) = false := zdf zq8; obtain rfl : i = N := by have := HK.out; omega
     go_wp2; go_ret2
     exact ⟨rfl, HB.out.2.trans (HQ.out.mono HB.out.2.size)⟩
   have c1 : decide ((i : Int) < (N : Int)) = true := zdt zq8; have c2 : wrap64 ((i : Int) + 1) = (i : Int) + 1 := zaI zq8 zq8
   cases gk with
   | zero => exact absurd HK.out zq8
   | succ k1 =>
    have KFi := zaa.mk (KF.out i ci); obtain ⟨x, hx⟩ : ∃ x, (zbJ l s none ((i : Int) + 1)).1 = x := ⟨_, rfl⟩
    obtain ⟨p, hp⟩ : ∃ p, zcL l s none i = p := ⟨_, rfl⟩
    rw [hx] at KFi; rw [hp]; have HX := zaa.mk (And.intro hx hp); clear hx hp; by_cases cx : p < x
    · have c5 := zdt cx; go_wp2_with (go_at_call 137; (with_reducible refine (KFi.out b1 b2 _ ⟨zax HB.out.1.1 HQ.out, zax HB.out.1.2 HQ.out⟩ (Kd.zaL HR.out (HB.out.2.trans (HQ.out.mono HB.out.2.size)))).mono ?_); rintro e w3 ⟨rfl, hb⟩; have HB3 := zaa.mk hb; clear hb)
      go_roundg k1
      case measure => omega
      case rel =>
       refine ⟨i + 1, ?_, zbR, ⟨zdh⟩, ⟨HQ.out.trans (HB3.out.mono HQ.out.size)⟩⟩; show Value.int .i64 x = Value.int .i64 (max (zcL l s none i) (zbJ l s none ((i : Int) + 1)).1)
       rw [HX.out.1, HX.out.2, show max p x = x by omega]
    have c5 := zdf cx; go_wp2_with (go_at_call 137; (with_reducible refine (KFi.out b1 b2 _ ⟨zax HB.out.1.1 HQ.out, zax HB.out.1.2 HQ.out⟩ (Kd.zaL HR.out (HB.out.2.trans (HQ.out.mono HB.out.2.size)))).mono ?_); rintro e w3 ⟨rfl, hb⟩; have HB3 := zaa.mk hb; clear hb)
    go_roundg k1
    case measure => omega
    case rel =>
     refine ⟨i + 1, ?_, zbR, ⟨zdh⟩, ⟨HQ.out.trans (HB3.out.mono HQ.out.size)⟩⟩; show Value.int .i64 p = Value.int .i64 (max (zcL l s none i) (zbJ l s none ((i : Int) + 1)).1)
     rw [HX.out.1, HX.out.2, show max p x = p by omega]
 | some m =>
  rw [ew] at ok; have KK := zaa.mk (zmn HS A c l s m hc hin g1.1 g1.2 hll g3 ew); have KF : zaa (∀ (i : Nat), i < N → ∀ b lo hi W, zdJ W lo hi b m (zbG l m) → Calls Try.prog 28 #[.pointer (some ⟨b, 0, none⟩), .int .i64 ((i : Int) + 1)] W fun e w' => e = .returned (.tuple #[.int .i64 (zbJ l s (some m) ((i : Int) + 1)).1, .int .i64 0]) ∧ Below W.heap.size W w') := ⟨fun i hi b lo hi' W h1 => by
   have := zqW l s ((i : Int) + 1) m (znD g1.1 g1.2 ew) ⟨zq8, zq8⟩ hll b lo hi' W h1; rwa [ok i hi] at this⟩
  clear e g1 g2 g3 hno ew ok; go_enter Try.func45, Try.ntmps45
  go_wp2_with (first | (go_at_call 77; (with_reducible refine (KC.out _).mono ?_); rintro e w' ⟨rfl, ⟨nd, rfl⟩⟩) | (go_at_call 77; (with_reducible refine (KD.out _).mono ?_); rintro e w' ⟨rfl, ⟨nd, rfl⟩⟩) | (go_at_call 78; (with_reducible refine (KK.out _ (Kd.zaL HR.out (zaj (Below.refl _ _) _))).mono ?_); rintro e w2 ⟨b, lo, hi, rfl, hv, hb⟩; have hb' : Below w.heap.size w w2 := (zaj (Below.refl _ _) _).trans hb; have HB := zaa.mk (And.intro hv hb'); clear hv hb hb'))
  go_loopg [10, 32] N (fun kq v10 v32 W' => ∃ i : Nat, v10 = .int .i64 (zcL l s (some m) i) ∧ v32 = .int .i64 (i : Int) ∧ zaa (kq + i = N) ∧ zaa (Below w2.heap.size w2 W'))
  case atStart => exact ⟨0, rfl, rfl, ⟨rfl⟩, ⟨Below.refl _ _⟩⟩
  case round =>
   obtain ⟨i, rfl, rfl, HK, HQ⟩ := hrel; obtain ⟨U, rfl⟩ : ∃ U : World, U = wr := ⟨_, rfl⟩
   by_cases ci : i < N; rotate_left
   · have c1 : decide ((i : Int) < (N : Int)) = false := zdf zq8; obtain rfl : i = N := by have := HK.out; omega
     go_wp2; go_ret2
     exact ⟨rfl, HB.out.2.trans (HQ.out.mono HB.out.2.size)⟩
   have c1 : decide ((i : Int) < (N : Int)) = true := zdt zq8; have c2 : wrap64 ((i : Int) + 1) = (i : Int) + 1 := zaI zq8 zq8
   cases gk with
   | zero => exact absurd HK.out zq8
   | succ k1 =>
    have KFi := zaa.mk (KF.out i ci); obtain ⟨x, hx⟩ : ∃ x, (zbJ l s (some m) ((i : Int) + 1)).1 = x := ⟨_, rfl⟩
    obtain ⟨p, hp⟩ : ∃ p, zcL l s (some m) i = p := ⟨_, rfl⟩
    rw [hx] at KFi; rw [hp]; have HX := zaa.mk (And.intro hx hp); clear hx hp; by_cases cx : p < x
    · have c5 := zdt cx; go_wp2_with (go_at_call 28; (with_reducible refine (KFi.out b lo hi _ (HB.out.1.kept (S := fun _ => False) (zbM.of_below HQ.out _) (fun _ _ _ h => h))).mono ?_); rintro e w3 ⟨rfl, hb⟩; have HB3 := zaa.mk hb; clear hb)
      go_roundg k1
      case measure => omega
      case rel =>
       refine ⟨i + 1, ?_, zbR, ⟨zdh⟩, ⟨HQ.out.trans (HB3.out.mono HQ.out.size)⟩⟩; show Value.int .i64 x = Value.int .i64 (max (zcL l s (some m) i) (zbJ l s (some m) ((i : Int) + 1)).1)
       rw [HX.out.1, HX.out.2, show max p x = x by omega]
    have c5 := zdf cx; go_wp2_with (go_at_call 28; (with_reducible refine (KFi.out b lo hi _ (HB.out.1.kept (S := fun _ => False) (zbM.of_below HQ.out _) (fun _ _ _ h => h))).mono ?_); rintro e w3 ⟨rfl, hb⟩; have HB3 := zaa.mk hb; clear hb)
    go_roundg k1
    case measure => omega
    case rel =>
     refine ⟨i + 1, ?_, zbR, ⟨zdh⟩, ⟨HQ.out.trans (HB3.out.mono HQ.out.size)⟩⟩; show Value.int .i64 p = Value.int .i64 (max (zcL l s (some m) i) (zbJ l s (some m) ((i : Int) + 1)).1)
     rw [HX.out.1, HX.out.2, show max p x = p by omega]
end Go.Proofs.Ytemnfnbjapobcaa.Ho
end
section
namespace Go.Proofs.Ytemnfnbjapobcaa.Ho
open Go.RowKit Go.Proofs.ZW.PrintWords Go.Proofs.ZW.PrintLast Go.Proofs.ZW.PrintMore
open Go.Proofs.Ytemnfnbjapobcaa.FS Go.Proofs.Ytemnfnbjapobcaa.HS Go.Proofs.Ytemnfnbjapobcaa.FM
theorem zkJ (s : Int) (w : World) :
  Calls Try.prog 42 #[.int .i64 s] w fun e w' => ∃ v, e = .returned v ∧ Kd.R kMo 29 w' w.heap.size (fun _ => True) v (zed s) ∧ Below w.heap.size w w' := by
 by_cases h1 : s < 1
 · have e0 : zed s = [] := if_pos (.inl h1); have c0 := zdt h1; rw [e0]; clear h1 e0; go_enter Try.func42, Try.ntmps42
   go_wp2; go_ret; exact ⟨_, rfl, Kd.R_nil _ _ _ _ _, Below.refl _ _⟩
 have c0 := zdf h1; by_cases h2 : s > 10000
 · have e0 : zed s = [] := if_pos (.inr h2); have c1 := zdt h2; rw [e0]; clear h1 h2 e0; go_enter Try.func42, Try.ntmps42
   go_wp2; go_ret; exact ⟨_, rfl, Kd.R_nil _ _ _ _ _, Below.refl _ _⟩
 have c1 := zdf h2; have e0 : zed s = zbt s := if_neg zq8; rw [e0]; clear h1 h2 e0; go_enter Try.func42, Try.ntmps42
 go_wp2; go_loopg [4, 5] 2 (fun kq v4 v5 W' => ∃ i : Nat, v5 = .int .i64 (i : Int) ∧ zaa (kq + i = 2) ∧ zaa (Kd.R kMo 29 W' w.heap.size (fun _ => True) v4 ((zbt s).take (4 * i))) ∧ zaa (Below w.heap.size w W'))
 case atStart => exact ⟨0, rfl, ⟨rfl⟩, ⟨Kd.R_nil _ _ _ _ _⟩, ⟨Below.refl _ _⟩⟩
 case round =>
  obtain ⟨i, rfl, HK, HO, HB⟩ := hrel; obtain ⟨U, rfl⟩ : ∃ U : World, U = wr := ⟨_, rfl⟩
  cases gk with
  | zero =>
   obtain rfl : i = 2 := by have := HK.out; omega
   go_wp2; go_ret; exact ⟨_, rfl, HO.out, HB.out⟩
  | succ k1 =>
   have hi : i = 0 ∨ i = 1 := by have := HK.out; omega
   rcases hi with rfl | rfl
   · go_wp2; go_loopg [4, 6] 2 (fun kq v4 v6 W' => ∃ j : Nat, v6 = .int .i64 (j : Int) ∧ zaa (kq + j = 2) ∧ zaa (Kd.R kMo 29 W' w.heap.size (fun _ => True) v4 ((zbt s).take (0 + 2 * j))) ∧ zaa (Below w.heap.size w W'))
     case atStart => exact ⟨0, rfl, ⟨rfl⟩, HO, HB⟩
     case round =>
      clear HO HB; obtain ⟨j, rfl, HK2, HO, HB⟩ := hrel; obtain ⟨U2, rfl⟩ : ∃ U : World, U = wr := ⟨_, rfl⟩
      cases gk with
      | zero =>
       obtain rfl : j = 2 := by have := HK2.out; omega
       go_wp2; go_roundg k1
       case measure => omega
       case rel => exact ⟨1, zbR, ⟨zdh⟩, HO, HB⟩
      | succ k2 =>
       have hj : j = 0 ∨ j = 1 := by have := HK2.out; omega
       rcases hj with rfl | rfl
       · go_wp2; go_loopg [4, 7] 2 (fun kq v4 v7 W' => ∃ k : Nat, v7 = .int .i64 (k : Int) ∧ zaa (kq + k = 2) ∧ zaa (Kd.R kMo 29 W' w.heap.size (fun _ => True) v4 ((zbt s).take (0 + k))) ∧ zaa (Below w.heap.size w W'))
         case atStart => exact ⟨0, rfl, ⟨rfl⟩, HO, HB⟩
         case round =>
          clear HO HB; obtain ⟨k, rfl, HK3, HO, HB⟩ := hrel; obtain ⟨U3, rfl⟩ : ∃ U : World, U = wr := ⟨_, rfl⟩
          cases gk with
          | zero =>
           obtain rfl : k = 2 := by have := HK3.out; omega
           go_wp2; go_roundg k2
           case measure => omega
           case rel => exact ⟨1, zbR, ⟨zhS⟩, HO, HB⟩
          | succ k3 =>
           have hk : k = 0 ∨ k = 1 := by have := HK3.out; omega
           rcases hk with rfl | rfl
           · go_wp2_with (at_builtin; refine Kd.zcy kMo (w0 := w) w.heap.size rfl (.tmp 47) (.tmp 49) 58 29 (.agg #[(.int .i64 0), (.int .i64 0), (.int .i64 0), (.int .i64 0)]) 32 rfl Try.underlying58 zdO rfl zaR zq8 u4 ((zbt s).take 0) ⟨s, 1073741824, 0, 536870912⟩ (zbW ⟨s, 1073741824, 0, 536870912⟩) (fun _ => True) (fun _ => False) rfl zhT (zdo _ _ _ _) (fun _ hk => hk.elim) (fun _ _ => trivial) (Kd.zbo HO.out (by repeat (first | exact zaq (Below.refl _ _) _ | refine Below.setCell ?_ (Nat.le_refl _) _) : Below U3.heap.size U3 _)) (HB.out.trans ((by repeat (first | exact zaq (Below.refl _ _) _ | refine Below.setCell ?_ (Nat.le_refl _) _) : Below U3.heap.size U3 _).mono HB.out.size)) (Nat.le_trans HB.out.size (by repeat (first | exact zaq (Below.refl _ _) _ | refine Below.setCell ?_ (Nat.le_refl _) _) : Below U3.heap.size U3 _).size) zeP ?_)
             intro v1 w1 ho hb _ _; have HO1 := zaa.mk ho; have HB1 := zaa.mk hb; clear ho hb; go_wp2; go_roundg k3
             case measure => omega
             case rel => exact ⟨1, zbR, ⟨zeJ⟩, HO1, HB1⟩
           · go_wp2_with (at_builtin; refine Kd.zcy kMo (w0 := w) w.heap.size rfl (.tmp 47) (.tmp 49) 58 29 (.agg #[(.int .i64 0), (.int .i64 0), (.int .i64 0), (.int .i64 0)]) 32 rfl Try.underlying58 zdO rfl zaR zq8 u4 ((zbt s).take 1) ⟨s, 1073741824, 0, 2147483648⟩ (zbW ⟨s, 1073741824, 0, 2147483648⟩) (fun _ => True) (fun _ => False) rfl zhT (zdo _ _ _ _) (fun _ hk => hk.elim) (fun _ _ => trivial) (Kd.zbo HO.out (by repeat (first | exact zaq (Below.refl _ _) _ | refine Below.setCell ?_ (Nat.le_refl _) _) : Below U3.heap.size U3 _)) (HB.out.trans ((by repeat (first | exact zaq (Below.refl _ _) _ | refine Below.setCell ?_ (Nat.le_refl _) _) : Below U3.heap.size U3 _).mono HB.out.size)) (Nat.le_trans HB.out.size (by repeat (first | exact zaq (Below.refl _ _) _ | refine Below.setCell ?_ (Nat.le_refl _) _) : Below U3.heap.size U3 _).size) zeP ?_)
             intro v1 w1 ho hb _ _; have HO1 := zaa.mk ho; have HB1 := zaa.mk hb; clear ho hb; go_wp2; go_roundg k3
             case measure => omega
             case rel => exact ⟨2, zbR, ⟨zeJ⟩, HO1, HB1⟩
       · go_wp2; go_loopg [4, 7] 2 (fun kq v4 v7 W' => ∃ k : Nat, v7 = .int .i64 (k : Int) ∧ zaa (kq + k = 2) ∧ zaa (Kd.R kMo 29 W' w.heap.size (fun _ => True) v4 ((zbt s).take (2 + k))) ∧ zaa (Below w.heap.size w W'))
         case atStart => exact ⟨0, rfl, ⟨rfl⟩, HO, HB⟩
         case round =>
          clear HO HB; obtain ⟨k, rfl, HK3, HO, HB⟩ := hrel; obtain ⟨U3, rfl⟩ : ∃ U : World, U = wr := ⟨_, rfl⟩
          cases gk with
          | zero =>
           obtain rfl : k = 2 := by have := HK3.out; omega
           go_wp2; go_roundg k2
           case measure => omega
           case rel => exact ⟨2, zbR, ⟨zhS⟩, HO, HB⟩
          | succ k3 =>
           have hk : k = 0 ∨ k = 1 := by have := HK3.out; omega
           rcases hk with rfl | rfl
           · go_wp2_with (at_builtin; refine Kd.zcy kMo (w0 := w) w.heap.size rfl (.tmp 47) (.tmp 49) 58 29 (.agg #[(.int .i64 0), (.int .i64 0), (.int .i64 0), (.int .i64 0)]) 32 rfl Try.underlying58 zdO rfl zaR zq8 u4 ((zbt s).take 2) ⟨s, 1073741824, 536870912, 536870912⟩ (zbW ⟨s, 1073741824, 536870912, 536870912⟩) (fun _ => True) (fun _ => False) rfl zhT (zdo _ _ _ _) (fun _ hk => hk.elim) (fun _ _ => trivial) (Kd.zbo HO.out (by repeat (first | exact zaq (Below.refl _ _) _ | refine Below.setCell ?_ (Nat.le_refl _) _) : Below U3.heap.size U3 _)) (HB.out.trans ((by repeat (first | exact zaq (Below.refl _ _) _ | refine Below.setCell ?_ (Nat.le_refl _) _) : Below U3.heap.size U3 _).mono HB.out.size)) (Nat.le_trans HB.out.size (by repeat (first | exact zaq (Below.refl _ _) _ | refine Below.setCell ?_ (Nat.le_refl _) _) : Below U3.heap.size U3 _).size) zeP ?_)
             intro v1 w1 ho hb _ _; have HO1 := zaa.mk ho; have HB1 := zaa.mk hb; clear ho hb; go_wp2; go_roundg k3
             case measure => omega
             case rel => exact ⟨1, zbR, ⟨zeJ⟩, HO1, HB1⟩
           · go_wp2_with (at_builtin; refine Kd.zcy kMo (w0 := w) w.heap.size rfl (.tmp 47) (.tmp 49) 58 29 (.agg #[(.int .i64 0), (.int .i64 0), (.int .i64 0), (.int .i64 0)]) 32 rfl Try.underlying58 zdO rfl zaR zq8 u4 ((zbt s).take 3) ⟨s, 1073741824, 536870912, 2147483648⟩ (zbW ⟨s, 1073741824, 536870912, 2147483648⟩) (fun _ => True) (fun _ => False) rfl zhT (zdo _ _ _ _) (fun _ hk => hk.elim) (fun _ _ => trivial) (Kd.zbo HO.out (by repeat (first | exact zaq (Below.refl _ _) _ | refine Below.setCell ?_ (Nat.le_refl _) _) : Below U3.heap.size U3 _)) (HB.out.trans ((by repeat (first | exact zaq (Below.refl _ _) _ | refine Below.setCell ?_ (Nat.le_refl _) _) : Below U3.heap.size U3 _).mono HB.out.size)) (Nat.le_trans HB.out.size (by repeat (first | exact zaq (Below.refl _ _) _ | refine Below.setCell ?_ (Nat.le_refl _) _) : Below U3.heap.size U3 _).size) zeP ?_)
             intro v1 w1 ho hb _ _; have HO1 := zaa.mk ho; have HB1 := zaa.mk hb; clear ho hb; go_wp2; go_roundg k3
             case measure => omega
             case rel => exact ⟨2, zbR, ⟨zeJ⟩, HO1, HB1⟩
   · go_wp2; go_loopg [4, 6] 2 (fun kq v4 v6 W' => ∃ j : Nat, v6 = .int .i64 (j : Int) ∧ zaa (kq + j = 2) ∧ zaa (Kd.R kMo 29 W' w.heap.size (fun _ => True) v4 ((zbt s).take (4 + 2 * j))) ∧ zaa (Below w.heap.size w W'))
     case atStart => exact ⟨0, rfl, ⟨rfl⟩, HO, HB⟩
     case round =>
      clear HO HB; obtain ⟨j, rfl, HK2, HO, HB⟩ := hrel; obtain ⟨U2, rfl⟩ : ∃ U : World, U = wr := ⟨_, rfl⟩
      cases gk with
      | zero =>
       obtain rfl : j = 2 := by have := HK2.out; omega
       go_wp2; go_roundg k1
       case measure => omega
       case rel => exact ⟨2, zbR, ⟨zdh⟩, HO, HB⟩
      | succ k2 =>
       have hj : j = 0 ∨ j = 1 := by have := HK2.out; omega
       rcases hj with rfl | rfl
       · go_wp2; go_loopg [4, 7] 2 (fun kq v4 v7 W' => ∃ k : Nat, v7 = .int .i64 (k : Int) ∧ zaa (kq + k = 2) ∧ zaa (Kd.R kMo 29 W' w.heap.size (fun _ => True) v4 ((zbt s).take (4 + k))) ∧ zaa (Below w.heap.size w W'))
         case atStart => exact ⟨0, rfl, ⟨rfl⟩, HO, HB⟩
         case round =>
          clear HO HB; obtain ⟨k, rfl, HK3, HO, HB⟩ := hrel; obtain ⟨U3, rfl⟩ : ∃ U : World, U = wr := ⟨_, rfl⟩
          cases gk with
          | zero =>
           obtain rfl : k = 2 := by have := HK3.out; omega
           go_wp2; go_roundg k2
           case measure => omega
           case rel => exact ⟨1, zbR, ⟨zhS⟩, HO, HB⟩
          | succ k3 =>
           have hk : k = 0 ∨ k = 1 := by have := HK3.out; omega
           rcases hk with rfl | rfl
           · go_wp2_with (at_builtin; refine Kd.zcy kMo (w0 := w) w.heap.size rfl (.tmp 47) (.tmp 49) 58 29 (.agg #[(.int .i64 0), (.int .i64 0), (.int .i64 0), (.int .i64 0)]) 32 rfl Try.underlying58 zdO rfl zaR zq8 u4 ((zbt s).take 4) ⟨s, 2147483648, 0, 536870912⟩ (zbW ⟨s, 2147483648, 0, 536870912⟩) (fun _ => True) (fun _ => False) rfl zhT (zdo _ _ _ _) (fun _ hk => hk.elim) (fun _ _ => trivial) (Kd.zbo HO.out (by repeat (first | exact zaq (Below.refl _ _) _ | refine Below.setCell ?_ (Nat.le_refl _) _) : Below U3.heap.size U3 _)) (HB.out.trans ((by repeat (first | exact zaq (Below.refl _ _) _ | refine Below.setCell ?_ (Nat.le_refl _) _) : Below U3.heap.size U3 _).mono HB.out.size)) (Nat.le_trans HB.out.size (by repeat (first | exact zaq (Below.refl _ _) _ | refine Below.setCell ?_ (Nat.le_refl _) _) : Below U3.heap.size U3 _).size) zeP ?_)
             intro v1 w1 ho hb _ _; have HO1 := zaa.mk ho; have HB1 := zaa.mk hb; clear ho hb; go_wp2; go_roundg k3
             case measure => omega
             case rel => exact ⟨1, zbR, ⟨zeJ⟩, HO1, HB1⟩
           · go_wp2_with (at_builtin; refine Kd.zcy kMo (w0 := w) w.heap.size rfl (.tmp 47) (.tmp 49) 58 29 (.agg #[(.int .i64 0), (.int .i64 0), (.int .i64 0), (.int .i64 0)]) 32 rfl Try.underlying58 zdO rfl zaR zq8 u4 ((zbt s).take 5) ⟨s, 2147483648, 0, 2147483648⟩ (zbW ⟨s, 2147483648, 0, 2147483648⟩) (fun _ => True) (fun _ => False) rfl zhT (zdo _ _ _ _) (fun _ hk => hk.elim) (fun _ _ => trivial) (Kd.zbo HO.out (by repeat (first | exact zaq (Below.refl _ _) _ | refine Below.setCell ?_ (Nat.le_refl _) _) : Below U3.heap.size U3 _)) (HB.out.trans ((by repeat (first | exact zaq (Below.refl _ _) _ | refine Below.setCell ?_ (Nat.le_refl _) _) : Below U3.heap.size U3 _).mono HB.out.size)) (Nat.le_trans HB.out.size (by repeat (first | exact zaq (Below.refl _ _) _ | refine Below.setCell ?_ (Nat.le_refl _) _) : Below U3.heap.size U3 _).size) zeP ?_)
             intro v1 w1 ho hb _ _; have HO1 := zaa.mk ho; have HB1 := zaa.mk hb; clear ho hb; go_wp2; go_roundg k3
             case measure => omega
             case rel => exact ⟨2, zbR, ⟨zeJ⟩, HO1, HB1⟩
       · go_wp2; go_loopg [4, 7] 2 (fun kq v4 v7 W' => ∃ k : Nat, v7 = .int .i64 (k : Int) ∧ zaa (kq + k = 2) ∧ zaa (Kd.R kMo 29 W' w.heap.size (fun _ => True) v4 ((zbt s).take (6 + k))) ∧ zaa (Below w.heap.size w W'))
         case atStart => exact ⟨0, rfl, ⟨rfl⟩, HO, HB⟩
         case round =>
          clear HO HB; obtain ⟨k, rfl, HK3, HO, HB⟩ := hrel; obtain ⟨U3, rfl⟩ : ∃ U : World, U = wr := ⟨_, rfl⟩
          cases gk with
          | zero =>
           obtain rfl : k = 2 := by have := HK3.out; omega
           go_wp2; go_roundg k2
           case measure => omega
           case rel => exact ⟨2, zbR, ⟨zhS⟩, HO, HB⟩
          | succ k3 =>
           have hk : k = 0 ∨ k = 1 := by have := HK3.out; omega
           rcases hk with rfl | rfl
           · go_wp2_with (at_builtin; refine Kd.zcy kMo (w0 := w) w.heap.size rfl (.tmp 47) (.tmp 49) 58 29 (.agg #[(.int .i64 0), (.int .i64 0), (.int .i64 0), (.int .i64 0)]) 32 rfl Try.underlying58 zdO rfl zaR zq8 u4 ((zbt s).take 6) ⟨s, 2147483648, 536870912, 536870912⟩ (zbW ⟨s, 2147483648, 536870912, 536870912⟩) (fun _ => True) (fun _ => False) rfl zhT (zdo _ _ _ _) (fun _ hk => hk.elim) (fun _ _ => trivial) (Kd.zbo HO.out (by repeat (first | exact zaq (Below.refl _ _) _ | refine Below.setCell ?_ (Nat.le_refl _) _) : Below U3.heap.size U3 _)) (HB.out.trans ((by repeat (first | exact zaq (Below.refl _ _) _ | refine Below.setCell ?_ (Nat.le_refl _) _) : Below U3.heap.size U3 _).mono HB.out.size)) (Nat.le_trans HB.out.size (by repeat (first | exact zaq (Below.refl _ _) _ | refine Below.setCell ?_ (Nat.le_refl _) _) : Below U3.heap.size U3 _).size) zeP ?_)
             intro v1 w1 ho hb _ _; have HO1 := zaa.mk ho; have HB1 := zaa.mk hb; clear ho hb; go_wp2; go_roundg k3
             case measure => omega
             case rel => exact ⟨1, zbR, ⟨zeJ⟩, HO1, HB1⟩
           · go_wp2_with (at_builtin; refine Kd.zcy kMo (w0 := w) w.heap.size rfl (.tmp 47) (.tmp 49) 58 29 (.agg #[(.int .i64 0), (.int .i64 0), (.int .i64 0), (.int .i64 0)]) 32 rfl Try.underlying58 zdO rfl zaR zq8 u4 ((zbt s).take 7) ⟨s, 2147483648, 536870912, 2147483648⟩ (zbW ⟨s, 2147483648, 536870912, 2147483648⟩) (fun _ => True) (fun _ => False) rfl zhT (zdo _ _ _ _) (fun _ hk => hk.elim) (fun _ _ => trivial) (Kd.zbo HO.out (by repeat (first | exact zaq (Below.refl _ _) _ | refine Below.setCell ?_ (Nat.le_refl _) _) : Below U3.heap.size U3 _)) (HB.out.trans ((by repeat (first | exact zaq (Below.refl _ _) _ | refine Below.setCell ?_ (Nat.le_refl _) _) : Below U3.heap.size U3 _).mono HB.out.size)) (Nat.le_trans HB.out.size (by repeat (first | exact zaq (Below.refl _ _) _ | refine Below.setCell ?_ (Nat.le_refl _) _) : Below U3.heap.size U3 _).size) zeP ?_)
             intro v1 w1 ho hb _ _; have HO1 := zaa.mk ho; have HB1 := zaa.mk hb; clear ho hb; go_wp2; go_roundg k3
             case measure => omega
             case rel => exact ⟨2, zbR, ⟨zeJ⟩, HO1, HB1⟩
end Go.Proofs.Ytemnfnbjapobcaa.Ho
end
section
namespace Go.Proofs.Ytemnfnbjapobcaa.Cm
open Go.RowKit Go.Proofs.ZW.PrintWords Go.Proofs.ZW.PrintLast Go.Proofs.ZW.PrintMore
attribute [local go_sem] zcx zcw zcO zcN zco zcn zcJ zcI
def zgB : Option Int → Value
 | none => .nilIface
 | some c => .iface 0 (.int .i64 c)
theorem zey : zgB none = .nilIface := rfl
theorem zex (c : Int) : zgB (some c) = .iface 0 (.int .i64 c) := rfl
theorem zgL : (Try.prog.info? 3).map (fun i => (i.zero, i.size, i.bytes)) = some (some (.int .i64 0), 1, 8) := by kernel_rfl
end Go.Proofs.Ytemnfnbjapobcaa.Cm
end
