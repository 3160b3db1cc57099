-- Laid together by wip/shake.py out of: FlShow FlRow FlParse FlParse2 QT FlAlive
import Derived.Test.YtlifbogjjikhdaaDoorFloatsParsem2
import Derived.WalkSmall
import Derived.Lib.SmallJoins
import Derived.Lib.BufferRead
import Derived.Lib.VarintMem
import Derived.OwnWalk
import Derived.Test.YtlifbogjjikhdaaDoorRows
import Derived.ProofKit
import Derived.LaidMore
import Derived.OpenShut
import Derived.ShutString
import Derived.Stop.Joined
import Derived.Stop.LaidErr
import Derived.Below
import Derived.SizedLaws
import Derived.Lib.Strings
import Derived.Deep.Quiet
import Derived.StillTail
import Derived.Deep.QuietTactic
import Derived.Tactics
import Derived.BigQuiet
section
namespace Go.Proofs.YtlifbogjjikhdaaDoor.Fl
open Go.RowKit Go.Proofs.YtlifbogjjikhdaaDoorW.PrintWords Go.Proofs.YtlifbogjjikhdaaDoorW.PrintLast Go.Proofs.YtlifbogjjikhdaaDoorW.PrintMore
set_option linter.unusedVariables false
open Go.Proofs.YtlifbogjjikhdaaDoor.FL
abbrev Tab (w : World) : Prop := Lib.TabIs Tryd.prog w "internal/strconv.uint64pow10" .u64 Lib.pow10Tab
theorem glob_some : (Tryd.prog.globalNamed "internal/strconv.uint64pow10").isSome = true := by kernel_rfl
theorem glob_pow : ∃ g, Tryd.prog.globalNamed "internal/strconv.uint64pow10" = some g := Option.isSome_iff_exists.mp glob_some
theorem Tab.below {w w' : World} (h : Tab w) (hb : Below w.heap.size w w') : Tab w' := by
  obtain ⟨g, hg⟩ := glob_pow
  exact Joins.var_stays hg h hb (Nat.le_refl _)
theorem info5 : (Tryd.prog.info? 5).map (fun i => (i.zero, i.size, i.bytes)) = some (some (.int .u8 0), 1, 1) := by kernel_rfl
theorem app43 (u : Nat) (hu : u < 18446744073709551616) (B n : Nat) (sv : Value) (xs : List Value) (w : World) (hown : w.ownsRow B 5 1 sv n xs) (hBw : B ≤ w.heap.size) (hlim : n + 20 ≤ 140737488355328) (htab : Tab w) :
    Calls Tryd.prog 43 #[sv, .int .u64 u, .int .i64 10] w fun e w' => ∃ v', e = .returned v' ∧ w'.ownsRow B 5 1 v' (n + (Lib.decDigits u).length) (xs ++ Lib.byteCells (Lib.decDigits u)) ∧ Below B w w' := by
  by_cases c : u < 100
  · exact (Tryd.internal_strconv_AppendUint_10_small B n u c sv xs w hown hBw hlim).mono fun e w' ⟨v', a, b, c, _⟩ => ⟨v', a, b, c⟩
  · exact (Tryd.internal_strconv_AppendUint_10_big B n u (by omega) hu sv xs w hown hBw hlim htab).mono fun e w' ⟨v', a, b, c, _⟩ => ⟨v', a, b, c⟩
set_option maxRecDepth 100000 in
theorem app_calls (u : Nat) (hu : u < 18446744073709551616) (B n : Nat) (sv : Value) (xs : List Value) (w : World) (hown : w.ownsRow B 5 1 sv n xs) (hBw : B ≤ w.heap.size) (hlim : n + 20 ≤ 140737488355328) (htab : Tab w) :
    Calls Tryd.prog 38 #[sv, .int .u64 u, .int .i64 10] w fun e w' => ∃ v', e = .returned v' ∧ w'.ownsRow B 5 1 v' (n + (Lib.decDigits u).length) (xs ++ Lib.byteCells (Lib.decDigits u)) ∧ Below B w w' := by
  have H := Aside0.mk (app43 u hu B n sv xs w hown hBw hlim htab)
  clear hu hown hBw hlim htab
  go_enter Tryd.func38, Tryd.ntmps38
  go_wp2_with (go_at_call 43; refine H.out.mono ?_; rintro e w' ⟨v', rfl, ho, hb⟩)
  go_ret
  exact ⟨v', rfl, ho, hb⟩
def asc (l : List Nat) : List UInt8 := l.map fun d => (48 + d).toUInt8
def showF (k f : Nat) : List UInt8 := if f = 0 then [] else 46 :: asc (fd k f)
def showM (m : Nat) : List UInt8 := Lib.decDigits (m / 4294967296) ++ showF 32 (m % 4294967296)
theorem and_low (x : Nat) (h : x < 18446744073709551616) : bits .and .u64 (x : Int) 4294967295 = ((x % 4294967296 : Nat) : Int) := by
  have := u64_and_nat x 4294967295 h (by decide)
  rw [show ((4294967295 : Nat) : Int) = 4294967295 from rfl] at this
  rw [this]
  have e : x &&& 4294967295 = x % 4294967296 := Nat.and_two_pow_sub_one_eq_mod x 32
  rw [e]
theorem row_bytes {w : World} {B n : Nat} {v : Value} {l : List UInt8} (h : w.ownsRow B 5 1 v n (Lib.byteCells l)) : (convert 59 9 v).run Tryd.prog w = .ok (.string ⟨l.toArray⟩) w := by
  have hl : l.length = n := by have := h.1; rw [Lib.byteCells_length] at this; omega
  rcases h.2 with ⟨rfl, rfl⟩ | ⟨g, cap, cur, rfl, _, hg, _, _, _, htk⟩
  · obtain rfl : l = [] := List.eq_nil_of_length_eq_zero hl
    exact Lib.run_convert_nil_bytes w 59 9 5 0 Tryd.underlying59 Tryd.underlying5 Tryd.underlying9
  · subst hl
    exact run_convert_bytes_back (P := Tryd.prog) w 59 9 5 ⟨g, 0, none⟩ cap l Tryd.underlying59 Tryd.underlying5 Tryd.underlying9 (Lib.bytes_of_row hg (by simpa using htk))
theorem decD_eq (u : Nat) : Lib.decDigits u = asc (dec u) := by
  induction u using Nat.strongRecOn with
  | _ u ih =>
    rw [Lib.decDigits, dec_eq]
    by_cases h : u < 10
    · rw [dif_pos h, if_pos h]; rfl
    · rw [dif_neg h, if_neg h, ih (u / 10) (by omega)]
      unfold asc
      rw [List.map_append]
      rfl
theorem dec_len20 {u : Nat} (h : u < 4294967296) : (Lib.decDigits u).length ≤ 10 := by
  rw [decD_eq]
  unfold asc
  rw [List.length_map]
  exact dec_len 9 u (Nat.lt_of_lt_of_le h (by decide))
theorem neg_mag (x : Int) (h0 : -9223372036854775808 ≤ x) (c : x < 0) : IntKind.u64.wrap (-IntKind.u64.wrap x) = ((x.natAbs : Nat) : Int) := by
  rw [IntKind.wrap_u64, IntKind.wrap_u64]
  omega
def showZ (b : Bool) (m : Nat) : List UInt8 := (if b then [45] else []) ++ showM m
set_option maxHeartbeats 8000000 in
set_option maxRecDepth 100000 in
theorem show_neg (x : Int) (h0 : -9223372036854775808 ≤ x) (h1 : x ≤ 9223372036854775807) (c : x < 0) (w : World) (ht : Tab w) (m : Nat) (hm : x.natAbs = m) : Calls Tryd.prog 21 #[.int .i64 x] w fun e w' => e = .returned (.string ⟨(showZ true m).toArray⟩) ∧ Below w.heap.size w w' := by
  obtain ⟨i0, hi, hz0, hz1, hz2⟩ := info_parts info5
  have HT := Aside0.mk ht
  clear ht
  have c1 : decide (x < 0) = true := decide_eq_true c
  have HM : Aside0 (IntKind.u64.wrap (-IntKind.u64.wrap x) = ((m : Nat) : Int)) := ⟨by rw [← hm]; exact neg_mag x h0 c⟩
  go_enter Tryd.func21, Tryd.ntmps21
  go_upto_region 6 with (at_builtin; refine wpList_append_own _ rfl _ _ 59 rfl w.heap.size 5 i0 (.int .u8 0) 1 1 Tryd.underlying59 hi hz0 hz1 hz2 rfl (by decide) _ 0 [] rfl (World.ownsRow_nil _ _ _ _) ⟨w.heap.size, 0, none⟩ 1 1 [Value.int .u8 45] rfl rfl ?c1 ?c2 ?c3 ?c4 ?c5 ?_)
  case c1 =>
    intro j u hj
    match j, hj with
    | 0, hj => simp at hj; subst hj; simp [Addr.add]
  case c2 => intro u hu; simp at hu; subst hu; rfl
  case c3 => decide
  case c4 => decide
  case c5 => simp
  intro v1 W1 hown0 hgrow _
  have hB0 : Below w.heap.size w W1 := ((Below.refl _ _).alloc (Nat.le_refl _) _).grown hgrow (by simp) (fun k hk => by cases hk)
  clear hgrow
  go_upto_region 6 with (fail)
  rw [HM.out]
  have hm1 : m ≤ 9223372036854775808 := by omega
  clear hm c c1

  have hq : m / 4294967296 < 4294967296 := by omega
  have HC := Aside0.mk (app_calls (m / 4294967296) (by omega) w.heap.size _ _ _ _ hown0 hB0.size (by decide) (HT.out.below hB0))
  clear hown0
  go_upto_region 7 with (go_at_call 38; refine HC.out.mono ?_; rintro e W2 ⟨v2, rfl, ho2, hb2⟩)
  have hB2 : Below w.heap.size w W2 := hB0.trans hb2
  have hdl := dec_len20 hq
  obtain ⟨pre1, hpre1⟩ : ∃ p, [45] ++ Lib.decDigits (m / 4294967296) = p := ⟨_, rfl⟩
  have hown2 : W2.ownsRow w.heap.size 5 1 v2 pre1.length (Lib.byteCells pre1) := by
    rw [← hpre1, Lib.byteCells_append, List.length_append]
    exact ho2
  have hp1 : pre1.length ≤ 11 := by rw [← hpre1, List.length_append]; simp; omega
  have HP1 := Aside0.mk hpre1
  clear ho2 hpre1 hb2 hdl hq
  go_upto_region 8 with (fail)
  have HF := Aside0.mk (and_low m (by omega))
  rw [HF.out]
  have hfl : m % 4294967296 < 4294967296 := Nat.mod_lt _ (by decide)
  obtain ⟨f, hfm⟩ : ∃ f, m % 4294967296 = f := ⟨_, rfl⟩
  rw [hfm] at hfl ⊢
  have HFM := Aside0.mk hfm
  clear hfm
  by_cases c2 : f = 0
  · have c3 : ((f : Int) != 0) = false := by simpa using c2
    obtain ⟨L, hLs⟩ : ∃ L, pre1 = L := ⟨_, rfl⟩
    have HLS : Aside0 (L = showZ true m) := ⟨by
      rw [← hLs, ← HP1.out]
      unfold showZ showM showF
      rw [HFM.out, if_pos c2, List.append_nil]
      rfl⟩
    have HLL : Aside0 (L = pre1 ++ asc (fd 32 f)) := ⟨by rw [← hLs, c2]; simp [asc, fd]⟩
    have C2 := Aside0.mk c2
    clear hLs c2
    go_upto_region 10 with (fail)
    go_loopw [4, 5] (fun vb vf wr => ∃ (k f' : Nat) (pre : List UInt8), vf = .int .u64 (f' : Int) ∧ f' < 4294967296 ∧ k ≤ 32 ∧ 4294967296 ∣ f' * 10 ^ k ∧ pre.length + k ≤ 60 ∧ L = pre ++ asc (fd k f') ∧ wr.ownsRow w.heap.size 5 1 vb pre.length (Lib.byteCells pre) ∧ Below w.heap.size w wr)
      (fun _ vf _ => (fd 32 (intOf vf).toNat).length)
    case atStart => exact ⟨32, f, pre1, rfl, hfl, Nat.le_refl _, fd_32 f, by omega, HLL.out, hown2, hB2⟩
    case round =>
      obtain ⟨k, f', pre, rfl, hf', hk, hdv, hpl, hL, hown3, hB3⟩ := hrel
      have HL := Aside0.mk hL
      have HDV := Aside0.mk hdv
      clear hL hdv
      by_cases c4 : f' = 0
      · subst c4
        have hcv := row_bytes hown3
        go_wp2
        go_ret
        refine ⟨?_, hB3⟩
        have e1 := HL.out
        rw [show fd k 0 = [] by cases k <;> rfl] at e1
        rw [show asc [] = [] from rfl, List.append_nil] at e1
        rw [← e1, HLS.out]
        rfl
      · obtain ⟨k, rfl⟩ : ∃ k', k = k' + 1 := by
          rcases k with _ | k
          · have e := HDV.out
            rw [Nat.pow_zero, Nat.mul_one] at e
            exact absurd (Nat.eq_zero_of_dvd_of_lt e hf') c4
          · exact ⟨k, rfl⟩
        have c5 : ((f' : Int) != 0) = true := by simpa using c4
        have efd : fd (k + 1) f' = 10 * f' / 4294967296 :: fd k (10 * f' % 4294967296) := by
          show (if f' = 0 then [] else _) = _
          rw [if_neg c4]
        have HE := Aside0.mk efd
        clear efd
        have b1 : (f' : Int) < 4294967296 := by omega
        have c4' := Aside0.mk c4
        clear c4
        go_upto_region 12 with (fail)
        obtain ⟨g, hg⟩ : ∃ g, 10 * f' = g := ⟨_, rfl⟩
        have eg : (f' : Int) * 10 = (g : Int) := by omega
        rw [eg]
        have hgl : g < 42949672960 := by omega
        have b2 : (g : Int) / 4294967296 < 10 := by omega
        have b3 : 0 ≤ (g : Int) / 4294967296 := by omega
        go_upto_region 13 with (at_builtin; refine wpList_append_own _ rfl _ _ 59 rfl w.heap.size 5 i0 (.int .u8 0) 1 1 Tryd.underlying59 hi hz0 hz1 hz2 rfl (by decide) _ _ _ rfl (hown3.alloc _) ⟨wr.heap.size, 0, none⟩ 1 1 [Value.int .u8 (48 + (g : Int) / 4294967296)] rfl rfl ?c1 ?c2 ?c3 ?c4 ?c5 ?_)
        case c1 =>
          intro j u hj
          match j, hj with
          | 0, hj => simp at hj; subst hj; simp [Addr.add]
        case c2 => intro u hu; simp at hu; subst hu; rfl
        case c3 => unfold maxLen; omega
        case c4 => omega
        case c5 => have := hB3.size; simp; omega
        intro v4 W4 hown' hgrow _
        have hB4 : Below w.heap.size w W4 := (hB3.alloc (by have := hB3.size; omega) _).grown hgrow (by have := hB3.size; simp; omega) (fun k hk => (hown3.lt k hk).1)
        have hown4 : W4.ownsRow w.heap.size 5 1 v4 (pre ++ [(48 + g / 4294967296).toUInt8]).length (Lib.byteCells (pre ++ [(48 + g / 4294967296).toUInt8])) := by
          rw [Lib.byteCells_snoc pre (by omega), List.length_append]
          have ec : ((48 + g / 4294967296 : Nat) : Int) = 48 + (g : Int) / 4294967296 := by omega
          rw [ec]
          exact hown'
        clear hown' hgrow hown3 hB3
        go_upto_region 14 with (fail)
        have HG := Aside0.mk (and_low g (by omega))
        try rw [HG.out]
        go_wp2
        go_roundw
        case rel =>
          refine ⟨k, g % 4294967296, _, ?_, Nat.mod_lt _ (by decide), by omega, ?_, ?_, ?_, hown4, hB4⟩
          · first | rw [HG.out] | rfl
          · rw [← hg]; exact dvd_step HDV.out
          · rw [List.length_append]; simp; omega
          · rw [HL.out, HE.out, hg]
            simp [asc]
        case measure =>
          have e32 : fd 32 f' = fd (k + 1) f' := by
            have e := fd_more (k + 1) f' (31 - k) hf' HDV.out
            rwa [show k + 1 + (31 - k) = 32 by omega] at e
          have e32' : fd 32 (g % 4294967296) = fd k (g % 4294967296) := by
            have e := fd_more k (g % 4294967296) (32 - k) (Nat.mod_lt _ (by decide)) (by rw [← hg]; exact dvd_step HDV.out)
            rwa [show k + (32 - k) = 32 by omega] at e
          show (fd 32 (g % 4294967296)).length < (fd 32 f').length
          rw [e32, e32', HE.out, hg]
          simp

  · have c3 : ((f : Int) != 0) = true := by simpa using c2
    go_upto_region 10 with (at_builtin; refine wpList_append_own _ rfl _ _ 59 rfl w.heap.size 5 i0 (.int .u8 0) 1 1 Tryd.underlying59 hi hz0 hz1 hz2 rfl (by decide) _ _ _ rfl (hown2.alloc _) ⟨W2.heap.size, 0, none⟩ 1 1 [Value.int .u8 46] rfl rfl ?c1 ?c2 ?c3 ?c4 ?c5 ?_)
    case c1 =>
      intro j u hj
      match j, hj with
      | 0, hj => simp at hj; subst hj; simp [Addr.add]
    case c2 => intro u hu; simp at hu; subst hu; rfl
    case c3 => unfold maxLen; omega
    case c4 => omega
    case c5 => have := hB2.size; simp; omega
    intro v3 W3 hown' hgrow _
    have hB3 : Below w.heap.size w W3 := (hB2.alloc (by have := hB2.size; omega) _).grown hgrow (by have := hB2.size; simp; omega) (fun k hk => (hown2.lt k hk).1)
    obtain ⟨pre2, hpre2⟩ : ∃ p, pre1 ++ [46] = p := ⟨_, rfl⟩
    have hownP : W3.ownsRow w.heap.size 5 1 v3 pre2.length (Lib.byteCells pre2) := by
      rw [← hpre2, Lib.byteCells_append, List.length_append]
      exact hown'
    have hp2 : pre2.length ≤ 12 := by rw [← hpre2, List.length_append]; simp; omega
    obtain ⟨L, hLs⟩ : ∃ L, pre2 ++ asc (fd 32 f) = L := ⟨_, rfl⟩
    have HLS : Aside0 (L = showZ true m) := ⟨by
      rw [← hLs, ← hpre2, ← HP1.out]
      unfold showZ showM showF
      rw [HFM.out, if_neg c2]
      simp⟩
    have HLL : Aside0 (L = pre2 ++ asc (fd 32 f)) := ⟨hLs.symm⟩
    clear hLs hpre2 hown' hgrow
    clear hown2 hB2 hp1
    go_upto_region 10 with (fail)
    go_loopw [4, 5] (fun vb vf wr => ∃ (k f' : Nat) (pre : List UInt8), vf = .int .u64 (f' : Int) ∧ f' < 4294967296 ∧ k ≤ 32 ∧ 4294967296 ∣ f' * 10 ^ k ∧ pre.length + k ≤ 60 ∧ L = pre ++ asc (fd k f') ∧ wr.ownsRow w.heap.size 5 1 vb pre.length (Lib.byteCells pre) ∧ Below w.heap.size w wr)
      (fun _ vf _ => (fd 32 (intOf vf).toNat).length)
    case atStart => exact ⟨32, f, pre2, rfl, hfl, Nat.le_refl _, fd_32 f, by omega, HLL.out, hownP, hB3⟩
    case round =>
      obtain ⟨k, f', pre, rfl, hf', hk, hdv, hpl, hL, hown3, hB3⟩ := hrel
      have HL := Aside0.mk hL
      have HDV := Aside0.mk hdv
      clear hL hdv
      by_cases c4 : f' = 0
      · subst c4
        have hcv := row_bytes hown3
        go_wp2
        go_ret
        refine ⟨?_, hB3⟩
        have e1 := HL.out
        rw [show fd k 0 = [] by cases k <;> rfl] at e1
        rw [show asc [] = [] from rfl, List.append_nil] at e1
        rw [← e1, HLS.out]
        rfl
      · obtain ⟨k, rfl⟩ : ∃ k', k = k' + 1 := by
          rcases k with _ | k
          · have e := HDV.out
            rw [Nat.pow_zero, Nat.mul_one] at e
            exact absurd (Nat.eq_zero_of_dvd_of_lt e hf') c4
          · exact ⟨k, rfl⟩
        have c5 : ((f' : Int) != 0) = true := by simpa using c4
        have efd : fd (k + 1) f' = 10 * f' / 4294967296 :: fd k (10 * f' % 4294967296) := by
          show (if f' = 0 then [] else _) = _
          rw [if_neg c4]
        have HE := Aside0.mk efd
        clear efd
        have b1 : (f' : Int) < 4294967296 := by omega
        have c4' := Aside0.mk c4
        clear c4
        go_upto_region 12 with (fail)
        obtain ⟨g, hg⟩ : ∃ g, 10 * f' = g := ⟨_, rfl⟩
        have eg : (f' : Int) * 10 = (g : Int) := by omega
        rw [eg]
        have hgl : g < 42949672960 := by omega
        have b2 : (g : Int) / 4294967296 < 10 := by omega
        have b3 : 0 ≤ (g : Int) / 4294967296 := by omega
        go_upto_region 13 with (at_builtin; refine wpList_append_own _ rfl _ _ 59 rfl w.heap.size 5 i0 (.int .u8 0) 1 1 Tryd.underlying59 hi hz0 hz1 hz2 rfl (by decide) _ _ _ rfl (hown3.alloc _) ⟨wr.heap.size, 0, none⟩ 1 1 [Value.int .u8 (48 + (g : Int) / 4294967296)] rfl rfl ?c1 ?c2 ?c3 ?c4 ?c5 ?_)
        case c1 =>
          intro j u hj
          match j, hj with
          | 0, hj => simp at hj; subst hj; simp [Addr.add]
        case c2 => intro u hu; simp at hu; subst hu; rfl
        case c3 => unfold maxLen; omega
        case c4 => omega
        case c5 => have := hB3.size; simp; omega
        intro v4 W4 hown' hgrow _
        have hB4 : Below w.heap.size w W4 := (hB3.alloc (by have := hB3.size; omega) _).grown hgrow (by have := hB3.size; simp; omega) (fun k hk => (hown3.lt k hk).1)
        have hown4 : W4.ownsRow w.heap.size 5 1 v4 (pre ++ [(48 + g / 4294967296).toUInt8]).length (Lib.byteCells (pre ++ [(48 + g / 4294967296).toUInt8])) := by
          rw [Lib.byteCells_snoc pre (by omega), List.length_append]
          have ec : ((48 + g / 4294967296 : Nat) : Int) = 48 + (g : Int) / 4294967296 := by omega
          rw [ec]
          exact hown'
        clear hown' hgrow hown3 hB3
        go_upto_region 14 with (fail)
        have HG := Aside0.mk (and_low g (by omega))
        try rw [HG.out]
        go_wp2
        go_roundw
        case rel =>
          refine ⟨k, g % 4294967296, _, ?_, Nat.mod_lt _ (by decide), by omega, ?_, ?_, ?_, hown4, hB4⟩
          · first | rw [HG.out] | rfl
          · rw [← hg]; exact dvd_step HDV.out
          · rw [List.length_append]; simp; omega
          · rw [HL.out, HE.out, hg]
            simp [asc]
        case measure =>
          have e32 : fd 32 f' = fd (k + 1) f' := by
            have e := fd_more (k + 1) f' (31 - k) hf' HDV.out
            rwa [show k + 1 + (31 - k) = 32 by omega] at e
          have e32' : fd 32 (g % 4294967296) = fd k (g % 4294967296) := by
            have e := fd_more k (g % 4294967296) (32 - k) (Nat.mod_lt _ (by decide)) (by rw [← hg]; exact dvd_step HDV.out)
            rwa [show k + (32 - k) = 32 by omega] at e
          show (fd 32 (g % 4294967296)).length < (fd 32 f').length
          rw [e32, e32', HE.out, hg]
          simp
set_option maxHeartbeats 8000000 in
set_option maxRecDepth 100000 in
theorem show_pos (x : Int) (h0 : -9223372036854775808 ≤ x) (h1 : x ≤ 9223372036854775807) (c : 0 ≤ x) (w : World) (ht : Tab w) (m : Nat) (hm : x.natAbs = m) : Calls Tryd.prog 21 #[.int .i64 x] w fun e w' => e = .returned (.string ⟨(showZ false m).toArray⟩) ∧ Below w.heap.size w w' := by
  obtain ⟨i0, hi, hz0, hz1, hz2⟩ := info_parts info5
  have HT := Aside0.mk ht
  clear ht
  have c1 : decide (x < 0) = false := decide_eq_false (by omega)
  obtain rfl : x = (m : Int) := by omega
  go_enter Tryd.func21, Tryd.ntmps21
  go_upto_region 6 with (fail)
  have hm1 : m ≤ 9223372036854775808 := by omega
  have hB0 : Below w.heap.size w w := Below.refl _ _
  have hown0 := World.ownsRow_nil w w.heap.size 5 1
  clear hm c c1

  have hq : m / 4294967296 < 4294967296 := by omega
  have HC := Aside0.mk (app_calls (m / 4294967296) (by omega) w.heap.size _ _ _ _ hown0 hB0.size (by decide) (HT.out.below hB0))
  clear hown0
  go_upto_region 7 with (go_at_call 38; refine HC.out.mono ?_; rintro e W2 ⟨v2, rfl, ho2, hb2⟩)
  have hB2 : Below w.heap.size w W2 := hB0.trans hb2
  have hdl := dec_len20 hq
  obtain ⟨pre1, hpre1⟩ : ∃ p, ([] : List UInt8) ++ Lib.decDigits (m / 4294967296) = p := ⟨_, rfl⟩
  have hown2 : W2.ownsRow w.heap.size 5 1 v2 pre1.length (Lib.byteCells pre1) := by
    rw [← hpre1, Lib.byteCells_append, List.length_append]
    exact ho2
  have hp1 : pre1.length ≤ 11 := by rw [← hpre1, List.length_append]; simp; omega
  have HP1 := Aside0.mk hpre1
  clear ho2 hpre1 hb2 hdl hq
  go_upto_region 8 with (fail)
  have HF := Aside0.mk (and_low m (by omega))
  rw [HF.out]
  have hfl : m % 4294967296 < 4294967296 := Nat.mod_lt _ (by decide)
  obtain ⟨f, hfm⟩ : ∃ f, m % 4294967296 = f := ⟨_, rfl⟩
  rw [hfm] at hfl ⊢
  have HFM := Aside0.mk hfm
  clear hfm
  by_cases c2 : f = 0
  · have c3 : ((f : Int) != 0) = false := by simpa using c2
    obtain ⟨L, hLs⟩ : ∃ L, pre1 = L := ⟨_, rfl⟩
    have HLS : Aside0 (L = showZ false m) := ⟨by
      rw [← hLs, ← HP1.out]
      unfold showZ showM showF
      rw [HFM.out, if_pos c2, List.append_nil]
      rfl⟩
    have HLL : Aside0 (L = pre1 ++ asc (fd 32 f)) := ⟨by rw [← hLs, c2]; simp [asc, fd]⟩
    have C2 := Aside0.mk c2
    clear hLs c2
    go_upto_region 10 with (fail)
    go_loopw [4, 5] (fun vb vf wr => ∃ (k f' : Nat) (pre : List UInt8), vf = .int .u64 (f' : Int) ∧ f' < 4294967296 ∧ k ≤ 32 ∧ 4294967296 ∣ f' * 10 ^ k ∧ pre.length + k ≤ 60 ∧ L = pre ++ asc (fd k f') ∧ wr.ownsRow w.heap.size 5 1 vb pre.length (Lib.byteCells pre) ∧ Below w.heap.size w wr)
      (fun _ vf _ => (fd 32 (intOf vf).toNat).length)
    case atStart => exact ⟨32, f, pre1, rfl, hfl, Nat.le_refl _, fd_32 f, by omega, HLL.out, hown2, hB2⟩
    case round =>
      obtain ⟨k, f', pre, rfl, hf', hk, hdv, hpl, hL, hown3, hB3⟩ := hrel
      have HL := Aside0.mk hL
      have HDV := Aside0.mk hdv
      clear hL hdv
      by_cases c4 : f' = 0
      · subst c4
        have hcv := row_bytes hown3
        go_wp2
        go_ret
        refine ⟨?_, hB3⟩
        have e1 := HL.out
        rw [show fd k 0 = [] by cases k <;> rfl] at e1
        rw [show asc [] = [] from rfl, List.append_nil] at e1
        rw [← e1, HLS.out]
        rfl
      · obtain ⟨k, rfl⟩ : ∃ k', k = k' + 1 := by
          rcases k with _ | k
          · have e := HDV.out
            rw [Nat.pow_zero, Nat.mul_one] at e
            exact absurd (Nat.eq_zero_of_dvd_of_lt e hf') c4
          · exact ⟨k, rfl⟩
        have c5 : ((f' : Int) != 0) = true := by simpa using c4
        have efd : fd (k + 1) f' = 10 * f' / 4294967296 :: fd k (10 * f' % 4294967296) := by
          show (if f' = 0 then [] else _) = _
          rw [if_neg c4]
        have HE := Aside0.mk efd
        clear efd
        have b1 : (f' : Int) < 4294967296 := by omega
        have c4' := Aside0.mk c4
        clear c4
        go_upto_region 12 with (fail)
        obtain ⟨g, hg⟩ : ∃ g, 10 * f' = g := ⟨_, rfl⟩
        have eg : (f' : Int) * 10 = (g : Int) := by omega
        rw [eg]
        have hgl : g < 42949672960 := by omega
        have b2 : (g : Int) / 4294967296 < 10 := by omega
        have b3 : 0 ≤ (g : Int) / 4294967296 := by omega
        go_upto_region 13 with (at_builtin; refine wpList_append_own _ rfl _ _ 59 rfl w.heap.size 5 i0 (.int .u8 0) 1 1 Tryd.underlying59 hi hz0 hz1 hz2 rfl (by decide) _ _ _ rfl (hown3.alloc _) ⟨wr.heap.size, 0, none⟩ 1 1 [Value.int .u8 (48 + (g : Int) / 4294967296)] rfl rfl ?c1 ?c2 ?c3 ?c4 ?c5 ?_)
        case c1 =>
          intro j u hj
          match j, hj with
          | 0, hj => simp at hj; subst hj; simp [Addr.add]
        case c2 => intro u hu; simp at hu; subst hu; rfl
        case c3 => unfold maxLen; omega
        case c4 => omega
        case c5 => have := hB3.size; simp; omega
        intro v4 W4 hown' hgrow _
        have hB4 : Below w.heap.size w W4 := (hB3.alloc (by have := hB3.size; omega) _).grown hgrow (by have := hB3.size; simp; omega) (fun k hk => (hown3.lt k hk).1)
        have hown4 : W4.ownsRow w.heap.size 5 1 v4 (pre ++ [(48 + g / 4294967296).toUInt8]).length (Lib.byteCells (pre ++ [(48 + g / 4294967296).toUInt8])) := by
          rw [Lib.byteCells_snoc pre (by omega), List.length_append]
          have ec : ((48 + g / 4294967296 : Nat) : Int) = 48 + (g : Int) / 4294967296 := by omega
          rw [ec]
          exact hown'
        clear hown' hgrow hown3 hB3
        go_upto_region 14 with (fail)
        have HG := Aside0.mk (and_low g (by omega))
        try rw [HG.out]
        go_wp2
        go_roundw
        case rel =>
          refine ⟨k, g % 4294967296, _, ?_, Nat.mod_lt _ (by decide), by omega, ?_, ?_, ?_, hown4, hB4⟩
          · first | rw [HG.out] | rfl
          · rw [← hg]; exact dvd_step HDV.out
          · rw [List.length_append]; simp; omega
          · rw [HL.out, HE.out, hg]
            simp [asc]
        case measure =>
          have e32 : fd 32 f' = fd (k + 1) f' := by
            have e := fd_more (k + 1) f' (31 - k) hf' HDV.out
            rwa [show k + 1 + (31 - k) = 32 by omega] at e
          have e32' : fd 32 (g % 4294967296) = fd k (g % 4294967296) := by
            have e := fd_more k (g % 4294967296) (32 - k) (Nat.mod_lt _ (by decide)) (by rw [← hg]; exact dvd_step HDV.out)
            rwa [show k + (32 - k) = 32 by omega] at e
          show (fd 32 (g % 4294967296)).length < (fd 32 f').length
          rw [e32, e32', HE.out, hg]
          simp

  · have c3 : ((f : Int) != 0) = true := by simpa using c2
    go_upto_region 10 with (at_builtin; refine wpList_append_own _ rfl _ _ 59 rfl w.heap.size 5 i0 (.int .u8 0) 1 1 Tryd.underlying59 hi hz0 hz1 hz2 rfl (by decide) _ _ _ rfl (hown2.alloc _) ⟨W2.heap.size, 0, none⟩ 1 1 [Value.int .u8 46] rfl rfl ?c1 ?c2 ?c3 ?c4 ?c5 ?_)
    case c1 =>
      intro j u hj
      match j, hj with
      | 0, hj => simp at hj; subst hj; simp [Addr.add]
    case c2 => intro u hu; simp at hu; subst hu; rfl
    case c3 => unfold maxLen; omega
    case c4 => omega
    case c5 => have := hB2.size; simp; omega
    intro v3 W3 hown' hgrow _
    have hB3 : Below w.heap.size w W3 := (hB2.alloc (by have := hB2.size; omega) _).grown hgrow (by have := hB2.size; simp; omega) (fun k hk => (hown2.lt k hk).1)
    obtain ⟨pre2, hpre2⟩ : ∃ p, pre1 ++ [46] = p := ⟨_, rfl⟩
    have hownP : W3.ownsRow w.heap.size 5 1 v3 pre2.length (Lib.byteCells pre2) := by
      rw [← hpre2, Lib.byteCells_append, List.length_append]
      exact hown'
    have hp2 : pre2.length ≤ 12 := by rw [← hpre2, List.length_append]; simp; omega
    obtain ⟨L, hLs⟩ : ∃ L, pre2 ++ asc (fd 32 f) = L := ⟨_, rfl⟩
    have HLS : Aside0 (L = showZ false m) := ⟨by
      rw [← hLs, ← hpre2, ← HP1.out]
      unfold showZ showM showF
      rw [HFM.out, if_neg c2]
      simp⟩
    have HLL : Aside0 (L = pre2 ++ asc (fd 32 f)) := ⟨hLs.symm⟩
    clear hLs hpre2 hown' hgrow
    clear hown2 hB2 hp1
    go_upto_region 10 with (fail)
    go_loopw [4, 5] (fun vb vf wr => ∃ (k f' : Nat) (pre : List UInt8), vf = .int .u64 (f' : Int) ∧ f' < 4294967296 ∧ k ≤ 32 ∧ 4294967296 ∣ f' * 10 ^ k ∧ pre.length + k ≤ 60 ∧ L = pre ++ asc (fd k f') ∧ wr.ownsRow w.heap.size 5 1 vb pre.length (Lib.byteCells pre) ∧ Below w.heap.size w wr)
      (fun _ vf _ => (fd 32 (intOf vf).toNat).length)
    case atStart => exact ⟨32, f, pre2, rfl, hfl, Nat.le_refl _, fd_32 f, by omega, HLL.out, hownP, hB3⟩
    case round =>
      obtain ⟨k, f', pre, rfl, hf', hk, hdv, hpl, hL, hown3, hB3⟩ := hrel
      have HL := Aside0.mk hL
      have HDV := Aside0.mk hdv
      clear hL hdv
      by_cases c4 : f' = 0
      · subst c4
        have hcv := row_bytes hown3
        go_wp2
        go_ret
        refine ⟨?_, hB3⟩
        have e1 := HL.out
        rw [show fd k 0 = [] by cases k <;> rfl] at e1
        rw [show asc [] = [] from rfl, List.append_nil] at e1
        rw [← e1, HLS.out]
        rfl
      · obtain ⟨k, rfl⟩ : ∃ k', k = k' + 1 := by
          rcases k with _ | k
          · have e := HDV.out
            rw [Nat.pow_zero, Nat.mul_one] at e
            exact absurd (Nat.eq_zero_of_dvd_of_lt e hf') c4
          · exact ⟨k, rfl⟩
        have c5 : ((f' : Int) != 0) = true := by simpa using c4
        have efd : fd (k + 1) f' = 10 * f' / 4294967296 :: fd k (10 * f' % 4294967296) := by
          show (if f' = 0 then [] else _) = _
          rw [if_neg c4]
        have HE := Aside0.mk efd
        clear efd
        have b1 : (f' : Int) < 4294967296 := by omega
        have c4' := Aside0.mk c4
        clear c4
        go_upto_region 12 with (fail)
        obtain ⟨g, hg⟩ : ∃ g, 10 * f' = g := ⟨_, rfl⟩
        have eg : (f' : Int) * 10 = (g : Int) := by omega
        rw [eg]
        have hgl : g < 42949672960 := by omega
        have b2 : (g : Int) / 4294967296 < 10 := by omega
        have b3 : 0 ≤ (g : Int) / 4294967296 := by omega
        go_upto_region 13 with (at_builtin; refine wpList_append_own _ rfl _ _ 59 rfl w.heap.size 5 i0 (.int .u8 0) 1 1 Tryd.underlying59 hi hz0 hz1 hz2 rfl (by decide) _ _ _ rfl (hown3.alloc _) ⟨wr.heap.size, 0, none⟩ 1 1 [Value.int .u8 (48 + (g : Int) / 4294967296)] rfl rfl ?c1 ?c2 ?c3 ?c4 ?c5 ?_)
        case c1 =>
          intro j u hj
          match j, hj with
          | 0, hj => simp at hj; subst hj; simp [Addr.add]
        case c2 => intro u hu; simp at hu; subst hu; rfl
        case c3 => unfold maxLen; omega
        case c4 => omega
        case c5 => have := hB3.size; simp; omega
        intro v4 W4 hown' hgrow _
        have hB4 : Below w.heap.size w W4 := (hB3.alloc (by have := hB3.size; omega) _).grown hgrow (by have := hB3.size; simp; omega) (fun k hk => (hown3.lt k hk).1)
        have hown4 : W4.ownsRow w.heap.size 5 1 v4 (pre ++ [(48 + g / 4294967296).toUInt8]).length (Lib.byteCells (pre ++ [(48 + g / 4294967296).toUInt8])) := by
          rw [Lib.byteCells_snoc pre (by omega), List.length_append]
          have ec : ((48 + g / 4294967296 : Nat) : Int) = 48 + (g : Int) / 4294967296 := by omega
          rw [ec]
          exact hown'
        clear hown' hgrow hown3 hB3
        go_upto_region 14 with (fail)
        have HG := Aside0.mk (and_low g (by omega))
        try rw [HG.out]
        go_wp2
        go_roundw
        case rel =>
          refine ⟨k, g % 4294967296, _, ?_, Nat.mod_lt _ (by decide), by omega, ?_, ?_, ?_, hown4, hB4⟩
          · first | rw [HG.out] | rfl
          · rw [← hg]; exact dvd_step HDV.out
          · rw [List.length_append]; simp; omega
          · rw [HL.out, HE.out, hg]
            simp [asc]
        case measure =>
          have e32 : fd 32 f' = fd (k + 1) f' := by
            have e := fd_more (k + 1) f' (31 - k) hf' HDV.out
            rwa [show k + 1 + (31 - k) = 32 by omega] at e
          have e32' : fd 32 (g % 4294967296) = fd k (g % 4294967296) := by
            have e := fd_more k (g % 4294967296) (32 - k) (Nat.mod_lt _ (by decide)) (by rw [← hg]; exact dvd_step HDV.out)
            rwa [show k + (32 - k) = 32 by omega] at e
          show (fd 32 (g % 4294967296)).length < (fd 32 f').length
          rw [e32, e32', HE.out, hg]
          simp
def showT (x : Int) : ByteArray := ⟨(showZ (decide (x < 0)) x.natAbs).toArray⟩
theorem show_calls (x : Int) (h0 : -9223372036854775808 ≤ x) (h1 : x ≤ 9223372036854775807) (w : World) (ht : Tab w) : Calls Tryd.prog 21 #[.int .i64 x] w fun e w' => e = .returned (.string (showT x)) ∧ Below w.heap.size w w' := by
  by_cases c : x < 0
  · have := show_neg x h0 h1 c w ht _ rfl
    unfold showT
    rw [decide_eq_true c]
    exact this
  · have := show_pos x h0 h1 (by omega) w ht _ rfl
    unfold showT
    rw [decide_eq_false c]
    exact this
end Go.Proofs.YtlifbogjjikhdaaDoor.Fl
end
section
namespace Go.Proofs.YtlifbogjjikhdaaDoor.Fl
open Go.ChangeShapes Go.WideShapes Go.ChangeAt Go.RowKit
theorem own : ownKnob Tryd.prog.godebug = none := by kernel_rfl
abbrev laidL : List (String × DataW Unit) := [("math/bits.deBruijn32tab", Rows.laid_math_bits_deBruijn32tab), ("math/bits.deBruijn64tab", Rows.laid_math_bits_deBruijn64tab), ("internal/strconv.uint64pow10", Rows.laid_internal_strconv_uint64pow10)]
theorem door_met (os : Os) (args : Array Value) : laidMetH Tryd.prog laidL ((World.doorLaid Tryd.prog 24 os).forCall (fun _ _ => 0) ⟨#[], args, []⟩).memory :=
  laidMetH_of_parts3 (fuel := 8) (laidMet_of_run' 8 (by kernel_rfl) (by kernel_rfl)) (by kernel_rfl) (by kernel_rfl)
theorem gPow : Tryd.prog.globalNamed "internal/strconv.uint64pow10" = some 1 := by kernel_rfl
theorem gPowT : (Tryd.prog.globals[1]?).map (·.type) = some 70 := by kernel_rfl
theorem cells25 : Tryd.prog.cellsOf 25 = 1 := by kernel_rfl
theorem cells70 : Tryd.prog.cellsOf 70 = 20 := by kernel_rfl
theorem pow_data : Rows.laid_internal_strconv_uint64pow10 (H := Unit) = Lib.tabData .u64 Lib.pow10Tab := by kernel_rfl
theorem tab_of {W : World} (h : laidMetH Tryd.prog laidL W) : Tab W := by
  rw [MakeChecks.laidMetH_plain _ _ _ (by kernel_rfl)] at h
  have h2 := laidMet.tail (laidMet.tail h)
  rw [pow_data] at h2
  exact Lib.tabIs_of_head gPow gPowT Tryd.underlying70 Tryd.underlying25 cells25 cells70 h2
end Go.Proofs.YtlifbogjjikhdaaDoor.Fl
end
section
namespace Go.Proofs.YtlifbogjjikhdaaDoor.Fl
open Go.RowKit Go.Proofs.YtlifbogjjikhdaaDoorW.PrintWords Go.Proofs.YtlifbogjjikhdaaDoorW.PrintLast Go.Proofs.YtlifbogjjikhdaaDoorW.PrintMore
set_option linter.unusedVariables false
open Go.Proofs.YtlifbogjjikhdaaDoor.FL
theorem by_extract (s : ByteArray) (a b : Nat) : By (s.extract a b) = ((By s).drop a).take (b - a) := by
  rw [By, ← ByteArray.toList_eq]
  exact Lib.extract_toList s a b
theorem by_rest (s : ByteArray) (a : Nat) : By (s.extract a s.size) = (By s).drop a := by
  rw [by_extract]
  exact List.take_of_length_le (by rw [List.length_drop, size_by]; exact Nat.le_refl _)
theorem size_rest (s : ByteArray) (a : Nat) (h : a ≤ s.size) : (s.extract a s.size).size = s.size - a := by
  rw [← size_by, by_rest, List.length_drop, size_by]
def headIs (c : UInt8) (l : List UInt8) : Bool := l.head? == some c
theorem hp_calls (c : UInt8) (s : ByteArray) (hs : s.size ≤ 140737488351232) (w : World) : Calls Tryd.prog 33 #[.string s, .string ⟨#[c]⟩] w fun e w' => e = .returned (.bool (headIs c (By s))) ∧ Drawn0 w w' := by
  refine strings_HasPrefix.calls s ⟨#[c]⟩ _ w ?_
  have e1 : ((⟨#[c]⟩ : ByteArray).size : Int) = 1 := rfl
  unfold strings_HasPrefix.f stringslite_HasPrefix.f
  rw [e1]
  cases hb : By s with
  | nil =>
    have : s.size = 0 := by rw [← size_by, hb]; rfl
    rw [if_neg (by omega)]
    rfl
  | cons x l =>
    have hz : s.size = l.length + 1 := by rw [← size_by, hb]; rfl
    rw [if_pos (by omega), if_pos (by omega), if_pos (by omega)]
    have e2 : (s.extract 0 (1 : Int).toNat).toList = [x] := by
      have := by_extract s 0 1
      rw [hb] at this
      rw [ByteArray.toList_eq]
      exact this
    have e3 : (⟨#[c]⟩ : ByteArray).toList = [c] := by rw [ByteArray.toList_eq]
    rw [e2, e3]
    show some ([x] == [c]) = some (headIs c (x :: l))
    congr 1
    unfold headIs
    rw [Bool.eq_iff_iff, beq_iff_eq, beq_iff_eq]
    simp
theorem or_32 (f w : Nat) (hf : f < 4294967296) (hw : w < 4294967296) : bits .or .u64 (f : Int) (IntKind.u64.wrap ((w : Int) * 4294967296)) = ((w * 4294967296 + f : Nat) : Int) := by
  rw [IntKind.wrap_u64, Int.emod_eq_of_lt (by omega) (by omega), show ((w : Int) * 4294967296) = ((2 ^ 32 * w : Nat) : Int) by omega, bits_or_u64_nat _ _ (by omega) (by omega), Nat.or_comm, ← Nat.two_pow_add_eq_or_of_lt (i := 32) (by omega)]
  omega
set_option maxHeartbeats 8000000 in
set_option maxRecDepth 100000 in
theorem parse_neg (s : ByteArray) (w : World) (hs : s.size ≤ 140737488351232) (h0 : By s ≠ [110, 97, 110]) (hn : headIs 45 (By s) = true) (r : Int × Int) (t : ByteArray) (ht : s.extract 1 s.size = t) (hts : t.size ≤ 140737488351232) (hT : parseT true (By t) = r) : Calls Tryd.prog 19 #[.string s] w fun e w' => e = .returned (.tuple #[.int .i64 r.1, .int .i64 r.2]) ∧ Below w.heap.size w w' := by
  have d0 : (s.toList == [110, 97, 110]) = false := by rw [ByteArray.toList_eq]; simpa using h0
  have HS := Aside0.mk hs
  have HTS := Aside0.mk hts
  have HT := Aside0.mk hT
  have HN := Aside0.mk hn
  have hp0 : (1 : Int) ≤ (s.size : Int) := by
    have h1 : By s ≠ [] := by intro z; rw [z] at hn; exact absurd hn (by decide)
    have h2 := List.length_pos_iff.mpr h1
    rw [size_by] at h2
    omega
  clear hn
  clear h0 hs hts hT
  go_enter Tryd.func19, Tryd.ntmps19
  go_wp2
  refine wp_scope_jumps 0 (fun a' w' => r = ((0 : Int), (4 : Int)) ∧ Below w.heap.size w w' ∧ ∃ (u0 u1 u2 u3 u4 u5 u6 u7 u8 u9 u10 u11 u12 u13 u14 u15 u16 u17 u18 u19 u20 u21 u22 u23 u24 u25 u26 u27 u28 u29 u30 u31 u32 u33 u34 u35 u36 u37 u38 u39 u40 u41 u42 u43 u44 u45 u46 u47 u48 u49 u50 u51 u52 u53 u54 u55 u56 u57 u58 u59 u60 u61 u62 u63 u64 u65 u66 u67 u68 : Value), a' = { tmps := #[u0, u1, u2, u3, u4, u5, u6, u7, u8, u9, u10, u11, u12, u13, u14, u15, u16, u17, u18, u19, u20, u21, u22, u23, u24, u25, u26, u27, u28, u29, u30, u31, u32, u33, u34, u35, u36, u37, u38, u39, u40, u41, u42, u43, u44, u45, u46, u47, u48, u49, u50, u51, u52, u53, u54, u55, u56, u57, u58, u59, u60, u61, u62, u63, u64, u65, u66, u67, u68], defers := [] }) (fun _ _ => 0) rfl ?_ ?_
  · go_upto_region 9 with (go_at_call 33; (with_reducible refine (hp_calls _ _ HS.out _).mono ?_); rw [HN.out]; rintro e w' ⟨rfl, ⟨nd, rfl⟩⟩)
    try rw [ht]
    clear ht
    obtain ⟨W1, hW1⟩ : ∃ W1, w.drewN nd = W1 := ⟨_, rfl⟩
    rw [hW1]
    have HBW : Aside0 (Below w.heap.size w W1) := ⟨by rw [← hW1]; exact pw_below_drewN (Below.refl _ _) _⟩
    clear hW1
    by_cases c1 : By t = [105, 110, 102]
    · have d1 : (t.toList == [105, 110, 102]) = true := by rw [ByteArray.toList_eq]; exact beq_iff_eq.mpr c1
      have hr2 : r = (if true = true then -9223372036854775808 else 9223372036854775807, 0) := by rw [← HT.out]; unfold parseT; rw [if_pos c1]
      have hcz : (if true = true then -9223372036854775808 else 9223372036854775807 : Int) = cutZ 18446744073709551614 false true := by decide +kernel
      rw [hcz] at hr2
      subst hr2
      clear hcz c1
      go_wp2_with (go_at_call 28; (with_reducible refine (cut_quiet _ _ _ _ (by decide) (by decide)).mono ?_); rintro e w' ⟨rfl, ⟨nd2, rfl⟩⟩)
      simp only [Exit.jump]
      go_ret2
      exact ⟨rfl, pw_below_drewN HBW.out _⟩
    · have d1 : (t.toList == [105, 110, 102]) = false := by rw [ByteArray.toList_eq]; simpa using c1
      have HT2 : Aside0 ((if dlen (By t) = 0 ∨ 30 < dlen (By t) then ((0 : Int), (4 : Int))
      else match (By t).drop (dlen (By t)) with
        | [] => (numS true (vals ((By t).take (dlen (By t)))) [], 0)
        | c :: m => if c = 46 then (if dlen m = 0 ∨ 30 < dlen m ∨ m.length ≠ dlen m then ((0 : Int), (4 : Int)) else (numS true (vals ((By t).take (dlen (By t)))) (vals m), 0)) else ((0 : Int), (4 : Int))) = r) := ⟨by have := HT.out; unfold parseT at this; rwa [if_neg c1] at this⟩
      clear c1 HT
      obtain ⟨n, hn⟩ : ∃ n, dlen (By t) = n := ⟨_, rfl⟩
      have hnl : n ≤ t.size := by rw [← hn, ← size_by]; exact dlen_le _
      have HDIG : Aside0 (∀ W, Calls Tryd.prog 34 #[.string t] W fun e w' => e = .returned (.tuple #[.string (t.extract 0 n), .string (t.extract n t.size), .bool (decide (0 < n) && decide (n ≤ 30))]) ∧ Drawn0 W w') := ⟨by rw [← hn]; exact fun W => digits_calls t HTS.out W⟩
      have HTD : Aside0 (∀ c ∈ (By t).take n, isD c = true) := ⟨by rw [← hn]; exact take_dig _⟩
      rw [hn] at HT2
      clear hn
      by_cases c2 : n = 0 ∨ 30 < n
      · have d2 : (decide (0 < n) && decide (n ≤ 30)) = false := by rw [Bool.eq_false_iff]; intro z; rw [Bool.and_eq_true, decide_eq_true_eq, decide_eq_true_eq] at z; omega
        rw [d2] at HDIG
        have hr2 : r = (0, 4) := by rw [← HT2.out, if_pos c2]
        subst hr2
        clear c2 d2
        go_wp2_with (go_at_call 34; (with_reducible refine (HDIG.out _).mono ?_); rintro e w' ⟨rfl, ⟨nd2, rfl⟩⟩)
        go_step3
        exact ⟨rfl, rfl, pw_below_drewN HBW.out _, _, _, _, _, _, _, _, _, _, _, _, _, _, _, _, _, _, _, _, _, _, _, _, _, _, _, _, _, _, _, _, _, _, _, _, _, _, _, _, _, _, _, _, _, _, _, _, _, _, _, _, _, _, _, _, _, _, _, _, _, _, _, _, _, _, _, _, _, _, rfl⟩
      · have d2 : (decide (0 < n) && decide (n ≤ 30)) = true := by rw [Bool.and_eq_true, decide_eq_true_eq, decide_eq_true_eq]; omega
        rw [d2] at HDIG
        rw [if_neg c2] at HT2
        have hn30 : n ≤ 30 := by omega
        obtain ⟨row, hrow⟩ : ∃ row, t.extract 0 n = row := ⟨_, rfl⟩
        obtain ⟨rest, hrest⟩ : ∃ rest, t.extract n t.size = rest := ⟨_, rfl⟩
        have hbr : By row = (By t).take n := by rw [← hrow, by_extract, List.drop_zero, Nat.sub_zero]
        have hbs : By rest = (By t).drop n := by rw [← hrest, by_rest]
        have hss : rest.size ≤ 140737488351232 := by rw [← size_by, hbs, List.length_drop, size_by]; have := HTS.out; omega
        have hrs : row.size ≤ 140737488351232 := by rw [← size_by, hbr, List.length_take, size_by]; omega
        rw [hrow, hrest] at HDIG
        rw [← hbr] at HTD HT2
        rw [← hbs] at HT2
        have HWH : Aside0 (∀ W, Calls Tryd.prog 36 #[.string row] W fun e w' => e = .returned (.int .u64 ((wholeN (By row) : Nat) : Int)) ∧ Drawn0 W w') := ⟨fun W => whole_calls row hrs HTD.out W⟩
        have HSS := Aside0.mk hss
        clear hrow hrest hbr hbs hrs hss c2 d2 hn30 hnl
        by_cases c3 : By rest = []
        · have d3 : rest.toList = [] := by rw [ByteArray.toList_eq]; exact c3
          have d3' : (!rest.toList.isEmpty) = false := by rw [d3]; rfl
          have d3'' : (rest.toList == []) = true := by rw [d3]; rfl
          rw [c3] at HT2
          have hr2 : r = (numS true (vals (By row)) [], 0) := HT2.out.symm
          clear c3 HT2
          subst hr2
          have HFR : Aside0 (∀ W, Calls Tryd.prog 35 #[.string ⟨#[]⟩] W fun e w' => e = .returned (.tuple #[.int .u64 ((fracN [] : Nat) : Int), .bool (leftN [])]) ∧ Below W.heap.size W w') := ⟨fun W => frac_calls ⟨#[]⟩ W (by decide) [] rfl (fun x hx => by cases hx)⟩
          obtain ⟨wh, hwh⟩ : ∃ x, wholeN (By row) = x := ⟨_, rfl⟩
          rw [hwh] at HWH
          have HWV : Aside0 (wholeN (By row) = wh) := ⟨hwh⟩
          obtain ⟨fr, hfr⟩ : ∃ x, fracN [] = x := ⟨_, rfl⟩
          obtain ⟨lf, hlf⟩ : ∃ x, leftN [] = x := ⟨_, rfl⟩
          rw [hfr, hlf] at HFR
          have hfr4 : fr < 4294967296 := by rw [← hfr]; exact frac_lt (fun x hx => by cases hx)
          have HNE : Aside0 (numS true (vals (By row)) [] = cutS (vd (vals (By row)) * 4294967296 + fr) lf true) := ⟨by rw [numS_eq, hfr, hlf]⟩
          clear hwh hfr hlf
          by_cases c9 : 4294967296 ≤ wh
          · have d9 : decide ((4294967296 : Int) ≤ (wh : Int)) = true := decide_eq_true (by omega)
            have hv : numS true (vals (By row)) [] = cutZ 18446744073709551614 lf true := by
              have h1 : 4294967296 ≤ vd (vals (By row)) := by have := HWV.out; unfold wholeN at this; omega
              rw [HNE.out, cut_great _ _ _ (by omega)]
              unfold cutZ
              rw [cut_great _ _ _ (by decide)]
            have HV := Aside0.mk hv
            clear hv hfr4
            go_wp2_with (first | (go_at_call 34; (with_reducible refine (HDIG.out _).mono ?_); rintro e w' ⟨rfl, ⟨nd2, rfl⟩⟩) | (go_at_call 35; (with_reducible refine (HFR.out _).mono ?_); rintro e w3 ⟨rfl, hb3⟩; have HB3 := Aside0.mk hb3; clear hb3) | (go_at_call 36; (with_reducible refine (HWH.out _).mono ?_); rintro e w' ⟨rfl, ⟨nd4, rfl⟩⟩) | (go_at_call 28; (with_reducible refine (cut_quiet _ _ _ _ (by decide) (by decide)).mono ?_); rintro e w' ⟨rfl, ⟨nd5, rfl⟩⟩))
            simp only [Exit.jump]
            go_ret2
            exact ⟨by rw [HV.out]; rfl, by
              have hq : Below w.heap.size w (W1.drewN nd2) := pw_below_drewN HBW.out _
              have h5 := hq.trans (HB3.out.mono hq.size)
              repeat (first | exact h5 | apply pw_below_drewN)⟩
          · have d9 : decide ((4294967296 : Int) ≤ (wh : Int)) = false := decide_eq_false (by omega)
            have hor := or_32 fr wh hfr4 (by omega)
            have hv : numS true (vals (By row)) [] = cutZ ((wh * 4294967296 + fr : Nat) : Int) lf true := by
              have h1 : vd (vals (By row)) = wh := by have := HWV.out; unfold wholeN at this; omega
              rw [HNE.out, h1]
              rfl
            have hlt : 0 ≤ ((wh * 4294967296 + fr : Nat) : Int) ∧ ((wh * 4294967296 + fr : Nat) : Int) < 18446744073709551616 := by omega
            have HCU : Aside0 (∀ W, Calls Tryd.prog 28 #[.int .u64 (bits .or .u64 (fr : Int) (IntKind.u64.wrap ((wh : Int) * 4294967296))), .bool lf, .bool true] W fun e w' => e = .returned (.int .i64 (cutZ ((wh * 4294967296 + fr : Nat) : Int) lf true)) ∧ ∃ m, w' = W.drewN m) := ⟨fun W => by rw [hor]; exact cut_quiet _ _ _ _ hlt.1 hlt.2⟩
            have HV := Aside0.mk hv
            clear hv hor hlt hfr4 c9
            go_wp2_with (first | (go_at_call 34; (with_reducible refine (HDIG.out _).mono ?_); rintro e w' ⟨rfl, ⟨nd2, rfl⟩⟩) | (go_at_call 35; (with_reducible refine (HFR.out _).mono ?_); rintro e w3 ⟨rfl, hb3⟩; have HB3 := Aside0.mk hb3; clear hb3) | (go_at_call 36; (with_reducible refine (HWH.out _).mono ?_); rintro e w' ⟨rfl, ⟨nd4, rfl⟩⟩) | (go_at_call 28; (with_reducible refine (HCU.out _).mono ?_); rintro e w' ⟨rfl, ⟨nd5, rfl⟩⟩))
            simp only [Exit.jump]
            go_ret2
            exact ⟨by rw [HV.out]; rfl, by
              have hq : Below w.heap.size w (W1.drewN nd2) := pw_below_drewN HBW.out _
              have h5 := hq.trans (HB3.out.mono hq.size)
              repeat (first | exact h5 | apply pw_below_drewN)⟩
        · have d3 : (rest.toList == []) = false := by rw [ByteArray.toList_eq]; simpa using c3
          have d3' : (!rest.toList.isEmpty) = true := by rw [ByteArray.toList_eq]; cases hq : By rest with | nil => exact absurd hq c3 | cons a l => simp [hq]
          have d3n : rest.toList ≠ [] := by rw [ByteArray.toList_eq]; exact c3
          have hp : 0 < rest.size := by rw [← size_by]; exact List.length_pos_iff.mpr c3
          have hg := bytes_get rest 0 hp
          rw [List.drop_zero] at hg
          rw [show rest.data.toList = By rest from rfl] at hg
          rw [hg] at HT2
          have HGG := Aside0.mk hg
          clear hg c3
          by_cases c4 : rest[0] = 46
          · have d4 : ((rest[0].toNat : Int) == 46) = true := by rw [c4]; rfl
            have d4' : ((rest[0].toNat : Int) != 46) = false := by rw [c4]; rfl
            have HT3 : Aside0 ((if dlen ((By rest).drop 1) = 0 ∨ 30 < dlen ((By rest).drop 1) ∨ ((By rest).drop 1).length ≠ dlen ((By rest).drop 1) then ((0 : Int), (4 : Int)) else (numS true (vals (By row)) (vals ((By rest).drop 1)), 0)) = r) := ⟨by have := HT2.out; dsimp only at this; rw [if_pos c4] at this; exact this⟩
            clear c4 HT2
            obtain ⟨tt, htt⟩ : ∃ tt, rest.extract 1 rest.size = tt := ⟨_, rfl⟩
            have hbt : By tt = (By rest).drop 1 := by rw [← htt, by_rest]
            have hts : tt.size ≤ 140737488351232 := by rw [← size_by, hbt, List.length_drop, size_by]; have := HSS.out; omega
            rw [← hbt] at HT3
            have HTT := Aside0.mk htt
            obtain ⟨n2, hn2⟩ : ∃ n, dlen (By tt) = n := ⟨_, rfl⟩
            have HD2 : Aside0 (∀ W, Calls Tryd.prog 34 #[.string tt] W fun e w' => e = .returned (.tuple #[.string (tt.extract 0 n2), .string (tt.extract n2 tt.size), .bool (decide (0 < n2) && decide (n2 ≤ 30))]) ∧ Drawn0 W w') := ⟨by rw [← hn2]; exact fun W => digits_calls tt hts W⟩
            have HTD2 : Aside0 (∀ c ∈ (By tt).take n2, isD c = true) := ⟨by rw [← hn2]; exact take_dig _⟩
            rw [hn2] at HT3
            have hsz : (By tt).length = tt.size := size_by _
            have HD1 : Aside0 (∀ W, Calls Tryd.prog 34 #[.string (rest.extract 1 rest.size)] W fun e w' => e = .returned (.tuple #[.string (tt.extract 0 n2), .string (tt.extract n2 tt.size), .bool (decide (0 < n2) && decide (n2 ≤ 30))]) ∧ Drawn0 W w') := ⟨by rw [htt]; exact HD2.out⟩
            have hp1 : (1 : Int) ≤ (rest.size : Int) := by omega
            have hn2l : n2 ≤ tt.size := by rw [← hn2, ← size_by]; exact dlen_le _
            clear hn2 hbt hts htt
            by_cases c5 : n2 = 0 ∨ 30 < n2
            · have d5 : (decide (0 < n2) && decide (n2 ≤ 30)) = false := by rw [Bool.eq_false_iff]; intro z; rw [Bool.and_eq_true, decide_eq_true_eq, decide_eq_true_eq] at z; omega
              rw [d5] at HD1
              have hr2 : r = (0, 4) := by rw [← HT3.out, if_pos (by omega)]
              subst hr2
              clear c5 d5 hsz hn2l
              go_wp2_with (first | (go_at_call 34; (with_reducible refine (HDIG.out _).mono ?_); rintro e w' ⟨rfl, ⟨nd2, rfl⟩⟩) | (go_at_call 34; (with_reducible refine (HD1.out _).mono ?_); rintro e w' ⟨rfl, ⟨nd3, rfl⟩⟩))
              go_step3
              exact ⟨rfl, rfl, by first | exact pw_below_drewN HBW.out _ | exact pw_below_drewN (pw_below_drewN HBW.out _) _, _, _, _, _, _, _, _, _, _, _, _, _, _, _, _, _, _, _, _, _, _, _, _, _, _, _, _, _, _, _, _, _, _, _, _, _, _, _, _, _, _, _, _, _, _, _, _, _, _, _, _, _, _, _, _, _, _, _, _, _, _, _, _, _, _, _, _, _, _, rfl⟩
            · have d5 : (decide (0 < n2) && decide (n2 ≤ 30)) = true := by rw [Bool.and_eq_true, decide_eq_true_eq, decide_eq_true_eq]; omega
              rw [d5] at HD1
              obtain ⟨more, hmore⟩ : ∃ more, tt.extract 0 n2 = more := ⟨_, rfl⟩
              obtain ⟨lst, hlst⟩ : ∃ lst, tt.extract n2 tt.size = lst := ⟨_, rfl⟩
              have hbm : By more = (By tt).take n2 := by rw [← hmore, by_extract, List.drop_zero, Nat.sub_zero]
              have hbl : By lst = (By tt).drop n2 := by rw [← hlst, by_rest]
              rw [hmore, hlst] at HD1
              by_cases c6 : tt.size = n2
              · have hl0 : By lst = [] := by rw [hbl]; exact List.drop_of_length_le (by rw [hsz]; omega)
                have d6 : lst.toList = [] := by rw [ByteArray.toList_eq]; exact hl0
                have d6' : (!lst.toList.isEmpty) = false := by rw [d6]; rfl
                have d6'' : (lst.toList == []) = true := by rw [d6]; rfl
                have hmt : By more = By tt := by rw [hbm]; exact List.take_of_length_le (by rw [hsz]; omega)
                rw [← hbm, hmt] at HTD2
                have hr2 : r = (numS true (vals (By row)) (vals (By tt)), 0) := by rw [← HT3.out, if_neg (by omega)]
                have hms : more.size ≤ 1000 := by rw [← size_by, hmt, hsz]; omega
                subst hr2
                have HFR : Aside0 (∀ W, Calls Tryd.prog 35 #[.string more] W fun e w' => e = .returned (.tuple #[.int .u64 ((fracN (vals (By tt)) : Nat) : Int), .bool (leftN (vals (By tt)))]) ∧ Below W.heap.size W w') := ⟨by
                  have hq : ∀ c ∈ By more, isD c = true := by rw [hmt]; exact HTD2.out
                  have hq2 := vals_back hq
                  rw [show vals (By more) = vals (By tt) by rw [hmt]] at hq2
                  exact fun W => frac_calls more W hms (vals (By tt)) hq2 (vals_dgt HTD2.out)⟩
                have HDG2 : Aside0 (dgt (vals (By tt))) := ⟨vals_dgt HTD2.out⟩
                clear hmore hlst hbm hbl c5 d5 c6 hl0 hmt hms HT3 hsz hn2l
                obtain ⟨wh, hwh⟩ : ∃ x, wholeN (By row) = x := ⟨_, rfl⟩
                rw [hwh] at HWH
                have HWV : Aside0 (wholeN (By row) = wh) := ⟨hwh⟩
                obtain ⟨fr, hfr⟩ : ∃ x, fracN (vals (By tt)) = x := ⟨_, rfl⟩
                obtain ⟨lf, hlf⟩ : ∃ x, leftN (vals (By tt)) = x := ⟨_, rfl⟩
                rw [hfr, hlf] at HFR
                have hfr4 : fr < 4294967296 := by rw [← hfr]; exact frac_lt HDG2.out
                have HNE : Aside0 (numS true (vals (By row)) (vals (By tt)) = cutS (vd (vals (By row)) * 4294967296 + fr) lf true) := ⟨by rw [numS_eq, hfr, hlf]⟩
                clear hwh hfr hlf
                by_cases c9 : 4294967296 ≤ wh
                · have d9 : decide ((4294967296 : Int) ≤ (wh : Int)) = true := decide_eq_true (by omega)
                  have hv : numS true (vals (By row)) (vals (By tt)) = cutZ 18446744073709551614 lf true := by
                    have h1 : 4294967296 ≤ vd (vals (By row)) := by have := HWV.out; unfold wholeN at this; omega
                    rw [HNE.out, cut_great _ _ _ (by omega)]
                    unfold cutZ
                    rw [cut_great _ _ _ (by decide)]
                  have HV := Aside0.mk hv
                  clear hv hfr4
                  go_wp2_with (first | (go_at_call 34; (with_reducible refine (HDIG.out _).mono ?_); rintro e w' ⟨rfl, ⟨nd2, rfl⟩⟩) | (go_at_call 34; (with_reducible refine (HD1.out _).mono ?_); rintro e w' ⟨rfl, ⟨nd3, rfl⟩⟩) | (go_at_call 35; (with_reducible refine (HFR.out _).mono ?_); rintro e w3 ⟨rfl, hb3⟩; have HB3 := Aside0.mk hb3; clear hb3) | (go_at_call 36; (with_reducible refine (HWH.out _).mono ?_); rintro e w' ⟨rfl, ⟨nd4, rfl⟩⟩) | (go_at_call 28; (with_reducible refine (cut_quiet _ _ _ _ (by decide) (by decide)).mono ?_); rintro e w' ⟨rfl, ⟨nd5, rfl⟩⟩))
                  simp only [Exit.jump]
                  go_ret2
                  exact ⟨by rw [HV.out]; rfl, by
                    have hq : Below w.heap.size w (W1.drewN (nd2 + nd3)) := pw_below_drewN HBW.out _
                    have h5 := hq.trans (HB3.out.mono hq.size)
                    repeat (first | exact h5 | apply pw_below_drewN)⟩
                · have d9 : decide ((4294967296 : Int) ≤ (wh : Int)) = false := decide_eq_false (by omega)
                  have hor := or_32 fr wh hfr4 (by omega)
                  have hv : numS true (vals (By row)) (vals (By tt)) = cutZ ((wh * 4294967296 + fr : Nat) : Int) lf true := by
                    have h1 : vd (vals (By row)) = wh := by have := HWV.out; unfold wholeN at this; omega
                    rw [HNE.out, h1]
                    rfl
                  have hlt : 0 ≤ ((wh * 4294967296 + fr : Nat) : Int) ∧ ((wh * 4294967296 + fr : Nat) : Int) < 18446744073709551616 := by omega
                  have HCU : Aside0 (∀ W, Calls Tryd.prog 28 #[.int .u64 (bits .or .u64 (fr : Int) (IntKind.u64.wrap ((wh : Int) * 4294967296))), .bool lf, .bool true] W fun e w' => e = .returned (.int .i64 (cutZ ((wh * 4294967296 + fr : Nat) : Int) lf true)) ∧ ∃ m, w' = W.drewN m) := ⟨fun W => by rw [hor]; exact cut_quiet _ _ _ _ hlt.1 hlt.2⟩
                  have HV := Aside0.mk hv
                  clear hv hor hlt hfr4 c9
                  go_wp2_with (first | (go_at_call 34; (with_reducible refine (HDIG.out _).mono ?_); rintro e w' ⟨rfl, ⟨nd2, rfl⟩⟩) | (go_at_call 34; (with_reducible refine (HD1.out _).mono ?_); rintro e w' ⟨rfl, ⟨nd3, rfl⟩⟩) | (go_at_call 35; (with_reducible refine (HFR.out _).mono ?_); rintro e w3 ⟨rfl, hb3⟩; have HB3 := Aside0.mk hb3; clear hb3) | (go_at_call 36; (with_reducible refine (HWH.out _).mono ?_); rintro e w' ⟨rfl, ⟨nd4, rfl⟩⟩) | (go_at_call 28; (with_reducible refine (HCU.out _).mono ?_); rintro e w' ⟨rfl, ⟨nd5, rfl⟩⟩))
                  simp only [Exit.jump]
                  go_ret2
                  exact ⟨by rw [HV.out]; rfl, by
                    have hq : Below w.heap.size w (W1.drewN (nd2 + nd3)) := pw_below_drewN HBW.out _
                    have h5 := hq.trans (HB3.out.mono hq.size)
                    repeat (first | exact h5 | apply pw_below_drewN)⟩
              · have hl0 : By lst ≠ [] := by rw [hbl]; intro z; have := congrArg List.length z; rw [List.length_drop, hsz] at this; simp at this; omega
                have d6 : (lst.toList == []) = false := by rw [ByteArray.toList_eq]; simpa using hl0
                have d6' : (!lst.toList.isEmpty) = true := by rw [ByteArray.toList_eq]; cases hq : By lst with | nil => exact absurd hq hl0 | cons a l => simp [hq]
                have d6n : lst.toList ≠ [] := by rw [ByteArray.toList_eq]; exact hl0
                have hr2 : r = (0, 4) := by rw [← HT3.out, if_pos (by omega)]
                subst hr2
                clear hmore hlst hbm hbl c5 d5 c6 hl0 hsz hn2l
                go_wp2_with (first | (go_at_call 34; (with_reducible refine (HDIG.out _).mono ?_); rintro e w' ⟨rfl, ⟨nd2, rfl⟩⟩) | (go_at_call 34; (with_reducible refine (HD1.out _).mono ?_); rintro e w' ⟨rfl, ⟨nd3, rfl⟩⟩))
                go_step3
                exact ⟨rfl, rfl, by first | exact pw_below_drewN HBW.out _ | exact pw_below_drewN (pw_below_drewN HBW.out _) _, _, _, _, _, _, _, _, _, _, _, _, _, _, _, _, _, _, _, _, _, _, _, _, _, _, _, _, _, _, _, _, _, _, _, _, _, _, _, _, _, _, _, _, _, _, _, _, _, _, _, _, _, _, _, _, _, _, _, _, _, _, _, _, _, _, _, _, _, _, rfl⟩
          · have d4 : ((rest[0].toNat : Int) == 46) = false := by rw [beq_eq_false_iff_ne]; intro z; exact c4 (UInt8.toNat_inj.mp (by simpa using (Int.ofNat.inj z)))
            have d4' : ((rest[0].toNat : Int) != 46) = true := by rw [bne_iff_ne]; intro z; exact c4 (UInt8.toNat_inj.mp (by simpa using (Int.ofNat.inj z)))
            have hr2 : r = (0, 4) := by have := HT2.out; dsimp only at this; rw [if_neg c4] at this; exact this.symm
            subst hr2
            clear c4
            go_wp2_with (go_at_call 34; (with_reducible refine (HDIG.out _).mono ?_); rintro e w' ⟨rfl, ⟨nd2, rfl⟩⟩)
            go_step3
            exact ⟨rfl, rfl, pw_below_drewN HBW.out _, _, _, _, _, _, _, _, _, _, _, _, _, _, _, _, _, _, _, _, _, _, _, _, _, _, _, _, _, _, _, _, _, _, _, _, _, _, _, _, _, _, _, _, _, _, _, _, _, _, _, _, _, _, _, _, _, _, _, _, _, _, _, _, _, _, _, _, _, _, rfl⟩
  · rintro a' w' ⟨hr, hd, u0, u1, u2, u3, u4, u5, u6, u7, u8, u9, u10, u11, u12, u13, u14, u15, u16, u17, u18, u19, u20, u21, u22, u23, u24, u25, u26, u27, u28, u29, u30, u31, u32, u33, u34, u35, u36, u37, u38, u39, u40, u41, u42, u43, u44, u45, u46, u47, u48, u49, u50, u51, u52, u53, u54, u55, u56, u57, u58, u59, u60, u61, u62, u63, u64, u65, u66, u67, u68, rfl⟩
    subst hr
    go_wp2
    simp only [Exit.jump]
    go_ret2
    exact ⟨rfl, hd⟩
end Go.Proofs.YtlifbogjjikhdaaDoor.Fl
end
section
namespace Go.Proofs.YtlifbogjjikhdaaDoor.Fl
open Go.RowKit Go.Proofs.YtlifbogjjikhdaaDoorW.PrintWords Go.Proofs.YtlifbogjjikhdaaDoorW.PrintLast Go.Proofs.YtlifbogjjikhdaaDoorW.PrintMore
set_option linter.unusedVariables false
open Go.Proofs.YtlifbogjjikhdaaDoor.FL
set_option maxHeartbeats 8000000 in
set_option maxRecDepth 100000 in
theorem parse_plus (s : ByteArray) (w : World) (hs : s.size ≤ 140737488351232) (h0 : By s ≠ [110, 97, 110]) (hn : headIs 45 (By s) = false) (hn2 : headIs 43 (By s) = true) (r : Int × Int) (t : ByteArray) (ht : s.extract 1 s.size = t) (hts : t.size ≤ 140737488351232) (hT : parseT false (By t) = r) : Calls Tryd.prog 19 #[.string s] w fun e w' => e = .returned (.tuple #[.int .i64 r.1, .int .i64 r.2]) ∧ Below w.heap.size w w' := by
  have d0 : (s.toList == [110, 97, 110]) = false := by rw [ByteArray.toList_eq]; simpa using h0
  have HS := Aside0.mk hs
  have HTS := Aside0.mk hts
  have HT := Aside0.mk hT
  have HN := Aside0.mk hn
  have HN2 := Aside0.mk hn2
  have hp0 : (1 : Int) ≤ (s.size : Int) := by
    have h1 : By s ≠ [] := by intro z; rw [z] at hn2; exact absurd hn2 (by decide)
    have h2 := List.length_pos_iff.mpr h1
    rw [size_by] at h2
    omega
  clear hn hn2
  clear h0 hs hts hT
  go_enter Tryd.func19, Tryd.ntmps19
  go_wp2
  refine wp_scope_jumps 0 (fun a' w' => r = ((0 : Int), (4 : Int)) ∧ Below w.heap.size w w' ∧ ∃ (u0 u1 u2 u3 u4 u5 u6 u7 u8 u9 u10 u11 u12 u13 u14 u15 u16 u17 u18 u19 u20 u21 u22 u23 u24 u25 u26 u27 u28 u29 u30 u31 u32 u33 u34 u35 u36 u37 u38 u39 u40 u41 u42 u43 u44 u45 u46 u47 u48 u49 u50 u51 u52 u53 u54 u55 u56 u57 u58 u59 u60 u61 u62 u63 u64 u65 u66 u67 u68 : Value), a' = { tmps := #[u0, u1, u2, u3, u4, u5, u6, u7, u8, u9, u10, u11, u12, u13, u14, u15, u16, u17, u18, u19, u20, u21, u22, u23, u24, u25, u26, u27, u28, u29, u30, u31, u32, u33, u34, u35, u36, u37, u38, u39, u40, u41, u42, u43, u44, u45, u46, u47, u48, u49, u50, u51, u52, u53, u54, u55, u56, u57, u58, u59, u60, u61, u62, u63, u64, u65, u66, u67, u68], defers := [] }) (fun _ _ => 0) rfl ?_ ?_
  · go_upto_region 9 with (first | (go_at_call 33; (with_reducible refine (hp_calls 45 _ HS.out _).mono ?_); rw [HN.out]; rintro e w' ⟨rfl, ⟨nd, rfl⟩⟩) | (go_at_call 33; (with_reducible refine (hp_calls 43 _ HS.out _).mono ?_); rw [HN2.out]; rintro e w' ⟨rfl, ⟨ndb, rfl⟩⟩))
    try rw [ht]
    clear ht
    obtain ⟨W1, hW1⟩ : ∃ W1, w.drewN (nd + ndb) = W1 := ⟨_, rfl⟩
    rw [hW1]
    have HBW : Aside0 (Below w.heap.size w W1) := ⟨by rw [← hW1]; exact pw_below_drewN (Below.refl _ _) _⟩
    clear hW1
    by_cases c1 : By t = [105, 110, 102]
    · have d1 : (t.toList == [105, 110, 102]) = true := by rw [ByteArray.toList_eq]; exact beq_iff_eq.mpr c1
      have hr2 : r = (if false = true then -9223372036854775808 else 9223372036854775807, 0) := by rw [← HT.out]; unfold parseT; rw [if_pos c1]
      have hcz : (if false = true then -9223372036854775808 else 9223372036854775807 : Int) = cutZ 18446744073709551614 false false := by decide +kernel
      rw [hcz] at hr2
      subst hr2
      clear hcz c1
      go_wp2_with (go_at_call 28; (with_reducible refine (cut_quiet _ _ _ _ (by decide) (by decide)).mono ?_); rintro e w' ⟨rfl, ⟨nd2, rfl⟩⟩)
      simp only [Exit.jump]
      go_ret2
      exact ⟨rfl, pw_below_drewN HBW.out _⟩
    · have d1 : (t.toList == [105, 110, 102]) = false := by rw [ByteArray.toList_eq]; simpa using c1
      have HT2 : Aside0 ((if dlen (By t) = 0 ∨ 30 < dlen (By t) then ((0 : Int), (4 : Int))
      else match (By t).drop (dlen (By t)) with
        | [] => (numS false (vals ((By t).take (dlen (By t)))) [], 0)
        | c :: m => if c = 46 then (if dlen m = 0 ∨ 30 < dlen m ∨ m.length ≠ dlen m then ((0 : Int), (4 : Int)) else (numS false (vals ((By t).take (dlen (By t)))) (vals m), 0)) else ((0 : Int), (4 : Int))) = r) := ⟨by have := HT.out; unfold parseT at this; rwa [if_neg c1] at this⟩
      clear c1 HT
      obtain ⟨n, hn⟩ : ∃ n, dlen (By t) = n := ⟨_, rfl⟩
      have hnl : n ≤ t.size := by rw [← hn, ← size_by]; exact dlen_le _
      have HDIG : Aside0 (∀ W, Calls Tryd.prog 34 #[.string t] W fun e w' => e = .returned (.tuple #[.string (t.extract 0 n), .string (t.extract n t.size), .bool (decide (0 < n) && decide (n ≤ 30))]) ∧ Drawn0 W w') := ⟨by rw [← hn]; exact fun W => digits_calls t HTS.out W⟩
      have HTD : Aside0 (∀ c ∈ (By t).take n, isD c = true) := ⟨by rw [← hn]; exact take_dig _⟩
      rw [hn] at HT2
      clear hn
      by_cases c2 : n = 0 ∨ 30 < n
      · have d2 : (decide (0 < n) && decide (n ≤ 30)) = false := by rw [Bool.eq_false_iff]; intro z; rw [Bool.and_eq_true, decide_eq_true_eq, decide_eq_true_eq] at z; omega
        rw [d2] at HDIG
        have hr2 : r = (0, 4) := by rw [← HT2.out, if_pos c2]
        subst hr2
        clear c2 d2
        go_wp2_with (go_at_call 34; (with_reducible refine (HDIG.out _).mono ?_); rintro e w' ⟨rfl, ⟨nd2, rfl⟩⟩)
        go_step3
        exact ⟨rfl, rfl, pw_below_drewN HBW.out _, _, _, _, _, _, _, _, _, _, _, _, _, _, _, _, _, _, _, _, _, _, _, _, _, _, _, _, _, _, _, _, _, _, _, _, _, _, _, _, _, _, _, _, _, _, _, _, _, _, _, _, _, _, _, _, _, _, _, _, _, _, _, _, _, _, _, _, _, _, rfl⟩
      · have d2 : (decide (0 < n) && decide (n ≤ 30)) = true := by rw [Bool.and_eq_true, decide_eq_true_eq, decide_eq_true_eq]; omega
        rw [d2] at HDIG
        rw [if_neg c2] at HT2
        have hn30 : n ≤ 30 := by omega
        obtain ⟨row, hrow⟩ : ∃ row, t.extract 0 n = row := ⟨_, rfl⟩
        obtain ⟨rest, hrest⟩ : ∃ rest, t.extract n t.size = rest := ⟨_, rfl⟩
        have hbr : By row = (By t).take n := by rw [← hrow, by_extract, List.drop_zero, Nat.sub_zero]
        have hbs : By rest = (By t).drop n := by rw [← hrest, by_rest]
        have hss : rest.size ≤ 140737488351232 := by rw [← size_by, hbs, List.length_drop, size_by]; have := HTS.out; omega
        have hrs : row.size ≤ 140737488351232 := by rw [← size_by, hbr, List.length_take, size_by]; omega
        rw [hrow, hrest] at HDIG
        rw [← hbr] at HTD HT2
        rw [← hbs] at HT2
        have HWH : Aside0 (∀ W, Calls Tryd.prog 36 #[.string row] W fun e w' => e = .returned (.int .u64 ((wholeN (By row) : Nat) : Int)) ∧ Drawn0 W w') := ⟨fun W => whole_calls row hrs HTD.out W⟩
        have HSS := Aside0.mk hss
        clear hrow hrest hbr hbs hrs hss c2 d2 hn30 hnl
        by_cases c3 : By rest = []
        · have d3 : rest.toList = [] := by rw [ByteArray.toList_eq]; exact c3
          have d3' : (!rest.toList.isEmpty) = false := by rw [d3]; rfl
          have d3'' : (rest.toList == []) = true := by rw [d3]; rfl
          rw [c3] at HT2
          have hr2 : r = (numS false (vals (By row)) [], 0) := HT2.out.symm
          clear c3 HT2
          subst hr2
          have HFR : Aside0 (∀ W, Calls Tryd.prog 35 #[.string ⟨#[]⟩] W fun e w' => e = .returned (.tuple #[.int .u64 ((fracN [] : Nat) : Int), .bool (leftN [])]) ∧ Below W.heap.size W w') := ⟨fun W => frac_calls ⟨#[]⟩ W (by decide) [] rfl (fun x hx => by cases hx)⟩
          obtain ⟨wh, hwh⟩ : ∃ x, wholeN (By row) = x := ⟨_, rfl⟩
          rw [hwh] at HWH
          have HWV : Aside0 (wholeN (By row) = wh) := ⟨hwh⟩
          obtain ⟨fr, hfr⟩ : ∃ x, fracN [] = x := ⟨_, rfl⟩
          obtain ⟨lf, hlf⟩ : ∃ x, leftN [] = x := ⟨_, rfl⟩
          rw [hfr, hlf] at HFR
          have hfr4 : fr < 4294967296 := by rw [← hfr]; exact frac_lt (fun x hx => by cases hx)
          have HNE : Aside0 (numS false (vals (By row)) [] = cutS (vd (vals (By row)) * 4294967296 + fr) lf false) := ⟨by rw [numS_eq, hfr, hlf]⟩
          clear hwh hfr hlf
          by_cases c9 : 4294967296 ≤ wh
          · have d9 : decide ((4294967296 : Int) ≤ (wh : Int)) = true := decide_eq_true (by omega)
            have hv : numS false (vals (By row)) [] = cutZ 18446744073709551614 lf false := by
              have h1 : 4294967296 ≤ vd (vals (By row)) := by have := HWV.out; unfold wholeN at this; omega
              rw [HNE.out, cut_great _ _ _ (by omega)]
              unfold cutZ
              rw [cut_great _ _ _ (by decide)]
            have HV := Aside0.mk hv
            clear hv hfr4
            go_wp2_with (first | (go_at_call 34; (with_reducible refine (HDIG.out _).mono ?_); rintro e w' ⟨rfl, ⟨nd2, rfl⟩⟩) | (go_at_call 35; (with_reducible refine (HFR.out _).mono ?_); rintro e w3 ⟨rfl, hb3⟩; have HB3 := Aside0.mk hb3; clear hb3) | (go_at_call 36; (with_reducible refine (HWH.out _).mono ?_); rintro e w' ⟨rfl, ⟨nd4, rfl⟩⟩) | (go_at_call 28; (with_reducible refine (cut_quiet _ _ _ _ (by decide) (by decide)).mono ?_); rintro e w' ⟨rfl, ⟨nd5, rfl⟩⟩))
            simp only [Exit.jump]
            go_ret2
            exact ⟨by rw [HV.out]; rfl, by
              have hq : Below w.heap.size w (W1.drewN nd2) := pw_below_drewN HBW.out _
              have h5 := hq.trans (HB3.out.mono hq.size)
              repeat (first | exact h5 | apply pw_below_drewN)⟩
          · have d9 : decide ((4294967296 : Int) ≤ (wh : Int)) = false := decide_eq_false (by omega)
            have hor := or_32 fr wh hfr4 (by omega)
            have hv : numS false (vals (By row)) [] = cutZ ((wh * 4294967296 + fr : Nat) : Int) lf false := by
              have h1 : vd (vals (By row)) = wh := by have := HWV.out; unfold wholeN at this; omega
              rw [HNE.out, h1]
              rfl
            have hlt : 0 ≤ ((wh * 4294967296 + fr : Nat) : Int) ∧ ((wh * 4294967296 + fr : Nat) : Int) < 18446744073709551616 := by omega
            have HCU : Aside0 (∀ W, Calls Tryd.prog 28 #[.int .u64 (bits .or .u64 (fr : Int) (IntKind.u64.wrap ((wh : Int) * 4294967296))), .bool lf, .bool false] W fun e w' => e = .returned (.int .i64 (cutZ ((wh * 4294967296 + fr : Nat) : Int) lf false)) ∧ ∃ m, w' = W.drewN m) := ⟨fun W => by rw [hor]; exact cut_quiet _ _ _ _ hlt.1 hlt.2⟩
            have HV := Aside0.mk hv
            clear hv hor hlt hfr4 c9
            go_wp2_with (first | (go_at_call 34; (with_reducible refine (HDIG.out _).mono ?_); rintro e w' ⟨rfl, ⟨nd2, rfl⟩⟩) | (go_at_call 35; (with_reducible refine (HFR.out _).mono ?_); rintro e w3 ⟨rfl, hb3⟩; have HB3 := Aside0.mk hb3; clear hb3) | (go_at_call 36; (with_reducible refine (HWH.out _).mono ?_); rintro e w' ⟨rfl, ⟨nd4, rfl⟩⟩) | (go_at_call 28; (with_reducible refine (HCU.out _).mono ?_); rintro e w' ⟨rfl, ⟨nd5, rfl⟩⟩))
            simp only [Exit.jump]
            go_ret2
            exact ⟨by rw [HV.out]; rfl, by
              have hq : Below w.heap.size w (W1.drewN nd2) := pw_below_drewN HBW.out _
              have h5 := hq.trans (HB3.out.mono hq.size)
              repeat (first | exact h5 | apply pw_below_drewN)⟩
        · have d3 : (rest.toList == []) = false := by rw [ByteArray.toList_eq]; simpa using c3
          have d3' : (!rest.toList.isEmpty) = true := by rw [ByteArray.toList_eq]; cases hq : By rest with | nil => exact absurd hq c3 | cons a l => simp [hq]
          have d3n : rest.toList ≠ [] := by rw [ByteArray.toList_eq]; exact c3
          have hp : 0 < rest.size := by rw [← size_by]; exact List.length_pos_iff.mpr c3
          have hg := bytes_get rest 0 hp
          rw [List.drop_zero] at hg
          rw [show rest.data.toList = By rest from rfl] at hg
          rw [hg] at HT2
          have HGG := Aside0.mk hg
          clear hg c3
          by_cases c4 : rest[0] = 46
          · have d4 : ((rest[0].toNat : Int) == 46) = true := by rw [c4]; rfl
            have d4' : ((rest[0].toNat : Int) != 46) = false := by rw [c4]; rfl
            have HT3 : Aside0 ((if dlen ((By rest).drop 1) = 0 ∨ 30 < dlen ((By rest).drop 1) ∨ ((By rest).drop 1).length ≠ dlen ((By rest).drop 1) then ((0 : Int), (4 : Int)) else (numS false (vals (By row)) (vals ((By rest).drop 1)), 0)) = r) := ⟨by have := HT2.out; dsimp only at this; rw [if_pos c4] at this; exact this⟩
            clear c4 HT2
            obtain ⟨tt, htt⟩ : ∃ tt, rest.extract 1 rest.size = tt := ⟨_, rfl⟩
            have hbt : By tt = (By rest).drop 1 := by rw [← htt, by_rest]
            have hts : tt.size ≤ 140737488351232 := by rw [← size_by, hbt, List.length_drop, size_by]; have := HSS.out; omega
            rw [← hbt] at HT3
            have HTT := Aside0.mk htt
            obtain ⟨n2, hn2⟩ : ∃ n, dlen (By tt) = n := ⟨_, rfl⟩
            have HD2 : Aside0 (∀ W, Calls Tryd.prog 34 #[.string tt] W fun e w' => e = .returned (.tuple #[.string (tt.extract 0 n2), .string (tt.extract n2 tt.size), .bool (decide (0 < n2) && decide (n2 ≤ 30))]) ∧ Drawn0 W w') := ⟨by rw [← hn2]; exact fun W => digits_calls tt hts W⟩
            have HTD2 : Aside0 (∀ c ∈ (By tt).take n2, isD c = true) := ⟨by rw [← hn2]; exact take_dig _⟩
            rw [hn2] at HT3
            have hsz : (By tt).length = tt.size := size_by _
            have HD1 : Aside0 (∀ W, Calls Tryd.prog 34 #[.string (rest.extract 1 rest.size)] W fun e w' => e = .returned (.tuple #[.string (tt.extract 0 n2), .string (tt.extract n2 tt.size), .bool (decide (0 < n2) && decide (n2 ≤ 30))]) ∧ Drawn0 W w') := ⟨by rw [htt]; exact HD2.out⟩
            have hp1 : (1 : Int) ≤ (rest.size : Int) := by omega
            have hn2l : n2 ≤ tt.size := by rw [← hn2, ← size_by]; exact dlen_le _
            clear hn2 hbt hts htt
            by_cases c5 : n2 = 0 ∨ 30 < n2
            · have d5 : (decide (0 < n2) && decide (n2 ≤ 30)) = false := by rw [Bool.eq_false_iff]; intro z; rw [Bool.and_eq_true, decide_eq_true_eq, decide_eq_true_eq] at z; omega
              rw [d5] at HD1
              have hr2 : r = (0, 4) := by rw [← HT3.out, if_pos (by omega)]
              subst hr2
              clear c5 d5 hsz hn2l
              go_wp2_with (first | (go_at_call 34; (with_reducible refine (HDIG.out _).mono ?_); rintro e w' ⟨rfl, ⟨nd2, rfl⟩⟩) | (go_at_call 34; (with_reducible refine (HD1.out _).mono ?_); rintro e w' ⟨rfl, ⟨nd3, rfl⟩⟩))
              go_step3
              exact ⟨rfl, rfl, by first | exact pw_below_drewN HBW.out _ | exact pw_below_drewN (pw_below_drewN HBW.out _) _, _, _, _, _, _, _, _, _, _, _, _, _, _, _, _, _, _, _, _, _, _, _, _, _, _, _, _, _, _, _, _, _, _, _, _, _, _, _, _, _, _, _, _, _, _, _, _, _, _, _, _, _, _, _, _, _, _, _, _, _, _, _, _, _, _, _, _, _, _, rfl⟩
            · have d5 : (decide (0 < n2) && decide (n2 ≤ 30)) = true := by rw [Bool.and_eq_true, decide_eq_true_eq, decide_eq_true_eq]; omega
              rw [d5] at HD1
              obtain ⟨more, hmore⟩ : ∃ more, tt.extract 0 n2 = more := ⟨_, rfl⟩
              obtain ⟨lst, hlst⟩ : ∃ lst, tt.extract n2 tt.size = lst := ⟨_, rfl⟩
              have hbm : By more = (By tt).take n2 := by rw [← hmore, by_extract, List.drop_zero, Nat.sub_zero]
              have hbl : By lst = (By tt).drop n2 := by rw [← hlst, by_rest]
              rw [hmore, hlst] at HD1
              by_cases c6 : tt.size = n2
              · have hl0 : By lst = [] := by rw [hbl]; exact List.drop_of_length_le (by rw [hsz]; omega)
                have d6 : lst.toList = [] := by rw [ByteArray.toList_eq]; exact hl0
                have d6' : (!lst.toList.isEmpty) = false := by rw [d6]; rfl
                have d6'' : (lst.toList == []) = true := by rw [d6]; rfl
                have hmt : By more = By tt := by rw [hbm]; exact List.take_of_length_le (by rw [hsz]; omega)
                rw [← hbm, hmt] at HTD2
                have hr2 : r = (numS false (vals (By row)) (vals (By tt)), 0) := by rw [← HT3.out, if_neg (by omega)]
                have hms : more.size ≤ 1000 := by rw [← size_by, hmt, hsz]; omega
                subst hr2
                have HFR : Aside0 (∀ W, Calls Tryd.prog 35 #[.string more] W fun e w' => e = .returned (.tuple #[.int .u64 ((fracN (vals (By tt)) : Nat) : Int), .bool (leftN (vals (By tt)))]) ∧ Below W.heap.size W w') := ⟨by
                  have hq : ∀ c ∈ By more, isD c = true := by rw [hmt]; exact HTD2.out
                  have hq2 := vals_back hq
                  rw [show vals (By more) = vals (By tt) by rw [hmt]] at hq2
                  exact fun W => frac_calls more W hms (vals (By tt)) hq2 (vals_dgt HTD2.out)⟩
                have HDG2 : Aside0 (dgt (vals (By tt))) := ⟨vals_dgt HTD2.out⟩
                clear hmore hlst hbm hbl c5 d5 c6 hl0 hmt hms HT3 hsz hn2l
                obtain ⟨wh, hwh⟩ : ∃ x, wholeN (By row) = x := ⟨_, rfl⟩
                rw [hwh] at HWH
                have HWV : Aside0 (wholeN (By row) = wh) := ⟨hwh⟩
                obtain ⟨fr, hfr⟩ : ∃ x, fracN (vals (By tt)) = x := ⟨_, rfl⟩
                obtain ⟨lf, hlf⟩ : ∃ x, leftN (vals (By tt)) = x := ⟨_, rfl⟩
                rw [hfr, hlf] at HFR
                have hfr4 : fr < 4294967296 := by rw [← hfr]; exact frac_lt HDG2.out
                have HNE : Aside0 (numS false (vals (By row)) (vals (By tt)) = cutS (vd (vals (By row)) * 4294967296 + fr) lf false) := ⟨by rw [numS_eq, hfr, hlf]⟩
                clear hwh hfr hlf
                by_cases c9 : 4294967296 ≤ wh
                · have d9 : decide ((4294967296 : Int) ≤ (wh : Int)) = true := decide_eq_true (by omega)
                  have hv : numS false (vals (By row)) (vals (By tt)) = cutZ 18446744073709551614 lf false := by
                    have h1 : 4294967296 ≤ vd (vals (By row)) := by have := HWV.out; unfold wholeN at this; omega
                    rw [HNE.out, cut_great _ _ _ (by omega)]
                    unfold cutZ
                    rw [cut_great _ _ _ (by decide)]
                  have HV := Aside0.mk hv
                  clear hv hfr4
                  go_wp2_with (first | (go_at_call 34; (with_reducible refine (HDIG.out _).mono ?_); rintro e w' ⟨rfl, ⟨nd2, rfl⟩⟩) | (go_at_call 34; (with_reducible refine (HD1.out _).mono ?_); rintro e w' ⟨rfl, ⟨nd3, rfl⟩⟩) | (go_at_call 35; (with_reducible refine (HFR.out _).mono ?_); rintro e w3 ⟨rfl, hb3⟩; have HB3 := Aside0.mk hb3; clear hb3) | (go_at_call 36; (with_reducible refine (HWH.out _).mono ?_); rintro e w' ⟨rfl, ⟨nd4, rfl⟩⟩) | (go_at_call 28; (with_reducible refine (cut_quiet _ _ _ _ (by decide) (by decide)).mono ?_); rintro e w' ⟨rfl, ⟨nd5, rfl⟩⟩))
                  simp only [Exit.jump]
                  go_ret2
                  exact ⟨by rw [HV.out]; rfl, by
                    have hq : Below w.heap.size w (W1.drewN (nd2 + nd3)) := pw_below_drewN HBW.out _
                    have h5 := hq.trans (HB3.out.mono hq.size)
                    repeat (first | exact h5 | apply pw_below_drewN)⟩
                · have d9 : decide ((4294967296 : Int) ≤ (wh : Int)) = false := decide_eq_false (by omega)
                  have hor := or_32 fr wh hfr4 (by omega)
                  have hv : numS false (vals (By row)) (vals (By tt)) = cutZ ((wh * 4294967296 + fr : Nat) : Int) lf false := by
                    have h1 : vd (vals (By row)) = wh := by have := HWV.out; unfold wholeN at this; omega
                    rw [HNE.out, h1]
                    rfl
                  have hlt : 0 ≤ ((wh * 4294967296 + fr : Nat) : Int) ∧ ((wh * 4294967296 + fr : Nat) : Int) < 18446744073709551616 := by omega
                  have HCU : Aside0 (∀ W, Calls Tryd.prog 28 #[.int .u64 (bits .or .u64 (fr : Int) (IntKind.u64.wrap ((wh : Int) * 4294967296))), .bool lf, .bool false] W fun e w' => e = .returned (.int .i64 (cutZ ((wh * 4294967296 + fr : Nat) : Int) lf false)) ∧ ∃ m, w' = W.drewN m) := ⟨fun W => by rw [hor]; exact cut_quiet _ _ _ _ hlt.1 hlt.2⟩
                  have HV := Aside0.mk hv
                  clear hv hor hlt hfr4 c9
                  go_wp2_with (first | (go_at_call 34; (with_reducible refine (HDIG.out _).mono ?_); rintro e w' ⟨rfl, ⟨nd2, rfl⟩⟩) | (go_at_call 34; (with_reducible refine (HD1.out _).mono ?_); rintro e w' ⟨rfl, ⟨nd3, rfl⟩⟩) | (go_at_call 35; (with_reducible refine (HFR.out _).mono ?_); rintro e w3 ⟨rfl, hb3⟩; have HB3 := Aside0.mk hb3; clear hb3) | (go_at_call 36; (with_reducible refine (HWH.out _).mono ?_); rintro e w' ⟨rfl, ⟨nd4, rfl⟩⟩) | (go_at_call 28; (with_reducible refine (HCU.out _).mono ?_); rintro e w' ⟨rfl, ⟨nd5, rfl⟩⟩))
                  simp only [Exit.jump]
                  go_ret2
                  exact ⟨by rw [HV.out]; rfl, by
                    have hq : Below w.heap.size w (W1.drewN (nd2 + nd3)) := pw_below_drewN HBW.out _
                    have h5 := hq.trans (HB3.out.mono hq.size)
                    repeat (first | exact h5 | apply pw_below_drewN)⟩
              · have hl0 : By lst ≠ [] := by rw [hbl]; intro z; have := congrArg List.length z; rw [List.length_drop, hsz] at this; simp at this; omega
                have d6 : (lst.toList == []) = false := by rw [ByteArray.toList_eq]; simpa using hl0
                have d6' : (!lst.toList.isEmpty) = true := by rw [ByteArray.toList_eq]; cases hq : By lst with | nil => exact absurd hq hl0 | cons a l => simp [hq]
                have d6n : lst.toList ≠ [] := by rw [ByteArray.toList_eq]; exact hl0
                have hr2 : r = (0, 4) := by rw [← HT3.out, if_pos (by omega)]
                subst hr2
                clear hmore hlst hbm hbl c5 d5 c6 hl0 hsz hn2l
                go_wp2_with (first | (go_at_call 34; (with_reducible refine (HDIG.out _).mono ?_); rintro e w' ⟨rfl, ⟨nd2, rfl⟩⟩) | (go_at_call 34; (with_reducible refine (HD1.out _).mono ?_); rintro e w' ⟨rfl, ⟨nd3, rfl⟩⟩))
                go_step3
                exact ⟨rfl, rfl, by first | exact pw_below_drewN HBW.out _ | exact pw_below_drewN (pw_below_drewN HBW.out _) _, _, _, _, _, _, _, _, _, _, _, _, _, _, _, _, _, _, _, _, _, _, _, _, _, _, _, _, _, _, _, _, _, _, _, _, _, _, _, _, _, _, _, _, _, _, _, _, _, _, _, _, _, _, _, _, _, _, _, _, _, _, _, _, _, _, _, _, _, _, rfl⟩
          · have d4 : ((rest[0].toNat : Int) == 46) = false := by rw [beq_eq_false_iff_ne]; intro z; exact c4 (UInt8.toNat_inj.mp (by simpa using (Int.ofNat.inj z)))
            have d4' : ((rest[0].toNat : Int) != 46) = true := by rw [bne_iff_ne]; intro z; exact c4 (UInt8.toNat_inj.mp (by simpa using (Int.ofNat.inj z)))
            have hr2 : r = (0, 4) := by have := HT2.out; dsimp only at this; rw [if_neg c4] at this; exact this.symm
            subst hr2
            clear c4
            go_wp2_with (go_at_call 34; (with_reducible refine (HDIG.out _).mono ?_); rintro e w' ⟨rfl, ⟨nd2, rfl⟩⟩)
            go_step3
            exact ⟨rfl, rfl, pw_below_drewN HBW.out _, _, _, _, _, _, _, _, _, _, _, _, _, _, _, _, _, _, _, _, _, _, _, _, _, _, _, _, _, _, _, _, _, _, _, _, _, _, _, _, _, _, _, _, _, _, _, _, _, _, _, _, _, _, _, _, _, _, _, _, _, _, _, _, _, _, _, _, _, _, rfl⟩
  · rintro a' w' ⟨hr, hd, u0, u1, u2, u3, u4, u5, u6, u7, u8, u9, u10, u11, u12, u13, u14, u15, u16, u17, u18, u19, u20, u21, u22, u23, u24, u25, u26, u27, u28, u29, u30, u31, u32, u33, u34, u35, u36, u37, u38, u39, u40, u41, u42, u43, u44, u45, u46, u47, u48, u49, u50, u51, u52, u53, u54, u55, u56, u57, u58, u59, u60, u61, u62, u63, u64, u65, u66, u67, u68, rfl⟩
    subst hr
    go_wp2
    simp only [Exit.jump]
    go_ret2
    exact ⟨rfl, hd⟩
set_option maxHeartbeats 8000000 in
set_option maxRecDepth 100000 in
theorem parse_none (s : ByteArray) (w : World) (hs : s.size ≤ 140737488351232) (h0 : By s ≠ [110, 97, 110]) (hn : headIs 45 (By s) = false) (hn2 : headIs 43 (By s) = false) (r : Int × Int) (hT : parseT false (By s) = r) : Calls Tryd.prog 19 #[.string s] w fun e w' => e = .returned (.tuple #[.int .i64 r.1, .int .i64 r.2]) ∧ Below w.heap.size w w' := by
  have d0 : (s.toList == [110, 97, 110]) = false := by rw [ByteArray.toList_eq]; simpa using h0
  have HS := Aside0.mk hs
  have HTS := Aside0.mk hs
  have HT := Aside0.mk hT
  have HN := Aside0.mk hn
  have HN2 := Aside0.mk hn2
  clear hn hn2
  clear h0 hs hT
  go_enter Tryd.func19, Tryd.ntmps19
  go_wp2
  refine wp_scope_jumps 0 (fun a' w' => r = ((0 : Int), (4 : Int)) ∧ Below w.heap.size w w' ∧ ∃ (u0 u1 u2 u3 u4 u5 u6 u7 u8 u9 u10 u11 u12 u13 u14 u15 u16 u17 u18 u19 u20 u21 u22 u23 u24 u25 u26 u27 u28 u29 u30 u31 u32 u33 u34 u35 u36 u37 u38 u39 u40 u41 u42 u43 u44 u45 u46 u47 u48 u49 u50 u51 u52 u53 u54 u55 u56 u57 u58 u59 u60 u61 u62 u63 u64 u65 u66 u67 u68 : Value), a' = { tmps := #[u0, u1, u2, u3, u4, u5, u6, u7, u8, u9, u10, u11, u12, u13, u14, u15, u16, u17, u18, u19, u20, u21, u22, u23, u24, u25, u26, u27, u28, u29, u30, u31, u32, u33, u34, u35, u36, u37, u38, u39, u40, u41, u42, u43, u44, u45, u46, u47, u48, u49, u50, u51, u52, u53, u54, u55, u56, u57, u58, u59, u60, u61, u62, u63, u64, u65, u66, u67, u68], defers := [] }) (fun _ _ => 0) rfl ?_ ?_
  · go_upto_region 9 with (first | (go_at_call 33; (with_reducible refine (hp_calls 45 _ HS.out _).mono ?_); rw [HN.out]; rintro e w' ⟨rfl, ⟨nd, rfl⟩⟩) | (go_at_call 33; (with_reducible refine (hp_calls 43 _ HS.out _).mono ?_); rw [HN2.out]; rintro e w' ⟨rfl, ⟨ndb, rfl⟩⟩))
    obtain ⟨W1, hW1⟩ : ∃ W1, w.drewN (nd + ndb) = W1 := ⟨_, rfl⟩
    rw [hW1]
    have HBW : Aside0 (Below w.heap.size w W1) := ⟨by rw [← hW1]; exact pw_below_drewN (Below.refl _ _) _⟩
    clear hW1
    by_cases c1 : By s = [105, 110, 102]
    · have d1 : (s.toList == [105, 110, 102]) = true := by rw [ByteArray.toList_eq]; exact beq_iff_eq.mpr c1
      have hr2 : r = (if false = true then -9223372036854775808 else 9223372036854775807, 0) := by rw [← HT.out]; unfold parseT; rw [if_pos c1]
      have hcz : (if false = true then -9223372036854775808 else 9223372036854775807 : Int) = cutZ 18446744073709551614 false false := by decide +kernel
      rw [hcz] at hr2
      subst hr2
      clear hcz c1
      go_wp2_with (go_at_call 28; (with_reducible refine (cut_quiet _ _ _ _ (by decide) (by decide)).mono ?_); rintro e w' ⟨rfl, ⟨nd2, rfl⟩⟩)
      simp only [Exit.jump]
      go_ret2
      exact ⟨rfl, pw_below_drewN HBW.out _⟩
    · have d1 : (s.toList == [105, 110, 102]) = false := by rw [ByteArray.toList_eq]; simpa using c1
      have HT2 : Aside0 ((if dlen (By s) = 0 ∨ 30 < dlen (By s) then ((0 : Int), (4 : Int))
      else match (By s).drop (dlen (By s)) with
        | [] => (numS false (vals ((By s).take (dlen (By s)))) [], 0)
        | c :: m => if c = 46 then (if dlen m = 0 ∨ 30 < dlen m ∨ m.length ≠ dlen m then ((0 : Int), (4 : Int)) else (numS false (vals ((By s).take (dlen (By s)))) (vals m), 0)) else ((0 : Int), (4 : Int))) = r) := ⟨by have := HT.out; unfold parseT at this; rwa [if_neg c1] at this⟩
      clear c1 HT
      obtain ⟨n, hn⟩ : ∃ n, dlen (By s) = n := ⟨_, rfl⟩
      have hnl : n ≤ s.size := by rw [← hn, ← size_by]; exact dlen_le _
      have HDIG : Aside0 (∀ W, Calls Tryd.prog 34 #[.string s] W fun e w' => e = .returned (.tuple #[.string (s.extract 0 n), .string (s.extract n s.size), .bool (decide (0 < n) && decide (n ≤ 30))]) ∧ Drawn0 W w') := ⟨by rw [← hn]; exact fun W => digits_calls s HTS.out W⟩
      have HTD : Aside0 (∀ c ∈ (By s).take n, isD c = true) := ⟨by rw [← hn]; exact take_dig _⟩
      rw [hn] at HT2
      clear hn
      by_cases c2 : n = 0 ∨ 30 < n
      · have d2 : (decide (0 < n) && decide (n ≤ 30)) = false := by rw [Bool.eq_false_iff]; intro z; rw [Bool.and_eq_true, decide_eq_true_eq, decide_eq_true_eq] at z; omega
        rw [d2] at HDIG
        have hr2 : r = (0, 4) := by rw [← HT2.out, if_pos c2]
        subst hr2
        clear c2 d2
        go_wp2_with (go_at_call 34; (with_reducible refine (HDIG.out _).mono ?_); rintro e w' ⟨rfl, ⟨nd2, rfl⟩⟩)
        go_step3
        exact ⟨rfl, rfl, pw_below_drewN HBW.out _, _, _, _, _, _, _, _, _, _, _, _, _, _, _, _, _, _, _, _, _, _, _, _, _, _, _, _, _, _, _, _, _, _, _, _, _, _, _, _, _, _, _, _, _, _, _, _, _, _, _, _, _, _, _, _, _, _, _, _, _, _, _, _, _, _, _, _, _, _, rfl⟩
      · have d2 : (decide (0 < n) && decide (n ≤ 30)) = true := by rw [Bool.and_eq_true, decide_eq_true_eq, decide_eq_true_eq]; omega
        rw [d2] at HDIG
        rw [if_neg c2] at HT2
        have hn30 : n ≤ 30 := by omega
        obtain ⟨row, hrow⟩ : ∃ row, s.extract 0 n = row := ⟨_, rfl⟩
        obtain ⟨rest, hrest⟩ : ∃ rest, s.extract n s.size = rest := ⟨_, rfl⟩
        have hbr : By row = (By s).take n := by rw [← hrow, by_extract, List.drop_zero, Nat.sub_zero]
        have hbs : By rest = (By s).drop n := by rw [← hrest, by_rest]
        have hss : rest.size ≤ 140737488351232 := by rw [← size_by, hbs, List.length_drop, size_by]; have := HTS.out; omega
        have hrs : row.size ≤ 140737488351232 := by rw [← size_by, hbr, List.length_take, size_by]; omega
        rw [hrow, hrest] at HDIG
        rw [← hbr] at HTD HT2
        rw [← hbs] at HT2
        have HWH : Aside0 (∀ W, Calls Tryd.prog 36 #[.string row] W fun e w' => e = .returned (.int .u64 ((wholeN (By row) : Nat) : Int)) ∧ Drawn0 W w') := ⟨fun W => whole_calls row hrs HTD.out W⟩
        have HSS := Aside0.mk hss
        clear hrow hrest hbr hbs hrs hss c2 d2 hn30 hnl
        by_cases c3 : By rest = []
        · have d3 : rest.toList = [] := by rw [ByteArray.toList_eq]; exact c3
          have d3' : (!rest.toList.isEmpty) = false := by rw [d3]; rfl
          have d3'' : (rest.toList == []) = true := by rw [d3]; rfl
          rw [c3] at HT2
          have hr2 : r = (numS false (vals (By row)) [], 0) := HT2.out.symm
          clear c3 HT2
          subst hr2
          have HFR : Aside0 (∀ W, Calls Tryd.prog 35 #[.string ⟨#[]⟩] W fun e w' => e = .returned (.tuple #[.int .u64 ((fracN [] : Nat) : Int), .bool (leftN [])]) ∧ Below W.heap.size W w') := ⟨fun W => frac_calls ⟨#[]⟩ W (by decide) [] rfl (fun x hx => by cases hx)⟩
          obtain ⟨wh, hwh⟩ : ∃ x, wholeN (By row) = x := ⟨_, rfl⟩
          rw [hwh] at HWH
          have HWV : Aside0 (wholeN (By row) = wh) := ⟨hwh⟩
          obtain ⟨fr, hfr⟩ : ∃ x, fracN [] = x := ⟨_, rfl⟩
          obtain ⟨lf, hlf⟩ : ∃ x, leftN [] = x := ⟨_, rfl⟩
          rw [hfr, hlf] at HFR
          have hfr4 : fr < 4294967296 := by rw [← hfr]; exact frac_lt (fun x hx => by cases hx)
          have HNE : Aside0 (numS false (vals (By row)) [] = cutS (vd (vals (By row)) * 4294967296 + fr) lf false) := ⟨by rw [numS_eq, hfr, hlf]⟩
          clear hwh hfr hlf
          by_cases c9 : 4294967296 ≤ wh
          · have d9 : decide ((4294967296 : Int) ≤ (wh : Int)) = true := decide_eq_true (by omega)
            have hv : numS false (vals (By row)) [] = cutZ 18446744073709551614 lf false := by
              have h1 : 4294967296 ≤ vd (vals (By row)) := by have := HWV.out; unfold wholeN at this; omega
              rw [HNE.out, cut_great _ _ _ (by omega)]
              unfold cutZ
              rw [cut_great _ _ _ (by decide)]
            have HV := Aside0.mk hv
            clear hv hfr4
            go_wp2_with (first | (go_at_call 34; (with_reducible refine (HDIG.out _).mono ?_); rintro e w' ⟨rfl, ⟨nd2, rfl⟩⟩) | (go_at_call 35; (with_reducible refine (HFR.out _).mono ?_); rintro e w3 ⟨rfl, hb3⟩; have HB3 := Aside0.mk hb3; clear hb3) | (go_at_call 36; (with_reducible refine (HWH.out _).mono ?_); rintro e w' ⟨rfl, ⟨nd4, rfl⟩⟩) | (go_at_call 28; (with_reducible refine (cut_quiet _ _ _ _ (by decide) (by decide)).mono ?_); rintro e w' ⟨rfl, ⟨nd5, rfl⟩⟩))
            simp only [Exit.jump]
            go_ret2
            exact ⟨by rw [HV.out]; rfl, by
              have hq : Below w.heap.size w (W1.drewN nd2) := pw_below_drewN HBW.out _
              have h5 := hq.trans (HB3.out.mono hq.size)
              repeat (first | exact h5 | apply pw_below_drewN)⟩
          · have d9 : decide ((4294967296 : Int) ≤ (wh : Int)) = false := decide_eq_false (by omega)
            have hor := or_32 fr wh hfr4 (by omega)
            have hv : numS false (vals (By row)) [] = cutZ ((wh * 4294967296 + fr : Nat) : Int) lf false := by
              have h1 : vd (vals (By row)) = wh := by have := HWV.out; unfold wholeN at this; omega
              rw [HNE.out, h1]
              rfl
            have hlt : 0 ≤ ((wh * 4294967296 + fr : Nat) : Int) ∧ ((wh * 4294967296 + fr : Nat) : Int) < 18446744073709551616 := by omega
            have HCU : Aside0 (∀ W, Calls Tryd.prog 28 #[.int .u64 (bits .or .u64 (fr : Int) (IntKind.u64.wrap ((wh : Int) * 4294967296))), .bool lf, .bool false] W fun e w' => e = .returned (.int .i64 (cutZ ((wh * 4294967296 + fr : Nat) : Int) lf false)) ∧ ∃ m, w' = W.drewN m) := ⟨fun W => by rw [hor]; exact cut_quiet _ _ _ _ hlt.1 hlt.2⟩
            have HV := Aside0.mk hv
            clear hv hor hlt hfr4 c9
            go_wp2_with (first | (go_at_call 34; (with_reducible refine (HDIG.out _).mono ?_); rintro e w' ⟨rfl, ⟨nd2, rfl⟩⟩) | (go_at_call 35; (with_reducible refine (HFR.out _).mono ?_); rintro e w3 ⟨rfl, hb3⟩; have HB3 := Aside0.mk hb3; clear hb3) | (go_at_call 36; (with_reducible refine (HWH.out _).mono ?_); rintro e w' ⟨rfl, ⟨nd4, rfl⟩⟩) | (go_at_call 28; (with_reducible refine (HCU.out _).mono ?_); rintro e w' ⟨rfl, ⟨nd5, rfl⟩⟩))
            simp only [Exit.jump]
            go_ret2
            exact ⟨by rw [HV.out]; rfl, by
              have hq : Below w.heap.size w (W1.drewN nd2) := pw_below_drewN HBW.out _
              have h5 := hq.trans (HB3.out.mono hq.size)
              repeat (first | exact h5 | apply pw_below_drewN)⟩
        · have d3 : (rest.toList == []) = false := by rw [ByteArray.toList_eq]; simpa using c3
          have d3' : (!rest.toList.isEmpty) = true := by rw [ByteArray.toList_eq]; cases hq : By rest with | nil => exact absurd hq c3 | cons a l => simp [hq]
          have d3n : rest.toList ≠ [] := by rw [ByteArray.toList_eq]; exact c3
          have hp : 0 < rest.size := by rw [← size_by]; exact List.length_pos_iff.mpr c3
          have hg := bytes_get rest 0 hp
          rw [List.drop_zero] at hg
          rw [show rest.data.toList = By rest from rfl] at hg
          rw [hg] at HT2
          have HGG := Aside0.mk hg
          clear hg c3
          by_cases c4 : rest[0] = 46
          · have d4 : ((rest[0].toNat : Int) == 46) = true := by rw [c4]; rfl
            have d4' : ((rest[0].toNat : Int) != 46) = false := by rw [c4]; rfl
            have HT3 : Aside0 ((if dlen ((By rest).drop 1) = 0 ∨ 30 < dlen ((By rest).drop 1) ∨ ((By rest).drop 1).length ≠ dlen ((By rest).drop 1) then ((0 : Int), (4 : Int)) else (numS false (vals (By row)) (vals ((By rest).drop 1)), 0)) = r) := ⟨by have := HT2.out; dsimp only at this; rw [if_pos c4] at this; exact this⟩
            clear c4 HT2
            obtain ⟨tt, htt⟩ : ∃ tt, rest.extract 1 rest.size = tt := ⟨_, rfl⟩
            have hbt : By tt = (By rest).drop 1 := by rw [← htt, by_rest]
            have hts : tt.size ≤ 140737488351232 := by rw [← size_by, hbt, List.length_drop, size_by]; have := HSS.out; omega
            rw [← hbt] at HT3
            have HTT := Aside0.mk htt
            obtain ⟨n2, hn2⟩ : ∃ n, dlen (By tt) = n := ⟨_, rfl⟩
            have HD2 : Aside0 (∀ W, Calls Tryd.prog 34 #[.string tt] W fun e w' => e = .returned (.tuple #[.string (tt.extract 0 n2), .string (tt.extract n2 tt.size), .bool (decide (0 < n2) && decide (n2 ≤ 30))]) ∧ Drawn0 W w') := ⟨by rw [← hn2]; exact fun W => digits_calls tt hts W⟩
            have HTD2 : Aside0 (∀ c ∈ (By tt).take n2, isD c = true) := ⟨by rw [← hn2]; exact take_dig _⟩
            rw [hn2] at HT3
            have hsz : (By tt).length = tt.size := size_by _
            have HD1 : Aside0 (∀ W, Calls Tryd.prog 34 #[.string (rest.extract 1 rest.size)] W fun e w' => e = .returned (.tuple #[.string (tt.extract 0 n2), .string (tt.extract n2 tt.size), .bool (decide (0 < n2) && decide (n2 ≤ 30))]) ∧ Drawn0 W w') := ⟨by rw [htt]; exact HD2.out⟩
            have hp1 : (1 : Int) ≤ (rest.size : Int) := by omega
            have hn2l : n2 ≤ tt.size := by rw [← hn2, ← size_by]; exact dlen_le _
            clear hn2 hbt hts htt
            by_cases c5 : n2 = 0 ∨ 30 < n2
            · have d5 : (decide (0 < n2) && decide (n2 ≤ 30)) = false := by rw [Bool.eq_false_iff]; intro z; rw [Bool.and_eq_true, decide_eq_true_eq, decide_eq_true_eq] at z; omega
              rw [d5] at HD1
              have hr2 : r = (0, 4) := by rw [← HT3.out, if_pos (by omega)]
              subst hr2
              clear c5 d5 hsz hn2l
              go_wp2_with (first | (go_at_call 34; (with_reducible refine (HDIG.out _).mono ?_); rintro e w' ⟨rfl, ⟨nd2, rfl⟩⟩) | (go_at_call 34; (with_reducible refine (HD1.out _).mono ?_); rintro e w' ⟨rfl, ⟨nd3, rfl⟩⟩))
              go_step3
              exact ⟨rfl, rfl, by first | exact pw_below_drewN HBW.out _ | exact pw_below_drewN (pw_below_drewN HBW.out _) _, _, _, _, _, _, _, _, _, _, _, _, _, _, _, _, _, _, _, _, _, _, _, _, _, _, _, _, _, _, _, _, _, _, _, _, _, _, _, _, _, _, _, _, _, _, _, _, _, _, _, _, _, _, _, _, _, _, _, _, _, _, _, _, _, _, _, _, _, _, rfl⟩
            · have d5 : (decide (0 < n2) && decide (n2 ≤ 30)) = true := by rw [Bool.and_eq_true, decide_eq_true_eq, decide_eq_true_eq]; omega
              rw [d5] at HD1
              obtain ⟨more, hmore⟩ : ∃ more, tt.extract 0 n2 = more := ⟨_, rfl⟩
              obtain ⟨lst, hlst⟩ : ∃ lst, tt.extract n2 tt.size = lst := ⟨_, rfl⟩
              have hbm : By more = (By tt).take n2 := by rw [← hmore, by_extract, List.drop_zero, Nat.sub_zero]
              have hbl : By lst = (By tt).drop n2 := by rw [← hlst, by_rest]
              rw [hmore, hlst] at HD1
              by_cases c6 : tt.size = n2
              · have hl0 : By lst = [] := by rw [hbl]; exact List.drop_of_length_le (by rw [hsz]; omega)
                have d6 : lst.toList = [] := by rw [ByteArray.toList_eq]; exact hl0
                have d6' : (!lst.toList.isEmpty) = false := by rw [d6]; rfl
                have d6'' : (lst.toList == []) = true := by rw [d6]; rfl
                have hmt : By more = By tt := by rw [hbm]; exact List.take_of_length_le (by rw [hsz]; omega)
                rw [← hbm, hmt] at HTD2
                have hr2 : r = (numS false (vals (By row)) (vals (By tt)), 0) := by rw [← HT3.out, if_neg (by omega)]
                have hms : more.size ≤ 1000 := by rw [← size_by, hmt, hsz]; omega
                subst hr2
                have HFR : Aside0 (∀ W, Calls Tryd.prog 35 #[.string more] W fun e w' => e = .returned (.tuple #[.int .u64 ((fracN (vals (By tt)) : Nat) : Int), .bool (leftN (vals (By tt)))]) ∧ Below W.heap.size W w') := ⟨by
                  have hq : ∀ c ∈ By more, isD c = true := by rw [hmt]; exact HTD2.out
                  have hq2 := vals_back hq
                  rw [show vals (By more) = vals (By tt) by rw [hmt]] at hq2
                  exact fun W => frac_calls more W hms (vals (By tt)) hq2 (vals_dgt HTD2.out)⟩
                have HDG2 : Aside0 (dgt (vals (By tt))) := ⟨vals_dgt HTD2.out⟩
                clear hmore hlst hbm hbl c5 d5 c6 hl0 hmt hms HT3 hsz hn2l
                obtain ⟨wh, hwh⟩ : ∃ x, wholeN (By row) = x := ⟨_, rfl⟩
                rw [hwh] at HWH
                have HWV : Aside0 (wholeN (By row) = wh) := ⟨hwh⟩
                obtain ⟨fr, hfr⟩ : ∃ x, fracN (vals (By tt)) = x := ⟨_, rfl⟩
                obtain ⟨lf, hlf⟩ : ∃ x, leftN (vals (By tt)) = x := ⟨_, rfl⟩
                rw [hfr, hlf] at HFR
                have hfr4 : fr < 4294967296 := by rw [← hfr]; exact frac_lt HDG2.out
                have HNE : Aside0 (numS false (vals (By row)) (vals (By tt)) = cutS (vd (vals (By row)) * 4294967296 + fr) lf false) := ⟨by rw [numS_eq, hfr, hlf]⟩
                clear hwh hfr hlf
                by_cases c9 : 4294967296 ≤ wh
                · have d9 : decide ((4294967296 : Int) ≤ (wh : Int)) = true := decide_eq_true (by omega)
                  have hv : numS false (vals (By row)) (vals (By tt)) = cutZ 18446744073709551614 lf false := by
                    have h1 : 4294967296 ≤ vd (vals (By row)) := by have := HWV.out; unfold wholeN at this; omega
                    rw [HNE.out, cut_great _ _ _ (by omega)]
                    unfold cutZ
                    rw [cut_great _ _ _ (by decide)]
                  have HV := Aside0.mk hv
                  clear hv hfr4
                  go_wp2_with (first | (go_at_call 34; (with_reducible refine (HDIG.out _).mono ?_); rintro e w' ⟨rfl, ⟨nd2, rfl⟩⟩) | (go_at_call 34; (with_reducible refine (HD1.out _).mono ?_); rintro e w' ⟨rfl, ⟨nd3, rfl⟩⟩) | (go_at_call 35; (with_reducible refine (HFR.out _).mono ?_); rintro e w3 ⟨rfl, hb3⟩; have HB3 := Aside0.mk hb3; clear hb3) | (go_at_call 36; (with_reducible refine (HWH.out _).mono ?_); rintro e w' ⟨rfl, ⟨nd4, rfl⟩⟩) | (go_at_call 28; (with_reducible refine (cut_quiet _ _ _ _ (by decide) (by decide)).mono ?_); rintro e w' ⟨rfl, ⟨nd5, rfl⟩⟩))
                  simp only [Exit.jump]
                  go_ret2
                  exact ⟨by rw [HV.out]; rfl, by
                    have hq : Below w.heap.size w (W1.drewN (nd2 + nd3)) := pw_below_drewN HBW.out _
                    have h5 := hq.trans (HB3.out.mono hq.size)
                    repeat (first | exact h5 | apply pw_below_drewN)⟩
                · have d9 : decide ((4294967296 : Int) ≤ (wh : Int)) = false := decide_eq_false (by omega)
                  have hor := or_32 fr wh hfr4 (by omega)
                  have hv : numS false (vals (By row)) (vals (By tt)) = cutZ ((wh * 4294967296 + fr : Nat) : Int) lf false := by
                    have h1 : vd (vals (By row)) = wh := by have := HWV.out; unfold wholeN at this; omega
                    rw [HNE.out, h1]
                    rfl
                  have hlt : 0 ≤ ((wh * 4294967296 + fr : Nat) : Int) ∧ ((wh * 4294967296 + fr : Nat) : Int) < 18446744073709551616 := by omega
                  have HCU : Aside0 (∀ W, Calls Tryd.prog 28 #[.int .u64 (bits .or .u64 (fr : Int) (IntKind.u64.wrap ((wh : Int) * 4294967296))), .bool lf, .bool false] W fun e w' => e = .returned (.int .i64 (cutZ ((wh * 4294967296 + fr : Nat) : Int) lf false)) ∧ ∃ m, w' = W.drewN m) := ⟨fun W => by rw [hor]; exact cut_quiet _ _ _ _ hlt.1 hlt.2⟩
                  have HV := Aside0.mk hv
                  clear hv hor hlt hfr4 c9
                  go_wp2_with (first | (go_at_call 34; (with_reducible refine (HDIG.out _).mono ?_); rintro e w' ⟨rfl, ⟨nd2, rfl⟩⟩) | (go_at_call 34; (with_reducible refine (HD1.out _).mono ?_); rintro e w' ⟨rfl, ⟨nd3, rfl⟩⟩) | (go_at_call 35; (with_reducible refine (HFR.out _).mono ?_); rintro e w3 ⟨rfl, hb3⟩; have HB3 := Aside0.mk hb3; clear hb3) | (go_at_call 36; (with_reducible refine (HWH.out _).mono ?_); rintro e w' ⟨rfl, ⟨nd4, rfl⟩⟩) | (go_at_call 28; (with_reducible refine (HCU.out _).mono ?_); rintro e w' ⟨rfl, ⟨nd5, rfl⟩⟩))
                  simp only [Exit.jump]
                  go_ret2
                  exact ⟨by rw [HV.out]; rfl, by
                    have hq : Below w.heap.size w (W1.drewN (nd2 + nd3)) := pw_below_drewN HBW.out _
                    have h5 := hq.trans (HB3.out.mono hq.size)
                    repeat (first | exact h5 | apply pw_below_drewN)⟩
              · have hl0 : By lst ≠ [] := by rw [hbl]; intro z; have := congrArg List.length z; rw [List.length_drop, hsz] at this; simp at this; omega
                have d6 : (lst.toList == []) = false := by rw [ByteArray.toList_eq]; simpa using hl0
                have d6' : (!lst.toList.isEmpty) = true := by rw [ByteArray.toList_eq]; cases hq : By lst with | nil => exact absurd hq hl0 | cons a l => simp [hq]
                have d6n : lst.toList ≠ [] := by rw [ByteArray.toList_eq]; exact hl0
                have hr2 : r = (0, 4) := by rw [← HT3.out, if_pos (by omega)]
                subst hr2
                clear hmore hlst hbm hbl c5 d5 c6 hl0 hsz hn2l
                go_wp2_with (first | (go_at_call 34; (with_reducible refine (HDIG.out _).mono ?_); rintro e w' ⟨rfl, ⟨nd2, rfl⟩⟩) | (go_at_call 34; (with_reducible refine (HD1.out _).mono ?_); rintro e w' ⟨rfl, ⟨nd3, rfl⟩⟩))
                go_step3
                exact ⟨rfl, rfl, by first | exact pw_below_drewN HBW.out _ | exact pw_below_drewN (pw_below_drewN HBW.out _) _, _, _, _, _, _, _, _, _, _, _, _, _, _, _, _, _, _, _, _, _, _, _, _, _, _, _, _, _, _, _, _, _, _, _, _, _, _, _, _, _, _, _, _, _, _, _, _, _, _, _, _, _, _, _, _, _, _, _, _, _, _, _, _, _, _, _, _, _, _, rfl⟩
          · have d4 : ((rest[0].toNat : Int) == 46) = false := by rw [beq_eq_false_iff_ne]; intro z; exact c4 (UInt8.toNat_inj.mp (by simpa using (Int.ofNat.inj z)))
            have d4' : ((rest[0].toNat : Int) != 46) = true := by rw [bne_iff_ne]; intro z; exact c4 (UInt8.toNat_inj.mp (by simpa using (Int.ofNat.inj z)))
            have hr2 : r = (0, 4) := by have := HT2.out; dsimp only at this; rw [if_neg c4] at this; exact this.symm
            subst hr2
            clear c4
            go_wp2_with (go_at_call 34; (with_reducible refine (HDIG.out _).mono ?_); rintro e w' ⟨rfl, ⟨nd2, rfl⟩⟩)
            go_step3
            exact ⟨rfl, rfl, pw_below_drewN HBW.out _, _, _, _, _, _, _, _, _, _, _, _, _, _, _, _, _, _, _, _, _, _, _, _, _, _, _, _, _, _, _, _, _, _, _, _, _, _, _, _, _, _, _, _, _, _, _, _, _, _, _, _, _, _, _, _, _, _, _, _, _, _, _, _, _, _, _, _, _, _, rfl⟩
  · rintro a' w' ⟨hr, hd, u0, u1, u2, u3, u4, u5, u6, u7, u8, u9, u10, u11, u12, u13, u14, u15, u16, u17, u18, u19, u20, u21, u22, u23, u24, u25, u26, u27, u28, u29, u30, u31, u32, u33, u34, u35, u36, u37, u38, u39, u40, u41, u42, u43, u44, u45, u46, u47, u48, u49, u50, u51, u52, u53, u54, u55, u56, u57, u58, u59, u60, u61, u62, u63, u64, u65, u66, u67, u68, rfl⟩
    subst hr
    go_wp2
    simp only [Exit.jump]
    go_ret2
    exact ⟨rfl, hd⟩
theorem parse_nan (s : ByteArray) (w : World) (hs : s.size ≤ 140737488351232) (h0 : By s = [110, 97, 110]) : Calls Tryd.prog 19 #[.string s] w fun e w' => e = .returned (.tuple #[.int .i64 0, .int .i64 3]) ∧ Below w.heap.size w w' := by
  have d0 : (s.toList == [110, 97, 110]) = true := by rw [ByteArray.toList_eq]; exact beq_iff_eq.mpr h0
  have HN : Aside0 (headIs 45 (By s) = false) := ⟨by rw [h0]; rfl⟩
  have HS := Aside0.mk hs
  clear hs h0
  go_enter Tryd.func19, Tryd.ntmps19
  go_wp2
  refine wp_scope_jumps 0 (fun _ _ => False) (fun _ _ => 0) rfl ?_ (fun _ _ h => h.elim)
  go_wp2_with (go_at_call 33; (with_reducible refine (hp_calls _ _ HS.out _).mono ?_); rw [HN.out]; rintro e w' ⟨rfl, ⟨nd, rfl⟩⟩)
  simp only [Exit.jump]
  go_ret2
  exact ⟨rfl, pw_below_drewN (Below.refl _ _) _⟩
theorem parse_calls (s : ByteArray) (w : World) (hs : s.size ≤ 140737488351232) : Calls Tryd.prog 19 #[.string s] w fun e w' => e = .returned (.tuple #[.int .i64 (parseS (By s)).1, .int .i64 (parseS (By s)).2]) ∧ Below w.heap.size w w' := by
  by_cases h0 : By s = [110, 97, 110]
  · have e : parseS (By s) = (0, 3) := by unfold parseS; rw [if_pos h0]
    rw [e]
    exact parse_nan s w hs h0
  · have hx : ∀ c l, By s = c :: l → By (s.extract 1 s.size) = l ∧ (s.extract 1 s.size).size ≤ 140737488351232 := by
      intro c l h
      have h1 : s.size = l.length + 1 := by rw [← size_by, h]; rfl
      refine ⟨by rw [by_rest, h]; rfl, by rw [size_rest s 1 (by omega)]; omega⟩
    cases hb : By s with
    | nil =>
      have e : parseS ([] : List UInt8) = parseT false [] := rfl
      rw [e, ← hb]
      exact parse_none s w hs h0 (by rw [hb]; rfl) (by rw [hb]; rfl) _ rfl
    | cons c l =>
      obtain ⟨x1, x2⟩ := hx c l hb
      rw [hb] at h0
      by_cases c1 : c = 45
      · have e : parseS (c :: l) = parseT true l := by unfold parseS; rw [if_neg h0, c1]; rfl
        rw [e]
        exact parse_neg s w hs (by rw [hb]; exact h0) (by rw [hb, c1]; rfl) _ _ rfl x2 (by rw [x1])
      · by_cases c2 : c = 43
        · have e : parseS (c :: l) = parseT false l := by unfold parseS; rw [if_neg h0, c2]; rfl
          rw [e]
          exact parse_plus s w hs (by rw [hb]; exact h0) (by rw [hb, c2]; rfl) (by rw [hb, c2]; rfl) _ _ rfl x2 (by rw [x1])
        · have e : parseS (c :: l) = parseT false (c :: l) := by
            unfold parseS
            rw [if_neg h0]
            split
            · rename_i t h; exact absurd (List.cons.inj h).1 c1
            · rename_i t h; exact absurd (List.cons.inj h).1 c2
            · rfl
          rw [e, ← hb]
          exact parse_none s w hs (by rw [hb]; exact h0) (by rw [hb]; unfold headIs; simpa using c1) (by rw [hb]; unfold headIs; simpa using c2) _ rfl
end Go.Proofs.YtlifbogjjikhdaaDoor.Fl
end
section
namespace Go.Proofs.YtlifbogjjikhdaaDoor
open Go Go.RowKit Go.Proofs.YtlifbogjjikhdaaDoorW.PrintLast
section
variable {P : Program} {ops : Array Oper} {md : Region.Mode} {C : World → Prop}
structure Ext (w : World) where
  val : World
  below : Below w.heap.size w val
instance (w : World) : Inhabited (Ext w) := ⟨⟨w, Below.refl _ _⟩⟩
theorem Ext.cell {w : World} {p : Addr} {v : Value} (hc : w.cell? p = some v) (k : Ext w) : k.val.cell? p = some v := (k.below.cell (World.block_lt_of_cell? _ _ hc)).trans hc
end
end Go.Proofs.YtlifbogjjikhdaaDoor
end
section
namespace Go.Proofs.YtlifbogjjikhdaaDoor.Fl
open Go.RowKit Go.Proofs.YtlifbogjjikhdaaDoorW.PrintWords Go.Proofs.YtlifbogjjikhdaaDoorW.PrintLast Go.Proofs.YtlifbogjjikhdaaDoorW.PrintMore
set_option linter.unusedVariables false
open Go.Proofs.YtlifbogjjikhdaaDoor.FL
theorem num_calls0 (n : Int) (w : World) : Calls Tryd.prog 16 #[.int .i64 n] w fun e w' => e = .returned (.int .i64 n) ∧ w' = w := by
  go_enter Tryd.func16, Tryd.ntmps16
  go_wp2
  go_ret
  exact ⟨rfl, rfl⟩
theorem of_tenth : ofS 4591870180066957722 = (429496729, 0) := by decide +kernel
theorem parse_half : parseS [45, 48, 46, 53] = (-2147483648, 0) := by decide +kernel
theorem bits_inf : bitsS [102, 102, 102, 48, 48, 48, 48, 48, 48, 48, 48, 48, 48, 48, 48, 48] = (-9223372036854775808, 0) := by decide +kernel
theorem show_one : showT 1 = ⟨#[48, 46, 48, 48, 48, 48, 48, 48, 48, 48, 48, 50, 51, 50, 56, 51, 48, 54, 52, 51, 54, 53, 51, 56, 54, 57, 54, 50, 56, 57, 48, 54, 50, 53]⟩ := by
  unfold showT showZ showM
  rw [show (1 : Int).natAbs / 4294967296 = 0 from rfl, Lib.decDigits_one (by decide)]
  decide +kernel
set_option maxHeartbeats 8000000 in
set_option maxRecDepth 100000 in
theorem alive_calls (w : World) (ht : Tab w) : Calls Tryd.prog 12 #[] w fun e w' => e = .returned (.bool true) ∧ Below w.heap.size w w' := by
  have H1 : Aside0 (∀ W, Calls Tryd.prog 14 #[.float .f64 4591870180066957722] W fun e w' => e = .returned (.tuple #[.int .i64 429496729, .int .i64 0]) ∧ Below W.heap.size W w') := ⟨fun W => by
    have := of_calls 4591870180066957722 (by decide) W
    rw [of_tenth] at this
    exact this.mono fun _ _ ⟨he, hw⟩ => ⟨he, hw.below⟩⟩
  have H2 : Aside0 (∀ W, Calls Tryd.prog 19 #[.string ⟨#[45, 48, 46, 53]⟩] W fun e w' => e = .returned (.tuple #[.int .i64 (-2147483648), .int .i64 0]) ∧ Below W.heap.size W w') := ⟨fun W => by
    have := parse_calls ⟨#[45, 48, 46, 53]⟩ W (by decide)
    rw [show By ⟨#[45, 48, 46, 53]⟩ = [45, 48, 46, 53] from rfl, parse_half] at this
    exact this⟩
  have H3 : Aside0 (∀ W, Calls Tryd.prog 17 #[.string ⟨#[102, 102, 102, 48, 48, 48, 48, 48, 48, 48, 48, 48, 48, 48, 48, 48]⟩] W fun e w' => e = .returned (.tuple #[.int .i64 (-9223372036854775808), .int .i64 0]) ∧ Below W.heap.size W w') := ⟨fun W => by
    have := bits_calls ⟨#[102, 102, 102, 48, 48, 48, 48, 48, 48, 48, 48, 48, 48, 48, 48, 48]⟩ W (by decide)
    rw [show (⟨#[102, 102, 102, 48, 48, 48, 48, 48, 48, 48, 48, 48, 48, 48, 48, 48]⟩ : ByteArray).data.toList = [102, 102, 102, 48, 48, 48, 48, 48, 48, 48, 48, 48, 48, 48, 48, 48] from rfl, bits_inf] at this
    exact this.mono fun _ _ ⟨he, hw⟩ => ⟨he, hw.below⟩⟩
  have HT := Aside0.mk ht
  clear ht
  go_enter Tryd.func12, Tryd.ntmps12
  go_upto_region 4 with (first | (go_at_call 14; refine (H1.out _).mono ?_; rintro e W1 ⟨rfl, hb1⟩) | (go_at_call 19; refine (H2.out _).mono ?_; rintro e W2 ⟨rfl, hb2⟩) | (go_at_call 17; refine (H3.out _).mono ?_; rintro e W3 ⟨rfl, hb3⟩))
  have HB : Aside0 (Below w.heap.size w W3) := ⟨(hb1.trans (hb2.mono hb1.size)).trans (hb3.mono (hb1.trans (hb2.mono hb1.size)).size)⟩
  clear hb1 hb2 hb3 H1 H2 H3
  have HS : Aside0 (∀ k : Ext W3, Calls Tryd.prog 21 #[.int .i64 1] k.val fun e w' => e = .returned (.string ⟨#[48, 46, 48, 48, 48, 48, 48, 48, 48, 48, 48, 50, 51, 50, 56, 51, 48, 54, 52, 51, 54, 53, 51, 56, 54, 57, 54, 50, 56, 57, 48, 54, 50, 53]⟩) ∧ Below k.val.heap.size k.val w') := ⟨fun k => by
    have := show_calls 1 (by decide) (by decide) k.val ((HT.out.below HB.out).below k.below)
    rw [show_one] at this
    exact this⟩
  go_wp2_with (first | (go_at_call 16; refine (num_calls0 _ _).mono ?_; rintro e w' ⟨rfl, rfl⟩) | (go_at_call 21; refine (HS.out ⟨_, Below.refl _ _⟩).mono ?_; rintro e W4 ⟨rfl, hb4⟩))
  have hW4 : Below w.heap.size w W4 := HB.out.trans (hb4.mono HB.out.size)
  go_ret
  exact ⟨rfl, hW4⟩
end Go.Proofs.YtlifbogjjikhdaaDoor.Fl
end
