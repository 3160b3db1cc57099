/- One digit more behind the point never makes a number less, and a text with a minus has the opposite number, but for one step down. Conditions: none beyond the given card's. -/
-- Laid together by wip/shake.py out of: FlParse FlParse2 QT FlAlive FlParT FlRShow FlLWhole FlLDigits LawFloatsDigits
import Derived.Test.YtlifbogjjikhdaaDoorFloatsDigitsm2
import Derived.Lib.Strings
import Derived.Deep.Quiet
import Derived.StillTail
import Derived.Deep.QuietTactic
import Derived.Tactics
import Derived.Below
import Derived.BigQuiet
import Derived.Laws.DeepStrings4
import Derived.Test.YtlifbogjjikhdaaDoorTie
import Derived.Test.YtlifbogjjikhdaaDoorCards
import Derived.SevenTiedAt
section
namespace Go.Proofs.YtlifbogjjikhdaaDoor.Fl
open Go.RowKit Go.Proofs.YtlifbogjjikhdaaDoorW.PrintWords Go.Proofs.YtlifbogjjikhdaaDoorW.PrintLast Go.Proofs.YtlifbogjjikhdaaDoorW.PrintMore
set_option linter.unusedVariables false
open Go.Proofs.YtlifbogjjikhdaaDoor.FL
theorem by_extract (s : ByteArray) (a b : Nat) : By (s.extract a b) = ((By s).drop a).take (b - a) := by
  rw [By, ← ByteArray.toList_eq]
  exact Lib.extract_toList s a b
theorem by_rest (s : ByteArray) (a : Nat) : By (s.extract a s.size) = (By s).drop a := by
  rw [by_extract]
  exact List.take_of_length_le (by rw [List.length_drop, size_by]; exact Nat.le_refl _)
theorem size_rest (s : ByteArray) (a : Nat) (h : a ≤ s.size) : (s.extract a s.size).size = s.size - a := by
  rw [← size_by, by_rest, List.length_drop, size_by]
def headIs (c : UInt8) (l : List UInt8) : Bool := l.head? == some c
theorem hp_calls (c : UInt8) (s : ByteArray) (hs : s.size ≤ 140737488351232) (w : World) : Calls Tryd.prog 33 #[.string s, .string ⟨#[c]⟩] w fun e w' => e = .returned (.bool (headIs c (By s))) ∧ Drawn0 w w' := by
  refine strings_HasPrefix.calls s ⟨#[c]⟩ _ w ?_
  have e1 : ((⟨#[c]⟩ : ByteArray).size : Int) = 1 := rfl
  unfold strings_HasPrefix.f stringslite_HasPrefix.f
  rw [e1]
  cases hb : By s with
  | nil =>
    have : s.size = 0 := by rw [← size_by, hb]; rfl
    rw [if_neg (by omega)]
    rfl
  | cons x l =>
    have hz : s.size = l.length + 1 := by rw [← size_by, hb]; rfl
    rw [if_pos (by omega), if_pos (by omega), if_pos (by omega)]
    have e2 : (s.extract 0 (1 : Int).toNat).toList = [x] := by
      have := by_extract s 0 1
      rw [hb] at this
      rw [ByteArray.toList_eq]
      exact this
    have e3 : (⟨#[c]⟩ : ByteArray).toList = [c] := by rw [ByteArray.toList_eq]
    rw [e2, e3]
    show some ([x] == [c]) = some (headIs c (x :: l))
    congr 1
    unfold headIs
    rw [Bool.eq_iff_iff, beq_iff_eq, beq_iff_eq]
    simp
theorem or_32 (f w : Nat) (hf : f < 4294967296) (hw : w < 4294967296) : bits .or .u64 (f : Int) (IntKind.u64.wrap ((w : Int) * 4294967296)) = ((w * 4294967296 + f : Nat) : Int) := by
  rw [IntKind.wrap_u64, Int.emod_eq_of_lt (by omega) (by omega), show ((w : Int) * 4294967296) = ((2 ^ 32 * w : Nat) : Int) by omega, bits_or_u64_nat _ _ (by omega) (by omega), Nat.or_comm, ← Nat.two_pow_add_eq_or_of_lt (i := 32) (by omega)]
  omega
set_option maxHeartbeats 8000000 in
set_option maxRecDepth 100000 in
theorem parse_neg (s : ByteArray) (w : World) (hs : s.size ≤ 140737488351232) (h0 : By s ≠ [110, 97, 110]) (hn : headIs 45 (By s) = true) (r : Int × Int) (t : ByteArray) (ht : s.extract 1 s.size = t) (hts : t.size ≤ 140737488351232) (hT : parseT true (By t) = r) : Calls Tryd.prog 19 #[.string s] w fun e w' => e = .returned (.tuple #[.int .i64 r.1, .int .i64 r.2]) ∧ Below w.heap.size w w' := by
  have d0 : (s.toList == [110, 97, 110]) = false := by rw [ByteArray.toList_eq]; simpa using h0
  have HS := Aside0.mk hs
  have HTS := Aside0.mk hts
  have HT := Aside0.mk hT
  have HN := Aside0.mk hn
  have hp0 : (1 : Int) ≤ (s.size : Int) := by
    have h1 : By s ≠ [] := by intro z; rw [z] at hn; exact absurd hn (by decide)
    have h2 := List.length_pos_iff.mpr h1
    rw [size_by] at h2
    omega
  clear hn
  clear h0 hs hts hT
  go_enter Tryd.func19, Tryd.ntmps19
  go_wp2
  refine wp_scope_jumps 0 (fun a' w' => r = ((0 : Int), (4 : Int)) ∧ Below w.heap.size w w' ∧ ∃ (u0 u1 u2 u3 u4 u5 u6 u7 u8 u9 u10 u11 u12 u13 u14 u15 u16 u17 u18 u19 u20 u21 u22 u23 u24 u25 u26 u27 u28 u29 u30 u31 u32 u33 u34 u35 u36 u37 u38 u39 u40 u41 u42 u43 u44 u45 u46 u47 u48 u49 u50 u51 u52 u53 u54 u55 u56 u57 u58 u59 u60 u61 u62 u63 u64 u65 u66 u67 u68 : Value), a' = { tmps := #[u0, u1, u2, u3, u4, u5, u6, u7, u8, u9, u10, u11, u12, u13, u14, u15, u16, u17, u18, u19, u20, u21, u22, u23, u24, u25, u26, u27, u28, u29, u30, u31, u32, u33, u34, u35, u36, u37, u38, u39, u40, u41, u42, u43, u44, u45, u46, u47, u48, u49, u50, u51, u52, u53, u54, u55, u56, u57, u58, u59, u60, u61, u62, u63, u64, u65, u66, u67, u68], defers := [] }) (fun _ _ => 0) rfl ?_ ?_
  · go_upto_region 9 with (go_at_call 33; (with_reducible refine (hp_calls _ _ HS.out _).mono ?_); rw [HN.out]; rintro e w' ⟨rfl, ⟨nd, rfl⟩⟩)
    try rw [ht]
    clear ht
    obtain ⟨W1, hW1⟩ : ∃ W1, w.drewN nd = W1 := ⟨_, rfl⟩
    rw [hW1]
    have HBW : Aside0 (Below w.heap.size w W1) := ⟨by rw [← hW1]; exact pw_below_drewN (Below.refl _ _) _⟩
    clear hW1
    by_cases c1 : By t = [105, 110, 102]
    · have d1 : (t.toList == [105, 110, 102]) = true := by rw [ByteArray.toList_eq]; exact beq_iff_eq.mpr c1
      have hr2 : r = (if true = true then -9223372036854775808 else 9223372036854775807, 0) := by rw [← HT.out]; unfold parseT; rw [if_pos c1]
      have hcz : (if true = true then -9223372036854775808 else 9223372036854775807 : Int) = cutZ 18446744073709551614 false true := by decide +kernel
      rw [hcz] at hr2
      subst hr2
      clear hcz c1
      go_wp2_with (go_at_call 28; (with_reducible refine (cut_quiet _ _ _ _ (by decide) (by decide)).mono ?_); rintro e w' ⟨rfl, ⟨nd2, rfl⟩⟩)
      simp only [Exit.jump]
      go_ret2
      exact ⟨rfl, pw_below_drewN HBW.out _⟩
    · have d1 : (t.toList == [105, 110, 102]) = false := by rw [ByteArray.toList_eq]; simpa using c1
      have HT2 : Aside0 ((if dlen (By t) = 0 ∨ 30 < dlen (By t) then ((0 : Int), (4 : Int))
      else match (By t).drop (dlen (By t)) with
        | [] => (numS true (vals ((By t).take (dlen (By t)))) [], 0)
        | c :: m => if c = 46 then (if dlen m = 0 ∨ 30 < dlen m ∨ m.length ≠ dlen m then ((0 : Int), (4 : Int)) else (numS true (vals ((By t).take (dlen (By t)))) (vals m), 0)) else ((0 : Int), (4 : Int))) = r) := ⟨by have := HT.out; unfold parseT at this; rwa [if_neg c1] at this⟩
      clear c1 HT
      obtain ⟨n, hn⟩ : ∃ n, dlen (By t) = n := ⟨_, rfl⟩
      have hnl : n ≤ t.size := by rw [← hn, ← size_by]; exact dlen_le _
      have HDIG : Aside0 (∀ W, Calls Tryd.prog 34 #[.string t] W fun e w' => e = .returned (.tuple #[.string (t.extract 0 n), .string (t.extract n t.size), .bool (decide (0 < n) && decide (n ≤ 30))]) ∧ Drawn0 W w') := ⟨by rw [← hn]; exact fun W => digits_calls t HTS.out W⟩
      have HTD : Aside0 (∀ c ∈ (By t).take n, isD c = true) := ⟨by rw [← hn]; exact take_dig _⟩
      rw [hn] at HT2
      clear hn
      by_cases c2 : n = 0 ∨ 30 < n
      · have d2 : (decide (0 < n) && decide (n ≤ 30)) = false := by rw [Bool.eq_false_iff]; intro z; rw [Bool.and_eq_true, decide_eq_true_eq, decide_eq_true_eq] at z; omega
        rw [d2] at HDIG
        have hr2 : r = (0, 4) := by rw [← HT2.out, if_pos c2]
        subst hr2
        clear c2 d2
        go_wp2_with (go_at_call 34; (with_reducible refine (HDIG.out _).mono ?_); rintro e w' ⟨rfl, ⟨nd2, rfl⟩⟩)
        go_step3
        exact ⟨rfl, rfl, pw_below_drewN HBW.out _, _, _, _, _, _, _, _, _, _, _, _, _, _, _, _, _, _, _, _, _, _, _, _, _, _, _, _, _, _, _, _, _, _, _, _, _, _, _, _, _, _, _, _, _, _, _, _, _, _, _, _, _, _, _, _, _, _, _, _, _, _, _, _, _, _, _, _, _, _, rfl⟩
      · have d2 : (decide (0 < n) && decide (n ≤ 30)) = true := by rw [Bool.and_eq_true, decide_eq_true_eq, decide_eq_true_eq]; omega
        rw [d2] at HDIG
        rw [if_neg c2] at HT2
        have hn30 : n ≤ 30 := by omega
        obtain ⟨row, hrow⟩ : ∃ row, t.extract 0 n = row := ⟨_, rfl⟩
        obtain ⟨rest, hrest⟩ : ∃ rest, t.extract n t.size = rest := ⟨_, rfl⟩
        have hbr : By row = (By t).take n := by rw [← hrow, by_extract, List.drop_zero, Nat.sub_zero]
        have hbs : By rest = (By t).drop n := by rw [← hrest, by_rest]
        have hss : rest.size ≤ 140737488351232 := by rw [← size_by, hbs, List.length_drop, size_by]; have := HTS.out; omega
        have hrs : row.size ≤ 140737488351232 := by rw [← size_by, hbr, List.length_take, size_by]; omega
        rw [hrow, hrest] at HDIG
        rw [← hbr] at HTD HT2
        rw [← hbs] at HT2
        have HWH : Aside0 (∀ W, Calls Tryd.prog 36 #[.string row] W fun e w' => e = .returned (.int .u64 ((wholeN (By row) : Nat) : Int)) ∧ Drawn0 W w') := ⟨fun W => whole_calls row hrs HTD.out W⟩
        have HSS := Aside0.mk hss
        clear hrow hrest hbr hbs hrs hss c2 d2 hn30 hnl
        by_cases c3 : By rest = []
        · have d3 : rest.toList = [] := by rw [ByteArray.toList_eq]; exact c3
          have d3' : (!rest.toList.isEmpty) = false := by rw [d3]; rfl
          have d3'' : (rest.toList == []) = true := by rw [d3]; rfl
          rw [c3] at HT2
          have hr2 : r = (numS true (vals (By row)) [], 0) := HT2.out.symm
          clear c3 HT2
          subst hr2
          have HFR : Aside0 (∀ W, Calls Tryd.prog 35 #[.string ⟨#[]⟩] W fun e w' => e = .returned (.tuple #[.int .u64 ((fracN [] : Nat) : Int), .bool (leftN [])]) ∧ Below W.heap.size W w') := ⟨fun W => frac_calls ⟨#[]⟩ W (by decide) [] rfl (fun x hx => by cases hx)⟩
          obtain ⟨wh, hwh⟩ : ∃ x, wholeN (By row) = x := ⟨_, rfl⟩
          rw [hwh] at HWH
          have HWV : Aside0 (wholeN (By row) = wh) := ⟨hwh⟩
          obtain ⟨fr, hfr⟩ : ∃ x, fracN [] = x := ⟨_, rfl⟩
          obtain ⟨lf, hlf⟩ : ∃ x, leftN [] = x := ⟨_, rfl⟩
          rw [hfr, hlf] at HFR
          have hfr4 : fr < 4294967296 := by rw [← hfr]; exact frac_lt (fun x hx => by cases hx)
          have HNE : Aside0 (numS true (vals (By row)) [] = cutS (vd (vals (By row)) * 4294967296 + fr) lf true) := ⟨by rw [numS_eq, hfr, hlf]⟩
          clear hwh hfr hlf
          by_cases c9 : 4294967296 ≤ wh
          · have d9 : decide ((4294967296 : Int) ≤ (wh : Int)) = true := decide_eq_true (by omega)
            have hv : numS true (vals (By row)) [] = cutZ 18446744073709551614 lf true := by
              have h1 : 4294967296 ≤ vd (vals (By row)) := by have := HWV.out; unfold wholeN at this; omega
              rw [HNE.out, cut_great _ _ _ (by omega)]
              unfold cutZ
              rw [cut_great _ _ _ (by decide)]
            have HV := Aside0.mk hv
            clear hv hfr4
            go_wp2_with (first | (go_at_call 34; (with_reducible refine (HDIG.out _).mono ?_); rintro e w' ⟨rfl, ⟨nd2, rfl⟩⟩) | (go_at_call 35; (with_reducible refine (HFR.out _).mono ?_); rintro e w3 ⟨rfl, hb3⟩; have HB3 := Aside0.mk hb3; clear hb3) | (go_at_call 36; (with_reducible refine (HWH.out _).mono ?_); rintro e w' ⟨rfl, ⟨nd4, rfl⟩⟩) | (go_at_call 28; (with_reducible refine (cut_quiet _ _ _ _ (by decide) (by decide)).mono ?_); rintro e w' ⟨rfl, ⟨nd5, rfl⟩⟩))
            simp only [Exit.jump]
            go_ret2
            exact ⟨by rw [HV.out]; rfl, by
              have hq : Below w.heap.size w (W1.drewN nd2) := pw_below_drewN HBW.out _
              have h5 := hq.trans (HB3.out.mono hq.size)
              repeat (first | exact h5 | apply pw_below_drewN)⟩
          · have d9 : decide ((4294967296 : Int) ≤ (wh : Int)) = false := decide_eq_false (by omega)
            have hor := or_32 fr wh hfr4 (by omega)
            have hv : numS true (vals (By row)) [] = cutZ ((wh * 4294967296 + fr : Nat) : Int) lf true := by
              have h1 : vd (vals (By row)) = wh := by have := HWV.out; unfold wholeN at this; omega
              rw [HNE.out, h1]
              rfl
            have hlt : 0 ≤ ((wh * 4294967296 + fr : Nat) : Int) ∧ ((wh * 4294967296 + fr : Nat) : Int) < 18446744073709551616 := by omega
            have HCU : Aside0 (∀ W, Calls Tryd.prog 28 #[.int .u64 (bits .or .u64 (fr : Int) (IntKind.u64.wrap ((wh : Int) * 4294967296))), .bool lf, .bool true] W fun e w' => e = .returned (.int .i64 (cutZ ((wh * 4294967296 + fr : Nat) : Int) lf true)) ∧ ∃ m, w' = W.drewN m) := ⟨fun W => by rw [hor]; exact cut_quiet _ _ _ _ hlt.1 hlt.2⟩
            have HV := Aside0.mk hv
            clear hv hor hlt hfr4 c9
            go_wp2_with (first | (go_at_call 34; (with_reducible refine (HDIG.out _).mono ?_); rintro e w' ⟨rfl, ⟨nd2, rfl⟩⟩) | (go_at_call 35; (with_reducible refine (HFR.out _).mono ?_); rintro e w3 ⟨rfl, hb3⟩; have HB3 := Aside0.mk hb3; clear hb3) | (go_at_call 36; (with_reducible refine (HWH.out _).mono ?_); rintro e w' ⟨rfl, ⟨nd4, rfl⟩⟩) | (go_at_call 28; (with_reducible refine (HCU.out _).mono ?_); rintro e w' ⟨rfl, ⟨nd5, rfl⟩⟩))
            simp only [Exit.jump]
            go_ret2
            exact ⟨by rw [HV.out]; rfl, by
              have hq : Below w.heap.size w (W1.drewN nd2) := pw_below_drewN HBW.out _
              have h5 := hq.trans (HB3.out.mono hq.size)
              repeat (first | exact h5 | apply pw_below_drewN)⟩
        · have d3 : (rest.toList == []) = false := by rw [ByteArray.toList_eq]; simpa using c3
          have d3' : (!rest.toList.isEmpty) = true := by rw [ByteArray.toList_eq]; cases hq : By rest with | nil => exact absurd hq c3 | cons a l => simp [hq]
          have d3n : rest.toList ≠ [] := by rw [ByteArray.toList_eq]; exact c3
          have hp : 0 < rest.size := by rw [← size_by]; exact List.length_pos_iff.mpr c3
          have hg := bytes_get rest 0 hp
          rw [List.drop_zero] at hg
          rw [show rest.data.toList = By rest from rfl] at hg
          rw [hg] at HT2
          have HGG := Aside0.mk hg
          clear hg c3
          by_cases c4 : rest[0] = 46
          · have d4 : ((rest[0].toNat : Int) == 46) = true := by rw [c4]; rfl
            have d4' : ((rest[0].toNat : Int) != 46) = false := by rw [c4]; rfl
            have HT3 : Aside0 ((if dlen ((By rest).drop 1) = 0 ∨ 30 < dlen ((By rest).drop 1) ∨ ((By rest).drop 1).length ≠ dlen ((By rest).drop 1) then ((0 : Int), (4 : Int)) else (numS true (vals (By row)) (vals ((By rest).drop 1)), 0)) = r) := ⟨by have := HT2.out; dsimp only at this; rw [if_pos c4] at this; exact this⟩
            clear c4 HT2
            obtain ⟨tt, htt⟩ : ∃ tt, rest.extract 1 rest.size = tt := ⟨_, rfl⟩
            have hbt : By tt = (By rest).drop 1 := by rw [← htt, by_rest]
            have hts : tt.size ≤ 140737488351232 := by rw [← size_by, hbt, List.length_drop, size_by]; have := HSS.out; omega
            rw [← hbt] at HT3
            have HTT := Aside0.mk htt
            obtain ⟨n2, hn2⟩ : ∃ n, dlen (By tt) = n := ⟨_, rfl⟩
            have HD2 : Aside0 (∀ W, Calls Tryd.prog 34 #[.string tt] W fun e w' => e = .returned (.tuple #[.string (tt.extract 0 n2), .string (tt.extract n2 tt.size), .bool (decide (0 < n2) && decide (n2 ≤ 30))]) ∧ Drawn0 W w') := ⟨by rw [← hn2]; exact fun W => digits_calls tt hts W⟩
            have HTD2 : Aside0 (∀ c ∈ (By tt).take n2, isD c = true) := ⟨by rw [← hn2]; exact take_dig _⟩
            rw [hn2] at HT3
            have hsz : (By tt).length = tt.size := size_by _
            have HD1 : Aside0 (∀ W, Calls Tryd.prog 34 #[.string (rest.extract 1 rest.size)] W fun e w' => e = .returned (.tuple #[.string (tt.extract 0 n2), .string (tt.extract n2 tt.size), .bool (decide (0 < n2) && decide (n2 ≤ 30))]) ∧ Drawn0 W w') := ⟨by rw [htt]; exact HD2.out⟩
            have hp1 : (1 : Int) ≤ (rest.size : Int) := by omega
            have hn2l : n2 ≤ tt.size := by rw [← hn2, ← size_by]; exact dlen_le _
            clear hn2 hbt hts htt
            by_cases c5 : n2 = 0 ∨ 30 < n2
            · have d5 : (decide (0 < n2) && decide (n2 ≤ 30)) = false := by rw [Bool.eq_false_iff]; intro z; rw [Bool.and_eq_true, decide_eq_true_eq, decide_eq_true_eq] at z; omega
              rw [d5] at HD1
              have hr2 : r = (0, 4) := by rw [← HT3.out, if_pos (by omega)]
              subst hr2
              clear c5 d5 hsz hn2l
              go_wp2_with (first | (go_at_call 34; (with_reducible refine (HDIG.out _).mono ?_); rintro e w' ⟨rfl, ⟨nd2, rfl⟩⟩) | (go_at_call 34; (with_reducible refine (HD1.out _).mono ?_); rintro e w' ⟨rfl, ⟨nd3, rfl⟩⟩))
              go_step3
              exact ⟨rfl, rfl, by first | exact pw_below_drewN HBW.out _ | exact pw_below_drewN (pw_below_drewN HBW.out _) _, _, _, _, _, _, _, _, _, _, _, _, _, _, _, _, _, _, _, _, _, _, _, _, _, _, _, _, _, _, _, _, _, _, _, _, _, _, _, _, _, _, _, _, _, _, _, _, _, _, _, _, _, _, _, _, _, _, _, _, _, _, _, _, _, _, _, _, _, _, rfl⟩
            · have d5 : (decide (0 < n2) && decide (n2 ≤ 30)) = true := by rw [Bool.and_eq_true, decide_eq_true_eq, decide_eq_true_eq]; omega
              rw [d5] at HD1
              obtain ⟨more, hmore⟩ : ∃ more, tt.extract 0 n2 = more := ⟨_, rfl⟩
              obtain ⟨lst, hlst⟩ : ∃ lst, tt.extract n2 tt.size = lst := ⟨_, rfl⟩
              have hbm : By more = (By tt).take n2 := by rw [← hmore, by_extract, List.drop_zero, Nat.sub_zero]
              have hbl : By lst = (By tt).drop n2 := by rw [← hlst, by_rest]
              rw [hmore, hlst] at HD1
              by_cases c6 : tt.size = n2
              · have hl0 : By lst = [] := by rw [hbl]; exact List.drop_of_length_le (by rw [hsz]; omega)
                have d6 : lst.toList = [] := by rw [ByteArray.toList_eq]; exact hl0
                have d6' : (!lst.toList.isEmpty) = false := by rw [d6]; rfl
                have d6'' : (lst.toList == []) = true := by rw [d6]; rfl
                have hmt : By more = By tt := by rw [hbm]; exact List.take_of_length_le (by rw [hsz]; omega)
                rw [← hbm, hmt] at HTD2
                have hr2 : r = (numS true (vals (By row)) (vals (By tt)), 0) := by rw [← HT3.out, if_neg (by omega)]
                have hms : more.size ≤ 1000 := by rw [← size_by, hmt, hsz]; omega
                subst hr2
                have HFR : Aside0 (∀ W, Calls Tryd.prog 35 #[.string more] W fun e w' => e = .returned (.tuple #[.int .u64 ((fracN (vals (By tt)) : Nat) : Int), .bool (leftN (vals (By tt)))]) ∧ Below W.heap.size W w') := ⟨by
                  have hq : ∀ c ∈ By more, isD c = true := by rw [hmt]; exact HTD2.out
                  have hq2 := vals_back hq
                  rw [show vals (By more) = vals (By tt) by rw [hmt]] at hq2
                  exact fun W => frac_calls more W hms (vals (By tt)) hq2 (vals_dgt HTD2.out)⟩
                have HDG2 : Aside0 (dgt (vals (By tt))) := ⟨vals_dgt HTD2.out⟩
                clear hmore hlst hbm hbl c5 d5 c6 hl0 hmt hms HT3 hsz hn2l
                obtain ⟨wh, hwh⟩ : ∃ x, wholeN (By row) = x := ⟨_, rfl⟩
                rw [hwh] at HWH
                have HWV : Aside0 (wholeN (By row) = wh) := ⟨hwh⟩
                obtain ⟨fr, hfr⟩ : ∃ x, fracN (vals (By tt)) = x := ⟨_, rfl⟩
                obtain ⟨lf, hlf⟩ : ∃ x, leftN (vals (By tt)) = x := ⟨_, rfl⟩
                rw [hfr, hlf] at HFR
                have hfr4 : fr < 4294967296 := by rw [← hfr]; exact frac_lt HDG2.out
                have HNE : Aside0 (numS true (vals (By row)) (vals (By tt)) = cutS (vd (vals (By row)) * 4294967296 + fr) lf true) := ⟨by rw [numS_eq, hfr, hlf]⟩
                clear hwh hfr hlf
                by_cases c9 : 4294967296 ≤ wh
                · have d9 : decide ((4294967296 : Int) ≤ (wh : Int)) = true := decide_eq_true (by omega)
                  have hv : numS true (vals (By row)) (vals (By tt)) = cutZ 18446744073709551614 lf true := by
                    have h1 : 4294967296 ≤ vd (vals (By row)) := by have := HWV.out; unfold wholeN at this; omega
                    rw [HNE.out, cut_great _ _ _ (by omega)]
                    unfold cutZ
                    rw [cut_great _ _ _ (by decide)]
                  have HV := Aside0.mk hv
                  clear hv hfr4
                  go_wp2_with (first | (go_at_call 34; (with_reducible refine (HDIG.out _).mono ?_); rintro e w' ⟨rfl, ⟨nd2, rfl⟩⟩) | (go_at_call 34; (with_reducible refine (HD1.out _).mono ?_); rintro e w' ⟨rfl, ⟨nd3, rfl⟩⟩) | (go_at_call 35; (with_reducible refine (HFR.out _).mono ?_); rintro e w3 ⟨rfl, hb3⟩; have HB3 := Aside0.mk hb3; clear hb3) | (go_at_call 36; (with_reducible refine (HWH.out _).mono ?_); rintro e w' ⟨rfl, ⟨nd4, rfl⟩⟩) | (go_at_call 28; (with_reducible refine (cut_quiet _ _ _ _ (by decide) (by decide)).mono ?_); rintro e w' ⟨rfl, ⟨nd5, rfl⟩⟩))
                  simp only [Exit.jump]
                  go_ret2
                  exact ⟨by rw [HV.out]; rfl, by
                    have hq : Below w.heap.size w (W1.drewN (nd2 + nd3)) := pw_below_drewN HBW.out _
                    have h5 := hq.trans (HB3.out.mono hq.size)
                    repeat (first | exact h5 | apply pw_below_drewN)⟩
                · have d9 : decide ((4294967296 : Int) ≤ (wh : Int)) = false := decide_eq_false (by omega)
                  have hor := or_32 fr wh hfr4 (by omega)
                  have hv : numS true (vals (By row)) (vals (By tt)) = cutZ ((wh * 4294967296 + fr : Nat) : Int) lf true := by
                    have h1 : vd (vals (By row)) = wh := by have := HWV.out; unfold wholeN at this; omega
                    rw [HNE.out, h1]
                    rfl
                  have hlt : 0 ≤ ((wh * 4294967296 + fr : Nat) : Int) ∧ ((wh * 4294967296 + fr : Nat) : Int) < 18446744073709551616 := by omega
                  have HCU : Aside0 (∀ W, Calls Tryd.prog 28 #[.int .u64 (bits .or .u64 (fr : Int) (IntKind.u64.wrap ((wh : Int) * 4294967296))), .bool lf, .bool true] W fun e w' => e = .returned (.int .i64 (cutZ ((wh * 4294967296 + fr : Nat) : Int) lf true)) ∧ ∃ m, w' = W.drewN m) := ⟨fun W => by rw [hor]; exact cut_quiet _ _ _ _ hlt.1 hlt.2⟩
                  have HV := Aside0.mk hv
                  clear hv hor hlt hfr4 c9
                  go_wp2_with (first | (go_at_call 34; (with_reducible refine (HDIG.out _).mono ?_); rintro e w' ⟨rfl, ⟨nd2, rfl⟩⟩) | (go_at_call 34; (with_reducible refine (HD1.out _).mono ?_); rintro e w' ⟨rfl, ⟨nd3, rfl⟩⟩) | (go_at_call 35; (with_reducible refine (HFR.out _).mono ?_); rintro e w3 ⟨rfl, hb3⟩; have HB3 := Aside0.mk hb3; clear hb3) | (go_at_call 36; (with_reducible refine (HWH.out _).mono ?_); rintro e w' ⟨rfl, ⟨nd4, rfl⟩⟩) | (go_at_call 28; (with_reducible refine (HCU.out _).mono ?_); rintro e w' ⟨rfl, ⟨nd5, rfl⟩⟩))
                  simp only [Exit.jump]
                  go_ret2
                  exact ⟨by rw [HV.out]; rfl, by
                    have hq : Below w.heap.size w (W1.drewN (nd2 + nd3)) := pw_below_drewN HBW.out _
                    have h5 := hq.trans (HB3.out.mono hq.size)
                    repeat (first | exact h5 | apply pw_below_drewN)⟩
              · have hl0 : By lst ≠ [] := by rw [hbl]; intro z; have := congrArg List.length z; rw [List.length_drop, hsz] at this; simp at this; omega
                have d6 : (lst.toList == []) = false := by rw [ByteArray.toList_eq]; simpa using hl0
                have d6' : (!lst.toList.isEmpty) = true := by rw [ByteArray.toList_eq]; cases hq : By lst with | nil => exact absurd hq hl0 | cons a l => simp [hq]
                have d6n : lst.toList ≠ [] := by rw [ByteArray.toList_eq]; exact hl0
                have hr2 : r = (0, 4) := by rw [← HT3.out, if_pos (by omega)]
                subst hr2
                clear hmore hlst hbm hbl c5 d5 c6 hl0 hsz hn2l
                go_wp2_with (first | (go_at_call 34; (with_reducible refine (HDIG.out _).mono ?_); rintro e w' ⟨rfl, ⟨nd2, rfl⟩⟩) | (go_at_call 34; (with_reducible refine (HD1.out _).mono ?_); rintro e w' ⟨rfl, ⟨nd3, rfl⟩⟩))
                go_step3
                exact ⟨rfl, rfl, by first | exact pw_below_drewN HBW.out _ | exact pw_below_drewN (pw_below_drewN HBW.out _) _, _, _, _, _, _, _, _, _, _, _, _, _, _, _, _, _, _, _, _, _, _, _, _, _, _, _, _, _, _, _, _, _, _, _, _, _, _, _, _, _, _, _, _, _, _, _, _, _, _, _, _, _, _, _, _, _, _, _, _, _, _, _, _, _, _, _, _, _, _, rfl⟩
          · have d4 : ((rest[0].toNat : Int) == 46) = false := by rw [beq_eq_false_iff_ne]; intro z; exact c4 (UInt8.toNat_inj.mp (by simpa using (Int.ofNat.inj z)))
            have d4' : ((rest[0].toNat : Int) != 46) = true := by rw [bne_iff_ne]; intro z; exact c4 (UInt8.toNat_inj.mp (by simpa using (Int.ofNat.inj z)))
            have hr2 : r = (0, 4) := by have := HT2.out; dsimp only at this; rw [if_neg c4] at this; exact this.symm
            subst hr2
            clear c4
            go_wp2_with (go_at_call 34; (with_reducible refine (HDIG.out _).mono ?_); rintro e w' ⟨rfl, ⟨nd2, rfl⟩⟩)
            go_step3
            exact ⟨rfl, rfl, pw_below_drewN HBW.out _, _, _, _, _, _, _, _, _, _, _, _, _, _, _, _, _, _, _, _, _, _, _, _, _, _, _, _, _, _, _, _, _, _, _, _, _, _, _, _, _, _, _, _, _, _, _, _, _, _, _, _, _, _, _, _, _, _, _, _, _, _, _, _, _, _, _, _, _, _, rfl⟩
  · rintro a' w' ⟨hr, hd, u0, u1, u2, u3, u4, u5, u6, u7, u8, u9, u10, u11, u12, u13, u14, u15, u16, u17, u18, u19, u20, u21, u22, u23, u24, u25, u26, u27, u28, u29, u30, u31, u32, u33, u34, u35, u36, u37, u38, u39, u40, u41, u42, u43, u44, u45, u46, u47, u48, u49, u50, u51, u52, u53, u54, u55, u56, u57, u58, u59, u60, u61, u62, u63, u64, u65, u66, u67, u68, rfl⟩
    subst hr
    go_wp2
    simp only [Exit.jump]
    go_ret2
    exact ⟨rfl, hd⟩
end Go.Proofs.YtlifbogjjikhdaaDoor.Fl
end
section
namespace Go.Proofs.YtlifbogjjikhdaaDoor.Fl
open Go.RowKit Go.Proofs.YtlifbogjjikhdaaDoorW.PrintWords Go.Proofs.YtlifbogjjikhdaaDoorW.PrintLast Go.Proofs.YtlifbogjjikhdaaDoorW.PrintMore
set_option linter.unusedVariables false
open Go.Proofs.YtlifbogjjikhdaaDoor.FL
set_option maxHeartbeats 8000000 in
set_option maxRecDepth 100000 in
theorem parse_plus (s : ByteArray) (w : World) (hs : s.size ≤ 140737488351232) (h0 : By s ≠ [110, 97, 110]) (hn : headIs 45 (By s) = false) (hn2 : headIs 43 (By s) = true) (r : Int × Int) (t : ByteArray) (ht : s.extract 1 s.size = t) (hts : t.size ≤ 140737488351232) (hT : parseT false (By t) = r) : Calls Tryd.prog 19 #[.string s] w fun e w' => e = .returned (.tuple #[.int .i64 r.1, .int .i64 r.2]) ∧ Below w.heap.size w w' := by
  have d0 : (s.toList == [110, 97, 110]) = false := by rw [ByteArray.toList_eq]; simpa using h0
  have HS := Aside0.mk hs
  have HTS := Aside0.mk hts
  have HT := Aside0.mk hT
  have HN := Aside0.mk hn
  have HN2 := Aside0.mk hn2
  have hp0 : (1 : Int) ≤ (s.size : Int) := by
    have h1 : By s ≠ [] := by intro z; rw [z] at hn2; exact absurd hn2 (by decide)
    have h2 := List.length_pos_iff.mpr h1
    rw [size_by] at h2
    omega
  clear hn hn2
  clear h0 hs hts hT
  go_enter Tryd.func19, Tryd.ntmps19
  go_wp2
  refine wp_scope_jumps 0 (fun a' w' => r = ((0 : Int), (4 : Int)) ∧ Below w.heap.size w w' ∧ ∃ (u0 u1 u2 u3 u4 u5 u6 u7 u8 u9 u10 u11 u12 u13 u14 u15 u16 u17 u18 u19 u20 u21 u22 u23 u24 u25 u26 u27 u28 u29 u30 u31 u32 u33 u34 u35 u36 u37 u38 u39 u40 u41 u42 u43 u44 u45 u46 u47 u48 u49 u50 u51 u52 u53 u54 u55 u56 u57 u58 u59 u60 u61 u62 u63 u64 u65 u66 u67 u68 : Value), a' = { tmps := #[u0, u1, u2, u3, u4, u5, u6, u7, u8, u9, u10, u11, u12, u13, u14, u15, u16, u17, u18, u19, u20, u21, u22, u23, u24, u25, u26, u27, u28, u29, u30, u31, u32, u33, u34, u35, u36, u37, u38, u39, u40, u41, u42, u43, u44, u45, u46, u47, u48, u49, u50, u51, u52, u53, u54, u55, u56, u57, u58, u59, u60, u61, u62, u63, u64, u65, u66, u67, u68], defers := [] }) (fun _ _ => 0) rfl ?_ ?_
  · go_upto_region 9 with (first | (go_at_call 33; (with_reducible refine (hp_calls 45 _ HS.out _).mono ?_); rw [HN.out]; rintro e w' ⟨rfl, ⟨nd, rfl⟩⟩) | (go_at_call 33; (with_reducible refine (hp_calls 43 _ HS.out _).mono ?_); rw [HN2.out]; rintro e w' ⟨rfl, ⟨ndb, rfl⟩⟩))
    try rw [ht]
    clear ht
    obtain ⟨W1, hW1⟩ : ∃ W1, w.drewN (nd + ndb) = W1 := ⟨_, rfl⟩
    rw [hW1]
    have HBW : Aside0 (Below w.heap.size w W1) := ⟨by rw [← hW1]; exact pw_below_drewN (Below.refl _ _) _⟩
    clear hW1
    by_cases c1 : By t = [105, 110, 102]
    · have d1 : (t.toList == [105, 110, 102]) = true := by rw [ByteArray.toList_eq]; exact beq_iff_eq.mpr c1
      have hr2 : r = (if false = true then -9223372036854775808 else 9223372036854775807, 0) := by rw [← HT.out]; unfold parseT; rw [if_pos c1]
      have hcz : (if false = true then -9223372036854775808 else 9223372036854775807 : Int) = cutZ 18446744073709551614 false false := by decide +kernel
      rw [hcz] at hr2
      subst hr2
      clear hcz c1
      go_wp2_with (go_at_call 28; (with_reducible refine (cut_quiet _ _ _ _ (by decide) (by decide)).mono ?_); rintro e w' ⟨rfl, ⟨nd2, rfl⟩⟩)
      simp only [Exit.jump]
      go_ret2
      exact ⟨rfl, pw_below_drewN HBW.out _⟩
    · have d1 : (t.toList == [105, 110, 102]) = false := by rw [ByteArray.toList_eq]; simpa using c1
      have HT2 : Aside0 ((if dlen (By t) = 0 ∨ 30 < dlen (By t) then ((0 : Int), (4 : Int))
      else match (By t).drop (dlen (By t)) with
        | [] => (numS false (vals ((By t).take (dlen (By t)))) [], 0)
        | c :: m => if c = 46 then (if dlen m = 0 ∨ 30 < dlen m ∨ m.length ≠ dlen m then ((0 : Int), (4 : Int)) else (numS false (vals ((By t).take (dlen (By t)))) (vals m), 0)) else ((0 : Int), (4 : Int))) = r) := ⟨by have := HT.out; unfold parseT at this; rwa [if_neg c1] at this⟩
      clear c1 HT
      obtain ⟨n, hn⟩ : ∃ n, dlen (By t) = n := ⟨_, rfl⟩
      have hnl : n ≤ t.size := by rw [← hn, ← size_by]; exact dlen_le _
      have HDIG : Aside0 (∀ W, Calls Tryd.prog 34 #[.string t] W fun e w' => e = .returned (.tuple #[.string (t.extract 0 n), .string (t.extract n t.size), .bool (decide (0 < n) && decide (n ≤ 30))]) ∧ Drawn0 W w') := ⟨by rw [← hn]; exact fun W => digits_calls t HTS.out W⟩
      have HTD : Aside0 (∀ c ∈ (By t).take n, isD c = true) := ⟨by rw [← hn]; exact take_dig _⟩
      rw [hn] at HT2
      clear hn
      by_cases c2 : n = 0 ∨ 30 < n
      · have d2 : (decide (0 < n) && decide (n ≤ 30)) = false := by rw [Bool.eq_false_iff]; intro z; rw [Bool.and_eq_true, decide_eq_true_eq, decide_eq_true_eq] at z; omega
        rw [d2] at HDIG
        have hr2 : r = (0, 4) := by rw [← HT2.out, if_pos c2]
        subst hr2
        clear c2 d2
        go_wp2_with (go_at_call 34; (with_reducible refine (HDIG.out _).mono ?_); rintro e w' ⟨rfl, ⟨nd2, rfl⟩⟩)
        go_step3
        exact ⟨rfl, rfl, pw_below_drewN HBW.out _, _, _, _, _, _, _, _, _, _, _, _, _, _, _, _, _, _, _, _, _, _, _, _, _, _, _, _, _, _, _, _, _, _, _, _, _, _, _, _, _, _, _, _, _, _, _, _, _, _, _, _, _, _, _, _, _, _, _, _, _, _, _, _, _, _, _, _, _, _, rfl⟩
      · have d2 : (decide (0 < n) && decide (n ≤ 30)) = true := by rw [Bool.and_eq_true, decide_eq_true_eq, decide_eq_true_eq]; omega
        rw [d2] at HDIG
        rw [if_neg c2] at HT2
        have hn30 : n ≤ 30 := by omega
        obtain ⟨row, hrow⟩ : ∃ row, t.extract 0 n = row := ⟨_, rfl⟩
        obtain ⟨rest, hrest⟩ : ∃ rest, t.extract n t.size = rest := ⟨_, rfl⟩
        have hbr : By row = (By t).take n := by rw [← hrow, by_extract, List.drop_zero, Nat.sub_zero]
        have hbs : By rest = (By t).drop n := by rw [← hrest, by_rest]
        have hss : rest.size ≤ 140737488351232 := by rw [← size_by, hbs, List.length_drop, size_by]; have := HTS.out; omega
        have hrs : row.size ≤ 140737488351232 := by rw [← size_by, hbr, List.length_take, size_by]; omega
        rw [hrow, hrest] at HDIG
        rw [← hbr] at HTD HT2
        rw [← hbs] at HT2
        have HWH : Aside0 (∀ W, Calls Tryd.prog 36 #[.string row] W fun e w' => e = .returned (.int .u64 ((wholeN (By row) : Nat) : Int)) ∧ Drawn0 W w') := ⟨fun W => whole_calls row hrs HTD.out W⟩
        have HSS := Aside0.mk hss
        clear hrow hrest hbr hbs hrs hss c2 d2 hn30 hnl
        by_cases c3 : By rest = []
        · have d3 : rest.toList = [] := by rw [ByteArray.toList_eq]; exact c3
          have d3' : (!rest.toList.isEmpty) = false := by rw [d3]; rfl
          have d3'' : (rest.toList == []) = true := by rw [d3]; rfl
          rw [c3] at HT2
          have hr2 : r = (numS false (vals (By row)) [], 0) := HT2.out.symm
          clear c3 HT2
          subst hr2
          have HFR : Aside0 (∀ W, Calls Tryd.prog 35 #[.string ⟨#[]⟩] W fun e w' => e = .returned (.tuple #[.int .u64 ((fracN [] : Nat) : Int), .bool (leftN [])]) ∧ Below W.heap.size W w') := ⟨fun W => frac_calls ⟨#[]⟩ W (by decide) [] rfl (fun x hx => by cases hx)⟩
          obtain ⟨wh, hwh⟩ : ∃ x, wholeN (By row) = x := ⟨_, rfl⟩
          rw [hwh] at HWH
          have HWV : Aside0 (wholeN (By row) = wh) := ⟨hwh⟩
          obtain ⟨fr, hfr⟩ : ∃ x, fracN [] = x := ⟨_, rfl⟩
          obtain ⟨lf, hlf⟩ : ∃ x, leftN [] = x := ⟨_, rfl⟩
          rw [hfr, hlf] at HFR
          have hfr4 : fr < 4294967296 := by rw [← hfr]; exact frac_lt (fun x hx => by cases hx)
          have HNE : Aside0 (numS false (vals (By row)) [] = cutS (vd (vals (By row)) * 4294967296 + fr) lf false) := ⟨by rw [numS_eq, hfr, hlf]⟩
          clear hwh hfr hlf
          by_cases c9 : 4294967296 ≤ wh
          · have d9 : decide ((4294967296 : Int) ≤ (wh : Int)) = true := decide_eq_true (by omega)
            have hv : numS false (vals (By row)) [] = cutZ 18446744073709551614 lf false := by
              have h1 : 4294967296 ≤ vd (vals (By row)) := by have := HWV.out; unfold wholeN at this; omega
              rw [HNE.out, cut_great _ _ _ (by omega)]
              unfold cutZ
              rw [cut_great _ _ _ (by decide)]
            have HV := Aside0.mk hv
            clear hv hfr4
            go_wp2_with (first | (go_at_call 34; (with_reducible refine (HDIG.out _).mono ?_); rintro e w' ⟨rfl, ⟨nd2, rfl⟩⟩) | (go_at_call 35; (with_reducible refine (HFR.out _).mono ?_); rintro e w3 ⟨rfl, hb3⟩; have HB3 := Aside0.mk hb3; clear hb3) | (go_at_call 36; (with_reducible refine (HWH.out _).mono ?_); rintro e w' ⟨rfl, ⟨nd4, rfl⟩⟩) | (go_at_call 28; (with_reducible refine (cut_quiet _ _ _ _ (by decide) (by decide)).mono ?_); rintro e w' ⟨rfl, ⟨nd5, rfl⟩⟩))
            simp only [Exit.jump]
            go_ret2
            exact ⟨by rw [HV.out]; rfl, by
              have hq : Below w.heap.size w (W1.drewN nd2) := pw_below_drewN HBW.out _
              have h5 := hq.trans (HB3.out.mono hq.size)
              repeat (first | exact h5 | apply pw_below_drewN)⟩
          · have d9 : decide ((4294967296 : Int) ≤ (wh : Int)) = false := decide_eq_false (by omega)
            have hor := or_32 fr wh hfr4 (by omega)
            have hv : numS false (vals (By row)) [] = cutZ ((wh * 4294967296 + fr : Nat) : Int) lf false := by
              have h1 : vd (vals (By row)) = wh := by have := HWV.out; unfold wholeN at this; omega
              rw [HNE.out, h1]
              rfl
            have hlt : 0 ≤ ((wh * 4294967296 + fr : Nat) : Int) ∧ ((wh * 4294967296 + fr : Nat) : Int) < 18446744073709551616 := by omega
            have HCU : Aside0 (∀ W, Calls Tryd.prog 28 #[.int .u64 (bits .or .u64 (fr : Int) (IntKind.u64.wrap ((wh : Int) * 4294967296))), .bool lf, .bool false] W fun e w' => e = .returned (.int .i64 (cutZ ((wh * 4294967296 + fr : Nat) : Int) lf false)) ∧ ∃ m, w' = W.drewN m) := ⟨fun W => by rw [hor]; exact cut_quiet _ _ _ _ hlt.1 hlt.2⟩
            have HV := Aside0.mk hv
            clear hv hor hlt hfr4 c9
            go_wp2_with (first | (go_at_call 34; (with_reducible refine (HDIG.out _).mono ?_); rintro e w' ⟨rfl, ⟨nd2, rfl⟩⟩) | (go_at_call 35; (with_reducible refine (HFR.out _).mono ?_); rintro e w3 ⟨rfl, hb3⟩; have HB3 := Aside0.mk hb3; clear hb3) | (go_at_call 36; (with_reducible refine (HWH.out _).mono ?_); rintro e w' ⟨rfl, ⟨nd4, rfl⟩⟩) | (go_at_call 28; (with_reducible refine (HCU.out _).mono ?_); rintro e w' ⟨rfl, ⟨nd5, rfl⟩⟩))
            simp only [Exit.jump]
            go_ret2
            exact ⟨by rw [HV.out]; rfl, by
              have hq : Below w.heap.size w (W1.drewN nd2) := pw_below_drewN HBW.out _
              have h5 := hq.trans (HB3.out.mono hq.size)
              repeat (first | exact h5 | apply pw_below_drewN)⟩
        · have d3 : (rest.toList == []) = false := by rw [ByteArray.toList_eq]; simpa using c3
          have d3' : (!rest.toList.isEmpty) = true := by rw [ByteArray.toList_eq]; cases hq : By rest with | nil => exact absurd hq c3 | cons a l => simp [hq]
          have d3n : rest.toList ≠ [] := by rw [ByteArray.toList_eq]; exact c3
          have hp : 0 < rest.size := by rw [← size_by]; exact List.length_pos_iff.mpr c3
          have hg := bytes_get rest 0 hp
          rw [List.drop_zero] at hg
          rw [show rest.data.toList = By rest from rfl] at hg
          rw [hg] at HT2
          have HGG := Aside0.mk hg
          clear hg c3
          by_cases c4 : rest[0] = 46
          · have d4 : ((rest[0].toNat : Int) == 46) = true := by rw [c4]; rfl
            have d4' : ((rest[0].toNat : Int) != 46) = false := by rw [c4]; rfl
            have HT3 : Aside0 ((if dlen ((By rest).drop 1) = 0 ∨ 30 < dlen ((By rest).drop 1) ∨ ((By rest).drop 1).length ≠ dlen ((By rest).drop 1) then ((0 : Int), (4 : Int)) else (numS false (vals (By row)) (vals ((By rest).drop 1)), 0)) = r) := ⟨by have := HT2.out; dsimp only at this; rw [if_pos c4] at this; exact this⟩
            clear c4 HT2
            obtain ⟨tt, htt⟩ : ∃ tt, rest.extract 1 rest.size = tt := ⟨_, rfl⟩
            have hbt : By tt = (By rest).drop 1 := by rw [← htt, by_rest]
            have hts : tt.size ≤ 140737488351232 := by rw [← size_by, hbt, List.length_drop, size_by]; have := HSS.out; omega
            rw [← hbt] at HT3
            have HTT := Aside0.mk htt
            obtain ⟨n2, hn2⟩ : ∃ n, dlen (By tt) = n := ⟨_, rfl⟩
            have HD2 : Aside0 (∀ W, Calls Tryd.prog 34 #[.string tt] W fun e w' => e = .returned (.tuple #[.string (tt.extract 0 n2), .string (tt.extract n2 tt.size), .bool (decide (0 < n2) && decide (n2 ≤ 30))]) ∧ Drawn0 W w') := ⟨by rw [← hn2]; exact fun W => digits_calls tt hts W⟩
            have HTD2 : Aside0 (∀ c ∈ (By tt).take n2, isD c = true) := ⟨by rw [← hn2]; exact take_dig _⟩
            rw [hn2] at HT3
            have hsz : (By tt).length = tt.size := size_by _
            have HD1 : Aside0 (∀ W, Calls Tryd.prog 34 #[.string (rest.extract 1 rest.size)] W fun e w' => e = .returned (.tuple #[.string (tt.extract 0 n2), .string (tt.extract n2 tt.size), .bool (decide (0 < n2) && decide (n2 ≤ 30))]) ∧ Drawn0 W w') := ⟨by rw [htt]; exact HD2.out⟩
            have hp1 : (1 : Int) ≤ (rest.size : Int) := by omega
            have hn2l : n2 ≤ tt.size := by rw [← hn2, ← size_by]; exact dlen_le _
            clear hn2 hbt hts htt
            by_cases c5 : n2 = 0 ∨ 30 < n2
            · have d5 : (decide (0 < n2) && decide (n2 ≤ 30)) = false := by rw [Bool.eq_false_iff]; intro z; rw [Bool.and_eq_true, decide_eq_true_eq, decide_eq_true_eq] at z; omega
              rw [d5] at HD1
              have hr2 : r = (0, 4) := by rw [← HT3.out, if_pos (by omega)]
              subst hr2
              clear c5 d5 hsz hn2l
              go_wp2_with (first | (go_at_call 34; (with_reducible refine (HDIG.out _).mono ?_); rintro e w' ⟨rfl, ⟨nd2, rfl⟩⟩) | (go_at_call 34; (with_reducible refine (HD1.out _).mono ?_); rintro e w' ⟨rfl, ⟨nd3, rfl⟩⟩))
              go_step3
              exact ⟨rfl, rfl, by first | exact pw_below_drewN HBW.out _ | exact pw_below_drewN (pw_below_drewN HBW.out _) _, _, _, _, _, _, _, _, _, _, _, _, _, _, _, _, _, _, _, _, _, _, _, _, _, _, _, _, _, _, _, _, _, _, _, _, _, _, _, _, _, _, _, _, _, _, _, _, _, _, _, _, _, _, _, _, _, _, _, _, _, _, _, _, _, _, _, _, _, _, rfl⟩
            · have d5 : (decide (0 < n2) && decide (n2 ≤ 30)) = true := by rw [Bool.and_eq_true, decide_eq_true_eq, decide_eq_true_eq]; omega
              rw [d5] at HD1
              obtain ⟨more, hmore⟩ : ∃ more, tt.extract 0 n2 = more := ⟨_, rfl⟩
              obtain ⟨lst, hlst⟩ : ∃ lst, tt.extract n2 tt.size = lst := ⟨_, rfl⟩
              have hbm : By more = (By tt).take n2 := by rw [← hmore, by_extract, List.drop_zero, Nat.sub_zero]
              have hbl : By lst = (By tt).drop n2 := by rw [← hlst, by_rest]
              rw [hmore, hlst] at HD1
              by_cases c6 : tt.size = n2
              · have hl0 : By lst = [] := by rw [hbl]; exact List.drop_of_length_le (by rw [hsz]; omega)
                have d6 : lst.toList = [] := by rw [ByteArray.toList_eq]; exact hl0
                have d6' : (!lst.toList.isEmpty) = false := by rw [d6]; rfl
                have d6'' : (lst.toList == []) = true := by rw [d6]; rfl
                have hmt : By more = By tt := by rw [hbm]; exact List.take_of_length_le (by rw [hsz]; omega)
                rw [← hbm, hmt] at HTD2
                have hr2 : r = (numS false (vals (By row)) (vals (By tt)), 0) := by rw [← HT3.out, if_neg (by omega)]
                have hms : more.size ≤ 1000 := by rw [← size_by, hmt, hsz]; omega
                subst hr2
                have HFR : Aside0 (∀ W, Calls Tryd.prog 35 #[.string more] W fun e w' => e = .returned (.tuple #[.int .u64 ((fracN (vals (By tt)) : Nat) : Int), .bool (leftN (vals (By tt)))]) ∧ Below W.heap.size W w') := ⟨by
                  have hq : ∀ c ∈ By more, isD c = true := by rw [hmt]; exact HTD2.out
                  have hq2 := vals_back hq
                  rw [show vals (By more) = vals (By tt) by rw [hmt]] at hq2
                  exact fun W => frac_calls more W hms (vals (By tt)) hq2 (vals_dgt HTD2.out)⟩
                have HDG2 : Aside0 (dgt (vals (By tt))) := ⟨vals_dgt HTD2.out⟩
                clear hmore hlst hbm hbl c5 d5 c6 hl0 hmt hms HT3 hsz hn2l
                obtain ⟨wh, hwh⟩ : ∃ x, wholeN (By row) = x := ⟨_, rfl⟩
                rw [hwh] at HWH
                have HWV : Aside0 (wholeN (By row) = wh) := ⟨hwh⟩
                obtain ⟨fr, hfr⟩ : ∃ x, fracN (vals (By tt)) = x := ⟨_, rfl⟩
                obtain ⟨lf, hlf⟩ : ∃ x, leftN (vals (By tt)) = x := ⟨_, rfl⟩
                rw [hfr, hlf] at HFR
                have hfr4 : fr < 4294967296 := by rw [← hfr]; exact frac_lt HDG2.out
                have HNE : Aside0 (numS false (vals (By row)) (vals (By tt)) = cutS (vd (vals (By row)) * 4294967296 + fr) lf false) := ⟨by rw [numS_eq, hfr, hlf]⟩
                clear hwh hfr hlf
                by_cases c9 : 4294967296 ≤ wh
                · have d9 : decide ((4294967296 : Int) ≤ (wh : Int)) = true := decide_eq_true (by omega)
                  have hv : numS false (vals (By row)) (vals (By tt)) = cutZ 18446744073709551614 lf false := by
                    have h1 : 4294967296 ≤ vd (vals (By row)) := by have := HWV.out; unfold wholeN at this; omega
                    rw [HNE.out, cut_great _ _ _ (by omega)]
                    unfold cutZ
                    rw [cut_great _ _ _ (by decide)]
                  have HV := Aside0.mk hv
                  clear hv hfr4
                  go_wp2_with (first | (go_at_call 34; (with_reducible refine (HDIG.out _).mono ?_); rintro e w' ⟨rfl, ⟨nd2, rfl⟩⟩) | (go_at_call 34; (with_reducible refine (HD1.out _).mono ?_); rintro e w' ⟨rfl, ⟨nd3, rfl⟩⟩) | (go_at_call 35; (with_reducible refine (HFR.out _).mono ?_); rintro e w3 ⟨rfl, hb3⟩; have HB3 := Aside0.mk hb3; clear hb3) | (go_at_call 36; (with_reducible refine (HWH.out _).mono ?_); rintro e w' ⟨rfl, ⟨nd4, rfl⟩⟩) | (go_at_call 28; (with_reducible refine (cut_quiet _ _ _ _ (by decide) (by decide)).mono ?_); rintro e w' ⟨rfl, ⟨nd5, rfl⟩⟩))
                  simp only [Exit.jump]
                  go_ret2
                  exact ⟨by rw [HV.out]; rfl, by
                    have hq : Below w.heap.size w (W1.drewN (nd2 + nd3)) := pw_below_drewN HBW.out _
                    have h5 := hq.trans (HB3.out.mono hq.size)
                    repeat (first | exact h5 | apply pw_below_drewN)⟩
                · have d9 : decide ((4294967296 : Int) ≤ (wh : Int)) = false := decide_eq_false (by omega)
                  have hor := or_32 fr wh hfr4 (by omega)
                  have hv : numS false (vals (By row)) (vals (By tt)) = cutZ ((wh * 4294967296 + fr : Nat) : Int) lf false := by
                    have h1 : vd (vals (By row)) = wh := by have := HWV.out; unfold wholeN at this; omega
                    rw [HNE.out, h1]
                    rfl
                  have hlt : 0 ≤ ((wh * 4294967296 + fr : Nat) : Int) ∧ ((wh * 4294967296 + fr : Nat) : Int) < 18446744073709551616 := by omega
                  have HCU : Aside0 (∀ W, Calls Tryd.prog 28 #[.int .u64 (bits .or .u64 (fr : Int) (IntKind.u64.wrap ((wh : Int) * 4294967296))), .bool lf, .bool false] W fun e w' => e = .returned (.int .i64 (cutZ ((wh * 4294967296 + fr : Nat) : Int) lf false)) ∧ ∃ m, w' = W.drewN m) := ⟨fun W => by rw [hor]; exact cut_quiet _ _ _ _ hlt.1 hlt.2⟩
                  have HV := Aside0.mk hv
                  clear hv hor hlt hfr4 c9
                  go_wp2_with (first | (go_at_call 34; (with_reducible refine (HDIG.out _).mono ?_); rintro e w' ⟨rfl, ⟨nd2, rfl⟩⟩) | (go_at_call 34; (with_reducible refine (HD1.out _).mono ?_); rintro e w' ⟨rfl, ⟨nd3, rfl⟩⟩) | (go_at_call 35; (with_reducible refine (HFR.out _).mono ?_); rintro e w3 ⟨rfl, hb3⟩; have HB3 := Aside0.mk hb3; clear hb3) | (go_at_call 36; (with_reducible refine (HWH.out _).mono ?_); rintro e w' ⟨rfl, ⟨nd4, rfl⟩⟩) | (go_at_call 28; (with_reducible refine (HCU.out _).mono ?_); rintro e w' ⟨rfl, ⟨nd5, rfl⟩⟩))
                  simp only [Exit.jump]
                  go_ret2
                  exact ⟨by rw [HV.out]; rfl, by
                    have hq : Below w.heap.size w (W1.drewN (nd2 + nd3)) := pw_below_drewN HBW.out _
                    have h5 := hq.trans (HB3.out.mono hq.size)
                    repeat (first | exact h5 | apply pw_below_drewN)⟩
              · have hl0 : By lst ≠ [] := by rw [hbl]; intro z; have := congrArg List.length z; rw [List.length_drop, hsz] at this; simp at this; omega
                have d6 : (lst.toList == []) = false := by rw [ByteArray.toList_eq]; simpa using hl0
                have d6' : (!lst.toList.isEmpty) = true := by rw [ByteArray.toList_eq]; cases hq : By lst with | nil => exact absurd hq hl0 | cons a l => simp [hq]
                have d6n : lst.toList ≠ [] := by rw [ByteArray.toList_eq]; exact hl0
                have hr2 : r = (0, 4) := by rw [← HT3.out, if_pos (by omega)]
                subst hr2
                clear hmore hlst hbm hbl c5 d5 c6 hl0 hsz hn2l
                go_wp2_with (first | (go_at_call 34; (with_reducible refine (HDIG.out _).mono ?_); rintro e w' ⟨rfl, ⟨nd2, rfl⟩⟩) | (go_at_call 34; (with_reducible refine (HD1.out _).mono ?_); rintro e w' ⟨rfl, ⟨nd3, rfl⟩⟩))
                go_step3
                exact ⟨rfl, rfl, by first | exact pw_below_drewN HBW.out _ | exact pw_below_drewN (pw_below_drewN HBW.out _) _, _, _, _, _, _, _, _, _, _, _, _, _, _, _, _, _, _, _, _, _, _, _, _, _, _, _, _, _, _, _, _, _, _, _, _, _, _, _, _, _, _, _, _, _, _, _, _, _, _, _, _, _, _, _, _, _, _, _, _, _, _, _, _, _, _, _, _, _, _, rfl⟩
          · have d4 : ((rest[0].toNat : Int) == 46) = false := by rw [beq_eq_false_iff_ne]; intro z; exact c4 (UInt8.toNat_inj.mp (by simpa using (Int.ofNat.inj z)))
            have d4' : ((rest[0].toNat : Int) != 46) = true := by rw [bne_iff_ne]; intro z; exact c4 (UInt8.toNat_inj.mp (by simpa using (Int.ofNat.inj z)))
            have hr2 : r = (0, 4) := by have := HT2.out; dsimp only at this; rw [if_neg c4] at this; exact this.symm
            subst hr2
            clear c4
            go_wp2_with (go_at_call 34; (with_reducible refine (HDIG.out _).mono ?_); rintro e w' ⟨rfl, ⟨nd2, rfl⟩⟩)
            go_step3
            exact ⟨rfl, rfl, pw_below_drewN HBW.out _, _, _, _, _, _, _, _, _, _, _, _, _, _, _, _, _, _, _, _, _, _, _, _, _, _, _, _, _, _, _, _, _, _, _, _, _, _, _, _, _, _, _, _, _, _, _, _, _, _, _, _, _, _, _, _, _, _, _, _, _, _, _, _, _, _, _, _, _, _, rfl⟩
  · rintro a' w' ⟨hr, hd, u0, u1, u2, u3, u4, u5, u6, u7, u8, u9, u10, u11, u12, u13, u14, u15, u16, u17, u18, u19, u20, u21, u22, u23, u24, u25, u26, u27, u28, u29, u30, u31, u32, u33, u34, u35, u36, u37, u38, u39, u40, u41, u42, u43, u44, u45, u46, u47, u48, u49, u50, u51, u52, u53, u54, u55, u56, u57, u58, u59, u60, u61, u62, u63, u64, u65, u66, u67, u68, rfl⟩
    subst hr
    go_wp2
    simp only [Exit.jump]
    go_ret2
    exact ⟨rfl, hd⟩
set_option maxHeartbeats 8000000 in
set_option maxRecDepth 100000 in
theorem parse_none (s : ByteArray) (w : World) (hs : s.size ≤ 140737488351232) (h0 : By s ≠ [110, 97, 110]) (hn : headIs 45 (By s) = false) (hn2 : headIs 43 (By s) = false) (r : Int × Int) (hT : parseT false (By s) = r) : Calls Tryd.prog 19 #[.string s] w fun e w' => e = .returned (.tuple #[.int .i64 r.1, .int .i64 r.2]) ∧ Below w.heap.size w w' := by
  have d0 : (s.toList == [110, 97, 110]) = false := by rw [ByteArray.toList_eq]; simpa using h0
  have HS := Aside0.mk hs
  have HTS := Aside0.mk hs
  have HT := Aside0.mk hT
  have HN := Aside0.mk hn
  have HN2 := Aside0.mk hn2
  clear hn hn2
  clear h0 hs hT
  go_enter Tryd.func19, Tryd.ntmps19
  go_wp2
  refine wp_scope_jumps 0 (fun a' w' => r = ((0 : Int), (4 : Int)) ∧ Below w.heap.size w w' ∧ ∃ (u0 u1 u2 u3 u4 u5 u6 u7 u8 u9 u10 u11 u12 u13 u14 u15 u16 u17 u18 u19 u20 u21 u22 u23 u24 u25 u26 u27 u28 u29 u30 u31 u32 u33 u34 u35 u36 u37 u38 u39 u40 u41 u42 u43 u44 u45 u46 u47 u48 u49 u50 u51 u52 u53 u54 u55 u56 u57 u58 u59 u60 u61 u62 u63 u64 u65 u66 u67 u68 : Value), a' = { tmps := #[u0, u1, u2, u3, u4, u5, u6, u7, u8, u9, u10, u11, u12, u13, u14, u15, u16, u17, u18, u19, u20, u21, u22, u23, u24, u25, u26, u27, u28, u29, u30, u31, u32, u33, u34, u35, u36, u37, u38, u39, u40, u41, u42, u43, u44, u45, u46, u47, u48, u49, u50, u51, u52, u53, u54, u55, u56, u57, u58, u59, u60, u61, u62, u63, u64, u65, u66, u67, u68], defers := [] }) (fun _ _ => 0) rfl ?_ ?_
  · go_upto_region 9 with (first | (go_at_call 33; (with_reducible refine (hp_calls 45 _ HS.out _).mono ?_); rw [HN.out]; rintro e w' ⟨rfl, ⟨nd, rfl⟩⟩) | (go_at_call 33; (with_reducible refine (hp_calls 43 _ HS.out _).mono ?_); rw [HN2.out]; rintro e w' ⟨rfl, ⟨ndb, rfl⟩⟩))
    obtain ⟨W1, hW1⟩ : ∃ W1, w.drewN (nd + ndb) = W1 := ⟨_, rfl⟩
    rw [hW1]
    have HBW : Aside0 (Below w.heap.size w W1) := ⟨by rw [← hW1]; exact pw_below_drewN (Below.refl _ _) _⟩
    clear hW1
    by_cases c1 : By s = [105, 110, 102]
    · have d1 : (s.toList == [105, 110, 102]) = true := by rw [ByteArray.toList_eq]; exact beq_iff_eq.mpr c1
      have hr2 : r = (if false = true then -9223372036854775808 else 9223372036854775807, 0) := by rw [← HT.out]; unfold parseT; rw [if_pos c1]
      have hcz : (if false = true then -9223372036854775808 else 9223372036854775807 : Int) = cutZ 18446744073709551614 false false := by decide +kernel
      rw [hcz] at hr2
      subst hr2
      clear hcz c1
      go_wp2_with (go_at_call 28; (with_reducible refine (cut_quiet _ _ _ _ (by decide) (by decide)).mono ?_); rintro e w' ⟨rfl, ⟨nd2, rfl⟩⟩)
      simp only [Exit.jump]
      go_ret2
      exact ⟨rfl, pw_below_drewN HBW.out _⟩
    · have d1 : (s.toList == [105, 110, 102]) = false := by rw [ByteArray.toList_eq]; simpa using c1
      have HT2 : Aside0 ((if dlen (By s) = 0 ∨ 30 < dlen (By s) then ((0 : Int), (4 : Int))
      else match (By s).drop (dlen (By s)) with
        | [] => (numS false (vals ((By s).take (dlen (By s)))) [], 0)
        | c :: m => if c = 46 then (if dlen m = 0 ∨ 30 < dlen m ∨ m.length ≠ dlen m then ((0 : Int), (4 : Int)) else (numS false (vals ((By s).take (dlen (By s)))) (vals m), 0)) else ((0 : Int), (4 : Int))) = r) := ⟨by have := HT.out; unfold parseT at this; rwa [if_neg c1] at this⟩
      clear c1 HT
      obtain ⟨n, hn⟩ : ∃ n, dlen (By s) = n := ⟨_, rfl⟩
      have hnl : n ≤ s.size := by rw [← hn, ← size_by]; exact dlen_le _
      have HDIG : Aside0 (∀ W, Calls Tryd.prog 34 #[.string s] W fun e w' => e = .returned (.tuple #[.string (s.extract 0 n), .string (s.extract n s.size), .bool (decide (0 < n) && decide (n ≤ 30))]) ∧ Drawn0 W w') := ⟨by rw [← hn]; exact fun W => digits_calls s HTS.out W⟩
      have HTD : Aside0 (∀ c ∈ (By s).take n, isD c = true) := ⟨by rw [← hn]; exact take_dig _⟩
      rw [hn] at HT2
      clear hn
      by_cases c2 : n = 0 ∨ 30 < n
      · have d2 : (decide (0 < n) && decide (n ≤ 30)) = false := by rw [Bool.eq_false_iff]; intro z; rw [Bool.and_eq_true, decide_eq_true_eq, decide_eq_true_eq] at z; omega
        rw [d2] at HDIG
        have hr2 : r = (0, 4) := by rw [← HT2.out, if_pos c2]
        subst hr2
        clear c2 d2
        go_wp2_with (go_at_call 34; (with_reducible refine (HDIG.out _).mono ?_); rintro e w' ⟨rfl, ⟨nd2, rfl⟩⟩)
        go_step3
        exact ⟨rfl, rfl, pw_below_drewN HBW.out _, _, _, _, _, _, _, _, _, _, _, _, _, _, _, _, _, _, _, _, _, _, _, _, _, _, _, _, _, _, _, _, _, _, _, _, _, _, _, _, _, _, _, _, _, _, _, _, _, _, _, _, _, _, _, _, _, _, _, _, _, _, _, _, _, _, _, _, _, _, rfl⟩
      · have d2 : (decide (0 < n) && decide (n ≤ 30)) = true := by rw [Bool.and_eq_true, decide_eq_true_eq, decide_eq_true_eq]; omega
        rw [d2] at HDIG
        rw [if_neg c2] at HT2
        have hn30 : n ≤ 30 := by omega
        obtain ⟨row, hrow⟩ : ∃ row, s.extract 0 n = row := ⟨_, rfl⟩
        obtain ⟨rest, hrest⟩ : ∃ rest, s.extract n s.size = rest := ⟨_, rfl⟩
        have hbr : By row = (By s).take n := by rw [← hrow, by_extract, List.drop_zero, Nat.sub_zero]
        have hbs : By rest = (By s).drop n := by rw [← hrest, by_rest]
        have hss : rest.size ≤ 140737488351232 := by rw [← size_by, hbs, List.length_drop, size_by]; have := HTS.out; omega
        have hrs : row.size ≤ 140737488351232 := by rw [← size_by, hbr, List.length_take, size_by]; omega
        rw [hrow, hrest] at HDIG
        rw [← hbr] at HTD HT2
        rw [← hbs] at HT2
        have HWH : Aside0 (∀ W, Calls Tryd.prog 36 #[.string row] W fun e w' => e = .returned (.int .u64 ((wholeN (By row) : Nat) : Int)) ∧ Drawn0 W w') := ⟨fun W => whole_calls row hrs HTD.out W⟩
        have HSS := Aside0.mk hss
        clear hrow hrest hbr hbs hrs hss c2 d2 hn30 hnl
        by_cases c3 : By rest = []
        · have d3 : rest.toList = [] := by rw [ByteArray.toList_eq]; exact c3
          have d3' : (!rest.toList.isEmpty) = false := by rw [d3]; rfl
          have d3'' : (rest.toList == []) = true := by rw [d3]; rfl
          rw [c3] at HT2
          have hr2 : r = (numS false (vals (By row)) [], 0) := HT2.out.symm
          clear c3 HT2
          subst hr2
          have HFR : Aside0 (∀ W, Calls Tryd.prog 35 #[.string ⟨#[]⟩] W fun e w' => e = .returned (.tuple #[.int .u64 ((fracN [] : Nat) : Int), .bool (leftN [])]) ∧ Below W.heap.size W w') := ⟨fun W => frac_calls ⟨#[]⟩ W (by decide) [] rfl (fun x hx => by cases hx)⟩
          obtain ⟨wh, hwh⟩ : ∃ x, wholeN (By row) = x := ⟨_, rfl⟩
          rw [hwh] at HWH
          have HWV : Aside0 (wholeN (By row) = wh) := ⟨hwh⟩
          obtain ⟨fr, hfr⟩ : ∃ x, fracN [] = x := ⟨_, rfl⟩
          obtain ⟨lf, hlf⟩ : ∃ x, leftN [] = x := ⟨_, rfl⟩
          rw [hfr, hlf] at HFR
          have hfr4 : fr < 4294967296 := by rw [← hfr]; exact frac_lt (fun x hx => by cases hx)
          have HNE : Aside0 (numS false (vals (By row)) [] = cutS (vd (vals (By row)) * 4294967296 + fr) lf false) := ⟨by rw [numS_eq, hfr, hlf]⟩
          clear hwh hfr hlf
          by_cases c9 : 4294967296 ≤ wh
          · have d9 : decide ((4294967296 : Int) ≤ (wh : Int)) = true := decide_eq_true (by omega)
            have hv : numS false (vals (By row)) [] = cutZ 18446744073709551614 lf false := by
              have h1 : 4294967296 ≤ vd (vals (By row)) := by have := HWV.out; unfold wholeN at this; omega
              rw [HNE.out, cut_great _ _ _ (by omega)]
              unfold cutZ
              rw [cut_great _ _ _ (by decide)]
            have HV := Aside0.mk hv
            clear hv hfr4
            go_wp2_with (first | (go_at_call 34; (with_reducible refine (HDIG.out _).mono ?_); rintro e w' ⟨rfl, ⟨nd2, rfl⟩⟩) | (go_at_call 35; (with_reducible refine (HFR.out _).mono ?_); rintro e w3 ⟨rfl, hb3⟩; have HB3 := Aside0.mk hb3; clear hb3) | (go_at_call 36; (with_reducible refine (HWH.out _).mono ?_); rintro e w' ⟨rfl, ⟨nd4, rfl⟩⟩) | (go_at_call 28; (with_reducible refine (cut_quiet _ _ _ _ (by decide) (by decide)).mono ?_); rintro e w' ⟨rfl, ⟨nd5, rfl⟩⟩))
            simp only [Exit.jump]
            go_ret2
            exact ⟨by rw [HV.out]; rfl, by
              have hq : Below w.heap.size w (W1.drewN nd2) := pw_below_drewN HBW.out _
              have h5 := hq.trans (HB3.out.mono hq.size)
              repeat (first | exact h5 | apply pw_below_drewN)⟩
          · have d9 : decide ((4294967296 : Int) ≤ (wh : Int)) = false := decide_eq_false (by omega)
            have hor := or_32 fr wh hfr4 (by omega)
            have hv : numS false (vals (By row)) [] = cutZ ((wh * 4294967296 + fr : Nat) : Int) lf false := by
              have h1 : vd (vals (By row)) = wh := by have := HWV.out; unfold wholeN at this; omega
              rw [HNE.out, h1]
              rfl
            have hlt : 0 ≤ ((wh * 4294967296 + fr : Nat) : Int) ∧ ((wh * 4294967296 + fr : Nat) : Int) < 18446744073709551616 := by omega
            have HCU : Aside0 (∀ W, Calls Tryd.prog 28 #[.int .u64 (bits .or .u64 (fr : Int) (IntKind.u64.wrap ((wh : Int) * 4294967296))), .bool lf, .bool false] W fun e w' => e = .returned (.int .i64 (cutZ ((wh * 4294967296 + fr : Nat) : Int) lf false)) ∧ ∃ m, w' = W.drewN m) := ⟨fun W => by rw [hor]; exact cut_quiet _ _ _ _ hlt.1 hlt.2⟩
            have HV := Aside0.mk hv
            clear hv hor hlt hfr4 c9
            go_wp2_with (first | (go_at_call 34; (with_reducible refine (HDIG.out _).mono ?_); rintro e w' ⟨rfl, ⟨nd2, rfl⟩⟩) | (go_at_call 35; (with_reducible refine (HFR.out _).mono ?_); rintro e w3 ⟨rfl, hb3⟩; have HB3 := Aside0.mk hb3; clear hb3) | (go_at_call 36; (with_reducible refine (HWH.out _).mono ?_); rintro e w' ⟨rfl, ⟨nd4, rfl⟩⟩) | (go_at_call 28; (with_reducible refine (HCU.out _).mono ?_); rintro e w' ⟨rfl, ⟨nd5, rfl⟩⟩))
            simp only [Exit.jump]
            go_ret2
            exact ⟨by rw [HV.out]; rfl, by
              have hq : Below w.heap.size w (W1.drewN nd2) := pw_below_drewN HBW.out _
              have h5 := hq.trans (HB3.out.mono hq.size)
              repeat (first | exact h5 | apply pw_below_drewN)⟩
        · have d3 : (rest.toList == []) = false := by rw [ByteArray.toList_eq]; simpa using c3
          have d3' : (!rest.toList.isEmpty) = true := by rw [ByteArray.toList_eq]; cases hq : By rest with | nil => exact absurd hq c3 | cons a l => simp [hq]
          have d3n : rest.toList ≠ [] := by rw [ByteArray.toList_eq]; exact c3
          have hp : 0 < rest.size := by rw [← size_by]; exact List.length_pos_iff.mpr c3
          have hg := bytes_get rest 0 hp
          rw [List.drop_zero] at hg
          rw [show rest.data.toList = By rest from rfl] at hg
          rw [hg] at HT2
          have HGG := Aside0.mk hg
          clear hg c3
          by_cases c4 : rest[0] = 46
          · have d4 : ((rest[0].toNat : Int) == 46) = true := by rw [c4]; rfl
            have d4' : ((rest[0].toNat : Int) != 46) = false := by rw [c4]; rfl
            have HT3 : Aside0 ((if dlen ((By rest).drop 1) = 0 ∨ 30 < dlen ((By rest).drop 1) ∨ ((By rest).drop 1).length ≠ dlen ((By rest).drop 1) then ((0 : Int), (4 : Int)) else (numS false (vals (By row)) (vals ((By rest).drop 1)), 0)) = r) := ⟨by have := HT2.out; dsimp only at this; rw [if_pos c4] at this; exact this⟩
            clear c4 HT2
            obtain ⟨tt, htt⟩ : ∃ tt, rest.extract 1 rest.size = tt := ⟨_, rfl⟩
            have hbt : By tt = (By rest).drop 1 := by rw [← htt, by_rest]
            have hts : tt.size ≤ 140737488351232 := by rw [← size_by, hbt, List.length_drop, size_by]; have := HSS.out; omega
            rw [← hbt] at HT3
            have HTT := Aside0.mk htt
            obtain ⟨n2, hn2⟩ : ∃ n, dlen (By tt) = n := ⟨_, rfl⟩
            have HD2 : Aside0 (∀ W, Calls Tryd.prog 34 #[.string tt] W fun e w' => e = .returned (.tuple #[.string (tt.extract 0 n2), .string (tt.extract n2 tt.size), .bool (decide (0 < n2) && decide (n2 ≤ 30))]) ∧ Drawn0 W w') := ⟨by rw [← hn2]; exact fun W => digits_calls tt hts W⟩
            have HTD2 : Aside0 (∀ c ∈ (By tt).take n2, isD c = true) := ⟨by rw [← hn2]; exact take_dig _⟩
            rw [hn2] at HT3
            have hsz : (By tt).length = tt.size := size_by _
            have HD1 : Aside0 (∀ W, Calls Tryd.prog 34 #[.string (rest.extract 1 rest.size)] W fun e w' => e = .returned (.tuple #[.string (tt.extract 0 n2), .string (tt.extract n2 tt.size), .bool (decide (0 < n2) && decide (n2 ≤ 30))]) ∧ Drawn0 W w') := ⟨by rw [htt]; exact HD2.out⟩
            have hp1 : (1 : Int) ≤ (rest.size : Int) := by omega
            have hn2l : n2 ≤ tt.size := by rw [← hn2, ← size_by]; exact dlen_le _
            clear hn2 hbt hts htt
            by_cases c5 : n2 = 0 ∨ 30 < n2
            · have d5 : (decide (0 < n2) && decide (n2 ≤ 30)) = false := by rw [Bool.eq_false_iff]; intro z; rw [Bool.and_eq_true, decide_eq_true_eq, decide_eq_true_eq] at z; omega
              rw [d5] at HD1
              have hr2 : r = (0, 4) := by rw [← HT3.out, if_pos (by omega)]
              subst hr2
              clear c5 d5 hsz hn2l
              go_wp2_with (first | (go_at_call 34; (with_reducible refine (HDIG.out _).mono ?_); rintro e w' ⟨rfl, ⟨nd2, rfl⟩⟩) | (go_at_call 34; (with_reducible refine (HD1.out _).mono ?_); rintro e w' ⟨rfl, ⟨nd3, rfl⟩⟩))
              go_step3
              exact ⟨rfl, rfl, by first | exact pw_below_drewN HBW.out _ | exact pw_below_drewN (pw_below_drewN HBW.out _) _, _, _, _, _, _, _, _, _, _, _, _, _, _, _, _, _, _, _, _, _, _, _, _, _, _, _, _, _, _, _, _, _, _, _, _, _, _, _, _, _, _, _, _, _, _, _, _, _, _, _, _, _, _, _, _, _, _, _, _, _, _, _, _, _, _, _, _, _, _, rfl⟩
            · have d5 : (decide (0 < n2) && decide (n2 ≤ 30)) = true := by rw [Bool.and_eq_true, decide_eq_true_eq, decide_eq_true_eq]; omega
              rw [d5] at HD1
              obtain ⟨more, hmore⟩ : ∃ more, tt.extract 0 n2 = more := ⟨_, rfl⟩
              obtain ⟨lst, hlst⟩ : ∃ lst, tt.extract n2 tt.size = lst := ⟨_, rfl⟩
              have hbm : By more = (By tt).take n2 := by rw [← hmore, by_extract, List.drop_zero, Nat.sub_zero]
              have hbl : By lst = (By tt).drop n2 := by rw [← hlst, by_rest]
              rw [hmore, hlst] at HD1
              by_cases c6 : tt.size = n2
              · have hl0 : By lst = [] := by rw [hbl]; exact List.drop_of_length_le (by rw [hsz]; omega)
                have d6 : lst.toList = [] := by rw [ByteArray.toList_eq]; exact hl0
                have d6' : (!lst.toList.isEmpty) = false := by rw [d6]; rfl
                have d6'' : (lst.toList == []) = true := by rw [d6]; rfl
                have hmt : By more = By tt := by rw [hbm]; exact List.take_of_length_le (by rw [hsz]; omega)
                rw [← hbm, hmt] at HTD2
                have hr2 : r = (numS false (vals (By row)) (vals (By tt)), 0) := by rw [← HT3.out, if_neg (by omega)]
                have hms : more.size ≤ 1000 := by rw [← size_by, hmt, hsz]; omega
                subst hr2
                have HFR : Aside0 (∀ W, Calls Tryd.prog 35 #[.string more] W fun e w' => e = .returned (.tuple #[.int .u64 ((fracN (vals (By tt)) : Nat) : Int), .bool (leftN (vals (By tt)))]) ∧ Below W.heap.size W w') := ⟨by
                  have hq : ∀ c ∈ By more, isD c = true := by rw [hmt]; exact HTD2.out
                  have hq2 := vals_back hq
                  rw [show vals (By more) = vals (By tt) by rw [hmt]] at hq2
                  exact fun W => frac_calls more W hms (vals (By tt)) hq2 (vals_dgt HTD2.out)⟩
                have HDG2 : Aside0 (dgt (vals (By tt))) := ⟨vals_dgt HTD2.out⟩
                clear hmore hlst hbm hbl c5 d5 c6 hl0 hmt hms HT3 hsz hn2l
                obtain ⟨wh, hwh⟩ : ∃ x, wholeN (By row) = x := ⟨_, rfl⟩
                rw [hwh] at HWH
                have HWV : Aside0 (wholeN (By row) = wh) := ⟨hwh⟩
                obtain ⟨fr, hfr⟩ : ∃ x, fracN (vals (By tt)) = x := ⟨_, rfl⟩
                obtain ⟨lf, hlf⟩ : ∃ x, leftN (vals (By tt)) = x := ⟨_, rfl⟩
                rw [hfr, hlf] at HFR
                have hfr4 : fr < 4294967296 := by rw [← hfr]; exact frac_lt HDG2.out
                have HNE : Aside0 (numS false (vals (By row)) (vals (By tt)) = cutS (vd (vals (By row)) * 4294967296 + fr) lf false) := ⟨by rw [numS_eq, hfr, hlf]⟩
                clear hwh hfr hlf
                by_cases c9 : 4294967296 ≤ wh
                · have d9 : decide ((4294967296 : Int) ≤ (wh : Int)) = true := decide_eq_true (by omega)
                  have hv : numS false (vals (By row)) (vals (By tt)) = cutZ 18446744073709551614 lf false := by
                    have h1 : 4294967296 ≤ vd (vals (By row)) := by have := HWV.out; unfold wholeN at this; omega
                    rw [HNE.out, cut_great _ _ _ (by omega)]
                    unfold cutZ
                    rw [cut_great _ _ _ (by decide)]
                  have HV := Aside0.mk hv
                  clear hv hfr4
                  go_wp2_with (first | (go_at_call 34; (with_reducible refine (HDIG.out _).mono ?_); rintro e w' ⟨rfl, ⟨nd2, rfl⟩⟩) | (go_at_call 34; (with_reducible refine (HD1.out _).mono ?_); rintro e w' ⟨rfl, ⟨nd3, rfl⟩⟩) | (go_at_call 35; (with_reducible refine (HFR.out _).mono ?_); rintro e w3 ⟨rfl, hb3⟩; have HB3 := Aside0.mk hb3; clear hb3) | (go_at_call 36; (with_reducible refine (HWH.out _).mono ?_); rintro e w' ⟨rfl, ⟨nd4, rfl⟩⟩) | (go_at_call 28; (with_reducible refine (cut_quiet _ _ _ _ (by decide) (by decide)).mono ?_); rintro e w' ⟨rfl, ⟨nd5, rfl⟩⟩))
                  simp only [Exit.jump]
                  go_ret2
                  exact ⟨by rw [HV.out]; rfl, by
                    have hq : Below w.heap.size w (W1.drewN (nd2 + nd3)) := pw_below_drewN HBW.out _
                    have h5 := hq.trans (HB3.out.mono hq.size)
                    repeat (first | exact h5 | apply pw_below_drewN)⟩
                · have d9 : decide ((4294967296 : Int) ≤ (wh : Int)) = false := decide_eq_false (by omega)
                  have hor := or_32 fr wh hfr4 (by omega)
                  have hv : numS false (vals (By row)) (vals (By tt)) = cutZ ((wh * 4294967296 + fr : Nat) : Int) lf false := by
                    have h1 : vd (vals (By row)) = wh := by have := HWV.out; unfold wholeN at this; omega
                    rw [HNE.out, h1]
                    rfl
                  have hlt : 0 ≤ ((wh * 4294967296 + fr : Nat) : Int) ∧ ((wh * 4294967296 + fr : Nat) : Int) < 18446744073709551616 := by omega
                  have HCU : Aside0 (∀ W, Calls Tryd.prog 28 #[.int .u64 (bits .or .u64 (fr : Int) (IntKind.u64.wrap ((wh : Int) * 4294967296))), .bool lf, .bool false] W fun e w' => e = .returned (.int .i64 (cutZ ((wh * 4294967296 + fr : Nat) : Int) lf false)) ∧ ∃ m, w' = W.drewN m) := ⟨fun W => by rw [hor]; exact cut_quiet _ _ _ _ hlt.1 hlt.2⟩
                  have HV := Aside0.mk hv
                  clear hv hor hlt hfr4 c9
                  go_wp2_with (first | (go_at_call 34; (with_reducible refine (HDIG.out _).mono ?_); rintro e w' ⟨rfl, ⟨nd2, rfl⟩⟩) | (go_at_call 34; (with_reducible refine (HD1.out _).mono ?_); rintro e w' ⟨rfl, ⟨nd3, rfl⟩⟩) | (go_at_call 35; (with_reducible refine (HFR.out _).mono ?_); rintro e w3 ⟨rfl, hb3⟩; have HB3 := Aside0.mk hb3; clear hb3) | (go_at_call 36; (with_reducible refine (HWH.out _).mono ?_); rintro e w' ⟨rfl, ⟨nd4, rfl⟩⟩) | (go_at_call 28; (with_reducible refine (HCU.out _).mono ?_); rintro e w' ⟨rfl, ⟨nd5, rfl⟩⟩))
                  simp only [Exit.jump]
                  go_ret2
                  exact ⟨by rw [HV.out]; rfl, by
                    have hq : Below w.heap.size w (W1.drewN (nd2 + nd3)) := pw_below_drewN HBW.out _
                    have h5 := hq.trans (HB3.out.mono hq.size)
                    repeat (first | exact h5 | apply pw_below_drewN)⟩
              · have hl0 : By lst ≠ [] := by rw [hbl]; intro z; have := congrArg List.length z; rw [List.length_drop, hsz] at this; simp at this; omega
                have d6 : (lst.toList == []) = false := by rw [ByteArray.toList_eq]; simpa using hl0
                have d6' : (!lst.toList.isEmpty) = true := by rw [ByteArray.toList_eq]; cases hq : By lst with | nil => exact absurd hq hl0 | cons a l => simp [hq]
                have d6n : lst.toList ≠ [] := by rw [ByteArray.toList_eq]; exact hl0
                have hr2 : r = (0, 4) := by rw [← HT3.out, if_pos (by omega)]
                subst hr2
                clear hmore hlst hbm hbl c5 d5 c6 hl0 hsz hn2l
                go_wp2_with (first | (go_at_call 34; (with_reducible refine (HDIG.out _).mono ?_); rintro e w' ⟨rfl, ⟨nd2, rfl⟩⟩) | (go_at_call 34; (with_reducible refine (HD1.out _).mono ?_); rintro e w' ⟨rfl, ⟨nd3, rfl⟩⟩))
                go_step3
                exact ⟨rfl, rfl, by first | exact pw_below_drewN HBW.out _ | exact pw_below_drewN (pw_below_drewN HBW.out _) _, _, _, _, _, _, _, _, _, _, _, _, _, _, _, _, _, _, _, _, _, _, _, _, _, _, _, _, _, _, _, _, _, _, _, _, _, _, _, _, _, _, _, _, _, _, _, _, _, _, _, _, _, _, _, _, _, _, _, _, _, _, _, _, _, _, _, _, _, _, rfl⟩
          · have d4 : ((rest[0].toNat : Int) == 46) = false := by rw [beq_eq_false_iff_ne]; intro z; exact c4 (UInt8.toNat_inj.mp (by simpa using (Int.ofNat.inj z)))
            have d4' : ((rest[0].toNat : Int) != 46) = true := by rw [bne_iff_ne]; intro z; exact c4 (UInt8.toNat_inj.mp (by simpa using (Int.ofNat.inj z)))
            have hr2 : r = (0, 4) := by have := HT2.out; dsimp only at this; rw [if_neg c4] at this; exact this.symm
            subst hr2
            clear c4
            go_wp2_with (go_at_call 34; (with_reducible refine (HDIG.out _).mono ?_); rintro e w' ⟨rfl, ⟨nd2, rfl⟩⟩)
            go_step3
            exact ⟨rfl, rfl, pw_below_drewN HBW.out _, _, _, _, _, _, _, _, _, _, _, _, _, _, _, _, _, _, _, _, _, _, _, _, _, _, _, _, _, _, _, _, _, _, _, _, _, _, _, _, _, _, _, _, _, _, _, _, _, _, _, _, _, _, _, _, _, _, _, _, _, _, _, _, _, _, _, _, _, _, rfl⟩
  · rintro a' w' ⟨hr, hd, u0, u1, u2, u3, u4, u5, u6, u7, u8, u9, u10, u11, u12, u13, u14, u15, u16, u17, u18, u19, u20, u21, u22, u23, u24, u25, u26, u27, u28, u29, u30, u31, u32, u33, u34, u35, u36, u37, u38, u39, u40, u41, u42, u43, u44, u45, u46, u47, u48, u49, u50, u51, u52, u53, u54, u55, u56, u57, u58, u59, u60, u61, u62, u63, u64, u65, u66, u67, u68, rfl⟩
    subst hr
    go_wp2
    simp only [Exit.jump]
    go_ret2
    exact ⟨rfl, hd⟩
theorem parse_nan (s : ByteArray) (w : World) (hs : s.size ≤ 140737488351232) (h0 : By s = [110, 97, 110]) : Calls Tryd.prog 19 #[.string s] w fun e w' => e = .returned (.tuple #[.int .i64 0, .int .i64 3]) ∧ Below w.heap.size w w' := by
  have d0 : (s.toList == [110, 97, 110]) = true := by rw [ByteArray.toList_eq]; exact beq_iff_eq.mpr h0
  have HN : Aside0 (headIs 45 (By s) = false) := ⟨by rw [h0]; rfl⟩
  have HS := Aside0.mk hs
  clear hs h0
  go_enter Tryd.func19, Tryd.ntmps19
  go_wp2
  refine wp_scope_jumps 0 (fun _ _ => False) (fun _ _ => 0) rfl ?_ (fun _ _ h => h.elim)
  go_wp2_with (go_at_call 33; (with_reducible refine (hp_calls _ _ HS.out _).mono ?_); rw [HN.out]; rintro e w' ⟨rfl, ⟨nd, rfl⟩⟩)
  simp only [Exit.jump]
  go_ret2
  exact ⟨rfl, pw_below_drewN (Below.refl _ _) _⟩
theorem parse_calls (s : ByteArray) (w : World) (hs : s.size ≤ 140737488351232) : Calls Tryd.prog 19 #[.string s] w fun e w' => e = .returned (.tuple #[.int .i64 (parseS (By s)).1, .int .i64 (parseS (By s)).2]) ∧ Below w.heap.size w w' := by
  by_cases h0 : By s = [110, 97, 110]
  · have e : parseS (By s) = (0, 3) := by unfold parseS; rw [if_pos h0]
    rw [e]
    exact parse_nan s w hs h0
  · have hx : ∀ c l, By s = c :: l → By (s.extract 1 s.size) = l ∧ (s.extract 1 s.size).size ≤ 140737488351232 := by
      intro c l h
      have h1 : s.size = l.length + 1 := by rw [← size_by, h]; rfl
      refine ⟨by rw [by_rest, h]; rfl, by rw [size_rest s 1 (by omega)]; omega⟩
    cases hb : By s with
    | nil =>
      have e : parseS ([] : List UInt8) = parseT false [] := rfl
      rw [e, ← hb]
      exact parse_none s w hs h0 (by rw [hb]; rfl) (by rw [hb]; rfl) _ rfl
    | cons c l =>
      obtain ⟨x1, x2⟩ := hx c l hb
      rw [hb] at h0
      by_cases c1 : c = 45
      · have e : parseS (c :: l) = parseT true l := by unfold parseS; rw [if_neg h0, c1]; rfl
        rw [e]
        exact parse_neg s w hs (by rw [hb]; exact h0) (by rw [hb, c1]; rfl) _ _ rfl x2 (by rw [x1])
      · by_cases c2 : c = 43
        · have e : parseS (c :: l) = parseT false l := by unfold parseS; rw [if_neg h0, c2]; rfl
          rw [e]
          exact parse_plus s w hs (by rw [hb]; exact h0) (by rw [hb, c2]; rfl) (by rw [hb, c2]; rfl) _ _ rfl x2 (by rw [x1])
        · have e : parseS (c :: l) = parseT false (c :: l) := by
            unfold parseS
            rw [if_neg h0]
            split
            · rename_i t h; exact absurd (List.cons.inj h).1 c1
            · rename_i t h; exact absurd (List.cons.inj h).1 c2
            · rfl
          rw [e, ← hb]
          exact parse_none s w hs (by rw [hb]; exact h0) (by rw [hb]; unfold headIs; simpa using c1) (by rw [hb]; unfold headIs; simpa using c2) _ rfl
end Go.Proofs.YtlifbogjjikhdaaDoor.Fl
end
section
namespace Go.Proofs.YtlifbogjjikhdaaDoor
open Go Go.RowKit Go.Proofs.YtlifbogjjikhdaaDoorW.PrintLast
section
variable {P : Program} {ops : Array Oper} {md : Region.Mode} {C : World → Prop}
structure Ext (w : World) where
  val : World
  below : Below w.heap.size w val
instance (w : World) : Inhabited (Ext w) := ⟨⟨w, Below.refl _ _⟩⟩
theorem Ext.cell {w : World} {p : Addr} {v : Value} (hc : w.cell? p = some v) (k : Ext w) : k.val.cell? p = some v := (k.below.cell (World.block_lt_of_cell? _ _ hc)).trans hc
end
end Go.Proofs.YtlifbogjjikhdaaDoor
end
section
namespace Go.Proofs.YtlifbogjjikhdaaDoor.Fl
open Go.RowKit Go.Proofs.YtlifbogjjikhdaaDoorW.PrintWords Go.Proofs.YtlifbogjjikhdaaDoorW.PrintLast Go.Proofs.YtlifbogjjikhdaaDoorW.PrintMore
set_option linter.unusedVariables false
open Go.Proofs.YtlifbogjjikhdaaDoor.FL
theorem num_calls0 (n : Int) (w : World) : Calls Tryd.prog 16 #[.int .i64 n] w fun e w' => e = .returned (.int .i64 n) ∧ w' = w := by
  go_enter Tryd.func16, Tryd.ntmps16
  go_wp2
  go_ret
  exact ⟨rfl, rfl⟩
theorem of_tenth : ofS 4591870180066957722 = (429496729, 0) := by decide +kernel
theorem parse_half : parseS [45, 48, 46, 53] = (-2147483648, 0) := by decide +kernel
theorem bits_inf : bitsS [102, 102, 102, 48, 48, 48, 48, 48, 48, 48, 48, 48, 48, 48, 48, 48] = (-9223372036854775808, 0) := by decide +kernel
theorem show_one : showT 1 = ⟨#[48, 46, 48, 48, 48, 48, 48, 48, 48, 48, 48, 50, 51, 50, 56, 51, 48, 54, 52, 51, 54, 53, 51, 56, 54, 57, 54, 50, 56, 57, 48, 54, 50, 53]⟩ := by
  unfold showT showZ showM
  rw [show (1 : Int).natAbs / 4294967296 = 0 from rfl, Lib.decDigits_one (by decide)]
  decide +kernel
set_option maxHeartbeats 8000000 in
set_option maxRecDepth 100000 in
theorem alive_calls (w : World) (ht : Tab w) : Calls Tryd.prog 12 #[] w fun e w' => e = .returned (.bool true) ∧ Below w.heap.size w w' := by
  have H1 : Aside0 (∀ W, Calls Tryd.prog 14 #[.float .f64 4591870180066957722] W fun e w' => e = .returned (.tuple #[.int .i64 429496729, .int .i64 0]) ∧ Below W.heap.size W w') := ⟨fun W => by
    have := of_calls 4591870180066957722 (by decide) W
    rw [of_tenth] at this
    exact this.mono fun _ _ ⟨he, hw⟩ => ⟨he, hw.below⟩⟩
  have H2 : Aside0 (∀ W, Calls Tryd.prog 19 #[.string ⟨#[45, 48, 46, 53]⟩] W fun e w' => e = .returned (.tuple #[.int .i64 (-2147483648), .int .i64 0]) ∧ Below W.heap.size W w') := ⟨fun W => by
    have := parse_calls ⟨#[45, 48, 46, 53]⟩ W (by decide)
    rw [show By ⟨#[45, 48, 46, 53]⟩ = [45, 48, 46, 53] from rfl, parse_half] at this
    exact this⟩
  have H3 : Aside0 (∀ W, Calls Tryd.prog 17 #[.string ⟨#[102, 102, 102, 48, 48, 48, 48, 48, 48, 48, 48, 48, 48, 48, 48, 48]⟩] W fun e w' => e = .returned (.tuple #[.int .i64 (-9223372036854775808), .int .i64 0]) ∧ Below W.heap.size W w') := ⟨fun W => by
    have := bits_calls ⟨#[102, 102, 102, 48, 48, 48, 48, 48, 48, 48, 48, 48, 48, 48, 48, 48]⟩ W (by decide)
    rw [show (⟨#[102, 102, 102, 48, 48, 48, 48, 48, 48, 48, 48, 48, 48, 48, 48, 48]⟩ : ByteArray).data.toList = [102, 102, 102, 48, 48, 48, 48, 48, 48, 48, 48, 48, 48, 48, 48, 48] from rfl, bits_inf] at this
    exact this.mono fun _ _ ⟨he, hw⟩ => ⟨he, hw.below⟩⟩
  have HT := Aside0.mk ht
  clear ht
  go_enter Tryd.func12, Tryd.ntmps12
  go_upto_region 4 with (first | (go_at_call 14; refine (H1.out _).mono ?_; rintro e W1 ⟨rfl, hb1⟩) | (go_at_call 19; refine (H2.out _).mono ?_; rintro e W2 ⟨rfl, hb2⟩) | (go_at_call 17; refine (H3.out _).mono ?_; rintro e W3 ⟨rfl, hb3⟩))
  have HB : Aside0 (Below w.heap.size w W3) := ⟨(hb1.trans (hb2.mono hb1.size)).trans (hb3.mono (hb1.trans (hb2.mono hb1.size)).size)⟩
  clear hb1 hb2 hb3 H1 H2 H3
  have HS : Aside0 (∀ k : Ext W3, Calls Tryd.prog 21 #[.int .i64 1] k.val fun e w' => e = .returned (.string ⟨#[48, 46, 48, 48, 48, 48, 48, 48, 48, 48, 48, 50, 51, 50, 56, 51, 48, 54, 52, 51, 54, 53, 51, 56, 54, 57, 54, 50, 56, 57, 48, 54, 50, 53]⟩) ∧ Below k.val.heap.size k.val w') := ⟨fun k => by
    have := show_calls 1 (by decide) (by decide) k.val ((HT.out.below HB.out).below k.below)
    rw [show_one] at this
    exact this⟩
  go_wp2_with (first | (go_at_call 16; refine (num_calls0 _ _).mono ?_; rintro e w' ⟨rfl, rfl⟩) | (go_at_call 21; refine (HS.out ⟨_, Below.refl _ _⟩).mono ?_; rintro e W4 ⟨rfl, hb4⟩))
  have hW4 : Below w.heap.size w W4 := HB.out.trans (hb4.mono HB.out.size)
  go_ret
  exact ⟨rfl, hW4⟩
end Go.Proofs.YtlifbogjjikhdaaDoor.Fl
end
section
namespace Go.Proofs.YtlifbogjjikhdaaDoor.Fl
open Go.RowKit Go.Proofs.YtlifbogjjikhdaaDoorW.PrintWords Go.Proofs.YtlifbogjjikhdaaDoorW.PrintLast Go.Proofs.YtlifbogjjikhdaaDoorW.PrintMore
set_option linter.unusedVariables false
open Go.Proofs.YtlifbogjjikhdaaDoor.FL
theorem isD_dig (d : Nat) (h : d < 10) : isD (48 + d).toUInt8 = true := by
  have key : ∀ k : Fin 10, isD (48 + k.val).toUInt8 = true := by decide +kernel
  exact key ⟨d, h⟩
theorem toNat_dig (d : Nat) (h : d < 10) : ((48 + d).toUInt8).toNat - 48 = d := by
  have key : ∀ k : Fin 10, ((48 + k.val).toUInt8).toNat - 48 = k.val := by decide +kernel
  exact key ⟨d, h⟩
theorem dig_ne (d : Nat) (h : d < 10) : (48 + d).toUInt8 ≠ 105 ∧ (48 + d).toUInt8 ≠ 110 ∧ (48 + d).toUInt8 ≠ 45 ∧ (48 + d).toUInt8 ≠ 43 := by
  have key : ∀ k : Fin 10, (48 + k.val).toUInt8 ≠ 105 ∧ (48 + k.val).toUInt8 ≠ 110 ∧ (48 + k.val).toUInt8 ≠ 45 ∧ (48 + k.val).toUInt8 ≠ 43 := by decide +kernel
  exact key ⟨d, h⟩
theorem vals_asc {r : List Nat} (h : dgt r) : vals (asc r) = r := by
  unfold vals asc
  rw [List.map_map]
  conv => rhs; rw [← List.map_id r]
  exact List.map_congr_left fun d hd => toNat_dig d (h d hd)
theorem asc_len (r : List Nat) : (asc r).length = r.length := by unfold asc; rw [List.length_map]
theorem asc_append (r m : List Nat) : asc (r ++ m) = asc r ++ asc m := by unfold asc; rw [List.map_append]
theorem dlen_asc {r : List Nat} (h : dgt r) (x : List UInt8) (hx : dlen x = 0) : dlen (asc r ++ x) = r.length := by
  induction r with
  | nil => exact hx
  | cons d r ih =>
    show dlen ((48 + d).toUInt8 :: (asc r ++ x)) = r.length + 1
    rw [dlen_pos (isD_dig d (h d (List.mem_cons_self ..))), ih (fun y hy => h y (List.mem_cons_of_mem _ hy))]
theorem dlen_asc0 {r : List Nat} (h : dgt r) : dlen (asc r) = r.length := by
  have := dlen_asc h [] rfl
  rwa [List.append_nil] at this
theorem dlen_dot (x : List UInt8) : dlen (46 :: x) = 0 := dlen_neg (by decide)
theorem asc_head {r : List Nat} (h : dgt r) (h0 : 0 < r.length) (x : List UInt8) : ∃ c l, asc r ++ x = c :: l ∧ c ≠ 105 ∧ c ≠ 110 ∧ c ≠ 45 ∧ c ≠ 43 := by
  cases r with
  | nil => exact absurd h0 (by decide)
  | cons d r => exact ⟨_, _, rfl, dig_ne d (h d (List.mem_cons_self ..))⟩
theorem asc_inf {r : List Nat} (h : dgt r) (h0 : 0 < r.length) (x : List UInt8) : asc r ++ x ≠ [105, 110, 102] := by
  obtain ⟨c, l, e, h1, _⟩ := asc_head h h0 x
  rw [e]
  exact fun z => h1 (List.cons.inj z).1
theorem parseT_dot (neg : Bool) {r m : List Nat} (h : dgt r) (h0 : 0 < r.length) (h1 : r.length ≤ 30) (hm : dgt m) : parseT neg (asc r ++ 46 :: asc m) = if m.length = 0 ∨ 30 < m.length then (0, 4) else (numS neg r m, 0) := by
  unfold parseT
  rw [if_neg (asc_inf h h0 _), dlen_asc h _ (dlen_dot _), if_neg (by omega)]
  have e1 : (asc r ++ 46 :: asc m).drop r.length = 46 :: asc m := by rw [← asc_len r]; exact List.drop_left
  have e2 : (asc r ++ 46 :: asc m).take r.length = asc r := by rw [← asc_len r]; exact List.take_left
  rw [e1, e2, vals_asc h]
  show (if (46 : UInt8) = 46 then _ else _) = _
  rw [if_pos rfl, dlen_asc0 hm, asc_len, vals_asc hm]
  by_cases c : m.length = 0 ∨ 30 < m.length
  · rw [if_pos c, if_pos (by omega)]
  · rw [if_neg c, if_neg (by omega)]
theorem parseS_dig {r : List Nat} (h : dgt r) (h0 : 0 < r.length) (x : List UInt8) : parseS (asc r ++ x) = parseT false (asc r ++ x) := by
  obtain ⟨c, l, e, h1, h2, h3, h4⟩ := asc_head h h0 x
  rw [e]
  unfold parseS
  rw [if_neg (fun z => h2 (List.cons.inj z).1)]
  split
  · rename_i t h; exact absurd (List.cons.inj h).1 h3
  · rename_i t h; exact absurd (List.cons.inj h).1 h4
  · rfl
theorem parseS_minus (x : List UInt8) : parseS (45 :: x) = parseT true x := by
  unfold parseS
  rw [if_neg (fun z => absurd (List.cons.inj z).1 (by decide))]
  rfl
theorem parseS_sign (neg : Bool) {r : List Nat} (h : dgt r) (h0 : 0 < r.length) (x : List UInt8) : parseS ((if neg then [45] else []) ++ (asc r ++ x)) = parseT neg (asc r ++ x) := by
  cases neg
  · exact parseS_dig h h0 x
  · exact parseS_minus _
end Go.Proofs.YtlifbogjjikhdaaDoor.Fl
end
section
namespace Go.Proofs.YtlifbogjjikhdaaDoor.Fl
open Go.RowKit Go.Proofs.YtlifbogjjikhdaaDoorW.PrintWords Go.Proofs.YtlifbogjjikhdaaDoorW.PrintLast Go.Proofs.YtlifbogjjikhdaaDoorW.PrintMore
set_option linter.unusedVariables false
open Go.Proofs.YtlifbogjjikhdaaDoor.FL
def decB (u : Nat) : ByteArray := ⟨(Lib.decDigits u).toArray⟩
theorem digit_cut (d : Nat) (h : d < 10) : (⟨#[48, 49, 50, 51, 52, 53, 54, 55, 56, 57]⟩ : ByteArray).extract d (d + 1) = ⟨#[UInt8.ofNat (48 + d)]⟩ := by
  have key : ∀ k : Fin 10, (⟨#[48, 49, 50, 51, 52, 53, 54, 55, 56, 57]⟩ : ByteArray).extract k.val (k.val + 1) = ⟨#[UInt8.ofNat (48 + k.val)]⟩ := by decide +kernel
  exact key ⟨d, h⟩
theorem decB_size {u : Nat} (h : u < 18446744073709551616) : (decB u).size ≤ 20 := by
  show (Lib.decDigits u).length ≤ 20
  rw [decD_eq]
  unfold asc
  rw [List.length_map]
  exact dec_len 19 u (Nat.lt_of_lt_of_le h (by decide))
theorem rdec_ev : ∀ u : Nat, u < 18446744073709551616 → ∃ K, ∀ k, K ≤ k → lysimeterref1_decimal.f k (u : Int) = some (decB u) := by
  intro u
  induction u using Nat.strongRecOn with
  | _ u ih =>
    intro hu
    have e1 : Int.tmod (u : Int) 10 = ((u % 10 : Nat) : Int) := by rw [Int.tmod_eq_emod_of_nonneg (by omega)]; omega
    have e2 : IntKind.u64.wrap (((u % 10 : Nat) : Int) + 1) = ((u % 10 + 1 : Nat) : Int) := by rw [IntKind.wrap_u64]; omega
    have e3 : IntKind.u64.wrap (Int.tdiv (u : Int) 10) = ((u / 10 : Nat) : Int) := by rw [Int.tdiv_eq_ediv_of_nonneg (by omega), IntKind.wrap_u64]; omega
    have hd : u % 10 < 10 := Nat.mod_lt _ (by decide)
    have step : ∀ k, lysimeterref1_decimal.f (k + 1) (u : Int) = if (u : Int) > 9 then ((lysimeterref1_decimal.f k ((u / 10 : Nat) : Int)).bind fun t => if t.size + 1 ≤ 9223372036854775807 then some (t ++ ⟨#[UInt8.ofNat (48 + u % 10)]⟩) else none) else some ⟨#[UInt8.ofNat (48 + u % 10)]⟩ := by
      intro k
      simp only [lysimeterref1_decimal.f]
      rw [e1, e2, if_pos (by omega), if_pos (by omega), if_pos (by omega), e3, Int.toNat_natCast, Int.toNat_natCast, digit_cut _ hd]
      rfl
    by_cases h : u < 10
    · refine ⟨1, fun k hk => ?_⟩
      obtain ⟨k, rfl⟩ : ∃ k', k = k' + 1 := ⟨k - 1, by omega⟩
      rw [step, if_neg (by omega)]
      unfold decB
      rw [Lib.decDigits_one h, Nat.mod_eq_of_lt h]
    · obtain ⟨K, hK⟩ := ih (u / 10) (by omega) (by omega)
      refine ⟨K + 1, fun k hk => ?_⟩
      obtain ⟨k, rfl⟩ : ∃ k', k = k' + 1 := ⟨k - 1, by omega⟩
      have hs := decB_size (u := u / 10) (by omega)
      rw [step, if_pos (by omega), hK k (by omega), Option.bind_some, if_pos (by omega)]
      unfold decB
      rw [Lib.decDigits.eq_def u, dif_neg h]
      refine congrArg some (ByteArray.ext ?_)
      simp
theorem size_eq (x : Int) (h0 : -9223372036854775808 ≤ x) (h1 : x ≤ 9223372036854775807) : lysimeterref1_size.f x = some ((x.natAbs : Nat) : Int) := by
  unfold lysimeterref1_size.f
  by_cases c : x < 0
  · rw [if_pos c, wrap64_id (n := x + 1) (by omega) (by omega), wrap64_id (n := -(x + 1)) (by omega) (by omega)]
    rw [IntKind.wrap_u64, IntKind.wrap_u64]
    refine congrArg some ?_
    omega
  · rw [if_neg c, IntKind.wrap_u64]
    refine congrArg some ?_
    omega
theorem decB_by (u : Nat) : By (decB u) = asc (dec u) := by
  show Lib.decDigits u = _
  exact decD_eq u
theorem ba_ext {a b : ByteArray} (h : By a = By b) : a = b := by
  apply ByteArray.ext
  exact Array.toList_inj.mp h
theorem by_append (a b : ByteArray) : By (a ++ b) = By a ++ By b := by
  unfold By
  simp
def numT (n : Int) : ByteArray := ⟨((if decide (n < 0) = true then [45] else []) ++ asc (dec n.natAbs)).toArray⟩
theorem rnum_calls (n : Int) (h0 : -9223372036854775808 ≤ n) (h1 : n ≤ 9223372036854775807) (w : World) : Calls Tryd.prog 23 #[.int .i64 n] w fun e w' => e = .returned (.string (numT n)) ∧ Drawn0 w w' := by
  have hE : Ev (fun k => lysimeterref1_Number.f k n) (numT n) := by
    have hsz := decB_size (u := n.natAbs) (by omega)
    by_cases c : n < 0
    · refine Ev.congr (fun k => by unfold lysimeterref1_Number.f; rw [if_pos c, size_eq n h0 h1, Option.bind_some]) ?_
      refine Ev.bind (rdec_ev n.natAbs (by omega)) (f := fun k t => if 1 + t.size ≤ 9223372036854775807 then (some ((⟨#[45]⟩ : ByteArray) ++ t)) else none) ?_
      refine Ev.congr (f := fun _ => some _) (fun k => ?_) (Ev.now _)
      rw [if_pos (by omega)]
      refine congrArg some (ba_ext ?_)
      unfold numT
      rw [by_append, decB_by, if_pos (decide_eq_true c)]
    · have ew : IntKind.u64.wrap n = ((n.natAbs : Nat) : Int) := by rw [IntKind.wrap_u64]; omega
      refine Ev.congr (fun k => by unfold lysimeterref1_Number.f; rw [if_neg c, ew]) ?_
      refine Ev.bind (rdec_ev n.natAbs (by omega)) (f := fun k t => some t) ?_
      refine Ev.congr (f := fun _ => some _) (fun k => ?_) (Ev.now _)
      refine congrArg some (ba_ext ?_)
      unfold numT
      rw [decB_by, if_neg (by simpa using c)]
      simp
  obtain ⟨k, hk⟩ := hE.rounds
  exact lysimeterref1_Number.calls k n _ w hk
theorem rofi_calls (n : Int) (w : World) : Calls Tryd.prog 24 #[.int .i64 n] w fun e w' => e = .returned (.int .i64 (clip (n * 4294967296))) ∧ Drawn0 w w' := by
  refine lysimeterref1_Of.calls n _ w ?_
  unfold lysimeterref1_Of.f clip
  by_cases c1 : n > 2147483647
  · rw [if_pos c1, if_neg (by omega), if_pos (by omega)]
  · rw [if_neg c1]
    by_cases c2 : n < -2147483648
    · rw [if_pos c2, if_pos (by omega)]
    · rw [if_neg c2, wrap64_id (by omega) (by omega), if_neg (by omega), if_neg (by omega)]
end Go.Proofs.YtlifbogjjikhdaaDoor.Fl
end
section
namespace Go.Proofs.YtlifbogjjikhdaaDoor.Fl
open Go.RowKit Go.Proofs.YtlifbogjjikhdaaDoorW.PrintWords Go.Proofs.YtlifbogjjikhdaaDoorW.PrintLast Go.Proofs.YtlifbogjjikhdaaDoorW.PrintMore
set_option linter.unusedVariables false
set_option linter.unusedSimpArgs false
open Go.Proofs.YtlifbogjjikhdaaDoor.FL
theorem dgt_zeros (k : Nat) : dgt (List.replicate k 0) := by
  intro x hx
  rw [List.mem_replicate] at hx
  omega
theorem vd_zeros (k : Nat) : vd (List.replicate k 0) = 0 := by
  rw [vd_zero]
  intro x hx
  rw [List.mem_replicate] at hx
  exact hx.2
theorem dgt_app {r m : List Nat} (h : dgt r) (h2 : dgt m) : dgt (r ++ m) := by
  intro x hx
  rcases List.mem_append.mp hx with h1 | h1
  · exact h x h1
  · exact h2 x h1
theorem by_c45 : By (⟨#[45]⟩ : ByteArray) = [45] := rfl
end Go.Proofs.YtlifbogjjikhdaaDoor.Fl
end
section
namespace Go.Proofs.YtlifbogjjikhdaaDoor.Fl
open Go.RowKit Go.Proofs.YtlifbogjjikhdaaDoorW.PrintWords Go.Proofs.YtlifbogjjikhdaaDoorW.PrintLast Go.Proofs.YtlifbogjjikhdaaDoorW.PrintMore
set_option linter.unusedVariables false
set_option linter.unusedSimpArgs false
open Go.Proofs.YtlifbogjjikhdaaDoor.FL
theorem vd_tail (k d : Nat) : vd (List.replicate k 0 ++ [d]) = d := by rw [vd_snoc, vd_zeros]; omega
theorem dgt_tail (k d : Nat) (h : d < 10) : dgt (List.replicate k 0 ++ [d]) := by
  refine dgt_app (dgt_zeros k) ?_
  intro x hx
  rw [List.mem_singleton] at hx
  omega
def dg (d : Nat) : ByteArray := ⟨#[UInt8.ofNat (48 + d)]⟩
theorem dg_by (d : Nat) : By (dg d) = asc [d] := rfl
def stem (n k : Nat) : ByteArray := ⟨(asc (dec n) ++ 46 :: asc (List.replicate k 0)).toArray⟩
theorem stem_by (n k : Nat) : By (stem n k) = asc (dec n) ++ 46 :: asc (List.replicate k 0) := rfl
theorem stem_size (n k : Nat) (h : n ≤ 1000000) : (stem n k).size ≤ 8 + k := by
  have := dec_len 6 n (by omega)
  rw [← size_by, stem_by, List.length_append, asc_len, List.length_cons, asc_len, List.length_replicate]
  omega
theorem stem_zero (n : Nat) : numT (n : Int) ++ ⟨#[46]⟩ = stem n 0 := by
  refine ba_ext ?_
  rw [by_append, stem_by]
  have e : By (numT (n : Int)) = asc (dec n) := by
    unfold numT
    show (if decide ((n : Int) < 0) = true then [45] else []) ++ asc (dec (n : Int).natAbs) = _
    rw [if_neg (by simp)]
    rfl
  rw [e]
  rfl
theorem stem_succ (n k : Nat) : stem n k ++ ⟨#[48]⟩ = stem n (k + 1) := by
  refine ba_ext ?_
  rw [by_append, stem_by, stem_by, List.replicate_succ', asc_append]
  simp
  rfl
theorem num_size (n : Nat) (h : n ≤ 1000000) : (numT (n : Int)).size ≤ 8 := by
  have h1 := congrArg ByteArray.size (stem_zero n)
  rw [ByteArray.size_append] at h1
  have h2 := stem_size n 0 h
  omega
theorem dig_text (neg : Bool) (n k d : Nat) (hn : n ≤ 1000000) (hk : k ≤ 20) (hd : d < 10) (x : ByteArray) (hx : By x = (if neg = true then [45] else []) ++ (By (stem n k) ++ By (dg d))) : parseS (By x) = (numS neg (dec n) (List.replicate k 0 ++ [d]), 0) := by
  have hl := dec_len 6 n (by omega)
  have e : By (stem n k) ++ By (dg d) = asc (dec n) ++ 46 :: asc (List.replicate k 0 ++ [d]) := by
    rw [stem_by, dg_by, asc_append]
    simp
  rw [hx, e, parseS_sign neg (dec_dgt n) (dec_pos n), parseT_dot neg (dec_dgt n) (dec_pos n) (by omega) (dgt_tail k d hd), if_neg (by rw [List.length_append, List.length_replicate, List.length_singleton]; omega)]
theorem dig_cut (i j : Int) (d : Nat) (h : d < 10) (hi : i = (d : Int)) (hj : j = (d : Int) + 1) (W : World) : (Instr.slice 9 (Value.string ⟨#[48, 49, 50, 51, 52, 53, 54, 55, 56, 57]⟩) (some (.int .i64 i)) (some (.int .i64 j)) none).run Tryd.prog W = .ok (.string (dg d)) W := by
  subst hi hj
  rw [run_slice_string_if _ 9 _ _ _ _ _ Tryd.underlying9]
  have hz : (⟨#[48, 49, 50, 51, 52, 53, 54, 55, 56, 57]⟩ : ByteArray).size = 10 := rfl
  rw [if_pos (by rw [hz]; omega), if_pos (by omega)]
  have e1 : ((d : Int)).toNat = d := Int.toNat_natCast d
  have e2 : ((d : Int) + 1).toNat = d + 1 := by omega
  rw [e1, e2, digit_cut d h]
  rfl
set_option maxHeartbeats 8000000 in
set_option maxRecDepth 100000 in
theorem digits_out (n d p : Int) (w : World) (ht : Tab w) (h : (n < 0) ∨ (¬ n < 0 ∧ 1000000 < n) ∨ (¬ n < 0 ∧ ¬ 1000000 < n ∧ d < 0) ∨ (¬ n < 0 ∧ ¬ 1000000 < n ∧ ¬ d < 0 ∧ 8 < d) ∨ (¬ n < 0 ∧ ¬ 1000000 < n ∧ ¬ d < 0 ∧ ¬ 8 < d ∧ p < 0) ∨ (¬ n < 0 ∧ ¬ 1000000 < n ∧ ¬ d < 0 ∧ ¬ 8 < d ∧ ¬ p < 0 ∧ 20 < p)) : Calls Tryd.prog 10 #[.int .i64 n, .int .i64 d, .int .i64 p] w fun e w' => e = .returned (.bool true) ∧ Below w.heap.size w w' := by
  have HA := Aside0.mk (alive_calls w ht)
  clear ht
  rcases h with h | ⟨h0, h⟩ | ⟨h0, h1, h⟩ | ⟨h0, h1, h2, h⟩ | ⟨h0, h1, h2, h3, h⟩ | ⟨h0, h1, h2, h3, h4, h⟩
  · have c0 : decide (n < 0) = true := decide_eq_true h
    go_enter Tryd.func10, Tryd.ntmps10
    go_wp2_with (go_at_call 12; refine HA.out.mono ?_; rintro e W1 ⟨rfl, hb1⟩)
    go_ret
    exact ⟨rfl, hb1⟩
  · have c0 : decide (n < 0) = false := decide_eq_false h0
    have c1 : decide (1000000 < n) = true := decide_eq_true h
    go_enter Tryd.func10, Tryd.ntmps10
    go_wp2_with (go_at_call 12; refine HA.out.mono ?_; rintro e W1 ⟨rfl, hb1⟩)
    go_ret
    exact ⟨rfl, hb1⟩
  · have c0 : decide (n < 0) = false := decide_eq_false h0
    have c1 : decide (1000000 < n) = false := decide_eq_false h1
    have c2 : decide (d < 0) = true := decide_eq_true h
    go_enter Tryd.func10, Tryd.ntmps10
    go_wp2_with (go_at_call 12; refine HA.out.mono ?_; rintro e W1 ⟨rfl, hb1⟩)
    go_ret
    exact ⟨rfl, hb1⟩
  · have c0 : decide (n < 0) = false := decide_eq_false h0
    have c1 : decide (1000000 < n) = false := decide_eq_false h1
    have c2 : decide (d < 0) = false := decide_eq_false h2
    have c3 : decide (8 < d) = true := decide_eq_true h
    go_enter Tryd.func10, Tryd.ntmps10
    go_wp2_with (go_at_call 12; refine HA.out.mono ?_; rintro e W1 ⟨rfl, hb1⟩)
    go_ret
    exact ⟨rfl, hb1⟩
  · have c0 : decide (n < 0) = false := decide_eq_false h0
    have c1 : decide (1000000 < n) = false := decide_eq_false h1
    have c2 : decide (d < 0) = false := decide_eq_false h2
    have c3 : decide (8 < d) = false := decide_eq_false h3
    have c4 : decide (p < 0) = true := decide_eq_true h
    go_enter Tryd.func10, Tryd.ntmps10
    go_wp2_with (go_at_call 12; refine HA.out.mono ?_; rintro e W1 ⟨rfl, hb1⟩)
    go_ret
    exact ⟨rfl, hb1⟩
  · have c0 : decide (n < 0) = false := decide_eq_false h0
    have c1 : decide (1000000 < n) = false := decide_eq_false h1
    have c2 : decide (d < 0) = false := decide_eq_false h2
    have c3 : decide (8 < d) = false := decide_eq_false h3
    have c4 : decide (p < 0) = false := decide_eq_false h4
    have c5 : decide (20 < p) = true := decide_eq_true h
    go_enter Tryd.func10, Tryd.ntmps10
    go_wp2_with (go_at_call 12; refine HA.out.mono ?_; rintro e W1 ⟨rfl, hb1⟩)
    go_ret
    exact ⟨rfl, hb1⟩
set_option maxHeartbeats 8000000 in
set_option maxRecDepth 100000 in
theorem digits_in (n d p : Nat) (w : World) (ht : Tab w) (hn : n ≤ 1000000) (hd : d ≤ 8) (hp : p ≤ 20) : Calls Tryd.prog 10 #[.int .i64 (n : Int), .int .i64 (d : Int), .int .i64 (p : Int)] w fun e w' => e = .returned (.bool true) ∧ Below w.heap.size w w' := by
  have HA := Aside0.mk (alive_calls w ht)
  have c0 : decide ((n : Int) < 0) = false := decide_eq_false (by omega)
  have c1 : decide (1000000 < (n : Int)) = false := decide_eq_false (by omega)
  have c2 : decide ((d : Int) < 0) = false := decide_eq_false (by omega)
  have c3 : decide (8 < (d : Int)) = false := decide_eq_false (by omega)
  have c4 : decide ((p : Int) < 0) = false := decide_eq_false (by omega)
  have c5 : decide (20 < (p : Int)) = false := decide_eq_false (by omega)
  have hns := num_size n hn
  have HZ0 := Aside0.mk (stem_zero n)
  obtain ⟨T, hT⟩ : ∃ T, numT (n : Int) = T := ⟨_, rfl⟩
  have H23 : Aside0 (∀ W, Calls Tryd.prog 23 #[.int .i64 (n : Int)] W fun e w' => e = .returned (.string T) ∧ Drawn0 W w') := ⟨fun W => by rw [← hT]; exact rnum_calls (n : Int) (by omega) (by omega) W⟩
  rw [hT] at hns HZ0
  obtain ⟨X, hX⟩ : ∃ X : Int, (n : Int) * 4294967296 = X := ⟨_, rfl⟩
  obtain ⟨Y, hY⟩ : ∃ Y : Int, ((n : Int) + 1) * 4294967296 = Y := ⟨_, rfl⟩
  have H24 : Aside0 (∀ W, Calls Tryd.prog 24 #[.int .i64 (n : Int)] W fun e w' => e = .returned (.int .i64 X) ∧ Drawn0 W w') := ⟨fun W => by
    have := rofi_calls (n : Int) W
    rw [show clip ((n : Int) * 4294967296) = X by rw [← hX]; unfold clip; rw [if_neg (by omega), if_neg (by omega)]] at this
    exact this⟩
  have H24b : Aside0 (∀ W, Calls Tryd.prog 24 #[.int .i64 ((n : Int) + 1)] W fun e w' => e = .returned (.int .i64 Y) ∧ Drawn0 W w') := ⟨fun W => by
    have := rofi_calls ((n : Int) + 1) W
    rw [show clip (((n : Int) + 1) * 4294967296) = Y by rw [← hY]; unfold clip; rw [if_neg (by omega), if_neg (by omega)]] at this
    exact this⟩
  have hv : vd (dec n) = n := dec_val n
  obtain ⟨a, ha⟩ : ∃ a, numS false (dec n) (List.replicate p 0 ++ [d]) = a := ⟨_, rfl⟩
  obtain ⟨b, hb⟩ : ∃ b, numS false (dec n) (List.replicate p 0 ++ [d + 1]) = b := ⟨_, rfl⟩
  obtain ⟨c, hc⟩ : ∃ c, numS true (dec n) (List.replicate p 0 ++ [d]) = c := ⟨_, rfl⟩
  have hab : a ≤ b := by rw [← ha, ← hb]; exact num_mono (by simp) (by rw [vd_tail, vd_tail]; omega)
  have hla := num_low (dec n) _ (by rw [hv]; exact hn) (dgt_tail p d (by omega))
  have hlb := num_low (dec n) _ (by rw [hv]; exact hn) (dgt_tail p (d + 1) (by omega))
  have hcn := num_neg (dec n) _ (by rw [hv]; exact hn) (dgt_tail p d (by omega))
  rw [ha, hv, hX, hY] at hla
  rw [hb, hv, hX, hY] at hlb
  rw [ha, hc] at hcn
  have HSZ := Aside0.mk (fun k => stem_size n k hn)
  have HP : Aside0 (∀ (neg : Bool) (e : Nat) (x : ByteArray) W, e < 10 → By x = (if neg = true then [45] else []) ++ (By (stem n p) ++ By (dg e)) → x.size ≤ 1000 → Calls Tryd.prog 19 #[.string x] W fun r w' => r = .returned (.tuple #[.int .i64 (numS neg (dec n) (List.replicate p 0 ++ [e])), .int .i64 0]) ∧ Below W.heap.size W w') := ⟨fun neg e x W he hx hs => by
    have := parse_calls x W (by omega)
    rw [dig_text neg n p e hn hp he x hx] at this
    exact this⟩
  have hd1 : (dg d).size = 1 := rfl
  have hd2 : (dg (d + 1)).size = 1 := rfl
  have hss := HSZ.out p
  have HA1 : Aside0 (∀ W, Calls Tryd.prog 19 #[.string (stem n p ++ dg d)] W fun e w' => e = .returned (.tuple #[.int .i64 a, .int .i64 0]) ∧ Below W.heap.size W w') := ⟨fun W => by
    rw [← ha]
    exact HP.out false d _ W (by omega) (by rw [by_append]; rfl) (by rw [ByteArray.size_append]; omega)⟩
  have HB1 : Aside0 (∀ W, Calls Tryd.prog 19 #[.string (stem n p ++ dg (d + 1))] W fun e w' => e = .returned (.tuple #[.int .i64 b, .int .i64 0]) ∧ Below W.heap.size W w') := ⟨fun W => by
    rw [← hb]
    exact HP.out false (d + 1) _ W (by omega) (by rw [by_append]; rfl) (by rw [ByteArray.size_append]; omega)⟩
  have HC1 : Aside0 (∀ W, Calls Tryd.prog 19 #[.string ((⟨#[45]⟩ : ByteArray) ++ stem n p ++ dg d)] W fun e w' => e = .returned (.tuple #[.int .i64 c, .int .i64 0]) ∧ Below W.heap.size W w') := ⟨fun W => by
    rw [← hc]
    exact HP.out true d _ W (by omega) (by rw [by_append, by_append, by_c45, if_pos rfl, List.append_assoc]) (by rw [ByteArray.size_append, ByteArray.size_append]; show 1 + (stem n p).size + (dg d).size ≤ 1000; omega)⟩
  have g1 : decide (b < a) = false := decide_eq_false (by omega)
  have g2 : decide (a < X) = false := decide_eq_false (by omega)
  have g3 : decide (Y ≤ b) = false := decide_eq_false (by omega)
  have ha1 : 0 ≤ a := by omega
  have ha2 : a ≤ 9007199254740992 := by omega
  have HCN := Aside0.mk hcn
  have hdig1 := fun W => dig_cut (d : Int) ((d : Int) + 1) d (by omega) rfl rfl W
  have hdig2 := fun W => dig_cut ((d : Int) + 1) ((d : Int) + 2) (d + 1) (by omega) (by omega) (by omega) W
  have hd9 : (d : Int) ≤ 8 := by omega
  clear ht hT hX hY hv ha hb hc hab hla hlb hcn HP hd1 hd2 hss
  go_enter Tryd.func10, Tryd.ntmps10
  go_upto_region 5 with (first | (go_at_call 12; refine HA.out.mono ?_; rintro e W1 ⟨rfl, hb1⟩) | (go_at_call 23; refine (H23.out _).mono ?_; rintro e w' ⟨rfl, ⟨nd, rfl⟩⟩))
  try rw [HZ0.out]
  have HBW : Aside0 (Below w.heap.size w (W1.drewN nd)) := ⟨pw_below_drewN hb1 _⟩
  clear hb1
  go_wp2
  go_loop [8, 9] (fun v8 v9 => ∃ i : Nat, i ≤ p ∧ v9 = .int .i64 (i : Int) ∧ v8 = .string (stem n i)) (fun _ v9 => p - (intOf v9).toNat)
  case atStart => exact ⟨0, Nat.zero_le _, rfl, rfl⟩
  case round =>
    obtain ⟨i, hi, rfl, rfl⟩ := hrel
    have hz1 : (stem n i).size ≤ 28 := by have := HSZ.out i; omega
    by_cases c6 : i < p
    · have c7 : decide ((i : Int) < (p : Int)) = true := decide_eq_true (by omega)
      have HS := Aside0.mk (stem_succ n i)
      go_wp2
      go_round
      case rel => exact ⟨i + 1, by omega, by go_num, by rw [HS.out]⟩
      case measure => simp [intOf]; omega
    · have c7 : decide ((i : Int) < (p : Int)) = false := decide_eq_false (by omega)
      obtain rfl : i = p := by omega
      have hd1 : (dg d).size ≤ 1 := Nat.le_refl 1
      have hd2 : (dg (d + 1)).size ≤ 1 := Nat.le_refl 1
      go_upto_region 12 with (first | (go_at_call 19; (with_reducible refine (HA1.out _).mono ?_); rintro e W3 ⟨rfl, hb3⟩) | (go_at_call 19; (with_reducible refine (HB1.out _).mono ?_); rintro e W4 ⟨rfl, hb4⟩) | (go_at_call 19; (with_reducible refine (HC1.out _).mono ?_); rintro e W5 ⟨rfl, hb5⟩))
      have HB5 : Aside0 (Below w.heap.size w W5) := ⟨by
        have h3 := HBW.out.trans (hb3.mono HBW.out.size)
        have h4 := h3.trans (hb4.mono h3.size)
        exact h4.trans (hb5.mono h4.size)⟩
      clear hb3 hb4 hb5 hdig1 hdig2
      go_upto_region 14 with (first | (go_at_call 16; refine (num_calls0 _ _).mono ?_; rintro e w' ⟨rfl, rfl⟩) | (go_at_call 24; (with_reducible refine (H24.out _).mono ?_); rintro e w' ⟨rfl, ⟨nd3, rfl⟩⟩) | (go_at_call 24; (with_reducible refine (H24b.out _).mono ?_); rintro e w' ⟨rfl, ⟨nd4, rfl⟩⟩))
      by_cases cc : c = -a
      · have c8 : (c == -a) = true := by simpa using cc
        clear cc
        go_wp2
        go_ret
        exact ⟨rfl, by repeat (first | exact HB5.out | apply pw_below_drewN)⟩
      · have c8 : (c == -a) = false := by simpa using cc
        have c9 : (c == -a - 1) = true := by have := HCN.out.resolve_left cc; simpa using this
        clear cc
        go_wp2
        go_ret
        exact ⟨rfl, by repeat (first | exact HB5.out | apply pw_below_drewN)⟩
theorem lawdigits_calls (n d p : Int) (w : World) (ht : Tab w) : Calls Tryd.prog 10 #[.int .i64 n, .int .i64 d, .int .i64 p] w fun e w' => e = .returned (.bool true) ∧ Below w.heap.size w w' := by
  by_cases h : (n < 0) ∨ (¬ n < 0 ∧ 1000000 < n) ∨ (¬ n < 0 ∧ ¬ 1000000 < n ∧ d < 0) ∨ (¬ n < 0 ∧ ¬ 1000000 < n ∧ ¬ d < 0 ∧ 8 < d) ∨ (¬ n < 0 ∧ ¬ 1000000 < n ∧ ¬ d < 0 ∧ ¬ 8 < d ∧ p < 0) ∨ (¬ n < 0 ∧ ¬ 1000000 < n ∧ ¬ d < 0 ∧ ¬ 8 < d ∧ ¬ p < 0 ∧ 20 < p)
  · exact digits_out n d p w ht h
  · obtain ⟨n, rfl⟩ : ∃ k : Nat, n = (k : Int) := ⟨n.toNat, by omega⟩
    obtain ⟨d, rfl⟩ : ∃ k : Nat, d = (k : Int) := ⟨d.toNat, by omega⟩
    obtain ⟨p, rfl⟩ : ∃ k : Nat, p = (k : Int) := ⟨p.toNat, by omega⟩
    exact digits_in n d p w ht (by omega) (by omega) (by omega)
end Go.Proofs.YtlifbogjjikhdaaDoor.Fl
end
section
namespace Go.Proofs.YtlifbogjjikhdaaDoor.floatsDigits
open Go.ChangeShapes Go.WideShapes Go.ChangeAt Go.RowKit
open Go.ChangeMaps (open_string shut_string)
open Go.Proofs.YtlifbogjjikhdaaDoor.Fl
set_option linter.unusedVariables false
set_option maxRecDepth 100000 in
theorem lifted (os : Os) (started : os.Started) (H : Type) (enc : TypeId × Value → H) :
    ReturnsInHanded {} Tryd.checked os 10 .any (fun w args => (Rows.floatsDigitsSpec.pre enc Tryd.prog Tryd.f10 [] false w args ∧ laidMetH Tryd.prog laidL w) ∧ sizedMet enc Tryd.prog Tryd.f10 (OpenSpec.ofChange Rows.floatsDigitsSpec) false w args)
      (Rows.floatsDigitsSpec.post enc Tryd.prog Tryd.f10 false true false false) := by
  refine returnsInHanded_of_change_and (C := Tryd.checked) (X := fun w _ => laidMetH Tryd.prog laidL w) (fun _ _ _ hh h => h.of_heap hh) own started (by kernel_rfl) Tryd.func10
    (ChangeSpec.witness_shaped (enc := enc) (C := Tryd.checked) (os := os) (X := fun w _ => laidMetH Tryd.prog laidL w) false (World.doorLaid Tryd.prog 24 os) #[.int .i64 0, .int .i64 0, .int .i64 0] 8 rfl (World.shaped_of_RefB (by kernel_rfl) (by kernel_rfl)) (by kernel_rfl) (by kernel_rfl) (by kernel_rfl) (door_met os _)) ?_
  intro W base args ds gs before hval0 hW _ hsz0 hL _
  have ht := tab_of hL
  have hval : ∀ (j : Nat) t v, Tryd.f10.params[j]? = some t → args[j]? = some v → Value.okWide Tryd.prog W .any base t v := hval0
  have hsz : (DataW.weightsEach Tryd.prog (Tryd.f10.params.toList ++ Rows.floatsDigitsSpec.plain.varTypes Tryd.prog) (ds ++ gs)).all (· ≤ reachBytes) = true := hsz0
  have hW' := hW
  obtain ⟨p, q, hA0, hV, rfl, hfz, hnd⟩ := hW
  have hA : DataW.TrodAll enc Tryd.prog W 0 (fun _ => true) true Tryd.f10.params.toList args.toList ds p := hA0
  rw [Tryd.params10] at hA hval hsz
  obtain ⟨v0, vs0, d0, ds0, p0, q0, hargs, rfl, rfl, h0, r0⟩ := trodAll_cons hA
  obtain ⟨v1, vs1, d1, ds1, p1, q1, rfl, rfl, rfl, h1, r1⟩ := trodAll_cons r0
  obtain ⟨v2, vs2, d2, ds2, p2, q2, rfl, rfl, rfl, h2, r2⟩ := trodAll_cons r1
  obtain ⟨rfl, rfl, rfl⟩ := trodAll_nil r2
  obtain rfl : args = #[v0, v1, v2] := by cases args; simp_all
  obtain ⟨rfl, rfl⟩ := trodVars_none hV
  obtain ⟨a0, rfl, rfl, rfl, w0⟩ := open_int Tryd.underlying3 (hval 0 3 v0 rfl rfl) h0
  have b0 : -9223372036854775808 ≤ a0 ∧ a0 ≤ 9223372036854775807 := int_in w0
  obtain ⟨a1, rfl, rfl, rfl, w1⟩ := open_int Tryd.underlying3 (hval 1 3 v1 rfl rfl) h1
  have b1 : -9223372036854775808 ≤ a1 ∧ a1 ≤ 9223372036854775807 := int_in w1
  obtain ⟨a2, rfl, rfl, rfl, w2⟩ := open_int Tryd.underlying3 (hval 2 3 v2 rfl rfl) h2
  have b2 : -9223372036854775808 ≤ a2 ∧ a2 ≤ 9223372036854775807 := int_in w2
  clear hA0 hval0 hsz0 hL
  refine (lawdigits_calls a0 a1 a2 W ht).mono fun e W' ⟨he, bel⟩ => ?_
  subst he
  exact ⟨_, rfl, _, _, _, [], _, [], hW', trodAll_mk1 (shut_bool Tryd.underlying4 _), (trodAll_cons_mk (shut_int Tryd.underlying3 w0) (trodAll_cons_mk (shut_int Tryd.underlying3 w1) (trodAll_cons_mk (shut_int Tryd.underlying3 w2) trodAll_mk0))), rfl, bel.frame _, fun h => by cases h⟩
theorem over : Rows.floatsDigitsRow.holds Tryd.pinned (OpenSpec.ofChange Rows.floatsDigitsSpec) :=
  OpenClaim.holds_of_wide 10 Tryd.f10 rfl rfl rfl rfl rfl rfl rfl ⟨rfl, rfl, rfl, rfl, rfl⟩ rfl rfl rfl rfl rfl (by kernel_rfl) Tryd.func10 (by kernel_rfl)
    (of_decide_eq_true (by kernel_rfl)) (by unfold Func.isWrapper; first | (rw [if_pos (by decide +kernel)]; kernel_rfl) | (rw [if_neg (by decide +kernel)]; exact ⟨rfl, rfl⟩))
    (fun os started H enc _ => lifted os started H enc)
theorem card_holds : Claim7.holds Tryd.pinned (.plain (OpenSpec.ofChange Rows.floatsDigitsSpec)) Rows.floatsDigitsCard :=
  Claim7.holds_tied_plain_at .later [] [.data, .data, .data] true (true, "d6d8c83535152071f5c39a6202c6aa14b76c6ab3078df765f5b24e7134d1c620") false
    over (fun _ h => by cases h) (by kernel_rfl) (fun _ h => by cases h) floatsDigits_row_tie rfl ⟨rfl, rfl⟩ (by kernel_rfl) rfl
    (fun f fn hf hfn => by
      obtain rfl : f = 10 := Option.some.inj ((show Tryd.prog.funcNamed "lysimeter/lysimeterlaw2.FloatsDigits" = some 10 by kernel_rfl).symm.trans hf) |>.symm
      obtain rfl : fn = Tryd.f10 := (Option.some.inj (Tryd.func10.symm.trans hfn)).symm
      exact ⟨by kernel_rfl, fun j t ht => by
        rw [Tryd.params10] at ht
        have hm : t ∈ [3, 3, 3] := by simpa using Array.mem_of_getElem? ht
        have hall : ([3, 3, 3].all fun u => !Tryd.prog.wantsStandIn u) = true := by kernel_rfl
        exact (show Tryd.prog.wantsStandIn t = false by simpa using List.all_eq_true.1 hall t hm)⟩)
    (by kernel_rfl)
theorem proved : Rows.FloatsDigitsCardSaid := card_holds
#print axioms proved
end Go.Proofs.YtlifbogjjikhdaaDoor.floatsDigits
namespace Go.Proofs.YtlifbogjjikhdaaDoor
theorem floatsDigits_card : Rows.FloatsDigitsCardSaid := floatsDigits.proved
end Go.Proofs.YtlifbogjjikhdaaDoor
end
