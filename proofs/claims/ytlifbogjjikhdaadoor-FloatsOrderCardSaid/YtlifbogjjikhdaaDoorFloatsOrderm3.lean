-- Laid together by wip/shake.py out of: FlParse FlParse2 QT FlAlive FlLOrder LawFloatsOrder
import Derived.Test.YtlifbogjjikhdaaDoorFloatsOrderm2
import Derived.Lib.Strings
import Derived.Deep.Quiet
import Derived.StillTail
import Derived.Deep.QuietTactic
import Derived.Tactics
import Derived.Below
import Derived.BigQuiet
import Derived.Laws.Cover2
import Derived.Laws.FloatArith
import Derived.Test.YtlifbogjjikhdaaDoorTie
import Derived.Test.YtlifbogjjikhdaaDoorCards
import Derived.SevenTiedAt
section
namespace Go.Proofs.YtlifbogjjikhdaaDoor.Fl
open Go.RowKit Go.Proofs.YtlifbogjjikhdaaDoorW.PrintWords Go.Proofs.YtlifbogjjikhdaaDoorW.PrintLast Go.Proofs.YtlifbogjjikhdaaDoorW.PrintMore
set_option linter.unusedVariables false
open Go.Proofs.YtlifbogjjikhdaaDoor.FL
theorem by_extract (s : ByteArray) (a b : Nat) : By (s.extract a b) = ((By s).drop a).take (b - a) := by
  rw [By, ← ByteArray.toList_eq]
  exact Lib.extract_toList s a b
theorem by_rest (s : ByteArray) (a : Nat) : By (s.extract a s.size) = (By s).drop a := by
  rw [by_extract]
  exact List.take_of_length_le (by rw [List.length_drop, size_by]; exact Nat.le_refl _)
theorem size_rest (s : ByteArray) (a : Nat) (h : a ≤ s.size) : (s.extract a s.size).size = s.size - a := by
  rw [← size_by, by_rest, List.length_drop, size_by]
def headIs (c : UInt8) (l : List UInt8) : Bool := l.head? == some c
theorem hp_calls (c : UInt8) (s : ByteArray) (hs : s.size ≤ 140737488351232) (w : World) : Calls Tryd.prog 33 #[.string s, .string ⟨#[c]⟩] w fun e w' => e = .returned (.bool (headIs c (By s))) ∧ Drawn0 w w' := by
  refine strings_HasPrefix.calls s ⟨#[c]⟩ _ w ?_
  have e1 : ((⟨#[c]⟩ : ByteArray).size : Int) = 1 := rfl
  unfold strings_HasPrefix.f stringslite_HasPrefix.f
  rw [e1]
  cases hb : By s with
  | nil =>
    have : s.size = 0 := by rw [← size_by, hb]; rfl
    rw [if_neg (by omega)]
    rfl
  | cons x l =>
    have hz : s.size = l.length + 1 := by rw [← size_by, hb]; rfl
    rw [if_pos (by omega), if_pos (by omega), if_pos (by omega)]
    have e2 : (s.extract 0 (1 : Int).toNat).toList = [x] := by
      have := by_extract s 0 1
      rw [hb] at this
      rw [ByteArray.toList_eq]
      exact this
    have e3 : (⟨#[c]⟩ : ByteArray).toList = [c] := by rw [ByteArray.toList_eq]
    rw [e2, e3]
    show some ([x] == [c]) = some (headIs c (x :: l))
    congr 1
    unfold headIs
    rw [Bool.eq_iff_iff, beq_iff_eq, beq_iff_eq]
    simp
theorem or_32 (f w : Nat) (hf : f < 4294967296) (hw : w < 4294967296) : bits .or .u64 (f : Int) (IntKind.u64.wrap ((w : Int) * 4294967296)) = ((w * 4294967296 + f : Nat) : Int) := by
  rw [IntKind.wrap_u64, Int.emod_eq_of_lt (by omega) (by omega), show ((w : Int) * 4294967296) = ((2 ^ 32 * w : Nat) : Int) by omega, bits_or_u64_nat _ _ (by omega) (by omega), Nat.or_comm, ← Nat.two_pow_add_eq_or_of_lt (i := 32) (by omega)]
  omega
set_option maxHeartbeats 8000000 in
set_option maxRecDepth 100000 in
theorem parse_neg (s : ByteArray) (w : World) (hs : s.size ≤ 140737488351232) (h0 : By s ≠ [110, 97, 110]) (hn : headIs 45 (By s) = true) (r : Int × Int) (t : ByteArray) (ht : s.extract 1 s.size = t) (hts : t.size ≤ 140737488351232) (hT : parseT true (By t) = r) : Calls Tryd.prog 19 #[.string s] w fun e w' => e = .returned (.tuple #[.int .i64 r.1, .int .i64 r.2]) ∧ Below w.heap.size w w' := by
  have d0 : (s.toList == [110, 97, 110]) = false := by rw [ByteArray.toList_eq]; simpa using h0
  have HS := Aside0.mk hs
  have HTS := Aside0.mk hts
  have HT := Aside0.mk hT
  have HN := Aside0.mk hn
  have hp0 : (1 : Int) ≤ (s.size : Int) := by
    have h1 : By s ≠ [] := by intro z; rw [z] at hn; exact absurd hn (by decide)
    have h2 := List.length_pos_iff.mpr h1
    rw [size_by] at h2
    omega
  clear hn
  clear h0 hs hts hT
  go_enter Tryd.func19, Tryd.ntmps19
  go_wp2
  refine wp_scope_jumps 0 (fun a' w' => r = ((0 : Int), (4 : Int)) ∧ Below w.heap.size w w' ∧ ∃ (u0 u1 u2 u3 u4 u5 u6 u7 u8 u9 u10 u11 u12 u13 u14 u15 u16 u17 u18 u19 u20 u21 u22 u23 u24 u25 u26 u27 u28 u29 u30 u31 u32 u33 u34 u35 u36 u37 u38 u39 u40 u41 u42 u43 u44 u45 u46 u47 u48 u49 u50 u51 u52 u53 u54 u55 u56 u57 u58 u59 u60 u61 u62 u63 u64 u65 u66 u67 u68 : Value), a' = { tmps := #[u0, u1, u2, u3, u4, u5, u6, u7, u8, u9, u10, u11, u12, u13, u14, u15, u16, u17, u18, u19, u20, u21, u22, u23, u24, u25, u26, u27, u28, u29, u30, u31, u32, u33, u34, u35, u36, u37, u38, u39, u40, u41, u42, u43, u44, u45, u46, u47, u48, u49, u50, u51, u52, u53, u54, u55, u56, u57, u58, u59, u60, u61, u62, u63, u64, u65, u66, u67, u68], defers := [] }) (fun _ _ => 0) rfl ?_ ?_
  · go_upto_region 9 with (go_at_call 33; (with_reducible refine (hp_calls _ _ HS.out _).mono ?_); rw [HN.out]; rintro e w' ⟨rfl, ⟨nd, rfl⟩⟩)
    try rw [ht]
    clear ht
    obtain ⟨W1, hW1⟩ : ∃ W1, w.drewN nd = W1 := ⟨_, rfl⟩
    rw [hW1]
    have HBW : Aside0 (Below w.heap.size w W1) := ⟨by rw [← hW1]; exact pw_below_drewN (Below.refl _ _) _⟩
    clear hW1
    by_cases c1 : By t = [105, 110, 102]
    · have d1 : (t.toList == [105, 110, 102]) = true := by rw [ByteArray.toList_eq]; exact beq_iff_eq.mpr c1
      have hr2 : r = (if true = true then -9223372036854775808 else 9223372036854775807, 0) := by rw [← HT.out]; unfold parseT; rw [if_pos c1]
      have hcz : (if true = true then -9223372036854775808 else 9223372036854775807 : Int) = cutZ 18446744073709551614 false true := by decide +kernel
      rw [hcz] at hr2
      subst hr2
      clear hcz c1
      go_wp2_with (go_at_call 28; (with_reducible refine (cut_quiet _ _ _ _ (by decide) (by decide)).mono ?_); rintro e w' ⟨rfl, ⟨nd2, rfl⟩⟩)
      simp only [Exit.jump]
      go_ret2
      exact ⟨rfl, pw_below_drewN HBW.out _⟩
    · have d1 : (t.toList == [105, 110, 102]) = false := by rw [ByteArray.toList_eq]; simpa using c1
      have HT2 : Aside0 ((if dlen (By t) = 0 ∨ 30 < dlen (By t) then ((0 : Int), (4 : Int))
      else match (By t).drop (dlen (By t)) with
        | [] => (numS true (vals ((By t).take (dlen (By t)))) [], 0)
        | c :: m => if c = 46 then (if dlen m = 0 ∨ 30 < dlen m ∨ m.length ≠ dlen m then ((0 : Int), (4 : Int)) else (numS true (vals ((By t).take (dlen (By t)))) (vals m), 0)) else ((0 : Int), (4 : Int))) = r) := ⟨by have := HT.out; unfold parseT at this; rwa [if_neg c1] at this⟩
      clear c1 HT
      obtain ⟨n, hn⟩ : ∃ n, dlen (By t) = n := ⟨_, rfl⟩
      have hnl : n ≤ t.size := by rw [← hn, ← size_by]; exact dlen_le _
      have HDIG : Aside0 (∀ W, Calls Tryd.prog 34 #[.string t] W fun e w' => e = .returned (.tuple #[.string (t.extract 0 n), .string (t.extract n t.size), .bool (decide (0 < n) && decide (n ≤ 30))]) ∧ Drawn0 W w') := ⟨by rw [← hn]; exact fun W => digits_calls t HTS.out W⟩
      have HTD : Aside0 (∀ c ∈ (By t).take n, isD c = true) := ⟨by rw [← hn]; exact take_dig _⟩
      rw [hn] at HT2
      clear hn
      by_cases c2 : n = 0 ∨ 30 < n
      · have d2 : (decide (0 < n) && decide (n ≤ 30)) = false := by rw [Bool.eq_false_iff]; intro z; rw [Bool.and_eq_true, decide_eq_true_eq, decide_eq_true_eq] at z; omega
        rw [d2] at HDIG
        have hr2 : r = (0, 4) := by rw [← HT2.out, if_pos c2]
        subst hr2
        clear c2 d2
        go_wp2_with (go_at_call 34; (with_reducible refine (HDIG.out _).mono ?_); rintro e w' ⟨rfl, ⟨nd2, rfl⟩⟩)
        go_step3
        exact ⟨rfl, rfl, pw_below_drewN HBW.out _, _, _, _, _, _, _, _, _, _, _, _, _, _, _, _, _, _, _, _, _, _, _, _, _, _, _, _, _, _, _, _, _, _, _, _, _, _, _, _, _, _, _, _, _, _, _, _, _, _, _, _, _, _, _, _, _, _, _, _, _, _, _, _, _, _, _, _, _, _, rfl⟩
      · have d2 : (decide (0 < n) && decide (n ≤ 30)) = true := by rw [Bool.and_eq_true, decide_eq_true_eq, decide_eq_true_eq]; omega
        rw [d2] at HDIG
        rw [if_neg c2] at HT2
        have hn30 : n ≤ 30 := by omega
        obtain ⟨row, hrow⟩ : ∃ row, t.extract 0 n = row := ⟨_, rfl⟩
        obtain ⟨rest, hrest⟩ : ∃ rest, t.extract n t.size = rest := ⟨_, rfl⟩
        have hbr : By row = (By t).take n := by rw [← hrow, by_extract, List.drop_zero, Nat.sub_zero]
        have hbs : By rest = (By t).drop n := by rw [← hrest, by_rest]
        have hss : rest.size ≤ 140737488351232 := by rw [← size_by, hbs, List.length_drop, size_by]; have := HTS.out; omega
        have hrs : row.size ≤ 140737488351232 := by rw [← size_by, hbr, List.length_take, size_by]; omega
        rw [hrow, hrest] at HDIG
        rw [← hbr] at HTD HT2
        rw [← hbs] at HT2
        have HWH : Aside0 (∀ W, Calls Tryd.prog 36 #[.string row] W fun e w' => e = .returned (.int .u64 ((wholeN (By row) : Nat) : Int)) ∧ Drawn0 W w') := ⟨fun W => whole_calls row hrs HTD.out W⟩
        have HSS := Aside0.mk hss
        clear hrow hrest hbr hbs hrs hss c2 d2 hn30 hnl
        by_cases c3 : By rest = []
        · have d3 : rest.toList = [] := by rw [ByteArray.toList_eq]; exact c3
          have d3' : (!rest.toList.isEmpty) = false := by rw [d3]; rfl
          have d3'' : (rest.toList == []) = true := by rw [d3]; rfl
          rw [c3] at HT2
          have hr2 : r = (numS true (vals (By row)) [], 0) := HT2.out.symm
          clear c3 HT2
          subst hr2
          have HFR : Aside0 (∀ W, Calls Tryd.prog 35 #[.string ⟨#[]⟩] W fun e w' => e = .returned (.tuple #[.int .u64 ((fracN [] : Nat) : Int), .bool (leftN [])]) ∧ Below W.heap.size W w') := ⟨fun W => frac_calls ⟨#[]⟩ W (by decide) [] rfl (fun x hx => by cases hx)⟩
          obtain ⟨wh, hwh⟩ : ∃ x, wholeN (By row) = x := ⟨_, rfl⟩
          rw [hwh] at HWH
          have HWV : Aside0 (wholeN (By row) = wh) := ⟨hwh⟩
          obtain ⟨fr, hfr⟩ : ∃ x, fracN [] = x := ⟨_, rfl⟩
          obtain ⟨lf, hlf⟩ : ∃ x, leftN [] = x := ⟨_, rfl⟩
          rw [hfr, hlf] at HFR
          have hfr4 : fr < 4294967296 := by rw [← hfr]; exact frac_lt (fun x hx => by cases hx)
          have HNE : Aside0 (numS true (vals (By row)) [] = cutS (vd (vals (By row)) * 4294967296 + fr) lf true) := ⟨by rw [numS_eq, hfr, hlf]⟩
          clear hwh hfr hlf
          by_cases c9 : 4294967296 ≤ wh
          · have d9 : decide ((4294967296 : Int) ≤ (wh : Int)) = true := decide_eq_true (by omega)
            have hv : numS true (vals (By row)) [] = cutZ 18446744073709551614 lf true := by
              have h1 : 4294967296 ≤ vd (vals (By row)) := by have := HWV.out; unfold wholeN at this; omega
              rw [HNE.out, cut_great _ _ _ (by omega)]
              unfold cutZ
              rw [cut_great _ _ _ (by decide)]
            have HV := Aside0.mk hv
            clear hv hfr4
            go_wp2_with (first | (go_at_call 34; (with_reducible refine (HDIG.out _).mono ?_); rintro e w' ⟨rfl, ⟨nd2, rfl⟩⟩) | (go_at_call 35; (with_reducible refine (HFR.out _).mono ?_); rintro e w3 ⟨rfl, hb3⟩; have HB3 := Aside0.mk hb3; clear hb3) | (go_at_call 36; (with_reducible refine (HWH.out _).mono ?_); rintro e w' ⟨rfl, ⟨nd4, rfl⟩⟩) | (go_at_call 28; (with_reducible refine (cut_quiet _ _ _ _ (by decide) (by decide)).mono ?_); rintro e w' ⟨rfl, ⟨nd5, rfl⟩⟩))
            simp only [Exit.jump]
            go_ret2
            exact ⟨by rw [HV.out]; rfl, by
              have hq : Below w.heap.size w (W1.drewN nd2) := pw_below_drewN HBW.out _
              have h5 := hq.trans (HB3.out.mono hq.size)
              repeat (first | exact h5 | apply pw_below_drewN)⟩
          · have d9 : decide ((4294967296 : Int) ≤ (wh : Int)) = false := decide_eq_false (by omega)
            have hor := or_32 fr wh hfr4 (by omega)
            have hv : numS true (vals (By row)) [] = cutZ ((wh * 4294967296 + fr : Nat) : Int) lf true := by
              have h1 : vd (vals (By row)) = wh := by have := HWV.out; unfold wholeN at this; omega
              rw [HNE.out, h1]
              rfl
            have hlt : 0 ≤ ((wh * 4294967296 + fr : Nat) : Int) ∧ ((wh * 4294967296 + fr : Nat) : Int) < 18446744073709551616 := by omega
            have HCU : Aside0 (∀ W, Calls Tryd.prog 28 #[.int .u64 (bits .or .u64 (fr : Int) (IntKind.u64.wrap ((wh : Int) * 4294967296))), .bool lf, .bool true] W fun e w' => e = .returned (.int .i64 (cutZ ((wh * 4294967296 + fr : Nat) : Int) lf true)) ∧ ∃ m, w' = W.drewN m) := ⟨fun W => by rw [hor]; exact cut_quiet _ _ _ _ hlt.1 hlt.2⟩
            have HV := Aside0.mk hv
            clear hv hor hlt hfr4 c9
            go_wp2_with (first | (go_at_call 34; (with_reducible refine (HDIG.out _).mono ?_); rintro e w' ⟨rfl, ⟨nd2, rfl⟩⟩) | (go_at_call 35; (with_reducible refine (HFR.out _).mono ?_); rintro e w3 ⟨rfl, hb3⟩; have HB3 := Aside0.mk hb3; clear hb3) | (go_at_call 36; (with_reducible refine (HWH.out _).mono ?_); rintro e w' ⟨rfl, ⟨nd4, rfl⟩⟩) | (go_at_call 28; (with_reducible refine (HCU.out _).mono ?_); rintro e w' ⟨rfl, ⟨nd5, rfl⟩⟩))
            simp only [Exit.jump]
            go_ret2
            exact ⟨by rw [HV.out]; rfl, by
              have hq : Below w.heap.size w (W1.drewN nd2) := pw_below_drewN HBW.out _
              have h5 := hq.trans (HB3.out.mono hq.size)
              repeat (first | exact h5 | apply pw_below_drewN)⟩
        · have d3 : (rest.toList == []) = false := by rw [ByteArray.toList_eq]; simpa using c3
          have d3' : (!rest.toList.isEmpty) = true := by rw [ByteArray.toList_eq]; cases hq : By rest with | nil => exact absurd hq c3 | cons a l => simp [hq]
          have d3n : rest.toList ≠ [] := by rw [ByteArray.toList_eq]; exact c3
          have hp : 0 < rest.size := by rw [← size_by]; exact List.length_pos_iff.mpr c3
          have hg := bytes_get rest 0 hp
          rw [List.drop_zero] at hg
          rw [show rest.data.toList = By rest from rfl] at hg
          rw [hg] at HT2
          have HGG := Aside0.mk hg
          clear hg c3
          by_cases c4 : rest[0] = 46
          · have d4 : ((rest[0].toNat : Int) == 46) = true := by rw [c4]; rfl
            have d4' : ((rest[0].toNat : Int) != 46) = false := by rw [c4]; rfl
            have HT3 : Aside0 ((if dlen ((By rest).drop 1) = 0 ∨ 30 < dlen ((By rest).drop 1) ∨ ((By rest).drop 1).length ≠ dlen ((By rest).drop 1) then ((0 : Int), (4 : Int)) else (numS true (vals (By row)) (vals ((By rest).drop 1)), 0)) = r) := ⟨by have := HT2.out; dsimp only at this; rw [if_pos c4] at this; exact this⟩
            clear c4 HT2
            obtain ⟨tt, htt⟩ : ∃ tt, rest.extract 1 rest.size = tt := ⟨_, rfl⟩
            have hbt : By tt = (By rest).drop 1 := by rw [← htt, by_rest]
            have hts : tt.size ≤ 140737488351232 := by rw [← size_by, hbt, List.length_drop, size_by]; have := HSS.out; omega
            rw [← hbt] at HT3
            have HTT := Aside0.mk htt
            obtain ⟨n2, hn2⟩ : ∃ n, dlen (By tt) = n := ⟨_, rfl⟩
            have HD2 : Aside0 (∀ W, Calls Tryd.prog 34 #[.string tt] W fun e w' => e = .returned (.tuple #[.string (tt.extract 0 n2), .string (tt.extract n2 tt.size), .bool (decide (0 < n2) && decide (n2 ≤ 30))]) ∧ Drawn0 W w') := ⟨by rw [← hn2]; exact fun W => digits_calls tt hts W⟩
            have HTD2 : Aside0 (∀ c ∈ (By tt).take n2, isD c = true) := ⟨by rw [← hn2]; exact take_dig _⟩
            rw [hn2] at HT3
            have hsz : (By tt).length = tt.size := size_by _
            have HD1 : Aside0 (∀ W, Calls Tryd.prog 34 #[.string (rest.extract 1 rest.size)] W fun e w' => e = .returned (.tuple #[.string (tt.extract 0 n2), .string (tt.extract n2 tt.size), .bool (decide (0 < n2) && decide (n2 ≤ 30))]) ∧ Drawn0 W w') := ⟨by rw [htt]; exact HD2.out⟩
            have hp1 : (1 : Int) ≤ (rest.size : Int) := by omega
            have hn2l : n2 ≤ tt.size := by rw [← hn2, ← size_by]; exact dlen_le _
            clear hn2 hbt hts htt
            by_cases c5 : n2 = 0 ∨ 30 < n2
            · have d5 : (decide (0 < n2) && decide (n2 ≤ 30)) = false := by rw [Bool.eq_false_iff]; intro z; rw [Bool.and_eq_true, decide_eq_true_eq, decide_eq_true_eq] at z; omega
              rw [d5] at HD1
              have hr2 : r = (0, 4) := by rw [← HT3.out, if_pos (by omega)]
              subst hr2
              clear c5 d5 hsz hn2l
              go_wp2_with (first | (go_at_call 34; (with_reducible refine (HDIG.out _).mono ?_); rintro e w' ⟨rfl, ⟨nd2, rfl⟩⟩) | (go_at_call 34; (with_reducible refine (HD1.out _).mono ?_); rintro e w' ⟨rfl, ⟨nd3, rfl⟩⟩))
              go_step3
              exact ⟨rfl, rfl, by first | exact pw_below_drewN HBW.out _ | exact pw_below_drewN (pw_below_drewN HBW.out _) _, _, _, _, _, _, _, _, _, _, _, _, _, _, _, _, _, _, _, _, _, _, _, _, _, _, _, _, _, _, _, _, _, _, _, _, _, _, _, _, _, _, _, _, _, _, _, _, _, _, _, _, _, _, _, _, _, _, _, _, _, _, _, _, _, _, _, _, _, _, rfl⟩
            · have d5 : (decide (0 < n2) && decide (n2 ≤ 30)) = true := by rw [Bool.and_eq_true, decide_eq_true_eq, decide_eq_true_eq]; omega
              rw [d5] at HD1
              obtain ⟨more, hmore⟩ : ∃ more, tt.extract 0 n2 = more := ⟨_, rfl⟩
              obtain ⟨lst, hlst⟩ : ∃ lst, tt.extract n2 tt.size = lst := ⟨_, rfl⟩
              have hbm : By more = (By tt).take n2 := by rw [← hmore, by_extract, List.drop_zero, Nat.sub_zero]
              have hbl : By lst = (By tt).drop n2 := by rw [← hlst, by_rest]
              rw [hmore, hlst] at HD1
              by_cases c6 : tt.size = n2
              · have hl0 : By lst = [] := by rw [hbl]; exact List.drop_of_length_le (by rw [hsz]; omega)
                have d6 : lst.toList = [] := by rw [ByteArray.toList_eq]; exact hl0
                have d6' : (!lst.toList.isEmpty) = false := by rw [d6]; rfl
                have d6'' : (lst.toList == []) = true := by rw [d6]; rfl
                have hmt : By more = By tt := by rw [hbm]; exact List.take_of_length_le (by rw [hsz]; omega)
                rw [← hbm, hmt] at HTD2
                have hr2 : r = (numS true (vals (By row)) (vals (By tt)), 0) := by rw [← HT3.out, if_neg (by omega)]
                have hms : more.size ≤ 1000 := by rw [← size_by, hmt, hsz]; omega
                subst hr2
                have HFR : Aside0 (∀ W, Calls Tryd.prog 35 #[.string more] W fun e w' => e = .returned (.tuple #[.int .u64 ((fracN (vals (By tt)) : Nat) : Int), .bool (leftN (vals (By tt)))]) ∧ Below W.heap.size W w') := ⟨by
                  have hq : ∀ c ∈ By more, isD c = true := by rw [hmt]; exact HTD2.out
                  have hq2 := vals_back hq
                  rw [show vals (By more) = vals (By tt) by rw [hmt]] at hq2
                  exact fun W => frac_calls more W hms (vals (By tt)) hq2 (vals_dgt HTD2.out)⟩
                have HDG2 : Aside0 (dgt (vals (By tt))) := ⟨vals_dgt HTD2.out⟩
                clear hmore hlst hbm hbl c5 d5 c6 hl0 hmt hms HT3 hsz hn2l
                obtain ⟨wh, hwh⟩ : ∃ x, wholeN (By row) = x := ⟨_, rfl⟩
                rw [hwh] at HWH
                have HWV : Aside0 (wholeN (By row) = wh) := ⟨hwh⟩
                obtain ⟨fr, hfr⟩ : ∃ x, fracN (vals (By tt)) = x := ⟨_, rfl⟩
                obtain ⟨lf, hlf⟩ : ∃ x, leftN (vals (By tt)) = x := ⟨_, rfl⟩
                rw [hfr, hlf] at HFR
                have hfr4 : fr < 4294967296 := by rw [← hfr]; exact frac_lt HDG2.out
                have HNE : Aside0 (numS true (vals (By row)) (vals (By tt)) = cutS (vd (vals (By row)) * 4294967296 + fr) lf true) := ⟨by rw [numS_eq, hfr, hlf]⟩
                clear hwh hfr hlf
                by_cases c9 : 4294967296 ≤ wh
                · have d9 : decide ((4294967296 : Int) ≤ (wh : Int)) = true := decide_eq_true (by omega)
                  have hv : numS true (vals (By row)) (vals (By tt)) = cutZ 18446744073709551614 lf true := by
                    have h1 : 4294967296 ≤ vd (vals (By row)) := by have := HWV.out; unfold wholeN at this; omega
                    rw [HNE.out, cut_great _ _ _ (by omega)]
                    unfold cutZ
                    rw [cut_great _ _ _ (by decide)]
                  have HV := Aside0.mk hv
                  clear hv hfr4
                  go_wp2_with (first | (go_at_call 34; (with_reducible refine (HDIG.out _).mono ?_); rintro e w' ⟨rfl, ⟨nd2, rfl⟩⟩) | (go_at_call 34; (with_reducible refine (HD1.out _).mono ?_); rintro e w' ⟨rfl, ⟨nd3, rfl⟩⟩) | (go_at_call 35; (with_reducible refine (HFR.out _).mono ?_); rintro e w3 ⟨rfl, hb3⟩; have HB3 := Aside0.mk hb3; clear hb3) | (go_at_call 36; (with_reducible refine (HWH.out _).mono ?_); rintro e w' ⟨rfl, ⟨nd4, rfl⟩⟩) | (go_at_call 28; (with_reducible refine (cut_quiet _ _ _ _ (by decide) (by decide)).mono ?_); rintro e w' ⟨rfl, ⟨nd5, rfl⟩⟩))
                  simp only [Exit.jump]
                  go_ret2
                  exact ⟨by rw [HV.out]; rfl, by
                    have hq : Below w.heap.size w (W1.drewN (nd2 + nd3)) := pw_below_drewN HBW.out _
                    have h5 := hq.trans (HB3.out.mono hq.size)
                    repeat (first | exact h5 | apply pw_below_drewN)⟩
                · have d9 : decide ((4294967296 : Int) ≤ (wh : Int)) = false := decide_eq_false (by omega)
                  have hor := or_32 fr wh hfr4 (by omega)
                  have hv : numS true (vals (By row)) (vals (By tt)) = cutZ ((wh * 4294967296 + fr : Nat) : Int) lf true := by
                    have h1 : vd (vals (By row)) = wh := by have := HWV.out; unfold wholeN at this; omega
                    rw [HNE.out, h1]
                    rfl
                  have hlt : 0 ≤ ((wh * 4294967296 + fr : Nat) : Int) ∧ ((wh * 4294967296 + fr : Nat) : Int) < 18446744073709551616 := by omega
                  have HCU : Aside0 (∀ W, Calls Tryd.prog 28 #[.int .u64 (bits .or .u64 (fr : Int) (IntKind.u64.wrap ((wh : Int) * 4294967296))), .bool lf, .bool true] W fun e w' => e = .returned (.int .i64 (cutZ ((wh * 4294967296 + fr : Nat) : Int) lf true)) ∧ ∃ m, w' = W.drewN m) := ⟨fun W => by rw [hor]; exact cut_quiet _ _ _ _ hlt.1 hlt.2⟩
                  have HV := Aside0.mk hv
                  clear hv hor hlt hfr4 c9
                  go_wp2_with (first | (go_at_call 34; (with_reducible refine (HDIG.out _).mono ?_); rintro e w' ⟨rfl, ⟨nd2, rfl⟩⟩) | (go_at_call 34; (with_reducible refine (HD1.out _).mono ?_); rintro e w' ⟨rfl, ⟨nd3, rfl⟩⟩) | (go_at_call 35; (with_reducible refine (HFR.out _).mono ?_); rintro e w3 ⟨rfl, hb3⟩; have HB3 := Aside0.mk hb3; clear hb3) | (go_at_call 36; (with_reducible refine (HWH.out _).mono ?_); rintro e w' ⟨rfl, ⟨nd4, rfl⟩⟩) | (go_at_call 28; (with_reducible refine (HCU.out _).mono ?_); rintro e w' ⟨rfl, ⟨nd5, rfl⟩⟩))
                  simp only [Exit.jump]
                  go_ret2
                  exact ⟨by rw [HV.out]; rfl, by
                    have hq : Below w.heap.size w (W1.drewN (nd2 + nd3)) := pw_below_drewN HBW.out _
                    have h5 := hq.trans (HB3.out.mono hq.size)
                    repeat (first | exact h5 | apply pw_below_drewN)⟩
              · have hl0 : By lst ≠ [] := by rw [hbl]; intro z; have := congrArg List.length z; rw [List.length_drop, hsz] at this; simp at this; omega
                have d6 : (lst.toList == []) = false := by rw [ByteArray.toList_eq]; simpa using hl0
                have d6' : (!lst.toList.isEmpty) = true := by rw [ByteArray.toList_eq]; cases hq : By lst with | nil => exact absurd hq hl0 | cons a l => simp [hq]
                have d6n : lst.toList ≠ [] := by rw [ByteArray.toList_eq]; exact hl0
                have hr2 : r = (0, 4) := by rw [← HT3.out, if_pos (by omega)]
                subst hr2
                clear hmore hlst hbm hbl c5 d5 c6 hl0 hsz hn2l
                go_wp2_with (first | (go_at_call 34; (with_reducible refine (HDIG.out _).mono ?_); rintro e w' ⟨rfl, ⟨nd2, rfl⟩⟩) | (go_at_call 34; (with_reducible refine (HD1.out _).mono ?_); rintro e w' ⟨rfl, ⟨nd3, rfl⟩⟩))
                go_step3
                exact ⟨rfl, rfl, by first | exact pw_below_drewN HBW.out _ | exact pw_below_drewN (pw_below_drewN HBW.out _) _, _, _, _, _, _, _, _, _, _, _, _, _, _, _, _, _, _, _, _, _, _, _, _, _, _, _, _, _, _, _, _, _, _, _, _, _, _, _, _, _, _, _, _, _, _, _, _, _, _, _, _, _, _, _, _, _, _, _, _, _, _, _, _, _, _, _, _, _, _, rfl⟩
          · have d4 : ((rest[0].toNat : Int) == 46) = false := by rw [beq_eq_false_iff_ne]; intro z; exact c4 (UInt8.toNat_inj.mp (by simpa using (Int.ofNat.inj z)))
            have d4' : ((rest[0].toNat : Int) != 46) = true := by rw [bne_iff_ne]; intro z; exact c4 (UInt8.toNat_inj.mp (by simpa using (Int.ofNat.inj z)))
            have hr2 : r = (0, 4) := by have := HT2.out; dsimp only at this; rw [if_neg c4] at this; exact this.symm
            subst hr2
            clear c4
            go_wp2_with (go_at_call 34; (with_reducible refine (HDIG.out _).mono ?_); rintro e w' ⟨rfl, ⟨nd2, rfl⟩⟩)
            go_step3
            exact ⟨rfl, rfl, pw_below_drewN HBW.out _, _, _, _, _, _, _, _, _, _, _, _, _, _, _, _, _, _, _, _, _, _, _, _, _, _, _, _, _, _, _, _, _, _, _, _, _, _, _, _, _, _, _, _, _, _, _, _, _, _, _, _, _, _, _, _, _, _, _, _, _, _, _, _, _, _, _, _, _, _, rfl⟩
  · rintro a' w' ⟨hr, hd, u0, u1, u2, u3, u4, u5, u6, u7, u8, u9, u10, u11, u12, u13, u14, u15, u16, u17, u18, u19, u20, u21, u22, u23, u24, u25, u26, u27, u28, u29, u30, u31, u32, u33, u34, u35, u36, u37, u38, u39, u40, u41, u42, u43, u44, u45, u46, u47, u48, u49, u50, u51, u52, u53, u54, u55, u56, u57, u58, u59, u60, u61, u62, u63, u64, u65, u66, u67, u68, rfl⟩
    subst hr
    go_wp2
    simp only [Exit.jump]
    go_ret2
    exact ⟨rfl, hd⟩
end Go.Proofs.YtlifbogjjikhdaaDoor.Fl
end
section
namespace Go.Proofs.YtlifbogjjikhdaaDoor.Fl
open Go.RowKit Go.Proofs.YtlifbogjjikhdaaDoorW.PrintWords Go.Proofs.YtlifbogjjikhdaaDoorW.PrintLast Go.Proofs.YtlifbogjjikhdaaDoorW.PrintMore
set_option linter.unusedVariables false
open Go.Proofs.YtlifbogjjikhdaaDoor.FL
set_option maxHeartbeats 8000000 in
set_option maxRecDepth 100000 in
theorem parse_plus (s : ByteArray) (w : World) (hs : s.size ≤ 140737488351232) (h0 : By s ≠ [110, 97, 110]) (hn : headIs 45 (By s) = false) (hn2 : headIs 43 (By s) = true) (r : Int × Int) (t : ByteArray) (ht : s.extract 1 s.size = t) (hts : t.size ≤ 140737488351232) (hT : parseT false (By t) = r) : Calls Tryd.prog 19 #[.string s] w fun e w' => e = .returned (.tuple #[.int .i64 r.1, .int .i64 r.2]) ∧ Below w.heap.size w w' := by
  have d0 : (s.toList == [110, 97, 110]) = false := by rw [ByteArray.toList_eq]; simpa using h0
  have HS := Aside0.mk hs
  have HTS := Aside0.mk hts
  have HT := Aside0.mk hT
  have HN := Aside0.mk hn
  have HN2 := Aside0.mk hn2
  have hp0 : (1 : Int) ≤ (s.size : Int) := by
    have h1 : By s ≠ [] := by intro z; rw [z] at hn2; exact absurd hn2 (by decide)
    have h2 := List.length_pos_iff.mpr h1
    rw [size_by] at h2
    omega
  clear hn hn2
  clear h0 hs hts hT
  go_enter Tryd.func19, Tryd.ntmps19
  go_wp2
  refine wp_scope_jumps 0 (fun a' w' => r = ((0 : Int), (4 : Int)) ∧ Below w.heap.size w w' ∧ ∃ (u0 u1 u2 u3 u4 u5 u6 u7 u8 u9 u10 u11 u12 u13 u14 u15 u16 u17 u18 u19 u20 u21 u22 u23 u24 u25 u26 u27 u28 u29 u30 u31 u32 u33 u34 u35 u36 u37 u38 u39 u40 u41 u42 u43 u44 u45 u46 u47 u48 u49 u50 u51 u52 u53 u54 u55 u56 u57 u58 u59 u60 u61 u62 u63 u64 u65 u66 u67 u68 : Value), a' = { tmps := #[u0, u1, u2, u3, u4, u5, u6, u7, u8, u9, u10, u11, u12, u13, u14, u15, u16, u17, u18, u19, u20, u21, u22, u23, u24, u25, u26, u27, u28, u29, u30, u31, u32, u33, u34, u35, u36, u37, u38, u39, u40, u41, u42, u43, u44, u45, u46, u47, u48, u49, u50, u51, u52, u53, u54, u55, u56, u57, u58, u59, u60, u61, u62, u63, u64, u65, u66, u67, u68], defers := [] }) (fun _ _ => 0) rfl ?_ ?_
  · go_upto_region 9 with (first | (go_at_call 33; (with_reducible refine (hp_calls 45 _ HS.out _).mono ?_); rw [HN.out]; rintro e w' ⟨rfl, ⟨nd, rfl⟩⟩) | (go_at_call 33; (with_reducible refine (hp_calls 43 _ HS.out _).mono ?_); rw [HN2.out]; rintro e w' ⟨rfl, ⟨ndb, rfl⟩⟩))
    try rw [ht]
    clear ht
    obtain ⟨W1, hW1⟩ : ∃ W1, w.drewN (nd + ndb) = W1 := ⟨_, rfl⟩
    rw [hW1]
    have HBW : Aside0 (Below w.heap.size w W1) := ⟨by rw [← hW1]; exact pw_below_drewN (Below.refl _ _) _⟩
    clear hW1
    by_cases c1 : By t = [105, 110, 102]
    · have d1 : (t.toList == [105, 110, 102]) = true := by rw [ByteArray.toList_eq]; exact beq_iff_eq.mpr c1
      have hr2 : r = (if false = true then -9223372036854775808 else 9223372036854775807, 0) := by rw [← HT.out]; unfold parseT; rw [if_pos c1]
      have hcz : (if false = true then -9223372036854775808 else 9223372036854775807 : Int) = cutZ 18446744073709551614 false false := by decide +kernel
      rw [hcz] at hr2
      subst hr2
      clear hcz c1
      go_wp2_with (go_at_call 28; (with_reducible refine (cut_quiet _ _ _ _ (by decide) (by decide)).mono ?_); rintro e w' ⟨rfl, ⟨nd2, rfl⟩⟩)
      simp only [Exit.jump]
      go_ret2
      exact ⟨rfl, pw_below_drewN HBW.out _⟩
    · have d1 : (t.toList == [105, 110, 102]) = false := by rw [ByteArray.toList_eq]; simpa using c1
      have HT2 : Aside0 ((if dlen (By t) = 0 ∨ 30 < dlen (By t) then ((0 : Int), (4 : Int))
      else match (By t).drop (dlen (By t)) with
        | [] => (numS false (vals ((By t).take (dlen (By t)))) [], 0)
        | c :: m => if c = 46 then (if dlen m = 0 ∨ 30 < dlen m ∨ m.length ≠ dlen m then ((0 : Int), (4 : Int)) else (numS false (vals ((By t).take (dlen (By t)))) (vals m), 0)) else ((0 : Int), (4 : Int))) = r) := ⟨by have := HT.out; unfold parseT at this; rwa [if_neg c1] at this⟩
      clear c1 HT
      obtain ⟨n, hn⟩ : ∃ n, dlen (By t) = n := ⟨_, rfl⟩
      have hnl : n ≤ t.size := by rw [← hn, ← size_by]; exact dlen_le _
      have HDIG : Aside0 (∀ W, Calls Tryd.prog 34 #[.string t] W fun e w' => e = .returned (.tuple #[.string (t.extract 0 n), .string (t.extract n t.size), .bool (decide (0 < n) && decide (n ≤ 30))]) ∧ Drawn0 W w') := ⟨by rw [← hn]; exact fun W => digits_calls t HTS.out W⟩
      have HTD : Aside0 (∀ c ∈ (By t).take n, isD c = true) := ⟨by rw [← hn]; exact take_dig _⟩
      rw [hn] at HT2
      clear hn
      by_cases c2 : n = 0 ∨ 30 < n
      · have d2 : (decide (0 < n) && decide (n ≤ 30)) = false := by rw [Bool.eq_false_iff]; intro z; rw [Bool.and_eq_true, decide_eq_true_eq, decide_eq_true_eq] at z; omega
        rw [d2] at HDIG
        have hr2 : r = (0, 4) := by rw [← HT2.out, if_pos c2]
        subst hr2
        clear c2 d2
        go_wp2_with (go_at_call 34; (with_reducible refine (HDIG.out _).mono ?_); rintro e w' ⟨rfl, ⟨nd2, rfl⟩⟩)
        go_step3
        exact ⟨rfl, rfl, pw_below_drewN HBW.out _, _, _, _, _, _, _, _, _, _, _, _, _, _, _, _, _, _, _, _, _, _, _, _, _, _, _, _, _, _, _, _, _, _, _, _, _, _, _, _, _, _, _, _, _, _, _, _, _, _, _, _, _, _, _, _, _, _, _, _, _, _, _, _, _, _, _, _, _, _, rfl⟩
      · have d2 : (decide (0 < n) && decide (n ≤ 30)) = true := by rw [Bool.and_eq_true, decide_eq_true_eq, decide_eq_true_eq]; omega
        rw [d2] at HDIG
        rw [if_neg c2] at HT2
        have hn30 : n ≤ 30 := by omega
        obtain ⟨row, hrow⟩ : ∃ row, t.extract 0 n = row := ⟨_, rfl⟩
        obtain ⟨rest, hrest⟩ : ∃ rest, t.extract n t.size = rest := ⟨_, rfl⟩
        have hbr : By row = (By t).take n := by rw [← hrow, by_extract, List.drop_zero, Nat.sub_zero]
        have hbs : By rest = (By t).drop n := by rw [← hrest, by_rest]
        have hss : rest.size ≤ 140737488351232 := by rw [← size_by, hbs, List.length_drop, size_by]; have := HTS.out; omega
        have hrs : row.size ≤ 140737488351232 := by rw [← size_by, hbr, List.length_take, size_by]; omega
        rw [hrow, hrest] at HDIG
        rw [← hbr] at HTD HT2
        rw [← hbs] at HT2
        have HWH : Aside0 (∀ W, Calls Tryd.prog 36 #[.string row] W fun e w' => e = .returned (.int .u64 ((wholeN (By row) : Nat) : Int)) ∧ Drawn0 W w') := ⟨fun W => whole_calls row hrs HTD.out W⟩
        have HSS := Aside0.mk hss
        clear hrow hrest hbr hbs hrs hss c2 d2 hn30 hnl
        by_cases c3 : By rest = []
        · have d3 : rest.toList = [] := by rw [ByteArray.toList_eq]; exact c3
          have d3' : (!rest.toList.isEmpty) = false := by rw [d3]; rfl
          have d3'' : (rest.toList == []) = true := by rw [d3]; rfl
          rw [c3] at HT2
          have hr2 : r = (numS false (vals (By row)) [], 0) := HT2.out.symm
          clear c3 HT2
          subst hr2
          have HFR : Aside0 (∀ W, Calls Tryd.prog 35 #[.string ⟨#[]⟩] W fun e w' => e = .returned (.tuple #[.int .u64 ((fracN [] : Nat) : Int), .bool (leftN [])]) ∧ Below W.heap.size W w') := ⟨fun W => frac_calls ⟨#[]⟩ W (by decide) [] rfl (fun x hx => by cases hx)⟩
          obtain ⟨wh, hwh⟩ : ∃ x, wholeN (By row) = x := ⟨_, rfl⟩
          rw [hwh] at HWH
          have HWV : Aside0 (wholeN (By row) = wh) := ⟨hwh⟩
          obtain ⟨fr, hfr⟩ : ∃ x, fracN [] = x := ⟨_, rfl⟩
          obtain ⟨lf, hlf⟩ : ∃ x, leftN [] = x := ⟨_, rfl⟩
          rw [hfr, hlf] at HFR
          have hfr4 : fr < 4294967296 := by rw [← hfr]; exact frac_lt (fun x hx => by cases hx)
          have HNE : Aside0 (numS false (vals (By row)) [] = cutS (vd (vals (By row)) * 4294967296 + fr) lf false) := ⟨by rw [numS_eq, hfr, hlf]⟩
          clear hwh hfr hlf
          by_cases c9 : 4294967296 ≤ wh
          · have d9 : decide ((4294967296 : Int) ≤ (wh : Int)) = true := decide_eq_true (by omega)
            have hv : numS false (vals (By row)) [] = cutZ 18446744073709551614 lf false := by
              have h1 : 4294967296 ≤ vd (vals (By row)) := by have := HWV.out; unfold wholeN at this; omega
              rw [HNE.out, cut_great _ _ _ (by omega)]
              unfold cutZ
              rw [cut_great _ _ _ (by decide)]
            have HV := Aside0.mk hv
            clear hv hfr4
            go_wp2_with (first | (go_at_call 34; (with_reducible refine (HDIG.out _).mono ?_); rintro e w' ⟨rfl, ⟨nd2, rfl⟩⟩) | (go_at_call 35; (with_reducible refine (HFR.out _).mono ?_); rintro e w3 ⟨rfl, hb3⟩; have HB3 := Aside0.mk hb3; clear hb3) | (go_at_call 36; (with_reducible refine (HWH.out _).mono ?_); rintro e w' ⟨rfl, ⟨nd4, rfl⟩⟩) | (go_at_call 28; (with_reducible refine (cut_quiet _ _ _ _ (by decide) (by decide)).mono ?_); rintro e w' ⟨rfl, ⟨nd5, rfl⟩⟩))
            simp only [Exit.jump]
            go_ret2
            exact ⟨by rw [HV.out]; rfl, by
              have hq : Below w.heap.size w (W1.drewN nd2) := pw_below_drewN HBW.out _
              have h5 := hq.trans (HB3.out.mono hq.size)
              repeat (first | exact h5 | apply pw_below_drewN)⟩
          · have d9 : decide ((4294967296 : Int) ≤ (wh : Int)) = false := decide_eq_false (by omega)
            have hor := or_32 fr wh hfr4 (by omega)
            have hv : numS false (vals (By row)) [] = cutZ ((wh * 4294967296 + fr : Nat) : Int) lf false := by
              have h1 : vd (vals (By row)) = wh := by have := HWV.out; unfold wholeN at this; omega
              rw [HNE.out, h1]
              rfl
            have hlt : 0 ≤ ((wh * 4294967296 + fr : Nat) : Int) ∧ ((wh * 4294967296 + fr : Nat) : Int) < 18446744073709551616 := by omega
            have HCU : Aside0 (∀ W, Calls Tryd.prog 28 #[.int .u64 (bits .or .u64 (fr : Int) (IntKind.u64.wrap ((wh : Int) * 4294967296))), .bool lf, .bool false] W fun e w' => e = .returned (.int .i64 (cutZ ((wh * 4294967296 + fr : Nat) : Int) lf false)) ∧ ∃ m, w' = W.drewN m) := ⟨fun W => by rw [hor]; exact cut_quiet _ _ _ _ hlt.1 hlt.2⟩
            have HV := Aside0.mk hv
            clear hv hor hlt hfr4 c9
            go_wp2_with (first | (go_at_call 34; (with_reducible refine (HDIG.out _).mono ?_); rintro e w' ⟨rfl, ⟨nd2, rfl⟩⟩) | (go_at_call 35; (with_reducible refine (HFR.out _).mono ?_); rintro e w3 ⟨rfl, hb3⟩; have HB3 := Aside0.mk hb3; clear hb3) | (go_at_call 36; (with_reducible refine (HWH.out _).mono ?_); rintro e w' ⟨rfl, ⟨nd4, rfl⟩⟩) | (go_at_call 28; (with_reducible refine (HCU.out _).mono ?_); rintro e w' ⟨rfl, ⟨nd5, rfl⟩⟩))
            simp only [Exit.jump]
            go_ret2
            exact ⟨by rw [HV.out]; rfl, by
              have hq : Below w.heap.size w (W1.drewN nd2) := pw_below_drewN HBW.out _
              have h5 := hq.trans (HB3.out.mono hq.size)
              repeat (first | exact h5 | apply pw_below_drewN)⟩
        · have d3 : (rest.toList == []) = false := by rw [ByteArray.toList_eq]; simpa using c3
          have d3' : (!rest.toList.isEmpty) = true := by rw [ByteArray.toList_eq]; cases hq : By rest with | nil => exact absurd hq c3 | cons a l => simp [hq]
          have d3n : rest.toList ≠ [] := by rw [ByteArray.toList_eq]; exact c3
          have hp : 0 < rest.size := by rw [← size_by]; exact List.length_pos_iff.mpr c3
          have hg := bytes_get rest 0 hp
          rw [List.drop_zero] at hg
          rw [show rest.data.toList = By rest from rfl] at hg
          rw [hg] at HT2
          have HGG := Aside0.mk hg
          clear hg c3
          by_cases c4 : rest[0] = 46
          · have d4 : ((rest[0].toNat : Int) == 46) = true := by rw [c4]; rfl
            have d4' : ((rest[0].toNat : Int) != 46) = false := by rw [c4]; rfl
            have HT3 : Aside0 ((if dlen ((By rest).drop 1) = 0 ∨ 30 < dlen ((By rest).drop 1) ∨ ((By rest).drop 1).length ≠ dlen ((By rest).drop 1) then ((0 : Int), (4 : Int)) else (numS false (vals (By row)) (vals ((By rest).drop 1)), 0)) = r) := ⟨by have := HT2.out; dsimp only at this; rw [if_pos c4] at this; exact this⟩
            clear c4 HT2
            obtain ⟨tt, htt⟩ : ∃ tt, rest.extract 1 rest.size = tt := ⟨_, rfl⟩
            have hbt : By tt = (By rest).drop 1 := by rw [← htt, by_rest]
            have hts : tt.size ≤ 140737488351232 := by rw [← size_by, hbt, List.length_drop, size_by]; have := HSS.out; omega
            rw [← hbt] at HT3
            have HTT := Aside0.mk htt
            obtain ⟨n2, hn2⟩ : ∃ n, dlen (By tt) = n := ⟨_, rfl⟩
            have HD2 : Aside0 (∀ W, Calls Tryd.prog 34 #[.string tt] W fun e w' => e = .returned (.tuple #[.string (tt.extract 0 n2), .string (tt.extract n2 tt.size), .bool (decide (0 < n2) && decide (n2 ≤ 30))]) ∧ Drawn0 W w') := ⟨by rw [← hn2]; exact fun W => digits_calls tt hts W⟩
            have HTD2 : Aside0 (∀ c ∈ (By tt).take n2, isD c = true) := ⟨by rw [← hn2]; exact take_dig _⟩
            rw [hn2] at HT3
            have hsz : (By tt).length = tt.size := size_by _
            have HD1 : Aside0 (∀ W, Calls Tryd.prog 34 #[.string (rest.extract 1 rest.size)] W fun e w' => e = .returned (.tuple #[.string (tt.extract 0 n2), .string (tt.extract n2 tt.size), .bool (decide (0 < n2) && decide (n2 ≤ 30))]) ∧ Drawn0 W w') := ⟨by rw [htt]; exact HD2.out⟩
            have hp1 : (1 : Int) ≤ (rest.size : Int) := by omega
            have hn2l : n2 ≤ tt.size := by rw [← hn2, ← size_by]; exact dlen_le _
            clear hn2 hbt hts htt
            by_cases c5 : n2 = 0 ∨ 30 < n2
            · have d5 : (decide (0 < n2) && decide (n2 ≤ 30)) = false := by rw [Bool.eq_false_iff]; intro z; rw [Bool.and_eq_true, decide_eq_true_eq, decide_eq_true_eq] at z; omega
              rw [d5] at HD1
              have hr2 : r = (0, 4) := by rw [← HT3.out, if_pos (by omega)]
              subst hr2
              clear c5 d5 hsz hn2l
              go_wp2_with (first | (go_at_call 34; (with_reducible refine (HDIG.out _).mono ?_); rintro e w' ⟨rfl, ⟨nd2, rfl⟩⟩) | (go_at_call 34; (with_reducible refine (HD1.out _).mono ?_); rintro e w' ⟨rfl, ⟨nd3, rfl⟩⟩))
              go_step3
              exact ⟨rfl, rfl, by first | exact pw_below_drewN HBW.out _ | exact pw_below_drewN (pw_below_drewN HBW.out _) _, _, _, _, _, _, _, _, _, _, _, _, _, _, _, _, _, _, _, _, _, _, _, _, _, _, _, _, _, _, _, _, _, _, _, _, _, _, _, _, _, _, _, _, _, _, _, _, _, _, _, _, _, _, _, _, _, _, _, _, _, _, _, _, _, _, _, _, _, _, rfl⟩
            · have d5 : (decide (0 < n2) && decide (n2 ≤ 30)) = true := by rw [Bool.and_eq_true, decide_eq_true_eq, decide_eq_true_eq]; omega
              rw [d5] at HD1
              obtain ⟨more, hmore⟩ : ∃ more, tt.extract 0 n2 = more := ⟨_, rfl⟩
              obtain ⟨lst, hlst⟩ : ∃ lst, tt.extract n2 tt.size = lst := ⟨_, rfl⟩
              have hbm : By more = (By tt).take n2 := by rw [← hmore, by_extract, List.drop_zero, Nat.sub_zero]
              have hbl : By lst = (By tt).drop n2 := by rw [← hlst, by_rest]
              rw [hmore, hlst] at HD1
              by_cases c6 : tt.size = n2
              · have hl0 : By lst = [] := by rw [hbl]; exact List.drop_of_length_le (by rw [hsz]; omega)
                have d6 : lst.toList = [] := by rw [ByteArray.toList_eq]; exact hl0
                have d6' : (!lst.toList.isEmpty) = false := by rw [d6]; rfl
                have d6'' : (lst.toList == []) = true := by rw [d6]; rfl
                have hmt : By more = By tt := by rw [hbm]; exact List.take_of_length_le (by rw [hsz]; omega)
                rw [← hbm, hmt] at HTD2
                have hr2 : r = (numS false (vals (By row)) (vals (By tt)), 0) := by rw [← HT3.out, if_neg (by omega)]
                have hms : more.size ≤ 1000 := by rw [← size_by, hmt, hsz]; omega
                subst hr2
                have HFR : Aside0 (∀ W, Calls Tryd.prog 35 #[.string more] W fun e w' => e = .returned (.tuple #[.int .u64 ((fracN (vals (By tt)) : Nat) : Int), .bool (leftN (vals (By tt)))]) ∧ Below W.heap.size W w') := ⟨by
                  have hq : ∀ c ∈ By more, isD c = true := by rw [hmt]; exact HTD2.out
                  have hq2 := vals_back hq
                  rw [show vals (By more) = vals (By tt) by rw [hmt]] at hq2
                  exact fun W => frac_calls more W hms (vals (By tt)) hq2 (vals_dgt HTD2.out)⟩
                have HDG2 : Aside0 (dgt (vals (By tt))) := ⟨vals_dgt HTD2.out⟩
                clear hmore hlst hbm hbl c5 d5 c6 hl0 hmt hms HT3 hsz hn2l
                obtain ⟨wh, hwh⟩ : ∃ x, wholeN (By row) = x := ⟨_, rfl⟩
                rw [hwh] at HWH
                have HWV : Aside0 (wholeN (By row) = wh) := ⟨hwh⟩
                obtain ⟨fr, hfr⟩ : ∃ x, fracN (vals (By tt)) = x := ⟨_, rfl⟩
                obtain ⟨lf, hlf⟩ : ∃ x, leftN (vals (By tt)) = x := ⟨_, rfl⟩
                rw [hfr, hlf] at HFR
                have hfr4 : fr < 4294967296 := by rw [← hfr]; exact frac_lt HDG2.out
                have HNE : Aside0 (numS false (vals (By row)) (vals (By tt)) = cutS (vd (vals (By row)) * 4294967296 + fr) lf false) := ⟨by rw [numS_eq, hfr, hlf]⟩
                clear hwh hfr hlf
                by_cases c9 : 4294967296 ≤ wh
                · have d9 : decide ((4294967296 : Int) ≤ (wh : Int)) = true := decide_eq_true (by omega)
                  have hv : numS false (vals (By row)) (vals (By tt)) = cutZ 18446744073709551614 lf false := by
                    have h1 : 4294967296 ≤ vd (vals (By row)) := by have := HWV.out; unfold wholeN at this; omega
                    rw [HNE.out, cut_great _ _ _ (by omega)]
                    unfold cutZ
                    rw [cut_great _ _ _ (by decide)]
                  have HV := Aside0.mk hv
                  clear hv hfr4
                  go_wp2_with (first | (go_at_call 34; (with_reducible refine (HDIG.out _).mono ?_); rintro e w' ⟨rfl, ⟨nd2, rfl⟩⟩) | (go_at_call 34; (with_reducible refine (HD1.out _).mono ?_); rintro e w' ⟨rfl, ⟨nd3, rfl⟩⟩) | (go_at_call 35; (with_reducible refine (HFR.out _).mono ?_); rintro e w3 ⟨rfl, hb3⟩; have HB3 := Aside0.mk hb3; clear hb3) | (go_at_call 36; (with_reducible refine (HWH.out _).mono ?_); rintro e w' ⟨rfl, ⟨nd4, rfl⟩⟩) | (go_at_call 28; (with_reducible refine (cut_quiet _ _ _ _ (by decide) (by decide)).mono ?_); rintro e w' ⟨rfl, ⟨nd5, rfl⟩⟩))
                  simp only [Exit.jump]
                  go_ret2
                  exact ⟨by rw [HV.out]; rfl, by
                    have hq : Below w.heap.size w (W1.drewN (nd2 + nd3)) := pw_below_drewN HBW.out _
                    have h5 := hq.trans (HB3.out.mono hq.size)
                    repeat (first | exact h5 | apply pw_below_drewN)⟩
                · have d9 : decide ((4294967296 : Int) ≤ (wh : Int)) = false := decide_eq_false (by omega)
                  have hor := or_32 fr wh hfr4 (by omega)
                  have hv : numS false (vals (By row)) (vals (By tt)) = cutZ ((wh * 4294967296 + fr : Nat) : Int) lf false := by
                    have h1 : vd (vals (By row)) = wh := by have := HWV.out; unfold wholeN at this; omega
                    rw [HNE.out, h1]
                    rfl
                  have hlt : 0 ≤ ((wh * 4294967296 + fr : Nat) : Int) ∧ ((wh * 4294967296 + fr : Nat) : Int) < 18446744073709551616 := by omega
                  have HCU : Aside0 (∀ W, Calls Tryd.prog 28 #[.int .u64 (bits .or .u64 (fr : Int) (IntKind.u64.wrap ((wh : Int) * 4294967296))), .bool lf, .bool false] W fun e w' => e = .returned (.int .i64 (cutZ ((wh * 4294967296 + fr : Nat) : Int) lf false)) ∧ ∃ m, w' = W.drewN m) := ⟨fun W => by rw [hor]; exact cut_quiet _ _ _ _ hlt.1 hlt.2⟩
                  have HV := Aside0.mk hv
                  clear hv hor hlt hfr4 c9
                  go_wp2_with (first | (go_at_call 34; (with_reducible refine (HDIG.out _).mono ?_); rintro e w' ⟨rfl, ⟨nd2, rfl⟩⟩) | (go_at_call 34; (with_reducible refine (HD1.out _).mono ?_); rintro e w' ⟨rfl, ⟨nd3, rfl⟩⟩) | (go_at_call 35; (with_reducible refine (HFR.out _).mono ?_); rintro e w3 ⟨rfl, hb3⟩; have HB3 := Aside0.mk hb3; clear hb3) | (go_at_call 36; (with_reducible refine (HWH.out _).mono ?_); rintro e w' ⟨rfl, ⟨nd4, rfl⟩⟩) | (go_at_call 28; (with_reducible refine (HCU.out _).mono ?_); rintro e w' ⟨rfl, ⟨nd5, rfl⟩⟩))
                  simp only [Exit.jump]
                  go_ret2
                  exact ⟨by rw [HV.out]; rfl, by
                    have hq : Below w.heap.size w (W1.drewN (nd2 + nd3)) := pw_below_drewN HBW.out _
                    have h5 := hq.trans (HB3.out.mono hq.size)
                    repeat (first | exact h5 | apply pw_below_drewN)⟩
              · have hl0 : By lst ≠ [] := by rw [hbl]; intro z; have := congrArg List.length z; rw [List.length_drop, hsz] at this; simp at this; omega
                have d6 : (lst.toList == []) = false := by rw [ByteArray.toList_eq]; simpa using hl0
                have d6' : (!lst.toList.isEmpty) = true := by rw [ByteArray.toList_eq]; cases hq : By lst with | nil => exact absurd hq hl0 | cons a l => simp [hq]
                have d6n : lst.toList ≠ [] := by rw [ByteArray.toList_eq]; exact hl0
                have hr2 : r = (0, 4) := by rw [← HT3.out, if_pos (by omega)]
                subst hr2
                clear hmore hlst hbm hbl c5 d5 c6 hl0 hsz hn2l
                go_wp2_with (first | (go_at_call 34; (with_reducible refine (HDIG.out _).mono ?_); rintro e w' ⟨rfl, ⟨nd2, rfl⟩⟩) | (go_at_call 34; (with_reducible refine (HD1.out _).mono ?_); rintro e w' ⟨rfl, ⟨nd3, rfl⟩⟩))
                go_step3
                exact ⟨rfl, rfl, by first | exact pw_below_drewN HBW.out _ | exact pw_below_drewN (pw_below_drewN HBW.out _) _, _, _, _, _, _, _, _, _, _, _, _, _, _, _, _, _, _, _, _, _, _, _, _, _, _, _, _, _, _, _, _, _, _, _, _, _, _, _, _, _, _, _, _, _, _, _, _, _, _, _, _, _, _, _, _, _, _, _, _, _, _, _, _, _, _, _, _, _, _, rfl⟩
          · have d4 : ((rest[0].toNat : Int) == 46) = false := by rw [beq_eq_false_iff_ne]; intro z; exact c4 (UInt8.toNat_inj.mp (by simpa using (Int.ofNat.inj z)))
            have d4' : ((rest[0].toNat : Int) != 46) = true := by rw [bne_iff_ne]; intro z; exact c4 (UInt8.toNat_inj.mp (by simpa using (Int.ofNat.inj z)))
            have hr2 : r = (0, 4) := by have := HT2.out; dsimp only at this; rw [if_neg c4] at this; exact this.symm
            subst hr2
            clear c4
            go_wp2_with (go_at_call 34; (with_reducible refine (HDIG.out _).mono ?_); rintro e w' ⟨rfl, ⟨nd2, rfl⟩⟩)
            go_step3
            exact ⟨rfl, rfl, pw_below_drewN HBW.out _, _, _, _, _, _, _, _, _, _, _, _, _, _, _, _, _, _, _, _, _, _, _, _, _, _, _, _, _, _, _, _, _, _, _, _, _, _, _, _, _, _, _, _, _, _, _, _, _, _, _, _, _, _, _, _, _, _, _, _, _, _, _, _, _, _, _, _, _, _, rfl⟩
  · rintro a' w' ⟨hr, hd, u0, u1, u2, u3, u4, u5, u6, u7, u8, u9, u10, u11, u12, u13, u14, u15, u16, u17, u18, u19, u20, u21, u22, u23, u24, u25, u26, u27, u28, u29, u30, u31, u32, u33, u34, u35, u36, u37, u38, u39, u40, u41, u42, u43, u44, u45, u46, u47, u48, u49, u50, u51, u52, u53, u54, u55, u56, u57, u58, u59, u60, u61, u62, u63, u64, u65, u66, u67, u68, rfl⟩
    subst hr
    go_wp2
    simp only [Exit.jump]
    go_ret2
    exact ⟨rfl, hd⟩
set_option maxHeartbeats 8000000 in
set_option maxRecDepth 100000 in
theorem parse_none (s : ByteArray) (w : World) (hs : s.size ≤ 140737488351232) (h0 : By s ≠ [110, 97, 110]) (hn : headIs 45 (By s) = false) (hn2 : headIs 43 (By s) = false) (r : Int × Int) (hT : parseT false (By s) = r) : Calls Tryd.prog 19 #[.string s] w fun e w' => e = .returned (.tuple #[.int .i64 r.1, .int .i64 r.2]) ∧ Below w.heap.size w w' := by
  have d0 : (s.toList == [110, 97, 110]) = false := by rw [ByteArray.toList_eq]; simpa using h0
  have HS := Aside0.mk hs
  have HTS := Aside0.mk hs
  have HT := Aside0.mk hT
  have HN := Aside0.mk hn
  have HN2 := Aside0.mk hn2
  clear hn hn2
  clear h0 hs hT
  go_enter Tryd.func19, Tryd.ntmps19
  go_wp2
  refine wp_scope_jumps 0 (fun a' w' => r = ((0 : Int), (4 : Int)) ∧ Below w.heap.size w w' ∧ ∃ (u0 u1 u2 u3 u4 u5 u6 u7 u8 u9 u10 u11 u12 u13 u14 u15 u16 u17 u18 u19 u20 u21 u22 u23 u24 u25 u26 u27 u28 u29 u30 u31 u32 u33 u34 u35 u36 u37 u38 u39 u40 u41 u42 u43 u44 u45 u46 u47 u48 u49 u50 u51 u52 u53 u54 u55 u56 u57 u58 u59 u60 u61 u62 u63 u64 u65 u66 u67 u68 : Value), a' = { tmps := #[u0, u1, u2, u3, u4, u5, u6, u7, u8, u9, u10, u11, u12, u13, u14, u15, u16, u17, u18, u19, u20, u21, u22, u23, u24, u25, u26, u27, u28, u29, u30, u31, u32, u33, u34, u35, u36, u37, u38, u39, u40, u41, u42, u43, u44, u45, u46, u47, u48, u49, u50, u51, u52, u53, u54, u55, u56, u57, u58, u59, u60, u61, u62, u63, u64, u65, u66, u67, u68], defers := [] }) (fun _ _ => 0) rfl ?_ ?_
  · go_upto_region 9 with (first | (go_at_call 33; (with_reducible refine (hp_calls 45 _ HS.out _).mono ?_); rw [HN.out]; rintro e w' ⟨rfl, ⟨nd, rfl⟩⟩) | (go_at_call 33; (with_reducible refine (hp_calls 43 _ HS.out _).mono ?_); rw [HN2.out]; rintro e w' ⟨rfl, ⟨ndb, rfl⟩⟩))
    obtain ⟨W1, hW1⟩ : ∃ W1, w.drewN (nd + ndb) = W1 := ⟨_, rfl⟩
    rw [hW1]
    have HBW : Aside0 (Below w.heap.size w W1) := ⟨by rw [← hW1]; exact pw_below_drewN (Below.refl _ _) _⟩
    clear hW1
    by_cases c1 : By s = [105, 110, 102]
    · have d1 : (s.toList == [105, 110, 102]) = true := by rw [ByteArray.toList_eq]; exact beq_iff_eq.mpr c1
      have hr2 : r = (if false = true then -9223372036854775808 else 9223372036854775807, 0) := by rw [← HT.out]; unfold parseT; rw [if_pos c1]
      have hcz : (if false = true then -9223372036854775808 else 9223372036854775807 : Int) = cutZ 18446744073709551614 false false := by decide +kernel
      rw [hcz] at hr2
      subst hr2
      clear hcz c1
      go_wp2_with (go_at_call 28; (with_reducible refine (cut_quiet _ _ _ _ (by decide) (by decide)).mono ?_); rintro e w' ⟨rfl, ⟨nd2, rfl⟩⟩)
      simp only [Exit.jump]
      go_ret2
      exact ⟨rfl, pw_below_drewN HBW.out _⟩
    · have d1 : (s.toList == [105, 110, 102]) = false := by rw [ByteArray.toList_eq]; simpa using c1
      have HT2 : Aside0 ((if dlen (By s) = 0 ∨ 30 < dlen (By s) then ((0 : Int), (4 : Int))
      else match (By s).drop (dlen (By s)) with
        | [] => (numS false (vals ((By s).take (dlen (By s)))) [], 0)
        | c :: m => if c = 46 then (if dlen m = 0 ∨ 30 < dlen m ∨ m.length ≠ dlen m then ((0 : Int), (4 : Int)) else (numS false (vals ((By s).take (dlen (By s)))) (vals m), 0)) else ((0 : Int), (4 : Int))) = r) := ⟨by have := HT.out; unfold parseT at this; rwa [if_neg c1] at this⟩
      clear c1 HT
      obtain ⟨n, hn⟩ : ∃ n, dlen (By s) = n := ⟨_, rfl⟩
      have hnl : n ≤ s.size := by rw [← hn, ← size_by]; exact dlen_le _
      have HDIG : Aside0 (∀ W, Calls Tryd.prog 34 #[.string s] W fun e w' => e = .returned (.tuple #[.string (s.extract 0 n), .string (s.extract n s.size), .bool (decide (0 < n) && decide (n ≤ 30))]) ∧ Drawn0 W w') := ⟨by rw [← hn]; exact fun W => digits_calls s HTS.out W⟩
      have HTD : Aside0 (∀ c ∈ (By s).take n, isD c = true) := ⟨by rw [← hn]; exact take_dig _⟩
      rw [hn] at HT2
      clear hn
      by_cases c2 : n = 0 ∨ 30 < n
      · have d2 : (decide (0 < n) && decide (n ≤ 30)) = false := by rw [Bool.eq_false_iff]; intro z; rw [Bool.and_eq_true, decide_eq_true_eq, decide_eq_true_eq] at z; omega
        rw [d2] at HDIG
        have hr2 : r = (0, 4) := by rw [← HT2.out, if_pos c2]
        subst hr2
        clear c2 d2
        go_wp2_with (go_at_call 34; (with_reducible refine (HDIG.out _).mono ?_); rintro e w' ⟨rfl, ⟨nd2, rfl⟩⟩)
        go_step3
        exact ⟨rfl, rfl, pw_below_drewN HBW.out _, _, _, _, _, _, _, _, _, _, _, _, _, _, _, _, _, _, _, _, _, _, _, _, _, _, _, _, _, _, _, _, _, _, _, _, _, _, _, _, _, _, _, _, _, _, _, _, _, _, _, _, _, _, _, _, _, _, _, _, _, _, _, _, _, _, _, _, _, _, rfl⟩
      · have d2 : (decide (0 < n) && decide (n ≤ 30)) = true := by rw [Bool.and_eq_true, decide_eq_true_eq, decide_eq_true_eq]; omega
        rw [d2] at HDIG
        rw [if_neg c2] at HT2
        have hn30 : n ≤ 30 := by omega
        obtain ⟨row, hrow⟩ : ∃ row, s.extract 0 n = row := ⟨_, rfl⟩
        obtain ⟨rest, hrest⟩ : ∃ rest, s.extract n s.size = rest := ⟨_, rfl⟩
        have hbr : By row = (By s).take n := by rw [← hrow, by_extract, List.drop_zero, Nat.sub_zero]
        have hbs : By rest = (By s).drop n := by rw [← hrest, by_rest]
        have hss : rest.size ≤ 140737488351232 := by rw [← size_by, hbs, List.length_drop, size_by]; have := HTS.out; omega
        have hrs : row.size ≤ 140737488351232 := by rw [← size_by, hbr, List.length_take, size_by]; omega
        rw [hrow, hrest] at HDIG
        rw [← hbr] at HTD HT2
        rw [← hbs] at HT2
        have HWH : Aside0 (∀ W, Calls Tryd.prog 36 #[.string row] W fun e w' => e = .returned (.int .u64 ((wholeN (By row) : Nat) : Int)) ∧ Drawn0 W w') := ⟨fun W => whole_calls row hrs HTD.out W⟩
        have HSS := Aside0.mk hss
        clear hrow hrest hbr hbs hrs hss c2 d2 hn30 hnl
        by_cases c3 : By rest = []
        · have d3 : rest.toList = [] := by rw [ByteArray.toList_eq]; exact c3
          have d3' : (!rest.toList.isEmpty) = false := by rw [d3]; rfl
          have d3'' : (rest.toList == []) = true := by rw [d3]; rfl
          rw [c3] at HT2
          have hr2 : r = (numS false (vals (By row)) [], 0) := HT2.out.symm
          clear c3 HT2
          subst hr2
          have HFR : Aside0 (∀ W, Calls Tryd.prog 35 #[.string ⟨#[]⟩] W fun e w' => e = .returned (.tuple #[.int .u64 ((fracN [] : Nat) : Int), .bool (leftN [])]) ∧ Below W.heap.size W w') := ⟨fun W => frac_calls ⟨#[]⟩ W (by decide) [] rfl (fun x hx => by cases hx)⟩
          obtain ⟨wh, hwh⟩ : ∃ x, wholeN (By row) = x := ⟨_, rfl⟩
          rw [hwh] at HWH
          have HWV : Aside0 (wholeN (By row) = wh) := ⟨hwh⟩
          obtain ⟨fr, hfr⟩ : ∃ x, fracN [] = x := ⟨_, rfl⟩
          obtain ⟨lf, hlf⟩ : ∃ x, leftN [] = x := ⟨_, rfl⟩
          rw [hfr, hlf] at HFR
          have hfr4 : fr < 4294967296 := by rw [← hfr]; exact frac_lt (fun x hx => by cases hx)
          have HNE : Aside0 (numS false (vals (By row)) [] = cutS (vd (vals (By row)) * 4294967296 + fr) lf false) := ⟨by rw [numS_eq, hfr, hlf]⟩
          clear hwh hfr hlf
          by_cases c9 : 4294967296 ≤ wh
          · have d9 : decide ((4294967296 : Int) ≤ (wh : Int)) = true := decide_eq_true (by omega)
            have hv : numS false (vals (By row)) [] = cutZ 18446744073709551614 lf false := by
              have h1 : 4294967296 ≤ vd (vals (By row)) := by have := HWV.out; unfold wholeN at this; omega
              rw [HNE.out, cut_great _ _ _ (by omega)]
              unfold cutZ
              rw [cut_great _ _ _ (by decide)]
            have HV := Aside0.mk hv
            clear hv hfr4
            go_wp2_with (first | (go_at_call 34; (with_reducible refine (HDIG.out _).mono ?_); rintro e w' ⟨rfl, ⟨nd2, rfl⟩⟩) | (go_at_call 35; (with_reducible refine (HFR.out _).mono ?_); rintro e w3 ⟨rfl, hb3⟩; have HB3 := Aside0.mk hb3; clear hb3) | (go_at_call 36; (with_reducible refine (HWH.out _).mono ?_); rintro e w' ⟨rfl, ⟨nd4, rfl⟩⟩) | (go_at_call 28; (with_reducible refine (cut_quiet _ _ _ _ (by decide) (by decide)).mono ?_); rintro e w' ⟨rfl, ⟨nd5, rfl⟩⟩))
            simp only [Exit.jump]
            go_ret2
            exact ⟨by rw [HV.out]; rfl, by
              have hq : Below w.heap.size w (W1.drewN nd2) := pw_below_drewN HBW.out _
              have h5 := hq.trans (HB3.out.mono hq.size)
              repeat (first | exact h5 | apply pw_below_drewN)⟩
          · have d9 : decide ((4294967296 : Int) ≤ (wh : Int)) = false := decide_eq_false (by omega)
            have hor := or_32 fr wh hfr4 (by omega)
            have hv : numS false (vals (By row)) [] = cutZ ((wh * 4294967296 + fr : Nat) : Int) lf false := by
              have h1 : vd (vals (By row)) = wh := by have := HWV.out; unfold wholeN at this; omega
              rw [HNE.out, h1]
              rfl
            have hlt : 0 ≤ ((wh * 4294967296 + fr : Nat) : Int) ∧ ((wh * 4294967296 + fr : Nat) : Int) < 18446744073709551616 := by omega
            have HCU : Aside0 (∀ W, Calls Tryd.prog 28 #[.int .u64 (bits .or .u64 (fr : Int) (IntKind.u64.wrap ((wh : Int) * 4294967296))), .bool lf, .bool false] W fun e w' => e = .returned (.int .i64 (cutZ ((wh * 4294967296 + fr : Nat) : Int) lf false)) ∧ ∃ m, w' = W.drewN m) := ⟨fun W => by rw [hor]; exact cut_quiet _ _ _ _ hlt.1 hlt.2⟩
            have HV := Aside0.mk hv
            clear hv hor hlt hfr4 c9
            go_wp2_with (first | (go_at_call 34; (with_reducible refine (HDIG.out _).mono ?_); rintro e w' ⟨rfl, ⟨nd2, rfl⟩⟩) | (go_at_call 35; (with_reducible refine (HFR.out _).mono ?_); rintro e w3 ⟨rfl, hb3⟩; have HB3 := Aside0.mk hb3; clear hb3) | (go_at_call 36; (with_reducible refine (HWH.out _).mono ?_); rintro e w' ⟨rfl, ⟨nd4, rfl⟩⟩) | (go_at_call 28; (with_reducible refine (HCU.out _).mono ?_); rintro e w' ⟨rfl, ⟨nd5, rfl⟩⟩))
            simp only [Exit.jump]
            go_ret2
            exact ⟨by rw [HV.out]; rfl, by
              have hq : Below w.heap.size w (W1.drewN nd2) := pw_below_drewN HBW.out _
              have h5 := hq.trans (HB3.out.mono hq.size)
              repeat (first | exact h5 | apply pw_below_drewN)⟩
        · have d3 : (rest.toList == []) = false := by rw [ByteArray.toList_eq]; simpa using c3
          have d3' : (!rest.toList.isEmpty) = true := by rw [ByteArray.toList_eq]; cases hq : By rest with | nil => exact absurd hq c3 | cons a l => simp [hq]
          have d3n : rest.toList ≠ [] := by rw [ByteArray.toList_eq]; exact c3
          have hp : 0 < rest.size := by rw [← size_by]; exact List.length_pos_iff.mpr c3
          have hg := bytes_get rest 0 hp
          rw [List.drop_zero] at hg
          rw [show rest.data.toList = By rest from rfl] at hg
          rw [hg] at HT2
          have HGG := Aside0.mk hg
          clear hg c3
          by_cases c4 : rest[0] = 46
          · have d4 : ((rest[0].toNat : Int) == 46) = true := by rw [c4]; rfl
            have d4' : ((rest[0].toNat : Int) != 46) = false := by rw [c4]; rfl
            have HT3 : Aside0 ((if dlen ((By rest).drop 1) = 0 ∨ 30 < dlen ((By rest).drop 1) ∨ ((By rest).drop 1).length ≠ dlen ((By rest).drop 1) then ((0 : Int), (4 : Int)) else (numS false (vals (By row)) (vals ((By rest).drop 1)), 0)) = r) := ⟨by have := HT2.out; dsimp only at this; rw [if_pos c4] at this; exact this⟩
            clear c4 HT2
            obtain ⟨tt, htt⟩ : ∃ tt, rest.extract 1 rest.size = tt := ⟨_, rfl⟩
            have hbt : By tt = (By rest).drop 1 := by rw [← htt, by_rest]
            have hts : tt.size ≤ 140737488351232 := by rw [← size_by, hbt, List.length_drop, size_by]; have := HSS.out; omega
            rw [← hbt] at HT3
            have HTT := Aside0.mk htt
            obtain ⟨n2, hn2⟩ : ∃ n, dlen (By tt) = n := ⟨_, rfl⟩
            have HD2 : Aside0 (∀ W, Calls Tryd.prog 34 #[.string tt] W fun e w' => e = .returned (.tuple #[.string (tt.extract 0 n2), .string (tt.extract n2 tt.size), .bool (decide (0 < n2) && decide (n2 ≤ 30))]) ∧ Drawn0 W w') := ⟨by rw [← hn2]; exact fun W => digits_calls tt hts W⟩
            have HTD2 : Aside0 (∀ c ∈ (By tt).take n2, isD c = true) := ⟨by rw [← hn2]; exact take_dig _⟩
            rw [hn2] at HT3
            have hsz : (By tt).length = tt.size := size_by _
            have HD1 : Aside0 (∀ W, Calls Tryd.prog 34 #[.string (rest.extract 1 rest.size)] W fun e w' => e = .returned (.tuple #[.string (tt.extract 0 n2), .string (tt.extract n2 tt.size), .bool (decide (0 < n2) && decide (n2 ≤ 30))]) ∧ Drawn0 W w') := ⟨by rw [htt]; exact HD2.out⟩
            have hp1 : (1 : Int) ≤ (rest.size : Int) := by omega
            have hn2l : n2 ≤ tt.size := by rw [← hn2, ← size_by]; exact dlen_le _
            clear hn2 hbt hts htt
            by_cases c5 : n2 = 0 ∨ 30 < n2
            · have d5 : (decide (0 < n2) && decide (n2 ≤ 30)) = false := by rw [Bool.eq_false_iff]; intro z; rw [Bool.and_eq_true, decide_eq_true_eq, decide_eq_true_eq] at z; omega
              rw [d5] at HD1
              have hr2 : r = (0, 4) := by rw [← HT3.out, if_pos (by omega)]
              subst hr2
              clear c5 d5 hsz hn2l
              go_wp2_with (first | (go_at_call 34; (with_reducible refine (HDIG.out _).mono ?_); rintro e w' ⟨rfl, ⟨nd2, rfl⟩⟩) | (go_at_call 34; (with_reducible refine (HD1.out _).mono ?_); rintro e w' ⟨rfl, ⟨nd3, rfl⟩⟩))
              go_step3
              exact ⟨rfl, rfl, by first | exact pw_below_drewN HBW.out _ | exact pw_below_drewN (pw_below_drewN HBW.out _) _, _, _, _, _, _, _, _, _, _, _, _, _, _, _, _, _, _, _, _, _, _, _, _, _, _, _, _, _, _, _, _, _, _, _, _, _, _, _, _, _, _, _, _, _, _, _, _, _, _, _, _, _, _, _, _, _, _, _, _, _, _, _, _, _, _, _, _, _, _, rfl⟩
            · have d5 : (decide (0 < n2) && decide (n2 ≤ 30)) = true := by rw [Bool.and_eq_true, decide_eq_true_eq, decide_eq_true_eq]; omega
              rw [d5] at HD1
              obtain ⟨more, hmore⟩ : ∃ more, tt.extract 0 n2 = more := ⟨_, rfl⟩
              obtain ⟨lst, hlst⟩ : ∃ lst, tt.extract n2 tt.size = lst := ⟨_, rfl⟩
              have hbm : By more = (By tt).take n2 := by rw [← hmore, by_extract, List.drop_zero, Nat.sub_zero]
              have hbl : By lst = (By tt).drop n2 := by rw [← hlst, by_rest]
              rw [hmore, hlst] at HD1
              by_cases c6 : tt.size = n2
              · have hl0 : By lst = [] := by rw [hbl]; exact List.drop_of_length_le (by rw [hsz]; omega)
                have d6 : lst.toList = [] := by rw [ByteArray.toList_eq]; exact hl0
                have d6' : (!lst.toList.isEmpty) = false := by rw [d6]; rfl
                have d6'' : (lst.toList == []) = true := by rw [d6]; rfl
                have hmt : By more = By tt := by rw [hbm]; exact List.take_of_length_le (by rw [hsz]; omega)
                rw [← hbm, hmt] at HTD2
                have hr2 : r = (numS false (vals (By row)) (vals (By tt)), 0) := by rw [← HT3.out, if_neg (by omega)]
                have hms : more.size ≤ 1000 := by rw [← size_by, hmt, hsz]; omega
                subst hr2
                have HFR : Aside0 (∀ W, Calls Tryd.prog 35 #[.string more] W fun e w' => e = .returned (.tuple #[.int .u64 ((fracN (vals (By tt)) : Nat) : Int), .bool (leftN (vals (By tt)))]) ∧ Below W.heap.size W w') := ⟨by
                  have hq : ∀ c ∈ By more, isD c = true := by rw [hmt]; exact HTD2.out
                  have hq2 := vals_back hq
                  rw [show vals (By more) = vals (By tt) by rw [hmt]] at hq2
                  exact fun W => frac_calls more W hms (vals (By tt)) hq2 (vals_dgt HTD2.out)⟩
                have HDG2 : Aside0 (dgt (vals (By tt))) := ⟨vals_dgt HTD2.out⟩
                clear hmore hlst hbm hbl c5 d5 c6 hl0 hmt hms HT3 hsz hn2l
                obtain ⟨wh, hwh⟩ : ∃ x, wholeN (By row) = x := ⟨_, rfl⟩
                rw [hwh] at HWH
                have HWV : Aside0 (wholeN (By row) = wh) := ⟨hwh⟩
                obtain ⟨fr, hfr⟩ : ∃ x, fracN (vals (By tt)) = x := ⟨_, rfl⟩
                obtain ⟨lf, hlf⟩ : ∃ x, leftN (vals (By tt)) = x := ⟨_, rfl⟩
                rw [hfr, hlf] at HFR
                have hfr4 : fr < 4294967296 := by rw [← hfr]; exact frac_lt HDG2.out
                have HNE : Aside0 (numS false (vals (By row)) (vals (By tt)) = cutS (vd (vals (By row)) * 4294967296 + fr) lf false) := ⟨by rw [numS_eq, hfr, hlf]⟩
                clear hwh hfr hlf
                by_cases c9 : 4294967296 ≤ wh
                · have d9 : decide ((4294967296 : Int) ≤ (wh : Int)) = true := decide_eq_true (by omega)
                  have hv : numS false (vals (By row)) (vals (By tt)) = cutZ 18446744073709551614 lf false := by
                    have h1 : 4294967296 ≤ vd (vals (By row)) := by have := HWV.out; unfold wholeN at this; omega
                    rw [HNE.out, cut_great _ _ _ (by omega)]
                    unfold cutZ
                    rw [cut_great _ _ _ (by decide)]
                  have HV := Aside0.mk hv
                  clear hv hfr4
                  go_wp2_with (first | (go_at_call 34; (with_reducible refine (HDIG.out _).mono ?_); rintro e w' ⟨rfl, ⟨nd2, rfl⟩⟩) | (go_at_call 34; (with_reducible refine (HD1.out _).mono ?_); rintro e w' ⟨rfl, ⟨nd3, rfl⟩⟩) | (go_at_call 35; (with_reducible refine (HFR.out _).mono ?_); rintro e w3 ⟨rfl, hb3⟩; have HB3 := Aside0.mk hb3; clear hb3) | (go_at_call 36; (with_reducible refine (HWH.out _).mono ?_); rintro e w' ⟨rfl, ⟨nd4, rfl⟩⟩) | (go_at_call 28; (with_reducible refine (cut_quiet _ _ _ _ (by decide) (by decide)).mono ?_); rintro e w' ⟨rfl, ⟨nd5, rfl⟩⟩))
                  simp only [Exit.jump]
                  go_ret2
                  exact ⟨by rw [HV.out]; rfl, by
                    have hq : Below w.heap.size w (W1.drewN (nd2 + nd3)) := pw_below_drewN HBW.out _
                    have h5 := hq.trans (HB3.out.mono hq.size)
                    repeat (first | exact h5 | apply pw_below_drewN)⟩
                · have d9 : decide ((4294967296 : Int) ≤ (wh : Int)) = false := decide_eq_false (by omega)
                  have hor := or_32 fr wh hfr4 (by omega)
                  have hv : numS false (vals (By row)) (vals (By tt)) = cutZ ((wh * 4294967296 + fr : Nat) : Int) lf false := by
                    have h1 : vd (vals (By row)) = wh := by have := HWV.out; unfold wholeN at this; omega
                    rw [HNE.out, h1]
                    rfl
                  have hlt : 0 ≤ ((wh * 4294967296 + fr : Nat) : Int) ∧ ((wh * 4294967296 + fr : Nat) : Int) < 18446744073709551616 := by omega
                  have HCU : Aside0 (∀ W, Calls Tryd.prog 28 #[.int .u64 (bits .or .u64 (fr : Int) (IntKind.u64.wrap ((wh : Int) * 4294967296))), .bool lf, .bool false] W fun e w' => e = .returned (.int .i64 (cutZ ((wh * 4294967296 + fr : Nat) : Int) lf false)) ∧ ∃ m, w' = W.drewN m) := ⟨fun W => by rw [hor]; exact cut_quiet _ _ _ _ hlt.1 hlt.2⟩
                  have HV := Aside0.mk hv
                  clear hv hor hlt hfr4 c9
                  go_wp2_with (first | (go_at_call 34; (with_reducible refine (HDIG.out _).mono ?_); rintro e w' ⟨rfl, ⟨nd2, rfl⟩⟩) | (go_at_call 34; (with_reducible refine (HD1.out _).mono ?_); rintro e w' ⟨rfl, ⟨nd3, rfl⟩⟩) | (go_at_call 35; (with_reducible refine (HFR.out _).mono ?_); rintro e w3 ⟨rfl, hb3⟩; have HB3 := Aside0.mk hb3; clear hb3) | (go_at_call 36; (with_reducible refine (HWH.out _).mono ?_); rintro e w' ⟨rfl, ⟨nd4, rfl⟩⟩) | (go_at_call 28; (with_reducible refine (HCU.out _).mono ?_); rintro e w' ⟨rfl, ⟨nd5, rfl⟩⟩))
                  simp only [Exit.jump]
                  go_ret2
                  exact ⟨by rw [HV.out]; rfl, by
                    have hq : Below w.heap.size w (W1.drewN (nd2 + nd3)) := pw_below_drewN HBW.out _
                    have h5 := hq.trans (HB3.out.mono hq.size)
                    repeat (first | exact h5 | apply pw_below_drewN)⟩
              · have hl0 : By lst ≠ [] := by rw [hbl]; intro z; have := congrArg List.length z; rw [List.length_drop, hsz] at this; simp at this; omega
                have d6 : (lst.toList == []) = false := by rw [ByteArray.toList_eq]; simpa using hl0
                have d6' : (!lst.toList.isEmpty) = true := by rw [ByteArray.toList_eq]; cases hq : By lst with | nil => exact absurd hq hl0 | cons a l => simp [hq]
                have d6n : lst.toList ≠ [] := by rw [ByteArray.toList_eq]; exact hl0
                have hr2 : r = (0, 4) := by rw [← HT3.out, if_pos (by omega)]
                subst hr2
                clear hmore hlst hbm hbl c5 d5 c6 hl0 hsz hn2l
                go_wp2_with (first | (go_at_call 34; (with_reducible refine (HDIG.out _).mono ?_); rintro e w' ⟨rfl, ⟨nd2, rfl⟩⟩) | (go_at_call 34; (with_reducible refine (HD1.out _).mono ?_); rintro e w' ⟨rfl, ⟨nd3, rfl⟩⟩))
                go_step3
                exact ⟨rfl, rfl, by first | exact pw_below_drewN HBW.out _ | exact pw_below_drewN (pw_below_drewN HBW.out _) _, _, _, _, _, _, _, _, _, _, _, _, _, _, _, _, _, _, _, _, _, _, _, _, _, _, _, _, _, _, _, _, _, _, _, _, _, _, _, _, _, _, _, _, _, _, _, _, _, _, _, _, _, _, _, _, _, _, _, _, _, _, _, _, _, _, _, _, _, _, rfl⟩
          · have d4 : ((rest[0].toNat : Int) == 46) = false := by rw [beq_eq_false_iff_ne]; intro z; exact c4 (UInt8.toNat_inj.mp (by simpa using (Int.ofNat.inj z)))
            have d4' : ((rest[0].toNat : Int) != 46) = true := by rw [bne_iff_ne]; intro z; exact c4 (UInt8.toNat_inj.mp (by simpa using (Int.ofNat.inj z)))
            have hr2 : r = (0, 4) := by have := HT2.out; dsimp only at this; rw [if_neg c4] at this; exact this.symm
            subst hr2
            clear c4
            go_wp2_with (go_at_call 34; (with_reducible refine (HDIG.out _).mono ?_); rintro e w' ⟨rfl, ⟨nd2, rfl⟩⟩)
            go_step3
            exact ⟨rfl, rfl, pw_below_drewN HBW.out _, _, _, _, _, _, _, _, _, _, _, _, _, _, _, _, _, _, _, _, _, _, _, _, _, _, _, _, _, _, _, _, _, _, _, _, _, _, _, _, _, _, _, _, _, _, _, _, _, _, _, _, _, _, _, _, _, _, _, _, _, _, _, _, _, _, _, _, _, _, rfl⟩
  · rintro a' w' ⟨hr, hd, u0, u1, u2, u3, u4, u5, u6, u7, u8, u9, u10, u11, u12, u13, u14, u15, u16, u17, u18, u19, u20, u21, u22, u23, u24, u25, u26, u27, u28, u29, u30, u31, u32, u33, u34, u35, u36, u37, u38, u39, u40, u41, u42, u43, u44, u45, u46, u47, u48, u49, u50, u51, u52, u53, u54, u55, u56, u57, u58, u59, u60, u61, u62, u63, u64, u65, u66, u67, u68, rfl⟩
    subst hr
    go_wp2
    simp only [Exit.jump]
    go_ret2
    exact ⟨rfl, hd⟩
theorem parse_nan (s : ByteArray) (w : World) (hs : s.size ≤ 140737488351232) (h0 : By s = [110, 97, 110]) : Calls Tryd.prog 19 #[.string s] w fun e w' => e = .returned (.tuple #[.int .i64 0, .int .i64 3]) ∧ Below w.heap.size w w' := by
  have d0 : (s.toList == [110, 97, 110]) = true := by rw [ByteArray.toList_eq]; exact beq_iff_eq.mpr h0
  have HN : Aside0 (headIs 45 (By s) = false) := ⟨by rw [h0]; rfl⟩
  have HS := Aside0.mk hs
  clear hs h0
  go_enter Tryd.func19, Tryd.ntmps19
  go_wp2
  refine wp_scope_jumps 0 (fun _ _ => False) (fun _ _ => 0) rfl ?_ (fun _ _ h => h.elim)
  go_wp2_with (go_at_call 33; (with_reducible refine (hp_calls _ _ HS.out _).mono ?_); rw [HN.out]; rintro e w' ⟨rfl, ⟨nd, rfl⟩⟩)
  simp only [Exit.jump]
  go_ret2
  exact ⟨rfl, pw_below_drewN (Below.refl _ _) _⟩
theorem parse_calls (s : ByteArray) (w : World) (hs : s.size ≤ 140737488351232) : Calls Tryd.prog 19 #[.string s] w fun e w' => e = .returned (.tuple #[.int .i64 (parseS (By s)).1, .int .i64 (parseS (By s)).2]) ∧ Below w.heap.size w w' := by
  by_cases h0 : By s = [110, 97, 110]
  · have e : parseS (By s) = (0, 3) := by unfold parseS; rw [if_pos h0]
    rw [e]
    exact parse_nan s w hs h0
  · have hx : ∀ c l, By s = c :: l → By (s.extract 1 s.size) = l ∧ (s.extract 1 s.size).size ≤ 140737488351232 := by
      intro c l h
      have h1 : s.size = l.length + 1 := by rw [← size_by, h]; rfl
      refine ⟨by rw [by_rest, h]; rfl, by rw [size_rest s 1 (by omega)]; omega⟩
    cases hb : By s with
    | nil =>
      have e : parseS ([] : List UInt8) = parseT false [] := rfl
      rw [e, ← hb]
      exact parse_none s w hs h0 (by rw [hb]; rfl) (by rw [hb]; rfl) _ rfl
    | cons c l =>
      obtain ⟨x1, x2⟩ := hx c l hb
      rw [hb] at h0
      by_cases c1 : c = 45
      · have e : parseS (c :: l) = parseT true l := by unfold parseS; rw [if_neg h0, c1]; rfl
        rw [e]
        exact parse_neg s w hs (by rw [hb]; exact h0) (by rw [hb, c1]; rfl) _ _ rfl x2 (by rw [x1])
      · by_cases c2 : c = 43
        · have e : parseS (c :: l) = parseT false l := by unfold parseS; rw [if_neg h0, c2]; rfl
          rw [e]
          exact parse_plus s w hs (by rw [hb]; exact h0) (by rw [hb, c2]; rfl) (by rw [hb, c2]; rfl) _ _ rfl x2 (by rw [x1])
        · have e : parseS (c :: l) = parseT false (c :: l) := by
            unfold parseS
            rw [if_neg h0]
            split
            · rename_i t h; exact absurd (List.cons.inj h).1 c1
            · rename_i t h; exact absurd (List.cons.inj h).1 c2
            · rfl
          rw [e, ← hb]
          exact parse_none s w hs (by rw [hb]; exact h0) (by rw [hb]; unfold headIs; simpa using c1) (by rw [hb]; unfold headIs; simpa using c2) _ rfl
end Go.Proofs.YtlifbogjjikhdaaDoor.Fl
end
section
namespace Go.Proofs.YtlifbogjjikhdaaDoor
open Go Go.RowKit Go.Proofs.YtlifbogjjikhdaaDoorW.PrintLast
section
variable {P : Program} {ops : Array Oper} {md : Region.Mode} {C : World → Prop}
structure Ext (w : World) where
  val : World
  below : Below w.heap.size w val
instance (w : World) : Inhabited (Ext w) := ⟨⟨w, Below.refl _ _⟩⟩
theorem Ext.cell {w : World} {p : Addr} {v : Value} (hc : w.cell? p = some v) (k : Ext w) : k.val.cell? p = some v := (k.below.cell (World.block_lt_of_cell? _ _ hc)).trans hc
end
end Go.Proofs.YtlifbogjjikhdaaDoor
end
section
namespace Go.Proofs.YtlifbogjjikhdaaDoor.Fl
open Go.RowKit Go.Proofs.YtlifbogjjikhdaaDoorW.PrintWords Go.Proofs.YtlifbogjjikhdaaDoorW.PrintLast Go.Proofs.YtlifbogjjikhdaaDoorW.PrintMore
set_option linter.unusedVariables false
open Go.Proofs.YtlifbogjjikhdaaDoor.FL
theorem num_calls0 (n : Int) (w : World) : Calls Tryd.prog 16 #[.int .i64 n] w fun e w' => e = .returned (.int .i64 n) ∧ w' = w := by
  go_enter Tryd.func16, Tryd.ntmps16
  go_wp2
  go_ret
  exact ⟨rfl, rfl⟩
theorem of_tenth : ofS 4591870180066957722 = (429496729, 0) := by decide +kernel
theorem parse_half : parseS [45, 48, 46, 53] = (-2147483648, 0) := by decide +kernel
theorem bits_inf : bitsS [102, 102, 102, 48, 48, 48, 48, 48, 48, 48, 48, 48, 48, 48, 48, 48] = (-9223372036854775808, 0) := by decide +kernel
theorem show_one : showT 1 = ⟨#[48, 46, 48, 48, 48, 48, 48, 48, 48, 48, 48, 50, 51, 50, 56, 51, 48, 54, 52, 51, 54, 53, 51, 56, 54, 57, 54, 50, 56, 57, 48, 54, 50, 53]⟩ := by
  unfold showT showZ showM
  rw [show (1 : Int).natAbs / 4294967296 = 0 from rfl, Lib.decDigits_one (by decide)]
  decide +kernel
set_option maxHeartbeats 8000000 in
set_option maxRecDepth 100000 in
theorem alive_calls (w : World) (ht : Tab w) : Calls Tryd.prog 12 #[] w fun e w' => e = .returned (.bool true) ∧ Below w.heap.size w w' := by
  have H1 : Aside0 (∀ W, Calls Tryd.prog 14 #[.float .f64 4591870180066957722] W fun e w' => e = .returned (.tuple #[.int .i64 429496729, .int .i64 0]) ∧ Below W.heap.size W w') := ⟨fun W => by
    have := of_calls 4591870180066957722 (by decide) W
    rw [of_tenth] at this
    exact this.mono fun _ _ ⟨he, hw⟩ => ⟨he, hw.below⟩⟩
  have H2 : Aside0 (∀ W, Calls Tryd.prog 19 #[.string ⟨#[45, 48, 46, 53]⟩] W fun e w' => e = .returned (.tuple #[.int .i64 (-2147483648), .int .i64 0]) ∧ Below W.heap.size W w') := ⟨fun W => by
    have := parse_calls ⟨#[45, 48, 46, 53]⟩ W (by decide)
    rw [show By ⟨#[45, 48, 46, 53]⟩ = [45, 48, 46, 53] from rfl, parse_half] at this
    exact this⟩
  have H3 : Aside0 (∀ W, Calls Tryd.prog 17 #[.string ⟨#[102, 102, 102, 48, 48, 48, 48, 48, 48, 48, 48, 48, 48, 48, 48, 48]⟩] W fun e w' => e = .returned (.tuple #[.int .i64 (-9223372036854775808), .int .i64 0]) ∧ Below W.heap.size W w') := ⟨fun W => by
    have := bits_calls ⟨#[102, 102, 102, 48, 48, 48, 48, 48, 48, 48, 48, 48, 48, 48, 48, 48]⟩ W (by decide)
    rw [show (⟨#[102, 102, 102, 48, 48, 48, 48, 48, 48, 48, 48, 48, 48, 48, 48, 48]⟩ : ByteArray).data.toList = [102, 102, 102, 48, 48, 48, 48, 48, 48, 48, 48, 48, 48, 48, 48, 48] from rfl, bits_inf] at this
    exact this.mono fun _ _ ⟨he, hw⟩ => ⟨he, hw.below⟩⟩
  have HT := Aside0.mk ht
  clear ht
  go_enter Tryd.func12, Tryd.ntmps12
  go_upto_region 4 with (first | (go_at_call 14; refine (H1.out _).mono ?_; rintro e W1 ⟨rfl, hb1⟩) | (go_at_call 19; refine (H2.out _).mono ?_; rintro e W2 ⟨rfl, hb2⟩) | (go_at_call 17; refine (H3.out _).mono ?_; rintro e W3 ⟨rfl, hb3⟩))
  have HB : Aside0 (Below w.heap.size w W3) := ⟨(hb1.trans (hb2.mono hb1.size)).trans (hb3.mono (hb1.trans (hb2.mono hb1.size)).size)⟩
  clear hb1 hb2 hb3 H1 H2 H3
  have HS : Aside0 (∀ k : Ext W3, Calls Tryd.prog 21 #[.int .i64 1] k.val fun e w' => e = .returned (.string ⟨#[48, 46, 48, 48, 48, 48, 48, 48, 48, 48, 48, 50, 51, 50, 56, 51, 48, 54, 52, 51, 54, 53, 51, 56, 54, 57, 54, 50, 56, 57, 48, 54, 50, 53]⟩) ∧ Below k.val.heap.size k.val w') := ⟨fun k => by
    have := show_calls 1 (by decide) (by decide) k.val ((HT.out.below HB.out).below k.below)
    rw [show_one] at this
    exact this⟩
  go_wp2_with (first | (go_at_call 16; refine (num_calls0 _ _).mono ?_; rintro e w' ⟨rfl, rfl⟩) | (go_at_call 21; refine (HS.out ⟨_, Below.refl _ _⟩).mono ?_; rintro e W4 ⟨rfl, hb4⟩))
  have hW4 : Below w.heap.size w W4 := HB.out.trans (hb4.mono HB.out.size)
  go_ret
  exact ⟨rfl, hW4⟩
end Go.Proofs.YtlifbogjjikhdaaDoor.Fl
end
section
namespace Go.Proofs.YtlifbogjjikhdaaDoor.Fl
open Go.RowKit Go.Proofs.YtlifbogjjikhdaaDoorW.PrintWords Go.Proofs.YtlifbogjjikhdaaDoorW.PrintLast Go.Proofs.YtlifbogjjikhdaaDoorW.PrintMore
set_option linter.unusedVariables false
open Go.Proofs.YtlifbogjjikhdaaDoor.FL
attribute [local go_sem] run13 run26
theorem xor_top {a : Nat} (h : a < 9223372036854775808) : a ^^^ 2 ^ 63 = 2 ^ 63 + a := by
  refine Nat.eq_of_testBit_eq fun i => ?_
  rw [Nat.testBit_xor, Nat.testBit_two_pow]
  rcases Nat.lt_trichotomy i 63 with c | c | c
  · rw [Nat.testBit_two_pow_add_gt c, decide_eq_false (by omega), Bool.xor_false]
  · subst c
    rw [Nat.testBit_two_pow_add_eq, Nat.testBit_lt_two_pow (by exact h)]
    rfl
  · have h1 : Nat.testBit a i = false := Nat.testBit_lt_two_pow (Nat.lt_of_lt_of_le h (Nat.pow_le_pow_right (n := 2) (by decide) (by omega : 63 ≤ i)))
    have h2 : Nat.testBit (2 ^ 63 + a) i = false := by
      refine Nat.testBit_lt_two_pow (Nat.lt_of_lt_of_le (show 2 ^ 63 + a < 2 ^ 64 by omega) (Nat.pow_le_pow_right (n := 2) (by decide) (by omega)))
    rw [h1, h2, decide_eq_false (by omega)]
    rfl
theorem neg_word (a : Nat) (h : a < 18446744073709551616) : Op.negFloat .f64 a = if a < 9223372036854775808 then a + 9223372036854775808 else a - 9223372036854775808 := by
  show a ^^^ 2 ^ 63 = _
  by_cases c : a < 9223372036854775808
  · rw [if_pos c, xor_top c]; omega
  · rw [if_neg c]
    obtain ⟨d, rfl⟩ : ∃ d, a = 2 ^ 63 + d := ⟨a - 2 ^ 63, by omega⟩
    rw [← xor_top (a := d) (by omega), Nat.xor_assoc, Nat.xor_self, Nat.xor_zero, xor_top (by omega)]
    omega
theorem neg_read (a : Nat) (h : a < 18446744073709551616) : Op.negFloat .f64 a < 18446744073709551616 ∧ Ieee.double.read (Op.negFloat .f64 a) = (Ieee.double.read a).opposite := by
  rw [neg_word a h]
  by_cases c : a < 9223372036854775808
  · rw [if_pos c]
    exact ⟨by omega, opp_read a h _ (by omega) (by omega) (by rw [decide_eq_true (by omega), decide_eq_false (by omega)]; rfl)⟩
  · rw [if_neg c]
    exact ⟨by omega, opp_read a h _ (by omega) (by omega) (by rw [decide_eq_false (by omega), decide_eq_true (by omega)]; rfl)⟩
theorem neg_num {a : Nat} (h : a < 18446744073709551616) {x : Int} (hx : valB a = some x) : ∃ z, ofS (Op.negFloat .f64 a) = (z, 0) ∧ (x = -9223372036854775808 ∨ x = 9223372036854775807 ∨ z = -9223372036854775808 ∨ z = 9223372036854775807 ∨ z = -x ∨ z = -x - 1) := by
  obtain ⟨z, hz, ho⟩ := valD_opp hx
  refine ⟨z, ?_, ho⟩
  unfold ofS valB
  rw [(neg_read a h).2, hz]
theorem run_neg (a c : Nat) (h : Op.negFloat .f64 a = c) (W : World) : (Op.unary .neg (.float .f64 a)).run Tryd.prog W = .ok (.float .f64 c) W := by
  subst h
  rfl
theorem val_in {a : Nat} (ha : a < 18446744073709551616) {x : Int} (hx : valB a = some x) : -9223372036854775808 ≤ x ∧ x ≤ 9223372036854775807 := by
  rw [val_parts a ha] at hx
  split at hx
  · cases hx
  · split at hx
    · cases hx
      split <;> decide
    · cases hx
      exact ⟨clip_lo _, clip_hi _⟩
set_option maxHeartbeats 8000000 in
set_option maxRecDepth 100000 in
theorem order_num (p q : Int) (w : World) (ht : Tab w) (a b : Nat) (ha : a < 18446744073709551616) (hb : b < 18446744073709551616) (hp : IntKind.u64.wrap p = (a : Int)) (hq : IntKind.u64.wrap q = (b : Int)) (x y : Int) (hx : valB a = some x) (hy : valB b = some y) : Calls Tryd.prog 9 #[.int .i64 p, .int .i64 q] w fun e w' => e = .returned (.bool true) ∧ Below w.heap.size w w' := by
  obtain ⟨z, hz, ho⟩ := neg_num ha hx
  obtain ⟨x0, x1⟩ := val_in ha hx
  have ea : (FloatKind.f64.format.order a a != some .eq) = false := by rw [order_nan, hx]; rfl
  have eb : (FloatKind.f64.format.order b b != some .eq) = false := by rw [order_nan, hy]; rfl
  have HL : Aside0 ((FloatKind.f64.format.order a b == some .lt || FloatKind.f64.format.order a b == some .eq) = true → x ≤ y) := ⟨fun h => by
    rw [Bool.or_eq_true, beq_iff_eq, beq_iff_eq] at h
    exact order_le hx hy h⟩
  have HE : Aside0 ((FloatKind.f64.format.order a b == some .eq) = true → x = y) := ⟨fun h => by
    rw [beq_iff_eq] at h
    exact order_eq hx hy h⟩
  have HA := Aside0.mk (alive_calls w ht)
  have HX := Aside0.mk hp
  have HY := Aside0.mk hq
  have hl := (neg_read a ha).1
  obtain ⟨c, hc⟩ : ∃ c, Op.negFloat .f64 a = c := ⟨_, rfl⟩
  rw [hc] at hz hl
  have hneg := run_neg a c hc
  have H1 : Aside0 (∀ W, Calls Tryd.prog 14 #[.float .f64 a] W fun e w' => e = .returned (.tuple #[.int .i64 x, .int .i64 0]) ∧ Below W.heap.size W w') := ⟨fun W => by
    have h := of_calls a ha W
    unfold ofS at h
    rw [hx] at h
    exact h.mono fun _ _ ⟨he, hw⟩ => ⟨he, hw.below⟩⟩
  have H2 : Aside0 (∀ W, Calls Tryd.prog 14 #[.float .f64 b] W fun e w' => e = .returned (.tuple #[.int .i64 y, .int .i64 0]) ∧ Below W.heap.size W w') := ⟨fun W => by
    have h := of_calls b hb W
    unfold ofS at h
    rw [hy] at h
    exact h.mono fun _ _ ⟨he, hw⟩ => ⟨he, hw.below⟩⟩
  have H3 : Aside0 (∀ W, Calls Tryd.prog 14 #[.float .f64 c] W fun e w' => e = .returned (.tuple #[.int .i64 z, .int .i64 0]) ∧ Below W.heap.size W w') := ⟨fun W => by
    have h := of_calls c hl W
    rw [hz] at h
    exact h.mono fun _ _ ⟨he, hw⟩ => ⟨he, hw.below⟩⟩
  have HO := Aside0.mk ho
  have HI := Aside0.mk (And.intro x0 x1)
  clear ht hp hq ha hb hx hy hz ho hl hc x0 x1
  go_enter Tryd.func9, Tryd.ntmps9
  go_upto_region 4 with (first | (go_at_call 12; refine HA.out.mono ?_; rintro e W1 ⟨rfl, hb1⟩))
  rw [HX.out, HY.out, Int.toNat_natCast, Int.toNat_natCast]
  go_upto_region 5 with (go_at_call 14; refine (H1.out _).mono ?_; rintro e W2 ⟨rfl, hb2⟩)
  go_upto_region 6 with (go_at_call 14; refine (H2.out _).mono ?_; rintro e W3 ⟨rfl, hb3⟩)
  go_upto_region 7 with (go_at_call 14; refine (H3.out _).mono ?_; rintro e W4 ⟨rfl, hb4⟩)
  have HB : Aside0 (Below w.heap.size w W4) := ⟨by
    have k2 := hb1.trans (hb2.mono hb1.size)
    have k3 := k2.trans (hb3.mono k2.size)
    exact k3.trans (hb4.mono k3.size)⟩
  clear hb1 hb2 hb3 hb4
  go_upto_region 11 with (go_at_call 16; refine (num_calls0 _ _).mono ?_; rintro e w' ⟨rfl, rfl⟩)
  by_cases hE0 : FloatKind.f64.format.order a b = some .eq
  · have hE : (FloatKind.f64.format.order a b == some .eq) = true := beq_iff_eq.mpr hE0
    have hT : (FloatKind.f64.format.order a b == some .lt) = false := by rw [hE0]; rfl
    obtain rfl := HE.out hE
    have c1 : decide (x < x) = false := decide_eq_false (by omega)
    have c2 : (x != x) = false := by simp
    clear HL HE hE0
    by_cases m1 : x = 9223372036854775807
    · have d1 : (x == 9223372036854775807) = true := by simpa using m1
      clear m1
      go_wp2_with (go_at_call 16; refine (num_calls0 _ _).mono ?_; rintro e w' ⟨rfl, rfl⟩)
      go_ret
      exact ⟨rfl, HB.out⟩
    · have d1 : (x == 9223372036854775807) = false := by simpa using m1
      by_cases m2 : x = -9223372036854775808
      · have d2 : (x == -9223372036854775808) = true := by simpa using m2
        clear m1 m2
        go_wp2_with (go_at_call 16; refine (num_calls0 _ _).mono ?_; rintro e w' ⟨rfl, rfl⟩)
        go_ret
        exact ⟨rfl, HB.out⟩
      · have d2 : (x == -9223372036854775808) = false := by simpa using m2
        by_cases m3 : z = 9223372036854775807
        · have d3 : (z == 9223372036854775807) = true := by simpa using m3
          clear m1 m2 m3
          go_wp2_with (go_at_call 16; refine (num_calls0 _ _).mono ?_; rintro e w' ⟨rfl, rfl⟩)
          go_ret
          exact ⟨rfl, HB.out⟩
        · have d3 : (z == 9223372036854775807) = false := by simpa using m3
          by_cases m4 : z = -9223372036854775808
          · have d4 : (z == -9223372036854775808) = true := by simpa using m4
            clear m1 m2 m3 m4
            go_wp2_with (go_at_call 16; refine (num_calls0 _ _).mono ?_; rintro e w' ⟨rfl, rfl⟩)
            go_ret
            exact ⟨rfl, HB.out⟩
          · have d4 : (z == -9223372036854775808) = false := by simpa using m4
            have n1 : IntKind.i64.wrap (-x) = -x := by rw [i64_w]; unfold wrap64; have := HI.out; omega
            have n2 : IntKind.i64.wrap (-x - 1) = -x - 1 := by rw [i64_w]; unfold wrap64; have := HI.out; omega
            by_cases m5 : z = -x
            · have d5 : (z == -x) = true := by simpa using m5
              clear m1 m2 m3 m4 m5
              go_wp2_with (go_at_call 16; refine (num_calls0 _ _).mono ?_; rintro e w' ⟨rfl, rfl⟩)
              go_ret
              exact ⟨rfl, HB.out⟩
            · have m6 : z = -x - 1 := by have := HO.out; omega
              have d5 : (z == -x) = false := by simpa using m5
              have d6 : (z == -x - 1) = true := by simpa using m6
              clear m1 m2 m3 m4 m5 m6
              go_wp2_with (go_at_call 16; refine (num_calls0 _ _).mono ?_; rintro e w' ⟨rfl, rfl⟩)
              go_ret
              exact ⟨rfl, HB.out⟩
  · have hE : (FloatKind.f64.format.order a b == some .eq) = false := beq_eq_false_iff_ne.mpr hE0
    by_cases hT0 : FloatKind.f64.format.order a b = some .lt
    · have hT : (FloatKind.f64.format.order a b == some .lt) = true := beq_iff_eq.mpr hT0
      have hle := HL.out (by rw [hT]; rfl)
      have c1 : decide (y < x) = false := decide_eq_false (by omega)
      clear HL HE hle hT0 hE0
      by_cases m1 : x = 9223372036854775807
      · have d1 : (x == 9223372036854775807) = true := by simpa using m1
        clear m1
        go_wp2_with (go_at_call 16; refine (num_calls0 _ _).mono ?_; rintro e w' ⟨rfl, rfl⟩)
        go_ret
        exact ⟨rfl, HB.out⟩
      · have d1 : (x == 9223372036854775807) = false := by simpa using m1
        by_cases m2 : x = -9223372036854775808
        · have d2 : (x == -9223372036854775808) = true := by simpa using m2
          clear m1 m2
          go_wp2_with (go_at_call 16; refine (num_calls0 _ _).mono ?_; rintro e w' ⟨rfl, rfl⟩)
          go_ret
          exact ⟨rfl, HB.out⟩
        · have d2 : (x == -9223372036854775808) = false := by simpa using m2
          by_cases m3 : z = 9223372036854775807
          · have d3 : (z == 9223372036854775807) = true := by simpa using m3
            clear m1 m2 m3
            go_wp2_with (go_at_call 16; refine (num_calls0 _ _).mono ?_; rintro e w' ⟨rfl, rfl⟩)
            go_ret
            exact ⟨rfl, HB.out⟩
          · have d3 : (z == 9223372036854775807) = false := by simpa using m3
            by_cases m4 : z = -9223372036854775808
            · have d4 : (z == -9223372036854775808) = true := by simpa using m4
              clear m1 m2 m3 m4
              go_wp2_with (go_at_call 16; refine (num_calls0 _ _).mono ?_; rintro e w' ⟨rfl, rfl⟩)
              go_ret
              exact ⟨rfl, HB.out⟩
            · have d4 : (z == -9223372036854775808) = false := by simpa using m4
              have n1 : IntKind.i64.wrap (-x) = -x := by rw [i64_w]; unfold wrap64; have := HI.out; omega
              have n2 : IntKind.i64.wrap (-x - 1) = -x - 1 := by rw [i64_w]; unfold wrap64; have := HI.out; omega
              by_cases m5 : z = -x
              · have d5 : (z == -x) = true := by simpa using m5
                clear m1 m2 m3 m4 m5
                go_wp2_with (go_at_call 16; refine (num_calls0 _ _).mono ?_; rintro e w' ⟨rfl, rfl⟩)
                go_ret
                exact ⟨rfl, HB.out⟩
              · have m6 : z = -x - 1 := by have := HO.out; omega
                have d5 : (z == -x) = false := by simpa using m5
                have d6 : (z == -x - 1) = true := by simpa using m6
                clear m1 m2 m3 m4 m5 m6
                go_wp2_with (go_at_call 16; refine (num_calls0 _ _).mono ?_; rintro e w' ⟨rfl, rfl⟩)
                go_ret
                exact ⟨rfl, HB.out⟩
    · have hT : (FloatKind.f64.format.order a b == some .lt) = false := beq_eq_false_iff_ne.mpr hT0
      clear HL HE hT0 hE0
      by_cases m1 : x = 9223372036854775807
      · have d1 : (x == 9223372036854775807) = true := by simpa using m1
        clear m1
        go_wp2_with (go_at_call 16; refine (num_calls0 _ _).mono ?_; rintro e w' ⟨rfl, rfl⟩)
        go_ret
        exact ⟨rfl, HB.out⟩
      · have d1 : (x == 9223372036854775807) = false := by simpa using m1
        by_cases m2 : x = -9223372036854775808
        · have d2 : (x == -9223372036854775808) = true := by simpa using m2
          clear m1 m2
          go_wp2_with (go_at_call 16; refine (num_calls0 _ _).mono ?_; rintro e w' ⟨rfl, rfl⟩)
          go_ret
          exact ⟨rfl, HB.out⟩
        · have d2 : (x == -9223372036854775808) = false := by simpa using m2
          by_cases m3 : z = 9223372036854775807
          · have d3 : (z == 9223372036854775807) = true := by simpa using m3
            clear m1 m2 m3
            go_wp2_with (go_at_call 16; refine (num_calls0 _ _).mono ?_; rintro e w' ⟨rfl, rfl⟩)
            go_ret
            exact ⟨rfl, HB.out⟩
          · have d3 : (z == 9223372036854775807) = false := by simpa using m3
            by_cases m4 : z = -9223372036854775808
            · have d4 : (z == -9223372036854775808) = true := by simpa using m4
              clear m1 m2 m3 m4
              go_wp2_with (go_at_call 16; refine (num_calls0 _ _).mono ?_; rintro e w' ⟨rfl, rfl⟩)
              go_ret
              exact ⟨rfl, HB.out⟩
            · have d4 : (z == -9223372036854775808) = false := by simpa using m4
              have n1 : IntKind.i64.wrap (-x) = -x := by rw [i64_w]; unfold wrap64; have := HI.out; omega
              have n2 : IntKind.i64.wrap (-x - 1) = -x - 1 := by rw [i64_w]; unfold wrap64; have := HI.out; omega
              by_cases m5 : z = -x
              · have d5 : (z == -x) = true := by simpa using m5
                clear m1 m2 m3 m4 m5
                go_wp2_with (go_at_call 16; refine (num_calls0 _ _).mono ?_; rintro e w' ⟨rfl, rfl⟩)
                go_ret
                exact ⟨rfl, HB.out⟩
              · have m6 : z = -x - 1 := by have := HO.out; omega
                have d5 : (z == -x) = false := by simpa using m5
                have d6 : (z == -x - 1) = true := by simpa using m6
                clear m1 m2 m3 m4 m5 m6
                go_wp2_with (go_at_call 16; refine (num_calls0 _ _).mono ?_; rintro e w' ⟨rfl, rfl⟩)
                go_ret
                exact ⟨rfl, HB.out⟩
set_option maxHeartbeats 8000000 in
set_option maxRecDepth 100000 in
theorem order_nn (p q : Int) (w : World) (ht : Tab w) (a b : Nat) (ha : a < 18446744073709551616) (hb : b < 18446744073709551616) (hp : IntKind.u64.wrap p = (a : Int)) (hq : IntKind.u64.wrap q = (b : Int)) (hx : valB a = none) (hy : valB b = none) : Calls Tryd.prog 9 #[.int .i64 p, .int .i64 q] w fun e w' => e = .returned (.bool true) ∧ Below w.heap.size w w' := by
  have ea : (FloatKind.f64.format.order a a != some .eq) = true := by rw [order_nan, hx]; rfl
  have eb : (FloatKind.f64.format.order b b != some .eq) = true := by rw [order_nan, hy]; rfl
  have HA := Aside0.mk (alive_calls w ht)
  have HX := Aside0.mk hp
  have HY := Aside0.mk hq
  have hl := (neg_read a ha).1
  obtain ⟨c, hc⟩ : ∃ c, Op.negFloat .f64 a = c := ⟨_, rfl⟩
  rw [hc] at hl
  have hneg := run_neg a c hc
  have H1 : Aside0 (∀ W, Calls Tryd.prog 14 #[.float .f64 a] W fun e w' => e = .returned (.tuple #[.int .i64 0, .int .i64 3]) ∧ Below W.heap.size W w') := ⟨fun W => by
    have h := of_calls a ha W
    unfold ofS at h
    rw [hx] at h
    exact h.mono fun _ _ ⟨he, hw⟩ => ⟨he, hw.below⟩⟩
  have H2 : Aside0 (∀ W, Calls Tryd.prog 14 #[.float .f64 b] W fun e w' => e = .returned (.tuple #[.int .i64 0, .int .i64 3]) ∧ Below W.heap.size W w') := ⟨fun W => by
    have h := of_calls b hb W
    unfold ofS at h
    rw [hy] at h
    exact h.mono fun _ _ ⟨he, hw⟩ => ⟨he, hw.below⟩⟩
  have H3 : Aside0 (∀ W, Calls Tryd.prog 14 #[.float .f64 c] W fun e w' => e = .returned (.tuple #[.int .i64 (ofS c).1, .int .i64 (ofS c).2]) ∧ Below W.heap.size W w') := ⟨fun W => (of_calls c hl W).mono fun _ _ ⟨he, hw⟩ => ⟨he, hw.below⟩⟩
  generalize ofS c = r3 at H3
  clear ht hp hq ha hb hx hy hl hc
  go_enter Tryd.func9, Tryd.ntmps9
  go_upto_region 4 with (first | (go_at_call 12; refine HA.out.mono ?_; rintro e W1 ⟨rfl, hb1⟩))
  rw [HX.out, HY.out, Int.toNat_natCast, Int.toNat_natCast]
  go_upto_region 5 with (go_at_call 14; refine (H1.out _).mono ?_; rintro e W2 ⟨rfl, hb2⟩)
  go_upto_region 6 with (go_at_call 14; refine (H2.out _).mono ?_; rintro e W3 ⟨rfl, hb3⟩)
  go_upto_region 7 with (go_at_call 14; refine (H3.out _).mono ?_; rintro e W4 ⟨rfl, hb4⟩)
  have HB : Aside0 (Below w.heap.size w W4) := ⟨by
    have k2 := hb1.trans (hb2.mono hb1.size)
    have k3 := k2.trans (hb3.mono k2.size)
    exact k3.trans (hb4.mono k3.size)⟩
  clear hb1 hb2 hb3 hb4
  go_wp2_with (go_at_call 16; refine (num_calls0 _ _).mono ?_; rintro e w' ⟨rfl, rfl⟩)
  go_ret
  exact ⟨rfl, HB.out⟩
set_option maxHeartbeats 8000000 in
set_option maxRecDepth 100000 in
theorem order_nx (p q : Int) (w : World) (ht : Tab w) (a b : Nat) (ha : a < 18446744073709551616) (hb : b < 18446744073709551616) (hp : IntKind.u64.wrap p = (a : Int)) (hq : IntKind.u64.wrap q = (b : Int)) (y : Int) (hx : valB a = none) (hy : valB b = some y) : Calls Tryd.prog 9 #[.int .i64 p, .int .i64 q] w fun e w' => e = .returned (.bool true) ∧ Below w.heap.size w w' := by
  have ea : (FloatKind.f64.format.order a a != some .eq) = true := by rw [order_nan, hx]; rfl
  have eb : (FloatKind.f64.format.order b b != some .eq) = false := by rw [order_nan, hy]; rfl
  have HA := Aside0.mk (alive_calls w ht)
  have HX := Aside0.mk hp
  have HY := Aside0.mk hq
  have hl := (neg_read a ha).1
  obtain ⟨c, hc⟩ : ∃ c, Op.negFloat .f64 a = c := ⟨_, rfl⟩
  rw [hc] at hl
  have hneg := run_neg a c hc
  have H1 : Aside0 (∀ W, Calls Tryd.prog 14 #[.float .f64 a] W fun e w' => e = .returned (.tuple #[.int .i64 0, .int .i64 3]) ∧ Below W.heap.size W w') := ⟨fun W => by
    have h := of_calls a ha W
    unfold ofS at h
    rw [hx] at h
    exact h.mono fun _ _ ⟨he, hw⟩ => ⟨he, hw.below⟩⟩
  have H2 : Aside0 (∀ W, Calls Tryd.prog 14 #[.float .f64 b] W fun e w' => e = .returned (.tuple #[.int .i64 y, .int .i64 0]) ∧ Below W.heap.size W w') := ⟨fun W => by
    have h := of_calls b hb W
    unfold ofS at h
    rw [hy] at h
    exact h.mono fun _ _ ⟨he, hw⟩ => ⟨he, hw.below⟩⟩
  have H3 : Aside0 (∀ W, Calls Tryd.prog 14 #[.float .f64 c] W fun e w' => e = .returned (.tuple #[.int .i64 (ofS c).1, .int .i64 (ofS c).2]) ∧ Below W.heap.size W w') := ⟨fun W => (of_calls c hl W).mono fun _ _ ⟨he, hw⟩ => ⟨he, hw.below⟩⟩
  generalize ofS c = r3 at H3
  clear ht hp hq ha hb hx hy hl hc
  go_enter Tryd.func9, Tryd.ntmps9
  go_upto_region 4 with (first | (go_at_call 12; refine HA.out.mono ?_; rintro e W1 ⟨rfl, hb1⟩))
  rw [HX.out, HY.out, Int.toNat_natCast, Int.toNat_natCast]
  go_upto_region 5 with (go_at_call 14; refine (H1.out _).mono ?_; rintro e W2 ⟨rfl, hb2⟩)
  go_upto_region 6 with (go_at_call 14; refine (H2.out _).mono ?_; rintro e W3 ⟨rfl, hb3⟩)
  go_upto_region 7 with (go_at_call 14; refine (H3.out _).mono ?_; rintro e W4 ⟨rfl, hb4⟩)
  have HB : Aside0 (Below w.heap.size w W4) := ⟨by
    have k2 := hb1.trans (hb2.mono hb1.size)
    have k3 := k2.trans (hb3.mono k2.size)
    exact k3.trans (hb4.mono k3.size)⟩
  clear hb1 hb2 hb3 hb4
  go_wp2_with (go_at_call 16; refine (num_calls0 _ _).mono ?_; rintro e w' ⟨rfl, rfl⟩)
  go_ret
  exact ⟨rfl, HB.out⟩
set_option maxHeartbeats 8000000 in
set_option maxRecDepth 100000 in
theorem order_xn (p q : Int) (w : World) (ht : Tab w) (a b : Nat) (ha : a < 18446744073709551616) (hb : b < 18446744073709551616) (hp : IntKind.u64.wrap p = (a : Int)) (hq : IntKind.u64.wrap q = (b : Int)) (x : Int) (hx : valB a = some x) (hy : valB b = none) : Calls Tryd.prog 9 #[.int .i64 p, .int .i64 q] w fun e w' => e = .returned (.bool true) ∧ Below w.heap.size w w' := by
  have ea : (FloatKind.f64.format.order a a != some .eq) = false := by rw [order_nan, hx]; rfl
  have eb : (FloatKind.f64.format.order b b != some .eq) = true := by rw [order_nan, hy]; rfl
  have HA := Aside0.mk (alive_calls w ht)
  have HX := Aside0.mk hp
  have HY := Aside0.mk hq
  have hl := (neg_read a ha).1
  obtain ⟨c, hc⟩ : ∃ c, Op.negFloat .f64 a = c := ⟨_, rfl⟩
  rw [hc] at hl
  have hneg := run_neg a c hc
  have H1 : Aside0 (∀ W, Calls Tryd.prog 14 #[.float .f64 a] W fun e w' => e = .returned (.tuple #[.int .i64 x, .int .i64 0]) ∧ Below W.heap.size W w') := ⟨fun W => by
    have h := of_calls a ha W
    unfold ofS at h
    rw [hx] at h
    exact h.mono fun _ _ ⟨he, hw⟩ => ⟨he, hw.below⟩⟩
  have H2 : Aside0 (∀ W, Calls Tryd.prog 14 #[.float .f64 b] W fun e w' => e = .returned (.tuple #[.int .i64 0, .int .i64 3]) ∧ Below W.heap.size W w') := ⟨fun W => by
    have h := of_calls b hb W
    unfold ofS at h
    rw [hy] at h
    exact h.mono fun _ _ ⟨he, hw⟩ => ⟨he, hw.below⟩⟩
  have H3 : Aside0 (∀ W, Calls Tryd.prog 14 #[.float .f64 c] W fun e w' => e = .returned (.tuple #[.int .i64 (ofS c).1, .int .i64 (ofS c).2]) ∧ Below W.heap.size W w') := ⟨fun W => (of_calls c hl W).mono fun _ _ ⟨he, hw⟩ => ⟨he, hw.below⟩⟩
  generalize ofS c = r3 at H3
  clear ht hp hq ha hb hx hy hl hc
  go_enter Tryd.func9, Tryd.ntmps9
  go_upto_region 4 with (first | (go_at_call 12; refine HA.out.mono ?_; rintro e W1 ⟨rfl, hb1⟩))
  rw [HX.out, HY.out, Int.toNat_natCast, Int.toNat_natCast]
  go_upto_region 5 with (go_at_call 14; refine (H1.out _).mono ?_; rintro e W2 ⟨rfl, hb2⟩)
  go_upto_region 6 with (go_at_call 14; refine (H2.out _).mono ?_; rintro e W3 ⟨rfl, hb3⟩)
  go_upto_region 7 with (go_at_call 14; refine (H3.out _).mono ?_; rintro e W4 ⟨rfl, hb4⟩)
  have HB : Aside0 (Below w.heap.size w W4) := ⟨by
    have k2 := hb1.trans (hb2.mono hb1.size)
    have k3 := k2.trans (hb3.mono k2.size)
    exact k3.trans (hb4.mono k3.size)⟩
  clear hb1 hb2 hb3 hb4
  go_wp2_with (go_at_call 16; refine (num_calls0 _ _).mono ?_; rintro e w' ⟨rfl, rfl⟩)
  go_ret
  exact ⟨rfl, HB.out⟩
theorem laworder_calls (p q : Int) (w : World) (ht : Tab w) : Calls Tryd.prog 9 #[.int .i64 p, .int .i64 q] w fun e w' => e = .returned (.bool true) ∧ Below w.heap.size w w' := by
  obtain ⟨a, hp⟩ : ∃ b : Nat, IntKind.u64.wrap p = (b : Int) := ⟨(IntKind.u64.wrap p).toNat, by have := wrap_lt p; omega⟩
  obtain ⟨b, hq⟩ : ∃ b : Nat, IntKind.u64.wrap q = (b : Int) := ⟨(IntKind.u64.wrap q).toNat, by have := wrap_lt q; omega⟩
  have ha : a < 18446744073709551616 := by have := wrap_lt p; omega
  have hb : b < 18446744073709551616 := by have := wrap_lt q; omega
  cases hx : valB a with
  | none =>
    cases hy : valB b with
    | none => exact order_nn p q w ht a b ha hb hp hq hx hy
    | some y => exact order_nx p q w ht a b ha hb hp hq y hx hy
  | some x =>
    cases hy : valB b with
    | none => exact order_xn p q w ht a b ha hb hp hq x hx hy
    | some y => exact order_num p q w ht a b ha hb hp hq x y hx hy
end Go.Proofs.YtlifbogjjikhdaaDoor.Fl
end
section
namespace Go.Proofs.YtlifbogjjikhdaaDoor.floatsOrder
open Go.ChangeShapes Go.WideShapes Go.ChangeAt Go.RowKit
open Go.ChangeMaps (open_string shut_string)
open Go.Proofs.YtlifbogjjikhdaaDoor.Fl
set_option linter.unusedVariables false
set_option maxRecDepth 100000 in
theorem lifted (os : Os) (started : os.Started) (H : Type) (enc : TypeId × Value → H) :
    ReturnsInHanded {} Tryd.checked os 9 .any (fun w args => (Rows.floatsOrderSpec.pre enc Tryd.prog Tryd.f9 [] false w args ∧ laidMetH Tryd.prog laidL w) ∧ sizedMet enc Tryd.prog Tryd.f9 (OpenSpec.ofChange Rows.floatsOrderSpec) false w args)
      (Rows.floatsOrderSpec.post enc Tryd.prog Tryd.f9 false true false false) := by
  refine returnsInHanded_of_change_and (C := Tryd.checked) (X := fun w _ => laidMetH Tryd.prog laidL w) (fun _ _ _ hh h => h.of_heap hh) own started (by kernel_rfl) Tryd.func9
    (ChangeSpec.witness_shaped (enc := enc) (C := Tryd.checked) (os := os) (X := fun w _ => laidMetH Tryd.prog laidL w) false (World.doorLaid Tryd.prog 24 os) #[.int .i64 0, .int .i64 0] 8 rfl (World.shaped_of_RefB (by kernel_rfl) (by kernel_rfl)) (by kernel_rfl) (by kernel_rfl) (by kernel_rfl) (door_met os _)) ?_
  intro W base args ds gs before hval0 hW _ hsz0 hL _
  have ht := tab_of hL
  have hval : ∀ (j : Nat) t v, Tryd.f9.params[j]? = some t → args[j]? = some v → Value.okWide Tryd.prog W .any base t v := hval0
  have hsz : (DataW.weightsEach Tryd.prog (Tryd.f9.params.toList ++ Rows.floatsOrderSpec.plain.varTypes Tryd.prog) (ds ++ gs)).all (· ≤ reachBytes) = true := hsz0
  have hW' := hW
  obtain ⟨p, q, hA0, hV, rfl, hfz, hnd⟩ := hW
  have hA : DataW.TrodAll enc Tryd.prog W 0 (fun _ => true) true Tryd.f9.params.toList args.toList ds p := hA0
  rw [Tryd.params9] at hA hval hsz
  obtain ⟨v0, vs0, d0, ds0, p0, q0, hargs, rfl, rfl, h0, r0⟩ := trodAll_cons hA
  obtain ⟨v1, vs1, d1, ds1, p1, q1, rfl, rfl, rfl, h1, r1⟩ := trodAll_cons r0
  obtain ⟨rfl, rfl, rfl⟩ := trodAll_nil r1
  obtain rfl : args = #[v0, v1] := by cases args; simp_all
  obtain ⟨rfl, rfl⟩ := trodVars_none hV
  obtain ⟨a0, rfl, rfl, rfl, w0⟩ := open_int Tryd.underlying3 (hval 0 3 v0 rfl rfl) h0
  have b0 : -9223372036854775808 ≤ a0 ∧ a0 ≤ 9223372036854775807 := int_in w0
  obtain ⟨a1, rfl, rfl, rfl, w1⟩ := open_int Tryd.underlying3 (hval 1 3 v1 rfl rfl) h1
  have b1 : -9223372036854775808 ≤ a1 ∧ a1 ≤ 9223372036854775807 := int_in w1
  clear hA0 hval0 hsz0 hL
  refine (laworder_calls a0 a1 W ht).mono fun e W' ⟨he, bel⟩ => ?_
  subst he
  exact ⟨_, rfl, _, _, _, [], _, [], hW', trodAll_mk1 (shut_bool Tryd.underlying4 _), (trodAll_cons_mk (shut_int Tryd.underlying3 w0) (trodAll_cons_mk (shut_int Tryd.underlying3 w1) trodAll_mk0)), rfl, bel.frame _, fun h => by cases h⟩
theorem over : Rows.floatsOrderRow.holds Tryd.pinned (OpenSpec.ofChange Rows.floatsOrderSpec) :=
  OpenClaim.holds_of_wide 9 Tryd.f9 rfl rfl rfl rfl rfl rfl rfl ⟨rfl, rfl, rfl, rfl, rfl⟩ rfl rfl rfl rfl rfl (by kernel_rfl) Tryd.func9 (by kernel_rfl)
    (of_decide_eq_true (by kernel_rfl)) (by unfold Func.isWrapper; first | (rw [if_pos (by decide +kernel)]; kernel_rfl) | (rw [if_neg (by decide +kernel)]; exact ⟨rfl, rfl⟩))
    (fun os started H enc _ => lifted os started H enc)
theorem card_holds : Claim7.holds Tryd.pinned (.plain (OpenSpec.ofChange Rows.floatsOrderSpec)) Rows.floatsOrderCard :=
  Claim7.holds_tied_plain_at .later [] [.data, .data, .data] true (true, "d6d8c83535152071f5c39a6202c6aa14b76c6ab3078df765f5b24e7134d1c620") false
    over (fun _ h => by cases h) (by kernel_rfl) (fun _ h => by cases h) floatsOrder_row_tie rfl ⟨rfl, rfl⟩ (by kernel_rfl) rfl
    (fun f fn hf hfn => by
      obtain rfl : f = 9 := Option.some.inj ((show Tryd.prog.funcNamed "lysimeter/lysimeterlaw2.FloatsOrder" = some 9 by kernel_rfl).symm.trans hf) |>.symm
      obtain rfl : fn = Tryd.f9 := (Option.some.inj (Tryd.func9.symm.trans hfn)).symm
      exact ⟨by kernel_rfl, fun j t ht => by
        rw [Tryd.params9] at ht
        have hm : t ∈ [3, 3] := by simpa using Array.mem_of_getElem? ht
        have hall : ([3, 3].all fun u => !Tryd.prog.wantsStandIn u) = true := by kernel_rfl
        exact (show Tryd.prog.wantsStandIn t = false by simpa using List.all_eq_true.1 hall t hm)⟩)
    (by kernel_rfl)
theorem proved : Rows.FloatsOrderCardSaid := card_holds
#print axioms proved
end Go.Proofs.YtlifbogjjikhdaaDoor.floatsOrder
namespace Go.Proofs.YtlifbogjjikhdaaDoor
theorem floatsOrder_card : Rows.FloatsOrderCardSaid := floatsOrder.proved
end Go.Proofs.YtlifbogjjikhdaaDoor
end
