/- The text that package floats shows of a fixed-point number is the reference's, and it is read again as that number unless it has too many digits. Conditions: none beyond the given card's. -/
-- Laid together by wip/shake.py out of: FlParse FlParse2 QT FlAlive FlParT FlRShow FlLShow LawFloatsShow
import Derived.Test.YtlifbogjjikhdaaDoorFloatsShowm2
import Derived.Lib.Strings
import Derived.Deep.Quiet
import Derived.StillTail
import Derived.Deep.QuietTactic
import Derived.Tactics
import Derived.Below
import Derived.BigQuiet
import Derived.Test.YtlifbogjjikhdaaDoorTie
import Derived.Test.YtlifbogjjikhdaaDoorCards
import Derived.SevenTiedAt
section
namespace Go.Proofs.YtlifbogjjikhdaaDoor.Fl
open Go.RowKit Go.Proofs.YtlifbogjjikhdaaDoorW.PrintWords Go.Proofs.YtlifbogjjikhdaaDoorW.PrintLast Go.Proofs.YtlifbogjjikhdaaDoorW.PrintMore
set_option linter.unusedVariables false
open Go.Proofs.YtlifbogjjikhdaaDoor.FL
theorem by_extract (s : ByteArray) (a b : Nat) : By (s.extract a b) = ((By s).drop a).take (b - a) := by
  rw [By, ← ByteArray.toList_eq]
  exact Lib.extract_toList s a b
theorem by_rest (s : ByteArray) (a : Nat) : By (s.extract a s.size) = (By s).drop a := by
  rw [by_extract]
  exact List.take_of_length_le (by rw [List.length_drop, size_by]; exact Nat.le_refl _)
theorem size_rest (s : ByteArray) (a : Nat) (h : a ≤ s.size) : (s.extract a s.size).size = s.size - a := by
  rw [← size_by, by_rest, List.length_drop, size_by]
def headIs (c : UInt8) (l : List UInt8) : Bool := l.head? == some c
theorem hp_calls (c : UInt8) (s : ByteArray) (hs : s.size ≤ 140737488351232) (w : World) : Calls Tryd.prog 33 #[.string s, .string ⟨#[c]⟩] w fun e w' => e = .returned (.bool (headIs c (By s))) ∧ Drawn0 w w' := by
  refine strings_HasPrefix.calls s ⟨#[c]⟩ _ w ?_
  have e1 : ((⟨#[c]⟩ : ByteArray).size : Int) = 1 := rfl
  unfold strings_HasPrefix.f stringslite_HasPrefix.f
  rw [e1]
  cases hb : By s with
  | nil =>
    have : s.size = 0 := by rw [← size_by, hb]; rfl
    rw [if_neg (by omega)]
    rfl
  | cons x l =>
    have hz : s.size = l.length + 1 := by rw [← size_by, hb]; rfl
    rw [if_pos (by omega), if_pos (by omega), if_pos (by omega)]
    have e2 : (s.extract 0 (1 : Int).toNat).toList = [x] := by
      have := by_extract s 0 1
      rw [hb] at this
      rw [ByteArray.toList_eq]
      exact this
    have e3 : (⟨#[c]⟩ : ByteArray).toList = [c] := by rw [ByteArray.toList_eq]
    rw [e2, e3]
    show some ([x] == [c]) = some (headIs c (x :: l))
    congr 1
    unfold headIs
    rw [Bool.eq_iff_iff, beq_iff_eq, beq_iff_eq]
    simp
theorem or_32 (f w : Nat) (hf : f < 4294967296) (hw : w < 4294967296) : bits .or .u64 (f : Int) (IntKind.u64.wrap ((w : Int) * 4294967296)) = ((w * 4294967296 + f : Nat) : Int) := by
  rw [IntKind.wrap_u64, Int.emod_eq_of_lt (by omega) (by omega), show ((w : Int) * 4294967296) = ((2 ^ 32 * w : Nat) : Int) by omega, bits_or_u64_nat _ _ (by omega) (by omega), Nat.or_comm, ← Nat.two_pow_add_eq_or_of_lt (i := 32) (by omega)]
  omega
set_option maxHeartbeats 8000000 in
set_option maxRecDepth 100000 in
theorem parse_neg (s : ByteArray) (w : World) (hs : s.size ≤ 140737488351232) (h0 : By s ≠ [110, 97, 110]) (hn : headIs 45 (By s) = true) (r : Int × Int) (t : ByteArray) (ht : s.extract 1 s.size = t) (hts : t.size ≤ 140737488351232) (hT : parseT true (By t) = r) : Calls Tryd.prog 19 #[.string s] w fun e w' => e = .returned (.tuple #[.int .i64 r.1, .int .i64 r.2]) ∧ Below w.heap.size w w' := by
  have d0 : (s.toList == [110, 97, 110]) = false := by rw [ByteArray.toList_eq]; simpa using h0
  have HS := Aside0.mk hs
  have HTS := Aside0.mk hts
  have HT := Aside0.mk hT
  have HN := Aside0.mk hn
  have hp0 : (1 : Int) ≤ (s.size : Int) := by
    have h1 : By s ≠ [] := by intro z; rw [z] at hn; exact absurd hn (by decide)
    have h2 := List.length_pos_iff.mpr h1
    rw [size_by] at h2
    omega
  clear hn
  clear h0 hs hts hT
  go_enter Tryd.func19, Tryd.ntmps19
  go_wp2
  refine wp_scope_jumps 0 (fun a' w' => r = ((0 : Int), (4 : Int)) ∧ Below w.heap.size w w' ∧ ∃ (u0 u1 u2 u3 u4 u5 u6 u7 u8 u9 u10 u11 u12 u13 u14 u15 u16 u17 u18 u19 u20 u21 u22 u23 u24 u25 u26 u27 u28 u29 u30 u31 u32 u33 u34 u35 u36 u37 u38 u39 u40 u41 u42 u43 u44 u45 u46 u47 u48 u49 u50 u51 u52 u53 u54 u55 u56 u57 u58 u59 u60 u61 u62 u63 u64 u65 u66 u67 u68 : Value), a' = { tmps := #[u0, u1, u2, u3, u4, u5, u6, u7, u8, u9, u10, u11, u12, u13, u14, u15, u16, u17, u18, u19, u20, u21, u22, u23, u24, u25, u26, u27, u28, u29, u30, u31, u32, u33, u34, u35, u36, u37, u38, u39, u40, u41, u42, u43, u44, u45, u46, u47, u48, u49, u50, u51, u52, u53, u54, u55, u56, u57, u58, u59, u60, u61, u62, u63, u64, u65, u66, u67, u68], defers := [] }) (fun _ _ => 0) rfl ?_ ?_
  · go_upto_region 9 with (go_at_call 33; (with_reducible refine (hp_calls _ _ HS.out _).mono ?_); rw [HN.out]; rintro e w' ⟨rfl, ⟨nd, rfl⟩⟩)
    try rw [ht]
    clear ht
    obtain ⟨W1, hW1⟩ : ∃ W1, w.drewN nd = W1 := ⟨_, rfl⟩
    rw [hW1]
    have HBW : Aside0 (Below w.heap.size w W1) := ⟨by rw [← hW1]; exact pw_below_drewN (Below.refl _ _) _⟩
    clear hW1
    by_cases c1 : By t = [105, 110, 102]
    · have d1 : (t.toList == [105, 110, 102]) = true := by rw [ByteArray.toList_eq]; exact beq_iff_eq.mpr c1
      have hr2 : r = (if true = true then -9223372036854775808 else 9223372036854775807, 0) := by rw [← HT.out]; unfold parseT; rw [if_pos c1]
      have hcz : (if true = true then -9223372036854775808 else 9223372036854775807 : Int) = cutZ 18446744073709551614 false true := by decide +kernel
      rw [hcz] at hr2
      subst hr2
      clear hcz c1
      go_wp2_with (go_at_call 28; (with_reducible refine (cut_quiet _ _ _ _ (by decide) (by decide)).mono ?_); rintro e w' ⟨rfl, ⟨nd2, rfl⟩⟩)
      simp only [Exit.jump]
      go_ret2
      exact ⟨rfl, pw_below_drewN HBW.out _⟩
    · have d1 : (t.toList == [105, 110, 102]) = false := by rw [ByteArray.toList_eq]; simpa using c1
      have HT2 : Aside0 ((if dlen (By t) = 0 ∨ 30 < dlen (By t) then ((0 : Int), (4 : Int))
      else match (By t).drop (dlen (By t)) with
        | [] => (numS true (vals ((By t).take (dlen (By t)))) [], 0)
        | c :: m => if c = 46 then (if dlen m = 0 ∨ 30 < dlen m ∨ m.length ≠ dlen m then ((0 : Int), (4 : Int)) else (numS true (vals ((By t).take (dlen (By t)))) (vals m), 0)) else ((0 : Int), (4 : Int))) = r) := ⟨by have := HT.out; unfold parseT at this; rwa [if_neg c1] at this⟩
      clear c1 HT
      obtain ⟨n, hn⟩ : ∃ n, dlen (By t) = n := ⟨_, rfl⟩
      have hnl : n ≤ t.size := by rw [← hn, ← size_by]; exact dlen_le _
      have HDIG : Aside0 (∀ W, Calls Tryd.prog 34 #[.string t] W fun e w' => e = .returned (.tuple #[.string (t.extract 0 n), .string (t.extract n t.size), .bool (decide (0 < n) && decide (n ≤ 30))]) ∧ Drawn0 W w') := ⟨by rw [← hn]; exact fun W => digits_calls t HTS.out W⟩
      have HTD : Aside0 (∀ c ∈ (By t).take n, isD c = true) := ⟨by rw [← hn]; exact take_dig _⟩
      rw [hn] at HT2
      clear hn
      by_cases c2 : n = 0 ∨ 30 < n
      · have d2 : (decide (0 < n) && decide (n ≤ 30)) = false := by rw [Bool.eq_false_iff]; intro z; rw [Bool.and_eq_true, decide_eq_true_eq, decide_eq_true_eq] at z; omega
        rw [d2] at HDIG
        have hr2 : r = (0, 4) := by rw [← HT2.out, if_pos c2]
        subst hr2
        clear c2 d2
        go_wp2_with (go_at_call 34; (with_reducible refine (HDIG.out _).mono ?_); rintro e w' ⟨rfl, ⟨nd2, rfl⟩⟩)
        go_step3
        exact ⟨rfl, rfl, pw_below_drewN HBW.out _, _, _, _, _, _, _, _, _, _, _, _, _, _, _, _, _, _, _, _, _, _, _, _, _, _, _, _, _, _, _, _, _, _, _, _, _, _, _, _, _, _, _, _, _, _, _, _, _, _, _, _, _, _, _, _, _, _, _, _, _, _, _, _, _, _, _, _, _, _, rfl⟩
      · have d2 : (decide (0 < n) && decide (n ≤ 30)) = true := by rw [Bool.and_eq_true, decide_eq_true_eq, decide_eq_true_eq]; omega
        rw [d2] at HDIG
        rw [if_neg c2] at HT2
        have hn30 : n ≤ 30 := by omega
        obtain ⟨row, hrow⟩ : ∃ row, t.extract 0 n = row := ⟨_, rfl⟩
        obtain ⟨rest, hrest⟩ : ∃ rest, t.extract n t.size = rest := ⟨_, rfl⟩
        have hbr : By row = (By t).take n := by rw [← hrow, by_extract, List.drop_zero, Nat.sub_zero]
        have hbs : By rest = (By t).drop n := by rw [← hrest, by_rest]
        have hss : rest.size ≤ 140737488351232 := by rw [← size_by, hbs, List.length_drop, size_by]; have := HTS.out; omega
        have hrs : row.size ≤ 140737488351232 := by rw [← size_by, hbr, List.length_take, size_by]; omega
        rw [hrow, hrest] at HDIG
        rw [← hbr] at HTD HT2
        rw [← hbs] at HT2
        have HWH : Aside0 (∀ W, Calls Tryd.prog 36 #[.string row] W fun e w' => e = .returned (.int .u64 ((wholeN (By row) : Nat) : Int)) ∧ Drawn0 W w') := ⟨fun W => whole_calls row hrs HTD.out W⟩
        have HSS := Aside0.mk hss
        clear hrow hrest hbr hbs hrs hss c2 d2 hn30 hnl
        by_cases c3 : By rest = []
        · have d3 : rest.toList = [] := by rw [ByteArray.toList_eq]; exact c3
          have d3' : (!rest.toList.isEmpty) = false := by rw [d3]; rfl
          have d3'' : (rest.toList == []) = true := by rw [d3]; rfl
          rw [c3] at HT2
          have hr2 : r = (numS true (vals (By row)) [], 0) := HT2.out.symm
          clear c3 HT2
          subst hr2
          have HFR : Aside0 (∀ W, Calls Tryd.prog 35 #[.string ⟨#[]⟩] W fun e w' => e = .returned (.tuple #[.int .u64 ((fracN [] : Nat) : Int), .bool (leftN [])]) ∧ Below W.heap.size W w') := ⟨fun W => frac_calls ⟨#[]⟩ W (by decide) [] rfl (fun x hx => by cases hx)⟩
          obtain ⟨wh, hwh⟩ : ∃ x, wholeN (By row) = x := ⟨_, rfl⟩
          rw [hwh] at HWH
          have HWV : Aside0 (wholeN (By row) = wh) := ⟨hwh⟩
          obtain ⟨fr, hfr⟩ : ∃ x, fracN [] = x := ⟨_, rfl⟩
          obtain ⟨lf, hlf⟩ : ∃ x, leftN [] = x := ⟨_, rfl⟩
          rw [hfr, hlf] at HFR
          have hfr4 : fr < 4294967296 := by rw [← hfr]; exact frac_lt (fun x hx => by cases hx)
          have HNE : Aside0 (numS true (vals (By row)) [] = cutS (vd (vals (By row)) * 4294967296 + fr) lf true) := ⟨by rw [numS_eq, hfr, hlf]⟩
          clear hwh hfr hlf
          by_cases c9 : 4294967296 ≤ wh
          · have d9 : decide ((4294967296 : Int) ≤ (wh : Int)) = true := decide_eq_true (by omega)
            have hv : numS true (vals (By row)) [] = cutZ 18446744073709551614 lf true := by
              have h1 : 4294967296 ≤ vd (vals (By row)) := by have := HWV.out; unfold wholeN at this; omega
              rw [HNE.out, cut_great _ _ _ (by omega)]
              unfold cutZ
              rw [cut_great _ _ _ (by decide)]
            have HV := Aside0.mk hv
            clear hv hfr4
            go_wp2_with (first | (go_at_call 34; (with_reducible refine (HDIG.out _).mono ?_); rintro e w' ⟨rfl, ⟨nd2, rfl⟩⟩) | (go_at_call 35; (with_reducible refine (HFR.out _).mono ?_); rintro e w3 ⟨rfl, hb3⟩; have HB3 := Aside0.mk hb3; clear hb3) | (go_at_call 36; (with_reducible refine (HWH.out _).mono ?_); rintro e w' ⟨rfl, ⟨nd4, rfl⟩⟩) | (go_at_call 28; (with_reducible refine (cut_quiet _ _ _ _ (by decide) (by decide)).mono ?_); rintro e w' ⟨rfl, ⟨nd5, rfl⟩⟩))
            simp only [Exit.jump]
            go_ret2
            exact ⟨by rw [HV.out]; rfl, by
              have hq : Below w.heap.size w (W1.drewN nd2) := pw_below_drewN HBW.out _
              have h5 := hq.trans (HB3.out.mono hq.size)
              repeat (first | exact h5 | apply pw_below_drewN)⟩
          · have d9 : decide ((4294967296 : Int) ≤ (wh : Int)) = false := decide_eq_false (by omega)
            have hor := or_32 fr wh hfr4 (by omega)
            have hv : numS true (vals (By row)) [] = cutZ ((wh * 4294967296 + fr : Nat) : Int) lf true := by
              have h1 : vd (vals (By row)) = wh := by have := HWV.out; unfold wholeN at this; omega
              rw [HNE.out, h1]
              rfl
            have hlt : 0 ≤ ((wh * 4294967296 + fr : Nat) : Int) ∧ ((wh * 4294967296 + fr : Nat) : Int) < 18446744073709551616 := by omega
            have HCU : Aside0 (∀ W, Calls Tryd.prog 28 #[.int .u64 (bits .or .u64 (fr : Int) (IntKind.u64.wrap ((wh : Int) * 4294967296))), .bool lf, .bool true] W fun e w' => e = .returned (.int .i64 (cutZ ((wh * 4294967296 + fr : Nat) : Int) lf true)) ∧ ∃ m, w' = W.drewN m) := ⟨fun W => by rw [hor]; exact cut_quiet _ _ _ _ hlt.1 hlt.2⟩
            have HV := Aside0.mk hv
            clear hv hor hlt hfr4 c9
            go_wp2_with (first | (go_at_call 34; (with_reducible refine (HDIG.out _).mono ?_); rintro e w' ⟨rfl, ⟨nd2, rfl⟩⟩) | (go_at_call 35; (with_reducible refine (HFR.out _).mono ?_); rintro e w3 ⟨rfl, hb3⟩; have HB3 := Aside0.mk hb3; clear hb3) | (go_at_call 36; (with_reducible refine (HWH.out _).mono ?_); rintro e w' ⟨rfl, ⟨nd4, rfl⟩⟩) | (go_at_call 28; (with_reducible refine (HCU.out _).mono ?_); rintro e w' ⟨rfl, ⟨nd5, rfl⟩⟩))
            simp only [Exit.jump]
            go_ret2
            exact ⟨by rw [HV.out]; rfl, by
              have hq : Below w.heap.size w (W1.drewN nd2) := pw_below_drewN HBW.out _
              have h5 := hq.trans (HB3.out.mono hq.size)
              repeat (first | exact h5 | apply pw_below_drewN)⟩
        · have d3 : (rest.toList == []) = false := by rw [ByteArray.toList_eq]; simpa using c3
          have d3' : (!rest.toList.isEmpty) = true := by rw [ByteArray.toList_eq]; cases hq : By rest with | nil => exact absurd hq c3 | cons a l => simp [hq]
          have d3n : rest.toList ≠ [] := by rw [ByteArray.toList_eq]; exact c3
          have hp : 0 < rest.size := by rw [← size_by]; exact List.length_pos_iff.mpr c3
          have hg := bytes_get rest 0 hp
          rw [List.drop_zero] at hg
          rw [show rest.data.toList = By rest from rfl] at hg
          rw [hg] at HT2
          have HGG := Aside0.mk hg
          clear hg c3
          by_cases c4 : rest[0] = 46
          · have d4 : ((rest[0].toNat : Int) == 46) = true := by rw [c4]; rfl
            have d4' : ((rest[0].toNat : Int) != 46) = false := by rw [c4]; rfl
            have HT3 : Aside0 ((if dlen ((By rest).drop 1) = 0 ∨ 30 < dlen ((By rest).drop 1) ∨ ((By rest).drop 1).length ≠ dlen ((By rest).drop 1) then ((0 : Int), (4 : Int)) else (numS true (vals (By row)) (vals ((By rest).drop 1)), 0)) = r) := ⟨by have := HT2.out; dsimp only at this; rw [if_pos c4] at this; exact this⟩
            clear c4 HT2
            obtain ⟨tt, htt⟩ : ∃ tt, rest.extract 1 rest.size = tt := ⟨_, rfl⟩
            have hbt : By tt = (By rest).drop 1 := by rw [← htt, by_rest]
            have hts : tt.size ≤ 140737488351232 := by rw [← size_by, hbt, List.length_drop, size_by]; have := HSS.out; omega
            rw [← hbt] at HT3
            have HTT := Aside0.mk htt
            obtain ⟨n2, hn2⟩ : ∃ n, dlen (By tt) = n := ⟨_, rfl⟩
            have HD2 : Aside0 (∀ W, Calls Tryd.prog 34 #[.string tt] W fun e w' => e = .returned (.tuple #[.string (tt.extract 0 n2), .string (tt.extract n2 tt.size), .bool (decide (0 < n2) && decide (n2 ≤ 30))]) ∧ Drawn0 W w') := ⟨by rw [← hn2]; exact fun W => digits_calls tt hts W⟩
            have HTD2 : Aside0 (∀ c ∈ (By tt).take n2, isD c = true) := ⟨by rw [← hn2]; exact take_dig _⟩
            rw [hn2] at HT3
            have hsz : (By tt).length = tt.size := size_by _
            have HD1 : Aside0 (∀ W, Calls Tryd.prog 34 #[.string (rest.extract 1 rest.size)] W fun e w' => e = .returned (.tuple #[.string (tt.extract 0 n2), .string (tt.extract n2 tt.size), .bool (decide (0 < n2) && decide (n2 ≤ 30))]) ∧ Drawn0 W w') := ⟨by rw [htt]; exact HD2.out⟩
            have hp1 : (1 : Int) ≤ (rest.size : Int) := by omega
            have hn2l : n2 ≤ tt.size := by rw [← hn2, ← size_by]; exact dlen_le _
            clear hn2 hbt hts htt
            by_cases c5 : n2 = 0 ∨ 30 < n2
            · have d5 : (decide (0 < n2) && decide (n2 ≤ 30)) = false := by rw [Bool.eq_false_iff]; intro z; rw [Bool.and_eq_true, decide_eq_true_eq, decide_eq_true_eq] at z; omega
              rw [d5] at HD1
              have hr2 : r = (0, 4) := by rw [← HT3.out, if_pos (by omega)]
              subst hr2
              clear c5 d5 hsz hn2l
              go_wp2_with (first | (go_at_call 34; (with_reducible refine (HDIG.out _).mono ?_); rintro e w' ⟨rfl, ⟨nd2, rfl⟩⟩) | (go_at_call 34; (with_reducible refine (HD1.out _).mono ?_); rintro e w' ⟨rfl, ⟨nd3, rfl⟩⟩))
              go_step3
              exact ⟨rfl, rfl, by first | exact pw_below_drewN HBW.out _ | exact pw_below_drewN (pw_below_drewN HBW.out _) _, _, _, _, _, _, _, _, _, _, _, _, _, _, _, _, _, _, _, _, _, _, _, _, _, _, _, _, _, _, _, _, _, _, _, _, _, _, _, _, _, _, _, _, _, _, _, _, _, _, _, _, _, _, _, _, _, _, _, _, _, _, _, _, _, _, _, _, _, _, rfl⟩
            · have d5 : (decide (0 < n2) && decide (n2 ≤ 30)) = true := by rw [Bool.and_eq_true, decide_eq_true_eq, decide_eq_true_eq]; omega
              rw [d5] at HD1
              obtain ⟨more, hmore⟩ : ∃ more, tt.extract 0 n2 = more := ⟨_, rfl⟩
              obtain ⟨lst, hlst⟩ : ∃ lst, tt.extract n2 tt.size = lst := ⟨_, rfl⟩
              have hbm : By more = (By tt).take n2 := by rw [← hmore, by_extract, List.drop_zero, Nat.sub_zero]
              have hbl : By lst = (By tt).drop n2 := by rw [← hlst, by_rest]
              rw [hmore, hlst] at HD1
              by_cases c6 : tt.size = n2
              · have hl0 : By lst = [] := by rw [hbl]; exact List.drop_of_length_le (by rw [hsz]; omega)
                have d6 : lst.toList = [] := by rw [ByteArray.toList_eq]; exact hl0
                have d6' : (!lst.toList.isEmpty) = false := by rw [d6]; rfl
                have d6'' : (lst.toList == []) = true := by rw [d6]; rfl
                have hmt : By more = By tt := by rw [hbm]; exact List.take_of_length_le (by rw [hsz]; omega)
                rw [← hbm, hmt] at HTD2
                have hr2 : r = (numS true (vals (By row)) (vals (By tt)), 0) := by rw [← HT3.out, if_neg (by omega)]
                have hms : more.size ≤ 1000 := by rw [← size_by, hmt, hsz]; omega
                subst hr2
                have HFR : Aside0 (∀ W, Calls Tryd.prog 35 #[.string more] W fun e w' => e = .returned (.tuple #[.int .u64 ((fracN (vals (By tt)) : Nat) : Int), .bool (leftN (vals (By tt)))]) ∧ Below W.heap.size W w') := ⟨by
                  have hq : ∀ c ∈ By more, isD c = true := by rw [hmt]; exact HTD2.out
                  have hq2 := vals_back hq
                  rw [show vals (By more) = vals (By tt) by rw [hmt]] at hq2
                  exact fun W => frac_calls more W hms (vals (By tt)) hq2 (vals_dgt HTD2.out)⟩
                have HDG2 : Aside0 (dgt (vals (By tt))) := ⟨vals_dgt HTD2.out⟩
                clear hmore hlst hbm hbl c5 d5 c6 hl0 hmt hms HT3 hsz hn2l
                obtain ⟨wh, hwh⟩ : ∃ x, wholeN (By row) = x := ⟨_, rfl⟩
                rw [hwh] at HWH
                have HWV : Aside0 (wholeN (By row) = wh) := ⟨hwh⟩
                obtain ⟨fr, hfr⟩ : ∃ x, fracN (vals (By tt)) = x := ⟨_, rfl⟩
                obtain ⟨lf, hlf⟩ : ∃ x, leftN (vals (By tt)) = x := ⟨_, rfl⟩
                rw [hfr, hlf] at HFR
                have hfr4 : fr < 4294967296 := by rw [← hfr]; exact frac_lt HDG2.out
                have HNE : Aside0 (numS true (vals (By row)) (vals (By tt)) = cutS (vd (vals (By row)) * 4294967296 + fr) lf true) := ⟨by rw [numS_eq, hfr, hlf]⟩
                clear hwh hfr hlf
                by_cases c9 : 4294967296 ≤ wh
                · have d9 : decide ((4294967296 : Int) ≤ (wh : Int)) = true := decide_eq_true (by omega)
                  have hv : numS true (vals (By row)) (vals (By tt)) = cutZ 18446744073709551614 lf true := by
                    have h1 : 4294967296 ≤ vd (vals (By row)) := by have := HWV.out; unfold wholeN at this; omega
                    rw [HNE.out, cut_great _ _ _ (by omega)]
                    unfold cutZ
                    rw [cut_great _ _ _ (by decide)]
                  have HV := Aside0.mk hv
                  clear hv hfr4
                  go_wp2_with (first | (go_at_call 34; (with_reducible refine (HDIG.out _).mono ?_); rintro e w' ⟨rfl, ⟨nd2, rfl⟩⟩) | (go_at_call 34; (with_reducible refine (HD1.out _).mono ?_); rintro e w' ⟨rfl, ⟨nd3, rfl⟩⟩) | (go_at_call 35; (with_reducible refine (HFR.out _).mono ?_); rintro e w3 ⟨rfl, hb3⟩; have HB3 := Aside0.mk hb3; clear hb3) | (go_at_call 36; (with_reducible refine (HWH.out _).mono ?_); rintro e w' ⟨rfl, ⟨nd4, rfl⟩⟩) | (go_at_call 28; (with_reducible refine (cut_quiet _ _ _ _ (by decide) (by decide)).mono ?_); rintro e w' ⟨rfl, ⟨nd5, rfl⟩⟩))
                  simp only [Exit.jump]
                  go_ret2
                  exact ⟨by rw [HV.out]; rfl, by
                    have hq : Below w.heap.size w (W1.drewN (nd2 + nd3)) := pw_below_drewN HBW.out _
                    have h5 := hq.trans (HB3.out.mono hq.size)
                    repeat (first | exact h5 | apply pw_below_drewN)⟩
                · have d9 : decide ((4294967296 : Int) ≤ (wh : Int)) = false := decide_eq_false (by omega)
                  have hor := or_32 fr wh hfr4 (by omega)
                  have hv : numS true (vals (By row)) (vals (By tt)) = cutZ ((wh * 4294967296 + fr : Nat) : Int) lf true := by
                    have h1 : vd (vals (By row)) = wh := by have := HWV.out; unfold wholeN at this; omega
                    rw [HNE.out, h1]
                    rfl
                  have hlt : 0 ≤ ((wh * 4294967296 + fr : Nat) : Int) ∧ ((wh * 4294967296 + fr : Nat) : Int) < 18446744073709551616 := by omega
                  have HCU : Aside0 (∀ W, Calls Tryd.prog 28 #[.int .u64 (bits .or .u64 (fr : Int) (IntKind.u64.wrap ((wh : Int) * 4294967296))), .bool lf, .bool true] W fun e w' => e = .returned (.int .i64 (cutZ ((wh * 4294967296 + fr : Nat) : Int) lf true)) ∧ ∃ m, w' = W.drewN m) := ⟨fun W => by rw [hor]; exact cut_quiet _ _ _ _ hlt.1 hlt.2⟩
                  have HV := Aside0.mk hv
                  clear hv hor hlt hfr4 c9
                  go_wp2_with (first | (go_at_call 34; (with_reducible refine (HDIG.out _).mono ?_); rintro e w' ⟨rfl, ⟨nd2, rfl⟩⟩) | (go_at_call 34; (with_reducible refine (HD1.out _).mono ?_); rintro e w' ⟨rfl, ⟨nd3, rfl⟩⟩) | (go_at_call 35; (with_reducible refine (HFR.out _).mono ?_); rintro e w3 ⟨rfl, hb3⟩; have HB3 := Aside0.mk hb3; clear hb3) | (go_at_call 36; (with_reducible refine (HWH.out _).mono ?_); rintro e w' ⟨rfl, ⟨nd4, rfl⟩⟩) | (go_at_call 28; (with_reducible refine (HCU.out _).mono ?_); rintro e w' ⟨rfl, ⟨nd5, rfl⟩⟩))
                  simp only [Exit.jump]
                  go_ret2
                  exact ⟨by rw [HV.out]; rfl, by
                    have hq : Below w.heap.size w (W1.drewN (nd2 + nd3)) := pw_below_drewN HBW.out _
                    have h5 := hq.trans (HB3.out.mono hq.size)
                    repeat (first | exact h5 | apply pw_below_drewN)⟩
              · have hl0 : By lst ≠ [] := by rw [hbl]; intro z; have := congrArg List.length z; rw [List.length_drop, hsz] at this; simp at this; omega
                have d6 : (lst.toList == []) = false := by rw [ByteArray.toList_eq]; simpa using hl0
                have d6' : (!lst.toList.isEmpty) = true := by rw [ByteArray.toList_eq]; cases hq : By lst with | nil => exact absurd hq hl0 | cons a l => simp [hq]
                have d6n : lst.toList ≠ [] := by rw [ByteArray.toList_eq]; exact hl0
                have hr2 : r = (0, 4) := by rw [← HT3.out, if_pos (by omega)]
                subst hr2
                clear hmore hlst hbm hbl c5 d5 c6 hl0 hsz hn2l
                go_wp2_with (first | (go_at_call 34; (with_reducible refine (HDIG.out _).mono ?_); rintro e w' ⟨rfl, ⟨nd2, rfl⟩⟩) | (go_at_call 34; (with_reducible refine (HD1.out _).mono ?_); rintro e w' ⟨rfl, ⟨nd3, rfl⟩⟩))
                go_step3
                exact ⟨rfl, rfl, by first | exact pw_below_drewN HBW.out _ | exact pw_below_drewN (pw_below_drewN HBW.out _) _, _, _, _, _, _, _, _, _, _, _, _, _, _, _, _, _, _, _, _, _, _, _, _, _, _, _, _, _, _, _, _, _, _, _, _, _, _, _, _, _, _, _, _, _, _, _, _, _, _, _, _, _, _, _, _, _, _, _, _, _, _, _, _, _, _, _, _, _, _, rfl⟩
          · have d4 : ((rest[0].toNat : Int) == 46) = false := by rw [beq_eq_false_iff_ne]; intro z; exact c4 (UInt8.toNat_inj.mp (by simpa using (Int.ofNat.inj z)))
            have d4' : ((rest[0].toNat : Int) != 46) = true := by rw [bne_iff_ne]; intro z; exact c4 (UInt8.toNat_inj.mp (by simpa using (Int.ofNat.inj z)))
            have hr2 : r = (0, 4) := by have := HT2.out; dsimp only at this; rw [if_neg c4] at this; exact this.symm
            subst hr2
            clear c4
            go_wp2_with (go_at_call 34; (with_reducible refine (HDIG.out _).mono ?_); rintro e w' ⟨rfl, ⟨nd2, rfl⟩⟩)
            go_step3
            exact ⟨rfl, rfl, pw_below_drewN HBW.out _, _, _, _, _, _, _, _, _, _, _, _, _, _, _, _, _, _, _, _, _, _, _, _, _, _, _, _, _, _, _, _, _, _, _, _, _, _, _, _, _, _, _, _, _, _, _, _, _, _, _, _, _, _, _, _, _, _, _, _, _, _, _, _, _, _, _, _, _, _, rfl⟩
  · rintro a' w' ⟨hr, hd, u0, u1, u2, u3, u4, u5, u6, u7, u8, u9, u10, u11, u12, u13, u14, u15, u16, u17, u18, u19, u20, u21, u22, u23, u24, u25, u26, u27, u28, u29, u30, u31, u32, u33, u34, u35, u36, u37, u38, u39, u40, u41, u42, u43, u44, u45, u46, u47, u48, u49, u50, u51, u52, u53, u54, u55, u56, u57, u58, u59, u60, u61, u62, u63, u64, u65, u66, u67, u68, rfl⟩
    subst hr
    go_wp2
    simp only [Exit.jump]
    go_ret2
    exact ⟨rfl, hd⟩
end Go.Proofs.YtlifbogjjikhdaaDoor.Fl
end
section
namespace Go.Proofs.YtlifbogjjikhdaaDoor.Fl
open Go.RowKit Go.Proofs.YtlifbogjjikhdaaDoorW.PrintWords Go.Proofs.YtlifbogjjikhdaaDoorW.PrintLast Go.Proofs.YtlifbogjjikhdaaDoorW.PrintMore
set_option linter.unusedVariables false
open Go.Proofs.YtlifbogjjikhdaaDoor.FL
set_option maxHeartbeats 8000000 in
set_option maxRecDepth 100000 in
theorem parse_plus (s : ByteArray) (w : World) (hs : s.size ≤ 140737488351232) (h0 : By s ≠ [110, 97, 110]) (hn : headIs 45 (By s) = false) (hn2 : headIs 43 (By s) = true) (r : Int × Int) (t : ByteArray) (ht : s.extract 1 s.size = t) (hts : t.size ≤ 140737488351232) (hT : parseT false (By t) = r) : Calls Tryd.prog 19 #[.string s] w fun e w' => e = .returned (.tuple #[.int .i64 r.1, .int .i64 r.2]) ∧ Below w.heap.size w w' := by
  have d0 : (s.toList == [110, 97, 110]) = false := by rw [ByteArray.toList_eq]; simpa using h0
  have HS := Aside0.mk hs
  have HTS := Aside0.mk hts
  have HT := Aside0.mk hT
  have HN := Aside0.mk hn
  have HN2 := Aside0.mk hn2
  have hp0 : (1 : Int) ≤ (s.size : Int) := by
    have h1 : By s ≠ [] := by intro z; rw [z] at hn2; exact absurd hn2 (by decide)
    have h2 := List.length_pos_iff.mpr h1
    rw [size_by] at h2
    omega
  clear hn hn2
  clear h0 hs hts hT
  go_enter Tryd.func19, Tryd.ntmps19
  go_wp2
  refine wp_scope_jumps 0 (fun a' w' => r = ((0 : Int), (4 : Int)) ∧ Below w.heap.size w w' ∧ ∃ (u0 u1 u2 u3 u4 u5 u6 u7 u8 u9 u10 u11 u12 u13 u14 u15 u16 u17 u18 u19 u20 u21 u22 u23 u24 u25 u26 u27 u28 u29 u30 u31 u32 u33 u34 u35 u36 u37 u38 u39 u40 u41 u42 u43 u44 u45 u46 u47 u48 u49 u50 u51 u52 u53 u54 u55 u56 u57 u58 u59 u60 u61 u62 u63 u64 u65 u66 u67 u68 : Value), a' = { tmps := #[u0, u1, u2, u3, u4, u5, u6, u7, u8, u9, u10, u11, u12, u13, u14, u15, u16, u17, u18, u19, u20, u21, u22, u23, u24, u25, u26, u27, u28, u29, u30, u31, u32, u33, u34, u35, u36, u37, u38, u39, u40, u41, u42, u43, u44, u45, u46, u47, u48, u49, u50, u51, u52, u53, u54, u55, u56, u57, u58, u59, u60, u61, u62, u63, u64, u65, u66, u67, u68], defers := [] }) (fun _ _ => 0) rfl ?_ ?_
  · go_upto_region 9 with (first | (go_at_call 33; (with_reducible refine (hp_calls 45 _ HS.out _).mono ?_); rw [HN.out]; rintro e w' ⟨rfl, ⟨nd, rfl⟩⟩) | (go_at_call 33; (with_reducible refine (hp_calls 43 _ HS.out _).mono ?_); rw [HN2.out]; rintro e w' ⟨rfl, ⟨ndb, rfl⟩⟩))
    try rw [ht]
    clear ht
    obtain ⟨W1, hW1⟩ : ∃ W1, w.drewN (nd + ndb) = W1 := ⟨_, rfl⟩
    rw [hW1]
    have HBW : Aside0 (Below w.heap.size w W1) := ⟨by rw [← hW1]; exact pw_below_drewN (Below.refl _ _) _⟩
    clear hW1
    by_cases c1 : By t = [105, 110, 102]
    · have d1 : (t.toList == [105, 110, 102]) = true := by rw [ByteArray.toList_eq]; exact beq_iff_eq.mpr c1
      have hr2 : r = (if false = true then -9223372036854775808 else 9223372036854775807, 0) := by rw [← HT.out]; unfold parseT; rw [if_pos c1]
      have hcz : (if false = true then -9223372036854775808 else 9223372036854775807 : Int) = cutZ 18446744073709551614 false false := by decide +kernel
      rw [hcz] at hr2
      subst hr2
      clear hcz c1
      go_wp2_with (go_at_call 28; (with_reducible refine (cut_quiet _ _ _ _ (by decide) (by decide)).mono ?_); rintro e w' ⟨rfl, ⟨nd2, rfl⟩⟩)
      simp only [Exit.jump]
      go_ret2
      exact ⟨rfl, pw_below_drewN HBW.out _⟩
    · have d1 : (t.toList == [105, 110, 102]) = false := by rw [ByteArray.toList_eq]; simpa using c1
      have HT2 : Aside0 ((if dlen (By t) = 0 ∨ 30 < dlen (By t) then ((0 : Int), (4 : Int))
      else match (By t).drop (dlen (By t)) with
        | [] => (numS false (vals ((By t).take (dlen (By t)))) [], 0)
        | c :: m => if c = 46 then (if dlen m = 0 ∨ 30 < dlen m ∨ m.length ≠ dlen m then ((0 : Int), (4 : Int)) else (numS false (vals ((By t).take (dlen (By t)))) (vals m), 0)) else ((0 : Int), (4 : Int))) = r) := ⟨by have := HT.out; unfold parseT at this; rwa [if_neg c1] at this⟩
      clear c1 HT
      obtain ⟨n, hn⟩ : ∃ n, dlen (By t) = n := ⟨_, rfl⟩
      have hnl : n ≤ t.size := by rw [← hn, ← size_by]; exact dlen_le _
      have HDIG : Aside0 (∀ W, Calls Tryd.prog 34 #[.string t] W fun e w' => e = .returned (.tuple #[.string (t.extract 0 n), .string (t.extract n t.size), .bool (decide (0 < n) && decide (n ≤ 30))]) ∧ Drawn0 W w') := ⟨by rw [← hn]; exact fun W => digits_calls t HTS.out W⟩
      have HTD : Aside0 (∀ c ∈ (By t).take n, isD c = true) := ⟨by rw [← hn]; exact take_dig _⟩
      rw [hn] at HT2
      clear hn
      by_cases c2 : n = 0 ∨ 30 < n
      · have d2 : (decide (0 < n) && decide (n ≤ 30)) = false := by rw [Bool.eq_false_iff]; intro z; rw [Bool.and_eq_true, decide_eq_true_eq, decide_eq_true_eq] at z; omega
        rw [d2] at HDIG
        have hr2 : r = (0, 4) := by rw [← HT2.out, if_pos c2]
        subst hr2
        clear c2 d2
        go_wp2_with (go_at_call 34; (with_reducible refine (HDIG.out _).mono ?_); rintro e w' ⟨rfl, ⟨nd2, rfl⟩⟩)
        go_step3
        exact ⟨rfl, rfl, pw_below_drewN HBW.out _, _, _, _, _, _, _, _, _, _, _, _, _, _, _, _, _, _, _, _, _, _, _, _, _, _, _, _, _, _, _, _, _, _, _, _, _, _, _, _, _, _, _, _, _, _, _, _, _, _, _, _, _, _, _, _, _, _, _, _, _, _, _, _, _, _, _, _, _, _, rfl⟩
      · have d2 : (decide (0 < n) && decide (n ≤ 30)) = true := by rw [Bool.and_eq_true, decide_eq_true_eq, decide_eq_true_eq]; omega
        rw [d2] at HDIG
        rw [if_neg c2] at HT2
        have hn30 : n ≤ 30 := by omega
        obtain ⟨row, hrow⟩ : ∃ row, t.extract 0 n = row := ⟨_, rfl⟩
        obtain ⟨rest, hrest⟩ : ∃ rest, t.extract n t.size = rest := ⟨_, rfl⟩
        have hbr : By row = (By t).take n := by rw [← hrow, by_extract, List.drop_zero, Nat.sub_zero]
        have hbs : By rest = (By t).drop n := by rw [← hrest, by_rest]
        have hss : rest.size ≤ 140737488351232 := by rw [← size_by, hbs, List.length_drop, size_by]; have := HTS.out; omega
        have hrs : row.size ≤ 140737488351232 := by rw [← size_by, hbr, List.length_take, size_by]; omega
        rw [hrow, hrest] at HDIG
        rw [← hbr] at HTD HT2
        rw [← hbs] at HT2
        have HWH : Aside0 (∀ W, Calls Tryd.prog 36 #[.string row] W fun e w' => e = .returned (.int .u64 ((wholeN (By row) : Nat) : Int)) ∧ Drawn0 W w') := ⟨fun W => whole_calls row hrs HTD.out W⟩
        have HSS := Aside0.mk hss
        clear hrow hrest hbr hbs hrs hss c2 d2 hn30 hnl
        by_cases c3 : By rest = []
        · have d3 : rest.toList = [] := by rw [ByteArray.toList_eq]; exact c3
          have d3' : (!rest.toList.isEmpty) = false := by rw [d3]; rfl
          have d3'' : (rest.toList == []) = true := by rw [d3]; rfl
          rw [c3] at HT2
          have hr2 : r = (numS false (vals (By row)) [], 0) := HT2.out.symm
          clear c3 HT2
          subst hr2
          have HFR : Aside0 (∀ W, Calls Tryd.prog 35 #[.string ⟨#[]⟩] W fun e w' => e = .returned (.tuple #[.int .u64 ((fracN [] : Nat) : Int), .bool (leftN [])]) ∧ Below W.heap.size W w') := ⟨fun W => frac_calls ⟨#[]⟩ W (by decide) [] rfl (fun x hx => by cases hx)⟩
          obtain ⟨wh, hwh⟩ : ∃ x, wholeN (By row) = x := ⟨_, rfl⟩
          rw [hwh] at HWH
          have HWV : Aside0 (wholeN (By row) = wh) := ⟨hwh⟩
          obtain ⟨fr, hfr⟩ : ∃ x, fracN [] = x := ⟨_, rfl⟩
          obtain ⟨lf, hlf⟩ : ∃ x, leftN [] = x := ⟨_, rfl⟩
          rw [hfr, hlf] at HFR
          have hfr4 : fr < 4294967296 := by rw [← hfr]; exact frac_lt (fun x hx => by cases hx)
          have HNE : Aside0 (numS false (vals (By row)) [] = cutS (vd (vals (By row)) * 4294967296 + fr) lf false) := ⟨by rw [numS_eq, hfr, hlf]⟩
          clear hwh hfr hlf
          by_cases c9 : 4294967296 ≤ wh
          · have d9 : decide ((4294967296 : Int) ≤ (wh : Int)) = true := decide_eq_true (by omega)
            have hv : numS false (vals (By row)) [] = cutZ 18446744073709551614 lf false := by
              have h1 : 4294967296 ≤ vd (vals (By row)) := by have := HWV.out; unfold wholeN at this; omega
              rw [HNE.out, cut_great _ _ _ (by omega)]
              unfold cutZ
              rw [cut_great _ _ _ (by decide)]
            have HV := Aside0.mk hv
            clear hv hfr4
            go_wp2_with (first | (go_at_call 34; (with_reducible refine (HDIG.out _).mono ?_); rintro e w' ⟨rfl, ⟨nd2, rfl⟩⟩) | (go_at_call 35; (with_reducible refine (HFR.out _).mono ?_); rintro e w3 ⟨rfl, hb3⟩; have HB3 := Aside0.mk hb3; clear hb3) | (go_at_call 36; (with_reducible refine (HWH.out _).mono ?_); rintro e w' ⟨rfl, ⟨nd4, rfl⟩⟩) | (go_at_call 28; (with_reducible refine (cut_quiet _ _ _ _ (by decide) (by decide)).mono ?_); rintro e w' ⟨rfl, ⟨nd5, rfl⟩⟩))
            simp only [Exit.jump]
            go_ret2
            exact ⟨by rw [HV.out]; rfl, by
              have hq : Below w.heap.size w (W1.drewN nd2) := pw_below_drewN HBW.out _
              have h5 := hq.trans (HB3.out.mono hq.size)
              repeat (first | exact h5 | apply pw_below_drewN)⟩
          · have d9 : decide ((4294967296 : Int) ≤ (wh : Int)) = false := decide_eq_false (by omega)
            have hor := or_32 fr wh hfr4 (by omega)
            have hv : numS false (vals (By row)) [] = cutZ ((wh * 4294967296 + fr : Nat) : Int) lf false := by
              have h1 : vd (vals (By row)) = wh := by have := HWV.out; unfold wholeN at this; omega
              rw [HNE.out, h1]
              rfl
            have hlt : 0 ≤ ((wh * 4294967296 + fr : Nat) : Int) ∧ ((wh * 4294967296 + fr : Nat) : Int) < 18446744073709551616 := by omega
            have HCU : Aside0 (∀ W, Calls Tryd.prog 28 #[.int .u64 (bits .or .u64 (fr : Int) (IntKind.u64.wrap ((wh : Int) * 4294967296))), .bool lf, .bool false] W fun e w' => e = .returned (.int .i64 (cutZ ((wh * 4294967296 + fr : Nat) : Int) lf false)) ∧ ∃ m, w' = W.drewN m) := ⟨fun W => by rw [hor]; exact cut_quiet _ _ _ _ hlt.1 hlt.2⟩
            have HV := Aside0.mk hv
            clear hv hor hlt hfr4 c9
            go_wp2_with (first | (go_at_call 34; (with_reducible refine (HDIG.out _).mono ?_); rintro e w' ⟨rfl, ⟨nd2, rfl⟩⟩) | (go_at_call 35; (with_reducible refine (HFR.out _).mono ?_); rintro e w3 ⟨rfl, hb3⟩; have HB3 := Aside0.mk hb3; clear hb3) | (go_at_call 36; (with_reducible refine (HWH.out _).mono ?_); rintro e w' ⟨rfl, ⟨nd4, rfl⟩⟩) | (go_at_call 28; (with_reducible refine (HCU.out _).mono ?_); rintro e w' ⟨rfl, ⟨nd5, rfl⟩⟩))
            simp only [Exit.jump]
            go_ret2
            exact ⟨by rw [HV.out]; rfl, by
              have hq : Below w.heap.size w (W1.drewN nd2) := pw_below_drewN HBW.out _
              have h5 := hq.trans (HB3.out.mono hq.size)
              repeat (first | exact h5 | apply pw_below_drewN)⟩
        · have d3 : (rest.toList == []) = false := by rw [ByteArray.toList_eq]; simpa using c3
          have d3' : (!rest.toList.isEmpty) = true := by rw [ByteArray.toList_eq]; cases hq : By rest with | nil => exact absurd hq c3 | cons a l => simp [hq]
          have d3n : rest.toList ≠ [] := by rw [ByteArray.toList_eq]; exact c3
          have hp : 0 < rest.size := by rw [← size_by]; exact List.length_pos_iff.mpr c3
          have hg := bytes_get rest 0 hp
          rw [List.drop_zero] at hg
          rw [show rest.data.toList = By rest from rfl] at hg
          rw [hg] at HT2
          have HGG := Aside0.mk hg
          clear hg c3
          by_cases c4 : rest[0] = 46
          · have d4 : ((rest[0].toNat : Int) == 46) = true := by rw [c4]; rfl
            have d4' : ((rest[0].toNat : Int) != 46) = false := by rw [c4]; rfl
            have HT3 : Aside0 ((if dlen ((By rest).drop 1) = 0 ∨ 30 < dlen ((By rest).drop 1) ∨ ((By rest).drop 1).length ≠ dlen ((By rest).drop 1) then ((0 : Int), (4 : Int)) else (numS false (vals (By row)) (vals ((By rest).drop 1)), 0)) = r) := ⟨by have := HT2.out; dsimp only at this; rw [if_pos c4] at this; exact this⟩
            clear c4 HT2
            obtain ⟨tt, htt⟩ : ∃ tt, rest.extract 1 rest.size = tt := ⟨_, rfl⟩
            have hbt : By tt = (By rest).drop 1 := by rw [← htt, by_rest]
            have hts : tt.size ≤ 140737488351232 := by rw [← size_by, hbt, List.length_drop, size_by]; have := HSS.out; omega
            rw [← hbt] at HT3
            have HTT := Aside0.mk htt
            obtain ⟨n2, hn2⟩ : ∃ n, dlen (By tt) = n := ⟨_, rfl⟩
            have HD2 : Aside0 (∀ W, Calls Tryd.prog 34 #[.string tt] W fun e w' => e = .returned (.tuple #[.string (tt.extract 0 n2), .string (tt.extract n2 tt.size), .bool (decide (0 < n2) && decide (n2 ≤ 30))]) ∧ Drawn0 W w') := ⟨by rw [← hn2]; exact fun W => digits_calls tt hts W⟩
            have HTD2 : Aside0 (∀ c ∈ (By tt).take n2, isD c = true) := ⟨by rw [← hn2]; exact take_dig _⟩
            rw [hn2] at HT3
            have hsz : (By tt).length = tt.size := size_by _
            have HD1 : Aside0 (∀ W, Calls Tryd.prog 34 #[.string (rest.extract 1 rest.size)] W fun e w' => e = .returned (.tuple #[.string (tt.extract 0 n2), .string (tt.extract n2 tt.size), .bool (decide (0 < n2) && decide (n2 ≤ 30))]) ∧ Drawn0 W w') := ⟨by rw [htt]; exact HD2.out⟩
            have hp1 : (1 : Int) ≤ (rest.size : Int) := by omega
            have hn2l : n2 ≤ tt.size := by rw [← hn2, ← size_by]; exact dlen_le _
            clear hn2 hbt hts htt
            by_cases c5 : n2 = 0 ∨ 30 < n2
            · have d5 : (decide (0 < n2) && decide (n2 ≤ 30)) = false := by rw [Bool.eq_false_iff]; intro z; rw [Bool.and_eq_true, decide_eq_true_eq, decide_eq_true_eq] at z; omega
              rw [d5] at HD1
              have hr2 : r = (0, 4) := by rw [← HT3.out, if_pos (by omega)]
              subst hr2
              clear c5 d5 hsz hn2l
              go_wp2_with (first | (go_at_call 34; (with_reducible refine (HDIG.out _).mono ?_); rintro e w' ⟨rfl, ⟨nd2, rfl⟩⟩) | (go_at_call 34; (with_reducible refine (HD1.out _).mono ?_); rintro e w' ⟨rfl, ⟨nd3, rfl⟩⟩))
              go_step3
              exact ⟨rfl, rfl, by first | exact pw_below_drewN HBW.out _ | exact pw_below_drewN (pw_below_drewN HBW.out _) _, _, _, _, _, _, _, _, _, _, _, _, _, _, _, _, _, _, _, _, _, _, _, _, _, _, _, _, _, _, _, _, _, _, _, _, _, _, _, _, _, _, _, _, _, _, _, _, _, _, _, _, _, _, _, _, _, _, _, _, _, _, _, _, _, _, _, _, _, _, rfl⟩
            · have d5 : (decide (0 < n2) && decide (n2 ≤ 30)) = true := by rw [Bool.and_eq_true, decide_eq_true_eq, decide_eq_true_eq]; omega
              rw [d5] at HD1
              obtain ⟨more, hmore⟩ : ∃ more, tt.extract 0 n2 = more := ⟨_, rfl⟩
              obtain ⟨lst, hlst⟩ : ∃ lst, tt.extract n2 tt.size = lst := ⟨_, rfl⟩
              have hbm : By more = (By tt).take n2 := by rw [← hmore, by_extract, List.drop_zero, Nat.sub_zero]
              have hbl : By lst = (By tt).drop n2 := by rw [← hlst, by_rest]
              rw [hmore, hlst] at HD1
              by_cases c6 : tt.size = n2
              · have hl0 : By lst = [] := by rw [hbl]; exact List.drop_of_length_le (by rw [hsz]; omega)
                have d6 : lst.toList = [] := by rw [ByteArray.toList_eq]; exact hl0
                have d6' : (!lst.toList.isEmpty) = false := by rw [d6]; rfl
                have d6'' : (lst.toList == []) = true := by rw [d6]; rfl
                have hmt : By more = By tt := by rw [hbm]; exact List.take_of_length_le (by rw [hsz]; omega)
                rw [← hbm, hmt] at HTD2
                have hr2 : r = (numS false (vals (By row)) (vals (By tt)), 0) := by rw [← HT3.out, if_neg (by omega)]
                have hms : more.size ≤ 1000 := by rw [← size_by, hmt, hsz]; omega
                subst hr2
                have HFR : Aside0 (∀ W, Calls Tryd.prog 35 #[.string more] W fun e w' => e = .returned (.tuple #[.int .u64 ((fracN (vals (By tt)) : Nat) : Int), .bool (leftN (vals (By tt)))]) ∧ Below W.heap.size W w') := ⟨by
                  have hq : ∀ c ∈ By more, isD c = true := by rw [hmt]; exact HTD2.out
                  have hq2 := vals_back hq
                  rw [show vals (By more) = vals (By tt) by rw [hmt]] at hq2
                  exact fun W => frac_calls more W hms (vals (By tt)) hq2 (vals_dgt HTD2.out)⟩
                have HDG2 : Aside0 (dgt (vals (By tt))) := ⟨vals_dgt HTD2.out⟩
                clear hmore hlst hbm hbl c5 d5 c6 hl0 hmt hms HT3 hsz hn2l
                obtain ⟨wh, hwh⟩ : ∃ x, wholeN (By row) = x := ⟨_, rfl⟩
                rw [hwh] at HWH
                have HWV : Aside0 (wholeN (By row) = wh) := ⟨hwh⟩
                obtain ⟨fr, hfr⟩ : ∃ x, fracN (vals (By tt)) = x := ⟨_, rfl⟩
                obtain ⟨lf, hlf⟩ : ∃ x, leftN (vals (By tt)) = x := ⟨_, rfl⟩
                rw [hfr, hlf] at HFR
                have hfr4 : fr < 4294967296 := by rw [← hfr]; exact frac_lt HDG2.out
                have HNE : Aside0 (numS false (vals (By row)) (vals (By tt)) = cutS (vd (vals (By row)) * 4294967296 + fr) lf false) := ⟨by rw [numS_eq, hfr, hlf]⟩
                clear hwh hfr hlf
                by_cases c9 : 4294967296 ≤ wh
                · have d9 : decide ((4294967296 : Int) ≤ (wh : Int)) = true := decide_eq_true (by omega)
                  have hv : numS false (vals (By row)) (vals (By tt)) = cutZ 18446744073709551614 lf false := by
                    have h1 : 4294967296 ≤ vd (vals (By row)) := by have := HWV.out; unfold wholeN at this; omega
                    rw [HNE.out, cut_great _ _ _ (by omega)]
                    unfold cutZ
                    rw [cut_great _ _ _ (by decide)]
                  have HV := Aside0.mk hv
                  clear hv hfr4
                  go_wp2_with (first | (go_at_call 34; (with_reducible refine (HDIG.out _).mono ?_); rintro e w' ⟨rfl, ⟨nd2, rfl⟩⟩) | (go_at_call 34; (with_reducible refine (HD1.out _).mono ?_); rintro e w' ⟨rfl, ⟨nd3, rfl⟩⟩) | (go_at_call 35; (with_reducible refine (HFR.out _).mono ?_); rintro e w3 ⟨rfl, hb3⟩; have HB3 := Aside0.mk hb3; clear hb3) | (go_at_call 36; (with_reducible refine (HWH.out _).mono ?_); rintro e w' ⟨rfl, ⟨nd4, rfl⟩⟩) | (go_at_call 28; (with_reducible refine (cut_quiet _ _ _ _ (by decide) (by decide)).mono ?_); rintro e w' ⟨rfl, ⟨nd5, rfl⟩⟩))
                  simp only [Exit.jump]
                  go_ret2
                  exact ⟨by rw [HV.out]; rfl, by
                    have hq : Below w.heap.size w (W1.drewN (nd2 + nd3)) := pw_below_drewN HBW.out _
                    have h5 := hq.trans (HB3.out.mono hq.size)
                    repeat (first | exact h5 | apply pw_below_drewN)⟩
                · have d9 : decide ((4294967296 : Int) ≤ (wh : Int)) = false := decide_eq_false (by omega)
                  have hor := or_32 fr wh hfr4 (by omega)
                  have hv : numS false (vals (By row)) (vals (By tt)) = cutZ ((wh * 4294967296 + fr : Nat) : Int) lf false := by
                    have h1 : vd (vals (By row)) = wh := by have := HWV.out; unfold wholeN at this; omega
                    rw [HNE.out, h1]
                    rfl
                  have hlt : 0 ≤ ((wh * 4294967296 + fr : Nat) : Int) ∧ ((wh * 4294967296 + fr : Nat) : Int) < 18446744073709551616 := by omega
                  have HCU : Aside0 (∀ W, Calls Tryd.prog 28 #[.int .u64 (bits .or .u64 (fr : Int) (IntKind.u64.wrap ((wh : Int) * 4294967296))), .bool lf, .bool false] W fun e w' => e = .returned (.int .i64 (cutZ ((wh * 4294967296 + fr : Nat) : Int) lf false)) ∧ ∃ m, w' = W.drewN m) := ⟨fun W => by rw [hor]; exact cut_quiet _ _ _ _ hlt.1 hlt.2⟩
                  have HV := Aside0.mk hv
                  clear hv hor hlt hfr4 c9
                  go_wp2_with (first | (go_at_call 34; (with_reducible refine (HDIG.out _).mono ?_); rintro e w' ⟨rfl, ⟨nd2, rfl⟩⟩) | (go_at_call 34; (with_reducible refine (HD1.out _).mono ?_); rintro e w' ⟨rfl, ⟨nd3, rfl⟩⟩) | (go_at_call 35; (with_reducible refine (HFR.out _).mono ?_); rintro e w3 ⟨rfl, hb3⟩; have HB3 := Aside0.mk hb3; clear hb3) | (go_at_call 36; (with_reducible refine (HWH.out _).mono ?_); rintro e w' ⟨rfl, ⟨nd4, rfl⟩⟩) | (go_at_call 28; (with_reducible refine (HCU.out _).mono ?_); rintro e w' ⟨rfl, ⟨nd5, rfl⟩⟩))
                  simp only [Exit.jump]
                  go_ret2
                  exact ⟨by rw [HV.out]; rfl, by
                    have hq : Below w.heap.size w (W1.drewN (nd2 + nd3)) := pw_below_drewN HBW.out _
                    have h5 := hq.trans (HB3.out.mono hq.size)
                    repeat (first | exact h5 | apply pw_below_drewN)⟩
              · have hl0 : By lst ≠ [] := by rw [hbl]; intro z; have := congrArg List.length z; rw [List.length_drop, hsz] at this; simp at this; omega
                have d6 : (lst.toList == []) = false := by rw [ByteArray.toList_eq]; simpa using hl0
                have d6' : (!lst.toList.isEmpty) = true := by rw [ByteArray.toList_eq]; cases hq : By lst with | nil => exact absurd hq hl0 | cons a l => simp [hq]
                have d6n : lst.toList ≠ [] := by rw [ByteArray.toList_eq]; exact hl0
                have hr2 : r = (0, 4) := by rw [← HT3.out, if_pos (by omega)]
                subst hr2
                clear hmore hlst hbm hbl c5 d5 c6 hl0 hsz hn2l
                go_wp2_with (first | (go_at_call 34; (with_reducible refine (HDIG.out _).mono ?_); rintro e w' ⟨rfl, ⟨nd2, rfl⟩⟩) | (go_at_call 34; (with_reducible refine (HD1.out _).mono ?_); rintro e w' ⟨rfl, ⟨nd3, rfl⟩⟩))
                go_step3
                exact ⟨rfl, rfl, by first | exact pw_below_drewN HBW.out _ | exact pw_below_drewN (pw_below_drewN HBW.out _) _, _, _, _, _, _, _, _, _, _, _, _, _, _, _, _, _, _, _, _, _, _, _, _, _, _, _, _, _, _, _, _, _, _, _, _, _, _, _, _, _, _, _, _, _, _, _, _, _, _, _, _, _, _, _, _, _, _, _, _, _, _, _, _, _, _, _, _, _, _, rfl⟩
          · have d4 : ((rest[0].toNat : Int) == 46) = false := by rw [beq_eq_false_iff_ne]; intro z; exact c4 (UInt8.toNat_inj.mp (by simpa using (Int.ofNat.inj z)))
            have d4' : ((rest[0].toNat : Int) != 46) = true := by rw [bne_iff_ne]; intro z; exact c4 (UInt8.toNat_inj.mp (by simpa using (Int.ofNat.inj z)))
            have hr2 : r = (0, 4) := by have := HT2.out; dsimp only at this; rw [if_neg c4] at this; exact this.symm
            subst hr2
            clear c4
            go_wp2_with (go_at_call 34; (with_reducible refine (HDIG.out _).mono ?_); rintro e w' ⟨rfl, ⟨nd2, rfl⟩⟩)
            go_step3
            exact ⟨rfl, rfl, pw_below_drewN HBW.out _, _, _, _, _, _, _, _, _, _, _, _, _, _, _, _, _, _, _, _, _, _, _, _, _, _, _, _, _, _, _, _, _, _, _, _, _, _, _, _, _, _, _, _, _, _, _, _, _, _, _, _, _, _, _, _, _, _, _, _, _, _, _, _, _, _, _, _, _, _, rfl⟩
  · rintro a' w' ⟨hr, hd, u0, u1, u2, u3, u4, u5, u6, u7, u8, u9, u10, u11, u12, u13, u14, u15, u16, u17, u18, u19, u20, u21, u22, u23, u24, u25, u26, u27, u28, u29, u30, u31, u32, u33, u34, u35, u36, u37, u38, u39, u40, u41, u42, u43, u44, u45, u46, u47, u48, u49, u50, u51, u52, u53, u54, u55, u56, u57, u58, u59, u60, u61, u62, u63, u64, u65, u66, u67, u68, rfl⟩
    subst hr
    go_wp2
    simp only [Exit.jump]
    go_ret2
    exact ⟨rfl, hd⟩
set_option maxHeartbeats 8000000 in
set_option maxRecDepth 100000 in
theorem parse_none (s : ByteArray) (w : World) (hs : s.size ≤ 140737488351232) (h0 : By s ≠ [110, 97, 110]) (hn : headIs 45 (By s) = false) (hn2 : headIs 43 (By s) = false) (r : Int × Int) (hT : parseT false (By s) = r) : Calls Tryd.prog 19 #[.string s] w fun e w' => e = .returned (.tuple #[.int .i64 r.1, .int .i64 r.2]) ∧ Below w.heap.size w w' := by
  have d0 : (s.toList == [110, 97, 110]) = false := by rw [ByteArray.toList_eq]; simpa using h0
  have HS := Aside0.mk hs
  have HTS := Aside0.mk hs
  have HT := Aside0.mk hT
  have HN := Aside0.mk hn
  have HN2 := Aside0.mk hn2
  clear hn hn2
  clear h0 hs hT
  go_enter Tryd.func19, Tryd.ntmps19
  go_wp2
  refine wp_scope_jumps 0 (fun a' w' => r = ((0 : Int), (4 : Int)) ∧ Below w.heap.size w w' ∧ ∃ (u0 u1 u2 u3 u4 u5 u6 u7 u8 u9 u10 u11 u12 u13 u14 u15 u16 u17 u18 u19 u20 u21 u22 u23 u24 u25 u26 u27 u28 u29 u30 u31 u32 u33 u34 u35 u36 u37 u38 u39 u40 u41 u42 u43 u44 u45 u46 u47 u48 u49 u50 u51 u52 u53 u54 u55 u56 u57 u58 u59 u60 u61 u62 u63 u64 u65 u66 u67 u68 : Value), a' = { tmps := #[u0, u1, u2, u3, u4, u5, u6, u7, u8, u9, u10, u11, u12, u13, u14, u15, u16, u17, u18, u19, u20, u21, u22, u23, u24, u25, u26, u27, u28, u29, u30, u31, u32, u33, u34, u35, u36, u37, u38, u39, u40, u41, u42, u43, u44, u45, u46, u47, u48, u49, u50, u51, u52, u53, u54, u55, u56, u57, u58, u59, u60, u61, u62, u63, u64, u65, u66, u67, u68], defers := [] }) (fun _ _ => 0) rfl ?_ ?_
  · go_upto_region 9 with (first | (go_at_call 33; (with_reducible refine (hp_calls 45 _ HS.out _).mono ?_); rw [HN.out]; rintro e w' ⟨rfl, ⟨nd, rfl⟩⟩) | (go_at_call 33; (with_reducible refine (hp_calls 43 _ HS.out _).mono ?_); rw [HN2.out]; rintro e w' ⟨rfl, ⟨ndb, rfl⟩⟩))
    obtain ⟨W1, hW1⟩ : ∃ W1, w.drewN (nd + ndb) = W1 := ⟨_, rfl⟩
    rw [hW1]
    have HBW : Aside0 (Below w.heap.size w W1) := ⟨by rw [← hW1]; exact pw_below_drewN (Below.refl _ _) _⟩
    clear hW1
    by_cases c1 : By s = [105, 110, 102]
    · have d1 : (s.toList == [105, 110, 102]) = true := by rw [ByteArray.toList_eq]; exact beq_iff_eq.mpr c1
      have hr2 : r = (if false = true then -9223372036854775808 else 9223372036854775807, 0) := by rw [← HT.out]; unfold parseT; rw [if_pos c1]
      have hcz : (if false = true then -9223372036854775808 else 9223372036854775807 : Int) = cutZ 18446744073709551614 false false := by decide +kernel
      rw [hcz] at hr2
      subst hr2
      clear hcz c1
      go_wp2_with (go_at_call 28; (with_reducible refine (cut_quiet _ _ _ _ (by decide) (by decide)).mono ?_); rintro e w' ⟨rfl, ⟨nd2, rfl⟩⟩)
      simp only [Exit.jump]
      go_ret2
      exact ⟨rfl, pw_below_drewN HBW.out _⟩
    · have d1 : (s.toList == [105, 110, 102]) = false := by rw [ByteArray.toList_eq]; simpa using c1
      have HT2 : Aside0 ((if dlen (By s) = 0 ∨ 30 < dlen (By s) then ((0 : Int), (4 : Int))
      else match (By s).drop (dlen (By s)) with
        | [] => (numS false (vals ((By s).take (dlen (By s)))) [], 0)
        | c :: m => if c = 46 then (if dlen m = 0 ∨ 30 < dlen m ∨ m.length ≠ dlen m then ((0 : Int), (4 : Int)) else (numS false (vals ((By s).take (dlen (By s)))) (vals m), 0)) else ((0 : Int), (4 : Int))) = r) := ⟨by have := HT.out; unfold parseT at this; rwa [if_neg c1] at this⟩
      clear c1 HT
      obtain ⟨n, hn⟩ : ∃ n, dlen (By s) = n := ⟨_, rfl⟩
      have hnl : n ≤ s.size := by rw [← hn, ← size_by]; exact dlen_le _
      have HDIG : Aside0 (∀ W, Calls Tryd.prog 34 #[.string s] W fun e w' => e = .returned (.tuple #[.string (s.extract 0 n), .string (s.extract n s.size), .bool (decide (0 < n) && decide (n ≤ 30))]) ∧ Drawn0 W w') := ⟨by rw [← hn]; exact fun W => digits_calls s HTS.out W⟩
      have HTD : Aside0 (∀ c ∈ (By s).take n, isD c = true) := ⟨by rw [← hn]; exact take_dig _⟩
      rw [hn] at HT2
      clear hn
      by_cases c2 : n = 0 ∨ 30 < n
      · have d2 : (decide (0 < n) && decide (n ≤ 30)) = false := by rw [Bool.eq_false_iff]; intro z; rw [Bool.and_eq_true, decide_eq_true_eq, decide_eq_true_eq] at z; omega
        rw [d2] at HDIG
        have hr2 : r = (0, 4) := by rw [← HT2.out, if_pos c2]
        subst hr2
        clear c2 d2
        go_wp2_with (go_at_call 34; (with_reducible refine (HDIG.out _).mono ?_); rintro e w' ⟨rfl, ⟨nd2, rfl⟩⟩)
        go_step3
        exact ⟨rfl, rfl, pw_below_drewN HBW.out _, _, _, _, _, _, _, _, _, _, _, _, _, _, _, _, _, _, _, _, _, _, _, _, _, _, _, _, _, _, _, _, _, _, _, _, _, _, _, _, _, _, _, _, _, _, _, _, _, _, _, _, _, _, _, _, _, _, _, _, _, _, _, _, _, _, _, _, _, _, rfl⟩
      · have d2 : (decide (0 < n) && decide (n ≤ 30)) = true := by rw [Bool.and_eq_true, decide_eq_true_eq, decide_eq_true_eq]; omega
        rw [d2] at HDIG
        rw [if_neg c2] at HT2
        have hn30 : n ≤ 30 := by omega
        obtain ⟨row, hrow⟩ : ∃ row, s.extract 0 n = row := ⟨_, rfl⟩
        obtain ⟨rest, hrest⟩ : ∃ rest, s.extract n s.size = rest := ⟨_, rfl⟩
        have hbr : By row = (By s).take n := by rw [← hrow, by_extract, List.drop_zero, Nat.sub_zero]
        have hbs : By rest = (By s).drop n := by rw [← hrest, by_rest]
        have hss : rest.size ≤ 140737488351232 := by rw [← size_by, hbs, List.length_drop, size_by]; have := HTS.out; omega
        have hrs : row.size ≤ 140737488351232 := by rw [← size_by, hbr, List.length_take, size_by]; omega
        rw [hrow, hrest] at HDIG
        rw [← hbr] at HTD HT2
        rw [← hbs] at HT2
        have HWH : Aside0 (∀ W, Calls Tryd.prog 36 #[.string row] W fun e w' => e = .returned (.int .u64 ((wholeN (By row) : Nat) : Int)) ∧ Drawn0 W w') := ⟨fun W => whole_calls row hrs HTD.out W⟩
        have HSS := Aside0.mk hss
        clear hrow hrest hbr hbs hrs hss c2 d2 hn30 hnl
        by_cases c3 : By rest = []
        · have d3 : rest.toList = [] := by rw [ByteArray.toList_eq]; exact c3
          have d3' : (!rest.toList.isEmpty) = false := by rw [d3]; rfl
          have d3'' : (rest.toList == []) = true := by rw [d3]; rfl
          rw [c3] at HT2
          have hr2 : r = (numS false (vals (By row)) [], 0) := HT2.out.symm
          clear c3 HT2
          subst hr2
          have HFR : Aside0 (∀ W, Calls Tryd.prog 35 #[.string ⟨#[]⟩] W fun e w' => e = .returned (.tuple #[.int .u64 ((fracN [] : Nat) : Int), .bool (leftN [])]) ∧ Below W.heap.size W w') := ⟨fun W => frac_calls ⟨#[]⟩ W (by decide) [] rfl (fun x hx => by cases hx)⟩
          obtain ⟨wh, hwh⟩ : ∃ x, wholeN (By row) = x := ⟨_, rfl⟩
          rw [hwh] at HWH
          have HWV : Aside0 (wholeN (By row) = wh) := ⟨hwh⟩
          obtain ⟨fr, hfr⟩ : ∃ x, fracN [] = x := ⟨_, rfl⟩
          obtain ⟨lf, hlf⟩ : ∃ x, leftN [] = x := ⟨_, rfl⟩
          rw [hfr, hlf] at HFR
          have hfr4 : fr < 4294967296 := by rw [← hfr]; exact frac_lt (fun x hx => by cases hx)
          have HNE : Aside0 (numS false (vals (By row)) [] = cutS (vd (vals (By row)) * 4294967296 + fr) lf false) := ⟨by rw [numS_eq, hfr, hlf]⟩
          clear hwh hfr hlf
          by_cases c9 : 4294967296 ≤ wh
          · have d9 : decide ((4294967296 : Int) ≤ (wh : Int)) = true := decide_eq_true (by omega)
            have hv : numS false (vals (By row)) [] = cutZ 18446744073709551614 lf false := by
              have h1 : 4294967296 ≤ vd (vals (By row)) := by have := HWV.out; unfold wholeN at this; omega
              rw [HNE.out, cut_great _ _ _ (by omega)]
              unfold cutZ
              rw [cut_great _ _ _ (by decide)]
            have HV := Aside0.mk hv
            clear hv hfr4
            go_wp2_with (first | (go_at_call 34; (with_reducible refine (HDIG.out _).mono ?_); rintro e w' ⟨rfl, ⟨nd2, rfl⟩⟩) | (go_at_call 35; (with_reducible refine (HFR.out _).mono ?_); rintro e w3 ⟨rfl, hb3⟩; have HB3 := Aside0.mk hb3; clear hb3) | (go_at_call 36; (with_reducible refine (HWH.out _).mono ?_); rintro e w' ⟨rfl, ⟨nd4, rfl⟩⟩) | (go_at_call 28; (with_reducible refine (cut_quiet _ _ _ _ (by decide) (by decide)).mono ?_); rintro e w' ⟨rfl, ⟨nd5, rfl⟩⟩))
            simp only [Exit.jump]
            go_ret2
            exact ⟨by rw [HV.out]; rfl, by
              have hq : Below w.heap.size w (W1.drewN nd2) := pw_below_drewN HBW.out _
              have h5 := hq.trans (HB3.out.mono hq.size)
              repeat (first | exact h5 | apply pw_below_drewN)⟩
          · have d9 : decide ((4294967296 : Int) ≤ (wh : Int)) = false := decide_eq_false (by omega)
            have hor := or_32 fr wh hfr4 (by omega)
            have hv : numS false (vals (By row)) [] = cutZ ((wh * 4294967296 + fr : Nat) : Int) lf false := by
              have h1 : vd (vals (By row)) = wh := by have := HWV.out; unfold wholeN at this; omega
              rw [HNE.out, h1]
              rfl
            have hlt : 0 ≤ ((wh * 4294967296 + fr : Nat) : Int) ∧ ((wh * 4294967296 + fr : Nat) : Int) < 18446744073709551616 := by omega
            have HCU : Aside0 (∀ W, Calls Tryd.prog 28 #[.int .u64 (bits .or .u64 (fr : Int) (IntKind.u64.wrap ((wh : Int) * 4294967296))), .bool lf, .bool false] W fun e w' => e = .returned (.int .i64 (cutZ ((wh * 4294967296 + fr : Nat) : Int) lf false)) ∧ ∃ m, w' = W.drewN m) := ⟨fun W => by rw [hor]; exact cut_quiet _ _ _ _ hlt.1 hlt.2⟩
            have HV := Aside0.mk hv
            clear hv hor hlt hfr4 c9
            go_wp2_with (first | (go_at_call 34; (with_reducible refine (HDIG.out _).mono ?_); rintro e w' ⟨rfl, ⟨nd2, rfl⟩⟩) | (go_at_call 35; (with_reducible refine (HFR.out _).mono ?_); rintro e w3 ⟨rfl, hb3⟩; have HB3 := Aside0.mk hb3; clear hb3) | (go_at_call 36; (with_reducible refine (HWH.out _).mono ?_); rintro e w' ⟨rfl, ⟨nd4, rfl⟩⟩) | (go_at_call 28; (with_reducible refine (HCU.out _).mono ?_); rintro e w' ⟨rfl, ⟨nd5, rfl⟩⟩))
            simp only [Exit.jump]
            go_ret2
            exact ⟨by rw [HV.out]; rfl, by
              have hq : Below w.heap.size w (W1.drewN nd2) := pw_below_drewN HBW.out _
              have h5 := hq.trans (HB3.out.mono hq.size)
              repeat (first | exact h5 | apply pw_below_drewN)⟩
        · have d3 : (rest.toList == []) = false := by rw [ByteArray.toList_eq]; simpa using c3
          have d3' : (!rest.toList.isEmpty) = true := by rw [ByteArray.toList_eq]; cases hq : By rest with | nil => exact absurd hq c3 | cons a l => simp [hq]
          have d3n : rest.toList ≠ [] := by rw [ByteArray.toList_eq]; exact c3
          have hp : 0 < rest.size := by rw [← size_by]; exact List.length_pos_iff.mpr c3
          have hg := bytes_get rest 0 hp
          rw [List.drop_zero] at hg
          rw [show rest.data.toList = By rest from rfl] at hg
          rw [hg] at HT2
          have HGG := Aside0.mk hg
          clear hg c3
          by_cases c4 : rest[0] = 46
          · have d4 : ((rest[0].toNat : Int) == 46) = true := by rw [c4]; rfl
            have d4' : ((rest[0].toNat : Int) != 46) = false := by rw [c4]; rfl
            have HT3 : Aside0 ((if dlen ((By rest).drop 1) = 0 ∨ 30 < dlen ((By rest).drop 1) ∨ ((By rest).drop 1).length ≠ dlen ((By rest).drop 1) then ((0 : Int), (4 : Int)) else (numS false (vals (By row)) (vals ((By rest).drop 1)), 0)) = r) := ⟨by have := HT2.out; dsimp only at this; rw [if_pos c4] at this; exact this⟩
            clear c4 HT2
            obtain ⟨tt, htt⟩ : ∃ tt, rest.extract 1 rest.size = tt := ⟨_, rfl⟩
            have hbt : By tt = (By rest).drop 1 := by rw [← htt, by_rest]
            have hts : tt.size ≤ 140737488351232 := by rw [← size_by, hbt, List.length_drop, size_by]; have := HSS.out; omega
            rw [← hbt] at HT3
            have HTT := Aside0.mk htt
            obtain ⟨n2, hn2⟩ : ∃ n, dlen (By tt) = n := ⟨_, rfl⟩
            have HD2 : Aside0 (∀ W, Calls Tryd.prog 34 #[.string tt] W fun e w' => e = .returned (.tuple #[.string (tt.extract 0 n2), .string (tt.extract n2 tt.size), .bool (decide (0 < n2) && decide (n2 ≤ 30))]) ∧ Drawn0 W w') := ⟨by rw [← hn2]; exact fun W => digits_calls tt hts W⟩
            have HTD2 : Aside0 (∀ c ∈ (By tt).take n2, isD c = true) := ⟨by rw [← hn2]; exact take_dig _⟩
            rw [hn2] at HT3
            have hsz : (By tt).length = tt.size := size_by _
            have HD1 : Aside0 (∀ W, Calls Tryd.prog 34 #[.string (rest.extract 1 rest.size)] W fun e w' => e = .returned (.tuple #[.string (tt.extract 0 n2), .string (tt.extract n2 tt.size), .bool (decide (0 < n2) && decide (n2 ≤ 30))]) ∧ Drawn0 W w') := ⟨by rw [htt]; exact HD2.out⟩
            have hp1 : (1 : Int) ≤ (rest.size : Int) := by omega
            have hn2l : n2 ≤ tt.size := by rw [← hn2, ← size_by]; exact dlen_le _
            clear hn2 hbt hts htt
            by_cases c5 : n2 = 0 ∨ 30 < n2
            · have d5 : (decide (0 < n2) && decide (n2 ≤ 30)) = false := by rw [Bool.eq_false_iff]; intro z; rw [Bool.and_eq_true, decide_eq_true_eq, decide_eq_true_eq] at z; omega
              rw [d5] at HD1
              have hr2 : r = (0, 4) := by rw [← HT3.out, if_pos (by omega)]
              subst hr2
              clear c5 d5 hsz hn2l
              go_wp2_with (first | (go_at_call 34; (with_reducible refine (HDIG.out _).mono ?_); rintro e w' ⟨rfl, ⟨nd2, rfl⟩⟩) | (go_at_call 34; (with_reducible refine (HD1.out _).mono ?_); rintro e w' ⟨rfl, ⟨nd3, rfl⟩⟩))
              go_step3
              exact ⟨rfl, rfl, by first | exact pw_below_drewN HBW.out _ | exact pw_below_drewN (pw_below_drewN HBW.out _) _, _, _, _, _, _, _, _, _, _, _, _, _, _, _, _, _, _, _, _, _, _, _, _, _, _, _, _, _, _, _, _, _, _, _, _, _, _, _, _, _, _, _, _, _, _, _, _, _, _, _, _, _, _, _, _, _, _, _, _, _, _, _, _, _, _, _, _, _, _, rfl⟩
            · have d5 : (decide (0 < n2) && decide (n2 ≤ 30)) = true := by rw [Bool.and_eq_true, decide_eq_true_eq, decide_eq_true_eq]; omega
              rw [d5] at HD1
              obtain ⟨more, hmore⟩ : ∃ more, tt.extract 0 n2 = more := ⟨_, rfl⟩
              obtain ⟨lst, hlst⟩ : ∃ lst, tt.extract n2 tt.size = lst := ⟨_, rfl⟩
              have hbm : By more = (By tt).take n2 := by rw [← hmore, by_extract, List.drop_zero, Nat.sub_zero]
              have hbl : By lst = (By tt).drop n2 := by rw [← hlst, by_rest]
              rw [hmore, hlst] at HD1
              by_cases c6 : tt.size = n2
              · have hl0 : By lst = [] := by rw [hbl]; exact List.drop_of_length_le (by rw [hsz]; omega)
                have d6 : lst.toList = [] := by rw [ByteArray.toList_eq]; exact hl0
                have d6' : (!lst.toList.isEmpty) = false := by rw [d6]; rfl
                have d6'' : (lst.toList == []) = true := by rw [d6]; rfl
                have hmt : By more = By tt := by rw [hbm]; exact List.take_of_length_le (by rw [hsz]; omega)
                rw [← hbm, hmt] at HTD2
                have hr2 : r = (numS false (vals (By row)) (vals (By tt)), 0) := by rw [← HT3.out, if_neg (by omega)]
                have hms : more.size ≤ 1000 := by rw [← size_by, hmt, hsz]; omega
                subst hr2
                have HFR : Aside0 (∀ W, Calls Tryd.prog 35 #[.string more] W fun e w' => e = .returned (.tuple #[.int .u64 ((fracN (vals (By tt)) : Nat) : Int), .bool (leftN (vals (By tt)))]) ∧ Below W.heap.size W w') := ⟨by
                  have hq : ∀ c ∈ By more, isD c = true := by rw [hmt]; exact HTD2.out
                  have hq2 := vals_back hq
                  rw [show vals (By more) = vals (By tt) by rw [hmt]] at hq2
                  exact fun W => frac_calls more W hms (vals (By tt)) hq2 (vals_dgt HTD2.out)⟩
                have HDG2 : Aside0 (dgt (vals (By tt))) := ⟨vals_dgt HTD2.out⟩
                clear hmore hlst hbm hbl c5 d5 c6 hl0 hmt hms HT3 hsz hn2l
                obtain ⟨wh, hwh⟩ : ∃ x, wholeN (By row) = x := ⟨_, rfl⟩
                rw [hwh] at HWH
                have HWV : Aside0 (wholeN (By row) = wh) := ⟨hwh⟩
                obtain ⟨fr, hfr⟩ : ∃ x, fracN (vals (By tt)) = x := ⟨_, rfl⟩
                obtain ⟨lf, hlf⟩ : ∃ x, leftN (vals (By tt)) = x := ⟨_, rfl⟩
                rw [hfr, hlf] at HFR
                have hfr4 : fr < 4294967296 := by rw [← hfr]; exact frac_lt HDG2.out
                have HNE : Aside0 (numS false (vals (By row)) (vals (By tt)) = cutS (vd (vals (By row)) * 4294967296 + fr) lf false) := ⟨by rw [numS_eq, hfr, hlf]⟩
                clear hwh hfr hlf
                by_cases c9 : 4294967296 ≤ wh
                · have d9 : decide ((4294967296 : Int) ≤ (wh : Int)) = true := decide_eq_true (by omega)
                  have hv : numS false (vals (By row)) (vals (By tt)) = cutZ 18446744073709551614 lf false := by
                    have h1 : 4294967296 ≤ vd (vals (By row)) := by have := HWV.out; unfold wholeN at this; omega
                    rw [HNE.out, cut_great _ _ _ (by omega)]
                    unfold cutZ
                    rw [cut_great _ _ _ (by decide)]
                  have HV := Aside0.mk hv
                  clear hv hfr4
                  go_wp2_with (first | (go_at_call 34; (with_reducible refine (HDIG.out _).mono ?_); rintro e w' ⟨rfl, ⟨nd2, rfl⟩⟩) | (go_at_call 34; (with_reducible refine (HD1.out _).mono ?_); rintro e w' ⟨rfl, ⟨nd3, rfl⟩⟩) | (go_at_call 35; (with_reducible refine (HFR.out _).mono ?_); rintro e w3 ⟨rfl, hb3⟩; have HB3 := Aside0.mk hb3; clear hb3) | (go_at_call 36; (with_reducible refine (HWH.out _).mono ?_); rintro e w' ⟨rfl, ⟨nd4, rfl⟩⟩) | (go_at_call 28; (with_reducible refine (cut_quiet _ _ _ _ (by decide) (by decide)).mono ?_); rintro e w' ⟨rfl, ⟨nd5, rfl⟩⟩))
                  simp only [Exit.jump]
                  go_ret2
                  exact ⟨by rw [HV.out]; rfl, by
                    have hq : Below w.heap.size w (W1.drewN (nd2 + nd3)) := pw_below_drewN HBW.out _
                    have h5 := hq.trans (HB3.out.mono hq.size)
                    repeat (first | exact h5 | apply pw_below_drewN)⟩
                · have d9 : decide ((4294967296 : Int) ≤ (wh : Int)) = false := decide_eq_false (by omega)
                  have hor := or_32 fr wh hfr4 (by omega)
                  have hv : numS false (vals (By row)) (vals (By tt)) = cutZ ((wh * 4294967296 + fr : Nat) : Int) lf false := by
                    have h1 : vd (vals (By row)) = wh := by have := HWV.out; unfold wholeN at this; omega
                    rw [HNE.out, h1]
                    rfl
                  have hlt : 0 ≤ ((wh * 4294967296 + fr : Nat) : Int) ∧ ((wh * 4294967296 + fr : Nat) : Int) < 18446744073709551616 := by omega
                  have HCU : Aside0 (∀ W, Calls Tryd.prog 28 #[.int .u64 (bits .or .u64 (fr : Int) (IntKind.u64.wrap ((wh : Int) * 4294967296))), .bool lf, .bool false] W fun e w' => e = .returned (.int .i64 (cutZ ((wh * 4294967296 + fr : Nat) : Int) lf false)) ∧ ∃ m, w' = W.drewN m) := ⟨fun W => by rw [hor]; exact cut_quiet _ _ _ _ hlt.1 hlt.2⟩
                  have HV := Aside0.mk hv
                  clear hv hor hlt hfr4 c9
                  go_wp2_with (first | (go_at_call 34; (with_reducible refine (HDIG.out _).mono ?_); rintro e w' ⟨rfl, ⟨nd2, rfl⟩⟩) | (go_at_call 34; (with_reducible refine (HD1.out _).mono ?_); rintro e w' ⟨rfl, ⟨nd3, rfl⟩⟩) | (go_at_call 35; (with_reducible refine (HFR.out _).mono ?_); rintro e w3 ⟨rfl, hb3⟩; have HB3 := Aside0.mk hb3; clear hb3) | (go_at_call 36; (with_reducible refine (HWH.out _).mono ?_); rintro e w' ⟨rfl, ⟨nd4, rfl⟩⟩) | (go_at_call 28; (with_reducible refine (HCU.out _).mono ?_); rintro e w' ⟨rfl, ⟨nd5, rfl⟩⟩))
                  simp only [Exit.jump]
                  go_ret2
                  exact ⟨by rw [HV.out]; rfl, by
                    have hq : Below w.heap.size w (W1.drewN (nd2 + nd3)) := pw_below_drewN HBW.out _
                    have h5 := hq.trans (HB3.out.mono hq.size)
                    repeat (first | exact h5 | apply pw_below_drewN)⟩
              · have hl0 : By lst ≠ [] := by rw [hbl]; intro z; have := congrArg List.length z; rw [List.length_drop, hsz] at this; simp at this; omega
                have d6 : (lst.toList == []) = false := by rw [ByteArray.toList_eq]; simpa using hl0
                have d6' : (!lst.toList.isEmpty) = true := by rw [ByteArray.toList_eq]; cases hq : By lst with | nil => exact absurd hq hl0 | cons a l => simp [hq]
                have d6n : lst.toList ≠ [] := by rw [ByteArray.toList_eq]; exact hl0
                have hr2 : r = (0, 4) := by rw [← HT3.out, if_pos (by omega)]
                subst hr2
                clear hmore hlst hbm hbl c5 d5 c6 hl0 hsz hn2l
                go_wp2_with (first | (go_at_call 34; (with_reducible refine (HDIG.out _).mono ?_); rintro e w' ⟨rfl, ⟨nd2, rfl⟩⟩) | (go_at_call 34; (with_reducible refine (HD1.out _).mono ?_); rintro e w' ⟨rfl, ⟨nd3, rfl⟩⟩))
                go_step3
                exact ⟨rfl, rfl, by first | exact pw_below_drewN HBW.out _ | exact pw_below_drewN (pw_below_drewN HBW.out _) _, _, _, _, _, _, _, _, _, _, _, _, _, _, _, _, _, _, _, _, _, _, _, _, _, _, _, _, _, _, _, _, _, _, _, _, _, _, _, _, _, _, _, _, _, _, _, _, _, _, _, _, _, _, _, _, _, _, _, _, _, _, _, _, _, _, _, _, _, _, rfl⟩
          · have d4 : ((rest[0].toNat : Int) == 46) = false := by rw [beq_eq_false_iff_ne]; intro z; exact c4 (UInt8.toNat_inj.mp (by simpa using (Int.ofNat.inj z)))
            have d4' : ((rest[0].toNat : Int) != 46) = true := by rw [bne_iff_ne]; intro z; exact c4 (UInt8.toNat_inj.mp (by simpa using (Int.ofNat.inj z)))
            have hr2 : r = (0, 4) := by have := HT2.out; dsimp only at this; rw [if_neg c4] at this; exact this.symm
            subst hr2
            clear c4
            go_wp2_with (go_at_call 34; (with_reducible refine (HDIG.out _).mono ?_); rintro e w' ⟨rfl, ⟨nd2, rfl⟩⟩)
            go_step3
            exact ⟨rfl, rfl, pw_below_drewN HBW.out _, _, _, _, _, _, _, _, _, _, _, _, _, _, _, _, _, _, _, _, _, _, _, _, _, _, _, _, _, _, _, _, _, _, _, _, _, _, _, _, _, _, _, _, _, _, _, _, _, _, _, _, _, _, _, _, _, _, _, _, _, _, _, _, _, _, _, _, _, _, rfl⟩
  · rintro a' w' ⟨hr, hd, u0, u1, u2, u3, u4, u5, u6, u7, u8, u9, u10, u11, u12, u13, u14, u15, u16, u17, u18, u19, u20, u21, u22, u23, u24, u25, u26, u27, u28, u29, u30, u31, u32, u33, u34, u35, u36, u37, u38, u39, u40, u41, u42, u43, u44, u45, u46, u47, u48, u49, u50, u51, u52, u53, u54, u55, u56, u57, u58, u59, u60, u61, u62, u63, u64, u65, u66, u67, u68, rfl⟩
    subst hr
    go_wp2
    simp only [Exit.jump]
    go_ret2
    exact ⟨rfl, hd⟩
theorem parse_nan (s : ByteArray) (w : World) (hs : s.size ≤ 140737488351232) (h0 : By s = [110, 97, 110]) : Calls Tryd.prog 19 #[.string s] w fun e w' => e = .returned (.tuple #[.int .i64 0, .int .i64 3]) ∧ Below w.heap.size w w' := by
  have d0 : (s.toList == [110, 97, 110]) = true := by rw [ByteArray.toList_eq]; exact beq_iff_eq.mpr h0
  have HN : Aside0 (headIs 45 (By s) = false) := ⟨by rw [h0]; rfl⟩
  have HS := Aside0.mk hs
  clear hs h0
  go_enter Tryd.func19, Tryd.ntmps19
  go_wp2
  refine wp_scope_jumps 0 (fun _ _ => False) (fun _ _ => 0) rfl ?_ (fun _ _ h => h.elim)
  go_wp2_with (go_at_call 33; (with_reducible refine (hp_calls _ _ HS.out _).mono ?_); rw [HN.out]; rintro e w' ⟨rfl, ⟨nd, rfl⟩⟩)
  simp only [Exit.jump]
  go_ret2
  exact ⟨rfl, pw_below_drewN (Below.refl _ _) _⟩
theorem parse_calls (s : ByteArray) (w : World) (hs : s.size ≤ 140737488351232) : Calls Tryd.prog 19 #[.string s] w fun e w' => e = .returned (.tuple #[.int .i64 (parseS (By s)).1, .int .i64 (parseS (By s)).2]) ∧ Below w.heap.size w w' := by
  by_cases h0 : By s = [110, 97, 110]
  · have e : parseS (By s) = (0, 3) := by unfold parseS; rw [if_pos h0]
    rw [e]
    exact parse_nan s w hs h0
  · have hx : ∀ c l, By s = c :: l → By (s.extract 1 s.size) = l ∧ (s.extract 1 s.size).size ≤ 140737488351232 := by
      intro c l h
      have h1 : s.size = l.length + 1 := by rw [← size_by, h]; rfl
      refine ⟨by rw [by_rest, h]; rfl, by rw [size_rest s 1 (by omega)]; omega⟩
    cases hb : By s with
    | nil =>
      have e : parseS ([] : List UInt8) = parseT false [] := rfl
      rw [e, ← hb]
      exact parse_none s w hs h0 (by rw [hb]; rfl) (by rw [hb]; rfl) _ rfl
    | cons c l =>
      obtain ⟨x1, x2⟩ := hx c l hb
      rw [hb] at h0
      by_cases c1 : c = 45
      · have e : parseS (c :: l) = parseT true l := by unfold parseS; rw [if_neg h0, c1]; rfl
        rw [e]
        exact parse_neg s w hs (by rw [hb]; exact h0) (by rw [hb, c1]; rfl) _ _ rfl x2 (by rw [x1])
      · by_cases c2 : c = 43
        · have e : parseS (c :: l) = parseT false l := by unfold parseS; rw [if_neg h0, c2]; rfl
          rw [e]
          exact parse_plus s w hs (by rw [hb]; exact h0) (by rw [hb, c2]; rfl) (by rw [hb, c2]; rfl) _ _ rfl x2 (by rw [x1])
        · have e : parseS (c :: l) = parseT false (c :: l) := by
            unfold parseS
            rw [if_neg h0]
            split
            · rename_i t h; exact absurd (List.cons.inj h).1 c1
            · rename_i t h; exact absurd (List.cons.inj h).1 c2
            · rfl
          rw [e, ← hb]
          exact parse_none s w hs (by rw [hb]; exact h0) (by rw [hb]; unfold headIs; simpa using c1) (by rw [hb]; unfold headIs; simpa using c2) _ rfl
end Go.Proofs.YtlifbogjjikhdaaDoor.Fl
end
section
namespace Go.Proofs.YtlifbogjjikhdaaDoor
open Go Go.RowKit Go.Proofs.YtlifbogjjikhdaaDoorW.PrintLast
section
variable {P : Program} {ops : Array Oper} {md : Region.Mode} {C : World → Prop}
structure Ext (w : World) where
  val : World
  below : Below w.heap.size w val
instance (w : World) : Inhabited (Ext w) := ⟨⟨w, Below.refl _ _⟩⟩
theorem Ext.cell {w : World} {p : Addr} {v : Value} (hc : w.cell? p = some v) (k : Ext w) : k.val.cell? p = some v := (k.below.cell (World.block_lt_of_cell? _ _ hc)).trans hc
end
end Go.Proofs.YtlifbogjjikhdaaDoor
end
section
namespace Go.Proofs.YtlifbogjjikhdaaDoor.Fl
open Go.RowKit Go.Proofs.YtlifbogjjikhdaaDoorW.PrintWords Go.Proofs.YtlifbogjjikhdaaDoorW.PrintLast Go.Proofs.YtlifbogjjikhdaaDoorW.PrintMore
set_option linter.unusedVariables false
open Go.Proofs.YtlifbogjjikhdaaDoor.FL
theorem num_calls0 (n : Int) (w : World) : Calls Tryd.prog 16 #[.int .i64 n] w fun e w' => e = .returned (.int .i64 n) ∧ w' = w := by
  go_enter Tryd.func16, Tryd.ntmps16
  go_wp2
  go_ret
  exact ⟨rfl, rfl⟩
theorem of_tenth : ofS 4591870180066957722 = (429496729, 0) := by decide +kernel
theorem parse_half : parseS [45, 48, 46, 53] = (-2147483648, 0) := by decide +kernel
theorem bits_inf : bitsS [102, 102, 102, 48, 48, 48, 48, 48, 48, 48, 48, 48, 48, 48, 48, 48] = (-9223372036854775808, 0) := by decide +kernel
theorem show_one : showT 1 = ⟨#[48, 46, 48, 48, 48, 48, 48, 48, 48, 48, 48, 50, 51, 50, 56, 51, 48, 54, 52, 51, 54, 53, 51, 56, 54, 57, 54, 50, 56, 57, 48, 54, 50, 53]⟩ := by
  unfold showT showZ showM
  rw [show (1 : Int).natAbs / 4294967296 = 0 from rfl, Lib.decDigits_one (by decide)]
  decide +kernel
set_option maxHeartbeats 8000000 in
set_option maxRecDepth 100000 in
theorem alive_calls (w : World) (ht : Tab w) : Calls Tryd.prog 12 #[] w fun e w' => e = .returned (.bool true) ∧ Below w.heap.size w w' := by
  have H1 : Aside0 (∀ W, Calls Tryd.prog 14 #[.float .f64 4591870180066957722] W fun e w' => e = .returned (.tuple #[.int .i64 429496729, .int .i64 0]) ∧ Below W.heap.size W w') := ⟨fun W => by
    have := of_calls 4591870180066957722 (by decide) W
    rw [of_tenth] at this
    exact this.mono fun _ _ ⟨he, hw⟩ => ⟨he, hw.below⟩⟩
  have H2 : Aside0 (∀ W, Calls Tryd.prog 19 #[.string ⟨#[45, 48, 46, 53]⟩] W fun e w' => e = .returned (.tuple #[.int .i64 (-2147483648), .int .i64 0]) ∧ Below W.heap.size W w') := ⟨fun W => by
    have := parse_calls ⟨#[45, 48, 46, 53]⟩ W (by decide)
    rw [show By ⟨#[45, 48, 46, 53]⟩ = [45, 48, 46, 53] from rfl, parse_half] at this
    exact this⟩
  have H3 : Aside0 (∀ W, Calls Tryd.prog 17 #[.string ⟨#[102, 102, 102, 48, 48, 48, 48, 48, 48, 48, 48, 48, 48, 48, 48, 48]⟩] W fun e w' => e = .returned (.tuple #[.int .i64 (-9223372036854775808), .int .i64 0]) ∧ Below W.heap.size W w') := ⟨fun W => by
    have := bits_calls ⟨#[102, 102, 102, 48, 48, 48, 48, 48, 48, 48, 48, 48, 48, 48, 48, 48]⟩ W (by decide)
    rw [show (⟨#[102, 102, 102, 48, 48, 48, 48, 48, 48, 48, 48, 48, 48, 48, 48, 48]⟩ : ByteArray).data.toList = [102, 102, 102, 48, 48, 48, 48, 48, 48, 48, 48, 48, 48, 48, 48, 48] from rfl, bits_inf] at this
    exact this.mono fun _ _ ⟨he, hw⟩ => ⟨he, hw.below⟩⟩
  have HT := Aside0.mk ht
  clear ht
  go_enter Tryd.func12, Tryd.ntmps12
  go_upto_region 4 with (first | (go_at_call 14; refine (H1.out _).mono ?_; rintro e W1 ⟨rfl, hb1⟩) | (go_at_call 19; refine (H2.out _).mono ?_; rintro e W2 ⟨rfl, hb2⟩) | (go_at_call 17; refine (H3.out _).mono ?_; rintro e W3 ⟨rfl, hb3⟩))
  have HB : Aside0 (Below w.heap.size w W3) := ⟨(hb1.trans (hb2.mono hb1.size)).trans (hb3.mono (hb1.trans (hb2.mono hb1.size)).size)⟩
  clear hb1 hb2 hb3 H1 H2 H3
  have HS : Aside0 (∀ k : Ext W3, Calls Tryd.prog 21 #[.int .i64 1] k.val fun e w' => e = .returned (.string ⟨#[48, 46, 48, 48, 48, 48, 48, 48, 48, 48, 48, 50, 51, 50, 56, 51, 48, 54, 52, 51, 54, 53, 51, 56, 54, 57, 54, 50, 56, 57, 48, 54, 50, 53]⟩) ∧ Below k.val.heap.size k.val w') := ⟨fun k => by
    have := show_calls 1 (by decide) (by decide) k.val ((HT.out.below HB.out).below k.below)
    rw [show_one] at this
    exact this⟩
  go_wp2_with (first | (go_at_call 16; refine (num_calls0 _ _).mono ?_; rintro e w' ⟨rfl, rfl⟩) | (go_at_call 21; refine (HS.out ⟨_, Below.refl _ _⟩).mono ?_; rintro e W4 ⟨rfl, hb4⟩))
  have hW4 : Below w.heap.size w W4 := HB.out.trans (hb4.mono HB.out.size)
  go_ret
  exact ⟨rfl, hW4⟩
end Go.Proofs.YtlifbogjjikhdaaDoor.Fl
end
section
namespace Go.Proofs.YtlifbogjjikhdaaDoor.Fl
open Go.RowKit Go.Proofs.YtlifbogjjikhdaaDoorW.PrintWords Go.Proofs.YtlifbogjjikhdaaDoorW.PrintLast Go.Proofs.YtlifbogjjikhdaaDoorW.PrintMore
set_option linter.unusedVariables false
open Go.Proofs.YtlifbogjjikhdaaDoor.FL
theorem isD_dig (d : Nat) (h : d < 10) : isD (48 + d).toUInt8 = true := by
  have key : ∀ k : Fin 10, isD (48 + k.val).toUInt8 = true := by decide +kernel
  exact key ⟨d, h⟩
theorem toNat_dig (d : Nat) (h : d < 10) : ((48 + d).toUInt8).toNat - 48 = d := by
  have key : ∀ k : Fin 10, ((48 + k.val).toUInt8).toNat - 48 = k.val := by decide +kernel
  exact key ⟨d, h⟩
theorem dig_ne (d : Nat) (h : d < 10) : (48 + d).toUInt8 ≠ 105 ∧ (48 + d).toUInt8 ≠ 110 ∧ (48 + d).toUInt8 ≠ 45 ∧ (48 + d).toUInt8 ≠ 43 := by
  have key : ∀ k : Fin 10, (48 + k.val).toUInt8 ≠ 105 ∧ (48 + k.val).toUInt8 ≠ 110 ∧ (48 + k.val).toUInt8 ≠ 45 ∧ (48 + k.val).toUInt8 ≠ 43 := by decide +kernel
  exact key ⟨d, h⟩
theorem vals_asc {r : List Nat} (h : dgt r) : vals (asc r) = r := by
  unfold vals asc
  rw [List.map_map]
  conv => rhs; rw [← List.map_id r]
  exact List.map_congr_left fun d hd => toNat_dig d (h d hd)
theorem asc_len (r : List Nat) : (asc r).length = r.length := by unfold asc; rw [List.length_map]
theorem dlen_asc {r : List Nat} (h : dgt r) (x : List UInt8) (hx : dlen x = 0) : dlen (asc r ++ x) = r.length := by
  induction r with
  | nil => exact hx
  | cons d r ih =>
    show dlen ((48 + d).toUInt8 :: (asc r ++ x)) = r.length + 1
    rw [dlen_pos (isD_dig d (h d (List.mem_cons_self ..))), ih (fun y hy => h y (List.mem_cons_of_mem _ hy))]
theorem dlen_asc0 {r : List Nat} (h : dgt r) : dlen (asc r) = r.length := by
  have := dlen_asc h [] rfl
  rwa [List.append_nil] at this
theorem dlen_dot (x : List UInt8) : dlen (46 :: x) = 0 := dlen_neg (by decide)
theorem asc_head {r : List Nat} (h : dgt r) (h0 : 0 < r.length) (x : List UInt8) : ∃ c l, asc r ++ x = c :: l ∧ c ≠ 105 ∧ c ≠ 110 ∧ c ≠ 45 ∧ c ≠ 43 := by
  cases r with
  | nil => exact absurd h0 (by decide)
  | cons d r => exact ⟨_, _, rfl, dig_ne d (h d (List.mem_cons_self ..))⟩
theorem asc_inf {r : List Nat} (h : dgt r) (h0 : 0 < r.length) (x : List UInt8) : asc r ++ x ≠ [105, 110, 102] := by
  obtain ⟨c, l, e, h1, _⟩ := asc_head h h0 x
  rw [e]
  exact fun z => h1 (List.cons.inj z).1
theorem parseT_one (neg : Bool) {r : List Nat} (h : dgt r) (h0 : 0 < r.length) (h1 : r.length ≤ 30) : parseT neg (asc r) = (numS neg r [], 0) := by
  have hi := asc_inf h h0 []
  rw [List.append_nil] at hi
  unfold parseT
  rw [if_neg hi, dlen_asc0 h, if_neg (by omega), List.drop_of_length_le (by rw [asc_len]; exact Nat.le_refl _), List.take_of_length_le (by rw [asc_len]; exact Nat.le_refl _), vals_asc h]
theorem parseT_dot (neg : Bool) {r m : List Nat} (h : dgt r) (h0 : 0 < r.length) (h1 : r.length ≤ 30) (hm : dgt m) : parseT neg (asc r ++ 46 :: asc m) = if m.length = 0 ∨ 30 < m.length then (0, 4) else (numS neg r m, 0) := by
  unfold parseT
  rw [if_neg (asc_inf h h0 _), dlen_asc h _ (dlen_dot _), if_neg (by omega)]
  have e1 : (asc r ++ 46 :: asc m).drop r.length = 46 :: asc m := by rw [← asc_len r]; exact List.drop_left
  have e2 : (asc r ++ 46 :: asc m).take r.length = asc r := by rw [← asc_len r]; exact List.take_left
  rw [e1, e2, vals_asc h]
  show (if (46 : UInt8) = 46 then _ else _) = _
  rw [if_pos rfl, dlen_asc0 hm, asc_len, vals_asc hm]
  by_cases c : m.length = 0 ∨ 30 < m.length
  · rw [if_pos c, if_pos (by omega)]
  · rw [if_neg c, if_neg (by omega)]
theorem parseS_dig {r : List Nat} (h : dgt r) (h0 : 0 < r.length) (x : List UInt8) : parseS (asc r ++ x) = parseT false (asc r ++ x) := by
  obtain ⟨c, l, e, h1, h2, h3, h4⟩ := asc_head h h0 x
  rw [e]
  unfold parseS
  rw [if_neg (fun z => h2 (List.cons.inj z).1)]
  split
  · rename_i t h; exact absurd (List.cons.inj h).1 h3
  · rename_i t h; exact absurd (List.cons.inj h).1 h4
  · rfl
theorem parseS_minus (x : List UInt8) : parseS (45 :: x) = parseT true x := by
  unfold parseS
  rw [if_neg (fun z => absurd (List.cons.inj z).1 (by decide))]
  rfl
theorem parseS_sign (neg : Bool) {r : List Nat} (h : dgt r) (h0 : 0 < r.length) (x : List UInt8) : parseS ((if neg then [45] else []) ++ (asc r ++ x)) = parseT neg (asc r ++ x) := by
  cases neg
  · exact parseS_dig h h0 x
  · exact parseS_minus _
theorem parse_show (x : Int) (h0 : -9223372036854775808 ≤ x) (h1 : x ≤ 9223372036854775807) : (parseS (By (showT x)) = (x, 0)) ∨ (x % 4 ≠ 0 ∧ parseS (By (showT x)) = (0, 4)) := by
  have e0 : By (showT x) = (if decide (x < 0) = true then [45] else []) ++ (asc (dec (x.natAbs / 4294967296)) ++ showF 32 (x.natAbs % 4294967296)) := by
    unfold By showT showZ showM
    rw [decD_eq]
  rw [e0]
  have hq : x.natAbs / 4294967296 < 10 ^ 10 := by omega
  have hf : x.natAbs % 4294967296 < 4294967296 := Nat.mod_lt _ (by decide)
  have hl := dec_len 9 _ hq
  have hp := dec_pos (x.natAbs / 4294967296)
  have hd := dec_dgt (x.natAbs / 4294967296)
  have hv := dec_val (x.natAbs / 4294967296)
  rw [parseS_sign _ hd hp]
  unfold showF
  by_cases c : x.natAbs % 4294967296 = 0
  · left
    rw [if_pos c, List.append_nil, parseT_one _ hd hp (by omega), num_show x h0 h1 _ _ hv (by rw [c]; rfl)]
  · have hfd := fd_dgt 32 _ hf
    have hfp : 0 < (fd 32 (x.natAbs % 4294967296)).length := fd_pos c
    have hfv := fd_val 32 _ hf (fd_32 _)
    rw [if_neg c, parseT_dot _ hd hp (by omega) hfd]
    by_cases c2 : 30 < (fd 32 (x.natAbs % 4294967296)).length
    · right
      refine ⟨fun z => ?_, by rw [if_pos (Or.inr c2)]⟩
      have h4 : x.natAbs % 4294967296 % 4 = 0 := by omega
      have := fd_len 32 30 _ hf (fd_30 _ h4)
      omega
    · left
      rw [if_neg (by omega), num_show x h0 h1 _ _ hv hfv]
end Go.Proofs.YtlifbogjjikhdaaDoor.Fl
end
section
namespace Go.Proofs.YtlifbogjjikhdaaDoor.Fl
open Go.RowKit Go.Proofs.YtlifbogjjikhdaaDoorW.PrintWords Go.Proofs.YtlifbogjjikhdaaDoorW.PrintLast Go.Proofs.YtlifbogjjikhdaaDoorW.PrintMore
set_option linter.unusedVariables false
open Go.Proofs.YtlifbogjjikhdaaDoor.FL
def decB (u : Nat) : ByteArray := ⟨(Lib.decDigits u).toArray⟩
theorem digit_cut (d : Nat) (h : d < 10) : (⟨#[48, 49, 50, 51, 52, 53, 54, 55, 56, 57]⟩ : ByteArray).extract d (d + 1) = ⟨#[UInt8.ofNat (48 + d)]⟩ := by
  have key : ∀ k : Fin 10, (⟨#[48, 49, 50, 51, 52, 53, 54, 55, 56, 57]⟩ : ByteArray).extract k.val (k.val + 1) = ⟨#[UInt8.ofNat (48 + k.val)]⟩ := by decide +kernel
  exact key ⟨d, h⟩
theorem decB_size {u : Nat} (h : u < 18446744073709551616) : (decB u).size ≤ 20 := by
  show (Lib.decDigits u).length ≤ 20
  rw [decD_eq]
  unfold asc
  rw [List.length_map]
  exact dec_len 19 u (Nat.lt_of_lt_of_le h (by decide))
theorem rdec_ev : ∀ u : Nat, u < 18446744073709551616 → ∃ K, ∀ k, K ≤ k → lysimeterref1_decimal.f k (u : Int) = some (decB u) := by
  intro u
  induction u using Nat.strongRecOn with
  | _ u ih =>
    intro hu
    have e1 : Int.tmod (u : Int) 10 = ((u % 10 : Nat) : Int) := by rw [Int.tmod_eq_emod_of_nonneg (by omega)]; omega
    have e2 : IntKind.u64.wrap (((u % 10 : Nat) : Int) + 1) = ((u % 10 + 1 : Nat) : Int) := by rw [IntKind.wrap_u64]; omega
    have e3 : IntKind.u64.wrap (Int.tdiv (u : Int) 10) = ((u / 10 : Nat) : Int) := by rw [Int.tdiv_eq_ediv_of_nonneg (by omega), IntKind.wrap_u64]; omega
    have hd : u % 10 < 10 := Nat.mod_lt _ (by decide)
    have step : ∀ k, lysimeterref1_decimal.f (k + 1) (u : Int) = if (u : Int) > 9 then ((lysimeterref1_decimal.f k ((u / 10 : Nat) : Int)).bind fun t => if t.size + 1 ≤ 9223372036854775807 then some (t ++ ⟨#[UInt8.ofNat (48 + u % 10)]⟩) else none) else some ⟨#[UInt8.ofNat (48 + u % 10)]⟩ := by
      intro k
      simp only [lysimeterref1_decimal.f]
      rw [e1, e2, if_pos (by omega), if_pos (by omega), if_pos (by omega), e3, Int.toNat_natCast, Int.toNat_natCast, digit_cut _ hd]
      rfl
    by_cases h : u < 10
    · refine ⟨1, fun k hk => ?_⟩
      obtain ⟨k, rfl⟩ : ∃ k', k = k' + 1 := ⟨k - 1, by omega⟩
      rw [step, if_neg (by omega)]
      unfold decB
      rw [Lib.decDigits_one h, Nat.mod_eq_of_lt h]
    · obtain ⟨K, hK⟩ := ih (u / 10) (by omega) (by omega)
      refine ⟨K + 1, fun k hk => ?_⟩
      obtain ⟨k, rfl⟩ : ∃ k', k = k' + 1 := ⟨k - 1, by omega⟩
      have hs := decB_size (u := u / 10) (by omega)
      rw [step, if_pos (by omega), hK k (by omega), Option.bind_some, if_pos (by omega)]
      unfold decB
      rw [Lib.decDigits.eq_def u, dif_neg h]
      refine congrArg some (ByteArray.ext ?_)
      simp
theorem size_eq (x : Int) (h0 : -9223372036854775808 ≤ x) (h1 : x ≤ 9223372036854775807) : lysimeterref1_size.f x = some ((x.natAbs : Nat) : Int) := by
  unfold lysimeterref1_size.f
  by_cases c : x < 0
  · rw [if_pos c, wrap64_id (n := x + 1) (by omega) (by omega), wrap64_id (n := -(x + 1)) (by omega) (by omega)]
    rw [IntKind.wrap_u64, IntKind.wrap_u64]
    refine congrArg some ?_
    omega
  · rw [if_neg c, IntKind.wrap_u64]
    refine congrArg some ?_
    omega
theorem decB_by (u : Nat) : By (decB u) = asc (dec u) := by
  show Lib.decDigits u = _
  exact decD_eq u
theorem ba_ext {a b : ByteArray} (h : By a = By b) : a = b := by
  apply ByteArray.ext
  exact Array.toList_inj.mp h
theorem by_append (a b : ByteArray) : By (a ++ b) = By a ++ By b := by
  unfold By
  simp
theorem show_l0 (x : Int) : ∀ (k f : Nat) (pre : ByteArray), f < 4294967296 → 4294967296 ∣ f * 10 ^ k → pre.size + k ≤ 1000 →
    Ev (fun n => lysimeterref1_Show.l0 n x pre (f : Int)) ⟨((if decide (x < 0) = true then [45] else []) ++ (By pre ++ asc (fd k f))).toArray⟩ := by
  have fin : ∀ (pre : ByteArray), pre.size ≤ 1000 → Ev (fun n => lysimeterref1_Show.l0 n x pre ((0 : Nat) : Int)) ⟨((if decide (x < 0) = true then [45] else []) ++ (By pre ++ [])).toArray⟩ := by
    intro pre hp
    refine Ev.step (f := fun _ => some ⟨((if decide (x < 0) = true then [45] else []) ++ (By pre ++ [])).toArray⟩) (fun k => ?_) (Ev.now _)
    simp only [lysimeterref1_Show.l0]
    rw [if_pos (show ((0 : Nat) : Int) = 0 from rfl), List.append_nil]
    by_cases c : x < 0
    · rw [if_pos c, if_pos (by omega), if_pos (decide_eq_true c)]
      refine congrArg some (ba_ext ?_)
      rw [by_append]
    · rw [if_neg c, if_neg (by simpa using c)]
      refine congrArg some (ba_ext ?_)
      simp
  intro k
  induction k with
  | zero =>
    intro f pre hf hd hp
    rw [Nat.pow_zero, Nat.mul_one] at hd
    obtain rfl : f = 0 := Nat.eq_zero_of_dvd_of_lt hd hf
    exact fin pre (by omega)
  | succ k ih =>
    intro f pre hf hd hp
    by_cases h0 : f = 0
    · subst h0
      rw [show fd (k + 1) 0 = [] from rfl]
      exact fin pre (by omega)
    · have e1 : IntKind.u64.wrap ((f : Int) * 10) = ((10 * f : Nat) : Int) := by rw [IntKind.wrap_u64]; omega
      have e2 : ((10 * f : Nat) : Int) / 4294967296 = ((10 * f / 4294967296 : Nat) : Int) := by omega
      have hg : 10 * f / 4294967296 < 10 := by omega
      have hsz : (decB (10 * f / 4294967296)).size = 1 := by
        rw [← size_by, decB_by, dec_eq, if_pos hg]; rfl
      have IH := ih (10 * f % 4294967296) (pre ++ decB (10 * f / 4294967296)) (Nat.mod_lt _ (by decide)) (dvd_step hd) (by rw [ByteArray.size_append, hsz]; omega)
      refine Ev.step (fun n => ?_) (Ev.bind (rdec_ev (10 * f / 4294967296) (by omega)) (f := fun n t => if pre.size + t.size ≤ 9223372036854775807 then lysimeterref1_Show.l0 n x (pre ++ t) ((10 * f % 4294967296 : Nat) : Int) else none) ?_)
      · simp only [lysimeterref1_Show.l0]
        rw [if_neg (by omega), e1, e2, and_low _ (by omega)]
      · refine Ev.congr (fun n => if_pos (by omega)) ?_
        have ef : fd (k + 1) f = 10 * f / 4294967296 :: fd k (10 * f % 4294967296) := by
          show (if f = 0 then [] else _) = _
          rw [if_neg h0]
        have ea : By pre ++ asc (fd (k + 1) f) = By (pre ++ decB (10 * f / 4294967296)) ++ asc (fd k (10 * f % 4294967296)) := by
          rw [ef, by_append, decB_by, dec_eq, if_pos hg]
          simp [asc]
        rw [ea]
        exact IH
theorem rshow_ev (x : Int) (h0 : -9223372036854775808 ≤ x) (h1 : x ≤ 9223372036854775807) : Ev (fun n => lysimeterref1_Show.f n x) (showT x) := by
  have hq : x.natAbs / 4294967296 < 4294967296 := by omega
  have hf : x.natAbs % 4294967296 < 4294967296 := Nat.mod_lt _ (by decide)
  have e1 : ((x.natAbs : Nat) : Int) / 4294967296 = ((x.natAbs / 4294967296 : Nat) : Int) := by omega
  have hsz := decB_size (u := x.natAbs / 4294967296) (by omega)
  have es : showT x = ⟨((if decide (x < 0) = true then [45] else []) ++ (asc (dec (x.natAbs / 4294967296)) ++ showF 32 (x.natAbs % 4294967296))).toArray⟩ := by
    unfold showT showZ showM
    rw [decD_eq]
  rw [es]
  refine Ev.congr (f := fun n => (lysimeterref1_decimal.f n ((x.natAbs / 4294967296 : Nat) : Int)).bind fun t => if ((x.natAbs % 4294967296 : Nat) : Int) = 0 then (if x < 0 then (if 1 + t.size ≤ 9223372036854775807 then (some ((⟨#[45]⟩ : ByteArray) ++ t)) else (none)) else (some t)) else (if t.size + 1 ≤ 9223372036854775807 then (lysimeterref1_Show.l0 n x (t ++ (⟨#[46]⟩ : ByteArray)) ((x.natAbs % 4294967296 : Nat) : Int)) else (none))) (fun n => ?_) ?_
  · unfold lysimeterref1_Show.f
    rw [size_eq x h0 h1, Option.bind_some, e1, and_low _ (by omega)]
  · refine Ev.bind (rdec_ev _ (by omega)) (f := fun n t => if ((x.natAbs % 4294967296 : Nat) : Int) = 0 then (if x < 0 then (if 1 + t.size ≤ 9223372036854775807 then (some ((⟨#[45]⟩ : ByteArray) ++ t)) else (none)) else (some t)) else (if t.size + 1 ≤ 9223372036854775807 then (lysimeterref1_Show.l0 n x (t ++ (⟨#[46]⟩ : ByteArray)) ((x.natAbs % 4294967296 : Nat) : Int)) else (none))) ?_
    unfold showF
    by_cases c : x.natAbs % 4294967296 = 0
    · rw [if_pos c]
      refine Ev.congr (f := fun _ => some _) (fun n => ?_) (Ev.now _)
      rw [if_pos (by omega)]
      by_cases c2 : x < 0
      · rw [if_pos c2, if_pos (by omega), if_pos (decide_eq_true c2)]
        refine congrArg some (ba_ext ?_)
        rw [by_append, decB_by, List.append_nil]
      · rw [if_neg c2, if_neg (by simpa using c2)]
        refine congrArg some (ba_ext ?_)
        rw [decB_by]
        simp
    · rw [if_neg c]
      refine Ev.congr (fun n => by rw [if_neg (by omega), if_pos (by omega)]) ?_
      have := show_l0 x 32 (x.natAbs % 4294967296) (decB (x.natAbs / 4294967296) ++ (⟨#[46]⟩ : ByteArray)) hf (fd_32 _) (by rw [ByteArray.size_append]; show (decB (x.natAbs / 4294967296)).size + 1 + 32 ≤ 1000; omega)
      rw [by_append, decB_by] at this
      have ea : asc (dec (x.natAbs / 4294967296)) ++ By (⟨#[46]⟩ : ByteArray) ++ asc (fd 32 (x.natAbs % 4294967296)) = asc (dec (x.natAbs / 4294967296)) ++ 46 :: asc (fd 32 (x.natAbs % 4294967296)) := by rw [List.append_assoc]; rfl
      rw [ea] at this
      exact this
theorem rshow_calls (x : Int) (h0 : -9223372036854775808 ≤ x) (h1 : x ≤ 9223372036854775807) (w : World) : Calls Tryd.prog 22 #[.int .i64 x] w fun e w' => e = .returned (.string (showT x)) ∧ Drawn0 w w' := by
  obtain ⟨k, hk⟩ := (rshow_ev x h0 h1).rounds
  exact lysimeterref1_Show.calls k x _ w hk
end Go.Proofs.YtlifbogjjikhdaaDoor.Fl
end
section
namespace Go.Proofs.YtlifbogjjikhdaaDoor.Fl
open Go.RowKit Go.Proofs.YtlifbogjjikhdaaDoorW.PrintWords Go.Proofs.YtlifbogjjikhdaaDoorW.PrintLast Go.Proofs.YtlifbogjjikhdaaDoorW.PrintMore
set_option linter.unusedVariables false
open Go.Proofs.YtlifbogjjikhdaaDoor.FL
theorem showT_size (x : Int) (h0 : -9223372036854775808 ≤ x) (h1 : x ≤ 9223372036854775807) : (showT x).size ≤ 100 := by
  show (showZ (decide (x < 0)) x.natAbs).length ≤ 100
  unfold showZ showM showF
  have hq : x.natAbs / 4294967296 < 4294967296 := by omega
  have h2 := dec_len20 hq
  have hf : x.natAbs % 4294967296 < 4294967296 := Nat.mod_lt _ (by decide)
  have h3 := fd_len 32 32 _ hf (fd_32 _)
  rw [List.length_append, List.length_append]
  have h4 : (if decide (x < 0) = true then [45] else ([] : List UInt8)).length ≤ 1 := by split <;> simp
  have h5 : (if x.natAbs % 4294967296 = 0 then [] else 46 :: asc (fd 32 (x.natAbs % 4294967296))).length ≤ 33 := by
    split
    · simp
    · rw [List.length_cons, asc_len]; omega
  omega
set_option maxHeartbeats 8000000 in
set_option maxRecDepth 100000 in
theorem lawshow_back (x : Int) (w : World) (h1 : -9223372036854775808 ≤ x) (h2 : x ≤ 9223372036854775807) (ht : Tab w) (hp : parseS (By (showT x)) = (x, 0)) : Calls Tryd.prog 7 #[.int .i64 x] w fun e w' => e = .returned (.bool true) ∧ Below w.heap.size w w' := by
  obtain ⟨s, hs⟩ : ∃ s, showT x = s := ⟨_, rfl⟩
  have hsz := showT_size x h1 h2
  have HA := Aside0.mk (alive_calls w ht)
  have H21 : Aside0 (∀ W, Below w.heap.size w W → Calls Tryd.prog 21 #[.int .i64 x] W fun e w' => e = .returned (.string s) ∧ Below W.heap.size W w') := ⟨fun W hb => by rw [← hs]; exact show_calls x h1 h2 W (ht.below hb)⟩
  have H22 : Aside0 (∀ W, Calls Tryd.prog 22 #[.int .i64 x] W fun e w' => e = .returned (.string s) ∧ Drawn0 W w') := ⟨fun W => by rw [← hs]; exact rshow_calls x h1 h2 W⟩
  have H19 : Aside0 (∀ W, Calls Tryd.prog 19 #[.string s] W fun e w' => e = .returned (.tuple #[.int .i64 x, .int .i64 0]) ∧ Below W.heap.size W w') := ⟨fun W => by
    have := parse_calls s W (by rw [← hs]; omega)
    rw [← hs, hp] at this
    rw [← hs]
    exact this⟩
  clear ht hp hs hsz
  go_enter Tryd.func7, Tryd.ntmps7
  go_upto_region 3 with (first | (go_at_call 12; refine HA.out.mono ?_; rintro e W1 ⟨rfl, hb1⟩) | (go_at_call 21; refine (H21.out _ hb1).mono ?_; rintro e W2 ⟨rfl, hb2⟩))
  have HB : Aside0 (Below w.heap.size w W2) := ⟨hb1.trans (hb2.mono hb1.size)⟩
  clear hb1 hb2
  by_cases c : x.tmod 4 = 0
  · have c1 : (x.tmod 4 == 0) = true := by simpa using c
    clear c
    go_wp2_with (first | (go_at_call 16; refine (num_calls0 _ _).mono ?_; rintro e w' ⟨rfl, rfl⟩) | (go_at_call 22; refine (H22.out _).mono ?_; rintro e w' ⟨rfl, ⟨nd, rfl⟩⟩) | (go_at_call 19; refine (H19.out _).mono ?_; rintro e W3 ⟨rfl, hb3⟩))
    go_ret
    exact ⟨rfl, (pw_below_drewN HB.out _).trans (hb3.mono (pw_below_drewN HB.out _).size)⟩
  · have c1 : (x.tmod 4 == 0) = false := by simpa using c
    clear c
    go_wp2_with (first | (go_at_call 16; refine (num_calls0 _ _).mono ?_; rintro e w' ⟨rfl, rfl⟩) | (go_at_call 22; refine (H22.out _).mono ?_; rintro e w' ⟨rfl, ⟨nd, rfl⟩⟩) | (go_at_call 19; refine (H19.out _).mono ?_; rintro e W3 ⟨rfl, hb3⟩))
    go_ret
    exact ⟨rfl, (pw_below_drewN HB.out _).trans (hb3.mono (pw_below_drewN HB.out _).size)⟩
set_option maxHeartbeats 8000000 in
set_option maxRecDepth 100000 in
theorem lawshow_many (x : Int) (w : World) (h1 : -9223372036854775808 ≤ x) (h2 : x ≤ 9223372036854775807) (ht : Tab w) (hm : ¬ x.tmod 4 = 0) (hp : parseS (By (showT x)) = (0, 4)) : Calls Tryd.prog 7 #[.int .i64 x] w fun e w' => e = .returned (.bool true) ∧ Below w.heap.size w w' := by
  obtain ⟨s, hs⟩ : ∃ s, showT x = s := ⟨_, rfl⟩
  have hsz := showT_size x h1 h2
  have HA := Aside0.mk (alive_calls w ht)
  have H21 : Aside0 (∀ W, Below w.heap.size w W → Calls Tryd.prog 21 #[.int .i64 x] W fun e w' => e = .returned (.string s) ∧ Below W.heap.size W w') := ⟨fun W hb => by rw [← hs]; exact show_calls x h1 h2 W (ht.below hb)⟩
  have H22 : Aside0 (∀ W, Calls Tryd.prog 22 #[.int .i64 x] W fun e w' => e = .returned (.string s) ∧ Drawn0 W w') := ⟨fun W => by rw [← hs]; exact rshow_calls x h1 h2 W⟩
  have H19 : Aside0 (∀ W, Calls Tryd.prog 19 #[.string s] W fun e w' => e = .returned (.tuple #[.int .i64 0, .int .i64 4]) ∧ Below W.heap.size W w') := ⟨fun W => by
    have := parse_calls s W (by rw [← hs]; omega)
    rw [← hs, hp] at this
    rw [← hs]
    exact this⟩
  clear ht hp hs hsz
  go_enter Tryd.func7, Tryd.ntmps7
  go_upto_region 3 with (first | (go_at_call 12; refine HA.out.mono ?_; rintro e W1 ⟨rfl, hb1⟩) | (go_at_call 21; refine (H21.out _ hb1).mono ?_; rintro e W2 ⟨rfl, hb2⟩))
  have HB : Aside0 (Below w.heap.size w W2) := ⟨hb1.trans (hb2.mono hb1.size)⟩
  clear hb1 hb2
  have c1 : (x.tmod 4 == 0) = false := by simpa using hm
  clear hm
  go_wp2_with (first | (go_at_call 16; refine (num_calls0 _ _).mono ?_; rintro e w' ⟨rfl, rfl⟩) | (go_at_call 22; refine (H22.out _).mono ?_; rintro e w' ⟨rfl, ⟨nd, rfl⟩⟩) | (go_at_call 19; refine (H19.out _).mono ?_; rintro e W3 ⟨rfl, hb3⟩))
  go_ret
  exact ⟨rfl, (pw_below_drewN HB.out _).trans (hb3.mono (pw_below_drewN HB.out _).size)⟩
theorem lawshow_calls (x : Int) (w : World) (h1 : -9223372036854775808 ≤ x) (h2 : x ≤ 9223372036854775807) (ht : Tab w) : Calls Tryd.prog 7 #[.int .i64 x] w fun e w' => e = .returned (.bool true) ∧ Below w.heap.size w w' := by
  rcases parse_show x h1 h2 with h | ⟨hm, h⟩
  · exact lawshow_back x w h1 h2 ht h
  · exact lawshow_many x w h1 h2 ht (fun z => hm (Int.emod_eq_zero_of_dvd (Int.dvd_of_tmod_eq_zero z))) h
end Go.Proofs.YtlifbogjjikhdaaDoor.Fl
end
section
namespace Go.Proofs.YtlifbogjjikhdaaDoor.floatsShow
open Go.ChangeShapes Go.WideShapes Go.ChangeAt Go.RowKit
open Go.ChangeMaps (open_string shut_string)
open Go.Proofs.YtlifbogjjikhdaaDoor.Fl
set_option linter.unusedVariables false
set_option maxRecDepth 100000 in
theorem lifted (os : Os) (started : os.Started) (H : Type) (enc : TypeId × Value → H) :
    ReturnsInHanded {} Tryd.checked os 7 .any (fun w args => (Rows.floatsShowSpec.pre enc Tryd.prog Tryd.f7 [] false w args ∧ laidMetH Tryd.prog laidL w) ∧ sizedMet enc Tryd.prog Tryd.f7 (OpenSpec.ofChange Rows.floatsShowSpec) false w args)
      (Rows.floatsShowSpec.post enc Tryd.prog Tryd.f7 false true false false) := by
  refine returnsInHanded_of_change_and (C := Tryd.checked) (X := fun w _ => laidMetH Tryd.prog laidL w) (fun _ _ _ hh h => h.of_heap hh) own started (by kernel_rfl) Tryd.func7
    (ChangeSpec.witness_shaped (enc := enc) (C := Tryd.checked) (os := os) (X := fun w _ => laidMetH Tryd.prog laidL w) false (World.doorLaid Tryd.prog 24 os) #[.int .i64 0] 8 rfl (World.shaped_of_RefB (by kernel_rfl) (by kernel_rfl)) (by kernel_rfl) (by kernel_rfl) (by kernel_rfl) (door_met os _)) ?_
  intro W base args ds gs before hval0 hW _ hsz0 hL _
  have ht := tab_of hL
  have hval : ∀ (j : Nat) t v, Tryd.f7.params[j]? = some t → args[j]? = some v → Value.okWide Tryd.prog W .any base t v := hval0
  have hsz : (DataW.weightsEach Tryd.prog (Tryd.f7.params.toList ++ Rows.floatsShowSpec.plain.varTypes Tryd.prog) (ds ++ gs)).all (· ≤ reachBytes) = true := hsz0
  have hW' := hW
  obtain ⟨p, q, hA0, hV, rfl, hfz, hnd⟩ := hW
  have hA : DataW.TrodAll enc Tryd.prog W 0 (fun _ => true) true Tryd.f7.params.toList args.toList ds p := hA0
  rw [Tryd.params7] at hA hval hsz
  obtain ⟨v0, vs0, d0, ds0, p0, q0, hargs, rfl, rfl, h0, r0⟩ := trodAll_cons hA
  obtain ⟨rfl, rfl, rfl⟩ := trodAll_nil r0
  obtain rfl : args = #[v0] := by cases args; simp_all
  obtain ⟨rfl, rfl⟩ := trodVars_none hV
  obtain ⟨a0, rfl, rfl, rfl, w0⟩ := open_int Tryd.underlying3 (hval 0 3 v0 rfl rfl) h0
  have b0 : -9223372036854775808 ≤ a0 ∧ a0 ≤ 9223372036854775807 := int_in w0
  clear hA0 hval0 hsz0 hL
  refine (lawshow_calls a0 W b0.1 b0.2 ht).mono fun e W' ⟨he, bel⟩ => ?_
  subst he
  exact ⟨_, rfl, _, _, _, [], _, [], hW', trodAll_mk1 (shut_bool Tryd.underlying4 _), (trodAll_cons_mk (shut_int Tryd.underlying3 w0) trodAll_mk0), rfl, bel.frame _, fun h => by cases h⟩
theorem over : Rows.floatsShowRow.holds Tryd.pinned (OpenSpec.ofChange Rows.floatsShowSpec) :=
  OpenClaim.holds_of_wide 7 Tryd.f7 rfl rfl rfl rfl rfl rfl rfl ⟨rfl, rfl, rfl, rfl, rfl⟩ rfl rfl rfl rfl rfl (by kernel_rfl) Tryd.func7 (by kernel_rfl)
    (of_decide_eq_true (by kernel_rfl)) (by unfold Func.isWrapper; first | (rw [if_pos (by decide +kernel)]; kernel_rfl) | (rw [if_neg (by decide +kernel)]; exact ⟨rfl, rfl⟩))
    (fun os started H enc _ => lifted os started H enc)
theorem card_holds : Claim7.holds Tryd.pinned (.plain (OpenSpec.ofChange Rows.floatsShowSpec)) Rows.floatsShowCard :=
  Claim7.holds_tied_plain_at .later [] [.data, .data, .data] true (true, "d6d8c83535152071f5c39a6202c6aa14b76c6ab3078df765f5b24e7134d1c620") false
    over (fun _ h => by cases h) (by kernel_rfl) (fun _ h => by cases h) floatsShow_row_tie rfl ⟨rfl, rfl⟩ (by kernel_rfl) rfl
    (fun f fn hf hfn => by
      obtain rfl : f = 7 := Option.some.inj ((show Tryd.prog.funcNamed "lysimeter/lysimeterlaw2.FloatsShow" = some 7 by kernel_rfl).symm.trans hf) |>.symm
      obtain rfl : fn = Tryd.f7 := (Option.some.inj (Tryd.func7.symm.trans hfn)).symm
      exact ⟨by kernel_rfl, fun j t ht => by
        rw [Tryd.params7] at ht
        have hm : t ∈ [3] := by simpa using Array.mem_of_getElem? ht
        have hall : ([3].all fun u => !Tryd.prog.wantsStandIn u) = true := by kernel_rfl
        exact (show Tryd.prog.wantsStandIn t = false by simpa using List.all_eq_true.1 hall t hm)⟩)
    (by kernel_rfl)
theorem proved : Rows.FloatsShowCardSaid := card_holds
#print axioms proved
end Go.Proofs.YtlifbogjjikhdaaDoor.floatsShow
namespace Go.Proofs.YtlifbogjjikhdaaDoor
theorem floatsShow_card : Rows.FloatsShowCardSaid := floatsShow.proved
end Go.Proofs.YtlifbogjjikhdaaDoor
end
