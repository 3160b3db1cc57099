/- Package floats and the reference read every text alike: the same number, or the same reason why it is none. Conditions: none beyond the given card's. -/
-- Laid together by wip/shake.py out of: FlRPars FlLParse LawFloatsParse
import Derived.Test.YtlifbogjjikhdaaDoorFloatsParsem3
import Derived.Laws.MakeOwn
import Derived.Deep.DeepCutAuto
import Derived.Laws.DeepStrings4
import Derived.Test.YtlifbogjjikhdaaDoorTie
import Derived.Test.YtlifbogjjikhdaaDoorCards
import Derived.SevenTiedAt
section
namespace Go.Proofs.YtlifbogjjikhdaaDoor.Fl
open Go.RowKit Go.Proofs.YtlifbogjjikhdaaDoorW.PrintWords Go.Proofs.YtlifbogjjikhdaaDoorW.PrintLast Go.Proofs.YtlifbogjjikhdaaDoorW.PrintMore
set_option linter.unusedVariables false
open Go.Proofs.YtlifbogjjikhdaaDoor.FL
def moreH (hi lo : Int) : Int := if lo = 18446744073709551615 then hi + 1 else hi
def moreL (lo : Int) : Int := if lo = 18446744073709551615 then 0 else lo + 1
theorem more_two (hi lo : Int) (w : World) (h0 : 0 ≤ hi) (h1 : hi ≤ 1000) (l0 : 0 ≤ lo) (l1 : lo < 18446744073709551616) : Calls Tryd.prog 30 #[.agg #[.int .u64 hi, .int .u64 lo]] w fun e w' => e = .returned (.agg #[.int .u64 (moreH hi lo), .int .u64 (moreL lo)]) ∧ Below w.heap.size w w' := by
  refine lysimeterref1_more.calls hi lo _ _ w ?_
  unfold lysimeterref1_more.f moreH moreL
  rw [IntKind.wrap_u64, IntKind.wrap_u64]
  by_cases c : lo = 18446744073709551615
  · rw [if_pos c, if_pos c, if_pos (by omega)]
    congr 2 <;> omega
  · rw [if_neg c, if_neg c, if_neg (by omega)]
    congr 2; omega
theorem more_val {hi lo : Int} (h0 : 0 ≤ hi) (h1 : hi ≤ 1000) (l0 : 0 ≤ lo) (l1 : lo < 18446744073709551616) : 0 ≤ moreH hi lo ∧ moreH hi lo < 18446744073709551616 ∧ 0 ≤ moreL lo ∧ moreL lo < 18446744073709551616 ∧ moreH hi lo * 18446744073709551616 + moreL lo = hi * 18446744073709551616 + lo + 1 := by
  unfold moreH moreL
  split <;> omega
def wideN (l : List UInt8) : Nat := min (vd (vals l)) 1099511627776
theorem wide_snoc (s : ByteArray) (i : Nat) (h : i < s.size) : wideN ((By s).take (i + 1)) = min (10 * wideN ((By s).take i) + (s[i].toNat - 48)) 1099511627776 := by
  have h2 : i < (By s).length := by rw [size_by]; exact h
  have e0 : (By s)[i] = s[i] := rfl
  unfold wideN vals
  rw [List.take_succ_eq_append_getElem h2, List.map_append, List.map_singleton, vd_snoc, e0]
  omega
theorem digit_at {s : ByteArray} (hd : ∀ c ∈ By s, isD c = true) (i : Nat) (h : i < s.size) : 48 ≤ s[i].toNat ∧ s[i].toNat ≤ 57 := by
  have h2 : i < (By s).length := by rw [size_by]; exact h
  have c := hd _ (List.getElem_mem h2)
  have e0 : (By s)[i] = s[i] := rfl
  rw [e0] at c
  unfold isD at c
  rw [Bool.and_eq_true, decide_eq_true_eq, decide_eq_true_eq] at c
  omega
def iv (x : Nat) : Value := .int .i64 (x : Int)
def IRow (w : World) (g : Nat) (l : List Nat) : Prop := w.heap[g]? = some (.cells (l.map iv).toArray 3)
theorem IRow.cell {w : World} {g : Nat} {l : List Nat} (h2 : IRow w g l) (i : Nat) (hi : i < l.length) : w.cell? ⟨g, i, none⟩ = some (.int .i64 ((l.getD i 0 : Nat) : Int)) ∧ w.frozen? ⟨g, i, none⟩ = false := by
  unfold IRow at h2
  refine ⟨?_, ?_⟩
  · simp only [World.cell?, h2]
    rw [List.getElem?_toArray, List.getElem?_map, List.getElem?_eq_getElem hi, List.getD_eq_getElem?_getD, List.getElem?_eq_getElem hi]
    rfl
  · simp [World.frozen?, h2]
theorem IRow.set {w : World} {g : Nat} {l : List Nat} (h2 : IRow w g l) (i : Nat) (v : Nat) : IRow (w.setCell ⟨g, i, none⟩ (.int .i64 (v : Int))) g (l.set i v) := by
  unfold IRow at h2 ⊢
  rw [List.map_set]
  simp [World.setCell, Array.getElem?_modify, h2, iv]
theorem IRow.made (w : World) (n : Nat) : IRow (w.alloc (.cells (madeCells (Value.int .i64 0).cells (n * 1)) 3)) w.heap.size (List.replicate n 0) := by
  unfold IRow
  rw [heap_alloc_new]
  have e : madeCells (Value.int .i64 0).cells (n * 1) = ((List.replicate n 0).map iv).toArray := by
    apply Array.ext'
    rw [show (Value.int .i64 0).cells = #[Value.int .i64 0] from rfl, Nat.mul_one, toList_madeCells_one, List.map_replicate]
    rfl
  rw [e]
theorem fill_get (m : List Nat) (k : Nat) (hk : k < m.length) (v : Nat) (hv : m.getD k 0 = v) : (m.take k ++ List.replicate (m.length - k) 0).set k v = m.take (k + 1) ++ List.replicate (m.length - (k + 1)) 0 := by
  have e : m.length - k = (m.length - (k + 1)) + 1 := by omega
  rw [e, List.replicate_succ, List.set_append_right _ _ (by rw [List.length_take]; omega), List.length_take, Nat.min_eq_left (by omega), Nat.sub_self, List.set_cons_zero, List.take_succ_eq_append_getElem hk, List.append_assoc, ← hv, List.getD_eq_getElem?_getD, List.getElem?_eq_getElem hk]
  rfl
set_option maxRecDepth 100000 in
theorem wide_num (neg : Bool) (r m : List Nat) (hm : dgt m) (W : Nat) (hW : W = min (vd r) 1099511627776) : numS neg r m = cutS (W * 4294967296 + fracN m) (leftN m) neg := by
  have hf := frac_lt hm
  rw [numS_eq]
  by_cases c : vd r ≤ 1099511627776
  · rw [hW, Nat.min_eq_left c]
  · rw [cut_great _ _ _ (by omega), cut_great _ _ _ (by omega)]
theorem cut_two (W f : Nat) (l s : Bool) : cutS (W * 4294967296 + f) l s = clip (sg s (W * 4294967296 + f + if (s && l) = true then 1 else 0)) := by
  unfold cutS sg
  refine congrArg clip ?_
  cases s <;> cases l <;> simp <;> omega
theorem cut_run (s : ByteArray) (i j : Int) (a b : Nat) (hi : i = (a : Int)) (hj : j = (b : Int)) (hab : a ≤ b) (hb : b ≤ s.size) (W : World) : (Instr.slice 9 (Value.string s) (some (.int .i64 i)) (some (.int .i64 j)) none).run Tryd.prog W = .ok (.string (s.extract a b)) W := by
  subst hi hj
  rw [run_slice_string_if _ 9 _ _ _ _ _ Tryd.underlying9, if_pos (by omega), if_pos (by omega), Int.toNat_natCast, Int.toNat_natCast]
theorem or_33 (f W : Nat) (hf : f < 4294967296) : bits .or .u64 (IntKind.u64.wrap ((W : Int) * 4294967296)) (f : Int) = ((W % 4294967296 * 4294967296 + f : Nat) : Int) := by
  have e : IntKind.u64.wrap ((W : Int) * 4294967296) = ((2 ^ 32 * (W % 4294967296) : Nat) : Int) := by rw [IntKind.wrap_u64]; omega
  rw [e, bits_or_u64_nat _ _ (by omega) (by omega), ← Nat.two_pow_add_eq_or_of_lt (i := 32) (by omega)]
  omega
theorem back_num (neg : Bool) (row fr : List Nat) (hm : dgt fr) (W : Nat) (hW : W = min (vd row) 1099511627776) (hi lo : Int) (hv : hi * 18446744073709551616 + lo = ((W * 4294967296 + fracN fr : Nat) : Int)) (x y : Int)
    (hx : x * 18446744073709551616 + y = hi * 18446744073709551616 + lo + (if (neg && leftN fr) = true then 1 else 0)) : backZ neg x y = numS neg row fr := by
  rw [wide_num neg row fr hm W hW, cut_two]
  unfold backZ
  rw [hx, hv]
  congr 2
  split <;> omega
def Told (neg : Bool) (s row : ByteArray) (r : Int × Int) (j : Nat) (fr : ByteArray) : Prop :=
  (j = s.size ∧ (∀ c ∈ By fr, isD c = true) ∧ fr.size ≤ 30 ∧ r = (numS neg (vals (By row)) (vals (By fr)), 0)) ∨ (j ≠ s.size ∧ j ≤ 100000 ∧ r = (0, 4))
def restT (neg : Bool) (row : List UInt8) (l : List UInt8) : Int × Int := match l with
  | [] => (numS neg (vals row) [], 0)
  | c :: m => if c = 46 then (if dlen m = 0 ∨ 30 < dlen m ∨ m.length ≠ dlen m then (0, 4) else (numS neg (vals row) (vals m), 0)) else (0, 4)
theorem restT_dot (neg : Bool) (row m : List UInt8) : restT neg row (46 :: m) = if dlen m = 0 ∨ 30 < dlen m ∨ m.length ≠ dlen m then (0, 4) else (numS neg (vals row) (vals m), 0) := by
  unfold restT
  show (if (46 : UInt8) = 46 then _ else _) = _
  rw [if_pos rfl]
theorem restT_no (neg : Bool) (row m : List UInt8) (c : UInt8) (h : c ≠ 46) : restT neg row (c :: m) = (0, 4) := by
  unfold restT
  show (if c = 46 then _ else _) = _
  rw [if_neg h]
theorem dot_cases (s : ByteArray) (b : Nat) (hb : b ≤ s.size) : ∃ dot : Bool, (dot = false ∧ b = s.size ∧ (By s).drop b = []) ∨ (∃ h : b < s.size, dot = false ∧ ((s[b].toNat : Int) == 46) = false ∧ ∃ c m, (By s).drop b = c :: m ∧ c ≠ 46) ∨ (∃ h : b < s.size, dot = true ∧ ((s[b].toNat : Int) == 46) = true ∧ (By s).drop b = 46 :: (By s).drop (b + 1)) := by
  by_cases h : b < s.size
  · have hg := bytes_get s b h
    by_cases c : s[b] = 46
    · refine ⟨true, .inr (.inr ⟨h, rfl, by rw [c]; rfl, ?_⟩)⟩
      rw [show (By s) = s.data.toList from rfl, hg, c]
    · refine ⟨false, .inr (.inl ⟨h, rfl, ?_, _, _, hg, c⟩)⟩
      rw [beq_eq_false_iff_ne]
      intro z
      exact c (UInt8.toNat_inj.mp (by simpa using (Int.ofNat.inj z)))
  · exact ⟨false, .inl ⟨rfl, by omega, List.drop_of_length_le (by rw [size_by]; omega)⟩⟩
theorem sign_cases (s : ByteArray) (hs : By s ≠ [110, 97, 110]) : ∃ (neg : Bool) (a : Nat), parseS (By s) = parseT neg ((By s).drop a) ∧ a ≤ s.size ∧
    ((a = 0 ∧ neg = false ∧ s.size = 0) ∨ (∃ h : 0 < s.size, a = 0 ∧ neg = false ∧ ((s[0].toNat : Int) == 45) = false ∧ ((s[0].toNat : Int) == 43) = false) ∨
     (∃ h : 0 < s.size, a = 1 ∧ neg = true ∧ ((s[0].toNat : Int) == 45) = true) ∨ (∃ h : 0 < s.size, a = 1 ∧ neg = false ∧ ((s[0].toNat : Int) == 45) = false ∧ ((s[0].toNat : Int) == 43) = true)) := by
  cases hb : By s with
  | nil =>
    have hz : s.size = 0 := by rw [← size_by, hb]; rfl
    exact ⟨false, 0, rfl, Nat.zero_le _, .inl ⟨rfl, rfl, hz⟩⟩
  | cons c l =>
    rw [hb] at hs
    have hz : s.size = l.length + 1 := by rw [← size_by, hb]; rfl
    have h : 0 < s.size := by omega
    have hg := bytes_get s 0 h
    rw [List.drop_zero, show s.data.toList = By s from rfl, hb] at hg
    have hc : s[0] = c := (List.cons.inj hg).1.symm
    have ne : ∀ x : UInt8, c ≠ x → ((s[0].toNat : Int) == (x.toNat : Int)) = false := fun x hx => by
      rw [beq_eq_false_iff_ne, hc]
      intro z
      exact hx (UInt8.toNat_inj.mp (by omega))
    by_cases c1 : c = 45
    · refine ⟨true, 1, ?_, by omega, .inr (.inr (.inl ⟨h, rfl, rfl, by rw [hc, c1]; rfl⟩))⟩
      unfold parseS
      rw [if_neg hs, c1]
      rfl
    · by_cases c2 : c = 43
      · refine ⟨false, 1, ?_, by omega, .inr (.inr (.inr ⟨h, rfl, rfl, ne 45 c1, by rw [hc, c2]; rfl⟩))⟩
        unfold parseS
        rw [if_neg hs, c2]
        rfl
      · refine ⟨false, 0, ?_, by omega, .inr (.inl ⟨h, rfl, rfl, ne 45 c1, ne 43 c2⟩)⟩
        unfold parseS
        rw [if_neg hs]
        split
        · rename_i t h; exact absurd (List.cons.inj h).1 c1
        · rename_i t h; exact absurd (List.cons.inj h).1 c2
        · rfl
set_option maxHeartbeats 8000000 in
set_option maxRecDepth 100000 in
theorem rparse_calls (s : ByteArray) (w : World) (hs : s.size ≤ 1000) : Calls Tryd.prog 20 #[.string s] w fun e w' => e = .returned (.tuple #[.int .i64 (parseS (By s)).1, .int .i64 (parseS (By s)).2]) ∧ Below w.heap.size w w' := by
  obtain ⟨r, hr⟩ : ∃ r, parseS (By s) = r := ⟨_, rfl⟩
  rw [hr]
  by_cases h0 : By s = [110, 97, 110]
  · have d0 : (s.toList == [110, 97, 110]) = true := by rw [ByteArray.toList_eq]; exact beq_iff_eq.mpr h0
    obtain rfl : r = (0, 3) := by rw [← hr]; unfold parseS; rw [if_pos h0]
    clear h0 hr
    go_enter Tryd.func20, Tryd.ntmps20
    go_wp2
    go_ret2
    exact ⟨rfl, Below.refl _ _⟩
  · have d0 : (s.toList == [110, 97, 110]) = false := by rw [ByteArray.toList_eq]; simpa using h0
    obtain ⟨neg, a, hT, ha, hcs⟩ := sign_cases s h0
    rw [hr] at hT
    have HT := Aside0.mk hT.symm
    have HS := Aside0.mk hs
    have HC := Aside0.mk hcs
    clear hr hT hs h0 hcs
    go_enter Tryd.func20, Tryd.ntmps20
    go_upto_region 5 with (fail)
    go_cut [39] (fun s39 wc => s39 = .bool (decide (a = 1)) ∧ wc = w)
    case first => as_aux_lemma =>
      as_aux_lemma =>
        rcases HC.out with ⟨rfl, rfl, hz⟩ | ⟨h, rfl, rfl, e1, e2⟩ | ⟨h, rfl, rfl, e1⟩ | ⟨h, rfl, rfl, e1, e2⟩
        · have z1 : decide ((0 : Int) < (s.size : Int)) = false := decide_eq_false (by omega)
          have z2 : decide (0 < s.size) = false := decide_eq_false (by omega)
          clear hz
          go_wp2
          go_meet
          case rel => exact ⟨rfl, rfl⟩
        · have z1 : decide ((0 : Int) < (s.size : Int)) = true := decide_eq_true (by omega)
          have z2 : decide (0 < s.size) = true := decide_eq_true (by omega)
          go_wp2
          go_meet
          case rel => exact ⟨rfl, rfl⟩
        · have z1 : decide ((0 : Int) < (s.size : Int)) = true := decide_eq_true (by omega)
          have z2 : decide (0 < s.size) = true := decide_eq_true (by omega)
          go_wp2
          go_meet
          case rel => exact ⟨rfl, rfl⟩
        · have z1 : decide ((0 : Int) < (s.size : Int)) = true := decide_eq_true (by omega)
          have z2 : decide (0 < s.size) = true := decide_eq_true (by omega)
          go_wp2
          go_meet
          case rel => exact ⟨rfl, rfl⟩
    case rest => as_aux_lemma =>
      obtain ⟨rfl, rfl⟩ := hcut
      go_upto_if 39 with (fail)
      go_cut [4, 5] (fun s4 s5 wd => s4 = .bool neg ∧ s5 = .int .i64 (a : Int) ∧ wd = wc)
      case first => as_aux_lemma =>
        as_aux_lemma =>
          rcases HC.out with ⟨rfl, rfl, hz⟩ | ⟨h, rfl, rfl, e1, e2⟩ | ⟨h, rfl, rfl, e1⟩ | ⟨h, rfl, rfl, e1, e2⟩
          · go_wp2
            go_meet
            case rel => exact ⟨rfl, rfl, rfl⟩
          · go_wp2
            go_meet
            case rel => exact ⟨rfl, rfl, rfl⟩
          · go_wp2
            go_meet
            case rel => exact ⟨rfl, rfl, rfl⟩
          · go_wp2
            go_meet
            case rel => exact ⟨rfl, rfl, rfl⟩
      case rest => as_aux_lemma =>
        obtain ⟨rfl, rfl, rfl⟩ := hcut
        clear HC
        obtain ⟨t, ht⟩ : ∃ t, s.extract a s.size = t := ⟨_, rfl⟩
        have hbt : By t = (By s).drop a := by rw [← ht, by_rest]
        have htz : t.size = s.size - a := by rw [← size_by, hbt, List.length_drop, size_by]
        rw [← hbt] at HT
        have HTS := Aside0.mk htz
        have ha1 : (a : Int) ≤ (s.size : Int) := by omega
        have HBT := Aside0.mk hbt
        clear hbt htz
        by_cases c1 : By t = [105, 110, 102]
        · have d1 : (t.toList == [105, 110, 102]) = true := by rw [ByteArray.toList_eq]; exact beq_iff_eq.mpr c1
          have hr2 : r = (backZ neg 1 0, 0) := by
            rw [← HT.out]; unfold parseT; rw [if_pos c1, back_great]
            cases neg <;> decide +kernel
          subst hr2
          clear c1
          go_wp2_with (go_at_call 29; (with_reducible refine (back_any _ _ _ _ (by decide) (by decide) (by decide) (by decide)).mono ?_); rintro e w' ⟨rfl, hb⟩; have HB := Aside0.mk hb; clear hb)
          go_ret2
          exact ⟨rfl, HB.out⟩
        · have d1 : (t.toList == [105, 110, 102]) = false := by rw [ByteArray.toList_eq]; simpa using c1
          have HT2 : Aside0 ((if dlen (By t) = 0 ∨ 30 < dlen (By t) then ((0 : Int), (4 : Int))
            else match (By t).drop (dlen (By t)) with
              | [] => (numS neg (vals ((By t).take (dlen (By t)))) [], 0)
              | c :: m => if c = 46 then (if dlen m = 0 ∨ 30 < dlen m ∨ m.length ≠ dlen m then ((0 : Int), (4 : Int)) else (numS neg (vals ((By t).take (dlen (By t)))) (vals m), 0)) else ((0 : Int), (4 : Int))) = r) := ⟨by have := HT.out; unfold parseT at this; rwa [if_neg c1] at this⟩
          clear c1 HT
          obtain ⟨n, hn⟩ : ∃ n, dlen (By t) = n := ⟨_, rfl⟩
          have hnl : n ≤ t.size := by rw [← hn, ← size_by]; exact dlen_le _
          have hnl2 : a + n ≤ s.size := by have := HTS.out; omega
          have HDIG : Aside0 (∀ W, Calls Tryd.prog 37 #[.string s, .int .i64 (a : Int)] W fun e w' => e = .returned (.int .i64 (n : Int)) ∧ Drawn0 W w') := ⟨fun W => by
            have := rdigits_calls s (by have := HS.out; omega) a ha W
            rw [← HBT.out, hn] at this
            exact this⟩
          have HTD : Aside0 (∀ c ∈ (By t).take n, isD c = true) := ⟨by rw [← hn]; exact take_dig _⟩
          rw [hn] at HT2
          clear hn
          go_upto_region 11 with (go_at_call 37; (with_reducible refine (HDIG.out _).mono ?_); rintro e w' ⟨rfl, ⟨nd, rfl⟩⟩)
          by_cases c2 : n = 0 ∨ 30 < n
          · have hr2 : r = (0, 4) := by rw [← HT2.out, if_pos c2]
            subst hr2
            rcases c2 with c2 | c2
            · have z1 : decide ((n : Int) < 1) = true := decide_eq_true (by omega)
              go_wp2
              go_ret2
              exact ⟨rfl, pw_below_drewN (Below.refl _ _) _⟩
            · have z1 : decide ((n : Int) < 1) = false := decide_eq_false (by omega)
              have z2 : decide (30 < (n : Int)) = true := decide_eq_true (by omega)
              go_wp2
              go_ret2
              exact ⟨rfl, pw_below_drewN (Below.refl _ _) _⟩
          · rw [if_neg c2] at HT2
            have z1 : decide ((n : Int) < 1) = false := decide_eq_false (by omega)
            have z2 : decide (30 < (n : Int)) = false := decide_eq_false (by omega)
            have hn0 : 0 < n := by omega
            have hn30 : n ≤ 30 := by omega
            clear c2
            obtain ⟨b, hb⟩ : ∃ b, a + n = b := ⟨_, rfl⟩
            obtain ⟨row, hrow⟩ : ∃ row, s.extract a b = row := ⟨_, rfl⟩
            have hbr : By row = (By t).take n := by rw [← hrow, by_extract, HBT.out, ← hb, Nat.add_sub_cancel_left]
            have hrest : (By t).drop n = (By s).drop b := by rw [HBT.out, List.drop_drop, ← hb]
            have HR2 : Aside0 (restT neg (By row) ((By s).drop b) = r) := ⟨by rw [← hrest, hbr]; exact HT2.out⟩
            rw [← hbr] at HTD
            have HRZ : Aside0 (row.size ≤ 30) := ⟨by rw [← size_by, hbr, List.length_take]; omega⟩
            have eb : (a : Int) + (n : Int) = (b : Int) := by omega
            have hbs : b ≤ s.size := by omega
            have hb4 : (b : Int) ≤ 1000 := by have := HS.out; omega
            have hsl : ∀ W, (Instr.slice 9 (Value.string s) (some (.int .i64 (a : Int))) (some (.int .i64 (b : Int))) none).run Tryd.prog W = .ok (.string row) W := fun W => by rw [← hrow]; exact cut_run s _ _ a b rfl rfl (by omega) hbs W
            obtain ⟨dot, hdot⟩ := dot_cases s b hbs
            have HDOT := Aside0.mk hdot
            have HBB := Aside0.mk (And.intro hb hbs)
            clear hbr hrest HT2 hrow hb hbs hdot ht HBT HTS hnl hnl2 HDIG
            go_upto_region 16 with (fail)
            clear eb hsl
            go_cut [80] (fun s80 we => s80 = .bool dot ∧ we = wc.drewN nd)
            case first => as_aux_lemma =>
              as_aux_lemma =>
                rcases HDOT.out with ⟨rfl, hz, _⟩ | ⟨h, rfl, e1, _⟩ | ⟨h, rfl, e1, _⟩
                · have y1 : decide ((b : Int) < (s.size : Int)) = false := decide_eq_false (by omega)
                  have y2 : decide (b < s.size) = false := decide_eq_false (by omega)
                  clear hz
                  go_wp2
                  go_meet
                  case rel => exact ⟨rfl, rfl⟩
                · have y1 : decide ((b : Int) < (s.size : Int)) = true := decide_eq_true (by omega)
                  have y2 : decide (b < s.size) = true := decide_eq_true (by omega)
                  go_wp2
                  go_meet
                  case rel => exact ⟨rfl, rfl⟩
                · have y1 : decide ((b : Int) < (s.size : Int)) = true := decide_eq_true (by omega)
                  have y2 : decide (b < s.size) = true := decide_eq_true (by omega)
                  go_wp2
                  go_meet
                  case rel => exact ⟨rfl, rfl⟩
            case rest => as_aux_lemma =>
              obtain ⟨rfl, rfl⟩ := hcut
              obtain ⟨w0, rfl⟩ : ∃ w0, w0 = wc := ⟨_, rfl⟩
              go_upto_if 80 with (fail)
              go_cut [5, 8] (fun s5 s8 wf => ∃ (j : Nat) (fr : ByteArray), s5 = .int .i64 (j : Int) ∧ s8 = .string fr ∧ Told neg s row r j fr ∧ Below w0.heap.size w0 wf)
              case first => as_aux_lemma =>
                as_aux_lemma =>
                  rcases HDOT.out with ⟨rfl, hz, hd⟩ | ⟨h, rfl, e1, c, m, hd, hc⟩ | ⟨h, rfl, e1, hd⟩
                  · rw [hd] at HR2
                    have HZ := Aside0.mk hz
                    clear hz hd
                    go_wp2
                    go_meet
                    case rel => exact ⟨b, ⟨#[]⟩, rfl, rfl, .inl ⟨HZ.out, (fun c hc => by cases hc), by decide, HR2.out.symm⟩, pw_below_drewN (Below.refl _ _) _⟩
                  · rw [hd, restT_no _ _ _ _ hc] at HR2
                    have HZ : Aside0 (b ≠ s.size ∧ b ≤ 100000) := ⟨by omega⟩
                    clear h e1 hd
                    go_wp2
                    go_meet
                    case rel => exact ⟨b, ⟨#[]⟩, rfl, rfl, .inr ⟨HZ.out.1, HZ.out.2, HR2.out.symm⟩, pw_below_drewN (Below.refl _ _) _⟩
                  · rw [hd, restT_dot] at HR2
                    obtain ⟨md, hmd⟩ : ∃ md, dlen ((By s).drop (b + 1)) = md := ⟨_, rfl⟩
                    have hml : md ≤ s.size - (b + 1) := by rw [← hmd, ← size_by s, ← List.length_drop]; exact dlen_le _
                    have HD2 : Aside0 (∀ W, Calls Tryd.prog 37 #[.string s, .int .i64 ((b : Int) + 1)] W fun e w' => e = .returned (.int .i64 (md : Int)) ∧ Drawn0 W w') := ⟨fun W => by
                      have := rdigits_calls s (by have := HS.out; omega) (b + 1) (by omega) W
                      rw [hmd] at this
                      exact this⟩
                    have HTD2 : Aside0 (∀ c ∈ ((By s).drop (b + 1)).take md, isD c = true) := ⟨by rw [← hmd]; exact take_dig _⟩
                    have hln : ((By s).drop (b + 1)).length = s.size - (b + 1) := by rw [List.length_drop, size_by]
                    rw [hmd, hln] at HR2
                    have HLN := Aside0.mk hln
                    clear hd e1 hmd hln
                    go_upto_region 18 with (go_at_call 37; (with_reducible refine (HD2.out _).mono ?_); rintro e w' ⟨rfl, ⟨nd2, rfl⟩⟩)
                    by_cases c2 : md = 0 ∨ 30 < md
                    · have hr2 : r = (0, 4) := by rw [← HR2.out, if_pos (by omega)]
                      subst hr2
                      rcases c2 with c2 | c2
                      · have y1 : decide ((md : Int) < 1) = true := decide_eq_true (by omega)
                        go_wp2
                        go_ret2
                        exact ⟨rfl, by repeat (first | exact Below.refl _ _ | apply pw_below_drewN)⟩
                      · have y1 : decide ((md : Int) < 1) = false := decide_eq_false (by omega)
                        have y2 : decide (30 < (md : Int)) = true := decide_eq_true (by omega)
                        go_wp2
                        go_ret2
                        exact ⟨rfl, by repeat (first | exact Below.refl _ _ | apply pw_below_drewN)⟩
                    · have y1 : decide ((md : Int) < 1) = false := decide_eq_false (by omega)
                      have y2 : decide (30 < (md : Int)) = false := decide_eq_false (by omega)
                      obtain ⟨fr, hfr⟩ : ∃ fr, s.extract (b + 1) (b + 1 + md) = fr := ⟨_, rfl⟩
                      have hbf : By fr = ((By s).drop (b + 1)).take md := by rw [← hfr, by_extract, Nat.add_sub_cancel_left]
                      have hsl : ∀ W, (Instr.slice 9 (Value.string s) (some (.int .i64 ((b : Int) + 1))) (some (.int .i64 ((b : Int) + 1 + (md : Int)))) none).run Tryd.prog W = .ok (.string fr) W := fun W => by rw [← hfr]; exact cut_run s _ _ (b + 1) (b + 1 + md) (by omega) (by omega) (by omega) (by omega) W
                      have hfz : fr.size ≤ 30 := by rw [← size_by, hbf, List.length_take]; omega
                      have HTOLD : Aside0 (Told neg s row r (b + 1 + md) fr) := ⟨by
                        by_cases c3 : s.size - (b + 1) = md
                        · refine .inl ⟨by omega, by rw [hbf]; exact HTD2.out, hfz, ?_⟩
                          rw [← HR2.out, if_neg (by omega), hbf, List.take_of_length_le (by rw [HLN.out]; omega)]
                        · refine .inr ⟨by omega, by omega, ?_⟩
                          rw [← HR2.out, if_pos (by omega)]⟩
                      have hm30 : md ≤ 30 := by omega
                      clear c2 hbf hfz hfr hml
                      go_wp2
                      go_meet
                      case rel => exact ⟨b + 1 + md, fr, congrArg (Value.int .i64) (by omega), rfl, HTOLD.out, by repeat (first | exact Below.refl _ _ | apply pw_below_drewN)⟩
              case rest => as_aux_lemma =>
                obtain ⟨j, fr, rfl, rfl, hTold, hBf⟩ := hcut
                have HB := Aside0.mk hBf
                have HTOLD := Aside0.mk hTold
                clear hTold hBf HDOT HR2
                by_cases cj : j = s.size
                · have q1 : ((j : Int) != (s.size : Int)) = false := by rw [cj]; simp
                  have q2 : (j != s.size) = false := by rw [cj]; simp
                  have q3 : (j == s.size) = true := by rw [cj]; simp
                  obtain ⟨hfd, hfz, hr2⟩ : (∀ c ∈ By fr, isD c = true) ∧ fr.size ≤ 30 ∧ r = (numS neg (vals (By row)) (vals (By fr)), 0) := by
                    rcases HTOLD.out with ⟨_, h1, h2, h3⟩ | ⟨h, _⟩
                    · exact ⟨h1, h2, h3⟩
                    · exact absurd cj h
                  subst hr2
                  have HFD := Aside0.mk hfd
                  have HDG := Aside0.mk (vals_dgt hfd)
                  have HML : Aside0 ((vals (By fr)).length = fr.size) := ⟨by unfold vals; rw [List.length_map, size_by]⟩
                  have hrz := HRZ.out
                  clear hfd cj HTOLD
                  go_wp2
                  clear q1 q2 q3
                  go_loop [10, 11] (fun v10 v11 => ∃ i : Nat, v11 = .int .i64 (i : Int) ∧ v10 = .int .u64 ((wideN ((By row).take i) : Nat) : Int) ∧ i ≤ row.size) (fun _ v11 => row.size - (intOf v11).toNat)
                  case atStart => exact ⟨0, rfl, rfl, Nat.zero_le _⟩
                  case round =>
                    obtain ⟨i, rfl, rfl, hi⟩ := hrel
                    by_cases c : i < row.size
                    · as_aux_lemma =>
                        have c1 : decide ((i : Int) < (row.size : Int)) = true := decide_eq_true (by omega)
                        have hds := digit_at HTD.out i c
                        obtain ⟨d, hd⟩ : ∃ d, row[i].toNat - 48 = d := ⟨_, rfl⟩
                        have e1 : ((row[i].toNat : Int) - 48) % 256 = (d : Int) := by omega
                        have hd9 : d ≤ 9 := by omega
                        have ew := wide_snoc row i c
                        rw [hd] at ew
                        have hw : wideN ((By row).take i) ≤ 1099511627776 := Nat.min_le_right _ _
                        obtain ⟨n', hn'⟩ : ∃ n', wideN ((By row).take i) = n' := ⟨_, rfl⟩
                        rw [hn'] at ew hw ⊢
                        have EW := Aside0.mk ew
                        clear ew hn' hd hds
                        by_cases c2 : 1099511627776 < 10 * n' + d
                        · have c3 : decide (1099511627776 < 10 * (n' : Int) + (d : Int)) = true := decide_eq_true (by omega)
                          go_wp2
                          go_round
                          case rel => exact ⟨i + 1, by go_num, by rw [EW.out, Nat.min_eq_right (by omega)]; rfl, by omega⟩
                          case measure => simp [intOf]; omega
                        · have c3 : decide (1099511627776 < 10 * (n' : Int) + (d : Int)) = false := decide_eq_false (by omega)
                          go_wp2
                          go_round
                          case rel => exact ⟨i + 1, by go_num, by rw [EW.out, Nat.min_eq_left (by omega)]; rfl, by omega⟩
                          case measure => simp [intOf]; omega
                    · have c1 : decide ((i : Int) < (row.size : Int)) = false := decide_eq_false (by omega)
                      rw [List.take_of_length_le (by rw [size_by]; omega)]
                      obtain ⟨V, hV⟩ : ∃ V, wideN (By row) = V := ⟨_, rfl⟩
                      have hVl : V ≤ 1099511627776 := by rw [← hV]; exact Nat.min_le_right _ _
                      rw [hV]
                      have HV := Aside0.mk hV
                      obtain ⟨i0, hi0, hz0, hz1, hz2⟩ := info_parts info3
                      obtain ⟨g, hg⟩ : ∃ g, wc.heap.size = g := ⟨_, rfl⟩
                      have hmk0 := run_make (P := Tryd.prog) wc 34 3 i0 (.int .i64 0) Tryd.underlying34 hi0 hz0 .i64 .i64 (fr.size : Int) (fr.size : Int) (by omega) (by omega) (by rw [hz2]; omega) (by omega)
                      rw [hz1, Int.toNat_natCast] at hmk0
                      have hrow := IRow.made wc fr.size
                      have hB2 := HB.out.alloc HB.out.size (.cells (madeCells (Value.int .i64 0).cells (fr.size * 1)) 3)
                      obtain ⟨W2, hW2⟩ : ∃ W2, wc.alloc (.cells (madeCells (Value.int .i64 0).cells (fr.size * 1)) 3) = W2 := ⟨_, rfl⟩
                      rw [hW2] at hmk0 hrow hB2
                      rw [hg] at hmk0 hrow
                      have hgb : w0.heap.size ≤ g := by rw [← hg]; exact HB.out.size
                      have HB2 := Aside0.mk hB2
                      have HROW := Aside0.mk hrow
                      clear hV hi0 hz0 hz1 hz2 hg hrow hB2 hW2 HB
                      obtain ⟨m, hm⟩ : ∃ m, vals (By fr) = m := ⟨_, rfl⟩
                      rw [hm] at HDG HML
                      have HMM := Aside0.mk hm
                      clear hm
                      obtain ⟨fv1, fv2, fv3⟩ := frac_val HDG.out 32
                      have HF := Aside0.mk (And.intro fv1 (And.intro fv2 fv3))
                      clear fv1 fv2 fv3
                      go_wp2
                      clear hmk0
                      go_loopw [13] (fun v13 wr => ∃ k : Nat, v13 = .int .i64 (k : Int) ∧ k ≤ fr.size ∧ Aside0 (Below w0.heap.size w0 wr) ∧ Aside0 (IRow wr g (m.take k ++ List.replicate (m.length - k) 0))) (fun v13 _ => fr.size - (intOf v13).toNat)
                      case atStart => exact ⟨0, rfl, Nat.zero_le _, HB2, ⟨by rw [HML.out, List.take_zero, List.nil_append, Nat.sub_zero]; exact HROW.out⟩⟩
                      case round =>
                        clear HB2 HROW
                        obtain ⟨k, rfl, hk, HB, HR⟩ := hrel
                        by_cases c : k < fr.size
                        · as_aux_lemma =>
                            have c2 : decide ((k : Int) < (fr.size : Int)) = true := decide_eq_true (by omega)
                            have hkm : k < m.length := by rw [HML.out]; exact c
                            obtain ⟨r0, r1⟩ := HR.out.cell k (by rw [List.length_append, List.length_take, List.length_replicate]; omega)
                            have hds := digit_at HFD.out k c
                            have hmk : m.getD k 0 = fr[k].toNat - 48 := by
                              rw [← HMM.out]
                              unfold vals
                              rw [List.getD_eq_getElem?_getD, List.getElem?_map, List.getElem?_eq_getElem (by rw [size_by]; exact c)]
                              rfl
                            obtain ⟨y, hy⟩ : ∃ y, fr[k].toNat - 48 = y := ⟨_, rfl⟩
                            have e1 : ((fr[k].toNat : Int) - 48) % 256 = (y : Int) := by omega
                            have hy9 : y ≤ 9 := by omega
                            have HST := Aside0.mk (HR.out.set k y)
                            rw [fill_get m k hkm y (by rw [hmk, hy])] at HST
                            have hsz := HB.out.size
                            clear hmk hy hds
                            go_wp2
                            exact ⟨⟨k + 1, by go_num, by omega, ⟨HB.out.setCell (p := ⟨g, k, none⟩) hgb _⟩, HST⟩, by simp [intOf]; omega⟩
                        · have c2 : decide ((k : Int) < (fr.size : Int)) = false := decide_eq_false (by omega)
                          have hk2 : k = m.length := by rw [HML.out]; omega
                          have HR3 : Aside0 (IRow wr g m) := ⟨by have := HR.out; rw [hk2, List.take_length, Nat.sub_self, List.replicate_zero, List.append_nil] at this; exact this⟩
                          clear HR hk2
                          go_wp2
                          clear hk c c2
                          go_loopw [14, 15] (fun v14 v15 wr => ∃ (j n : Nat) (l : List Nat), v15 = .int .i64 (j : Int) ∧ v14 = .int .u64 (n : Int) ∧ j ≤ 32 ∧ Aside0 (Below w0.heap.size w0 wr) ∧ Aside0 (IRow wr g l) ∧ Aside0 (bitsOf (32 - j) (n, l) = bitsOf 32 (0, m) ∧ dgt l ∧ l.length = m.length ∧ n < 2 ^ j)) (fun _ v15 _ => 32 - (intOf v15).toNat)
                          case atStart => exact ⟨0, 0, m, rfl, rfl, by omega, HB, HR3, ⟨⟨rfl, HDG.out, rfl, by decide⟩⟩⟩
                          case round =>
                            clear HB HR3
                            obtain ⟨j, n, l, rfl, rfl, hj, HB, HR, HS2⟩ := hrel
                            by_cases cj : j < 32
                            · as_aux_lemma =>
                                have c3 : decide ((j : Int) < 32) = true := decide_eq_true (by omega)
                                have hll : l.length = fr.size := HS2.out.2.2.1.trans HML.out
                                have HLL := Aside0.mk hll
                                clear hll
                                go_wp2
                                go_loopw [16, 17] (fun v16 v17 wr => ∃ (q : Nat) (i : Int), i = (q : Int) - 1 ∧ v17 = .int .i64 i ∧ q ≤ fr.size ∧ v16 = .int .i64 (((dbl (l.drop q)).1 : Nat) : Int) ∧ Aside0 (Below w0.heap.size w0 wr) ∧ Aside0 (IRow wr g (l.take q ++ (dbl (l.drop q)).2))) (fun _ v17 _ => (intOf v17 + 1).toNat)
                                case atStart =>
                                  refine ⟨fr.size, _, rfl, rfl, Nat.le_refl _, ?_, HB, ?_⟩
                                  · rw [List.drop_of_length_le (by rw [HLL.out]; exact Nat.le_refl _)]; rfl
                                  · rw [List.drop_of_length_le (by rw [HLL.out]; exact Nat.le_refl _), List.take_of_length_le (by rw [HLL.out]; exact Nat.le_refl _)]
                                    show Aside0 (IRow wr g (l ++ []))
                                    rw [List.append_nil]; exact HR
                                case round =>
                                  clear HB HR
                                  obtain ⟨q, i, hi, rfl, hq, rfl, HB, HR⟩ := hrel
                                  by_cases cq : 0 < q
                                  · obtain ⟨p, rfl⟩ : ∃ p, q = p + 1 := ⟨q - 1, by omega⟩
                                    obtain rfl : i = (p : Int) := by omega
                                    have hpl : p < l.length := by rw [HLL.out]; omega
                                    obtain ⟨r0, r1⟩ := HR.out.cell p (by rw [List.length_append, List.length_take, dbl_len, List.length_drop]; omega)
                                    rw [dbl_get l p hpl] at r0
                                    have HST := Aside0.mk (HR.out.set p ((2 * l.getD p 0 + (dbl (l.drop (p + 1))).1) % 10))
                                    rw [dbl_set l p hpl] at HST
                                    have HDS := Aside0.mk (congrArg Prod.fst (dbl_step l p hpl))
                                    have hx : l.getD p 0 < 10 := by
                                      rw [List.getD_eq_getElem?_getD, List.getElem?_eq_getElem hpl]
                                      exact HS2.out.2.1 _ (List.getElem_mem hpl)
                                    have hc : (dbl (l.drop (p + 1))).1 ≤ 1 := dbl_carry (fun x hx => HS2.out.2.1 x (List.mem_of_mem_drop hx))
                                    obtain ⟨x, hxx⟩ : ∃ x, l.getD p 0 = x := ⟨_, rfl⟩
                                    obtain ⟨y, hyy⟩ : ∃ y, (dbl (l.drop (p + 1))).1 = y := ⟨_, rfl⟩
                                    rw [hxx] at r0 HST HDS hx
                                    have HDS2 : Aside0 ((dbl (l.drop p)).1 = (2 * x + y) / 10) := ⟨by rw [HDS.out, ← hyy]⟩
                                    rw [hyy] at HST hc ⊢
                                    have hsz := HB.out.size
                                    have hs1 : p < 1001 := by omega
                                    clear hi hxx hyy
                                    go_wp2
                                    refine ⟨⟨p, _, rfl, rfl, by omega, ?_, ⟨HB.out.setCell (p := ⟨g, p, none⟩) hgb _⟩, HST⟩, by simp [intOf] <;> omega⟩
                                    rw [HDS2.out]
                                    congr 1
                                  · obtain rfl : q = 0 := by omega
                                    have c5 : decide (0 ≤ i) = false := decide_eq_false (by omega)
                                    have hc : (dbl l).1 ≤ 1 := dbl_carry HS2.out.2.1
                                    rw [List.drop_zero, List.take_zero, List.nil_append] at HR
                                    rw [List.drop_zero]
                                    have HO := Aside0.mk (or_2 n (dbl l).1 (Nat.lt_of_lt_of_le HS2.out.2.2.2 (Nat.le_trans (Nat.pow_le_pow_right (by decide) (show j ≤ 32 by omega)) (by decide))) hc)
                                    have HBO : Aside0 (bitsOf (32 - (j + 1)) (2 * n + (dbl l).1, (dbl l).2) = bitsOf 32 (0, m)) := ⟨by
                                      rw [← HS2.out.1, show 32 - j = (32 - (j + 1)) + 1 by omega]
                                      rfl⟩
                                    have hn2 : 2 * n + (dbl l).1 < 2 ^ (j + 1) := by
                                      have := HS2.out.2.2.2
                                      rw [Nat.pow_succ]
                                      omega
                                    have HN2 := Aside0.mk hn2
                                    clear hi hn2
                                    obtain ⟨y, hy⟩ : ∃ y, (dbl l).1 = y := ⟨_, rfl⟩
                                    rw [hy] at hc HO HBO HN2 ⊢
                                    clear hy
                                    go_wp2
                                    exact ⟨⟨j + 1, 2 * n + y, (dbl l).2, by go_num, by rw [HO.out], by omega, HB, HR, ⟨⟨HBO.out, dbl_dgt l, by rw [dbl_len]; exact HS2.out.2.2.1, HN2.out⟩⟩⟩, by simp [intOf]; omega⟩
                            · have c3 : decide ((j : Int) < 32) = false := decide_eq_false (by omega)
                              have hj32 : j = 32 := by omega
                              subst hj32
                              have HLL : Aside0 (l.length = fr.size) := ⟨HS2.out.2.2.1.trans HML.out⟩
                              have hb : (n, l) = bitsOf 32 (0, m) := by have := HS2.out.1; exact this
                              have hn : n = fracN m := by
                                have := congrArg Prod.fst hb
                                rw [HF.out.1] at this
                                exact this
                              have hv : vd l = 2 ^ 32 * vd m % 10 ^ m.length := by
                                have := congrArg (fun x => vd x.2) hb
                                exact this.trans HF.out.2.1
                              have HLF : Aside0 (l.any (· != 0) = leftN m) := ⟨by
                                unfold leftN
                                rw [show (4294967296 : Nat) = 2 ^ 32 from rfl, ← hv, Bool.eq_iff_iff, List.any_eq_true]
                                simp only [bne_iff_ne, ne_eq]
                                rw [vd_zero]
                                simp⟩
                              have hfl : n < 4294967296 := by rw [hn]; exact frac_lt HDG.out
                              have HN := Aside0.mk hn
                              clear hb hv hj hn
                              go_wp2
                              clear cj c3
                              go_loopw [19, 20] (fun v19 v20 wr' => ∃ k : Nat, v20 = .int .i64 (k : Int) ∧ k ≤ fr.size ∧ v19 = .bool ((l.take k).any (· != 0)) ∧ wr' = wr) (fun _ v20 _ => fr.size - (intOf v20).toNat)
                              case atStart => exact ⟨0, rfl, Nat.zero_le _, rfl, rfl⟩
                              case round =>
                                obtain ⟨k, rfl, hk, rfl, rfl⟩ := hrel
                                by_cases ck : k < fr.size
                                · as_aux_lemma =>
                                    have c1 : decide ((k : Int) < (fr.size : Int)) = true := decide_eq_true (by omega)
                                    have hkl : k < l.length := by rw [HLL.out]; exact ck
                                    obtain ⟨r0, r1⟩ := HR.out.cell k hkl
                                    have hta : (l.take (k + 1)).any (· != 0) = ((l.take k).any (· != 0) || (l.getD k 0 != 0)) := by
                                      rw [List.take_succ_eq_append_getElem hkl, List.any_append, List.getD_eq_getElem?_getD, List.getElem?_eq_getElem hkl]
                                      simp
                                    have HTA := Aside0.mk hta
                                    clear hta
                                    obtain ⟨x, hx⟩ : ∃ x, l.getD k 0 = x := ⟨_, rfl⟩
                                    rw [hx] at r0 HTA
                                    obtain ⟨b, hb⟩ : ∃ b, (l.take k).any (· != 0) = b := ⟨_, rfl⟩
                                    rw [hb] at HTA ⊢
                                    clear hx hb
                                    cases b
                                    · go_wp2
                                      refine ⟨⟨k + 1, by go_num, by omega, ?_, trivial⟩, by simp [intOf]; omega⟩
                                      rw [HTA.out, Bool.false_or]
                                      congr 1
                                      rw [Bool.eq_iff_iff]
                                      simp only [bne_iff_ne, ne_eq]
                                      omega
                                    · go_wp2
                                      refine ⟨⟨k + 1, by go_num, by omega, ?_, trivial⟩, by simp [intOf]; omega⟩
                                      rw [HTA.out, Bool.true_or]
                                · have c1 : decide ((k : Int) < (fr.size : Int)) = false := decide_eq_false (by omega)
                                  have hk2 : k = l.length := by rw [HLL.out]; omega
                                  rw [List.take_of_length_le (show l.length ≤ k by omega), HLF.out]
                                  obtain ⟨lf, hlf⟩ : ∃ lf, leftN m = lf := ⟨_, rfl⟩
                                  rw [hlf]
                                  have HO := Aside0.mk (or_33 n V hfl)
                                  have hlo : 0 ≤ ((V % 4294967296 * 4294967296 + n : Nat) : Int) ∧ ((V % 4294967296 * 4294967296 + n : Nat) : Int) < 18446744073709551616 := by omega
                                  obtain ⟨lo, hlo2⟩ : ∃ lo, ((V % 4294967296 * 4294967296 + n : Nat) : Int) = lo := ⟨_, rfl⟩
                                  obtain ⟨hi, hhi⟩ : ∃ hi : Int, (V : Int) / 4294967296 = hi := ⟨_, rfl⟩
                                  have HVAL : Aside0 (hi * 18446744073709551616 + lo = ((V * 4294967296 + n : Nat) : Int)) := ⟨by omega⟩
                                  have HL : Aside0 (0 ≤ hi ∧ hi < 18446744073709551616 ∧ 0 ≤ lo ∧ lo < 18446744073709551616 ∧ hi ≤ 1000) := ⟨by omega⟩
                                  rw [hlo2] at HO
                                  have ho := HO.out
                                  have HNUM : Aside0 (∀ x y : Int, x * 18446744073709551616 + y = hi * 18446744073709551616 + lo + (if (neg && lf) = true then 1 else 0) → backZ neg x y = numS neg (vals (By row)) m) := ⟨fun x y h => by
                                    refine back_num neg (vals (By row)) m HDG.out V (by rw [← HV.out]; rfl) hi lo ?_ x y ?_
                                    · rw [HVAL.out, HN.out]
                                    · rw [hlf]; exact h⟩
                                  clear hlo hlo2 HO hk2 hk hlf HLF HVAL hfl
                                  have HA0 : Aside0 (Below w0.heap.size w0 (wr.alloc (.cells #[.int .u64 hi, .int .u64 lo] 49))) := ⟨below_alloc HB.out _⟩
                                  have BC : Aside0 ((wr.alloc (.cells #[.int .u64 hi, .int .u64 lo] 49)).cell? ⟨wr.heap.size, 0, none⟩ = some (.int .u64 hi) ∧ (wr.alloc (.cells #[.int .u64 hi, .int .u64 lo] 49)).cell? ⟨wr.heap.size, 1, none⟩ = some (.int .u64 lo) ∧ (wr.alloc (.cells #[.int .u64 hi, .int .u64 lo] 49)).frozen? ⟨wr.heap.size, 0, none⟩ = false ∧ (wr.alloc (.cells #[.int .u64 hi, .int .u64 lo] 49)).frozen? ⟨wr.heap.size, 1, none⟩ = false) := ⟨by refine ⟨?_, ?_, ?_, ?_⟩ <;> go_simp⟩
                                  have HM := Aside0.mk (more_val HL.out.1 HL.out.2.2.2.2 HL.out.2.2.1 HL.out.2.2.2.1)
                                  have hsz := HB.out.size
                                  go_upto_region 54 with (fail)
                                  clear ho hhi
                                  obtain ⟨v1, hv1⟩ : ∃ v1, moreH hi lo = v1 := ⟨_, rfl⟩
                                  obtain ⟨v2, hv2⟩ : ∃ v2, moreL lo = v2 := ⟨_, rfl⟩
                                  rw [hv1, hv2] at HM
                                  have HMT : Aside0 (∀ W, Calls Tryd.prog 30 #[.agg #[.int .u64 hi, .int .u64 lo]] W fun e w' => e = .returned (.agg #[.int .u64 v1, .int .u64 v2]) ∧ Below W.heap.size W w') := ⟨fun W => by rw [← hv1, ← hv2]; exact more_two _ _ _ HL.out.1 HL.out.2.2.2.2 HL.out.2.2.1 HL.out.2.2.2.1⟩
                                  clear hv1 hv2
                                  cases neg
                                  · as_aux_lemma =>
                                      go_wp2_with (go_at_call 29; (with_reducible refine (back_any _ _ _ _ HL.out.1 HL.out.2.1 HL.out.2.2.1 HL.out.2.2.2.1).mono ?_); rintro e w' ⟨rfl, hb⟩; have HBK := Aside0.mk hb; clear hb)
                                      go_ret2
                                      refine ⟨?_, HA0.out.trans (HBK.out.mono HA0.out.size)⟩
                                      rw [HNUM.out hi lo (by simp), HMM.out]
                                      rfl
                                  · cases lf
                                    · as_aux_lemma =>
                                        go_wp2_with (go_at_call 29; (with_reducible refine (back_any _ _ _ _ HL.out.1 HL.out.2.1 HL.out.2.2.1 HL.out.2.2.2.1).mono ?_); rintro e w' ⟨rfl, hb⟩; have HBK := Aside0.mk hb; clear hb)
                                        go_ret2
                                        refine ⟨?_, HA0.out.trans (HBK.out.mono HA0.out.size)⟩
                                        rw [HNUM.out hi lo (by simp), HMM.out]
                                        rfl
                                    · as_aux_lemma =>
                                        go_wp2_with (first | (go_at_call 29; (with_reducible refine (back_any _ _ _ _ HM.out.1 HM.out.2.1 HM.out.2.2.1 HM.out.2.2.2.1).mono ?_); rintro e w' ⟨rfl, hb⟩; have HBK := Aside0.mk hb; clear hb) | (go_at_call 30; (with_reducible refine (HMT.out _).mono ?_); rintro e w1 ⟨rfl, hb⟩; have HB1 := Aside0.mk hb; have hc0 := (hb.cell (p := ⟨wr.heap.size, 0, none⟩) (by simp)).trans BC.out.1; have hc1 := (hb.cell (p := ⟨wr.heap.size, 1, none⟩) (by simp)).trans BC.out.2.1; have hf0 := (hb.frozen (p := ⟨wr.heap.size, 0, none⟩) (by simp)).trans BC.out.2.2.1; have hf1 := (hb.frozen (p := ⟨wr.heap.size, 1, none⟩) (by simp)).trans BC.out.2.2.2; clear hb))
                                        go_ret2
                                        have k1 := HA0.out.trans (HB1.out.mono HA0.out.size)
                                        have k2 := (k1.setCell (p := ⟨wr.heap.size, 0, none⟩) hsz (.int .u64 v1)).setCell (p := ⟨wr.heap.size, 1, none⟩) hsz (.int .u64 v2)
                                        refine ⟨?_, k2.trans (HBK.out.mono k2.size)⟩
                                        rw [HNUM.out v1 v2 (by rw [HM.out.2.2.2.2]; simp), HMM.out]
                                        rfl
                · have q1 : ((j : Int) != (s.size : Int)) = true := by simpa using fun z => cj (by omega)
                  have q2 : (j != s.size) = true := by simpa using cj
                  have q3 : (j == s.size) = false := by simpa using cj
                  obtain rfl : r = (0, 4) := by
                    rcases HTOLD.out with ⟨h, _⟩ | ⟨_, _, h⟩
                    · exact absurd h cj
                    · exact h
                  clear cj
                  go_wp2
                  go_ret2
                  exact ⟨rfl, HB.out⟩
end Go.Proofs.YtlifbogjjikhdaaDoor.Fl
end
section
namespace Go.Proofs.YtlifbogjjikhdaaDoor.Fl
open Go.RowKit Go.Proofs.YtlifbogjjikhdaaDoorW.PrintWords Go.Proofs.YtlifbogjjikhdaaDoorW.PrintLast Go.Proofs.YtlifbogjjikhdaaDoorW.PrintMore
set_option linter.unusedVariables false
open Go.Proofs.YtlifbogjjikhdaaDoor.FL
set_option maxHeartbeats 8000000 in
set_option maxRecDepth 100000 in
theorem lawparse_calls (s : ByteArray) (w : World) (hm : s.size ≤ maxLen) (ht : Tab w) : Calls Tryd.prog 6 #[.string s] w fun e w' => e = .returned (.bool true) ∧ Below w.heap.size w w' := by
  have HA := Aside0.mk (alive_calls w ht)
  by_cases hs : s.size ≤ 1000
  · have c1 : decide (1000 < (s.size : Int)) = false := decide_eq_false (by omega)
    have c2 : decide (1000 < s.size) = false := decide_eq_false (by omega)
    have H19 : Aside0 (∀ W, Calls Tryd.prog 19 #[.string s] W fun e w' => e = .returned (.tuple #[.int .i64 (parseS (By s)).1, .int .i64 (parseS (By s)).2]) ∧ Below W.heap.size W w') := ⟨fun W => parse_calls s W (by omega)⟩
    have H20 : Aside0 (∀ W, Calls Tryd.prog 20 #[.string s] W fun e w' => e = .returned (.tuple #[.int .i64 (parseS (By s)).1, .int .i64 (parseS (By s)).2]) ∧ Below W.heap.size W w') := ⟨fun W => rparse_calls s W hs⟩
    generalize parseS (By s) = r at H19 H20
    clear ht hm hs
    go_enter Tryd.func6, Tryd.ntmps6
    go_wp2_with (first | (go_at_call 12; refine HA.out.mono ?_; rintro e W1 ⟨rfl, hb1⟩) | (go_at_call 19; refine (H19.out _).mono ?_; rintro e W2 ⟨rfl, hb2⟩) | (go_at_call 20; refine (H20.out _).mono ?_; rintro e W3 ⟨rfl, hb3⟩) | (go_at_call 16; refine (num_calls0 _ _).mono ?_; rintro e w' ⟨rfl, rfl⟩))
    go_ret
    have h2 := hb1.trans (hb2.mono hb1.size)
    exact ⟨rfl, h2.trans (hb3.mono h2.size)⟩
  · have c1 : decide (1000 < (s.size : Int)) = true := decide_eq_true (by omega)
    have c2 : decide (1000 < s.size) = true := decide_eq_true (by omega)
    clear ht hm hs
    go_enter Tryd.func6, Tryd.ntmps6
    go_wp2_with (go_at_call 12; refine HA.out.mono ?_; rintro e W1 ⟨rfl, hb1⟩)
    go_ret
    exact ⟨rfl, hb1⟩
end Go.Proofs.YtlifbogjjikhdaaDoor.Fl
end
section
namespace Go.Proofs.YtlifbogjjikhdaaDoor.floatsParse
open Go.ChangeShapes Go.WideShapes Go.ChangeAt Go.RowKit
open Go.ChangeMaps (open_string shut_string)
open Go.Proofs.YtlifbogjjikhdaaDoor.Fl
set_option linter.unusedVariables false
set_option maxRecDepth 100000 in
theorem lifted (os : Os) (started : os.Started) (H : Type) (enc : TypeId × Value → H) :
    ReturnsInHanded {} Tryd.checked os 6 .any (fun w args => (Rows.floatsParseSpec.pre enc Tryd.prog Tryd.f6 [] false w args ∧ laidMetH Tryd.prog laidL w) ∧ sizedMet enc Tryd.prog Tryd.f6 (OpenSpec.ofChange Rows.floatsParseSpec) false w args)
      (Rows.floatsParseSpec.post enc Tryd.prog Tryd.f6 false true false false) := by
  refine returnsInHanded_of_change_and (C := Tryd.checked) (X := fun w _ => laidMetH Tryd.prog laidL w) (fun _ _ _ hh h => h.of_heap hh) own started (by kernel_rfl) Tryd.func6
    (ChangeSpec.witness_shaped (enc := enc) (C := Tryd.checked) (os := os) (X := fun w _ => laidMetH Tryd.prog laidL w) false (World.doorLaid Tryd.prog 24 os) #[.string ⟨#[]⟩] 8 rfl (World.shaped_of_RefB (by kernel_rfl) (by kernel_rfl)) (by kernel_rfl) (by kernel_rfl) (by kernel_rfl) (door_met os _)) ?_
  intro W base args ds gs before hval0 hW _ hsz0 hL _
  have ht := tab_of hL
  have hval : ∀ (j : Nat) t v, Tryd.f6.params[j]? = some t → args[j]? = some v → Value.okWide Tryd.prog W .any base t v := hval0
  have hsz : (DataW.weightsEach Tryd.prog (Tryd.f6.params.toList ++ Rows.floatsParseSpec.plain.varTypes Tryd.prog) (ds ++ gs)).all (· ≤ reachBytes) = true := hsz0
  have hW' := hW
  obtain ⟨p, q, hA0, hV, rfl, hfz, hnd⟩ := hW
  have hA : DataW.TrodAll enc Tryd.prog W 0 (fun _ => true) true Tryd.f6.params.toList args.toList ds p := hA0
  rw [Tryd.params6] at hA hval hsz
  obtain ⟨v0, vs0, d0, ds0, p0, q0, hargs, rfl, rfl, h0, r0⟩ := trodAll_cons hA
  obtain ⟨rfl, rfl, rfl⟩ := trodAll_nil r0
  obtain rfl : args = #[v0] := by cases args; simp_all
  obtain ⟨rfl, rfl⟩ := trodVars_none hV
  obtain ⟨a0, rfl, rfl, rfl, w0⟩ := open_string Tryd.underlying9 (hval 0 9 v0 rfl rfl) h0
  clear hA0 hval0 hsz0 hL
  refine (lawparse_calls a0 W w0 ht).mono fun e W' ⟨he, bel⟩ => ?_
  subst he
  exact ⟨_, rfl, _, _, _, [], _, [], hW', trodAll_mk1 (shut_bool Tryd.underlying4 _), (trodAll_cons_mk (shut_string Tryd.underlying9 w0) trodAll_mk0), rfl, bel.frame _, fun h => by cases h⟩
theorem over : Rows.floatsParseRow.holds Tryd.pinned (OpenSpec.ofChange Rows.floatsParseSpec) :=
  OpenClaim.holds_of_wide 6 Tryd.f6 rfl rfl rfl rfl rfl rfl rfl ⟨rfl, rfl, rfl, rfl, rfl⟩ rfl rfl rfl rfl rfl (by kernel_rfl) Tryd.func6 (by kernel_rfl)
    (of_decide_eq_true (by kernel_rfl)) (by unfold Func.isWrapper; first | (rw [if_pos (by decide +kernel)]; kernel_rfl) | (rw [if_neg (by decide +kernel)]; exact ⟨rfl, rfl⟩))
    (fun os started H enc _ => lifted os started H enc)
theorem card_holds : Claim7.holds Tryd.pinned (.plain (OpenSpec.ofChange Rows.floatsParseSpec)) Rows.floatsParseCard :=
  Claim7.holds_tied_plain_at .later [] [.data, .data, .data] true (true, "d6d8c83535152071f5c39a6202c6aa14b76c6ab3078df765f5b24e7134d1c620") false
    over (fun _ h => by cases h) (by kernel_rfl) (fun _ h => by cases h) floatsParse_row_tie rfl ⟨rfl, rfl⟩ (by kernel_rfl) rfl
    (fun f fn hf hfn => by
      obtain rfl : f = 6 := Option.some.inj ((show Tryd.prog.funcNamed "lysimeter/lysimeterlaw2.FloatsParse" = some 6 by kernel_rfl).symm.trans hf) |>.symm
      obtain rfl : fn = Tryd.f6 := (Option.some.inj (Tryd.func6.symm.trans hfn)).symm
      exact ⟨by kernel_rfl, fun j t ht => by
        rw [Tryd.params6] at ht
        have hm : t ∈ [9] := by simpa using Array.mem_of_getElem? ht
        have hall : ([9].all fun u => !Tryd.prog.wantsStandIn u) = true := by kernel_rfl
        exact (show Tryd.prog.wantsStandIn t = false by simpa using List.all_eq_true.1 hall t hm)⟩)
    (by kernel_rfl)
theorem proved : Rows.FloatsParseCardSaid := card_holds
#print axioms proved
end Go.Proofs.YtlifbogjjikhdaaDoor.floatsParse
namespace Go.Proofs.YtlifbogjjikhdaaDoor
theorem floatsParse_card : Rows.FloatsParseCardSaid := floatsParse.proved
end Go.Proofs.YtlifbogjjikhdaaDoor
end
