-- Laid together by wip/shake.py out of: Fixx4 Fixx5 FixSpec FixDiv FixOver Spec FixC Holt1 QT Holt2 Holt3 Holt4
import Derived.Test.YtemnfnbjapobcaaChoosePeakm3
import Derived.Deep.Quiet
import Derived.StillTail
import Derived.Deep.QuietTactic
import Derived.Tactics
import Derived.Below
import Derived.Lib.SliceRun
section
namespace Go.Proofs.Ytemnfnbjapobcaa.Fix
open Go.RowKit Go.Proofs.YtemnfnbjapobcaaW.PrintWords Go.Proofs.YtemnfnbjapobcaaW.PrintLast Go.Proofs.YtemnfnbjapobcaaW.PrintMore
attribute [local go_sem] max2_int min2_int max_two min_two max_three min_three max_four min_four   -- for this text's walks alone
set_option linter.unusedVariables false
set_option linter.unusedSimpArgs false
def fixed_Div_1.f (a0 : Bool) : Option (Bool) := some a0
set_option maxHeartbeats 8000000 in
set_option maxRecDepth 100000 in
theorem fixed_Div_1.calls (a0 : Bool) (r : Bool) (w : World) (h : fixed_Div_1.f a0 = some r) :
    Calls Try.prog 134 #[.bool a0] w fun e w' => e = .returned (.bool r) ∧ Drawn0 w w' := by
  have H : (some a0) = some r := h
  clear h
  obtain rfl := Option.some.inj H
  go_enter Try.func134, Try.ntmps134
  go_wp2
  go_ret
  exact ⟨by first | rfl | (simp; done) | (simp [*]; done), by repeat (first | exact Drawn0.refl _ | apply Drawn0.step)⟩
def fixed_quotient_134.f (k : Nat) (a0 : Int) (a1 : Int)  : Option (Int) := if a1 = 0 then ((fixed_edge.f a0).bind fun t130 => (some t130)) else (if a0 < 0 then (if a1 < 0 then ((fixed_size.f a0).bind fun t131 => ((fixed_size.f a1).bind fun t132 => (if (t131 / 4294967296) ≥ t132 then ((fixed_signed.f k 0 true false).bind fun t133 => (some t133)) else ((bits_Div64.f k (t131 / 4294967296) (IntKind.u64.wrap (t131 * 4294967296)) t132).bind fun bt134 => (if bt134.2 = 0 then ((fixed_rounded.f bt134.1 false false).bind fun bt136 => ((fixed_signed.f k bt136.1 bt136.2 false).bind fun t138 => (some t138))) else ((fixed_Div_1.f false).bind fun t139 => ((fixed_rounded.f bt134.1 false t139).bind fun bt140 => ((fixed_signed.f k bt140.1 bt140.2 false).bind fun t142 => (some t142))))))))) else ((fixed_size.f a0).bind fun t143 => ((fixed_size.f a1).bind fun t144 => (if (t143 / 4294967296) ≥ t144 then ((fixed_signed.f k 0 true true).bind fun t145 => (some t145)) else ((bits_Div64.f k (t143 / 4294967296) (IntKind.u64.wrap (t143 * 4294967296)) t144).bind fun bt146 => (if bt146.2 = 0 then ((fixed_rounded.f bt146.1 false false).bind fun bt148 => ((fixed_signed.f k bt148.1 bt148.2 true).bind fun t150 => (some t150))) else ((fixed_Div_1.f true).bind fun t151 => ((fixed_rounded.f bt146.1 false t151).bind fun bt152 => ((fixed_signed.f k bt152.1 bt152.2 true).bind fun t154 => (some t154)))))))))) else (if a1 < 0 then ((fixed_size.f a0).bind fun t155 => ((fixed_size.f a1).bind fun t156 => (if (t155 / 4294967296) ≥ t156 then ((fixed_signed.f k 0 true true).bind fun t157 => (some t157)) else ((bits_Div64.f k (t155 / 4294967296) (IntKind.u64.wrap (t155 * 4294967296)) t156).bind fun bt158 => (if bt158.2 = 0 then ((fixed_rounded.f bt158.1 false false).bind fun bt160 => ((fixed_signed.f k bt160.1 bt160.2 true).bind fun t162 => (some t162))) else ((fixed_Div_1.f true).bind fun t163 => ((fixed_rounded.f bt158.1 false t163).bind fun bt164 => ((fixed_signed.f k bt164.1 bt164.2 true).bind fun t166 => (some t166))))))))) else ((fixed_size.f a0).bind fun t167 => ((fixed_size.f a1).bind fun t168 => (if (t167 / 4294967296) ≥ t168 then ((fixed_signed.f k 0 true false).bind fun t169 => (some t169)) else ((bits_Div64.f k (t167 / 4294967296) (IntKind.u64.wrap (t167 * 4294967296)) t168).bind fun bt170 => (if bt170.2 = 0 then ((fixed_rounded.f bt170.1 false false).bind fun bt172 => ((fixed_signed.f k bt172.1 bt172.2 false).bind fun t174 => (some t174))) else ((fixed_Div_1.f false).bind fun t175 => ((fixed_rounded.f bt170.1 false t175).bind fun bt176 => ((fixed_signed.f k bt176.1 bt176.2 false).bind fun t178 => (some t178)))))))))))
set_option maxHeartbeats 8000000 in
set_option maxRecDepth 100000 in
theorem fixed_quotient_134.calls (k : Nat) (a0 : Int) (a1 : Int)  (r : Int) (w : World) (h : fixed_quotient_134.f k a0 a1 = some r) :
    Calls Try.prog 123 #[.int .i64 a0, .int .i64 a1, .func (.func 134) #[] #[]] w fun e w' => e = .returned (.int .i64 r) ∧ Drawn0 w w' := by
  have H : (if a1 = 0 then ((fixed_edge.f a0).bind fun t130 => (some t130)) else (if a0 < 0 then (if a1 < 0 then ((fixed_size.f a0).bind fun t131 => ((fixed_size.f a1).bind fun t132 => (if (t131 / 4294967296) ≥ t132 then ((fixed_signed.f k 0 true false).bind fun t133 => (some t133)) else ((bits_Div64.f k (t131 / 4294967296) (IntKind.u64.wrap (t131 * 4294967296)) t132).bind fun bt134 => (if bt134.2 = 0 then ((fixed_rounded.f bt134.1 false false).bind fun bt136 => ((fixed_signed.f k bt136.1 bt136.2 false).bind fun t138 => (some t138))) else ((fixed_Div_1.f false).bind fun t139 => ((fixed_rounded.f bt134.1 false t139).bind fun bt140 => ((fixed_signed.f k bt140.1 bt140.2 false).bind fun t142 => (some t142))))))))) else ((fixed_size.f a0).bind fun t143 => ((fixed_size.f a1).bind fun t144 => (if (t143 / 4294967296) ≥ t144 then ((fixed_signed.f k 0 true true).bind fun t145 => (some t145)) else ((bits_Div64.f k (t143 / 4294967296) (IntKind.u64.wrap (t143 * 4294967296)) t144).bind fun bt146 => (if bt146.2 = 0 then ((fixed_rounded.f bt146.1 false false).bind fun bt148 => ((fixed_signed.f k bt148.1 bt148.2 true).bind fun t150 => (some t150))) else ((fixed_Div_1.f true).bind fun t151 => ((fixed_rounded.f bt146.1 false t151).bind fun bt152 => ((fixed_signed.f k bt152.1 bt152.2 true).bind fun t154 => (some t154)))))))))) else (if a1 < 0 then ((fixed_size.f a0).bind fun t155 => ((fixed_size.f a1).bind fun t156 => (if (t155 / 4294967296) ≥ t156 then ((fixed_signed.f k 0 true true).bind fun t157 => (some t157)) else ((bits_Div64.f k (t155 / 4294967296) (IntKind.u64.wrap (t155 * 4294967296)) t156).bind fun bt158 => (if bt158.2 = 0 then ((fixed_rounded.f bt158.1 false false).bind fun bt160 => ((fixed_signed.f k bt160.1 bt160.2 true).bind fun t162 => (some t162))) else ((fixed_Div_1.f true).bind fun t163 => ((fixed_rounded.f bt158.1 false t163).bind fun bt164 => ((fixed_signed.f k bt164.1 bt164.2 true).bind fun t166 => (some t166))))))))) else ((fixed_size.f a0).bind fun t167 => ((fixed_size.f a1).bind fun t168 => (if (t167 / 4294967296) ≥ t168 then ((fixed_signed.f k 0 true false).bind fun t169 => (some t169)) else ((bits_Div64.f k (t167 / 4294967296) (IntKind.u64.wrap (t167 * 4294967296)) t168).bind fun bt170 => (if bt170.2 = 0 then ((fixed_rounded.f bt170.1 false false).bind fun bt172 => ((fixed_signed.f k bt172.1 bt172.2 false).bind fun t174 => (some t174))) else ((fixed_Div_1.f false).bind fun t175 => ((fixed_rounded.f bt170.1 false t175).bind fun bt176 => ((fixed_signed.f k bt176.1 bt176.2 false).bind fun t178 => (some t178)))))))))))) = some r := h
  clear h
  by_cases c4 : a1 = 0
  · rw [if_pos c4] at H
    have c4b0 : (a1 == 0) = true := beq_iff_eq.mpr c4
    have c4b1 : (a1 != 0) = false := bne_eq_false_iff_eq.mpr c4
    clear c4
    replace H := Option.bind_eq_some_iff.mp H
    obtain ⟨t130, A50, H⟩ := H
    replace H : (some t130) = some r := H
    have A5 := Aside0.mk A50
    clear A50
    obtain rfl := Option.some.inj H
    go_enter Try.func123, Try.ntmps123
    go_wp2_with (first | ((with_reducible refine gate_callee (f := 141) rfl ?_); refine goesL_ (some 19) rfl rfl Try.func141 (by kernel_rfl) rfl #[.int .i64 a0] rfl (by (try simp only [List.map_toArray, List.map_cons, List.map_nil]); first | done | rfl | (simp only [List.length_drop, List.length_take]; rfl)) ?_; (with_reducible refine (fixed_edge.calls a0 t130 _ A5.out).mono ?_); rintro e w' ⟨rfl, ⟨nd, rfl⟩⟩; refine ⟨_, rfl, ?_⟩))
    go_ret
    exact ⟨by first | rfl | (simp; done) | (simp [*]; done), by repeat (first | exact Drawn0.refl _ | apply Drawn0.step)⟩
  · rw [if_neg c4] at H
    have c4b0 : (a1 == 0) = false := beq_eq_false_iff_ne.mpr c4
    have c4b1 : (a1 != 0) = true := bne_iff_ne.mpr c4
    by_cases c6 : a0 < 0
    · rw [if_pos c6] at H
      have c6b0 : decide (a0 < 0) = true := decide_eq_true c6
      clear c6
      by_cases c7 : a1 < 0
      · rw [if_pos c7] at H
        have c7b0 : decide (a1 < 0) = true := decide_eq_true c7
        clear c7
        replace H := Option.bind_eq_some_iff.mp H
        obtain ⟨t131, A80, H⟩ := H
        replace H : ((fixed_size.f a1).bind fun t132 => (if (t131 / 4294967296) ≥ t132 then ((fixed_signed.f k 0 true false).bind fun t133 => (some t133)) else ((bits_Div64.f k (t131 / 4294967296) (IntKind.u64.wrap (t131 * 4294967296)) t132).bind fun bt134 => (if bt134.2 = 0 then ((fixed_rounded.f bt134.1 false false).bind fun bt136 => ((fixed_signed.f k bt136.1 bt136.2 false).bind fun t138 => (some t138))) else ((fixed_Div_1.f false).bind fun t139 => ((fixed_rounded.f bt134.1 false t139).bind fun bt140 => ((fixed_signed.f k bt140.1 bt140.2 false).bind fun t142 => (some t142)))))))) = some r := H
        have A8 := Aside0.mk A80
        clear A80
        replace H := Option.bind_eq_some_iff.mp H
        obtain ⟨t132, A90, H⟩ := H
        replace H : (if (t131 / 4294967296) ≥ t132 then ((fixed_signed.f k 0 true false).bind fun t133 => (some t133)) else ((bits_Div64.f k (t131 / 4294967296) (IntKind.u64.wrap (t131 * 4294967296)) t132).bind fun bt134 => (if bt134.2 = 0 then ((fixed_rounded.f bt134.1 false false).bind fun bt136 => ((fixed_signed.f k bt136.1 bt136.2 false).bind fun t138 => (some t138))) else ((fixed_Div_1.f false).bind fun t139 => ((fixed_rounded.f bt134.1 false t139).bind fun bt140 => ((fixed_signed.f k bt140.1 bt140.2 false).bind fun t142 => (some t142))))))) = some r := H
        have A9 := Aside0.mk A90
        clear A90
        by_cases c10 : (t131 / 4294967296) ≥ t132
        · rw [if_pos c10] at H
          have c10b0 : decide (t132 ≤ (t131 / 4294967296)) = true := decide_eq_true c10
          clear c10
          replace H := Option.bind_eq_some_iff.mp H
          obtain ⟨t133, A110, H⟩ := H
          replace H : (some t133) = some r := H
          have A11 := Aside0.mk A110
          clear A110
          obtain rfl := Option.some.inj H
          go_enter Try.func123, Try.ntmps123
          go_wp2_with (first | ((with_reducible refine gate_callee (f := 110) rfl ?_); refine goesL_ (some 26) rfl rfl Try.func110 (by kernel_rfl) rfl #[.int .i64 a0] rfl (by (try simp only [List.map_toArray, List.map_cons, List.map_nil]); first | done | rfl | (simp only [List.length_drop, List.length_take]; rfl)) ?_; (with_reducible refine (fixed_size.calls a0 t131 _ A8.out).mono ?_); rintro e w' ⟨rfl, ⟨nd, rfl⟩⟩; refine ⟨_, rfl, ?_⟩) | ((with_reducible refine gate_callee (f := 110) rfl ?_); refine goesL_ (some 28) rfl rfl Try.func110 (by kernel_rfl) rfl #[.int .i64 a1] rfl (by (try simp only [List.map_toArray, List.map_cons, List.map_nil]); first | done | rfl | (simp only [List.length_drop, List.length_take]; rfl)) ?_; (with_reducible refine (fixed_size.calls a1 t132 _ A9.out).mono ?_); rintro e w' ⟨rfl, ⟨nd, rfl⟩⟩; refine ⟨_, rfl, ?_⟩) | ((with_reducible refine gate_callee (f := 112) rfl ?_); refine goesL_ (some 37) rfl rfl Try.func112 (by kernel_rfl) rfl #[.int .u64 0, .bool true, .bool false] rfl (by (try simp only [List.map_toArray, List.map_cons, List.map_nil]); first | done | rfl | (simp only [List.length_drop, List.length_take]; rfl)) ?_; (with_reducible refine (fixed_signed.calls k 0 true false t133 _ A11.out).mono ?_); rintro e w' ⟨rfl, ⟨nd, rfl⟩⟩; refine ⟨_, rfl, ?_⟩))
          go_ret
          exact ⟨by first | rfl | (simp; done) | (simp [*]; done), by repeat (first | exact Drawn0.refl _ | apply Drawn0.step)⟩
        · rw [if_neg c10] at H
          have c10b0 : decide (t132 ≤ (t131 / 4294967296)) = false := decide_eq_false c10
          clear c10
          replace H := Option.bind_eq_some_iff.mp H
          obtain ⟨⟨t134, t135⟩, A120, H⟩ := H
          replace H : (if t135 = 0 then ((fixed_rounded.f t134 false false).bind fun bt136 => ((fixed_signed.f k bt136.1 bt136.2 false).bind fun t138 => (some t138))) else ((fixed_Div_1.f false).bind fun t139 => ((fixed_rounded.f t134 false t139).bind fun bt140 => ((fixed_signed.f k bt140.1 bt140.2 false).bind fun t142 => (some t142))))) = some r := H
          have A12 := Aside0.mk A120
          clear A120
          by_cases c13 : t135 = 0
          · rw [if_pos c13] at H
            have c13b0 : (t135 == 0) = true := beq_iff_eq.mpr c13
            have c13b1 : (t135 != 0) = false := bne_eq_false_iff_eq.mpr c13
            clear c13
            replace H := Option.bind_eq_some_iff.mp H
            obtain ⟨⟨t136, t137⟩, A140, H⟩ := H
            replace H : ((fixed_signed.f k t136 t137 false).bind fun t138 => (some t138)) = some r := H
            have A14 := Aside0.mk A140
            clear A140
            replace H := Option.bind_eq_some_iff.mp H
            obtain ⟨t138, A150, H⟩ := H
            replace H : (some t138) = some r := H
            have A15 := Aside0.mk A150
            clear A150
            obtain rfl := Option.some.inj H
            go_enter Try.func123, Try.ntmps123
            go_wp2_with (first | ((with_reducible refine gate_callee (f := 110) rfl ?_); refine goesL_ (some 26) rfl rfl Try.func110 (by kernel_rfl) rfl #[.int .i64 a0] rfl (by (try simp only [List.map_toArray, List.map_cons, List.map_nil]); first | done | rfl | (simp only [List.length_drop, List.length_take]; rfl)) ?_; (with_reducible refine (fixed_size.calls a0 t131 _ A8.out).mono ?_); rintro e w' ⟨rfl, ⟨nd, rfl⟩⟩; refine ⟨_, rfl, ?_⟩) | ((with_reducible refine gate_callee (f := 110) rfl ?_); refine goesL_ (some 28) rfl rfl Try.func110 (by kernel_rfl) rfl #[.int .i64 a1] rfl (by (try simp only [List.map_toArray, List.map_cons, List.map_nil]); first | done | rfl | (simp only [List.length_drop, List.length_take]; rfl)) ?_; (with_reducible refine (fixed_size.calls a1 t132 _ A9.out).mono ?_); rintro e w' ⟨rfl, ⟨nd, rfl⟩⟩; refine ⟨_, rfl, ?_⟩) | ((with_reducible refine gate_callee (f := 142) rfl ?_); refine goesL_ (some 42) rfl rfl Try.func142 (by kernel_rfl) rfl #[.int .u64 (t131 / 4294967296), .int .u64 (IntKind.u64.wrap (t131 * 4294967296)), .int .u64 t132] rfl (by (try simp only [List.map_toArray, List.map_cons, List.map_nil]); first | done | rfl | (simp only [List.length_drop, List.length_take]; rfl)) ?_; (with_reducible refine (bits_Div64.calls k (t131 / 4294967296) (IntKind.u64.wrap (t131 * 4294967296)) t132 t134 t135 _ A12.out).mono ?_); rintro e w' ⟨rfl, ⟨nd, rfl⟩⟩; refine ⟨_, rfl, ?_⟩) | ((with_reducible refine gate_callee (f := 111) rfl ?_); refine goesL_ (some 54) rfl rfl Try.func111 (by kernel_rfl) rfl #[.int .u64 t134, .bool false, .bool false] rfl (by (try simp only [List.map_toArray, List.map_cons, List.map_nil]); first | done | rfl | (simp only [List.length_drop, List.length_take]; rfl)) ?_; (with_reducible refine (fixed_rounded.calls t134 false false t136 t137 _ A14.out).mono ?_); rintro e w' ⟨rfl, ⟨nd, rfl⟩⟩; refine ⟨_, rfl, ?_⟩) | ((with_reducible refine gate_callee (f := 112) rfl ?_); refine goesL_ (some 60) rfl rfl Try.func112 (by kernel_rfl) rfl #[.int .u64 t136, .bool t137, .bool false] rfl (by (try simp only [List.map_toArray, List.map_cons, List.map_nil]); first | done | rfl | (simp only [List.length_drop, List.length_take]; rfl)) ?_; (with_reducible refine (fixed_signed.calls k t136 t137 false t138 _ A15.out).mono ?_); rintro e w' ⟨rfl, ⟨nd, rfl⟩⟩; refine ⟨_, rfl, ?_⟩))
            go_ret
            exact ⟨by first | rfl | (simp; done) | (simp [*]; done), by repeat (first | exact Drawn0.refl _ | apply Drawn0.step)⟩
          · rw [if_neg c13] at H
            have c13b0 : (t135 == 0) = false := beq_eq_false_iff_ne.mpr c13
            have c13b1 : (t135 != 0) = true := bne_iff_ne.mpr c13
            replace H := Option.bind_eq_some_iff.mp H
            obtain ⟨t139, A160, H⟩ := H
            replace H : ((fixed_rounded.f t134 false t139).bind fun bt140 => ((fixed_signed.f k bt140.1 bt140.2 false).bind fun t142 => (some t142))) = some r := H
            have A16 := Aside0.mk A160
            clear A160
            replace H := Option.bind_eq_some_iff.mp H
            obtain ⟨⟨t140, t141⟩, A170, H⟩ := H
            replace H : ((fixed_signed.f k t140 t141 false).bind fun t142 => (some t142)) = some r := H
            have A17 := Aside0.mk A170
            clear A170
            replace H := Option.bind_eq_some_iff.mp H
            obtain ⟨t142, A180, H⟩ := H
            replace H : (some t142) = some r := H
            have A18 := Aside0.mk A180
            clear A180
            obtain rfl := Option.some.inj H
            go_enter Try.func123, Try.ntmps123
            go_wp2_with (first | ((with_reducible refine gate_callee (f := 110) rfl ?_); refine goesL_ (some 26) rfl rfl Try.func110 (by kernel_rfl) rfl #[.int .i64 a0] rfl (by (try simp only [List.map_toArray, List.map_cons, List.map_nil]); first | done | rfl | (simp only [List.length_drop, List.length_take]; rfl)) ?_; (with_reducible refine (fixed_size.calls a0 t131 _ A8.out).mono ?_); rintro e w' ⟨rfl, ⟨nd, rfl⟩⟩; refine ⟨_, rfl, ?_⟩) | ((with_reducible refine gate_callee (f := 110) rfl ?_); refine goesL_ (some 28) rfl rfl Try.func110 (by kernel_rfl) rfl #[.int .i64 a1] rfl (by (try simp only [List.map_toArray, List.map_cons, List.map_nil]); first | done | rfl | (simp only [List.length_drop, List.length_take]; rfl)) ?_; (with_reducible refine (fixed_size.calls a1 t132 _ A9.out).mono ?_); rintro e w' ⟨rfl, ⟨nd, rfl⟩⟩; refine ⟨_, rfl, ?_⟩) | ((with_reducible refine gate_callee (f := 142) rfl ?_); refine goesL_ (some 42) rfl rfl Try.func142 (by kernel_rfl) rfl #[.int .u64 (t131 / 4294967296), .int .u64 (IntKind.u64.wrap (t131 * 4294967296)), .int .u64 t132] rfl (by (try simp only [List.map_toArray, List.map_cons, List.map_nil]); first | done | rfl | (simp only [List.length_drop, List.length_take]; rfl)) ?_; (with_reducible refine (bits_Div64.calls k (t131 / 4294967296) (IntKind.u64.wrap (t131 * 4294967296)) t132 t134 t135 _ A12.out).mono ?_); rintro e w' ⟨rfl, ⟨nd, rfl⟩⟩; refine ⟨_, rfl, ?_⟩) | (go_at_call 134; refine calls_of_args (args' := #[.bool false]) (by first | rfl | rfl) ?_; (with_reducible refine (fixed_Div_1.calls false t139 _ A16.out).mono ?_); rintro e w' ⟨rfl, ⟨nd, rfl⟩⟩) | ((with_reducible refine gate_callee (f := 111) rfl ?_); refine goesL_ (some 54) rfl rfl Try.func111 (by kernel_rfl) rfl #[.int .u64 t134, .bool false, .bool t139] rfl (by (try simp only [List.map_toArray, List.map_cons, List.map_nil]); first | done | rfl | (simp only [List.length_drop, List.length_take]; rfl)) ?_; (with_reducible refine (fixed_rounded.calls t134 false t139 t140 t141 _ A17.out).mono ?_); rintro e w' ⟨rfl, ⟨nd, rfl⟩⟩; refine ⟨_, rfl, ?_⟩) | ((with_reducible refine gate_callee (f := 112) rfl ?_); refine goesL_ (some 60) rfl rfl Try.func112 (by kernel_rfl) rfl #[.int .u64 t140, .bool t141, .bool false] rfl (by (try simp only [List.map_toArray, List.map_cons, List.map_nil]); first | done | rfl | (simp only [List.length_drop, List.length_take]; rfl)) ?_; (with_reducible refine (fixed_signed.calls k t140 t141 false t142 _ A18.out).mono ?_); rintro e w' ⟨rfl, ⟨nd, rfl⟩⟩; refine ⟨_, rfl, ?_⟩))
            go_ret
            exact ⟨by first | rfl | (simp; done) | (simp [*]; done), by repeat (first | exact Drawn0.refl _ | apply Drawn0.step)⟩
      · rw [if_neg c7] at H
        have c7b0 : decide (a1 < 0) = false := decide_eq_false c7
        clear c7
        replace H := Option.bind_eq_some_iff.mp H
        obtain ⟨t143, A190, H⟩ := H
        replace H : ((fixed_size.f a1).bind fun t144 => (if (t143 / 4294967296) ≥ t144 then ((fixed_signed.f k 0 true true).bind fun t145 => (some t145)) else ((bits_Div64.f k (t143 / 4294967296) (IntKind.u64.wrap (t143 * 4294967296)) t144).bind fun bt146 => (if bt146.2 = 0 then ((fixed_rounded.f bt146.1 false false).bind fun bt148 => ((fixed_signed.f k bt148.1 bt148.2 true).bind fun t150 => (some t150))) else ((fixed_Div_1.f true).bind fun t151 => ((fixed_rounded.f bt146.1 false t151).bind fun bt152 => ((fixed_signed.f k bt152.1 bt152.2 true).bind fun t154 => (some t154)))))))) = some r := H
        have A19 := Aside0.mk A190
        clear A190
        replace H := Option.bind_eq_some_iff.mp H
        obtain ⟨t144, A200, H⟩ := H
        replace H : (if (t143 / 4294967296) ≥ t144 then ((fixed_signed.f k 0 true true).bind fun t145 => (some t145)) else ((bits_Div64.f k (t143 / 4294967296) (IntKind.u64.wrap (t143 * 4294967296)) t144).bind fun bt146 => (if bt146.2 = 0 then ((fixed_rounded.f bt146.1 false false).bind fun bt148 => ((fixed_signed.f k bt148.1 bt148.2 true).bind fun t150 => (some t150))) else ((fixed_Div_1.f true).bind fun t151 => ((fixed_rounded.f bt146.1 false t151).bind fun bt152 => ((fixed_signed.f k bt152.1 bt152.2 true).bind fun t154 => (some t154))))))) = some r := H
        have A20 := Aside0.mk A200
        clear A200
        by_cases c21 : (t143 / 4294967296) ≥ t144
        · rw [if_pos c21] at H
          have c21b0 : decide (t144 ≤ (t143 / 4294967296)) = true := decide_eq_true c21
          clear c21
          replace H := Option.bind_eq_some_iff.mp H
          obtain ⟨t145, A220, H⟩ := H
          replace H : (some t145) = some r := H
          have A22 := Aside0.mk A220
          clear A220
          obtain rfl := Option.some.inj H
          go_enter Try.func123, Try.ntmps123
          go_wp2_with (first | ((with_reducible refine gate_callee (f := 110) rfl ?_); refine goesL_ (some 26) rfl rfl Try.func110 (by kernel_rfl) rfl #[.int .i64 a0] rfl (by (try simp only [List.map_toArray, List.map_cons, List.map_nil]); first | done | rfl | (simp only [List.length_drop, List.length_take]; rfl)) ?_; (with_reducible refine (fixed_size.calls a0 t143 _ A19.out).mono ?_); rintro e w' ⟨rfl, ⟨nd, rfl⟩⟩; refine ⟨_, rfl, ?_⟩) | ((with_reducible refine gate_callee (f := 110) rfl ?_); refine goesL_ (some 28) rfl rfl Try.func110 (by kernel_rfl) rfl #[.int .i64 a1] rfl (by (try simp only [List.map_toArray, List.map_cons, List.map_nil]); first | done | rfl | (simp only [List.length_drop, List.length_take]; rfl)) ?_; (with_reducible refine (fixed_size.calls a1 t144 _ A20.out).mono ?_); rintro e w' ⟨rfl, ⟨nd, rfl⟩⟩; refine ⟨_, rfl, ?_⟩) | ((with_reducible refine gate_callee (f := 112) rfl ?_); refine goesL_ (some 37) rfl rfl Try.func112 (by kernel_rfl) rfl #[.int .u64 0, .bool true, .bool true] rfl (by (try simp only [List.map_toArray, List.map_cons, List.map_nil]); first | done | rfl | (simp only [List.length_drop, List.length_take]; rfl)) ?_; (with_reducible refine (fixed_signed.calls k 0 true true t145 _ A22.out).mono ?_); rintro e w' ⟨rfl, ⟨nd, rfl⟩⟩; refine ⟨_, rfl, ?_⟩))
          go_ret
          exact ⟨by first | rfl | (simp; done) | (simp [*]; done), by repeat (first | exact Drawn0.refl _ | apply Drawn0.step)⟩
        · rw [if_neg c21] at H
          have c21b0 : decide (t144 ≤ (t143 / 4294967296)) = false := decide_eq_false c21
          clear c21
          replace H := Option.bind_eq_some_iff.mp H
          obtain ⟨⟨t146, t147⟩, A230, H⟩ := H
          replace H : (if t147 = 0 then ((fixed_rounded.f t146 false false).bind fun bt148 => ((fixed_signed.f k bt148.1 bt148.2 true).bind fun t150 => (some t150))) else ((fixed_Div_1.f true).bind fun t151 => ((fixed_rounded.f t146 false t151).bind fun bt152 => ((fixed_signed.f k bt152.1 bt152.2 true).bind fun t154 => (some t154))))) = some r := H
          have A23 := Aside0.mk A230
          clear A230
          by_cases c24 : t147 = 0
          · rw [if_pos c24] at H
            have c24b0 : (t147 == 0) = true := beq_iff_eq.mpr c24
            have c24b1 : (t147 != 0) = false := bne_eq_false_iff_eq.mpr c24
            clear c24
            replace H := Option.bind_eq_some_iff.mp H
            obtain ⟨⟨t148, t149⟩, A250, H⟩ := H
            replace H : ((fixed_signed.f k t148 t149 true).bind fun t150 => (some t150)) = some r := H
            have A25 := Aside0.mk A250
            clear A250
            replace H := Option.bind_eq_some_iff.mp H
            obtain ⟨t150, A260, H⟩ := H
            replace H : (some t150) = some r := H
            have A26 := Aside0.mk A260
            clear A260
            obtain rfl := Option.some.inj H
            go_enter Try.func123, Try.ntmps123
            go_wp2_with (first | ((with_reducible refine gate_callee (f := 110) rfl ?_); refine goesL_ (some 26) rfl rfl Try.func110 (by kernel_rfl) rfl #[.int .i64 a0] rfl (by (try simp only [List.map_toArray, List.map_cons, List.map_nil]); first | done | rfl | (simp only [List.length_drop, List.length_take]; rfl)) ?_; (with_reducible refine (fixed_size.calls a0 t143 _ A19.out).mono ?_); rintro e w' ⟨rfl, ⟨nd, rfl⟩⟩; refine ⟨_, rfl, ?_⟩) | ((with_reducible refine gate_callee (f := 110) rfl ?_); refine goesL_ (some 28) rfl rfl Try.func110 (by kernel_rfl) rfl #[.int .i64 a1] rfl (by (try simp only [List.map_toArray, List.map_cons, List.map_nil]); first | done | rfl | (simp only [List.length_drop, List.length_take]; rfl)) ?_; (with_reducible refine (fixed_size.calls a1 t144 _ A20.out).mono ?_); rintro e w' ⟨rfl, ⟨nd, rfl⟩⟩; refine ⟨_, rfl, ?_⟩) | ((with_reducible refine gate_callee (f := 142) rfl ?_); refine goesL_ (some 42) rfl rfl Try.func142 (by kernel_rfl) rfl #[.int .u64 (t143 / 4294967296), .int .u64 (IntKind.u64.wrap (t143 * 4294967296)), .int .u64 t144] rfl (by (try simp only [List.map_toArray, List.map_cons, List.map_nil]); first | done | rfl | (simp only [List.length_drop, List.length_take]; rfl)) ?_; (with_reducible refine (bits_Div64.calls k (t143 / 4294967296) (IntKind.u64.wrap (t143 * 4294967296)) t144 t146 t147 _ A23.out).mono ?_); rintro e w' ⟨rfl, ⟨nd, rfl⟩⟩; refine ⟨_, rfl, ?_⟩) | ((with_reducible refine gate_callee (f := 111) rfl ?_); refine goesL_ (some 54) rfl rfl Try.func111 (by kernel_rfl) rfl #[.int .u64 t146, .bool false, .bool false] rfl (by (try simp only [List.map_toArray, List.map_cons, List.map_nil]); first | done | rfl | (simp only [List.length_drop, List.length_take]; rfl)) ?_; (with_reducible refine (fixed_rounded.calls t146 false false t148 t149 _ A25.out).mono ?_); rintro e w' ⟨rfl, ⟨nd, rfl⟩⟩; refine ⟨_, rfl, ?_⟩) | ((with_reducible refine gate_callee (f := 112) rfl ?_); refine goesL_ (some 60) rfl rfl Try.func112 (by kernel_rfl) rfl #[.int .u64 t148, .bool t149, .bool true] rfl (by (try simp only [List.map_toArray, List.map_cons, List.map_nil]); first | done | rfl | (simp only [List.length_drop, List.length_take]; rfl)) ?_; (with_reducible refine (fixed_signed.calls k t148 t149 true t150 _ A26.out).mono ?_); rintro e w' ⟨rfl, ⟨nd, rfl⟩⟩; refine ⟨_, rfl, ?_⟩))
            go_ret
            exact ⟨by first | rfl | (simp; done) | (simp [*]; done), by repeat (first | exact Drawn0.refl _ | apply Drawn0.step)⟩
          · rw [if_neg c24] at H
            have c24b0 : (t147 == 0) = false := beq_eq_false_iff_ne.mpr c24
            have c24b1 : (t147 != 0) = true := bne_iff_ne.mpr c24
            replace H := Option.bind_eq_some_iff.mp H
            obtain ⟨t151, A270, H⟩ := H
            replace H : ((fixed_rounded.f t146 false t151).bind fun bt152 => ((fixed_signed.f k bt152.1 bt152.2 true).bind fun t154 => (some t154))) = some r := H
            have A27 := Aside0.mk A270
            clear A270
            replace H := Option.bind_eq_some_iff.mp H
            obtain ⟨⟨t152, t153⟩, A280, H⟩ := H
            replace H : ((fixed_signed.f k t152 t153 true).bind fun t154 => (some t154)) = some r := H
            have A28 := Aside0.mk A280
            clear A280
            replace H := Option.bind_eq_some_iff.mp H
            obtain ⟨t154, A290, H⟩ := H
            replace H : (some t154) = some r := H
            have A29 := Aside0.mk A290
            clear A290
            obtain rfl := Option.some.inj H
            go_enter Try.func123, Try.ntmps123
            go_wp2_with (first | ((with_reducible refine gate_callee (f := 110) rfl ?_); refine goesL_ (some 26) rfl rfl Try.func110 (by kernel_rfl) rfl #[.int .i64 a0] rfl (by (try simp only [List.map_toArray, List.map_cons, List.map_nil]); first | done | rfl | (simp only [List.length_drop, List.length_take]; rfl)) ?_; (with_reducible refine (fixed_size.calls a0 t143 _ A19.out).mono ?_); rintro e w' ⟨rfl, ⟨nd, rfl⟩⟩; refine ⟨_, rfl, ?_⟩) | ((with_reducible refine gate_callee (f := 110) rfl ?_); refine goesL_ (some 28) rfl rfl Try.func110 (by kernel_rfl) rfl #[.int .i64 a1] rfl (by (try simp only [List.map_toArray, List.map_cons, List.map_nil]); first | done | rfl | (simp only [List.length_drop, List.length_take]; rfl)) ?_; (with_reducible refine (fixed_size.calls a1 t144 _ A20.out).mono ?_); rintro e w' ⟨rfl, ⟨nd, rfl⟩⟩; refine ⟨_, rfl, ?_⟩) | ((with_reducible refine gate_callee (f := 142) rfl ?_); refine goesL_ (some 42) rfl rfl Try.func142 (by kernel_rfl) rfl #[.int .u64 (t143 / 4294967296), .int .u64 (IntKind.u64.wrap (t143 * 4294967296)), .int .u64 t144] rfl (by (try simp only [List.map_toArray, List.map_cons, List.map_nil]); first | done | rfl | (simp only [List.length_drop, List.length_take]; rfl)) ?_; (with_reducible refine (bits_Div64.calls k (t143 / 4294967296) (IntKind.u64.wrap (t143 * 4294967296)) t144 t146 t147 _ A23.out).mono ?_); rintro e w' ⟨rfl, ⟨nd, rfl⟩⟩; refine ⟨_, rfl, ?_⟩) | (go_at_call 134; refine calls_of_args (args' := #[.bool true]) (by first | rfl | rfl) ?_; (with_reducible refine (fixed_Div_1.calls true t151 _ A27.out).mono ?_); rintro e w' ⟨rfl, ⟨nd, rfl⟩⟩) | ((with_reducible refine gate_callee (f := 111) rfl ?_); refine goesL_ (some 54) rfl rfl Try.func111 (by kernel_rfl) rfl #[.int .u64 t146, .bool false, .bool t151] rfl (by (try simp only [List.map_toArray, List.map_cons, List.map_nil]); first | done | rfl | (simp only [List.length_drop, List.length_take]; rfl)) ?_; (with_reducible refine (fixed_rounded.calls t146 false t151 t152 t153 _ A28.out).mono ?_); rintro e w' ⟨rfl, ⟨nd, rfl⟩⟩; refine ⟨_, rfl, ?_⟩) | ((with_reducible refine gate_callee (f := 112) rfl ?_); refine goesL_ (some 60) rfl rfl Try.func112 (by kernel_rfl) rfl #[.int .u64 t152, .bool t153, .bool true] rfl (by (try simp only [List.map_toArray, List.map_cons, List.map_nil]); first | done | rfl | (simp only [List.length_drop, List.length_take]; rfl)) ?_; (with_reducible refine (fixed_signed.calls k t152 t153 true t154 _ A29.out).mono ?_); rintro e w' ⟨rfl, ⟨nd, rfl⟩⟩; refine ⟨_, rfl, ?_⟩))
            go_ret
            exact ⟨by first | rfl | (simp; done) | (simp [*]; done), by repeat (first | exact Drawn0.refl _ | apply Drawn0.step)⟩
    · rw [if_neg c6] at H
      have c6b0 : decide (a0 < 0) = false := decide_eq_false c6
      clear c6
      by_cases c30 : a1 < 0
      · rw [if_pos c30] at H
        have c30b0 : decide (a1 < 0) = true := decide_eq_true c30
        clear c30
        replace H := Option.bind_eq_some_iff.mp H
        obtain ⟨t155, A310, H⟩ := H
        replace H : ((fixed_size.f a1).bind fun t156 => (if (t155 / 4294967296) ≥ t156 then ((fixed_signed.f k 0 true true).bind fun t157 => (some t157)) else ((bits_Div64.f k (t155 / 4294967296) (IntKind.u64.wrap (t155 * 4294967296)) t156).bind fun bt158 => (if bt158.2 = 0 then ((fixed_rounded.f bt158.1 false false).bind fun bt160 => ((fixed_signed.f k bt160.1 bt160.2 true).bind fun t162 => (some t162))) else ((fixed_Div_1.f true).bind fun t163 => ((fixed_rounded.f bt158.1 false t163).bind fun bt164 => ((fixed_signed.f k bt164.1 bt164.2 true).bind fun t166 => (some t166)))))))) = some r := H
        have A31 := Aside0.mk A310
        clear A310
        replace H := Option.bind_eq_some_iff.mp H
        obtain ⟨t156, A320, H⟩ := H
        replace H : (if (t155 / 4294967296) ≥ t156 then ((fixed_signed.f k 0 true true).bind fun t157 => (some t157)) else ((bits_Div64.f k (t155 / 4294967296) (IntKind.u64.wrap (t155 * 4294967296)) t156).bind fun bt158 => (if bt158.2 = 0 then ((fixed_rounded.f bt158.1 false false).bind fun bt160 => ((fixed_signed.f k bt160.1 bt160.2 true).bind fun t162 => (some t162))) else ((fixed_Div_1.f true).bind fun t163 => ((fixed_rounded.f bt158.1 false t163).bind fun bt164 => ((fixed_signed.f k bt164.1 bt164.2 true).bind fun t166 => (some t166))))))) = some r := H
        have A32 := Aside0.mk A320
        clear A320
        by_cases c33 : (t155 / 4294967296) ≥ t156
        · rw [if_pos c33] at H
          have c33b0 : decide (t156 ≤ (t155 / 4294967296)) = true := decide_eq_true c33
          clear c33
          replace H := Option.bind_eq_some_iff.mp H
          obtain ⟨t157, A340, H⟩ := H
          replace H : (some t157) = some r := H
          have A34 := Aside0.mk A340
          clear A340
          obtain rfl := Option.some.inj H
          go_enter Try.func123, Try.ntmps123
          go_wp2_with (first | ((with_reducible refine gate_callee (f := 110) rfl ?_); refine goesL_ (some 26) rfl rfl Try.func110 (by kernel_rfl) rfl #[.int .i64 a0] rfl (by (try simp only [List.map_toArray, List.map_cons, List.map_nil]); first | done | rfl | (simp only [List.length_drop, List.length_take]; rfl)) ?_; (with_reducible refine (fixed_size.calls a0 t155 _ A31.out).mono ?_); rintro e w' ⟨rfl, ⟨nd, rfl⟩⟩; refine ⟨_, rfl, ?_⟩) | ((with_reducible refine gate_callee (f := 110) rfl ?_); refine goesL_ (some 28) rfl rfl Try.func110 (by kernel_rfl) rfl #[.int .i64 a1] rfl (by (try simp only [List.map_toArray, List.map_cons, List.map_nil]); first | done | rfl | (simp only [List.length_drop, List.length_take]; rfl)) ?_; (with_reducible refine (fixed_size.calls a1 t156 _ A32.out).mono ?_); rintro e w' ⟨rfl, ⟨nd, rfl⟩⟩; refine ⟨_, rfl, ?_⟩) | ((with_reducible refine gate_callee (f := 112) rfl ?_); refine goesL_ (some 37) rfl rfl Try.func112 (by kernel_rfl) rfl #[.int .u64 0, .bool true, .bool true] rfl (by (try simp only [List.map_toArray, List.map_cons, List.map_nil]); first | done | rfl | (simp only [List.length_drop, List.length_take]; rfl)) ?_; (with_reducible refine (fixed_signed.calls k 0 true true t157 _ A34.out).mono ?_); rintro e w' ⟨rfl, ⟨nd, rfl⟩⟩; refine ⟨_, rfl, ?_⟩))
          go_ret
          exact ⟨by first | rfl | (simp; done) | (simp [*]; done), by repeat (first | exact Drawn0.refl _ | apply Drawn0.step)⟩
        · rw [if_neg c33] at H
          have c33b0 : decide (t156 ≤ (t155 / 4294967296)) = false := decide_eq_false c33
          clear c33
          replace H := Option.bind_eq_some_iff.mp H
          obtain ⟨⟨t158, t159⟩, A350, H⟩ := H
          replace H : (if t159 = 0 then ((fixed_rounded.f t158 false false).bind fun bt160 => ((fixed_signed.f k bt160.1 bt160.2 true).bind fun t162 => (some t162))) else ((fixed_Div_1.f true).bind fun t163 => ((fixed_rounded.f t158 false t163).bind fun bt164 => ((fixed_signed.f k bt164.1 bt164.2 true).bind fun t166 => (some t166))))) = some r := H
          have A35 := Aside0.mk A350
          clear A350
          by_cases c36 : t159 = 0
          · rw [if_pos c36] at H
            have c36b0 : (t159 == 0) = true := beq_iff_eq.mpr c36
            have c36b1 : (t159 != 0) = false := bne_eq_false_iff_eq.mpr c36
            clear c36
            replace H := Option.bind_eq_some_iff.mp H
            obtain ⟨⟨t160, t161⟩, A370, H⟩ := H
            replace H : ((fixed_signed.f k t160 t161 true).bind fun t162 => (some t162)) = some r := H
            have A37 := Aside0.mk A370
            clear A370
            replace H := Option.bind_eq_some_iff.mp H
            obtain ⟨t162, A380, H⟩ := H
            replace H : (some t162) = some r := H
            have A38 := Aside0.mk A380
            clear A380
            obtain rfl := Option.some.inj H
            go_enter Try.func123, Try.ntmps123
            go_wp2_with (first | ((with_reducible refine gate_callee (f := 110) rfl ?_); refine goesL_ (some 26) rfl rfl Try.func110 (by kernel_rfl) rfl #[.int .i64 a0] rfl (by (try simp only [List.map_toArray, List.map_cons, List.map_nil]); first | done | rfl | (simp only [List.length_drop, List.length_take]; rfl)) ?_; (with_reducible refine (fixed_size.calls a0 t155 _ A31.out).mono ?_); rintro e w' ⟨rfl, ⟨nd, rfl⟩⟩; refine ⟨_, rfl, ?_⟩) | ((with_reducible refine gate_callee (f := 110) rfl ?_); refine goesL_ (some 28) rfl rfl Try.func110 (by kernel_rfl) rfl #[.int .i64 a1] rfl (by (try simp only [List.map_toArray, List.map_cons, List.map_nil]); first | done | rfl | (simp only [List.length_drop, List.length_take]; rfl)) ?_; (with_reducible refine (fixed_size.calls a1 t156 _ A32.out).mono ?_); rintro e w' ⟨rfl, ⟨nd, rfl⟩⟩; refine ⟨_, rfl, ?_⟩) | ((with_reducible refine gate_callee (f := 142) rfl ?_); refine goesL_ (some 42) rfl rfl Try.func142 (by kernel_rfl) rfl #[.int .u64 (t155 / 4294967296), .int .u64 (IntKind.u64.wrap (t155 * 4294967296)), .int .u64 t156] rfl (by (try simp only [List.map_toArray, List.map_cons, List.map_nil]); first | done | rfl | (simp only [List.length_drop, List.length_take]; rfl)) ?_; (with_reducible refine (bits_Div64.calls k (t155 / 4294967296) (IntKind.u64.wrap (t155 * 4294967296)) t156 t158 t159 _ A35.out).mono ?_); rintro e w' ⟨rfl, ⟨nd, rfl⟩⟩; refine ⟨_, rfl, ?_⟩) | ((with_reducible refine gate_callee (f := 111) rfl ?_); refine goesL_ (some 54) rfl rfl Try.func111 (by kernel_rfl) rfl #[.int .u64 t158, .bool false, .bool false] rfl (by (try simp only [List.map_toArray, List.map_cons, List.map_nil]); first | done | rfl | (simp only [List.length_drop, List.length_take]; rfl)) ?_; (with_reducible refine (fixed_rounded.calls t158 false false t160 t161 _ A37.out).mono ?_); rintro e w' ⟨rfl, ⟨nd, rfl⟩⟩; refine ⟨_, rfl, ?_⟩) | ((with_reducible refine gate_callee (f := 112) rfl ?_); refine goesL_ (some 60) rfl rfl Try.func112 (by kernel_rfl) rfl #[.int .u64 t160, .bool t161, .bool true] rfl (by (try simp only [List.map_toArray, List.map_cons, List.map_nil]); first | done | rfl | (simp only [List.length_drop, List.length_take]; rfl)) ?_; (with_reducible refine (fixed_signed.calls k t160 t161 true t162 _ A38.out).mono ?_); rintro e w' ⟨rfl, ⟨nd, rfl⟩⟩; refine ⟨_, rfl, ?_⟩))
            go_ret
            exact ⟨by first | rfl | (simp; done) | (simp [*]; done), by repeat (first | exact Drawn0.refl _ | apply Drawn0.step)⟩
          · rw [if_neg c36] at H
            have c36b0 : (t159 == 0) = false := beq_eq_false_iff_ne.mpr c36
            have c36b1 : (t159 != 0) = true := bne_iff_ne.mpr c36
            replace H := Option.bind_eq_some_iff.mp H
            obtain ⟨t163, A390, H⟩ := H
            replace H : ((fixed_rounded.f t158 false t163).bind fun bt164 => ((fixed_signed.f k bt164.1 bt164.2 true).bind fun t166 => (some t166))) = some r := H
            have A39 := Aside0.mk A390
            clear A390
            replace H := Option.bind_eq_some_iff.mp H
            obtain ⟨⟨t164, t165⟩, A400, H⟩ := H
            replace H : ((fixed_signed.f k t164 t165 true).bind fun t166 => (some t166)) = some r := H
            have A40 := Aside0.mk A400
            clear A400
            replace H := Option.bind_eq_some_iff.mp H
            obtain ⟨t166, A410, H⟩ := H
            replace H : (some t166) = some r := H
            have A41 := Aside0.mk A410
            clear A410
            obtain rfl := Option.some.inj H
            go_enter Try.func123, Try.ntmps123
            go_wp2_with (first | ((with_reducible refine gate_callee (f := 110) rfl ?_); refine goesL_ (some 26) rfl rfl Try.func110 (by kernel_rfl) rfl #[.int .i64 a0] rfl (by (try simp only [List.map_toArray, List.map_cons, List.map_nil]); first | done | rfl | (simp only [List.length_drop, List.length_take]; rfl)) ?_; (with_reducible refine (fixed_size.calls a0 t155 _ A31.out).mono ?_); rintro e w' ⟨rfl, ⟨nd, rfl⟩⟩; refine ⟨_, rfl, ?_⟩) | ((with_reducible refine gate_callee (f := 110) rfl ?_); refine goesL_ (some 28) rfl rfl Try.func110 (by kernel_rfl) rfl #[.int .i64 a1] rfl (by (try simp only [List.map_toArray, List.map_cons, List.map_nil]); first | done | rfl | (simp only [List.length_drop, List.length_take]; rfl)) ?_; (with_reducible refine (fixed_size.calls a1 t156 _ A32.out).mono ?_); rintro e w' ⟨rfl, ⟨nd, rfl⟩⟩; refine ⟨_, rfl, ?_⟩) | ((with_reducible refine gate_callee (f := 142) rfl ?_); refine goesL_ (some 42) rfl rfl Try.func142 (by kernel_rfl) rfl #[.int .u64 (t155 / 4294967296), .int .u64 (IntKind.u64.wrap (t155 * 4294967296)), .int .u64 t156] rfl (by (try simp only [List.map_toArray, List.map_cons, List.map_nil]); first | done | rfl | (simp only [List.length_drop, List.length_take]; rfl)) ?_; (with_reducible refine (bits_Div64.calls k (t155 / 4294967296) (IntKind.u64.wrap (t155 * 4294967296)) t156 t158 t159 _ A35.out).mono ?_); rintro e w' ⟨rfl, ⟨nd, rfl⟩⟩; refine ⟨_, rfl, ?_⟩) | (go_at_call 134; refine calls_of_args (args' := #[.bool true]) (by first | rfl | rfl) ?_; (with_reducible refine (fixed_Div_1.calls true t163 _ A39.out).mono ?_); rintro e w' ⟨rfl, ⟨nd, rfl⟩⟩) | ((with_reducible refine gate_callee (f := 111) rfl ?_); refine goesL_ (some 54) rfl rfl Try.func111 (by kernel_rfl) rfl #[.int .u64 t158, .bool false, .bool t163] rfl (by (try simp only [List.map_toArray, List.map_cons, List.map_nil]); first | done | rfl | (simp only [List.length_drop, List.length_take]; rfl)) ?_; (with_reducible refine (fixed_rounded.calls t158 false t163 t164 t165 _ A40.out).mono ?_); rintro e w' ⟨rfl, ⟨nd, rfl⟩⟩; refine ⟨_, rfl, ?_⟩) | ((with_reducible refine gate_callee (f := 112) rfl ?_); refine goesL_ (some 60) rfl rfl Try.func112 (by kernel_rfl) rfl #[.int .u64 t164, .bool t165, .bool true] rfl (by (try simp only [List.map_toArray, List.map_cons, List.map_nil]); first | done | rfl | (simp only [List.length_drop, List.length_take]; rfl)) ?_; (with_reducible refine (fixed_signed.calls k t164 t165 true t166 _ A41.out).mono ?_); rintro e w' ⟨rfl, ⟨nd, rfl⟩⟩; refine ⟨_, rfl, ?_⟩))
            go_ret
            exact ⟨by first | rfl | (simp; done) | (simp [*]; done), by repeat (first | exact Drawn0.refl _ | apply Drawn0.step)⟩
      · rw [if_neg c30] at H
        have c30b0 : decide (a1 < 0) = false := decide_eq_false c30
        clear c30
        replace H := Option.bind_eq_some_iff.mp H
        obtain ⟨t167, A420, H⟩ := H
        replace H : ((fixed_size.f a1).bind fun t168 => (if (t167 / 4294967296) ≥ t168 then ((fixed_signed.f k 0 true false).bind fun t169 => (some t169)) else ((bits_Div64.f k (t167 / 4294967296) (IntKind.u64.wrap (t167 * 4294967296)) t168).bind fun bt170 => (if bt170.2 = 0 then ((fixed_rounded.f bt170.1 false false).bind fun bt172 => ((fixed_signed.f k bt172.1 bt172.2 false).bind fun t174 => (some t174))) else ((fixed_Div_1.f false).bind fun t175 => ((fixed_rounded.f bt170.1 false t175).bind fun bt176 => ((fixed_signed.f k bt176.1 bt176.2 false).bind fun t178 => (some t178)))))))) = some r := H
        have A42 := Aside0.mk A420
        clear A420
        replace H := Option.bind_eq_some_iff.mp H
        obtain ⟨t168, A430, H⟩ := H
        replace H : (if (t167 / 4294967296) ≥ t168 then ((fixed_signed.f k 0 true false).bind fun t169 => (some t169)) else ((bits_Div64.f k (t167 / 4294967296) (IntKind.u64.wrap (t167 * 4294967296)) t168).bind fun bt170 => (if bt170.2 = 0 then ((fixed_rounded.f bt170.1 false false).bind fun bt172 => ((fixed_signed.f k bt172.1 bt172.2 false).bind fun t174 => (some t174))) else ((fixed_Div_1.f false).bind fun t175 => ((fixed_rounded.f bt170.1 false t175).bind fun bt176 => ((fixed_signed.f k bt176.1 bt176.2 false).bind fun t178 => (some t178))))))) = some r := H
        have A43 := Aside0.mk A430
        clear A430
        by_cases c44 : (t167 / 4294967296) ≥ t168
        · rw [if_pos c44] at H
          have c44b0 : decide (t168 ≤ (t167 / 4294967296)) = true := decide_eq_true c44
          clear c44
          replace H := Option.bind_eq_some_iff.mp H
          obtain ⟨t169, A450, H⟩ := H
          replace H : (some t169) = some r := H
          have A45 := Aside0.mk A450
          clear A450
          obtain rfl := Option.some.inj H
          go_enter Try.func123, Try.ntmps123
          go_wp2_with (first | ((with_reducible refine gate_callee (f := 110) rfl ?_); refine goesL_ (some 26) rfl rfl Try.func110 (by kernel_rfl) rfl #[.int .i64 a0] rfl (by (try simp only [List.map_toArray, List.map_cons, List.map_nil]); first | done | rfl | (simp only [List.length_drop, List.length_take]; rfl)) ?_; (with_reducible refine (fixed_size.calls a0 t167 _ A42.out).mono ?_); rintro e w' ⟨rfl, ⟨nd, rfl⟩⟩; refine ⟨_, rfl, ?_⟩) | ((with_reducible refine gate_callee (f := 110) rfl ?_); refine goesL_ (some 28) rfl rfl Try.func110 (by kernel_rfl) rfl #[.int .i64 a1] rfl (by (try simp only [List.map_toArray, List.map_cons, List.map_nil]); first | done | rfl | (simp only [List.length_drop, List.length_take]; rfl)) ?_; (with_reducible refine (fixed_size.calls a1 t168 _ A43.out).mono ?_); rintro e w' ⟨rfl, ⟨nd, rfl⟩⟩; refine ⟨_, rfl, ?_⟩) | ((with_reducible refine gate_callee (f := 112) rfl ?_); refine goesL_ (some 37) rfl rfl Try.func112 (by kernel_rfl) rfl #[.int .u64 0, .bool true, .bool false] rfl (by (try simp only [List.map_toArray, List.map_cons, List.map_nil]); first | done | rfl | (simp only [List.length_drop, List.length_take]; rfl)) ?_; (with_reducible refine (fixed_signed.calls k 0 true false t169 _ A45.out).mono ?_); rintro e w' ⟨rfl, ⟨nd, rfl⟩⟩; refine ⟨_, rfl, ?_⟩))
          go_ret
          exact ⟨by first | rfl | (simp; done) | (simp [*]; done), by repeat (first | exact Drawn0.refl _ | apply Drawn0.step)⟩
        · rw [if_neg c44] at H
          have c44b0 : decide (t168 ≤ (t167 / 4294967296)) = false := decide_eq_false c44
          clear c44
          replace H := Option.bind_eq_some_iff.mp H
          obtain ⟨⟨t170, t171⟩, A460, H⟩ := H
          replace H : (if t171 = 0 then ((fixed_rounded.f t170 false false).bind fun bt172 => ((fixed_signed.f k bt172.1 bt172.2 false).bind fun t174 => (some t174))) else ((fixed_Div_1.f false).bind fun t175 => ((fixed_rounded.f t170 false t175).bind fun bt176 => ((fixed_signed.f k bt176.1 bt176.2 false).bind fun t178 => (some t178))))) = some r := H
          have A46 := Aside0.mk A460
          clear A460
          by_cases c47 : t171 = 0
          · rw [if_pos c47] at H
            have c47b0 : (t171 == 0) = true := beq_iff_eq.mpr c47
            have c47b1 : (t171 != 0) = false := bne_eq_false_iff_eq.mpr c47
            clear c47
            replace H := Option.bind_eq_some_iff.mp H
            obtain ⟨⟨t172, t173⟩, A480, H⟩ := H
            replace H : ((fixed_signed.f k t172 t173 false).bind fun t174 => (some t174)) = some r := H
            have A48 := Aside0.mk A480
            clear A480
            replace H := Option.bind_eq_some_iff.mp H
            obtain ⟨t174, A490, H⟩ := H
            replace H : (some t174) = some r := H
            have A49 := Aside0.mk A490
            clear A490
            obtain rfl := Option.some.inj H
            go_enter Try.func123, Try.ntmps123
            go_wp2_with (first | ((with_reducible refine gate_callee (f := 110) rfl ?_); refine goesL_ (some 26) rfl rfl Try.func110 (by kernel_rfl) rfl #[.int .i64 a0] rfl (by (try simp only [List.map_toArray, List.map_cons, List.map_nil]); first | done | rfl | (simp only [List.length_drop, List.length_take]; rfl)) ?_; (with_reducible refine (fixed_size.calls a0 t167 _ A42.out).mono ?_); rintro e w' ⟨rfl, ⟨nd, rfl⟩⟩; refine ⟨_, rfl, ?_⟩) | ((with_reducible refine gate_callee (f := 110) rfl ?_); refine goesL_ (some 28) rfl rfl Try.func110 (by kernel_rfl) rfl #[.int .i64 a1] rfl (by (try simp only [List.map_toArray, List.map_cons, List.map_nil]); first | done | rfl | (simp only [List.length_drop, List.length_take]; rfl)) ?_; (with_reducible refine (fixed_size.calls a1 t168 _ A43.out).mono ?_); rintro e w' ⟨rfl, ⟨nd, rfl⟩⟩; refine ⟨_, rfl, ?_⟩) | ((with_reducible refine gate_callee (f := 142) rfl ?_); refine goesL_ (some 42) rfl rfl Try.func142 (by kernel_rfl) rfl #[.int .u64 (t167 / 4294967296), .int .u64 (IntKind.u64.wrap (t167 * 4294967296)), .int .u64 t168] rfl (by (try simp only [List.map_toArray, List.map_cons, List.map_nil]); first | done | rfl | (simp only [List.length_drop, List.length_take]; rfl)) ?_; (with_reducible refine (bits_Div64.calls k (t167 / 4294967296) (IntKind.u64.wrap (t167 * 4294967296)) t168 t170 t171 _ A46.out).mono ?_); rintro e w' ⟨rfl, ⟨nd, rfl⟩⟩; refine ⟨_, rfl, ?_⟩) | ((with_reducible refine gate_callee (f := 111) rfl ?_); refine goesL_ (some 54) rfl rfl Try.func111 (by kernel_rfl) rfl #[.int .u64 t170, .bool false, .bool false] rfl (by (try simp only [List.map_toArray, List.map_cons, List.map_nil]); first | done | rfl | (simp only [List.length_drop, List.length_take]; rfl)) ?_; (with_reducible refine (fixed_rounded.calls t170 false false t172 t173 _ A48.out).mono ?_); rintro e w' ⟨rfl, ⟨nd, rfl⟩⟩; refine ⟨_, rfl, ?_⟩) | ((with_reducible refine gate_callee (f := 112) rfl ?_); refine goesL_ (some 60) rfl rfl Try.func112 (by kernel_rfl) rfl #[.int .u64 t172, .bool t173, .bool false] rfl (by (try simp only [List.map_toArray, List.map_cons, List.map_nil]); first | done | rfl | (simp only [List.length_drop, List.length_take]; rfl)) ?_; (with_reducible refine (fixed_signed.calls k t172 t173 false t174 _ A49.out).mono ?_); rintro e w' ⟨rfl, ⟨nd, rfl⟩⟩; refine ⟨_, rfl, ?_⟩))
            go_ret
            exact ⟨by first | rfl | (simp; done) | (simp [*]; done), by repeat (first | exact Drawn0.refl _ | apply Drawn0.step)⟩
          · rw [if_neg c47] at H
            have c47b0 : (t171 == 0) = false := beq_eq_false_iff_ne.mpr c47
            have c47b1 : (t171 != 0) = true := bne_iff_ne.mpr c47
            replace H := Option.bind_eq_some_iff.mp H
            obtain ⟨t175, A500, H⟩ := H
            replace H : ((fixed_rounded.f t170 false t175).bind fun bt176 => ((fixed_signed.f k bt176.1 bt176.2 false).bind fun t178 => (some t178))) = some r := H
            have A50 := Aside0.mk A500
            clear A500
            replace H := Option.bind_eq_some_iff.mp H
            obtain ⟨⟨t176, t177⟩, A510, H⟩ := H
            replace H : ((fixed_signed.f k t176 t177 false).bind fun t178 => (some t178)) = some r := H
            have A51 := Aside0.mk A510
            clear A510
            replace H := Option.bind_eq_some_iff.mp H
            obtain ⟨t178, A520, H⟩ := H
            replace H : (some t178) = some r := H
            have A52 := Aside0.mk A520
            clear A520
            obtain rfl := Option.some.inj H
            go_enter Try.func123, Try.ntmps123
            go_wp2_with (first | ((with_reducible refine gate_callee (f := 110) rfl ?_); refine goesL_ (some 26) rfl rfl Try.func110 (by kernel_rfl) rfl #[.int .i64 a0] rfl (by (try simp only [List.map_toArray, List.map_cons, List.map_nil]); first | done | rfl | (simp only [List.length_drop, List.length_take]; rfl)) ?_; (with_reducible refine (fixed_size.calls a0 t167 _ A42.out).mono ?_); rintro e w' ⟨rfl, ⟨nd, rfl⟩⟩; refine ⟨_, rfl, ?_⟩) | ((with_reducible refine gate_callee (f := 110) rfl ?_); refine goesL_ (some 28) rfl rfl Try.func110 (by kernel_rfl) rfl #[.int .i64 a1] rfl (by (try simp only [List.map_toArray, List.map_cons, List.map_nil]); first | done | rfl | (simp only [List.length_drop, List.length_take]; rfl)) ?_; (with_reducible refine (fixed_size.calls a1 t168 _ A43.out).mono ?_); rintro e w' ⟨rfl, ⟨nd, rfl⟩⟩; refine ⟨_, rfl, ?_⟩) | ((with_reducible refine gate_callee (f := 142) rfl ?_); refine goesL_ (some 42) rfl rfl Try.func142 (by kernel_rfl) rfl #[.int .u64 (t167 / 4294967296), .int .u64 (IntKind.u64.wrap (t167 * 4294967296)), .int .u64 t168] rfl (by (try simp only [List.map_toArray, List.map_cons, List.map_nil]); first | done | rfl | (simp only [List.length_drop, List.length_take]; rfl)) ?_; (with_reducible refine (bits_Div64.calls k (t167 / 4294967296) (IntKind.u64.wrap (t167 * 4294967296)) t168 t170 t171 _ A46.out).mono ?_); rintro e w' ⟨rfl, ⟨nd, rfl⟩⟩; refine ⟨_, rfl, ?_⟩) | (go_at_call 134; refine calls_of_args (args' := #[.bool false]) (by first | rfl | rfl) ?_; (with_reducible refine (fixed_Div_1.calls false t175 _ A50.out).mono ?_); rintro e w' ⟨rfl, ⟨nd, rfl⟩⟩) | ((with_reducible refine gate_callee (f := 111) rfl ?_); refine goesL_ (some 54) rfl rfl Try.func111 (by kernel_rfl) rfl #[.int .u64 t170, .bool false, .bool t175] rfl (by (try simp only [List.map_toArray, List.map_cons, List.map_nil]); first | done | rfl | (simp only [List.length_drop, List.length_take]; rfl)) ?_; (with_reducible refine (fixed_rounded.calls t170 false t175 t176 t177 _ A51.out).mono ?_); rintro e w' ⟨rfl, ⟨nd, rfl⟩⟩; refine ⟨_, rfl, ?_⟩) | ((with_reducible refine gate_callee (f := 112) rfl ?_); refine goesL_ (some 60) rfl rfl Try.func112 (by kernel_rfl) rfl #[.int .u64 t176, .bool t177, .bool false] rfl (by (try simp only [List.map_toArray, List.map_cons, List.map_nil]); first | done | rfl | (simp only [List.length_drop, List.length_take]; rfl)) ?_; (with_reducible refine (fixed_signed.calls k t176 t177 false t178 _ A52.out).mono ?_); rintro e w' ⟨rfl, ⟨nd, rfl⟩⟩; refine ⟨_, rfl, ?_⟩))
            go_ret
            exact ⟨by first | rfl | (simp; done) | (simp [*]; done), by repeat (first | exact Drawn0.refl _ | apply Drawn0.step)⟩
def fixed_Div.f (k : Nat) (a0 : Int) (a1 : Int) : Option (Int) := (fixed_quotient_134.f k a0 a1).bind fun t179 => (some t179)
set_option maxHeartbeats 8000000 in
set_option maxRecDepth 100000 in
theorem fixed_Div.calls (k : Nat) (a0 : Int) (a1 : Int) (r : Int) (w : World) (h : fixed_Div.f k a0 a1 = some r) :
    Calls Try.prog 102 #[.int .i64 a0, .int .i64 a1] w fun e w' => e = .returned (.int .i64 r) ∧ Drawn0 w w' := by
  have H : ((fixed_quotient_134.f k a0 a1).bind fun t179 => (some t179)) = some r := h
  clear h
  replace H := Option.bind_eq_some_iff.mp H
  obtain ⟨t179, A30, H⟩ := H
  replace H : (some t179) = some r := H
  have A3 := Aside0.mk A30
  clear A30
  obtain rfl := Option.some.inj H
  go_enter Try.func102, Try.ntmps102
  go_wp2_with (first | ((with_reducible refine gate_callee (f := 123) rfl ?_); refine goesL_ (some 7) rfl rfl Try.func123 (by kernel_rfl) rfl #[.int .i64 a0, .int .i64 a1, .func (.func 134) #[] #[]] rfl (by (try simp only [List.map_toArray, List.map_cons, List.map_nil]); first | done | rfl | (simp only [List.length_drop, List.length_take]; rfl)) ?_; (with_reducible refine (fixed_quotient_134.calls k a0 a1  t179 _ A3.out).mono ?_); rintro e w' ⟨rfl, ⟨nd, rfl⟩⟩; refine ⟨_, rfl, ?_⟩))
  go_ret
  exact ⟨by first | rfl | (simp; done) | (simp [*]; done), by repeat (first | exact Drawn0.refl _ | apply Drawn0.step)⟩
end Go.Proofs.Ytemnfnbjapobcaa.Fix
end
section
namespace Go.Proofs.Ytemnfnbjapobcaa.Fix
open Go.RowKit Go.Proofs.YtemnfnbjapobcaaW.PrintWords Go.Proofs.YtemnfnbjapobcaaW.PrintLast Go.Proofs.YtemnfnbjapobcaaW.PrintMore
attribute [local go_sem] max2_int min2_int max_two min_two max_three min_three max_four min_four   -- for this text's walks alone
set_option linter.unusedVariables false
set_option linter.unusedSimpArgs false
def fixed_Of.f (a0 : Int) : Option (Int) := if a0 ≥ 2147483648 then (some 9223372036854775807) else (if a0 < (-2147483648) then (some (-9223372036854775808)) else (some (wrap64 (a0 * 4294967296))))
set_option maxHeartbeats 8000000 in
set_option maxRecDepth 100000 in
theorem fixed_Of.calls (a0 : Int) (r : Int) (w : World) (h : fixed_Of.f a0 = some r) :
    Calls Try.prog 69 #[.int .i64 a0] w fun e w' => e = .returned (.int .i64 r) ∧ Drawn0 w w' := by
  have H : (if a0 ≥ 2147483648 then (some 9223372036854775807) else (if a0 < (-2147483648) then (some (-9223372036854775808)) else (some (wrap64 (a0 * 4294967296))))) = some r := h
  clear h
  by_cases c2 : a0 ≥ 2147483648
  · rw [if_pos c2] at H
    have c2b0 : decide (2147483648 ≤ a0) = true := decide_eq_true c2
    clear c2
    obtain rfl := Option.some.inj H
    go_enter Try.func69, Try.ntmps69
    go_wp2
    go_ret
    exact ⟨by first | rfl | (simp; done) | (simp [*]; done), by repeat (first | exact Drawn0.refl _ | apply Drawn0.step)⟩
  · rw [if_neg c2] at H
    have c2b0 : decide (2147483648 ≤ a0) = false := decide_eq_false c2
    clear c2
    by_cases c3 : a0 < (-2147483648)
    · rw [if_pos c3] at H
      have c3b0 : decide (a0 < (-2147483648)) = true := decide_eq_true c3
      clear c3
      obtain rfl := Option.some.inj H
      go_enter Try.func69, Try.ntmps69
      go_wp2
      go_ret
      exact ⟨by first | rfl | (simp; done) | (simp [*]; done), by repeat (first | exact Drawn0.refl _ | apply Drawn0.step)⟩
    · rw [if_neg c3] at H
      have c3b0 : decide (a0 < (-2147483648)) = false := decide_eq_false c3
      clear c3
      obtain rfl := Option.some.inj H
      go_enter Try.func69, Try.ntmps69
      go_wp2
      go_ret
      exact ⟨by first | rfl | (simp; done) | (simp [*]; done), by repeat (first | exact Drawn0.refl _ | apply Drawn0.step)⟩
end Go.Proofs.Ytemnfnbjapobcaa.Fix
end
section
namespace Go.Proofs.Ytemnfnbjapobcaa.FS
open Go.RowKit Go.Proofs.Ytemnfnbjapobcaa.Fix Go.Proofs.Ytemnfnbjapobcaa.FM Go.Proofs.YtemnfnbjapobcaaW.PrintWords Go.Proofs.YtemnfnbjapobcaaW.PrintLast Go.Proofs.YtemnfnbjapobcaaW.PrintMore
def In (x : Int) : Prop := -9223372036854775808 ≤ x ∧ x ≤ 9223372036854775807
theorem in_sat (z : Int) : In (sat z) := ⟨sat_ge z, sat_le z⟩
theorem add_eq {k : Nat} (hk : 400 ≤ k) {a b : Int} (ha : In a) (hb : In b) : fixed_Add.f k a b = some (sat (a + b)) := by
  obtain ⟨k, rfl⟩ : ∃ m, k = m + 1 := ⟨k - 1, by omega⟩
  obtain ⟨a0, a1⟩ := ha
  obtain ⟨b0, b1⟩ := hb
  unfold fixed_Add.f
  simp only [fixed_Add.j0]
  unfold wrap64 sat
  repeat' split
  all_goals first | (congr 1; omega) | (simp_all; done) | (simp_all; omega)
theorem sub_eq {k : Nat} (hk : 400 ≤ k) {a b : Int} (ha : In a) (hb : In b) : fixed_Sub.f k a b = some (sat (a - b)) := by
  obtain ⟨k, rfl⟩ : ∃ m, k = m + 1 := ⟨k - 1, by omega⟩
  obtain ⟨a0, a1⟩ := ha
  obtain ⟨b0, b1⟩ := hb
  unfold fixed_Sub.f
  simp only [fixed_Sub.j0]
  unfold wrap64 sat
  repeat' split
  all_goals first | (congr 1; omega) | (simp_all; done) | (simp_all; omega)
theorem of_eq {n : Int} (_hn : In n) : fixed_Of.f n = some (sat (n * 4294967296)) := by
  unfold fixed_Of.f wrap64 sat
  repeat' split
  all_goals first | rfl | (congr 1; omega) | omega
theorem size_eq {a : Int} (ha : In a) : fixed_size.f a = some (sz a) := by
  obtain ⟨a0, a1⟩ := ha
  unfold fixed_size.f sz
  simp only [u64w]
  repeat' split
  all_goals (congr 1; omega)
theorem rounded_eq (m : Int) (h0 : 0 ≤ m) (more : Bool) : fixed_rounded.f (m % 18446744073709551616) (decide (18446744073709551616 ≤ m)) more =
    some ((m + if more then 1 else 0) % 18446744073709551616, decide (18446744073709551616 ≤ m + if more then 1 else 0)) := by
  unfold fixed_rounded.f
  simp only [u64w]
  cases more
  · simp
  · by_cases h : 18446744073709551616 ≤ m
    · simp only [if_true, h]
      have h2 : 18446744073709551616 ≤ m + 1 := by omega
      simp [h2]
    · simp only [if_true, decide_eq_false h]
      simp only [Bool.false_eq_true, if_false]
      congr 2
      · omega
      · rw [Bool.eq_iff_iff]; simp; omega
theorem signed_eq {k : Nat} (hk : 1 ≤ k) (m : Int) (h0 : 0 ≤ m) (below : Bool) : fixed_signed.f k (m % 18446744073709551616) (decide (18446744073709551616 ≤ m)) below = some (sat (if below then -m else m)) := by
  obtain ⟨k, rfl⟩ : ∃ q, k = q + 1 := ⟨k - 1, by omega⟩
  unfold fixed_signed.f
  simp only [fixed_signed.j0]
  unfold wrap64 sat
  cases below
  · by_cases h : 18446744073709551616 ≤ m
    · simp [h]
      repeat' split
      all_goals first | done | rfl | omega
    · simp [h]
      repeat' split
      all_goals first | rfl | (congr 1; omega) | omega | (simp; omega)
  · by_cases h : 18446744073709551616 ≤ m
    · simp [h]
      repeat' split
      all_goals first | done | rfl | omega
    · simp [h]
      repeat' split
      all_goals first | rfl | (congr 1; omega) | omega | (simp; omega)
theorem prod_bd {x y m : Int} (hx0 : 0 ≤ x) (hx : x ≤ m) (hy0 : 0 ≤ y) (hy : y ≤ m) : 0 ≤ x * y ∧ x * y ≤ m * m :=
  ⟨Int.mul_nonneg hx0 hy0, Int.mul_le_mul hx hy hy0 (by omega)⟩
theorem mul_parts (P : Int) (_h0 : 0 ≤ P) : Go.bits .or .u64 (IntKind.u64.wrap (P / 18446744073709551616 * 4294967296)) (P % 18446744073709551616 / 4294967296) = (P / 4294967296) % 18446744073709551616 := by
  rw [u64w, or_join _ _ (by omega) (by omega) (by omega) (by omega) (by omega)]
  omega
theorem mul_over (P : Int) (_h0 : 0 ≤ P) : ((P / 18446744073709551616 / 4294967296) != 0) = decide (18446744073709551616 ≤ P / 4294967296) := by
  rw [Bool.eq_iff_iff]; simp; omega
theorem mul_rest (P : Int) (_h0 : 0 ≤ P) : ((IntKind.u64.wrap (P % 18446744073709551616 * 4294967296)) != 0) = decide (P % 4294967296 ≠ 0) := by
  rw [u64w, Bool.eq_iff_iff]; simp; omega
theorem sz_mul {a b : Int} : a * b = if (decide (a < 0) != decide (b < 0)) then -(sz a * sz b) else sz a * sz b := by
  unfold sz
  by_cases h1 : a < 0 <;> by_cases h2 : b < 0 <;> simp [h1, h2, Int.neg_mul, Int.mul_neg]
theorem mul_floor (P : Int) (_h0 : 0 ≤ P) : -P / 4294967296 = -(P / 4294967296 + if P % 4294967296 ≠ 0 then 1 else 0) := by
  split <;> omega
theorem mul64_eq {a b : Int} (ha : In a) (hb : In b) : bits_Mul64.f (sz a) (sz b) = some (sz a * sz b / 18446744073709551616, sz a * sz b % 18446744073709551616) := by
  have a0 := sz_nonneg a
  have b0 := sz_nonneg b
  have a1 := sz_le ha.1 ha.2
  have b1 := sz_le hb.1 hb.2
  unfold bits_Mul64.f
  rw [if_pos ⟨a0, by omega, b0, by omega⟩]
theorem mul_eq {k : Nat} (hk : 400 ≤ k) {a b : Int} (ha : In a) (hb : In b) : fixed_Mul.f k a b = some (sat (a * b / 4294967296)) := by
  have hP := Int.mul_nonneg (sz_nonneg a) (sz_nonneg b)
  unfold fixed_Mul.f
  simp only [size_eq ha, size_eq hb, Option.bind_some, mul64_eq ha hb, mul_parts _ hP, mul_over _ hP, mul_rest _ hP]
  have q0 : 0 ≤ sz a * sz b / 4294967296 := by omega
  simp only [rounded_eq _ q0, Option.bind_some]
  have e := @sz_mul a b
  have hf := mul_floor (sz a * sz b) hP
  by_cases h1 : a < 0
  · by_cases h2 : b < 0
    · rw [if_pos h1, if_pos h2, signed_eq (by omega) _ (by omega)]
      simp [h1, h2] at e
      rw [e]; simp
    · rw [if_pos h1, if_neg h2, signed_eq (by omega) _ (by split <;> omega)]
      simp [h1, h2] at e
      rw [e, hf]; simp
  · by_cases h2 : b < 0
    · rw [if_neg h1, if_pos h2, signed_eq (by omega) _ (by split <;> omega)]
      simp [h1, h2] at e
      rw [e, hf]; simp
    · rw [if_neg h1, if_neg h2, signed_eq (by omega) _ (by omega)]
      simp [h1, h2] at e
      rw [e]; simp
end Go.Proofs.Ytemnfnbjapobcaa.FS
end
section
namespace Go.Proofs.Ytemnfnbjapobcaa.FS
open Go.RowKit Go.Proofs.Ytemnfnbjapobcaa.Fix Go.Proofs.Ytemnfnbjapobcaa.FM Go.Proofs.YtemnfnbjapobcaaW.PrintWords Go.Proofs.YtemnfnbjapobcaaW.PrintLast Go.Proofs.YtemnfnbjapobcaaW.PrintMore
structure Dig (y yn1 yn0 un32 un1 q r : Int) : Prop where
  hy : y = yn1 * 4294967296 + yn0
  hn1 : 2147483648 ≤ yn1
  hn1' : yn1 < 4294967296
  hn0 : 0 ≤ yn0
  hn0' : yn0 < 4294967296
  hu : 0 ≤ un32
  huy : un32 < y
  h1 : 0 ≤ un1
  h1' : un1 < 4294967296
  q0 : 0 ≤ q
  q1 : q ≤ 4294967297
  rr : q * yn1 + r = un32
  r0 : 0 ≤ r
  r1 : r < 4294967296
  up : un32 * 4294967296 + un1 < q * y + y
theorem Dig.qy {y yn1 yn0 un32 un1 q r : Int} (h : Dig y yn1 yn0 un32 un1 q r) : q * y = (un32 - r) * 4294967296 + q * yn0 := by
  have a := h.hy
  have b := h.rr
  rw [a]; grind
theorem Dig.ypos {y yn1 yn0 un32 un1 q r : Int} (h : Dig y yn1 yn0 un32 un1 q r) : 0 < y := by
  have a := h.hy; have b := h.hn1; have c := h.hn0; omega
theorem Dig.no {y yn1 yn0 un32 un1 q r : Int} (h : Dig y yn1 yn0 un32 un1 q r) (hc : q * yn0 ≤ 4294967296 * r + un1) : q = (un32 * 4294967296 + un1) / y := by
  have hq := h.qy
  have h1 : q ≤ (un32 * 4294967296 + un1) / y := (Int.le_ediv_iff_mul_le h.ypos).2 (by omega)
  have h2 : (un32 * 4294967296 + un1) / y < q + 1 := (Int.ediv_lt_iff_lt_mul h.ypos).2 (by
    have := h.up
    have e : (q + 1) * y = q * y + y := by grind
    omega)
  omega
theorem Dig.yes {y yn1 yn0 un32 un1 q r : Int} (h : Dig y yn1 yn0 un32 un1 q r) (hc : 4294967296 ≤ q ∨ 4294967296 * r + un1 < q * yn0) : un32 * 4294967296 + un1 < q * y ∧ 1 ≤ q := by
  have hy := h.ypos
  have a1 := h.huy; have a2 := h.h1'; have a3 := h.hu; have a4 := h.h1
  have key : un32 * 4294967296 + un1 < q * y := by
    rcases hc with hc | hc
    · have := Int.mul_le_mul_of_nonneg_right hc (Int.le_of_lt hy)
      omega
    · have hq := h.qy
      omega
  refine ⟨key, ?_⟩
  by_cases hz : q ≤ 0
  · have hq0 := h.q0
    obtain rfl : q = 0 := by omega
    omega
  · omega
theorem Dig.next {y yn1 yn0 un32 un1 q r : Int} (h : Dig y yn1 yn0 un32 un1 q r) (hc : 4294967296 ≤ q ∨ 4294967296 * r + un1 < q * yn0) (hr : r + yn1 < 4294967296) : Dig y yn1 yn0 un32 un1 (q - 1) (r + yn1) := by
  obtain ⟨k1, k2⟩ := h.yes hc
  have e1 : (q - 1) * y = q * y - y := by grind
  have e2 : (q - 1) * yn1 = q * yn1 - yn1 := by grind
  exact { h with q0 := by omega, q1 := by have := h.q1; omega, rr := by have := h.rr; omega, r0 := by have := h.r0; have := h.hn1; omega, r1 := hr, up := by omega }
theorem Dig.stop {y yn1 yn0 un32 un1 q r : Int} (h : Dig y yn1 yn0 un32 un1 q r) (hc : 4294967296 ≤ q ∨ 4294967296 * r + un1 < q * yn0) (hr : 4294967296 ≤ r + yn1) : q - 1 = (un32 * 4294967296 + un1) / y := by
  obtain ⟨k1, k2⟩ := h.yes hc
  have hq := h.qy
  have e1 : (q - 1) * y = q * y - y := by grind
  have e3 : (q - 1) * yn0 = q * yn0 - yn0 := by grind
  have hm : (q - 1) * yn0 ≤ 4294967296 * 4294967295 := Int.mul_le_mul (by have := h.q1; omega) (by have := h.hn0'; omega) h.hn0 (by decide)
  have a1 := h.hy; have a2 := h.h1
  have h1 : q - 1 ≤ (un32 * 4294967296 + un1) / y := (Int.le_ediv_iff_mul_le h.ypos).2 (by omega)
  have h2 : (un32 * 4294967296 + un1) / y < q := (Int.ediv_lt_iff_lt_mul h.ypos).2 (by omega)
  omega
theorem Dig.start {y yn1 yn0 un32 un1 : Int} (hy : y = yn1 * 4294967296 + yn0) (hn1 : 2147483648 ≤ yn1) (hn1' : yn1 < 4294967296) (hn0 : 0 ≤ yn0) (hn0' : yn0 < 4294967296) (hu : 0 ≤ un32) (huy : un32 < y) (h1 : 0 ≤ un1) (h1' : un1 < 4294967296) :
    Dig y yn1 yn0 un32 un1 (un32 / yn1) (un32 - un32 / yn1 * yn1) := by
  have hp : 0 < yn1 := by omega
  have d1 := Int.emod_add_mul_ediv un32 yn1
  have d2 := Int.emod_nonneg un32 (show yn1 ≠ 0 by omega)
  have d3 := Int.emod_lt_of_pos un32 hp
  have e0 : un32 / yn1 * yn1 = yn1 * (un32 / yn1) := Int.mul_comm _ _
  have q0 : 0 ≤ un32 / yn1 := Int.ediv_nonneg hu (by omega)
  have q1 : un32 / yn1 < 4294967298 := (Int.ediv_lt_iff_lt_mul hp).2 (by omega)
  refine ⟨hy, hn1, hn1', hn0, hn0', hu, huy, h1, h1', q0, by omega, by omega, by omega, by omega, ?_⟩
  have e1 : un32 / yn1 * y + y = (yn1 * (un32 / yn1) + yn1) * 4294967296 + (un32 / yn1 * yn0 + yn0) := by rw [hy]; grind
  have e2 : 0 ≤ un32 / yn1 * yn0 := Int.mul_nonneg q0 hn0
  omega
theorem Dig.prod {y yn1 yn0 un32 un1 q r : Int} (h : Dig y yn1 yn0 un32 un1 q r) (hq : q < 4294967296) : 0 ≤ q * yn0 ∧ q * yn0 < 18446744073709551616 := by
  have := prod_bd (m := 4294967295) h.q0 (by omega) h.hn0 (by have := h.hn0'; omega)
  omega
theorem l0_eq (y s yn1 yn0 un32 un1 un0 : Int) (n : Nat) : ∀ (k : Nat) (q r : Int), 2 * n + 2 ≤ k → Dig y yn1 yn0 un32 un1 q r → 4294967296 ≤ r + n * 2147483648 →
    ∃ k', k ≤ k' + 2 * n + 2 ∧ bits_Div64.l0 k y s yn1 yn0 un32 un1 un0 q r = bits_Div64.j2 k' y s yn1 yn0 un32 un1 un0 ((un32 * 4294967296 + un1) / y) := by
  induction n with
  | zero => intro k q r _ h hm; have := h.r1; omega
  | succ n ih =>
    intro k q r hk h hm
    obtain ⟨k, rfl⟩ : ∃ m, k = m + 2 := ⟨k - 2, by omega⟩
    have hr0 := h.r0; have hr1 := h.r1; have hq0 := h.q0; have hq1 := h.q1; have b1 := h.h1; have b2 := h.h1'; have b3 := h.hn1; have b4 := h.hn1'
    have w1 : IntKind.u64.wrap (r + yn1) = r + yn1 := by rw [u64w]; omega
    have goes : (4294967296 ≤ q ∨ 4294967296 * r + un1 < q * yn0) → ∃ k', k + 2 ≤ k' + 2 * (n + 1) + 2 ∧ bits_Div64.j1 (k + 1) y s yn1 yn0 un32 un1 un0 q r true = bits_Div64.j2 k' y s yn1 yn0 un32 un1 un0 ((un32 * 4294967296 + un1) / y) := by
      intro hc
      have hq2 := (h.yes hc).2
      have w2 : IntKind.u64.wrap (q - 1) = q - 1 := by rw [u64w]; omega
      simp only [bits_Div64.j1, if_true, w1, w2]
      by_cases hs : r + yn1 ≥ 4294967296
      · rw [if_pos hs, h.stop hc hs]
        exact ⟨k, by omega, rfl⟩
      · rw [if_neg hs]
        obtain ⟨k', hk', e⟩ := ih k (q - 1) (r + yn1) (by omega) (h.next hc (by omega)) (by omega)
        exact ⟨k', by omega, e⟩
    simp only [bits_Div64.l0]
    by_cases hb : q ≥ 4294967296
    · rw [if_pos hb]
      exact goes (.inl hb)
    · rw [if_neg hb]
      have hp := h.prod (by omega)
      have w3 : IntKind.u64.wrap (q * yn0) = q * yn0 := by rw [u64w]; omega
      have w4 : IntKind.u64.wrap (IntKind.u64.wrap (4294967296 * r) + un1) = 4294967296 * r + un1 := by simp only [u64w]; omega
      rw [w3, w4]
      by_cases hc : q * yn0 > 4294967296 * r + un1
      · rw [decide_eq_true hc]
        exact goes (.inr hc)
      · rw [decide_eq_false hc]
        simp only [bits_Div64.j1]
        rw [if_neg (by decide), ← h.no (by omega)]
        exact ⟨k, by omega, rfl⟩
theorem l1_eq (y s yn1 yn0 un0 q1 un21 : Int) (hs0 : 0 ≤ s) (n : Nat) : ∀ (k : Nat) (q r : Int), 2 * n + 2 ≤ k → Dig y yn1 yn0 un21 un0 q r → 4294967296 ≤ r + n * 2147483648 →
    bits_Div64.l1 k y s yn1 yn0 un0 q1 r un21 q = some (IntKind.u64.wrap ((IntKind.u64.wrap (q1 * 4294967296)) + (un21 * 4294967296 + un0) / y), shr .u64 (IntKind.u64.wrap ((IntKind.u64.wrap ((IntKind.u64.wrap (un21 * 4294967296)) + un0)) - (IntKind.u64.wrap ((un21 * 4294967296 + un0) / y * y)))) s) := by
  induction n with
  | zero => intro k q r _ h hm; have := h.r1; omega
  | succ n ih =>
    intro k q r hk h hm
    obtain ⟨k, rfl⟩ : ∃ m, k = m + 2 := ⟨k - 2, by omega⟩
    have hr0 := h.r0; have hr1 := h.r1; have hq0 := h.q0; have hq1 := h.q1; have b1 := h.h1; have b2 := h.h1'; have b3 := h.hn1; have b4 := h.hn1'
    have w1 : IntKind.u64.wrap (r + yn1) = r + yn1 := by rw [u64w]; omega
    have goes : (4294967296 ≤ q ∨ 4294967296 * r + un0 < q * yn0) → bits_Div64.j4 (k + 1) y s yn1 yn0 un0 q1 r un21 q true = some (IntKind.u64.wrap ((IntKind.u64.wrap (q1 * 4294967296)) + (un21 * 4294967296 + un0) / y), shr .u64 (IntKind.u64.wrap ((IntKind.u64.wrap ((IntKind.u64.wrap (un21 * 4294967296)) + un0)) - (IntKind.u64.wrap ((un21 * 4294967296 + un0) / y * y)))) s) := by
      intro hc
      have hq2 := (h.yes hc).2
      have w2 : IntKind.u64.wrap (q - 1) = q - 1 := by rw [u64w]; omega
      simp only [bits_Div64.j4, if_true, w1, w2]
      by_cases hs : r + yn1 ≥ 4294967296
      · rw [if_pos hs, if_pos hs0, h.stop hc hs]
      · rw [if_neg hs]
        exact ih k (q - 1) (r + yn1) (by omega) (h.next hc (by omega)) (by omega)
    simp only [bits_Div64.l1]
    by_cases hb : q ≥ 4294967296
    · rw [if_pos hb]
      exact goes (.inl hb)
    · rw [if_neg hb]
      have hp := h.prod (by omega)
      have w3 : IntKind.u64.wrap (q * yn0) = q * yn0 := by rw [u64w]; omega
      have w4 : IntKind.u64.wrap (IntKind.u64.wrap (4294967296 * r) + un0) = 4294967296 * r + un0 := by simp only [u64w]; omega
      rw [w3, w4]
      by_cases hc : q * yn0 > 4294967296 * r + un0
      · rw [decide_eq_true hc]
        exact goes (.inr hc)
      · rw [decide_eq_false hc]
        simp only [bits_Div64.j4]
        rw [if_neg (by decide), if_pos hs0, ← h.no (by omega)]
theorem bitLenAux_le (f x : Nat) : Lib.bitLenAux f x ≤ f := by
  induction f generalizing x with
  | zero => exact Nat.le_refl _
  | succ f ih =>
    unfold Lib.bitLenAux
    split
    · omega
    · have := ih (x / 2); omega
theorem bitLenAux_spec (f : Nat) : ∀ x : Nat, x ≠ 0 → x < 2 ^ f → 1 ≤ Lib.bitLenAux f x ∧ 2 ^ (Lib.bitLenAux f x - 1) ≤ x ∧ x < 2 ^ Lib.bitLenAux f x := by
  induction f with
  | zero => intro x h0 h1; simp at h1; omega
  | succ f ih =>
    intro x h0 h1
    unfold Lib.bitLenAux
    rw [if_neg h0]
    by_cases hz : x / 2 = 0
    · have e : Lib.bitLenAux f (x / 2) = 0 := by rw [hz]; cases f <;> simp [Lib.bitLenAux]
      rw [e]
      refine ⟨by omega, ?_, ?_⟩
      · simp; omega
      · simp; omega
    · obtain ⟨g0, g1, g2⟩ := ih (x / 2) hz (by rw [Nat.pow_succ] at h1; omega)
      refine ⟨by omega, ?_, ?_⟩
      · rw [show 1 + Lib.bitLenAux f (x / 2) - 1 = (Lib.bitLenAux f (x / 2) - 1) + 1 by omega, Nat.pow_succ]; omega
      · rw [show 1 + Lib.bitLenAux f (x / 2) = Lib.bitLenAux f (x / 2) + 1 by omega, Nat.pow_succ]; omega
theorem norm (y : Int) (h0 : 0 < y) (h1 : y < 18446744073709551616) :
    ∃ s : Nat, s ≤ 63 ∧ (64 - (Lib.bitLen y.toNat : Int)) = s ∧ 9223372036854775808 ≤ y * 2 ^ s ∧ y * 2 ^ s < 18446744073709551616 := by
  obtain ⟨n, rfl⟩ := Int.eq_ofNat_of_zero_le (Int.le_of_lt h0)
  have hn0 : n ≠ 0 := by omega
  obtain ⟨g0, g1, g2⟩ := bitLenAux_spec 64 n hn0 (by omega)
  have g3 := bitLenAux_le 64 n
  have hb : Lib.bitLen (n : Int).toNat = Lib.bitLenAux 64 n := rfl
  rw [hb]
  generalize Lib.bitLenAux 64 n = L at *
  refine ⟨64 - L, by omega, by omega, ?_, ?_⟩
  · have e : 2 ^ (L - 1) * 2 ^ (64 - L) = 9223372036854775808 := by
      rw [← Nat.pow_add, show L - 1 + (64 - L) = 63 by omega]
    have := Nat.mul_le_mul_right (2 ^ (64 - L)) g1
    rw [e] at this
    have z : ((n * 2 ^ (64 - L) : Nat) : Int) = (n : Int) * 2 ^ (64 - L) := by simp
    rw [← z]
    omega
  · have e : 2 ^ L * 2 ^ (64 - L) = 18446744073709551616 := by
      rw [← Nat.pow_add, show L + (64 - L) = 64 by omega]
    have := Nat.mul_lt_mul_of_pos_right g2 (Nat.two_pow_pos (64 - L))
    rw [e] at this
    have z : ((n * 2 ^ (64 - L) : Nat) : Int) = (n : Int) * 2 ^ (64 - L) := by simp
    rw [← z]
    omega
theorem shl_eq (x : Int) (s : Nat) (hs : s ≤ 64) : shl .u64 x s = (x * 2 ^ s) % 18446744073709551616 := by
  unfold shl
  rw [u64w]
  have e : min (s : Int).toNat IntKind.u64.bits = s := by show min s 64 = s; omega
  rw [e]
theorem shr_eq (x : Int) (s : Nat) (hs : s ≤ 64) : shr .u64 x s = x / 2 ^ s := by
  unfold shr
  have e : min (s : Int).toNat IntKind.u64.bits = s := by show min s 64 = s; omega
  rw [e]
theorem div64_eq {k : Nat} (hk : 20 ≤ k) {hi lo y : Int} (h0 : 0 ≤ hi) (hy : hi < y) (hy1 : y < 18446744073709551616) (l0 : 0 ≤ lo) (l1 : lo < 18446744073709551616) :
    bits_Div64.f k hi lo y = some ((hi * 18446744073709551616 + lo) / y, (hi * 18446744073709551616 + lo) % y) := by
  unfold bits_Div64.f
  rw [if_neg (by omega), if_neg (by omega)]
  by_cases hz : hi = 0
  · rw [if_pos hz]
    subst hz
    have e1 : lo.tdiv y = lo / y := Int.tdiv_eq_ediv_of_nonneg l0
    have e2 : lo.tmod y = lo % y := Int.tmod_eq_emod_of_nonneg l0
    rw [e1, e2, u64w]
    have d1 := Int.ediv_nonneg l0 (show 0 ≤ y by omega)
    have d2 := Int.ediv_le_self y l0
    rw [Int.emod_eq_of_lt d1 (by omega)]
    simp
  rw [if_neg hz]
  obtain ⟨s, hs, es, n1, n2⟩ := norm y (by omega) hy1
  unfold bits_LeadingZeros64.f
  rw [if_pos (by omega), if_pos (by omega), es]
  simp only [Option.bind_some]
  have ws : IntKind.u64.wrap (s : Int) = s := by rw [u64w]; omega
  have ws2 : IntKind.u64.wrap (64 - (s : Int)) = ((64 - s : Nat) : Int) := by rw [u64w]; omega
  rw [ws, ws2, if_pos (by omega), if_pos (by omega)]
  simp only [shl_eq _ s (by omega), shr_eq _ (64 - s) (by omega)]
  obtain ⟨p, hp⟩ : ∃ p : Int, (2 : Int) ^ s = p := ⟨_, rfl⟩
  obtain ⟨p', hp'⟩ : ∃ p' : Int, (2 : Int) ^ (64 - s) = p' := ⟨_, rfl⟩
  have hpp : p * p' = 18446744073709551616 := by
    rw [← hp, ← hp', ← Int.pow_add, show s + (64 - s) = 64 by omega]
    decide
  have hp0 : 0 < p := by rw [← hp]; exact Int.pow_pos (by decide)
  have hp0' : 0 < p' := by rw [← hp']; exact Int.pow_pos (by decide)
  rw [hp] at n1 n2
  rw [hp, hp']
  have hyn : y * p % 18446744073709551616 = y * p := Int.emod_eq_of_lt (by omega) n2
  have hhi : hi * p % 18446744073709551616 = hi * p := by
    have := Int.mul_lt_mul_of_pos_right hy hp0
    exact Int.emod_eq_of_lt (Int.mul_nonneg h0 (by omega)) (by omega)
  rw [hyn, hhi]
  have l2 := Int.emod_add_mul_ediv lo p'
  have l3 := Int.emod_nonneg lo (show p' ≠ 0 by omega)
  have l4 := Int.emod_lt_of_pos lo hp0'
  have l5 : lo / p' < p := (Int.ediv_lt_iff_lt_mul hp0').2 (by omega)
  have l6 : 0 ≤ lo / p' := Int.ediv_nonneg l0 (by omega)
  have l7 : lo * p = (lo / p') * 18446744073709551616 + lo % p' * p := by
    have : lo * p = (lo % p' + p' * (lo / p')) * p := by rw [l2]
    rw [this, ← hpp]; grind
  have l8 : lo % p' * p < 18446744073709551616 := by
    have := Int.mul_lt_mul_of_pos_right l4 hp0
    rw [Int.mul_comm p' p, hpp] at this
    exact this
  have l9 : 0 ≤ lo % p' * p := Int.mul_nonneg l3 (by omega)
  have l10 : lo * p % 18446744073709551616 = lo % p' * p := by omega
  have h1 : hi * p + p ≤ y * p := by
    have := Int.mul_le_mul_of_nonneg_right (show hi + 1 ≤ y by omega) (show 0 ≤ p by omega)
    have e : (hi + 1) * p = hi * p + p := by grind
    omega
  have h2 : 0 ≤ hi * p := Int.mul_nonneg h0 (by omega)
  have hor : Go.bits .or .u64 (hi * p) (lo / p') = hi * p + lo / p' := by
    refine bits_join .u64 64 (by decide) wraps_u64 s _ _ h2 ?_ (by omega) l6 (by rw [hp]; exact l5) (by omega)
    rw [hp]; exact Int.mul_emod_left _ _
  rw [hor, l10]
  have hT : (hi * 18446744073709551616 + lo) * p = (hi * p + lo / p') * 18446744073709551616 + lo % p' * p := by
    have : (hi * 18446744073709551616 + lo) * p = hi * p * 18446744073709551616 + lo * p := by grind
    rw [this, l7]; grind
  have eq1 : (hi * 18446744073709551616 + lo) / y = (hi * 18446744073709551616 + lo) * p / (y * p) := (Int.mul_ediv_mul_of_pos_left _ _ hp0).symm
  have eq2 : (hi * 18446744073709551616 + lo) % y = (hi * 18446744073709551616 + lo) * p % (y * p) / p := by
    rw [Int.mul_comm _ p, Int.mul_comm y p, Int.mul_emod_mul_of_pos _ _ hp0, Int.mul_ediv_cancel_left _ (by omega)]
  rw [eq1, eq2, hT]
  have hup : hi * p + lo / p' < y * p := by omega
  have hun : 0 ≤ hi * p + lo / p' := by omega
  generalize hi * p + lo / p' = u at *
  generalize lo % p' * p = v at *
  generalize y * p = yn at *
  clear eq1 eq2 hT h1 h2 hor l2 l3 l4 l5 l6 l7 l10 hhi hyn
  rw [and_low yn (by omega) n2, and_low v l9 l8]
  rw [if_neg (by omega)]
  obtain ⟨y1, hy1⟩ : ∃ x, yn / 4294967296 = x := ⟨_, rfl⟩
  obtain ⟨y0, hy0⟩ : ∃ x, yn % 4294967296 = x := ⟨_, rfl⟩
  obtain ⟨v1, hv1⟩ : ∃ x, v / 4294967296 = x := ⟨_, rfl⟩
  obtain ⟨v0, hv0⟩ : ∃ x, v % 4294967296 = x := ⟨_, rfl⟩
  rw [hy1, hy0, hv1, hv0]
  have S := Dig.start (y := yn) (yn1 := y1) (yn0 := y0) (un32 := u) (un1 := v1) (by omega) (by omega) (by omega) (by omega) (by omega) hun hup (by omega) (by omega)
  have t1 : u.tdiv y1 = u / y1 := Int.tdiv_eq_ediv_of_nonneg hun
  have hS0 := S.q0; have hS1 := S.q1; have hSr := S.rr; have hSr0 := S.r0; have hSr1 := S.r1
  have t2 : IntKind.u64.wrap (u / y1) = u / y1 := by rw [u64w]; omega
  have t3 : IntKind.u64.wrap (u - IntKind.u64.wrap (u / y1 * y1)) = u - u / y1 * y1 := by simp only [u64w]; omega
  rw [t1, t2, t3]
  obtain ⟨k', hk', e⟩ := l0_eq yn s y1 y0 u v1 v0 2 k _ _ (by omega) S (by omega)
  rw [e]
  obtain ⟨k', rfl⟩ : ∃ m, k' = m + 1 := ⟨k' - 1, by omega⟩
  simp only [bits_Div64.j2]
  rw [if_neg (by omega)]
  have hyp : 0 < yn := by omega
  have c1 := Int.emod_add_mul_ediv (u * 4294967296 + v1) yn
  have c2 := Int.emod_nonneg (u * 4294967296 + v1) (show yn ≠ 0 by omega)
  have c3 := Int.emod_lt_of_pos (u * 4294967296 + v1) hyp
  have c4 : (u * 4294967296 + v1) / yn < 4294967296 := (Int.ediv_lt_iff_lt_mul hyp).2 (by omega)
  have c5 : 0 ≤ (u * 4294967296 + v1) / yn := Int.ediv_nonneg (by omega) (by omega)
  have c6 : (u * 4294967296 + v1) / yn * yn = yn * ((u * 4294967296 + v1) / yn) := Int.mul_comm _ _
  obtain ⟨q1, hq1⟩ : ∃ x, (u * 4294967296 + v1) / yn = x := ⟨_, rfl⟩
  obtain ⟨r1, hr1⟩ : ∃ x, (u * 4294967296 + v1) % yn = x := ⟨_, rfl⟩
  rw [hq1] at c1 c4 c5 c6 ⊢
  rw [hr1] at c1 c2 c3
  rw [c6]
  have w21 : IntKind.u64.wrap (IntKind.u64.wrap (IntKind.u64.wrap (u * 4294967296) + v1) - IntKind.u64.wrap (yn * q1)) = r1 := by simp only [u64w]; omega
  rw [w21]
  have S2 := Dig.start (y := yn) (yn1 := y1) (yn0 := y0) (un32 := r1) (un1 := v0) (by omega) (by omega) (by omega) (by omega) (by omega) c2 c3 (by omega) (by omega)
  have t4 : r1.tdiv y1 = r1 / y1 := Int.tdiv_eq_ediv_of_nonneg c2
  have hZ0 := S2.q0; have hZ1 := S2.q1; have hZr := S2.rr; have hZr0 := S2.r0; have hZr1 := S2.r1
  have t5 : IntKind.u64.wrap (r1 / y1) = r1 / y1 := by rw [u64w]; omega
  have t6 : IntKind.u64.wrap (r1 - IntKind.u64.wrap (r1 / y1 * y1)) = r1 - r1 / y1 * y1 := by simp only [u64w]; omega
  rw [t4, t5, t6, l1_eq yn s y1 y0 v0 q1 r1 (by omega) 2 k' _ _ (by omega) S2 (by omega), shr_eq _ s (by omega), hp]
  have f1 := Int.emod_add_mul_ediv (r1 * 4294967296 + v0) yn
  have f2 := Int.emod_nonneg (r1 * 4294967296 + v0) (show yn ≠ 0 by omega)
  have f3 := Int.emod_lt_of_pos (r1 * 4294967296 + v0) hyp
  have f4 : (r1 * 4294967296 + v0) / yn < 4294967296 := (Int.ediv_lt_iff_lt_mul hyp).2 (by omega)
  have f5 : 0 ≤ (r1 * 4294967296 + v0) / yn := Int.ediv_nonneg (by omega) (by omega)
  have f6 : (r1 * 4294967296 + v0) / yn * yn = yn * ((r1 * 4294967296 + v0) / yn) := Int.mul_comm _ _
  obtain ⟨q0, hq0⟩ : ∃ x, (r1 * 4294967296 + v0) / yn = x := ⟨_, rfl⟩
  obtain ⟨r0, hr0⟩ : ∃ x, (r1 * 4294967296 + v0) % yn = x := ⟨_, rfl⟩
  rw [hq0] at f1 f4 f5 f6 ⊢
  rw [hr0] at f1 f2 f3
  rw [f6]
  have w22 : IntKind.u64.wrap (IntKind.u64.wrap (IntKind.u64.wrap (r1 * 4294967296) + v0) - IntKind.u64.wrap (yn * q0)) = r0 := by simp only [u64w]; omega
  have w23 : IntKind.u64.wrap (IntKind.u64.wrap (q1 * 4294967296) + q0) = q1 * 4294967296 + q0 := by simp only [u64w]; omega
  rw [w22, w23]
  have fin := (Int.ediv_emod_unique (a := u * 18446744073709551616 + v) (b := yn) (r := r0) (q := q1 * 4294967296 + q0) hyp).2 ⟨by
    have e1 : yn * (q1 * 4294967296 + q0) = yn * q1 * 4294967296 + yn * q0 := by grind
    rw [e1]; omega, f2, f3⟩
  rw [fin.1, fin.2]
end Go.Proofs.Ytemnfnbjapobcaa.FS
end
section
namespace Go.Proofs.Ytemnfnbjapobcaa.FS
open Go.RowKit Go.Proofs.Ytemnfnbjapobcaa.Fix Go.Proofs.Ytemnfnbjapobcaa.FM Go.Proofs.YtemnfnbjapobcaaW.PrintWords Go.Proofs.YtemnfnbjapobcaaW.PrintLast Go.Proofs.YtemnfnbjapobcaaW.PrintMore
def edgeS (a : Int) : Int := if a > 0 then 9223372036854775807 else if a < 0 then -9223372036854775808 else 0
def quoS (up : Bool → Bool) (a b : Int) : Int :=
  if b = 0 then edgeS a else
    sat (if (decide (a < 0) != decide (b < 0)) then -(sz a * 4294967296 / sz b + (if (sz a * 4294967296 % sz b != 0 && up true) then 1 else 0))
      else sz a * 4294967296 / sz b + (if (sz a * 4294967296 % sz b != 0 && up false) then 1 else 0))
def divS (a b : Int) : Int := quoS id a b
theorem edge_eq (a : Int) : fixed_edge.f a = some (edgeS a) := by unfold fixed_edge.f edgeS; split; rfl; split <;> rfl
theorem sz_pos {b : Int} (h : b ≠ 0) : 0 < sz b := by unfold sz; split <;> omega
theorem signed_big {k : Nat} (hk : 1 ≤ k) (m : Int) (h : 18446744073709551616 ≤ m) (below : Bool) : fixed_signed.f k 0 true below = some (sat (if below then -m else m)) := by
  obtain ⟨k, rfl⟩ : ∃ q, k = q + 1 := ⟨k - 1, by omega⟩
  unfold fixed_signed.f
  simp only [fixed_signed.j0]
  cases below
  · simp [sat_hi (show 9223372036854775807 ≤ m by omega)]
  · simp [sat_lo (show -m ≤ -9223372036854775808 by omega)]
theorem way_eq {k : Nat} (hk : 400 ≤ k) {a b : Int} (ha : In a) (hb : In b) (hz : b ≠ 0) (below : Bool) :
    (if sz a / 4294967296 ≥ sz b then fixed_signed.f k 0 true below = some (sat (if below then -(sz a * 4294967296 / sz b) else sz a * 4294967296 / sz b)) ∧ 18446744073709551616 ≤ sz a * 4294967296 / sz b
     else bits_Div64.f k (sz a / 4294967296) (IntKind.u64.wrap (sz a * 4294967296)) (sz b) = some (sz a * 4294967296 / sz b, sz a * 4294967296 % sz b) ∧ 0 ≤ sz a * 4294967296 / sz b ∧ sz a * 4294967296 / sz b < 18446744073709551616) := by
  have a0 := sz_nonneg a
  have b0 := sz_pos hz
  have a1 := sz_le ha.1 ha.2
  have b1 := sz_le hb.1 hb.2
  generalize sz a = n at *
  generalize sz b = d at *
  split
  · rename_i h
    have : 18446744073709551616 ≤ n * 4294967296 / d := (Int.le_ediv_iff_mul_le b0).2 (by omega)
    exact ⟨signed_big (by omega) _ this below, this⟩
  · rename_i h
    have e : n / 4294967296 * 18446744073709551616 + IntKind.u64.wrap (n * 4294967296) = n * 4294967296 := by rw [u64w]; omega
    have h1 := div64_eq (k := k) (by omega) (hi := n / 4294967296) (lo := IntKind.u64.wrap (n * 4294967296)) (y := d) (by omega) (by omega) (by omega) (by rw [u64w]; omega) (by rw [u64w]; omega)
    rw [e] at h1
    exact ⟨h1, Int.ediv_nonneg (by omega) (by omega), (Int.ediv_lt_iff_lt_mul b0).2 (by omega)⟩
theorem rounded_small (q : Int) (h0 : 0 ≤ q) (h1 : q < 18446744073709551616) (more : Bool) : fixed_rounded.f q false more =
    some ((q + if more then 1 else 0) % 18446744073709551616, decide (18446744073709551616 ≤ q + if more then 1 else 0)) := by
  have h := rounded_eq q h0 more
  rw [Int.emod_eq_of_lt h0 h1, decide_eq_false (by omega)] at h
  exact h
theorem div_eq {k : Nat} (hk : 400 ≤ k) {a b : Int} (ha : In a) (hb : In b) : fixed_Div.f k a b = some (divS a b) := by
  unfold fixed_Div.f fixed_quotient_134.f divS quoS
  by_cases hz : b = 0
  · rw [if_pos hz, if_pos hz, edge_eq]; rfl
  rw [if_neg hz, if_neg hz]
  simp only [size_eq ha, size_eq hb, Option.bind_some, fixed_Div_1.f]
  have W := fun below => way_eq hk ha hb hz below
  have b0 := sz_pos hz
  have r0 := Int.emod_nonneg (sz a * 4294967296) (show sz b ≠ 0 by omega)
  by_cases hbig : sz a / 4294967296 ≥ sz b
  · simp only [if_pos hbig] at W ⊢
    have W1 := W true
    have W2 := W false
    have sat1 : ∀ m : Int, 18446744073709551616 ≤ m → ∀ c : Bool, sat (-(m + if c then 1 else 0)) = sat (-m) := by
      intro m hm c; rw [sat_lo (show -m ≤ _ by omega), sat_lo (by split <;> omega)]
    by_cases h1 : a < 0 <;> by_cases h2 : b < 0 <;> simp [h1, h2, W1.1, W2.1]
    all_goals (have := sat1 _ W1.2 (sz a * 4294967296 % sz b != 0); simp at this; rw [this])
  · simp only [if_neg hbig] at W ⊢
    obtain ⟨W1, W2, W3⟩ := W true
    simp only [W1, Option.bind_some]
    by_cases hr : sz a * 4294967296 % sz b = 0
    · simp only [if_pos hr, rounded_small _ W2 W3, Option.bind_some]
      have q0 : 0 ≤ sz a * 4294967296 / sz b + if false = true then 1 else 0 := by simpa using W2
      simp only [signed_eq (show 1 ≤ k by omega) _ q0]
      by_cases h1 : a < 0 <;> by_cases h2 : b < 0 <;> simp [h1, h2, hr]
    · simp only [if_neg hr, rounded_small _ W2 W3, Option.bind_some]
      have q0 : ∀ c : Bool, 0 ≤ sz a * 4294967296 / sz b + if c = true then 1 else 0 := by intro c; split <;> omega
      have z1 := fun c => signed_eq (k := k) (by omega) _ (q0 true) c
      have z2 := fun c => signed_eq (k := k) (by omega) _ (q0 false) c
      simp only [if_true, Bool.false_eq_true, if_false, Int.add_zero] at z1 z2
      by_cases h1 : a < 0 <;> by_cases h2 : b < 0 <;> simp [h1, h2, hr, z1, z2]
theorem in_lit {x : Int} (h : decide (-9223372036854775808 ≤ x) = true) (h' : decide (x ≤ 9223372036854775807) = true) : In x := ⟨of_decide_eq_true h, of_decide_eq_true h'⟩
theorem in_divS (a b : Int) : In (divS a b) := by
  unfold divS quoS
  split
  · unfold edgeS; split
    · exact in_lit rfl rfl
    · split
      · exact in_lit rfl rfl
      · exact in_lit rfl rfl
  · exact in_sat _
end Go.Proofs.Ytemnfnbjapobcaa.FS
end
section
namespace Go.Proofs.Ytemnfnbjapobcaa.HS
open Go.Proofs.Ytemnfnbjapobcaa.FM Go.Proofs.Ytemnfnbjapobcaa.FS
set_option linter.unusedVariables false
def InB (x : Int) : Bool := decide (-9223372036854775808 ≤ x) && decide (x ≤ 9223372036854775807)
theorem inB_iff {x : Int} : InB x = true ↔ In x := by unfold InB In; simp
def AllIn (l : List Int) : Prop := ∀ x ∈ l, In x
def allInB (l : List Int) : Bool := l.all InB
theorem allInB_iff {l : List Int} : allInB l = true ↔ AllIn l := by unfold allInB AllIn; simp [List.all_eq_true, inB_iff]
def addS (a b : Int) : Int := sat (a + b)
def subS (a b : Int) : Int := sat (a - b)
def mulS (a b : Int) : Int := sat (a * b / 4294967296)
def ofS (n : Int) : Int := sat (n * 4294967296)
def mixS (w x y : Int) : Int := addS (mulS w x) (mulS (subS 4294967296 w) y)
def distS (a b : Int) : Int := if a < b then subS b a else subS a b
structure Mo where
  n : Int
  a : Int
  b : Int
  c : Int
structure St where
  level : Int
  trend : Int
  parts : List Int
  k : Nat
def okW (w : Int) : Bool := decide (0 ≤ w) && decide (w ≤ 4294967296)
def checkS (m : Mo) : Int := if m.n < 1 ∨ m.n > 10000 then 1 else if okW m.a && okW m.b && okW m.c then 0 else 1
def sumS (l : List Int) : Int := l.foldl addS 0
def meanS (l : List Int) : Int := divS (sumS l) (ofS l.length)
def beginS (l : List Int) (n : Nat) : St :=
  let a := meanS (l.take n)
  let b := meanS ((l.drop n).take n)
  ⟨a, divS (subS b a) (ofS n), (l.take n).map (fun x => subS x a), 0⟩
def stepS (m : Mo) (s : St) (x : Int) : St :=
  let j := s.k % s.parts.length
  let p := s.parts.getD j 0
  let level := mixS m.a (subS x p) (addS s.level s.trend)
  ⟨level, mixS m.b (subS level s.level) s.trend, s.parts.set j (mixS m.c (subS x level) p), s.k + 1⟩
def startS (l : List Int) (m : Mo) : St := (l.drop m.n.toNat).foldl (stepS m) (beginS l m.n.toNat)
def startE (l : List Int) (m : Mo) : Int := if checkS m ≠ 0 then 1 else if (l.length : Int) < 2 * m.n then 1 else 0
def castOf (s : St) (ahead : Int) : Int × Int :=
  if ahead < 1 ∨ ahead > 10000 then (0, 1) else (addS (addS s.level (mulS (ofS ahead) s.trend)) (s.parts.getD ((s.k + ahead.toNat - 1) % s.parts.length) 0), 0)
def missStep (m : Mo) (q : Int × St) (x : Int) : Int × St := (addS q.1 (distS x (castOf q.2 1).1), stepS m q.2 x)
def missS (l : List Int) (m : Mo) (last : Int) : Int × Int :=
  if checkS m ≠ 0 then (0, 1) else if last < 1 ∨ 2 * m.n > (l.length : Int) - last then (0, 1)
  else
    let n := l.length - last.toNat
    (((l.drop n).foldl (missStep m) (0, startS (l.take n) m)).1, 0)
theorem in_addS (a b : Int) : In (addS a b) := in_sat _
theorem in_subS (a b : Int) : In (subS a b) := in_sat _
theorem in_mulS (a b : Int) : In (mulS a b) := in_sat _
theorem in_ofS (a : Int) : In (ofS a) := in_sat _
theorem in_mixS (w x y : Int) : In (mixS w x y) := in_sat _
theorem in_distS (a b : Int) : In (distS a b) := by unfold distS; split <;> exact in_sat _
def St.In (s : St) : Prop := FS.In s.level ∧ FS.In s.trend ∧ AllIn s.parts
theorem allIn_getD {l : List Int} (h : AllIn l) (i : Nat) : FS.In (l.getD i 0) := by
  rw [List.getD_eq_getElem?_getD]
  cases e : l[i]? with
  | none => exact ⟨by decide, by decide⟩
  | some x => exact h x (List.mem_of_getElem? e)
theorem allIn_set {l : List Int} (h : AllIn l) (i : Nat) {x : Int} (hx : FS.In x) : AllIn (l.set i x) := fun y hy => by
  rcases List.mem_or_eq_of_mem_set hy with h1 | rfl
  · exact h y h1
  · exact hx
theorem step_in (m : Mo) {s : St} (h : s.In) (x : Int) : (stepS m s x).In := ⟨in_mixS _ _ _, in_mixS _ _ _, allIn_set h.2.2 _ (in_mixS _ _ _)⟩
theorem step_len (m : Mo) (s : St) (x : Int) : (stepS m s x).parts.length = s.parts.length := by simp [stepS]
theorem fold_in (m : Mo) : ∀ (l : List Int) (s : St), s.In → (l.foldl (stepS m) s).In
  | [], _, h => h
  | x :: l, s, h => fold_in m l _ (step_in m h x)
theorem fold_len (m : Mo) : ∀ (l : List Int) (s : St), (l.foldl (stepS m) s).parts.length = s.parts.length
  | [], _ => rfl
  | x :: l, s => (fold_len m l _).trans (step_len m s x)
theorem fold_k (m : Mo) : ∀ (l : List Int) (s : St), (l.foldl (stepS m) s).k = s.k + l.length
  | [], _ => rfl
  | x :: l, s => by have := fold_k m l (stepS m s x); simp only [List.foldl_cons, List.length_cons]; rw [this]; simp only [stepS]; omega
theorem begin_in (l : List Int) (n : Nat) : (beginS l n).In := ⟨in_divS _ _, in_divS _ _, fun x hx => by
  simp only [beginS, List.mem_map] at hx
  obtain ⟨y, _, rfl⟩ := hx
  exact in_subS _ _⟩
theorem begin_len (l : List Int) (n : Nat) (h : n ≤ l.length) : (beginS l n).parts.length = n := by simp [beginS, h]
end Go.Proofs.Ytemnfnbjapobcaa.HS
end
section
namespace Go.Proofs.Ytemnfnbjapobcaa
open Go.RowKit Go.Proofs.YtemnfnbjapobcaaW.PrintWords Go.Proofs.YtemnfnbjapobcaaW.PrintLast Go.Proofs.YtemnfnbjapobcaaW.PrintMore
open Go.Proofs.Ytemnfnbjapobcaa.FS Go.Proofs.Ytemnfnbjapobcaa.HS
section
variable {a b : Int} (ha : FS.In a) (hb : FS.In b) (w : World)
include ha hb
theorem fAdd : Calls Try.prog 67 #[.int .i64 a, .int .i64 b] w fun e w' => e = .returned (.int .i64 (addS a b)) ∧ Drawn0 w w' := Fix.fixed_Add.calls 400 a b _ w (add_eq (Nat.le_refl _) ha hb)
theorem fSub : Calls Try.prog 71 #[.int .i64 a, .int .i64 b] w fun e w' => e = .returned (.int .i64 (subS a b)) ∧ Drawn0 w w' := Fix.fixed_Sub.calls 400 a b _ w (sub_eq (Nat.le_refl _) ha hb)
theorem fMul : Calls Try.prog 68 #[.int .i64 a, .int .i64 b] w fun e w' => e = .returned (.int .i64 (mulS a b)) ∧ Drawn0 w w' := Fix.fixed_Mul.calls 400 a b _ w (mul_eq (Nat.le_refl _) ha hb)
theorem fDiv : Calls Try.prog 102 #[.int .i64 a, .int .i64 b] w fun e w' => e = .returned (.int .i64 (divS a b)) ∧ Drawn0 w w' := Fix.fixed_Div.calls 400 a b _ w (div_eq (Nat.le_refl _) ha hb)
end
section
variable {a : Int} (ha : FS.In a) (w : World)
include ha
theorem fOf : Calls Try.prog 69 #[.int .i64 a] w fun e w' => e = .returned (.int .i64 (ofS a)) ∧ Drawn0 w w' := Fix.fixed_Of.calls a _ w (of_eq ha)
end
theorem quietly {P : Program} {f : FuncId} {args : Array Value} {w : World} {v : Value} (h : Calls P f args w fun e w' => e = .returned v ∧ Drawn0 w w') : Calls P f args w fun e w' => e = .returned v ∧ ∃ m, w' = w.drewN m :=
  h.mono fun _ _ ⟨he, hw⟩ => ⟨he, hw.out⟩
theorem q0 {P : Program} {f : FuncId} {args : Array Value} {w : World} {v : Value} {n : Nat} (h : Calls P f args (w.drewN n) fun e w' => e = .returned v ∧ Drawn0 (w.drewN n) w') : Calls P f args (w.drewN n) fun e w'' => e = .returned v ∧ ∃ m, w'' = w.drewN m :=
  Calls.quiet_of (quietly h)
theorem q1 {P : Program} {f : FuncId} {args : Array Value} {w : World} {v : Value} {n0 n : Nat} (h : Calls P f args (w.drewN (n0 + n)) fun e w' => e = .returned v ∧ Drawn0 (w.drewN (n0 + n)) w') : Calls P f args (w.drewN (n0 + n)) fun e w'' => e = .returned v ∧ ∃ m, w'' = w.drewN (n0 + m) :=
  h.mono fun _ _ ⟨he, m, hm⟩ => ⟨he, n + m, by rw [hm, World.drewN_drewN, Nat.add_assoc]⟩
end Go.Proofs.Ytemnfnbjapobcaa
end
section
namespace Go.Proofs.Ytemnfnbjapobcaa.Ho
open Go.RowKit Go.Proofs.YtemnfnbjapobcaaW.PrintWords Go.Proofs.YtemnfnbjapobcaaW.PrintLast Go.Proofs.YtemnfnbjapobcaaW.PrintMore
open Go.Proofs.Ytemnfnbjapobcaa.FS Go.Proofs.Ytemnfnbjapobcaa.HS
set_option linter.unusedVariables false
set_option linter.unusedSimpArgs false
set_option maxHeartbeats 400000 in
theorem mix_calls (x y wt : Int) (hx : FS.In x) (hy : FS.In y) (hwt : FS.In wt) (bw br : Nat) (w : World) (hw : w.cell? ⟨bw, 0, none⟩ = some (.int .i64 wt)) (hr : w.cell? ⟨br, 0, none⟩ = some (.int .i64 (subS 4294967296 wt))) :
    Calls Try.prog 135 #[.int .i64 x, .int .i64 y, .pointer (some ⟨bw, 0, none⟩), .pointer (some ⟨br, 0, none⟩)] w fun e w' => e = .returned (.int .i64 (mixS wt x y)) ∧ Drawn0 w w' := by
  have h1 := in_subS 4294967296 wt
  have h2 := in_mulS wt x
  have h3 := in_mulS (subS 4294967296 wt) y
  go_enter Try.func135, Try.ntmps135
  go_wp2_with (first | (go_at_call 68; (with_reducible refine (fMul (by assumption) (by assumption) _).mono ?_); rintro e w' ⟨rfl, ⟨nd, rfl⟩⟩) | (go_at_call 67; (with_reducible refine (fAdd (by assumption) (by assumption) _).mono ?_); rintro e w' ⟨rfl, ⟨nd, rfl⟩⟩))
  go_quiet ((first | (go_at_call 68; exact Calls.quiet_of (quietly (fMul (by assumption) (by assumption) _))) | (go_at_call 67; exact Calls.quiet_of (quietly (fAdd (by assumption) (by assumption) _)))))
  go_wp2
  go_ret
  exact ⟨rfl, by repeat (first | exact Drawn0.refl _ | apply Drawn0.step)⟩
def cell1 (w : World) (b : Nat) (v : Int) : Prop := w.heap[b]? = some (.cells #[.int .i64 v] 3 (0, 0))
def MixAt (w : World) (b : Nat) (wt : Int) : Prop := cell1 w b wt ∧ cell1 w (b + 1) (subS 4294967296 wt)
def mixV (b : Nat) : Value := .func (.func 135) #[] #[.pointer (some ⟨b, 0, none⟩), .pointer (some ⟨b + 1, 0, none⟩)]
structure Made (w w' : World) (n : Nat) : Prop where
  size : w'.heap.size = w.heap.size + n
  below : Below w.heap.size w w'
set_option maxHeartbeats 400000 in
theorem weighed_calls (wt : Int) (hwt : FS.In wt) (w : World) :
    Calls Try.prog 103 #[.int .i64 wt] w fun e w' => e = .returned (mixV w.heap.size) ∧ MixAt w' w.heap.size wt ∧ Made w w' 2 := by
  have h0 : FS.In 4294967296 := ⟨by decide, by decide⟩
  go_enter Try.func103, Try.ntmps103
  go_wp2_with (first | (go_at_call 71; (with_reducible refine (fSub (by assumption) (by assumption) _).mono ?_); rintro e w' ⟨rfl, ⟨nd, rfl⟩⟩))
  go_ret
  refine ⟨rfl, ⟨?_, ?_⟩, ⟨by simp, ?_⟩⟩
  · exact blk_alloc (blk_drewN (blk_new w _) nd) _
  · have := blk_new ((w.alloc (.cells #[.int .i64 wt] 3)).drewN nd) (.cells #[.int .i64 (subS 4294967296 wt)] 3)
    simpa [cell1] using this
  · exact below_alloc (pw_below_drewN (below_alloc (Below.refl _ _) _) nd) _
theorem sum_step (l : List Int) (k : Nat) (h : k < l.length) : sumS (l.take (k + 1)) = addS (sumS (l.take k)) (rd l (k : Int)) := by
  show _ = addS _ (l.getD k 0)
  unfold sumS
  rw [List.take_succ_eq_append_getElem h, List.foldl_append]
  simp [List.getD_eq_getElem?_getD, List.getElem?_eq_getElem h]
theorem in_sumS (l : List Int) : FS.In (sumS l) := by
  unfold sumS
  rcases List.eq_nil_or_concat l with rfl | ⟨l', x, rfl⟩
  · exact ⟨by decide, by decide⟩
  · rw [List.concat_eq_append, List.foldl_append]; exact in_addS _ _
set_option maxHeartbeats 400000 in
theorem mean_calls (A : Option Addr) (c : Nat) (l : List Int) (w : World) (hr : Kd.C (Kd.int .i64) w A l.length l) (hl : l.length ≤ 1000000000000) (hin : AllIn l) :
    Calls Try.prog 101 #[.slice A l.length c] w fun e w' => e = .returned (.int .i64 (meanS l)) ∧ Drawn0 w w' := by
  go_enter Try.func101, Try.ntmps101
  go_wp2
  go_loopg [3, 8] l.length (fun kq v3 v8 w' => ∃ k m : Nat, v3 = .int .i64 (sumS (l.take k)) ∧ v8 = .int .i64 (k : Int) ∧ Aside0 (kq + k = l.length) ∧ w' = w.drewN m)
  case atStart => exact ⟨0, 0, rfl, rfl, ⟨rfl⟩, rfl⟩
  case round =>
    obtain ⟨k, m, rfl, rfl, HK, rfl⟩ := hrel
    have i1 := in_sumS (l.take k)
    by_cases c : k < l.length
    · have c1 : decide ((k : Int) < (l.length : Int)) = true := decide_eq_true (by omega)
      have i2 : FS.In (rd l (k : Int)) := allIn_getD hin k
      obtain ⟨ad, rfl, r0⟩ := Kd.at_int (Kd.C_below hr (pw_below_drewN (Below.refl _ _) m)) (k : Int) (by omega) (by omega)
      rw [Int.toNat_natCast] at r0
      have e := sum_step l k c
      have HE := Aside0.mk e
      clear e
      cases gk with
      | zero => exact absurd HK.out (by omega)
      | succ k1 =>
        go_wp2_with (go_at_call 67; (with_reducible refine (fAdd (by assumption) (by assumption) _).mono ?_); rintro e w' ⟨rfl, ⟨nd, rfl⟩⟩)
        go_roundg k1
        case measure => omega
        case rel => exact ⟨k + 1, _, by rw [HE.out], by go_num, ⟨by have := HK.out; omega⟩, rfl⟩
    · have c1 : decide ((k : Int) < (l.length : Int)) = false := decide_eq_false (by omega)
      have e : l.take k = l := List.take_of_length_le (by omega)
      rw [e] at i1
      have i3 : FS.In (l.length : Int) := ⟨by omega, by omega⟩
      have i4 := in_ofS (l.length : Int)
      have HE := Aside0.mk e
      clear e
      go_wp2_with (first | (go_at_call 69; (with_reducible refine (fOf (by assumption) _).mono ?_); rintro e w' ⟨rfl, ⟨nd, rfl⟩⟩) | (go_at_call 102; rw [HE.out]; (with_reducible refine (fDiv (by assumption) (by assumption) _).mono ?_); rintro e w' ⟨rfl, ⟨nd, rfl⟩⟩))
      go_ret
      exact ⟨rfl, by repeat (first | exact Drawn0.refl _ | apply Drawn0.step)⟩
theorem check_bad (m : Mo) (h : m.n < 1 ∨ m.n > 10000) : checkS m = 1 := by unfold checkS; rw [if_pos h]
set_option maxHeartbeats 1000000 in
theorem check_calls (m : Mo) (w : World) :
    Calls Try.prog 33 #[.agg #[.int .i64 m.n, .int .i64 m.a, .int .i64 m.b, .int .i64 m.c]] w fun e w' => e = .returned (.int .i64 (checkS m)) ∧ Below w.heap.size w w' := by
  obtain ⟨n, a, b, c⟩ := m
  obtain ⟨r, hr⟩ : ∃ r, checkS ⟨n, a, b, c⟩ = r := ⟨_, rfl⟩
  rw [hr]
  have HR := Aside0.mk hr
  clear hr
  have j0 : ∀ w, (Instr.index 102 (.agg #[.int .i64 a, .int .i64 b, .int .i64 c]) (.int .i64 0)).run Try.prog w = .ok (.int .i64 a) w := fun _ => by kernel_rfl
  have j1 : ∀ w, (Instr.index 102 (.agg #[.int .i64 a, .int .i64 b, .int .i64 c]) (.int .i64 1)).run Try.prog w = .ok (.int .i64 b) w := fun _ => by kernel_rfl
  have j2 : ∀ w, (Instr.index 102 (.agg #[.int .i64 a, .int .i64 b, .int .i64 c]) (.int .i64 2)).run Try.prog w = .ok (.int .i64 c) w := fun _ => by kernel_rfl
  by_cases h1 : n < 1
  · obtain rfl : r = 1 := by rw [← HR.out, check_bad _ (.inl h1)]
    have g1 : decide (n < 1) = true := decide_eq_true h1
    clear h1 HR
    go_enter Try.func33, Try.ntmps33
    go_wp2
    go_ret
    exact ⟨rfl, below_alloc (Below.refl _ _) _⟩
  · have g1 : decide (n < 1) = false := decide_eq_false h1
    by_cases h2 : 10000 < n
    · have g2 : decide (10000 < n) = true := decide_eq_true h2
      obtain rfl : r = 1 := by rw [← HR.out]; simp [checkS, okW]; try omega
      clear HR
      go_enter Try.func33, Try.ntmps33
      go_wp2
      go_ret
      exact ⟨rfl, below_alloc (Below.refl _ _) _⟩
    · have g2 : decide (10000 < n) = false := decide_eq_false h2
      by_cases a1 : a < 0
      · have a1' : decide (a < 0) = true := decide_eq_true a1
        obtain rfl : r = 1 := by rw [← HR.out]; simp [checkS, okW]; try omega
        clear HR
        go_enter Try.func33, Try.ntmps33
        go_wp2
        refine wp_loop_rounds 4 ?_
        rw [rounds_succ]
        go_wp2
        go_ret
        exact ⟨rfl, below_alloc (Below.refl _ _) _⟩
      · have a1' : decide (a < 0) = false := decide_eq_false a1
        by_cases a2 : 4294967296 < a
        · have a2' : decide (4294967296 < a) = true := decide_eq_true a2
          obtain rfl : r = 1 := by rw [← HR.out]; simp [checkS, okW]; try omega
          clear HR
          go_enter Try.func33, Try.ntmps33
          go_wp2
          refine wp_loop_rounds 4 ?_
          rw [rounds_succ]
          go_wp2
          go_ret
          exact ⟨rfl, below_alloc (Below.refl _ _) _⟩
        · have a2' : decide (4294967296 < a) = false := decide_eq_false a2
          by_cases b1 : b < 0
          · have b1' : decide (b < 0) = true := decide_eq_true b1
            obtain rfl : r = 1 := by rw [← HR.out]; simp [checkS, okW]; try omega
            clear HR
            go_enter Try.func33, Try.ntmps33
            go_wp2
            refine wp_loop_rounds 4 ?_
            rw [rounds_succ]
            go_wp2
            rw [rounds_succ]
            go_wp2
            go_ret
            exact ⟨rfl, below_alloc (Below.refl _ _) _⟩
          · have b1' : decide (b < 0) = false := decide_eq_false b1
            by_cases b2 : 4294967296 < b
            · have b2' : decide (4294967296 < b) = true := decide_eq_true b2
              obtain rfl : r = 1 := by rw [← HR.out]; simp [checkS, okW]; try omega
              clear HR
              go_enter Try.func33, Try.ntmps33
              go_wp2
              refine wp_loop_rounds 4 ?_
              rw [rounds_succ]
              go_wp2
              rw [rounds_succ]
              go_wp2
              go_ret
              exact ⟨rfl, below_alloc (Below.refl _ _) _⟩
            · have b2' : decide (4294967296 < b) = false := decide_eq_false b2
              by_cases c1 : c < 0
              · have c1' : decide (c < 0) = true := decide_eq_true c1
                obtain rfl : r = 1 := by rw [← HR.out]; simp [checkS, okW]; try omega
                clear HR
                go_enter Try.func33, Try.ntmps33
                go_wp2
                refine wp_loop_rounds 4 ?_
                rw [rounds_succ]
                go_wp2
                rw [rounds_succ]
                go_wp2
                rw [rounds_succ]
                go_wp2
                go_ret
                exact ⟨rfl, below_alloc (Below.refl _ _) _⟩
              · have c1' : decide (c < 0) = false := decide_eq_false c1
                by_cases c2 : 4294967296 < c
                · have c2' : decide (4294967296 < c) = true := decide_eq_true c2
                  obtain rfl : r = 1 := by rw [← HR.out]; simp [checkS, okW]; try omega
                  clear HR
                  go_enter Try.func33, Try.ntmps33
                  go_wp2
                  refine wp_loop_rounds 4 ?_
                  rw [rounds_succ]
                  go_wp2
                  rw [rounds_succ]
                  go_wp2
                  rw [rounds_succ]
                  go_wp2
                  go_ret
                  exact ⟨rfl, below_alloc (Below.refl _ _) _⟩
                · have c2' : decide (4294967296 < c) = false := decide_eq_false c2
                  obtain rfl : r = 0 := by rw [← HR.out]; simp [checkS, okW]; try omega
                  clear HR
                  go_enter Try.func33, Try.ntmps33
                  go_wp2
                  refine wp_loop_rounds 4 ?_
                  rw [rounds_succ]
                  go_wp2
                  rw [rounds_succ]
                  go_wp2
                  rw [rounds_succ]
                  go_wp2
                  rw [rounds_succ]
                  go_wp2
                  go_ret
                  exact ⟨rfl, below_alloc (Below.refl _ _) _⟩
end Go.Proofs.Ytemnfnbjapobcaa.Ho
end
section
namespace Go.Proofs.Ytemnfnbjapobcaa
open Go Go.RowKit Go.Proofs.YtemnfnbjapobcaaW.PrintLast
section
variable {P : Program} {ops : Array Oper} {md : Region.Mode} {C : World → Prop}
def opsAt (ops : Array Oper) (l : List Nat) : List Oper := l.filterMap fun i => ops[i]?
def wpAnyT (P : Program) (md : Region.Mode) (ops : Array Oper) (C : World → Prop) (ts : List Nat) (L : Array Bool → Act → Prop) : Nat → Array Bool → Act → Prop
  | 0, listed, a => L listed a
  | f + 1, listed, a => Region.ready md ops listed ≠ [] ∧ ∀ i ∈ Region.ready md ops listed, i ∉ ts ∧ qOp P ops C i (wpAnyT P md ops C ts L f (listed.setIfInBounds i true)) a
theorem wpAny_of_T {ts : List Nat} {g : Nat} {L : Array Bool → Act → Prop} {Q' : Exit → Act → World → Prop} (hL : ∀ listed a w, C w → L listed a → wpAny P md ops Q' g listed a w) :
    ∀ (f : Nat) (listed : Array Bool) (a : Act) (w : World), C w → wpAnyT P md ops C ts L f listed a → wpAny P md ops Q' (f + g) listed a w
  | 0, listed, a, w, hw, h => by rw [Nat.zero_add]; exact hL _ _ _ hw h
  | f + 1, listed, a, w, hw, h => by
    rw [show f + 1 + g = (f + g) + 1 by omega]
    exact ⟨fun h0 => absurd h0 h.1, fun i hi => wpOp_of_qOp hw (fun a' w' hw' h' => wpAny_of_T hL f _ a' w' hw' h') (h.2 i hi).2⟩
theorem wpAnyT_first {ts : List Nat} {n i : Nat} {oi : Oper} {v : Value} {L : Array Bool → Act → Prop} (hi : ops[i]? = some oi) (hsel : ∀ (j : Nat) (o : Oper) cs b, ops[j]? = some o → o.op ≠ .select cs b)
    (hreach : ∀ t ∈ ts, Region.reachB md ops i n t = true) (hdone : ∀ listed a, L listed a → ∀ j ∈ Region.ready md ops listed, j ∈ ts) :
    ∀ (f : Nat) (listed : Array Bool) (a : Act), ListedClosed md ops listed →
      (∀ j oj, ops[j]? = some oj → j ≠ i → listed.getD j true = false → (∀ e ∈ oj.after, Region.binds md e = true → e.on ≠ i) → oi.apart ops oj = true) →
      i ∈ Region.ready md ops listed → YieldsIn P ops C oi v a →
      wpAnyT P md ops C ts L f (listed.setIfInBounds i true) (a.put oi.dst v) → wpAnyT P md ops C ts L (f + 1) listed a := by
  intro f
  induction f with
  | zero =>
    intro listed a inv _ hr hy H
    have hun := (mem_ready.1 hr).1
    refine ⟨fun h => (by rw [h] at hr; cases hr), fun j hj => ?_⟩
    have hjt : j ∉ ts := fun h => Region.reach_not_ready inv (hreach j h) hun hj
    refine ⟨hjt, ?_⟩
    by_cases hji : j = i
    · subst hji; exact hy.qOp hi H
    · exact absurd (hdone _ _ H j (ready_mono hj hji)) hjt
  | succ f ih =>
    intro listed a inv hfree hr hy H
    have hun := (mem_ready.1 hr).1
    refine ⟨fun h => (by rw [h] at hr; cases hr), fun j hj => ?_⟩
    have hjt : j ∉ ts := fun h => Region.reach_not_ready inv (hreach j h) hun hj
    refine ⟨hjt, ?_⟩
    by_cases hji : j = i
    · subst hji; exact hy.qOp hi H
    · have h1 := (H.2 j (ready_mono hj hji)).2
      obtain ⟨hjun, oj, hoj, hall⟩ := mem_ready.1 hj
      have hnot : ∀ e ∈ oj.after, Region.binds md e = true → e.on ≠ i := fun e he hb heq => by
        have h1 := hall e he hb
        rw [heq, getD_both hun] at h1
        cases h1
      have h2 := qOp_put hoj (hfree j oj hoj hji hjun hnot) (fun cs b => hsel i oi cs b hi) (fun cs b => hsel j oj cs b hoj) hy h1
      have hfree' : ∀ k ok, ops[k]? = some ok → k ≠ i → (listed.setIfInBounds j true).getD k true = false →
          (∀ e ∈ ok.after, Region.binds md e = true → e.on ≠ i) → oi.apart ops ok = true := fun k ok hk hki hun hno => by
        refine hfree k ok hk hki ?_ hno
        by_cases hjk : j = k
        · subst hjk; exact hjun
        · rw [getD_set_ne true hjk] at hun; exact hun
      refine qOp_mono (fun a' h3 => ih (listed.setIfInBounds j true) a' (inv.set hj) hfree' (ready_mono hr (Ne.symm hji)) h3.1 ?_) h2
      rw [Array.setIfInBounds_comm _ _ hji]
      exact h3.2
def tailB (md : Region.Mode) (ops : Array Oper) : List Nat → Array Bool → Bool
  | [], listed => (Region.ready md ops listed).isEmpty
  | t :: ts, listed => decide (Region.ready md ops listed = [t]) && tailB md ops ts (listed.setIfInBounds t true)
def headB (md : Region.Mode) (ops : Array Oper) (ts : List Nat) : List Nat → Array Bool → Bool
  | [], listed => tailB md ops ts listed
  | k :: hs, listed => (Region.ready md ops listed).contains k && Region.free md ops listed k && ts.all (fun t => Region.reachB md ops k ops.size t) && headB md ops ts hs (listed.setIfInBounds k true)
def isMove (o : Oper) : Bool := o.guard.isNone && o.dst.isSome && match o.op with | .move _ => true | _ => false
def moveOf (a : Act) (o : Oper) : Act := match o.op with | .move x => a.put o.dst (a.eval x) | _ => a
def movesOf (ops : Array Oper) : List Nat → Act → Act
  | [], a => a
  | k :: ps, a => match ops[k]? with | some o => movesOf ops ps (moveOf a o) | none => movesOf ops ps a
def moveB (md : Region.Mode) (ops : Array Oper) (hs ts : List Nat) : List Nat → Array Bool → Bool
  | [], listed => headB md ops ts hs listed
  | k :: ps, listed => (Region.ready md ops listed).contains k && Region.free md ops listed k && (match ops[k]? with | some o => isMove o | none => false) && moveB md ops hs ts ps (listed.setIfInBounds k true)
def mixedB (md : Region.Mode) (ops : Array Oper) (ps hs ts : List Nat) : Bool :=
  Region.noSelect ops && decide (ps.length + (hs.length + ts.length) = ops.size) && moveB md ops hs ts ps (Array.replicate ops.size false)
theorem wpAny_of_tail {Q' : Exit → Act → World → Prop} : ∀ (ts : List Nat) (listed : Array Bool) (a : Act) (w : World),
    tailB md ops ts listed = true → wpList P ops Q' (opsAt ops ts) a w → wpAny P md ops Q' ts.length listed a w
  | [], _, _, _, hB, h => ⟨by simpa [tailB] using hB, h⟩
  | t :: ts, listed, a, w, hB, h => by
    simp only [tailB, Bool.and_eq_true, decide_eq_true_eq] at hB
    have hr : t ∈ Region.ready md ops listed := by rw [hB.1]; simp
    obtain ⟨_, o, h0, _⟩ := mem_ready.1 hr
    simp only [opsAt, List.filterMap_cons, h0] at h
    refine ⟨fun h1 => (by rw [hB.1] at h1; cases h1), fun i hi => ?_⟩
    rw [hB.1] at hi
    obtain rfl : i = t := by simpa using hi
    have hw : wpOp P ops Q' i (wpList P ops Q' (opsAt ops ts)) a w := by unfold wpOp; simp only [h0]; exact h
    exact wpOp_mono (fun a' w' h' => wpAny_of_tail ts _ a' w' hB.2 h') hw
theorem tailB_ready {ts : List Nat} {listed : Array Bool} (h : tailB md ops ts listed = true) : ∀ j ∈ Region.ready md ops listed, j ∈ ts := by
  cases ts with
  | nil => intro j hj; simp only [tailB, List.isEmpty_iff] at h; rw [h] at hj; cases hj
  | cons t ts =>
    intro j hj
    simp only [tailB, Bool.and_eq_true, decide_eq_true_eq] at h
    rw [h.1] at hj
    simp at hj
    simp [hj]
theorem wpAnyT_head {ts : List Nat} {Lq : Act → Prop} (hsel : Region.noSelect ops = true) :
    ∀ (hs : List Nat) (listed : Array Bool) (a : Act), ListedClosed md ops listed → headB md ops ts hs listed = true → wpQuiet P ops C Lq (opsAt ops hs) a →
    wpAnyT P md ops C ts (fun listed' a' => tailB md ops ts listed' = true ∧ Lq a') hs.length listed a
  | [], listed, a, _, hB, h => ⟨by simpa [headB] using hB, h⟩
  | k :: hs, listed, a, inv, hB, h => by
    simp only [headB, Bool.and_eq_true, List.all_eq_true] at hB
    obtain ⟨⟨⟨hr, hf⟩, hre⟩, hB'⟩ := hB
    have hr' : k ∈ Region.ready md ops listed := by simpa using hr
    obtain ⟨_, o, h0, _⟩ := mem_ready.1 hr'
    simp only [opsAt, List.filterMap_cons, h0] at h
    have hst : qOp P ops C k (wpQuiet P ops C Lq (opsAt ops hs)) a := by unfold qOp; simp only [h0]; exact h
    obtain ⟨v, hy, hK⟩ := yieldsIn_of_qOp h0 hst
    exact wpAnyT_first h0 (Region.noSelect_spec hsel) hre (fun listed' a' hL => tailB_ready hL.1) hs.length listed a inv (Region.free_spec h0 hf) hr' hy (wpAnyT_head hsel hs _ _ (inv.set hr') hB' hK)
theorem move_yields {o : Oper} (a : Act) (h : isMove o = true) : ∃ d v, o.dst = some d ∧ Yields P ops o v a ∧ moveOf a o = a.put o.dst v := by
  obtain ⟨dst, op, ty, pos, after, guard⟩ := o
  cases op <;> simp [isMove] at h
  case move x =>
    obtain ⟨rfl, h2⟩ := h
    obtain ⟨d, rfl⟩ := Option.isSome_iff_exists.1 h2
    refine ⟨d, a.eval x, rfl, .inl ⟨by simp [Region.wanted], fun w => by simp [execOp, go_sem]⟩, rfl⟩
theorem wpAny_moves {hs ts : List Nat} {Q : Exit → Act → World → Prop} (hsel : Region.noSelect ops = true) (hQ : ∀ c (a : Act) (d : Nat) v w, Q (.panic c) (a.put (some d) v) w → Q (.panic c) a w) :
    ∀ (ps : List Nat) (listed : Array Bool) (a : Act) (w : World), C w → ListedClosed md ops listed → moveB md ops hs ts ps listed = true →
      wpQuiet P ops C (fun a' => ∀ w', C w' → wpList P ops Q (opsAt ops ts) a' w') (opsAt ops hs) (movesOf ops ps a) →
      wpAny P md ops Q (ps.length + (hs.length + ts.length)) listed a w
  | [], listed, a, w, hw, inv, hB, h => by
    have H := wpAnyT_head (C := C) (ts := ts) (Lq := fun a' => ∀ w', C w' → wpList P ops Q (opsAt ops ts) a' w') hsel hs listed a inv (by simpa [moveB] using hB) h
    rw [List.length_nil, Nat.zero_add]
    exact wpAny_of_T (fun listed' a' w' hw' hL => wpAny_of_tail ts listed' a' w' hL.1 (hL.2 w' hw')) _ _ _ _ hw H
  | k :: ps, listed, a, w, hw, inv, hB, h => by
    simp only [moveB, Bool.and_eq_true] at hB
    obtain ⟨⟨⟨hr, hf⟩, hm⟩, hB'⟩ := hB
    have hr' : k ∈ Region.ready md ops listed := by simpa using hr
    obtain ⟨_, o, h0, _⟩ := mem_ready.1 hr'
    simp only [h0] at hm
    obtain ⟨d, v, hd, hy, he⟩ := move_yields (P := P) (ops := ops) a hm
    simp only [movesOf, h0, he] at h
    rw [List.length_cons, show ps.length + 1 + (hs.length + ts.length) = (ps.length + (hs.length + ts.length)) + 1 by omega]
    exact wpAny_take h0 hsel hf hr (fun c a w => by rw [hd]; exact hQ c a d v w) hy (wpAny_moves hsel hQ ps _ _ w hw (inv.set hr') hB' h)
theorem closed_none {n : Nat} : ListedClosed md ops (Array.replicate n false) := fun j oj _ hl => by rw [getD_replicate_false] at hl; cases hl
theorem wp_region_mixed {id : Nat} {Q : Exit → Act → World → Prop} {a : Act} {w : World} {l : List Oper} (ps hs ts : List Nat) (hm : P.follows .mixedOrders = true) (hQ : ∀ c (a : Act) (d : Nat) v w, Q (.panic c) (a.put (some d) v) w → Q (.panic c) a w)
    (hB : mixedB .any l.toArray ps hs ts = true)
    (h : wpQuiet P l.toArray (fun w' => ∃ n, w' = w.drewN n) (fun a' => ∀ w', (∃ n, w' = w.drewN n) → wpList P l.toArray Q (opsAt l.toArray ts) a' w') (opsAt l.toArray hs) (movesOf l.toArray ps a)) :
    (Code.region id l.toArray true).wp P Q a w := by
  simp only [mixedB, Bool.and_eq_true, decide_eq_true_eq] at hB
  obtain ⟨⟨hsel, hlen⟩, hB⟩ := hB
  refine wp_region_any hm ?_
  rw [← hlen]
  refine wpAny_moves (C := fun w' => ∃ n, w' = w.drewN n) hsel hQ ps _ a _ ⟨1, rfl⟩ closed_none ?_ h
  rw [hlen]
  exact hB
theorem opsAt_range (l : List Oper) : ∀ (m s : Nat), opsAt l.toArray (List.range' s m) = (l.drop s).take m
  | 0, s => by simp [opsAt]
  | m + 1, s => by
    have ih := opsAt_range l m (s + 1)
    rw [List.range'_succ]
    by_cases h : s < l.length
    · rw [List.drop_eq_getElem_cons h, List.take_succ_cons, ← ih]
      simp [opsAt, List.getElem?_eq_getElem h]
    · rw [List.drop_eq_nil_of_le (by omega)]
      rw [List.drop_eq_nil_of_le (by omega)] at ih
      simp only [List.take_nil] at ih ⊢
      rw [← ih]
      simp [opsAt, List.getElem?_eq_none (show l.length ≤ s by omega)]
def quietTailB (md : Region.Mode) (ops : Array Oper) (n : Nat) : Bool := mixedB md ops [] (List.range' 0 n) (List.range' n (ops.size - n))
theorem wp_region_quiet_tail {id : Nat} {Q : Exit → Act → World → Prop} {a : Act} {w : World} {l : List Oper} (n : Nat) (hm : P.follows .mixedOrders = true) (hB : quietTailB .any l.toArray n = true)
    (hQ : ∀ c (a : Act) (d : Nat) v w, Q (.panic c) (a.put (some d) v) w → Q (.panic c) a w)
    (h : wpQuiet P l.toArray (fun w' => ∃ n, w' = w.drewN n) (fun a' => ∀ w', (∃ n, w' = w.drewN n) → wpList P l.toArray Q (l.drop n) a' w') (l.take n) a) :
    (Code.region id l.toArray true).wp P Q a w := by
  refine wp_region_mixed [] _ _ hm hQ hB ?_
  have e : l.toArray.size - n = l.length - n := by simp
  rw [opsAt_range, opsAt_range, e, List.take_of_length_le (by simp), List.drop_zero]
  exact h
structure Ext (w : World) where
  val : World
  below : Below w.heap.size w val
instance (w : World) : Inhabited (Ext w) := ⟨⟨w, Below.refl _ _⟩⟩
theorem Ext.cell {w : World} {p : Addr} {v : Value} (hc : w.cell? p = some v) (k : Ext w) : k.val.cell? p = some v := (k.below.cell (World.block_lt_of_cell? _ _ hc)).trans hc
def headF (md : Region.Mode) (ops : Array Oper) (ts : List Nat) (F : Array Bool → Bool) : List Nat → Array Bool → Bool
  | [], listed => F listed
  | k :: hs, listed => (Region.ready md ops listed).contains k && Region.free md ops listed k && ts.all (fun t => Region.reachB md ops k ops.size t) && headF md ops ts F hs (listed.setIfInBounds k true)
theorem wpAnyT_headF {ts : List Nat} {F : Array Bool → Bool} {Lq : Act → Prop} (hsel : Region.noSelect ops = true) (hF : ∀ listed, F listed = true → ∀ j ∈ Region.ready md ops listed, j ∈ ts) :
    ∀ (hs : List Nat) (listed : Array Bool) (a : Act), ListedClosed md ops listed → headF md ops ts F hs listed = true → wpQuiet P ops C Lq (opsAt ops hs) a →
    wpAnyT P md ops C ts (fun listed' a' => F listed' = true ∧ Lq a') hs.length listed a
  | [], listed, a, _, hB, h => ⟨by simpa [headF] using hB, h⟩
  | k :: hs, listed, a, inv, hB, h => by
    simp only [headF, Bool.and_eq_true, List.all_eq_true] at hB
    obtain ⟨⟨⟨hr, hf⟩, hre⟩, hB'⟩ := hB
    have hr' : k ∈ Region.ready md ops listed := by simpa using hr
    obtain ⟨_, o, h0, _⟩ := mem_ready.1 hr'
    simp only [opsAt, List.filterMap_cons, h0] at h
    have hst : qOp P ops C k (wpQuiet P ops C Lq (opsAt ops hs)) a := by unfold qOp; simp only [h0]; exact h
    obtain ⟨v, hy, hK⟩ := yieldsIn_of_qOp h0 hst
    exact wpAnyT_first h0 (Region.noSelect_spec hsel) hre (fun listed' a' hL => hF listed' hL.1) hs.length listed a inv (Region.free_spec h0 hf) hr' hy (wpAnyT_headF hsel hF hs _ _ (inv.set hr') hB' hK)
def thenB (md : Region.Mode) (ops : Array Oper) (n : Nat) (listed : Array Bool) : Bool :=
  decide (Region.ready md ops listed = [n]) && Region.lexFrom md ops (ops.size - (n + 1)) (n + 1) (listed.setIfInBounds n true)
def midB (md : Region.Mode) (ops : Array Oper) (n : Nat) : Bool :=
  Region.noSelect ops && decide (n < ops.size) && headF md ops [n] (thenB md ops n) (List.range' 0 n) (Array.replicate ops.size false)
theorem wp_region_mid {id : Nat} {Q : Exit → Act → World → Prop} {a : Act} {w : World} {l : List Oper} {o : Oper} (n : Nat) (hm : P.follows .mixedOrders = true) (hB : midB .any l.toArray n = true) (ho : l[n]? = some o)
    (h : wpQuiet P l.toArray (fun w' => ∃ n, w' = w.drewN n) (fun a' => ∀ w', (∃ n, w' = w.drewN n) → ∀ K : Act → World → Prop,
        (∀ a2 w2, wpQuiet P l.toArray (fun w' => ∃ n, w' = w2.drewN n) (fun a3 => ∀ w3, (∃ n, w3 = w2.drewN n) → Q .normal a3 w3) (l.drop (n + 1)) a2 → K a2 w2) →
        if Region.wanted o (yielded l.toArray a'.tmps) = true then Oper.wp P o a' w' K Q else K (a'.put o.dst undef) w') (l.take n) a) :
    (Code.region id l.toArray true).wp P Q a w := by
  simp only [midB, Bool.and_eq_true, decide_eq_true_eq] at hB
  obtain ⟨⟨hsel, hn⟩, hB⟩ := hB
  have hn' : n < l.length := by simpa using hn
  refine wp_region_any hm ?_
  have hl : l.take n = opsAt l.toArray (List.range' 0 n) := by rw [opsAt_range, List.drop_zero]
  rw [hl] at h
  have H := wpAnyT_headF (C := fun w' => ∃ n, w' = w.drewN n) (ts := [n]) (F := thenB .any l.toArray n) hsel (fun listed hF j hj => by
    simp only [thenB, Bool.and_eq_true, decide_eq_true_eq] at hF
    rw [hF.1] at hj
    exact hj) (List.range' 0 n) _ a closed_none hB h
  have key := wpAny_of_T (Q' := Q) (g := 1 + (l.length - (n + 1))) (C := fun w' => ∃ n, w' = w.drewN n) (fun listed a' w' hw' hL => by
    obtain ⟨hF, hq⟩ := hL
    simp only [thenB, Bool.and_eq_true, decide_eq_true_eq] at hF
    rw [Nat.add_comm 1]
    refine ⟨fun h0 => (by rw [hF.1] at h0; cases h0), fun i hi => ?_⟩
    rw [hF.1] at hi
    obtain rfl : i = n := by simpa using hi
    unfold wpOp
    rw [show l.toArray[i]? = some o by simpa using ho]
    dsimp only
    have h3 := hq w' hw' (wpAny P .any l.toArray Q (l.length - (i + 1)) (listed.setIfInBounds i true)) (fun a2 w2 h2 => ?_)
    · by_cases hwn : Region.wanted o (yielded l.toArray a'.tmps) = true
      · rw [if_pos hwn] at h3 ⊢
        exact .inl h3
      · rw [if_neg hwn] at h3 ⊢
        exact h3
    have e : l.toArray.size - (i + 1) = l.length - (i + 1) := by simp
    have H2 := wpAnyQ_lex (C := fun w' => ∃ n, w' = w2.drewN n) (md := .any) hsel (l.drop (i + 1)) (i + 1) (listed.setIfInBounds i true) a2 (fun j => by simp [List.getElem?_drop]) (by rw [List.length_drop, ← e]; exact hF.2) h2
    rw [List.length_drop] at H2
    exact wpAny_of_quiet (Q := fun a3 => ∀ w3, (∃ n, w3 = w2.drewN n) → Q .normal a3 w3) (fun _ w3 hw3 h => h w3 hw3) _ _ _ _ ⟨0, rfl⟩ H2) _ _ _ _ ⟨1, rfl⟩ H
  rw [List.length_range', show n + (1 + (l.length - (n + 1))) = l.length by omega] at key
  have e : l.toArray.size = l.length := by simp
  rw [e] at key ⊢
  exact key
end
end Go.Proofs.Ytemnfnbjapobcaa
end
section
namespace Go.Proofs.Ytemnfnbjapobcaa.Ho
open Go.RowKit Go.Proofs.YtemnfnbjapobcaaW.PrintWords Go.Proofs.YtemnfnbjapobcaaW.PrintLast Go.Proofs.YtemnfnbjapobcaaW.PrintMore
open Go.Proofs.Ytemnfnbjapobcaa.FS Go.Proofs.Ytemnfnbjapobcaa.HS
set_option linter.unusedVariables false
set_option linter.unusedSimpArgs false
def sl (g n cap : Nat) : Value := .slice (some ⟨g, 0, none⟩) n cap
def stCells (s : St) (v : Value) (m1 m2 m3 : Nat) : Array Value := #[.int .i64 s.level, .int .i64 s.trend, v, .int .i64 (s.k : Int), mixV m1, mixV m2, mixV m3]
def row3 (W : World) (lo g cap : Nat) (l : List Int) : Prop := W.ownsRow lo 3 1 (.slice (some ⟨g, 0, none⟩) l.length cap) l.length (nums .i64 l)
structure StIn (W : World) (lo hi b g cap m1 m2 m3 : Nat) (m : Mo) (s : St) : Prop where
  blk : W.heap[b]? = some (.cells (stCells s (sl g s.parts.length cap) m1 m2 m3) 99 (0, 0))
  row : row3 W lo g cap s.parts
  at1 : MixAt W m1 m.a
  at2 : MixAt W m2 m.b
  at3 : MixAt W m3 m.c
  inb : lo ≤ b ∧ b < hi
  ing : lo ≤ g ∧ g < hi
  in1 : lo ≤ m1 ∧ m1 + 1 < hi
  in2 : lo ≤ m2 ∧ m2 + 1 < hi
  in3 : lo ≤ m3 ∧ m3 + 1 < hi
  sep : m1 + 1 < g ∧ m2 + 1 < g ∧ m3 + 1 < g
  top : hi ≤ W.heap.size
def StAt (W : World) (lo hi b : Nat) (m : Mo) (s : St) : Prop := ∃ g cap m1 m2 m3, StIn W lo hi b g cap m1 m2 m3 m s
def Ran (lo hi : Nat) : Nat → Prop := fun k => lo ≤ k ∧ k < hi
theorem StIn.kept {W W' : World} {lo hi b g cap m1 m2 m3 : Nat} {m : Mo} {s : St} {S : Nat → Prop} (h : StIn W lo hi b g cap m1 m2 m3 m s) (hk : Kept W W' S) (hS : ∀ k, lo ≤ k → k < hi → ¬ S k) : StIn W' lo hi b g cap m1 m2 m3 m s where
  blk := (hk.2 _ (by have := h.top; have := h.inb; omega) (hS _ h.inb.1 h.inb.2)).trans h.blk
  row := own_move h.row (fun k hk' => by
    have e : g = k := by simpa [Value.ownBlock] using hk'
    subst e
    exact hk.2 _ (by have := h.top; have := h.ing; omega) (hS _ h.ing.1 h.ing.2))
  at1 := ⟨(hk.2 _ (by have := h.top; have := h.in1; omega) (hS _ h.in1.1 (by have := h.in1; omega))).trans h.at1.1, (hk.2 _ (by have := h.top; have := h.in1; omega) (hS _ (by have := h.in1; omega) (by have := h.in1; omega))).trans h.at1.2⟩
  at2 := ⟨(hk.2 _ (by have := h.top; have := h.in2; omega) (hS _ h.in2.1 (by have := h.in2; omega))).trans h.at2.1, (hk.2 _ (by have := h.top; have := h.in2; omega) (hS _ (by have := h.in2; omega) (by have := h.in2; omega))).trans h.at2.2⟩
  at3 := ⟨(hk.2 _ (by have := h.top; have := h.in3; omega) (hS _ h.in3.1 (by have := h.in3; omega))).trans h.at3.1, (hk.2 _ (by have := h.top; have := h.in3; omega) (hS _ (by have := h.in3; omega) (by have := h.in3; omega))).trans h.at3.2⟩
  inb := h.inb
  ing := h.ing
  in1 := h.in1
  in2 := h.in2
  in3 := h.in3
  sep := h.sep
  top := Nat.le_trans h.top hk.1
theorem StAt.kept {W W' : World} {lo hi b : Nat} {m : Mo} {s : St} {S : Nat → Prop} (h : StAt W lo hi b m s) (hk : Kept W W' S) (hS : ∀ k, lo ≤ k → k < hi → ¬ S k) : StAt W' lo hi b m s := by
  obtain ⟨g, cap, m1, m2, m3, h⟩ := h
  exact ⟨g, cap, m1, m2, m3, h.kept hk hS⟩
def Mo.wIn (m : Mo) : Prop := FS.In m.a ∧ FS.In m.b ∧ FS.In m.c
set_option maxHeartbeats 4000000 in
theorem step_calls (lo hi b : Nat) (m : Mo) (s : St) (x : Int) (w : World) (h : StAt w lo hi b m s) (hs : s.In) (hx : FS.In x) (hm : Mo.wIn m) (hk : s.k < 1000000000000) (hn : 0 < s.parts.length) (hl : s.parts.length ≤ 1000000000000) :
    Calls Try.prog 30 #[.pointer (some ⟨b, 0, none⟩), .int .i64 x] w fun e w' => (∃ v, e = .returned v) ∧ StAt w' lo hi b m (stepS m s x) ∧ Below lo w w' ∧ Kept w w' (Ran lo hi) := by
  obtain ⟨g, cap, m1, m2, m3, h⟩ := h
  obtain ⟨level, trend, parts, k⟩ := s
  obtain ⟨hw1, hw2, hw3⟩ := hm
  obtain ⟨hs1, hs2, hs3⟩ := hs
  dsimp only at hk hn hl hs1 hs2 hs3
  obtain ⟨j, hj⟩ : ∃ j, k % parts.length = j := ⟨_, rfl⟩
  have hjl : j < parts.length := hj ▸ Nat.mod_lt _ hn
  have hjm : Int.tmod (k : Int) (parts.length : Int) = (j : Int) := by rw [← hj]; rfl
  have hb := h.blk
  dsimp only [stCells, sl, mixV] at hb
  have c0 := blk_cell hb 0
  have c1 := blk_cell hb 1
  have c2 := blk_cell hb 2
  have c3 := blk_cell hb 3
  have c4 := blk_cell hb 4
  have c5 := blk_cell hb 5
  have c6 := blk_cell hb 6
  simp only [List.getElem?_toArray, List.getElem?_cons_zero, List.getElem?_cons_succ] at c0 c1 c2 c3 c4 c5 c6
  have z : ∀ i, w.frozen? ⟨b, i, none⟩ = false := fun i => blk_frozen hb i
  have hbg : b ≠ g := fun e => by
    have := own_ne h.row hb (by decide)
    simp [Value.ownBlock] at this
    omega
  have p0 := own_at h.row (j : Int) (by omega) (by exact_mod_cast hjl)
  dsimp only at p0
  rw [Int.toNat_natCast] at p0
  obtain ⟨p, hp⟩ : ∃ p, rd parts (j : Int) = p := ⟨_, rfl⟩
  rw [hp] at p0
  obtain ⟨p1, p2⟩ := p0
  have hpi : FS.In p := hp ▸ allIn_getD hs3 j
  have HP := Aside0.mk hp
  have HB := Aside0.mk hb
  have HH := Aside0.mk h
  have HJ := Aside0.mk hj
  clear hp hb h hj
  have k1 := blk_cell HH.out.at1.1 0
  have k2 := blk_cell HH.out.at1.2 0
  have k3 := blk_cell HH.out.at2.1 0
  have k4 := blk_cell HH.out.at2.2 0
  have k5 := blk_cell HH.out.at3.1 0
  have k6 := blk_cell HH.out.at3.2 0
  simp only [List.getElem?_toArray, List.getElem?_cons_zero] at k1 k2 k3 k4 k5 k6
  have a1 := in_subS x p
  have a2 := in_addS level trend
  have a3 := in_mixS m.a (subS x p) (addS level trend)
  have a4 := in_subS (mixS m.a (subS x p) (addS level trend)) level
  have a5 := in_subS x (mixS m.a (subS x p) (addS level trend))
  have hn0 : ¬ parts.length = 0 := by omega
  have hjl2 : (j : Int) < (parts.length : Int) := by omega
  go_enter Try.func30, Try.ntmps30
  go_wp2
  go_quiet (fail)
  revert nq
  intro n1
  go_wp2
  go_quiet ((first | (go_at_call 71; first | exact q0 (fSub (by assumption) (by assumption) _) | exact q1 (fSub (by assumption) (by assumption) _)) | (go_at_call 67; first | exact q0 (fAdd (by assumption) (by assumption) _) | exact q1 (fAdd (by assumption) (by assumption) _)) | (go_at_call 135; exact q1 (mix_calls _ _ m.a (by assumption) (by assumption) (by assumption) m1 (m1 + 1) _ k1 k2))))
  revert nq
  intro n2
  go_wp2
  refine wp_region_quiet_tail 18 (by kernel_rfl) (by kernel_rfl) (fun _ _ _ _ _ h => h) ?_
  simp only [List.take_succ_cons, List.take_zero, List.drop_succ_cons, List.drop_zero]
  repeat (go_big_quiet_step ((first | (go_at_call 71; first | exact q0 (fSub (by assumption) (by assumption) _) | exact q1 (fSub (by assumption) (by assumption) _)) | (go_at_call 135; exact q1 (mix_calls _ _ m.b (by assumption) (by assumption) (by assumption) m2 (m2 + 1) _ k3 k4)))))
  refine wpQuiet_nil ?_
  intro _ hw'
  obtain ⟨nq, hw''⟩ := hw'
  subst hw''
  revert nq
  intro n3
  go_wp2
  obtain ⟨W4, hW4⟩ : ∃ W4, (w.drewN (n1 + n2 + n3)).setCell ⟨b, 1, none⟩ (.int .i64 (mixS m.b (subS (mixS m.a (subS x p) (addS level trend)) level) trend)) = W4 := ⟨_, rfl⟩
  rw [hW4]
  have hb4 : W4.heap[b]? = some (.cells #[.int .i64 level, .int .i64 (mixS m.b (subS (mixS m.a (subS x p) (addS level trend)) level) trend), .slice (some ⟨g, 0, none⟩) parts.length cap, .int .i64 (k : Int), mixV m1, mixV m2, mixV m3] 99 (0, 0)) := hW4 ▸ blk_put (blk_drewN HB.out _) 1 _ rfl
  have far : ∀ (c : Nat) (v : Int), w.heap[c]? = some (.cells #[.int .i64 v] 3 (0, 0)) → W4.heap[c]? = some (.cells #[.int .i64 v] 3 (0, 0)) := fun c v hc => by
    rw [← hW4]
    exact blk_far (blk_drewN hc _) (blk_ne hc HB.out (by decide)) _
  have row4 : row3 W4 lo g cap parts := by
    rw [← hW4]
    exact own_setCell (pw_own_drewN HH.out.row _) (by simp [Value.ownBlock]; omega) _
  have KB : Below lo w W4 := hW4 ▸ (pw_below_drewN (Below.refl _ _) _).setCell HH.out.inb.1 _
  have KK : Kept w W4 (Ran lo hi) := hW4 ▸ ((Kept.refl w _).drewN _).setCell (.inl HH.out.inb) _
  have l1 := far _ _ HH.out.at1.1
  have l2 := far _ _ HH.out.at1.2
  have l3 := far _ _ HH.out.at2.1
  have l4 := far _ _ HH.out.at2.2
  have l5 := far _ _ HH.out.at3.1
  have l6 := far _ _ HH.out.at3.2
  have G := And.intro HH.out (And.intro hb4 (And.intro row4 (And.intro KB (And.intro KK (And.intro l1 (And.intro l2 (And.intro l3 (And.intro l4 (And.intro l5 l6)))))))))
  have GG := Aside0.mk G
  have p0 := own_at row4 (j : Int) (by omega) (by exact_mod_cast hjl)
  rw [Int.toNat_natCast, HP.out] at p0
  clear c0 c1 c2 c3 c4 c5 c6 z p1 p2 k1 k2 k3 k4 k5 k6 G far row4 KB KK
  have c0 := blk_cell hb4 0
  have c2 := blk_cell hb4 2
  have c3 := blk_cell hb4 3
  have c6 := blk_cell hb4 6
  dsimp only [mixV] at c6
  have k5 := blk_cell l5 0
  have k6 := blk_cell l6 0
  simp only [List.getElem?_toArray, List.getElem?_cons_zero, List.getElem?_cons_succ] at c0 c2 c3 c6 k5 k6
  have z : ∀ i, W4.frozen? ⟨b, i, none⟩ = false := fun i => blk_frozen hb4 i
  obtain ⟨p1, p2⟩ := p0
  have HW := Aside0.mk hW4
  clear hW4 hb4 l1 l2 l3 l4 l5 l6
  have a6 := in_mixS m.c (subS x (mixS m.a (subS x p) (addS level trend))) p
  refine wp_region_quiet_tail 21 (by kernel_rfl) (by kernel_rfl) (fun _ _ _ _ _ h => h) ?_
  simp only [List.take_succ_cons, List.take_zero, List.drop_succ_cons, List.drop_zero]
  repeat (go_big_quiet_step ((first | (go_at_call 71; first | exact q0 (fSub (by assumption) (by assumption) _) | exact q1 (fSub (by assumption) (by assumption) _)) | (go_at_call 135; exact q0 (mix_calls _ _ m.c (by assumption) (by assumption) (by assumption) m3 (m3 + 1) _ k5 k6)))))
  refine wpQuiet_nil ?_
  intro _ hw'
  obtain ⟨nq, hw''⟩ := hw'
  subst hw''
  revert nq
  intro n4
  go_wp2
  go_end0
  obtain ⟨h, hb4, row4, KB, KK, l1, l2, l3, l4, l5, l6⟩ := GG.out
  have es : stepS m ⟨level, trend, parts, k⟩ x = ⟨mixS m.a (subS x p) (addS level trend), mixS m.b (subS (mixS m.a (subS x p) (addS level trend)) level) trend, parts.set j (mixS m.c (subS x (mixS m.a (subS x p) (addS level trend))) p), k + 1⟩ := by
    have e : parts.getD j 0 = p := HP.out
    simp only [stepS, HJ.out, e]
  rw [es]
  obtain ⟨hin1, hin2⟩ := h.inb
  obtain ⟨hin3, hin4⟩ := h.ing
  have htop := h.top
  have kk : Kept w (((((W4.drewN n4).setCell ⟨g, j, none⟩ (.int .i64 (mixS m.c (subS x (mixS m.a (subS x p) (addS level trend))) p))).setCell ⟨b, 0, none⟩ (.int .i64 (mixS m.a (subS x p) (addS level trend)))).setCell ⟨b, 3, none⟩ (.int .i64 ((k : Int) + 1)))) (Ran lo hi) :=
    (((KK.drewN n4).setCell (p := ⟨g, j, none⟩) (.inl h.ing) _).setCell (p := ⟨b, 0, none⟩) (.inl h.inb) _).setCell (p := ⟨b, 3, none⟩) (.inl h.inb) _
  refine ⟨⟨_, rfl⟩, ⟨g, cap, m1, m2, m3, ?_⟩, (((pw_below_drewN KB n4).setCell hin3 _).setCell hin1 _).setCell hin1 _, kk⟩
  have fr : ∀ (c : Nat) (v : Int), W4.heap[c]? = some (.cells #[.int .i64 v] 3 (0, 0)) → c ≠ g → ((((W4.drewN n4).setCell ⟨g, j, none⟩ (.int .i64 (mixS m.c (subS x (mixS m.a (subS x p) (addS level trend))) p))).setCell ⟨b, 0, none⟩ (.int .i64 (mixS m.a (subS x p) (addS level trend)))).setCell ⟨b, 3, none⟩ (.int .i64 ((k : Int) + 1))).heap[c]? = some (.cells #[.int .i64 v] 3 (0, 0)) := fun c v hc hg => by
    have hcb := blk_ne hc hb4 (by decide)
    exact blk_far (blk_far (blk_far (blk_drewN hc _) hg _) hcb _) hcb _
  obtain ⟨g1, g2, g3⟩ := h.sep
  have rw1 := own_put (pw_own_drewN row4 n4) (j : Int) (mixS m.c (subS x (mixS m.a (subS x p) (addS level trend))) p)
  rw [Int.toNat_natCast] at rw1
  refine ⟨?_, ?_, ⟨fr _ _ l1 (by omega), fr _ _ l2 (by omega)⟩, ⟨fr _ _ l3 (by omega), fr _ _ l4 (by omega)⟩, ⟨fr _ _ l5 (by omega), fr _ _ l6 (by omega)⟩, h.inb, h.ing, h.in1, h.in2, h.in3, h.sep, Nat.le_trans htop kk.1⟩
  · refine blk_put (blk_put (blk_far (blk_drewN hb4 _) hbg _) 0 _ rfl) 3 _ ?_
    simp [stCells, sl]
  · show row3 _ lo g cap (parts.set j _)
    unfold row3
    have rw2 := own_setCell (p := ⟨b, 3, none⟩) (own_setCell (p := ⟨b, 0, none⟩) rw1 (by simp [Value.ownBlock]; omega) (.int .i64 (mixS m.a (subS x p) (addS level trend)))) (by simp [Value.ownBlock]; omega) (.int .i64 ((k : Int) + 1))
    rw [List.length_set] at rw2 ⊢
    exact rw2
end Go.Proofs.Ytemnfnbjapobcaa.Ho
end
section
namespace Go.Proofs.Ytemnfnbjapobcaa.Ho
open Go.RowKit Go.Proofs.YtemnfnbjapobcaaW.PrintWords Go.Proofs.YtemnfnbjapobcaaW.PrintLast Go.Proofs.YtemnfnbjapobcaaW.PrintMore
open Go.Proofs.Ytemnfnbjapobcaa.FS Go.Proofs.Ytemnfnbjapobcaa.HS
set_option linter.unusedVariables false
set_option linter.unusedSimpArgs false
theorem i64_wrap_id {x : Int} (h0 : -9223372036854775808 ≤ x) (h1 : x ≤ 9223372036854775807) : IntKind.i64.wrap x = x := by rw [IntKind.wrap_i64]; omega
set_option maxHeartbeats 4000000 in
theorem castOf_calls (lo hi b : Nat) (m : Mo) (s : St) (ahead : Int) (w : World) (h : StAt w lo hi b m s) (hs : s.In) (ha : FS.In ahead) (hk : s.k < 1000000000000) (hn : 0 < s.parts.length) (hl : s.parts.length ≤ 1000000000000) :
    Calls Try.prog 28 #[.pointer (some ⟨b, 0, none⟩), .int .i64 ahead] w fun e w' => e = .returned (.tuple #[.int .i64 (castOf s ahead).1, .int .i64 (castOf s ahead).2]) ∧ Drawn0 w w' := by
  obtain ⟨g, cap, m1, m2, m3, h⟩ := h
  obtain ⟨level, trend, parts, k⟩ := s
  obtain ⟨hs1, hs2, hs3⟩ := hs
  dsimp only at hk hn hl hs1 hs2 hs3
  obtain ⟨r, hr⟩ : ∃ r, castOf ⟨level, trend, parts, k⟩ ahead = r := ⟨_, rfl⟩
  rw [hr]
  obtain ⟨r1, r2⟩ := r
  have HR := Aside0.mk hr
  clear hr
  have hb := h.blk
  dsimp only [stCells, sl, mixV] at hb
  have c0 := blk_cell hb 0
  have c1 := blk_cell hb 1
  have c2 := blk_cell hb 2
  have c3 := blk_cell hb 3
  simp only [List.getElem?_toArray, List.getElem?_cons_zero, List.getElem?_cons_succ] at c0 c1 c2 c3
  have hn1 : ¬ parts.length = 0 := by omega
  have hn0 : ((parts.length : Int) == 0) = false := by rw [beq_eq_false_iff_ne]; omega
  by_cases h1 : ahead < 1
  · obtain ⟨rfl, rfl⟩ : r1 = 0 ∧ r2 = 1 := by have := HR.out; simp only [castOf] at this; rw [if_pos (.inl h1)] at this; simpa [eq_comm] using this
    have g1 : decide (ahead < 1) = true := decide_eq_true h1
    clear h1 HR h hb
    go_enter Try.func28, Try.ntmps28
    go_wp2
    go_ret2
    exact ⟨rfl, Drawn0.refl _⟩
  · have g1 : decide (ahead < 1) = false := decide_eq_false h1
    by_cases h2 : 10000 < ahead
    · obtain ⟨rfl, rfl⟩ : r1 = 0 ∧ r2 = 1 := by have := HR.out; simp only [castOf] at this; rw [if_pos (.inr h2)] at this; simpa [eq_comm] using this
      have g2 : decide (10000 < ahead) = true := decide_eq_true h2
      clear h1 h2 HR h hb
      go_enter Try.func28, Try.ntmps28
      go_wp2
      go_ret2
      exact ⟨rfl, Drawn0.refl _⟩
    · have g2 : decide (10000 < ahead) = false := decide_eq_false h2
      obtain ⟨A, rfl⟩ := Int.eq_ofNat_of_zero_le (show 0 ≤ ahead by omega)
      obtain ⟨j, hj⟩ : ∃ j, (k + A - 1) % parts.length = j := ⟨_, rfl⟩
      have hjl : j < parts.length := hj ▸ Nat.mod_lt _ hn
      obtain ⟨p, hp⟩ : ∃ p, rd parts (j : Int) = p := ⟨_, rfl⟩
      obtain ⟨rfl, rfl⟩ : r1 = addS (addS level (mulS (ofS (A : Int)) trend)) p ∧ r2 = 0 := by
        have := HR.out
        simp only [castOf] at this
        rw [if_neg (by omega)] at this
        obtain ⟨e1, e2⟩ := Prod.mk.inj this
        refine ⟨?_, e2.symm⟩
        rw [← e1, ← hp, Int.toNat_natCast, hj]
        rfl
      have p0 := own_at h.row (j : Int) (by omega) (by exact_mod_cast hjl)
      dsimp only at p0
      rw [Int.toNat_natCast, hp] at p0
      obtain ⟨p1, p2⟩ := p0
      have hpi : FS.In p := hp ▸ allIn_getD hs3 j
      obtain ⟨u, hq⟩ : ∃ u : Int, IntKind.i64.wrap ((k : Int) + (A : Int)) = u := ⟨_, rfl⟩
      have hq' : u = (k : Int) + A := by rw [← hq]; exact i64_wrap_id (by omega) (by omega)
      obtain ⟨u1, hq1⟩ : ∃ u1 : Int, IntKind.i64.wrap (u - 1) = u1 := ⟨_, rfl⟩
      have hq1' : u1 = ((k + A - 1 : Nat) : Int) := by rw [← hq1, hq', i64_wrap_id (by omega) (by omega)]; omega
      have hjm : Int.tmod u1 (parts.length : Int) = (j : Int) := by rw [hq1', ← hj]; rfl
      have a1 := in_ofS (A : Int)
      have a2 := in_mulS (ofS (A : Int)) trend
      have a3 := in_addS level (mulS (ofS (A : Int)) trend)
      have hjl2 : (j : Int) < (parts.length : Int) := by omega
      clear hq' hq1' HR h hb hp hj h1 h2
      go_enter Try.func28, Try.ntmps28
      go_wp2
      go_quiet ((first | (go_at_call 69; exact q0 (fOf (by assumption) _)) | (go_at_call 68; exact q0 (fMul (by assumption) (by assumption) _)) | (go_at_call 67; exact q0 (fAdd (by assumption) (by assumption) _))))
      go_wp2
      go_quiet ((first | (go_at_call 67; exact q1 (fAdd (by assumption) (by assumption) _))))
      go_wp2
      go_ret2
      exact ⟨rfl, by repeat (first | exact Drawn0.refl _ | apply Drawn0.step)⟩
end Go.Proofs.Ytemnfnbjapobcaa.Ho
end
section
namespace Go.Proofs.Ytemnfnbjapobcaa.Ho
open Go.RowKit Go.Proofs.YtemnfnbjapobcaaW.PrintWords Go.Proofs.YtemnfnbjapobcaaW.PrintLast Go.Proofs.YtemnfnbjapobcaaW.PrintMore
open Go.Proofs.Ytemnfnbjapobcaa.FS Go.Proofs.Ytemnfnbjapobcaa.HS
set_option linter.unusedVariables false
set_option linter.unusedSimpArgs false
theorem info3 : (Try.prog.info? 3).map (fun i => (i.zero, i.size, i.bytes)) = some (some (.int .i64 0), 1, 8) := by kernel_rfl
theorem cell_below {w w' : World} {p : Addr} {v : Value} (hb : Below w.drew.heap.size w.drew w') (hc : w.cell? p = some v) : w'.cell? p = some v := (hb.cell (World.block_lt_of_cell? _ _ hc)).trans hc
theorem row_form {W : World} {lo : Nat} {v : Value} {l : List Int} (h : W.ownsRow lo 3 1 v l.length (nums .i64 l)) (hn : 0 < l.length) : ∃ g cap, v = .slice (some ⟨g, 0, none⟩) l.length cap ∧ lo ≤ g ∧ g < W.heap.size := by
  rcases h.2 with ⟨_, h2⟩ | ⟨g, cap, cur, rfl, h2, h3, _⟩
  · omega
  · exact ⟨g, cap, rfl, h2, blk_lt h3⟩
end Go.Proofs.Ytemnfnbjapobcaa.Ho
end
