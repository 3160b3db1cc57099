-- Laid together by wip/shake.py out of: Fixx4 Fixx5 Fixx6 Fixx7
import Derived.Test.YtemnfnbjapobcaaPolicyFloorsm3
section
namespace Go.Proofs.Ytemnfnbjapobcaa.Fix
open Go.RowKit Go.Proofs.YtemnfnbjapobcaaW.PrintWords Go.Proofs.YtemnfnbjapobcaaW.PrintLast Go.Proofs.YtemnfnbjapobcaaW.PrintMore
attribute [local go_sem] max2_int min2_int max_two min_two max_three min_three max_four min_four   -- for this text's walks alone
set_option linter.unusedVariables false
set_option linter.unusedSimpArgs false
def fixed_Div_1.f (a0 : Bool) : Option (Bool) := some a0
set_option maxHeartbeats 8000000 in
set_option maxRecDepth 100000 in
theorem fixed_Div_1.calls (a0 : Bool) (r : Bool) (w : World) (h : fixed_Div_1.f a0 = some r) :
    Calls Try.prog 134 #[.bool a0] w fun e w' => e = .returned (.bool r) ∧ Drawn0 w w' := by
  have H : (some a0) = some r := h
  clear h
  obtain rfl := Option.some.inj H
  go_enter Try.func134, Try.ntmps134
  go_wp2
  go_ret
  exact ⟨by first | rfl | (simp; done) | (simp [*]; done), by repeat (first | exact Drawn0.refl _ | apply Drawn0.step)⟩
def fixed_quotient_134.f (k : Nat) (a0 : Int) (a1 : Int)  : Option (Int) := if a1 = 0 then ((fixed_edge.f a0).bind fun t130 => (some t130)) else (if a0 < 0 then (if a1 < 0 then ((fixed_size.f a0).bind fun t131 => ((fixed_size.f a1).bind fun t132 => (if (t131 / 4294967296) ≥ t132 then ((fixed_signed.f k 0 true false).bind fun t133 => (some t133)) else ((bits_Div64.f k (t131 / 4294967296) (IntKind.u64.wrap (t131 * 4294967296)) t132).bind fun bt134 => (if bt134.2 = 0 then ((fixed_rounded.f bt134.1 false false).bind fun bt136 => ((fixed_signed.f k bt136.1 bt136.2 false).bind fun t138 => (some t138))) else ((fixed_Div_1.f false).bind fun t139 => ((fixed_rounded.f bt134.1 false t139).bind fun bt140 => ((fixed_signed.f k bt140.1 bt140.2 false).bind fun t142 => (some t142))))))))) else ((fixed_size.f a0).bind fun t143 => ((fixed_size.f a1).bind fun t144 => (if (t143 / 4294967296) ≥ t144 then ((fixed_signed.f k 0 true true).bind fun t145 => (some t145)) else ((bits_Div64.f k (t143 / 4294967296) (IntKind.u64.wrap (t143 * 4294967296)) t144).bind fun bt146 => (if bt146.2 = 0 then ((fixed_rounded.f bt146.1 false false).bind fun bt148 => ((fixed_signed.f k bt148.1 bt148.2 true).bind fun t150 => (some t150))) else ((fixed_Div_1.f true).bind fun t151 => ((fixed_rounded.f bt146.1 false t151).bind fun bt152 => ((fixed_signed.f k bt152.1 bt152.2 true).bind fun t154 => (some t154)))))))))) else (if a1 < 0 then ((fixed_size.f a0).bind fun t155 => ((fixed_size.f a1).bind fun t156 => (if (t155 / 4294967296) ≥ t156 then ((fixed_signed.f k 0 true true).bind fun t157 => (some t157)) else ((bits_Div64.f k (t155 / 4294967296) (IntKind.u64.wrap (t155 * 4294967296)) t156).bind fun bt158 => (if bt158.2 = 0 then ((fixed_rounded.f bt158.1 false false).bind fun bt160 => ((fixed_signed.f k bt160.1 bt160.2 true).bind fun t162 => (some t162))) else ((fixed_Div_1.f true).bind fun t163 => ((fixed_rounded.f bt158.1 false t163).bind fun bt164 => ((fixed_signed.f k bt164.1 bt164.2 true).bind fun t166 => (some t166))))))))) else ((fixed_size.f a0).bind fun t167 => ((fixed_size.f a1).bind fun t168 => (if (t167 / 4294967296) ≥ t168 then ((fixed_signed.f k 0 true false).bind fun t169 => (some t169)) else ((bits_Div64.f k (t167 / 4294967296) (IntKind.u64.wrap (t167 * 4294967296)) t168).bind fun bt170 => (if bt170.2 = 0 then ((fixed_rounded.f bt170.1 false false).bind fun bt172 => ((fixed_signed.f k bt172.1 bt172.2 false).bind fun t174 => (some t174))) else ((fixed_Div_1.f false).bind fun t175 => ((fixed_rounded.f bt170.1 false t175).bind fun bt176 => ((fixed_signed.f k bt176.1 bt176.2 false).bind fun t178 => (some t178)))))))))))
set_option maxHeartbeats 8000000 in
set_option maxRecDepth 100000 in
theorem fixed_quotient_134.calls (k : Nat) (a0 : Int) (a1 : Int)  (r : Int) (w : World) (h : fixed_quotient_134.f k a0 a1 = some r) :
    Calls Try.prog 123 #[.int .i64 a0, .int .i64 a1, .func (.func 134) #[] #[]] w fun e w' => e = .returned (.int .i64 r) ∧ Drawn0 w w' := by
  have H : (if a1 = 0 then ((fixed_edge.f a0).bind fun t130 => (some t130)) else (if a0 < 0 then (if a1 < 0 then ((fixed_size.f a0).bind fun t131 => ((fixed_size.f a1).bind fun t132 => (if (t131 / 4294967296) ≥ t132 then ((fixed_signed.f k 0 true false).bind fun t133 => (some t133)) else ((bits_Div64.f k (t131 / 4294967296) (IntKind.u64.wrap (t131 * 4294967296)) t132).bind fun bt134 => (if bt134.2 = 0 then ((fixed_rounded.f bt134.1 false false).bind fun bt136 => ((fixed_signed.f k bt136.1 bt136.2 false).bind fun t138 => (some t138))) else ((fixed_Div_1.f false).bind fun t139 => ((fixed_rounded.f bt134.1 false t139).bind fun bt140 => ((fixed_signed.f k bt140.1 bt140.2 false).bind fun t142 => (some t142))))))))) else ((fixed_size.f a0).bind fun t143 => ((fixed_size.f a1).bind fun t144 => (if (t143 / 4294967296) ≥ t144 then ((fixed_signed.f k 0 true true).bind fun t145 => (some t145)) else ((bits_Div64.f k (t143 / 4294967296) (IntKind.u64.wrap (t143 * 4294967296)) t144).bind fun bt146 => (if bt146.2 = 0 then ((fixed_rounded.f bt146.1 false false).bind fun bt148 => ((fixed_signed.f k bt148.1 bt148.2 true).bind fun t150 => (some t150))) else ((fixed_Div_1.f true).bind fun t151 => ((fixed_rounded.f bt146.1 false t151).bind fun bt152 => ((fixed_signed.f k bt152.1 bt152.2 true).bind fun t154 => (some t154)))))))))) else (if a1 < 0 then ((fixed_size.f a0).bind fun t155 => ((fixed_size.f a1).bind fun t156 => (if (t155 / 4294967296) ≥ t156 then ((fixed_signed.f k 0 true true).bind fun t157 => (some t157)) else ((bits_Div64.f k (t155 / 4294967296) (IntKind.u64.wrap (t155 * 4294967296)) t156).bind fun bt158 => (if bt158.2 = 0 then ((fixed_rounded.f bt158.1 false false).bind fun bt160 => ((fixed_signed.f k bt160.1 bt160.2 true).bind fun t162 => (some t162))) else ((fixed_Div_1.f true).bind fun t163 => ((fixed_rounded.f bt158.1 false t163).bind fun bt164 => ((fixed_signed.f k bt164.1 bt164.2 true).bind fun t166 => (some t166))))))))) else ((fixed_size.f a0).bind fun t167 => ((fixed_size.f a1).bind fun t168 => (if (t167 / 4294967296) ≥ t168 then ((fixed_signed.f k 0 true false).bind fun t169 => (some t169)) else ((bits_Div64.f k (t167 / 4294967296) (IntKind.u64.wrap (t167 * 4294967296)) t168).bind fun bt170 => (if bt170.2 = 0 then ((fixed_rounded.f bt170.1 false false).bind fun bt172 => ((fixed_signed.f k bt172.1 bt172.2 false).bind fun t174 => (some t174))) else ((fixed_Div_1.f false).bind fun t175 => ((fixed_rounded.f bt170.1 false t175).bind fun bt176 => ((fixed_signed.f k bt176.1 bt176.2 false).bind fun t178 => (some t178)))))))))))) = some r := h
  clear h
  by_cases c4 : a1 = 0
  · rw [if_pos c4] at H
    have c4b0 : (a1 == 0) = true := beq_iff_eq.mpr c4
    have c4b1 : (a1 != 0) = false := bne_eq_false_iff_eq.mpr c4
    clear c4
    replace H := Option.bind_eq_some_iff.mp H
    obtain ⟨t130, A50, H⟩ := H
    replace H : (some t130) = some r := H
    have A5 := Aside0.mk A50
    clear A50
    obtain rfl := Option.some.inj H
    go_enter Try.func123, Try.ntmps123
    go_wp2_with (first | ((with_reducible refine gate_callee (f := 141) rfl ?_); refine goesL_ (some 19) rfl rfl Try.func141 (by kernel_rfl) rfl #[.int .i64 a0] rfl (by (try simp only [List.map_toArray, List.map_cons, List.map_nil]); first | done | rfl | (simp only [List.length_drop, List.length_take]; rfl)) ?_; (with_reducible refine (fixed_edge.calls a0 t130 _ A5.out).mono ?_); rintro e w' ⟨rfl, ⟨nd, rfl⟩⟩; refine ⟨_, rfl, ?_⟩))
    go_ret
    exact ⟨by first | rfl | (simp; done) | (simp [*]; done), by repeat (first | exact Drawn0.refl _ | apply Drawn0.step)⟩
  · rw [if_neg c4] at H
    have c4b0 : (a1 == 0) = false := beq_eq_false_iff_ne.mpr c4
    have c4b1 : (a1 != 0) = true := bne_iff_ne.mpr c4
    by_cases c6 : a0 < 0
    · rw [if_pos c6] at H
      have c6b0 : decide (a0 < 0) = true := decide_eq_true c6
      clear c6
      by_cases c7 : a1 < 0
      · rw [if_pos c7] at H
        have c7b0 : decide (a1 < 0) = true := decide_eq_true c7
        clear c7
        replace H := Option.bind_eq_some_iff.mp H
        obtain ⟨t131, A80, H⟩ := H
        replace H : ((fixed_size.f a1).bind fun t132 => (if (t131 / 4294967296) ≥ t132 then ((fixed_signed.f k 0 true false).bind fun t133 => (some t133)) else ((bits_Div64.f k (t131 / 4294967296) (IntKind.u64.wrap (t131 * 4294967296)) t132).bind fun bt134 => (if bt134.2 = 0 then ((fixed_rounded.f bt134.1 false false).bind fun bt136 => ((fixed_signed.f k bt136.1 bt136.2 false).bind fun t138 => (some t138))) else ((fixed_Div_1.f false).bind fun t139 => ((fixed_rounded.f bt134.1 false t139).bind fun bt140 => ((fixed_signed.f k bt140.1 bt140.2 false).bind fun t142 => (some t142)))))))) = some r := H
        have A8 := Aside0.mk A80
        clear A80
        replace H := Option.bind_eq_some_iff.mp H
        obtain ⟨t132, A90, H⟩ := H
        replace H : (if (t131 / 4294967296) ≥ t132 then ((fixed_signed.f k 0 true false).bind fun t133 => (some t133)) else ((bits_Div64.f k (t131 / 4294967296) (IntKind.u64.wrap (t131 * 4294967296)) t132).bind fun bt134 => (if bt134.2 = 0 then ((fixed_rounded.f bt134.1 false false).bind fun bt136 => ((fixed_signed.f k bt136.1 bt136.2 false).bind fun t138 => (some t138))) else ((fixed_Div_1.f false).bind fun t139 => ((fixed_rounded.f bt134.1 false t139).bind fun bt140 => ((fixed_signed.f k bt140.1 bt140.2 false).bind fun t142 => (some t142))))))) = some r := H
        have A9 := Aside0.mk A90
        clear A90
        by_cases c10 : (t131 / 4294967296) ≥ t132
        · rw [if_pos c10] at H
          have c10b0 : decide (t132 ≤ (t131 / 4294967296)) = true := decide_eq_true c10
          clear c10
          replace H := Option.bind_eq_some_iff.mp H
          obtain ⟨t133, A110, H⟩ := H
          replace H : (some t133) = some r := H
          have A11 := Aside0.mk A110
          clear A110
          obtain rfl := Option.some.inj H
          go_enter Try.func123, Try.ntmps123
          go_wp2_with (first | ((with_reducible refine gate_callee (f := 110) rfl ?_); refine goesL_ (some 26) rfl rfl Try.func110 (by kernel_rfl) rfl #[.int .i64 a0] rfl (by (try simp only [List.map_toArray, List.map_cons, List.map_nil]); first | done | rfl | (simp only [List.length_drop, List.length_take]; rfl)) ?_; (with_reducible refine (fixed_size.calls a0 t131 _ A8.out).mono ?_); rintro e w' ⟨rfl, ⟨nd, rfl⟩⟩; refine ⟨_, rfl, ?_⟩) | ((with_reducible refine gate_callee (f := 110) rfl ?_); refine goesL_ (some 28) rfl rfl Try.func110 (by kernel_rfl) rfl #[.int .i64 a1] rfl (by (try simp only [List.map_toArray, List.map_cons, List.map_nil]); first | done | rfl | (simp only [List.length_drop, List.length_take]; rfl)) ?_; (with_reducible refine (fixed_size.calls a1 t132 _ A9.out).mono ?_); rintro e w' ⟨rfl, ⟨nd, rfl⟩⟩; refine ⟨_, rfl, ?_⟩) | ((with_reducible refine gate_callee (f := 112) rfl ?_); refine goesL_ (some 37) rfl rfl Try.func112 (by kernel_rfl) rfl #[.int .u64 0, .bool true, .bool false] rfl (by (try simp only [List.map_toArray, List.map_cons, List.map_nil]); first | done | rfl | (simp only [List.length_drop, List.length_take]; rfl)) ?_; (with_reducible refine (fixed_signed.calls k 0 true false t133 _ A11.out).mono ?_); rintro e w' ⟨rfl, ⟨nd, rfl⟩⟩; refine ⟨_, rfl, ?_⟩))
          go_ret
          exact ⟨by first | rfl | (simp; done) | (simp [*]; done), by repeat (first | exact Drawn0.refl _ | apply Drawn0.step)⟩
        · rw [if_neg c10] at H
          have c10b0 : decide (t132 ≤ (t131 / 4294967296)) = false := decide_eq_false c10
          clear c10
          replace H := Option.bind_eq_some_iff.mp H
          obtain ⟨⟨t134, t135⟩, A120, H⟩ := H
          replace H : (if t135 = 0 then ((fixed_rounded.f t134 false false).bind fun bt136 => ((fixed_signed.f k bt136.1 bt136.2 false).bind fun t138 => (some t138))) else ((fixed_Div_1.f false).bind fun t139 => ((fixed_rounded.f t134 false t139).bind fun bt140 => ((fixed_signed.f k bt140.1 bt140.2 false).bind fun t142 => (some t142))))) = some r := H
          have A12 := Aside0.mk A120
          clear A120
          by_cases c13 : t135 = 0
          · rw [if_pos c13] at H
            have c13b0 : (t135 == 0) = true := beq_iff_eq.mpr c13
            have c13b1 : (t135 != 0) = false := bne_eq_false_iff_eq.mpr c13
            clear c13
            replace H := Option.bind_eq_some_iff.mp H
            obtain ⟨⟨t136, t137⟩, A140, H⟩ := H
            replace H : ((fixed_signed.f k t136 t137 false).bind fun t138 => (some t138)) = some r := H
            have A14 := Aside0.mk A140
            clear A140
            replace H := Option.bind_eq_some_iff.mp H
            obtain ⟨t138, A150, H⟩ := H
            replace H : (some t138) = some r := H
            have A15 := Aside0.mk A150
            clear A150
            obtain rfl := Option.some.inj H
            go_enter Try.func123, Try.ntmps123
            go_wp2_with (first | ((with_reducible refine gate_callee (f := 110) rfl ?_); refine goesL_ (some 26) rfl rfl Try.func110 (by kernel_rfl) rfl #[.int .i64 a0] rfl (by (try simp only [List.map_toArray, List.map_cons, List.map_nil]); first | done | rfl | (simp only [List.length_drop, List.length_take]; rfl)) ?_; (with_reducible refine (fixed_size.calls a0 t131 _ A8.out).mono ?_); rintro e w' ⟨rfl, ⟨nd, rfl⟩⟩; refine ⟨_, rfl, ?_⟩) | ((with_reducible refine gate_callee (f := 110) rfl ?_); refine goesL_ (some 28) rfl rfl Try.func110 (by kernel_rfl) rfl #[.int .i64 a1] rfl (by (try simp only [List.map_toArray, List.map_cons, List.map_nil]); first | done | rfl | (simp only [List.length_drop, List.length_take]; rfl)) ?_; (with_reducible refine (fixed_size.calls a1 t132 _ A9.out).mono ?_); rintro e w' ⟨rfl, ⟨nd, rfl⟩⟩; refine ⟨_, rfl, ?_⟩) | ((with_reducible refine gate_callee (f := 142) rfl ?_); refine goesL_ (some 42) rfl rfl Try.func142 (by kernel_rfl) rfl #[.int .u64 (t131 / 4294967296), .int .u64 (IntKind.u64.wrap (t131 * 4294967296)), .int .u64 t132] rfl (by (try simp only [List.map_toArray, List.map_cons, List.map_nil]); first | done | rfl | (simp only [List.length_drop, List.length_take]; rfl)) ?_; (with_reducible refine (bits_Div64.calls k (t131 / 4294967296) (IntKind.u64.wrap (t131 * 4294967296)) t132 t134 t135 _ A12.out).mono ?_); rintro e w' ⟨rfl, ⟨nd, rfl⟩⟩; refine ⟨_, rfl, ?_⟩) | ((with_reducible refine gate_callee (f := 111) rfl ?_); refine goesL_ (some 54) rfl rfl Try.func111 (by kernel_rfl) rfl #[.int .u64 t134, .bool false, .bool false] rfl (by (try simp only [List.map_toArray, List.map_cons, List.map_nil]); first | done | rfl | (simp only [List.length_drop, List.length_take]; rfl)) ?_; (with_reducible refine (fixed_rounded.calls t134 false false t136 t137 _ A14.out).mono ?_); rintro e w' ⟨rfl, ⟨nd, rfl⟩⟩; refine ⟨_, rfl, ?_⟩) | ((with_reducible refine gate_callee (f := 112) rfl ?_); refine goesL_ (some 60) rfl rfl Try.func112 (by kernel_rfl) rfl #[.int .u64 t136, .bool t137, .bool false] rfl (by (try simp only [List.map_toArray, List.map_cons, List.map_nil]); first | done | rfl | (simp only [List.length_drop, List.length_take]; rfl)) ?_; (with_reducible refine (fixed_signed.calls k t136 t137 false t138 _ A15.out).mono ?_); rintro e w' ⟨rfl, ⟨nd, rfl⟩⟩; refine ⟨_, rfl, ?_⟩))
            go_ret
            exact ⟨by first | rfl | (simp; done) | (simp [*]; done), by repeat (first | exact Drawn0.refl _ | apply Drawn0.step)⟩
          · rw [if_neg c13] at H
            have c13b0 : (t135 == 0) = false := beq_eq_false_iff_ne.mpr c13
            have c13b1 : (t135 != 0) = true := bne_iff_ne.mpr c13
            replace H := Option.bind_eq_some_iff.mp H
            obtain ⟨t139, A160, H⟩ := H
            replace H : ((fixed_rounded.f t134 false t139).bind fun bt140 => ((fixed_signed.f k bt140.1 bt140.2 false).bind fun t142 => (some t142))) = some r := H
            have A16 := Aside0.mk A160
            clear A160
            replace H := Option.bind_eq_some_iff.mp H
            obtain ⟨⟨t140, t141⟩, A170, H⟩ := H
            replace H : ((fixed_signed.f k t140 t141 false).bind fun t142 => (some t142)) = some r := H
            have A17 := Aside0.mk A170
            clear A170
            replace H := Option.bind_eq_some_iff.mp H
            obtain ⟨t142, A180, H⟩ := H
            replace H : (some t142) = some r := H
            have A18 := Aside0.mk A180
            clear A180
            obtain rfl := Option.some.inj H
            go_enter Try.func123, Try.ntmps123
            go_wp2_with (first | ((with_reducible refine gate_callee (f := 110) rfl ?_); refine goesL_ (some 26) rfl rfl Try.func110 (by kernel_rfl) rfl #[.int .i64 a0] rfl (by (try simp only [List.map_toArray, List.map_cons, List.map_nil]); first | done | rfl | (simp only [List.length_drop, List.length_take]; rfl)) ?_; (with_reducible refine (fixed_size.calls a0 t131 _ A8.out).mono ?_); rintro e w' ⟨rfl, ⟨nd, rfl⟩⟩; refine ⟨_, rfl, ?_⟩) | ((with_reducible refine gate_callee (f := 110) rfl ?_); refine goesL_ (some 28) rfl rfl Try.func110 (by kernel_rfl) rfl #[.int .i64 a1] rfl (by (try simp only [List.map_toArray, List.map_cons, List.map_nil]); first | done | rfl | (simp only [List.length_drop, List.length_take]; rfl)) ?_; (with_reducible refine (fixed_size.calls a1 t132 _ A9.out).mono ?_); rintro e w' ⟨rfl, ⟨nd, rfl⟩⟩; refine ⟨_, rfl, ?_⟩) | ((with_reducible refine gate_callee (f := 142) rfl ?_); refine goesL_ (some 42) rfl rfl Try.func142 (by kernel_rfl) rfl #[.int .u64 (t131 / 4294967296), .int .u64 (IntKind.u64.wrap (t131 * 4294967296)), .int .u64 t132] rfl (by (try simp only [List.map_toArray, List.map_cons, List.map_nil]); first | done | rfl | (simp only [List.length_drop, List.length_take]; rfl)) ?_; (with_reducible refine (bits_Div64.calls k (t131 / 4294967296) (IntKind.u64.wrap (t131 * 4294967296)) t132 t134 t135 _ A12.out).mono ?_); rintro e w' ⟨rfl, ⟨nd, rfl⟩⟩; refine ⟨_, rfl, ?_⟩) | (go_at_call 134; refine calls_of_args (args' := #[.bool false]) (by first | rfl | rfl) ?_; (with_reducible refine (fixed_Div_1.calls false t139 _ A16.out).mono ?_); rintro e w' ⟨rfl, ⟨nd, rfl⟩⟩) | ((with_reducible refine gate_callee (f := 111) rfl ?_); refine goesL_ (some 54) rfl rfl Try.func111 (by kernel_rfl) rfl #[.int .u64 t134, .bool false, .bool t139] rfl (by (try simp only [List.map_toArray, List.map_cons, List.map_nil]); first | done | rfl | (simp only [List.length_drop, List.length_take]; rfl)) ?_; (with_reducible refine (fixed_rounded.calls t134 false t139 t140 t141 _ A17.out).mono ?_); rintro e w' ⟨rfl, ⟨nd, rfl⟩⟩; refine ⟨_, rfl, ?_⟩) | ((with_reducible refine gate_callee (f := 112) rfl ?_); refine goesL_ (some 60) rfl rfl Try.func112 (by kernel_rfl) rfl #[.int .u64 t140, .bool t141, .bool false] rfl (by (try simp only [List.map_toArray, List.map_cons, List.map_nil]); first | done | rfl | (simp only [List.length_drop, List.length_take]; rfl)) ?_; (with_reducible refine (fixed_signed.calls k t140 t141 false t142 _ A18.out).mono ?_); rintro e w' ⟨rfl, ⟨nd, rfl⟩⟩; refine ⟨_, rfl, ?_⟩))
            go_ret
            exact ⟨by first | rfl | (simp; done) | (simp [*]; done), by repeat (first | exact Drawn0.refl _ | apply Drawn0.step)⟩
      · rw [if_neg c7] at H
        have c7b0 : decide (a1 < 0) = false := decide_eq_false c7
        clear c7
        replace H := Option.bind_eq_some_iff.mp H
        obtain ⟨t143, A190, H⟩ := H
        replace H : ((fixed_size.f a1).bind fun t144 => (if (t143 / 4294967296) ≥ t144 then ((fixed_signed.f k 0 true true).bind fun t145 => (some t145)) else ((bits_Div64.f k (t143 / 4294967296) (IntKind.u64.wrap (t143 * 4294967296)) t144).bind fun bt146 => (if bt146.2 = 0 then ((fixed_rounded.f bt146.1 false false).bind fun bt148 => ((fixed_signed.f k bt148.1 bt148.2 true).bind fun t150 => (some t150))) else ((fixed_Div_1.f true).bind fun t151 => ((fixed_rounded.f bt146.1 false t151).bind fun bt152 => ((fixed_signed.f k bt152.1 bt152.2 true).bind fun t154 => (some t154)))))))) = some r := H
        have A19 := Aside0.mk A190
        clear A190
        replace H := Option.bind_eq_some_iff.mp H
        obtain ⟨t144, A200, H⟩ := H
        replace H : (if (t143 / 4294967296) ≥ t144 then ((fixed_signed.f k 0 true true).bind fun t145 => (some t145)) else ((bits_Div64.f k (t143 / 4294967296) (IntKind.u64.wrap (t143 * 4294967296)) t144).bind fun bt146 => (if bt146.2 = 0 then ((fixed_rounded.f bt146.1 false false).bind fun bt148 => ((fixed_signed.f k bt148.1 bt148.2 true).bind fun t150 => (some t150))) else ((fixed_Div_1.f true).bind fun t151 => ((fixed_rounded.f bt146.1 false t151).bind fun bt152 => ((fixed_signed.f k bt152.1 bt152.2 true).bind fun t154 => (some t154))))))) = some r := H
        have A20 := Aside0.mk A200
        clear A200
        by_cases c21 : (t143 / 4294967296) ≥ t144
        · rw [if_pos c21] at H
          have c21b0 : decide (t144 ≤ (t143 / 4294967296)) = true := decide_eq_true c21
          clear c21
          replace H := Option.bind_eq_some_iff.mp H
          obtain ⟨t145, A220, H⟩ := H
          replace H : (some t145) = some r := H
          have A22 := Aside0.mk A220
          clear A220
          obtain rfl := Option.some.inj H
          go_enter Try.func123, Try.ntmps123
          go_wp2_with (first | ((with_reducible refine gate_callee (f := 110) rfl ?_); refine goesL_ (some 26) rfl rfl Try.func110 (by kernel_rfl) rfl #[.int .i64 a0] rfl (by (try simp only [List.map_toArray, List.map_cons, List.map_nil]); first | done | rfl | (simp only [List.length_drop, List.length_take]; rfl)) ?_; (with_reducible refine (fixed_size.calls a0 t143 _ A19.out).mono ?_); rintro e w' ⟨rfl, ⟨nd, rfl⟩⟩; refine ⟨_, rfl, ?_⟩) | ((with_reducible refine gate_callee (f := 110) rfl ?_); refine goesL_ (some 28) rfl rfl Try.func110 (by kernel_rfl) rfl #[.int .i64 a1] rfl (by (try simp only [List.map_toArray, List.map_cons, List.map_nil]); first | done | rfl | (simp only [List.length_drop, List.length_take]; rfl)) ?_; (with_reducible refine (fixed_size.calls a1 t144 _ A20.out).mono ?_); rintro e w' ⟨rfl, ⟨nd, rfl⟩⟩; refine ⟨_, rfl, ?_⟩) | ((with_reducible refine gate_callee (f := 112) rfl ?_); refine goesL_ (some 37) rfl rfl Try.func112 (by kernel_rfl) rfl #[.int .u64 0, .bool true, .bool true] rfl (by (try simp only [List.map_toArray, List.map_cons, List.map_nil]); first | done | rfl | (simp only [List.length_drop, List.length_take]; rfl)) ?_; (with_reducible refine (fixed_signed.calls k 0 true true t145 _ A22.out).mono ?_); rintro e w' ⟨rfl, ⟨nd, rfl⟩⟩; refine ⟨_, rfl, ?_⟩))
          go_ret
          exact ⟨by first | rfl | (simp; done) | (simp [*]; done), by repeat (first | exact Drawn0.refl _ | apply Drawn0.step)⟩
        · rw [if_neg c21] at H
          have c21b0 : decide (t144 ≤ (t143 / 4294967296)) = false := decide_eq_false c21
          clear c21
          replace H := Option.bind_eq_some_iff.mp H
          obtain ⟨⟨t146, t147⟩, A230, H⟩ := H
          replace H : (if t147 = 0 then ((fixed_rounded.f t146 false false).bind fun bt148 => ((fixed_signed.f k bt148.1 bt148.2 true).bind fun t150 => (some t150))) else ((fixed_Div_1.f true).bind fun t151 => ((fixed_rounded.f t146 false t151).bind fun bt152 => ((fixed_signed.f k bt152.1 bt152.2 true).bind fun t154 => (some t154))))) = some r := H
          have A23 := Aside0.mk A230
          clear A230
          by_cases c24 : t147 = 0
          · rw [if_pos c24] at H
            have c24b0 : (t147 == 0) = true := beq_iff_eq.mpr c24
            have c24b1 : (t147 != 0) = false := bne_eq_false_iff_eq.mpr c24
            clear c24
            replace H := Option.bind_eq_some_iff.mp H
            obtain ⟨⟨t148, t149⟩, A250, H⟩ := H
            replace H : ((fixed_signed.f k t148 t149 true).bind fun t150 => (some t150)) = some r := H
            have A25 := Aside0.mk A250
            clear A250
            replace H := Option.bind_eq_some_iff.mp H
            obtain ⟨t150, A260, H⟩ := H
            replace H : (some t150) = some r := H
            have A26 := Aside0.mk A260
            clear A260
            obtain rfl := Option.some.inj H
            go_enter Try.func123, Try.ntmps123
            go_wp2_with (first | ((with_reducible refine gate_callee (f := 110) rfl ?_); refine goesL_ (some 26) rfl rfl Try.func110 (by kernel_rfl) rfl #[.int .i64 a0] rfl (by (try simp only [List.map_toArray, List.map_cons, List.map_nil]); first | done | rfl | (simp only [List.length_drop, List.length_take]; rfl)) ?_; (with_reducible refine (fixed_size.calls a0 t143 _ A19.out).mono ?_); rintro e w' ⟨rfl, ⟨nd, rfl⟩⟩; refine ⟨_, rfl, ?_⟩) | ((with_reducible refine gate_callee (f := 110) rfl ?_); refine goesL_ (some 28) rfl rfl Try.func110 (by kernel_rfl) rfl #[.int .i64 a1] rfl (by (try simp only [List.map_toArray, List.map_cons, List.map_nil]); first | done | rfl | (simp only [List.length_drop, List.length_take]; rfl)) ?_; (with_reducible refine (fixed_size.calls a1 t144 _ A20.out).mono ?_); rintro e w' ⟨rfl, ⟨nd, rfl⟩⟩; refine ⟨_, rfl, ?_⟩) | ((with_reducible refine gate_callee (f := 142) rfl ?_); refine goesL_ (some 42) rfl rfl Try.func142 (by kernel_rfl) rfl #[.int .u64 (t143 / 4294967296), .int .u64 (IntKind.u64.wrap (t143 * 4294967296)), .int .u64 t144] rfl (by (try simp only [List.map_toArray, List.map_cons, List.map_nil]); first | done | rfl | (simp only [List.length_drop, List.length_take]; rfl)) ?_; (with_reducible refine (bits_Div64.calls k (t143 / 4294967296) (IntKind.u64.wrap (t143 * 4294967296)) t144 t146 t147 _ A23.out).mono ?_); rintro e w' ⟨rfl, ⟨nd, rfl⟩⟩; refine ⟨_, rfl, ?_⟩) | ((with_reducible refine gate_callee (f := 111) rfl ?_); refine goesL_ (some 54) rfl rfl Try.func111 (by kernel_rfl) rfl #[.int .u64 t146, .bool false, .bool false] rfl (by (try simp only [List.map_toArray, List.map_cons, List.map_nil]); first | done | rfl | (simp only [List.length_drop, List.length_take]; rfl)) ?_; (with_reducible refine (fixed_rounded.calls t146 false false t148 t149 _ A25.out).mono ?_); rintro e w' ⟨rfl, ⟨nd, rfl⟩⟩; refine ⟨_, rfl, ?_⟩) | ((with_reducible refine gate_callee (f := 112) rfl ?_); refine goesL_ (some 60) rfl rfl Try.func112 (by kernel_rfl) rfl #[.int .u64 t148, .bool t149, .bool true] rfl (by (try simp only [List.map_toArray, List.map_cons, List.map_nil]); first | done | rfl | (simp only [List.length_drop, List.length_take]; rfl)) ?_; (with_reducible refine (fixed_signed.calls k t148 t149 true t150 _ A26.out).mono ?_); rintro e w' ⟨rfl, ⟨nd, rfl⟩⟩; refine ⟨_, rfl, ?_⟩))
            go_ret
            exact ⟨by first | rfl | (simp; done) | (simp [*]; done), by repeat (first | exact Drawn0.refl _ | apply Drawn0.step)⟩
          · rw [if_neg c24] at H
            have c24b0 : (t147 == 0) = false := beq_eq_false_iff_ne.mpr c24
            have c24b1 : (t147 != 0) = true := bne_iff_ne.mpr c24
            replace H := Option.bind_eq_some_iff.mp H
            obtain ⟨t151, A270, H⟩ := H
            replace H : ((fixed_rounded.f t146 false t151).bind fun bt152 => ((fixed_signed.f k bt152.1 bt152.2 true).bind fun t154 => (some t154))) = some r := H
            have A27 := Aside0.mk A270
            clear A270
            replace H := Option.bind_eq_some_iff.mp H
            obtain ⟨⟨t152, t153⟩, A280, H⟩ := H
            replace H : ((fixed_signed.f k t152 t153 true).bind fun t154 => (some t154)) = some r := H
            have A28 := Aside0.mk A280
            clear A280
            replace H := Option.bind_eq_some_iff.mp H
            obtain ⟨t154, A290, H⟩ := H
            replace H : (some t154) = some r := H
            have A29 := Aside0.mk A290
            clear A290
            obtain rfl := Option.some.inj H
            go_enter Try.func123, Try.ntmps123
            go_wp2_with (first | ((with_reducible refine gate_callee (f := 110) rfl ?_); refine goesL_ (some 26) rfl rfl Try.func110 (by kernel_rfl) rfl #[.int .i64 a0] rfl (by (try simp only [List.map_toArray, List.map_cons, List.map_nil]); first | done | rfl | (simp only [List.length_drop, List.length_take]; rfl)) ?_; (with_reducible refine (fixed_size.calls a0 t143 _ A19.out).mono ?_); rintro e w' ⟨rfl, ⟨nd, rfl⟩⟩; refine ⟨_, rfl, ?_⟩) | ((with_reducible refine gate_callee (f := 110) rfl ?_); refine goesL_ (some 28) rfl rfl Try.func110 (by kernel_rfl) rfl #[.int .i64 a1] rfl (by (try simp only [List.map_toArray, List.map_cons, List.map_nil]); first | done | rfl | (simp only [List.length_drop, List.length_take]; rfl)) ?_; (with_reducible refine (fixed_size.calls a1 t144 _ A20.out).mono ?_); rintro e w' ⟨rfl, ⟨nd, rfl⟩⟩; refine ⟨_, rfl, ?_⟩) | ((with_reducible refine gate_callee (f := 142) rfl ?_); refine goesL_ (some 42) rfl rfl Try.func142 (by kernel_rfl) rfl #[.int .u64 (t143 / 4294967296), .int .u64 (IntKind.u64.wrap (t143 * 4294967296)), .int .u64 t144] rfl (by (try simp only [List.map_toArray, List.map_cons, List.map_nil]); first | done | rfl | (simp only [List.length_drop, List.length_take]; rfl)) ?_; (with_reducible refine (bits_Div64.calls k (t143 / 4294967296) (IntKind.u64.wrap (t143 * 4294967296)) t144 t146 t147 _ A23.out).mono ?_); rintro e w' ⟨rfl, ⟨nd, rfl⟩⟩; refine ⟨_, rfl, ?_⟩) | (go_at_call 134; refine calls_of_args (args' := #[.bool true]) (by first | rfl | rfl) ?_; (with_reducible refine (fixed_Div_1.calls true t151 _ A27.out).mono ?_); rintro e w' ⟨rfl, ⟨nd, rfl⟩⟩) | ((with_reducible refine gate_callee (f := 111) rfl ?_); refine goesL_ (some 54) rfl rfl Try.func111 (by kernel_rfl) rfl #[.int .u64 t146, .bool false, .bool t151] rfl (by (try simp only [List.map_toArray, List.map_cons, List.map_nil]); first | done | rfl | (simp only [List.length_drop, List.length_take]; rfl)) ?_; (with_reducible refine (fixed_rounded.calls t146 false t151 t152 t153 _ A28.out).mono ?_); rintro e w' ⟨rfl, ⟨nd, rfl⟩⟩; refine ⟨_, rfl, ?_⟩) | ((with_reducible refine gate_callee (f := 112) rfl ?_); refine goesL_ (some 60) rfl rfl Try.func112 (by kernel_rfl) rfl #[.int .u64 t152, .bool t153, .bool true] rfl (by (try simp only [List.map_toArray, List.map_cons, List.map_nil]); first | done | rfl | (simp only [List.length_drop, List.length_take]; rfl)) ?_; (with_reducible refine (fixed_signed.calls k t152 t153 true t154 _ A29.out).mono ?_); rintro e w' ⟨rfl, ⟨nd, rfl⟩⟩; refine ⟨_, rfl, ?_⟩))
            go_ret
            exact ⟨by first | rfl | (simp; done) | (simp [*]; done), by repeat (first | exact Drawn0.refl _ | apply Drawn0.step)⟩
    · rw [if_neg c6] at H
      have c6b0 : decide (a0 < 0) = false := decide_eq_false c6
      clear c6
      by_cases c30 : a1 < 0
      · rw [if_pos c30] at H
        have c30b0 : decide (a1 < 0) = true := decide_eq_true c30
        clear c30
        replace H := Option.bind_eq_some_iff.mp H
        obtain ⟨t155, A310, H⟩ := H
        replace H : ((fixed_size.f a1).bind fun t156 => (if (t155 / 4294967296) ≥ t156 then ((fixed_signed.f k 0 true true).bind fun t157 => (some t157)) else ((bits_Div64.f k (t155 / 4294967296) (IntKind.u64.wrap (t155 * 4294967296)) t156).bind fun bt158 => (if bt158.2 = 0 then ((fixed_rounded.f bt158.1 false false).bind fun bt160 => ((fixed_signed.f k bt160.1 bt160.2 true).bind fun t162 => (some t162))) else ((fixed_Div_1.f true).bind fun t163 => ((fixed_rounded.f bt158.1 false t163).bind fun bt164 => ((fixed_signed.f k bt164.1 bt164.2 true).bind fun t166 => (some t166)))))))) = some r := H
        have A31 := Aside0.mk A310
        clear A310
        replace H := Option.bind_eq_some_iff.mp H
        obtain ⟨t156, A320, H⟩ := H
        replace H : (if (t155 / 4294967296) ≥ t156 then ((fixed_signed.f k 0 true true).bind fun t157 => (some t157)) else ((bits_Div64.f k (t155 / 4294967296) (IntKind.u64.wrap (t155 * 4294967296)) t156).bind fun bt158 => (if bt158.2 = 0 then ((fixed_rounded.f bt158.1 false false).bind fun bt160 => ((fixed_signed.f k bt160.1 bt160.2 true).bind fun t162 => (some t162))) else ((fixed_Div_1.f true).bind fun t163 => ((fixed_rounded.f bt158.1 false t163).bind fun bt164 => ((fixed_signed.f k bt164.1 bt164.2 true).bind fun t166 => (some t166))))))) = some r := H
        have A32 := Aside0.mk A320
        clear A320
        by_cases c33 : (t155 / 4294967296) ≥ t156
        · rw [if_pos c33] at H
          have c33b0 : decide (t156 ≤ (t155 / 4294967296)) = true := decide_eq_true c33
          clear c33
          replace H := Option.bind_eq_some_iff.mp H
          obtain ⟨t157, A340, H⟩ := H
          replace H : (some t157) = some r := H
          have A34 := Aside0.mk A340
          clear A340
          obtain rfl := Option.some.inj H
          go_enter Try.func123, Try.ntmps123
          go_wp2_with (first | ((with_reducible refine gate_callee (f := 110) rfl ?_); refine goesL_ (some 26) rfl rfl Try.func110 (by kernel_rfl) rfl #[.int .i64 a0] rfl (by (try simp only [List.map_toArray, List.map_cons, List.map_nil]); first | done | rfl | (simp only [List.length_drop, List.length_take]; rfl)) ?_; (with_reducible refine (fixed_size.calls a0 t155 _ A31.out).mono ?_); rintro e w' ⟨rfl, ⟨nd, rfl⟩⟩; refine ⟨_, rfl, ?_⟩) | ((with_reducible refine gate_callee (f := 110) rfl ?_); refine goesL_ (some 28) rfl rfl Try.func110 (by kernel_rfl) rfl #[.int .i64 a1] rfl (by (try simp only [List.map_toArray, List.map_cons, List.map_nil]); first | done | rfl | (simp only [List.length_drop, List.length_take]; rfl)) ?_; (with_reducible refine (fixed_size.calls a1 t156 _ A32.out).mono ?_); rintro e w' ⟨rfl, ⟨nd, rfl⟩⟩; refine ⟨_, rfl, ?_⟩) | ((with_reducible refine gate_callee (f := 112) rfl ?_); refine goesL_ (some 37) rfl rfl Try.func112 (by kernel_rfl) rfl #[.int .u64 0, .bool true, .bool true] rfl (by (try simp only [List.map_toArray, List.map_cons, List.map_nil]); first | done | rfl | (simp only [List.length_drop, List.length_take]; rfl)) ?_; (with_reducible refine (fixed_signed.calls k 0 true true t157 _ A34.out).mono ?_); rintro e w' ⟨rfl, ⟨nd, rfl⟩⟩; refine ⟨_, rfl, ?_⟩))
          go_ret
          exact ⟨by first | rfl | (simp; done) | (simp [*]; done), by repeat (first | exact Drawn0.refl _ | apply Drawn0.step)⟩
        · rw [if_neg c33] at H
          have c33b0 : decide (t156 ≤ (t155 / 4294967296)) = false := decide_eq_false c33
          clear c33
          replace H := Option.bind_eq_some_iff.mp H
          obtain ⟨⟨t158, t159⟩, A350, H⟩ := H
          replace H : (if t159 = 0 then ((fixed_rounded.f t158 false false).bind fun bt160 => ((fixed_signed.f k bt160.1 bt160.2 true).bind fun t162 => (some t162))) else ((fixed_Div_1.f true).bind fun t163 => ((fixed_rounded.f t158 false t163).bind fun bt164 => ((fixed_signed.f k bt164.1 bt164.2 true).bind fun t166 => (some t166))))) = some r := H
          have A35 := Aside0.mk A350
          clear A350
          by_cases c36 : t159 = 0
          · rw [if_pos c36] at H
            have c36b0 : (t159 == 0) = true := beq_iff_eq.mpr c36
            have c36b1 : (t159 != 0) = false := bne_eq_false_iff_eq.mpr c36
            clear c36
            replace H := Option.bind_eq_some_iff.mp H
            obtain ⟨⟨t160, t161⟩, A370, H⟩ := H
            replace H : ((fixed_signed.f k t160 t161 true).bind fun t162 => (some t162)) = some r := H
            have A37 := Aside0.mk A370
            clear A370
            replace H := Option.bind_eq_some_iff.mp H
            obtain ⟨t162, A380, H⟩ := H
            replace H : (some t162) = some r := H
            have A38 := Aside0.mk A380
            clear A380
            obtain rfl := Option.some.inj H
            go_enter Try.func123, Try.ntmps123
            go_wp2_with (first | ((with_reducible refine gate_callee (f := 110) rfl ?_); refine goesL_ (some 26) rfl rfl Try.func110 (by kernel_rfl) rfl #[.int .i64 a0] rfl (by (try simp only [List.map_toArray, List.map_cons, List.map_nil]); first | done | rfl | (simp only [List.length_drop, List.length_take]; rfl)) ?_; (with_reducible refine (fixed_size.calls a0 t155 _ A31.out).mono ?_); rintro e w' ⟨rfl, ⟨nd, rfl⟩⟩; refine ⟨_, rfl, ?_⟩) | ((with_reducible refine gate_callee (f := 110) rfl ?_); refine goesL_ (some 28) rfl rfl Try.func110 (by kernel_rfl) rfl #[.int .i64 a1] rfl (by (try simp only [List.map_toArray, List.map_cons, List.map_nil]); first | done | rfl | (simp only [List.length_drop, List.length_take]; rfl)) ?_; (with_reducible refine (fixed_size.calls a1 t156 _ A32.out).mono ?_); rintro e w' ⟨rfl, ⟨nd, rfl⟩⟩; refine ⟨_, rfl, ?_⟩) | ((with_reducible refine gate_callee (f := 142) rfl ?_); refine goesL_ (some 42) rfl rfl Try.func142 (by kernel_rfl) rfl #[.int .u64 (t155 / 4294967296), .int .u64 (IntKind.u64.wrap (t155 * 4294967296)), .int .u64 t156] rfl (by (try simp only [List.map_toArray, List.map_cons, List.map_nil]); first | done | rfl | (simp only [List.length_drop, List.length_take]; rfl)) ?_; (with_reducible refine (bits_Div64.calls k (t155 / 4294967296) (IntKind.u64.wrap (t155 * 4294967296)) t156 t158 t159 _ A35.out).mono ?_); rintro e w' ⟨rfl, ⟨nd, rfl⟩⟩; refine ⟨_, rfl, ?_⟩) | ((with_reducible refine gate_callee (f := 111) rfl ?_); refine goesL_ (some 54) rfl rfl Try.func111 (by kernel_rfl) rfl #[.int .u64 t158, .bool false, .bool false] rfl (by (try simp only [List.map_toArray, List.map_cons, List.map_nil]); first | done | rfl | (simp only [List.length_drop, List.length_take]; rfl)) ?_; (with_reducible refine (fixed_rounded.calls t158 false false t160 t161 _ A37.out).mono ?_); rintro e w' ⟨rfl, ⟨nd, rfl⟩⟩; refine ⟨_, rfl, ?_⟩) | ((with_reducible refine gate_callee (f := 112) rfl ?_); refine goesL_ (some 60) rfl rfl Try.func112 (by kernel_rfl) rfl #[.int .u64 t160, .bool t161, .bool true] rfl (by (try simp only [List.map_toArray, List.map_cons, List.map_nil]); first | done | rfl | (simp only [List.length_drop, List.length_take]; rfl)) ?_; (with_reducible refine (fixed_signed.calls k t160 t161 true t162 _ A38.out).mono ?_); rintro e w' ⟨rfl, ⟨nd, rfl⟩⟩; refine ⟨_, rfl, ?_⟩))
            go_ret
            exact ⟨by first | rfl | (simp; done) | (simp [*]; done), by repeat (first | exact Drawn0.refl _ | apply Drawn0.step)⟩
          · rw [if_neg c36] at H
            have c36b0 : (t159 == 0) = false := beq_eq_false_iff_ne.mpr c36
            have c36b1 : (t159 != 0) = true := bne_iff_ne.mpr c36
            replace H := Option.bind_eq_some_iff.mp H
            obtain ⟨t163, A390, H⟩ := H
            replace H : ((fixed_rounded.f t158 false t163).bind fun bt164 => ((fixed_signed.f k bt164.1 bt164.2 true).bind fun t166 => (some t166))) = some r := H
            have A39 := Aside0.mk A390
            clear A390
            replace H := Option.bind_eq_some_iff.mp H
            obtain ⟨⟨t164, t165⟩, A400, H⟩ := H
            replace H : ((fixed_signed.f k t164 t165 true).bind fun t166 => (some t166)) = some r := H
            have A40 := Aside0.mk A400
            clear A400
            replace H := Option.bind_eq_some_iff.mp H
            obtain ⟨t166, A410, H⟩ := H
            replace H : (some t166) = some r := H
            have A41 := Aside0.mk A410
            clear A410
            obtain rfl := Option.some.inj H
            go_enter Try.func123, Try.ntmps123
            go_wp2_with (first | ((with_reducible refine gate_callee (f := 110) rfl ?_); refine goesL_ (some 26) rfl rfl Try.func110 (by kernel_rfl) rfl #[.int .i64 a0] rfl (by (try simp only [List.map_toArray, List.map_cons, List.map_nil]); first | done | rfl | (simp only [List.length_drop, List.length_take]; rfl)) ?_; (with_reducible refine (fixed_size.calls a0 t155 _ A31.out).mono ?_); rintro e w' ⟨rfl, ⟨nd, rfl⟩⟩; refine ⟨_, rfl, ?_⟩) | ((with_reducible refine gate_callee (f := 110) rfl ?_); refine goesL_ (some 28) rfl rfl Try.func110 (by kernel_rfl) rfl #[.int .i64 a1] rfl (by (try simp only [List.map_toArray, List.map_cons, List.map_nil]); first | done | rfl | (simp only [List.length_drop, List.length_take]; rfl)) ?_; (with_reducible refine (fixed_size.calls a1 t156 _ A32.out).mono ?_); rintro e w' ⟨rfl, ⟨nd, rfl⟩⟩; refine ⟨_, rfl, ?_⟩) | ((with_reducible refine gate_callee (f := 142) rfl ?_); refine goesL_ (some 42) rfl rfl Try.func142 (by kernel_rfl) rfl #[.int .u64 (t155 / 4294967296), .int .u64 (IntKind.u64.wrap (t155 * 4294967296)), .int .u64 t156] rfl (by (try simp only [List.map_toArray, List.map_cons, List.map_nil]); first | done | rfl | (simp only [List.length_drop, List.length_take]; rfl)) ?_; (with_reducible refine (bits_Div64.calls k (t155 / 4294967296) (IntKind.u64.wrap (t155 * 4294967296)) t156 t158 t159 _ A35.out).mono ?_); rintro e w' ⟨rfl, ⟨nd, rfl⟩⟩; refine ⟨_, rfl, ?_⟩) | (go_at_call 134; refine calls_of_args (args' := #[.bool true]) (by first | rfl | rfl) ?_; (with_reducible refine (fixed_Div_1.calls true t163 _ A39.out).mono ?_); rintro e w' ⟨rfl, ⟨nd, rfl⟩⟩) | ((with_reducible refine gate_callee (f := 111) rfl ?_); refine goesL_ (some 54) rfl rfl Try.func111 (by kernel_rfl) rfl #[.int .u64 t158, .bool false, .bool t163] rfl (by (try simp only [List.map_toArray, List.map_cons, List.map_nil]); first | done | rfl | (simp only [List.length_drop, List.length_take]; rfl)) ?_; (with_reducible refine (fixed_rounded.calls t158 false t163 t164 t165 _ A40.out).mono ?_); rintro e w' ⟨rfl, ⟨nd, rfl⟩⟩; refine ⟨_, rfl, ?_⟩) | ((with_reducible refine gate_callee (f := 112) rfl ?_); refine goesL_ (some 60) rfl rfl Try.func112 (by kernel_rfl) rfl #[.int .u64 t164, .bool t165, .bool true] rfl (by (try simp only [List.map_toArray, List.map_cons, List.map_nil]); first | done | rfl | (simp only [List.length_drop, List.length_take]; rfl)) ?_; (with_reducible refine (fixed_signed.calls k t164 t165 true t166 _ A41.out).mono ?_); rintro e w' ⟨rfl, ⟨nd, rfl⟩⟩; refine ⟨_, rfl, ?_⟩))
            go_ret
            exact ⟨by first | rfl | (simp; done) | (simp [*]; done), by repeat (first | exact Drawn0.refl _ | apply Drawn0.step)⟩
      · rw [if_neg c30] at H
        have c30b0 : decide (a1 < 0) = false := decide_eq_false c30
        clear c30
        replace H := Option.bind_eq_some_iff.mp H
        obtain ⟨t167, A420, H⟩ := H
        replace H : ((fixed_size.f a1).bind fun t168 => (if (t167 / 4294967296) ≥ t168 then ((fixed_signed.f k 0 true false).bind fun t169 => (some t169)) else ((bits_Div64.f k (t167 / 4294967296) (IntKind.u64.wrap (t167 * 4294967296)) t168).bind fun bt170 => (if bt170.2 = 0 then ((fixed_rounded.f bt170.1 false false).bind fun bt172 => ((fixed_signed.f k bt172.1 bt172.2 false).bind fun t174 => (some t174))) else ((fixed_Div_1.f false).bind fun t175 => ((fixed_rounded.f bt170.1 false t175).bind fun bt176 => ((fixed_signed.f k bt176.1 bt176.2 false).bind fun t178 => (some t178)))))))) = some r := H
        have A42 := Aside0.mk A420
        clear A420
        replace H := Option.bind_eq_some_iff.mp H
        obtain ⟨t168, A430, H⟩ := H
        replace H : (if (t167 / 4294967296) ≥ t168 then ((fixed_signed.f k 0 true false).bind fun t169 => (some t169)) else ((bits_Div64.f k (t167 / 4294967296) (IntKind.u64.wrap (t167 * 4294967296)) t168).bind fun bt170 => (if bt170.2 = 0 then ((fixed_rounded.f bt170.1 false false).bind fun bt172 => ((fixed_signed.f k bt172.1 bt172.2 false).bind fun t174 => (some t174))) else ((fixed_Div_1.f false).bind fun t175 => ((fixed_rounded.f bt170.1 false t175).bind fun bt176 => ((fixed_signed.f k bt176.1 bt176.2 false).bind fun t178 => (some t178))))))) = some r := H
        have A43 := Aside0.mk A430
        clear A430
        by_cases c44 : (t167 / 4294967296) ≥ t168
        · rw [if_pos c44] at H
          have c44b0 : decide (t168 ≤ (t167 / 4294967296)) = true := decide_eq_true c44
          clear c44
          replace H := Option.bind_eq_some_iff.mp H
          obtain ⟨t169, A450, H⟩ := H
          replace H : (some t169) = some r := H
          have A45 := Aside0.mk A450
          clear A450
          obtain rfl := Option.some.inj H
          go_enter Try.func123, Try.ntmps123
          go_wp2_with (first | ((with_reducible refine gate_callee (f := 110) rfl ?_); refine goesL_ (some 26) rfl rfl Try.func110 (by kernel_rfl) rfl #[.int .i64 a0] rfl (by (try simp only [List.map_toArray, List.map_cons, List.map_nil]); first | done | rfl | (simp only [List.length_drop, List.length_take]; rfl)) ?_; (with_reducible refine (fixed_size.calls a0 t167 _ A42.out).mono ?_); rintro e w' ⟨rfl, ⟨nd, rfl⟩⟩; refine ⟨_, rfl, ?_⟩) | ((with_reducible refine gate_callee (f := 110) rfl ?_); refine goesL_ (some 28) rfl rfl Try.func110 (by kernel_rfl) rfl #[.int .i64 a1] rfl (by (try simp only [List.map_toArray, List.map_cons, List.map_nil]); first | done | rfl | (simp only [List.length_drop, List.length_take]; rfl)) ?_; (with_reducible refine (fixed_size.calls a1 t168 _ A43.out).mono ?_); rintro e w' ⟨rfl, ⟨nd, rfl⟩⟩; refine ⟨_, rfl, ?_⟩) | ((with_reducible refine gate_callee (f := 112) rfl ?_); refine goesL_ (some 37) rfl rfl Try.func112 (by kernel_rfl) rfl #[.int .u64 0, .bool true, .bool false] rfl (by (try simp only [List.map_toArray, List.map_cons, List.map_nil]); first | done | rfl | (simp only [List.length_drop, List.length_take]; rfl)) ?_; (with_reducible refine (fixed_signed.calls k 0 true false t169 _ A45.out).mono ?_); rintro e w' ⟨rfl, ⟨nd, rfl⟩⟩; refine ⟨_, rfl, ?_⟩))
          go_ret
          exact ⟨by first | rfl | (simp; done) | (simp [*]; done), by repeat (first | exact Drawn0.refl _ | apply Drawn0.step)⟩
        · rw [if_neg c44] at H
          have c44b0 : decide (t168 ≤ (t167 / 4294967296)) = false := decide_eq_false c44
          clear c44
          replace H := Option.bind_eq_some_iff.mp H
          obtain ⟨⟨t170, t171⟩, A460, H⟩ := H
          replace H : (if t171 = 0 then ((fixed_rounded.f t170 false false).bind fun bt172 => ((fixed_signed.f k bt172.1 bt172.2 false).bind fun t174 => (some t174))) else ((fixed_Div_1.f false).bind fun t175 => ((fixed_rounded.f t170 false t175).bind fun bt176 => ((fixed_signed.f k bt176.1 bt176.2 false).bind fun t178 => (some t178))))) = some r := H
          have A46 := Aside0.mk A460
          clear A460
          by_cases c47 : t171 = 0
          · rw [if_pos c47] at H
            have c47b0 : (t171 == 0) = true := beq_iff_eq.mpr c47
            have c47b1 : (t171 != 0) = false := bne_eq_false_iff_eq.mpr c47
            clear c47
            replace H := Option.bind_eq_some_iff.mp H
            obtain ⟨⟨t172, t173⟩, A480, H⟩ := H
            replace H : ((fixed_signed.f k t172 t173 false).bind fun t174 => (some t174)) = some r := H
            have A48 := Aside0.mk A480
            clear A480
            replace H := Option.bind_eq_some_iff.mp H
            obtain ⟨t174, A490, H⟩ := H
            replace H : (some t174) = some r := H
            have A49 := Aside0.mk A490
            clear A490
            obtain rfl := Option.some.inj H
            go_enter Try.func123, Try.ntmps123
            go_wp2_with (first | ((with_reducible refine gate_callee (f := 110) rfl ?_); refine goesL_ (some 26) rfl rfl Try.func110 (by kernel_rfl) rfl #[.int .i64 a0] rfl (by (try simp only [List.map_toArray, List.map_cons, List.map_nil]); first | done | rfl | (simp only [List.length_drop, List.length_take]; rfl)) ?_; (with_reducible refine (fixed_size.calls a0 t167 _ A42.out).mono ?_); rintro e w' ⟨rfl, ⟨nd, rfl⟩⟩; refine ⟨_, rfl, ?_⟩) | ((with_reducible refine gate_callee (f := 110) rfl ?_); refine goesL_ (some 28) rfl rfl Try.func110 (by kernel_rfl) rfl #[.int .i64 a1] rfl (by (try simp only [List.map_toArray, List.map_cons, List.map_nil]); first | done | rfl | (simp only [List.length_drop, List.length_take]; rfl)) ?_; (with_reducible refine (fixed_size.calls a1 t168 _ A43.out).mono ?_); rintro e w' ⟨rfl, ⟨nd, rfl⟩⟩; refine ⟨_, rfl, ?_⟩) | ((with_reducible refine gate_callee (f := 142) rfl ?_); refine goesL_ (some 42) rfl rfl Try.func142 (by kernel_rfl) rfl #[.int .u64 (t167 / 4294967296), .int .u64 (IntKind.u64.wrap (t167 * 4294967296)), .int .u64 t168] rfl (by (try simp only [List.map_toArray, List.map_cons, List.map_nil]); first | done | rfl | (simp only [List.length_drop, List.length_take]; rfl)) ?_; (with_reducible refine (bits_Div64.calls k (t167 / 4294967296) (IntKind.u64.wrap (t167 * 4294967296)) t168 t170 t171 _ A46.out).mono ?_); rintro e w' ⟨rfl, ⟨nd, rfl⟩⟩; refine ⟨_, rfl, ?_⟩) | ((with_reducible refine gate_callee (f := 111) rfl ?_); refine goesL_ (some 54) rfl rfl Try.func111 (by kernel_rfl) rfl #[.int .u64 t170, .bool false, .bool false] rfl (by (try simp only [List.map_toArray, List.map_cons, List.map_nil]); first | done | rfl | (simp only [List.length_drop, List.length_take]; rfl)) ?_; (with_reducible refine (fixed_rounded.calls t170 false false t172 t173 _ A48.out).mono ?_); rintro e w' ⟨rfl, ⟨nd, rfl⟩⟩; refine ⟨_, rfl, ?_⟩) | ((with_reducible refine gate_callee (f := 112) rfl ?_); refine goesL_ (some 60) rfl rfl Try.func112 (by kernel_rfl) rfl #[.int .u64 t172, .bool t173, .bool false] rfl (by (try simp only [List.map_toArray, List.map_cons, List.map_nil]); first | done | rfl | (simp only [List.length_drop, List.length_take]; rfl)) ?_; (with_reducible refine (fixed_signed.calls k t172 t173 false t174 _ A49.out).mono ?_); rintro e w' ⟨rfl, ⟨nd, rfl⟩⟩; refine ⟨_, rfl, ?_⟩))
            go_ret
            exact ⟨by first | rfl | (simp; done) | (simp [*]; done), by repeat (first | exact Drawn0.refl _ | apply Drawn0.step)⟩
          · rw [if_neg c47] at H
            have c47b0 : (t171 == 0) = false := beq_eq_false_iff_ne.mpr c47
            have c47b1 : (t171 != 0) = true := bne_iff_ne.mpr c47
            replace H := Option.bind_eq_some_iff.mp H
            obtain ⟨t175, A500, H⟩ := H
            replace H : ((fixed_rounded.f t170 false t175).bind fun bt176 => ((fixed_signed.f k bt176.1 bt176.2 false).bind fun t178 => (some t178))) = some r := H
            have A50 := Aside0.mk A500
            clear A500
            replace H := Option.bind_eq_some_iff.mp H
            obtain ⟨⟨t176, t177⟩, A510, H⟩ := H
            replace H : ((fixed_signed.f k t176 t177 false).bind fun t178 => (some t178)) = some r := H
            have A51 := Aside0.mk A510
            clear A510
            replace H := Option.bind_eq_some_iff.mp H
            obtain ⟨t178, A520, H⟩ := H
            replace H : (some t178) = some r := H
            have A52 := Aside0.mk A520
            clear A520
            obtain rfl := Option.some.inj H
            go_enter Try.func123, Try.ntmps123
            go_wp2_with (first | ((with_reducible refine gate_callee (f := 110) rfl ?_); refine goesL_ (some 26) rfl rfl Try.func110 (by kernel_rfl) rfl #[.int .i64 a0] rfl (by (try simp only [List.map_toArray, List.map_cons, List.map_nil]); first | done | rfl | (simp only [List.length_drop, List.length_take]; rfl)) ?_; (with_reducible refine (fixed_size.calls a0 t167 _ A42.out).mono ?_); rintro e w' ⟨rfl, ⟨nd, rfl⟩⟩; refine ⟨_, rfl, ?_⟩) | ((with_reducible refine gate_callee (f := 110) rfl ?_); refine goesL_ (some 28) rfl rfl Try.func110 (by kernel_rfl) rfl #[.int .i64 a1] rfl (by (try simp only [List.map_toArray, List.map_cons, List.map_nil]); first | done | rfl | (simp only [List.length_drop, List.length_take]; rfl)) ?_; (with_reducible refine (fixed_size.calls a1 t168 _ A43.out).mono ?_); rintro e w' ⟨rfl, ⟨nd, rfl⟩⟩; refine ⟨_, rfl, ?_⟩) | ((with_reducible refine gate_callee (f := 142) rfl ?_); refine goesL_ (some 42) rfl rfl Try.func142 (by kernel_rfl) rfl #[.int .u64 (t167 / 4294967296), .int .u64 (IntKind.u64.wrap (t167 * 4294967296)), .int .u64 t168] rfl (by (try simp only [List.map_toArray, List.map_cons, List.map_nil]); first | done | rfl | (simp only [List.length_drop, List.length_take]; rfl)) ?_; (with_reducible refine (bits_Div64.calls k (t167 / 4294967296) (IntKind.u64.wrap (t167 * 4294967296)) t168 t170 t171 _ A46.out).mono ?_); rintro e w' ⟨rfl, ⟨nd, rfl⟩⟩; refine ⟨_, rfl, ?_⟩) | (go_at_call 134; refine calls_of_args (args' := #[.bool false]) (by first | rfl | rfl) ?_; (with_reducible refine (fixed_Div_1.calls false t175 _ A50.out).mono ?_); rintro e w' ⟨rfl, ⟨nd, rfl⟩⟩) | ((with_reducible refine gate_callee (f := 111) rfl ?_); refine goesL_ (some 54) rfl rfl Try.func111 (by kernel_rfl) rfl #[.int .u64 t170, .bool false, .bool t175] rfl (by (try simp only [List.map_toArray, List.map_cons, List.map_nil]); first | done | rfl | (simp only [List.length_drop, List.length_take]; rfl)) ?_; (with_reducible refine (fixed_rounded.calls t170 false t175 t176 t177 _ A51.out).mono ?_); rintro e w' ⟨rfl, ⟨nd, rfl⟩⟩; refine ⟨_, rfl, ?_⟩) | ((with_reducible refine gate_callee (f := 112) rfl ?_); refine goesL_ (some 60) rfl rfl Try.func112 (by kernel_rfl) rfl #[.int .u64 t176, .bool t177, .bool false] rfl (by (try simp only [List.map_toArray, List.map_cons, List.map_nil]); first | done | rfl | (simp only [List.length_drop, List.length_take]; rfl)) ?_; (with_reducible refine (fixed_signed.calls k t176 t177 false t178 _ A52.out).mono ?_); rintro e w' ⟨rfl, ⟨nd, rfl⟩⟩; refine ⟨_, rfl, ?_⟩))
            go_ret
            exact ⟨by first | rfl | (simp; done) | (simp [*]; done), by repeat (first | exact Drawn0.refl _ | apply Drawn0.step)⟩
def fixed_Div.f (k : Nat) (a0 : Int) (a1 : Int) : Option (Int) := (fixed_quotient_134.f k a0 a1).bind fun t179 => (some t179)
set_option maxHeartbeats 8000000 in
set_option maxRecDepth 100000 in
theorem fixed_Div.calls (k : Nat) (a0 : Int) (a1 : Int) (r : Int) (w : World) (h : fixed_Div.f k a0 a1 = some r) :
    Calls Try.prog 102 #[.int .i64 a0, .int .i64 a1] w fun e w' => e = .returned (.int .i64 r) ∧ Drawn0 w w' := by
  have H : ((fixed_quotient_134.f k a0 a1).bind fun t179 => (some t179)) = some r := h
  clear h
  replace H := Option.bind_eq_some_iff.mp H
  obtain ⟨t179, A30, H⟩ := H
  replace H : (some t179) = some r := H
  have A3 := Aside0.mk A30
  clear A30
  obtain rfl := Option.some.inj H
  go_enter Try.func102, Try.ntmps102
  go_wp2_with (first | ((with_reducible refine gate_callee (f := 123) rfl ?_); refine goesL_ (some 7) rfl rfl Try.func123 (by kernel_rfl) rfl #[.int .i64 a0, .int .i64 a1, .func (.func 134) #[] #[]] rfl (by (try simp only [List.map_toArray, List.map_cons, List.map_nil]); first | done | rfl | (simp only [List.length_drop, List.length_take]; rfl)) ?_; (with_reducible refine (fixed_quotient_134.calls k a0 a1  t179 _ A3.out).mono ?_); rintro e w' ⟨rfl, ⟨nd, rfl⟩⟩; refine ⟨_, rfl, ?_⟩))
  go_ret
  exact ⟨by first | rfl | (simp; done) | (simp [*]; done), by repeat (first | exact Drawn0.refl _ | apply Drawn0.step)⟩
def fixed_CeilDiv_1.f (a0 : Bool) : Option (Bool) := some (!a0)
set_option maxHeartbeats 8000000 in
set_option maxRecDepth 100000 in
theorem fixed_CeilDiv_1.calls (a0 : Bool) (r : Bool) (w : World) (h : fixed_CeilDiv_1.f a0 = some r) :
    Calls Try.prog 124 #[.bool a0] w fun e w' => e = .returned (.bool r) ∧ Drawn0 w w' := by
  have H : (some (!a0)) = some r := h
  clear h
  obtain rfl := Option.some.inj H
  go_enter Try.func124, Try.ntmps124
  go_wp2
  go_ret
  exact ⟨by first | rfl | (simp; done) | (simp [*]; done), by repeat (first | exact Drawn0.refl _ | apply Drawn0.step)⟩
end Go.Proofs.Ytemnfnbjapobcaa.Fix
end
section
namespace Go.Proofs.Ytemnfnbjapobcaa.Fix
open Go.RowKit Go.Proofs.YtemnfnbjapobcaaW.PrintWords Go.Proofs.YtemnfnbjapobcaaW.PrintLast Go.Proofs.YtemnfnbjapobcaaW.PrintMore
attribute [local go_sem] max2_int min2_int max_two min_two max_three min_three max_four min_four   -- for this text's walks alone
set_option linter.unusedVariables false
set_option linter.unusedSimpArgs false
def fixed_quotient_124.f (k : Nat) (a0 : Int) (a1 : Int)  : Option (Int) := if a1 = 0 then ((fixed_edge.f a0).bind fun t180 => (some t180)) else (if a0 < 0 then (if a1 < 0 then ((fixed_size.f a0).bind fun t181 => ((fixed_size.f a1).bind fun t182 => (if (t181 / 4294967296) ≥ t182 then ((fixed_signed.f k 0 true false).bind fun t183 => (some t183)) else ((bits_Div64.f k (t181 / 4294967296) (IntKind.u64.wrap (t181 * 4294967296)) t182).bind fun bt184 => (if bt184.2 = 0 then ((fixed_rounded.f bt184.1 false false).bind fun bt186 => ((fixed_signed.f k bt186.1 bt186.2 false).bind fun t188 => (some t188))) else ((fixed_CeilDiv_1.f false).bind fun t189 => ((fixed_rounded.f bt184.1 false t189).bind fun bt190 => ((fixed_signed.f k bt190.1 bt190.2 false).bind fun t192 => (some t192))))))))) else ((fixed_size.f a0).bind fun t193 => ((fixed_size.f a1).bind fun t194 => (if (t193 / 4294967296) ≥ t194 then ((fixed_signed.f k 0 true true).bind fun t195 => (some t195)) else ((bits_Div64.f k (t193 / 4294967296) (IntKind.u64.wrap (t193 * 4294967296)) t194).bind fun bt196 => (if bt196.2 = 0 then ((fixed_rounded.f bt196.1 false false).bind fun bt198 => ((fixed_signed.f k bt198.1 bt198.2 true).bind fun t200 => (some t200))) else ((fixed_CeilDiv_1.f true).bind fun t201 => ((fixed_rounded.f bt196.1 false t201).bind fun bt202 => ((fixed_signed.f k bt202.1 bt202.2 true).bind fun t204 => (some t204)))))))))) else (if a1 < 0 then ((fixed_size.f a0).bind fun t205 => ((fixed_size.f a1).bind fun t206 => (if (t205 / 4294967296) ≥ t206 then ((fixed_signed.f k 0 true true).bind fun t207 => (some t207)) else ((bits_Div64.f k (t205 / 4294967296) (IntKind.u64.wrap (t205 * 4294967296)) t206).bind fun bt208 => (if bt208.2 = 0 then ((fixed_rounded.f bt208.1 false false).bind fun bt210 => ((fixed_signed.f k bt210.1 bt210.2 true).bind fun t212 => (some t212))) else ((fixed_CeilDiv_1.f true).bind fun t213 => ((fixed_rounded.f bt208.1 false t213).bind fun bt214 => ((fixed_signed.f k bt214.1 bt214.2 true).bind fun t216 => (some t216))))))))) else ((fixed_size.f a0).bind fun t217 => ((fixed_size.f a1).bind fun t218 => (if (t217 / 4294967296) ≥ t218 then ((fixed_signed.f k 0 true false).bind fun t219 => (some t219)) else ((bits_Div64.f k (t217 / 4294967296) (IntKind.u64.wrap (t217 * 4294967296)) t218).bind fun bt220 => (if bt220.2 = 0 then ((fixed_rounded.f bt220.1 false false).bind fun bt222 => ((fixed_signed.f k bt222.1 bt222.2 false).bind fun t224 => (some t224))) else ((fixed_CeilDiv_1.f false).bind fun t225 => ((fixed_rounded.f bt220.1 false t225).bind fun bt226 => ((fixed_signed.f k bt226.1 bt226.2 false).bind fun t228 => (some t228)))))))))))
set_option maxHeartbeats 8000000 in
set_option maxRecDepth 100000 in
theorem fixed_quotient_124.calls (k : Nat) (a0 : Int) (a1 : Int)  (r : Int) (w : World) (h : fixed_quotient_124.f k a0 a1 = some r) :
    Calls Try.prog 123 #[.int .i64 a0, .int .i64 a1, .func (.func 124) #[] #[]] w fun e w' => e = .returned (.int .i64 r) ∧ Drawn0 w w' := by
  have H : (if a1 = 0 then ((fixed_edge.f a0).bind fun t180 => (some t180)) else (if a0 < 0 then (if a1 < 0 then ((fixed_size.f a0).bind fun t181 => ((fixed_size.f a1).bind fun t182 => (if (t181 / 4294967296) ≥ t182 then ((fixed_signed.f k 0 true false).bind fun t183 => (some t183)) else ((bits_Div64.f k (t181 / 4294967296) (IntKind.u64.wrap (t181 * 4294967296)) t182).bind fun bt184 => (if bt184.2 = 0 then ((fixed_rounded.f bt184.1 false false).bind fun bt186 => ((fixed_signed.f k bt186.1 bt186.2 false).bind fun t188 => (some t188))) else ((fixed_CeilDiv_1.f false).bind fun t189 => ((fixed_rounded.f bt184.1 false t189).bind fun bt190 => ((fixed_signed.f k bt190.1 bt190.2 false).bind fun t192 => (some t192))))))))) else ((fixed_size.f a0).bind fun t193 => ((fixed_size.f a1).bind fun t194 => (if (t193 / 4294967296) ≥ t194 then ((fixed_signed.f k 0 true true).bind fun t195 => (some t195)) else ((bits_Div64.f k (t193 / 4294967296) (IntKind.u64.wrap (t193 * 4294967296)) t194).bind fun bt196 => (if bt196.2 = 0 then ((fixed_rounded.f bt196.1 false false).bind fun bt198 => ((fixed_signed.f k bt198.1 bt198.2 true).bind fun t200 => (some t200))) else ((fixed_CeilDiv_1.f true).bind fun t201 => ((fixed_rounded.f bt196.1 false t201).bind fun bt202 => ((fixed_signed.f k bt202.1 bt202.2 true).bind fun t204 => (some t204)))))))))) else (if a1 < 0 then ((fixed_size.f a0).bind fun t205 => ((fixed_size.f a1).bind fun t206 => (if (t205 / 4294967296) ≥ t206 then ((fixed_signed.f k 0 true true).bind fun t207 => (some t207)) else ((bits_Div64.f k (t205 / 4294967296) (IntKind.u64.wrap (t205 * 4294967296)) t206).bind fun bt208 => (if bt208.2 = 0 then ((fixed_rounded.f bt208.1 false false).bind fun bt210 => ((fixed_signed.f k bt210.1 bt210.2 true).bind fun t212 => (some t212))) else ((fixed_CeilDiv_1.f true).bind fun t213 => ((fixed_rounded.f bt208.1 false t213).bind fun bt214 => ((fixed_signed.f k bt214.1 bt214.2 true).bind fun t216 => (some t216))))))))) else ((fixed_size.f a0).bind fun t217 => ((fixed_size.f a1).bind fun t218 => (if (t217 / 4294967296) ≥ t218 then ((fixed_signed.f k 0 true false).bind fun t219 => (some t219)) else ((bits_Div64.f k (t217 / 4294967296) (IntKind.u64.wrap (t217 * 4294967296)) t218).bind fun bt220 => (if bt220.2 = 0 then ((fixed_rounded.f bt220.1 false false).bind fun bt222 => ((fixed_signed.f k bt222.1 bt222.2 false).bind fun t224 => (some t224))) else ((fixed_CeilDiv_1.f false).bind fun t225 => ((fixed_rounded.f bt220.1 false t225).bind fun bt226 => ((fixed_signed.f k bt226.1 bt226.2 false).bind fun t228 => (some t228)))))))))))) = some r := h
  clear h
  by_cases c4 : a1 = 0
  · rw [if_pos c4] at H
    have c4b0 : (a1 == 0) = true := beq_iff_eq.mpr c4
    have c4b1 : (a1 != 0) = false := bne_eq_false_iff_eq.mpr c4
    clear c4
    replace H := Option.bind_eq_some_iff.mp H
    obtain ⟨t180, A50, H⟩ := H
    replace H : (some t180) = some r := H
    have A5 := Aside0.mk A50
    clear A50
    obtain rfl := Option.some.inj H
    go_enter Try.func123, Try.ntmps123
    go_wp2_with (first | ((with_reducible refine gate_callee (f := 141) rfl ?_); refine goesL_ (some 19) rfl rfl Try.func141 (by kernel_rfl) rfl #[.int .i64 a0] rfl (by (try simp only [List.map_toArray, List.map_cons, List.map_nil]); first | done | rfl | (simp only [List.length_drop, List.length_take]; rfl)) ?_; (with_reducible refine (fixed_edge.calls a0 t180 _ A5.out).mono ?_); rintro e w' ⟨rfl, ⟨nd, rfl⟩⟩; refine ⟨_, rfl, ?_⟩))
    go_ret
    exact ⟨by first | rfl | (simp; done) | (simp [*]; done), by repeat (first | exact Drawn0.refl _ | apply Drawn0.step)⟩
  · rw [if_neg c4] at H
    have c4b0 : (a1 == 0) = false := beq_eq_false_iff_ne.mpr c4
    have c4b1 : (a1 != 0) = true := bne_iff_ne.mpr c4
    by_cases c6 : a0 < 0
    · rw [if_pos c6] at H
      have c6b0 : decide (a0 < 0) = true := decide_eq_true c6
      clear c6
      by_cases c7 : a1 < 0
      · rw [if_pos c7] at H
        have c7b0 : decide (a1 < 0) = true := decide_eq_true c7
        clear c7
        replace H := Option.bind_eq_some_iff.mp H
        obtain ⟨t181, A80, H⟩ := H
        replace H : ((fixed_size.f a1).bind fun t182 => (if (t181 / 4294967296) ≥ t182 then ((fixed_signed.f k 0 true false).bind fun t183 => (some t183)) else ((bits_Div64.f k (t181 / 4294967296) (IntKind.u64.wrap (t181 * 4294967296)) t182).bind fun bt184 => (if bt184.2 = 0 then ((fixed_rounded.f bt184.1 false false).bind fun bt186 => ((fixed_signed.f k bt186.1 bt186.2 false).bind fun t188 => (some t188))) else ((fixed_CeilDiv_1.f false).bind fun t189 => ((fixed_rounded.f bt184.1 false t189).bind fun bt190 => ((fixed_signed.f k bt190.1 bt190.2 false).bind fun t192 => (some t192)))))))) = some r := H
        have A8 := Aside0.mk A80
        clear A80
        replace H := Option.bind_eq_some_iff.mp H
        obtain ⟨t182, A90, H⟩ := H
        replace H : (if (t181 / 4294967296) ≥ t182 then ((fixed_signed.f k 0 true false).bind fun t183 => (some t183)) else ((bits_Div64.f k (t181 / 4294967296) (IntKind.u64.wrap (t181 * 4294967296)) t182).bind fun bt184 => (if bt184.2 = 0 then ((fixed_rounded.f bt184.1 false false).bind fun bt186 => ((fixed_signed.f k bt186.1 bt186.2 false).bind fun t188 => (some t188))) else ((fixed_CeilDiv_1.f false).bind fun t189 => ((fixed_rounded.f bt184.1 false t189).bind fun bt190 => ((fixed_signed.f k bt190.1 bt190.2 false).bind fun t192 => (some t192))))))) = some r := H
        have A9 := Aside0.mk A90
        clear A90
        by_cases c10 : (t181 / 4294967296) ≥ t182
        · rw [if_pos c10] at H
          have c10b0 : decide (t182 ≤ (t181 / 4294967296)) = true := decide_eq_true c10
          clear c10
          replace H := Option.bind_eq_some_iff.mp H
          obtain ⟨t183, A110, H⟩ := H
          replace H : (some t183) = some r := H
          have A11 := Aside0.mk A110
          clear A110
          obtain rfl := Option.some.inj H
          go_enter Try.func123, Try.ntmps123
          go_wp2_with (first | ((with_reducible refine gate_callee (f := 110) rfl ?_); refine goesL_ (some 26) rfl rfl Try.func110 (by kernel_rfl) rfl #[.int .i64 a0] rfl (by (try simp only [List.map_toArray, List.map_cons, List.map_nil]); first | done | rfl | (simp only [List.length_drop, List.length_take]; rfl)) ?_; (with_reducible refine (fixed_size.calls a0 t181 _ A8.out).mono ?_); rintro e w' ⟨rfl, ⟨nd, rfl⟩⟩; refine ⟨_, rfl, ?_⟩) | ((with_reducible refine gate_callee (f := 110) rfl ?_); refine goesL_ (some 28) rfl rfl Try.func110 (by kernel_rfl) rfl #[.int .i64 a1] rfl (by (try simp only [List.map_toArray, List.map_cons, List.map_nil]); first | done | rfl | (simp only [List.length_drop, List.length_take]; rfl)) ?_; (with_reducible refine (fixed_size.calls a1 t182 _ A9.out).mono ?_); rintro e w' ⟨rfl, ⟨nd, rfl⟩⟩; refine ⟨_, rfl, ?_⟩) | ((with_reducible refine gate_callee (f := 112) rfl ?_); refine goesL_ (some 37) rfl rfl Try.func112 (by kernel_rfl) rfl #[.int .u64 0, .bool true, .bool false] rfl (by (try simp only [List.map_toArray, List.map_cons, List.map_nil]); first | done | rfl | (simp only [List.length_drop, List.length_take]; rfl)) ?_; (with_reducible refine (fixed_signed.calls k 0 true false t183 _ A11.out).mono ?_); rintro e w' ⟨rfl, ⟨nd, rfl⟩⟩; refine ⟨_, rfl, ?_⟩))
          go_ret
          exact ⟨by first | rfl | (simp; done) | (simp [*]; done), by repeat (first | exact Drawn0.refl _ | apply Drawn0.step)⟩
        · rw [if_neg c10] at H
          have c10b0 : decide (t182 ≤ (t181 / 4294967296)) = false := decide_eq_false c10
          clear c10
          replace H := Option.bind_eq_some_iff.mp H
          obtain ⟨⟨t184, t185⟩, A120, H⟩ := H
          replace H : (if t185 = 0 then ((fixed_rounded.f t184 false false).bind fun bt186 => ((fixed_signed.f k bt186.1 bt186.2 false).bind fun t188 => (some t188))) else ((fixed_CeilDiv_1.f false).bind fun t189 => ((fixed_rounded.f t184 false t189).bind fun bt190 => ((fixed_signed.f k bt190.1 bt190.2 false).bind fun t192 => (some t192))))) = some r := H
          have A12 := Aside0.mk A120
          clear A120
          by_cases c13 : t185 = 0
          · rw [if_pos c13] at H
            have c13b0 : (t185 == 0) = true := beq_iff_eq.mpr c13
            have c13b1 : (t185 != 0) = false := bne_eq_false_iff_eq.mpr c13
            clear c13
            replace H := Option.bind_eq_some_iff.mp H
            obtain ⟨⟨t186, t187⟩, A140, H⟩ := H
            replace H : ((fixed_signed.f k t186 t187 false).bind fun t188 => (some t188)) = some r := H
            have A14 := Aside0.mk A140
            clear A140
            replace H := Option.bind_eq_some_iff.mp H
            obtain ⟨t188, A150, H⟩ := H
            replace H : (some t188) = some r := H
            have A15 := Aside0.mk A150
            clear A150
            obtain rfl := Option.some.inj H
            go_enter Try.func123, Try.ntmps123
            go_wp2_with (first | ((with_reducible refine gate_callee (f := 110) rfl ?_); refine goesL_ (some 26) rfl rfl Try.func110 (by kernel_rfl) rfl #[.int .i64 a0] rfl (by (try simp only [List.map_toArray, List.map_cons, List.map_nil]); first | done | rfl | (simp only [List.length_drop, List.length_take]; rfl)) ?_; (with_reducible refine (fixed_size.calls a0 t181 _ A8.out).mono ?_); rintro e w' ⟨rfl, ⟨nd, rfl⟩⟩; refine ⟨_, rfl, ?_⟩) | ((with_reducible refine gate_callee (f := 110) rfl ?_); refine goesL_ (some 28) rfl rfl Try.func110 (by kernel_rfl) rfl #[.int .i64 a1] rfl (by (try simp only [List.map_toArray, List.map_cons, List.map_nil]); first | done | rfl | (simp only [List.length_drop, List.length_take]; rfl)) ?_; (with_reducible refine (fixed_size.calls a1 t182 _ A9.out).mono ?_); rintro e w' ⟨rfl, ⟨nd, rfl⟩⟩; refine ⟨_, rfl, ?_⟩) | ((with_reducible refine gate_callee (f := 142) rfl ?_); refine goesL_ (some 42) rfl rfl Try.func142 (by kernel_rfl) rfl #[.int .u64 (t181 / 4294967296), .int .u64 (IntKind.u64.wrap (t181 * 4294967296)), .int .u64 t182] rfl (by (try simp only [List.map_toArray, List.map_cons, List.map_nil]); first | done | rfl | (simp only [List.length_drop, List.length_take]; rfl)) ?_; (with_reducible refine (bits_Div64.calls k (t181 / 4294967296) (IntKind.u64.wrap (t181 * 4294967296)) t182 t184 t185 _ A12.out).mono ?_); rintro e w' ⟨rfl, ⟨nd, rfl⟩⟩; refine ⟨_, rfl, ?_⟩) | ((with_reducible refine gate_callee (f := 111) rfl ?_); refine goesL_ (some 54) rfl rfl Try.func111 (by kernel_rfl) rfl #[.int .u64 t184, .bool false, .bool false] rfl (by (try simp only [List.map_toArray, List.map_cons, List.map_nil]); first | done | rfl | (simp only [List.length_drop, List.length_take]; rfl)) ?_; (with_reducible refine (fixed_rounded.calls t184 false false t186 t187 _ A14.out).mono ?_); rintro e w' ⟨rfl, ⟨nd, rfl⟩⟩; refine ⟨_, rfl, ?_⟩) | ((with_reducible refine gate_callee (f := 112) rfl ?_); refine goesL_ (some 60) rfl rfl Try.func112 (by kernel_rfl) rfl #[.int .u64 t186, .bool t187, .bool false] rfl (by (try simp only [List.map_toArray, List.map_cons, List.map_nil]); first | done | rfl | (simp only [List.length_drop, List.length_take]; rfl)) ?_; (with_reducible refine (fixed_signed.calls k t186 t187 false t188 _ A15.out).mono ?_); rintro e w' ⟨rfl, ⟨nd, rfl⟩⟩; refine ⟨_, rfl, ?_⟩))
            go_ret
            exact ⟨by first | rfl | (simp; done) | (simp [*]; done), by repeat (first | exact Drawn0.refl _ | apply Drawn0.step)⟩
          · rw [if_neg c13] at H
            have c13b0 : (t185 == 0) = false := beq_eq_false_iff_ne.mpr c13
            have c13b1 : (t185 != 0) = true := bne_iff_ne.mpr c13
            replace H := Option.bind_eq_some_iff.mp H
            obtain ⟨t189, A160, H⟩ := H
            replace H : ((fixed_rounded.f t184 false t189).bind fun bt190 => ((fixed_signed.f k bt190.1 bt190.2 false).bind fun t192 => (some t192))) = some r := H
            have A16 := Aside0.mk A160
            clear A160
            replace H := Option.bind_eq_some_iff.mp H
            obtain ⟨⟨t190, t191⟩, A170, H⟩ := H
            replace H : ((fixed_signed.f k t190 t191 false).bind fun t192 => (some t192)) = some r := H
            have A17 := Aside0.mk A170
            clear A170
            replace H := Option.bind_eq_some_iff.mp H
            obtain ⟨t192, A180, H⟩ := H
            replace H : (some t192) = some r := H
            have A18 := Aside0.mk A180
            clear A180
            obtain rfl := Option.some.inj H
            go_enter Try.func123, Try.ntmps123
            go_wp2_with (first | ((with_reducible refine gate_callee (f := 110) rfl ?_); refine goesL_ (some 26) rfl rfl Try.func110 (by kernel_rfl) rfl #[.int .i64 a0] rfl (by (try simp only [List.map_toArray, List.map_cons, List.map_nil]); first | done | rfl | (simp only [List.length_drop, List.length_take]; rfl)) ?_; (with_reducible refine (fixed_size.calls a0 t181 _ A8.out).mono ?_); rintro e w' ⟨rfl, ⟨nd, rfl⟩⟩; refine ⟨_, rfl, ?_⟩) | ((with_reducible refine gate_callee (f := 110) rfl ?_); refine goesL_ (some 28) rfl rfl Try.func110 (by kernel_rfl) rfl #[.int .i64 a1] rfl (by (try simp only [List.map_toArray, List.map_cons, List.map_nil]); first | done | rfl | (simp only [List.length_drop, List.length_take]; rfl)) ?_; (with_reducible refine (fixed_size.calls a1 t182 _ A9.out).mono ?_); rintro e w' ⟨rfl, ⟨nd, rfl⟩⟩; refine ⟨_, rfl, ?_⟩) | ((with_reducible refine gate_callee (f := 142) rfl ?_); refine goesL_ (some 42) rfl rfl Try.func142 (by kernel_rfl) rfl #[.int .u64 (t181 / 4294967296), .int .u64 (IntKind.u64.wrap (t181 * 4294967296)), .int .u64 t182] rfl (by (try simp only [List.map_toArray, List.map_cons, List.map_nil]); first | done | rfl | (simp only [List.length_drop, List.length_take]; rfl)) ?_; (with_reducible refine (bits_Div64.calls k (t181 / 4294967296) (IntKind.u64.wrap (t181 * 4294967296)) t182 t184 t185 _ A12.out).mono ?_); rintro e w' ⟨rfl, ⟨nd, rfl⟩⟩; refine ⟨_, rfl, ?_⟩) | (go_at_call 124; refine calls_of_args (args' := #[.bool false]) (by first | rfl | rfl) ?_; (with_reducible refine (fixed_CeilDiv_1.calls false t189 _ A16.out).mono ?_); rintro e w' ⟨rfl, ⟨nd, rfl⟩⟩) | ((with_reducible refine gate_callee (f := 111) rfl ?_); refine goesL_ (some 54) rfl rfl Try.func111 (by kernel_rfl) rfl #[.int .u64 t184, .bool false, .bool t189] rfl (by (try simp only [List.map_toArray, List.map_cons, List.map_nil]); first | done | rfl | (simp only [List.length_drop, List.length_take]; rfl)) ?_; (with_reducible refine (fixed_rounded.calls t184 false t189 t190 t191 _ A17.out).mono ?_); rintro e w' ⟨rfl, ⟨nd, rfl⟩⟩; refine ⟨_, rfl, ?_⟩) | ((with_reducible refine gate_callee (f := 112) rfl ?_); refine goesL_ (some 60) rfl rfl Try.func112 (by kernel_rfl) rfl #[.int .u64 t190, .bool t191, .bool false] rfl (by (try simp only [List.map_toArray, List.map_cons, List.map_nil]); first | done | rfl | (simp only [List.length_drop, List.length_take]; rfl)) ?_; (with_reducible refine (fixed_signed.calls k t190 t191 false t192 _ A18.out).mono ?_); rintro e w' ⟨rfl, ⟨nd, rfl⟩⟩; refine ⟨_, rfl, ?_⟩))
            go_ret
            exact ⟨by first | rfl | (simp; done) | (simp [*]; done), by repeat (first | exact Drawn0.refl _ | apply Drawn0.step)⟩
      · rw [if_neg c7] at H
        have c7b0 : decide (a1 < 0) = false := decide_eq_false c7
        clear c7
        replace H := Option.bind_eq_some_iff.mp H
        obtain ⟨t193, A190, H⟩ := H
        replace H : ((fixed_size.f a1).bind fun t194 => (if (t193 / 4294967296) ≥ t194 then ((fixed_signed.f k 0 true true).bind fun t195 => (some t195)) else ((bits_Div64.f k (t193 / 4294967296) (IntKind.u64.wrap (t193 * 4294967296)) t194).bind fun bt196 => (if bt196.2 = 0 then ((fixed_rounded.f bt196.1 false false).bind fun bt198 => ((fixed_signed.f k bt198.1 bt198.2 true).bind fun t200 => (some t200))) else ((fixed_CeilDiv_1.f true).bind fun t201 => ((fixed_rounded.f bt196.1 false t201).bind fun bt202 => ((fixed_signed.f k bt202.1 bt202.2 true).bind fun t204 => (some t204)))))))) = some r := H
        have A19 := Aside0.mk A190
        clear A190
        replace H := Option.bind_eq_some_iff.mp H
        obtain ⟨t194, A200, H⟩ := H
        replace H : (if (t193 / 4294967296) ≥ t194 then ((fixed_signed.f k 0 true true).bind fun t195 => (some t195)) else ((bits_Div64.f k (t193 / 4294967296) (IntKind.u64.wrap (t193 * 4294967296)) t194).bind fun bt196 => (if bt196.2 = 0 then ((fixed_rounded.f bt196.1 false false).bind fun bt198 => ((fixed_signed.f k bt198.1 bt198.2 true).bind fun t200 => (some t200))) else ((fixed_CeilDiv_1.f true).bind fun t201 => ((fixed_rounded.f bt196.1 false t201).bind fun bt202 => ((fixed_signed.f k bt202.1 bt202.2 true).bind fun t204 => (some t204))))))) = some r := H
        have A20 := Aside0.mk A200
        clear A200
        by_cases c21 : (t193 / 4294967296) ≥ t194
        · rw [if_pos c21] at H
          have c21b0 : decide (t194 ≤ (t193 / 4294967296)) = true := decide_eq_true c21
          clear c21
          replace H := Option.bind_eq_some_iff.mp H
          obtain ⟨t195, A220, H⟩ := H
          replace H : (some t195) = some r := H
          have A22 := Aside0.mk A220
          clear A220
          obtain rfl := Option.some.inj H
          go_enter Try.func123, Try.ntmps123
          go_wp2_with (first | ((with_reducible refine gate_callee (f := 110) rfl ?_); refine goesL_ (some 26) rfl rfl Try.func110 (by kernel_rfl) rfl #[.int .i64 a0] rfl (by (try simp only [List.map_toArray, List.map_cons, List.map_nil]); first | done | rfl | (simp only [List.length_drop, List.length_take]; rfl)) ?_; (with_reducible refine (fixed_size.calls a0 t193 _ A19.out).mono ?_); rintro e w' ⟨rfl, ⟨nd, rfl⟩⟩; refine ⟨_, rfl, ?_⟩) | ((with_reducible refine gate_callee (f := 110) rfl ?_); refine goesL_ (some 28) rfl rfl Try.func110 (by kernel_rfl) rfl #[.int .i64 a1] rfl (by (try simp only [List.map_toArray, List.map_cons, List.map_nil]); first | done | rfl | (simp only [List.length_drop, List.length_take]; rfl)) ?_; (with_reducible refine (fixed_size.calls a1 t194 _ A20.out).mono ?_); rintro e w' ⟨rfl, ⟨nd, rfl⟩⟩; refine ⟨_, rfl, ?_⟩) | ((with_reducible refine gate_callee (f := 112) rfl ?_); refine goesL_ (some 37) rfl rfl Try.func112 (by kernel_rfl) rfl #[.int .u64 0, .bool true, .bool true] rfl (by (try simp only [List.map_toArray, List.map_cons, List.map_nil]); first | done | rfl | (simp only [List.length_drop, List.length_take]; rfl)) ?_; (with_reducible refine (fixed_signed.calls k 0 true true t195 _ A22.out).mono ?_); rintro e w' ⟨rfl, ⟨nd, rfl⟩⟩; refine ⟨_, rfl, ?_⟩))
          go_ret
          exact ⟨by first | rfl | (simp; done) | (simp [*]; done), by repeat (first | exact Drawn0.refl _ | apply Drawn0.step)⟩
        · rw [if_neg c21] at H
          have c21b0 : decide (t194 ≤ (t193 / 4294967296)) = false := decide_eq_false c21
          clear c21
          replace H := Option.bind_eq_some_iff.mp H
          obtain ⟨⟨t196, t197⟩, A230, H⟩ := H
          replace H : (if t197 = 0 then ((fixed_rounded.f t196 false false).bind fun bt198 => ((fixed_signed.f k bt198.1 bt198.2 true).bind fun t200 => (some t200))) else ((fixed_CeilDiv_1.f true).bind fun t201 => ((fixed_rounded.f t196 false t201).bind fun bt202 => ((fixed_signed.f k bt202.1 bt202.2 true).bind fun t204 => (some t204))))) = some r := H
          have A23 := Aside0.mk A230
          clear A230
          by_cases c24 : t197 = 0
          · rw [if_pos c24] at H
            have c24b0 : (t197 == 0) = true := beq_iff_eq.mpr c24
            have c24b1 : (t197 != 0) = false := bne_eq_false_iff_eq.mpr c24
            clear c24
            replace H := Option.bind_eq_some_iff.mp H
            obtain ⟨⟨t198, t199⟩, A250, H⟩ := H
            replace H : ((fixed_signed.f k t198 t199 true).bind fun t200 => (some t200)) = some r := H
            have A25 := Aside0.mk A250
            clear A250
            replace H := Option.bind_eq_some_iff.mp H
            obtain ⟨t200, A260, H⟩ := H
            replace H : (some t200) = some r := H
            have A26 := Aside0.mk A260
            clear A260
            obtain rfl := Option.some.inj H
            go_enter Try.func123, Try.ntmps123
            go_wp2_with (first | ((with_reducible refine gate_callee (f := 110) rfl ?_); refine goesL_ (some 26) rfl rfl Try.func110 (by kernel_rfl) rfl #[.int .i64 a0] rfl (by (try simp only [List.map_toArray, List.map_cons, List.map_nil]); first | done | rfl | (simp only [List.length_drop, List.length_take]; rfl)) ?_; (with_reducible refine (fixed_size.calls a0 t193 _ A19.out).mono ?_); rintro e w' ⟨rfl, ⟨nd, rfl⟩⟩; refine ⟨_, rfl, ?_⟩) | ((with_reducible refine gate_callee (f := 110) rfl ?_); refine goesL_ (some 28) rfl rfl Try.func110 (by kernel_rfl) rfl #[.int .i64 a1] rfl (by (try simp only [List.map_toArray, List.map_cons, List.map_nil]); first | done | rfl | (simp only [List.length_drop, List.length_take]; rfl)) ?_; (with_reducible refine (fixed_size.calls a1 t194 _ A20.out).mono ?_); rintro e w' ⟨rfl, ⟨nd, rfl⟩⟩; refine ⟨_, rfl, ?_⟩) | ((with_reducible refine gate_callee (f := 142) rfl ?_); refine goesL_ (some 42) rfl rfl Try.func142 (by kernel_rfl) rfl #[.int .u64 (t193 / 4294967296), .int .u64 (IntKind.u64.wrap (t193 * 4294967296)), .int .u64 t194] rfl (by (try simp only [List.map_toArray, List.map_cons, List.map_nil]); first | done | rfl | (simp only [List.length_drop, List.length_take]; rfl)) ?_; (with_reducible refine (bits_Div64.calls k (t193 / 4294967296) (IntKind.u64.wrap (t193 * 4294967296)) t194 t196 t197 _ A23.out).mono ?_); rintro e w' ⟨rfl, ⟨nd, rfl⟩⟩; refine ⟨_, rfl, ?_⟩) | ((with_reducible refine gate_callee (f := 111) rfl ?_); refine goesL_ (some 54) rfl rfl Try.func111 (by kernel_rfl) rfl #[.int .u64 t196, .bool false, .bool false] rfl (by (try simp only [List.map_toArray, List.map_cons, List.map_nil]); first | done | rfl | (simp only [List.length_drop, List.length_take]; rfl)) ?_; (with_reducible refine (fixed_rounded.calls t196 false false t198 t199 _ A25.out).mono ?_); rintro e w' ⟨rfl, ⟨nd, rfl⟩⟩; refine ⟨_, rfl, ?_⟩) | ((with_reducible refine gate_callee (f := 112) rfl ?_); refine goesL_ (some 60) rfl rfl Try.func112 (by kernel_rfl) rfl #[.int .u64 t198, .bool t199, .bool true] rfl (by (try simp only [List.map_toArray, List.map_cons, List.map_nil]); first | done | rfl | (simp only [List.length_drop, List.length_take]; rfl)) ?_; (with_reducible refine (fixed_signed.calls k t198 t199 true t200 _ A26.out).mono ?_); rintro e w' ⟨rfl, ⟨nd, rfl⟩⟩; refine ⟨_, rfl, ?_⟩))
            go_ret
            exact ⟨by first | rfl | (simp; done) | (simp [*]; done), by repeat (first | exact Drawn0.refl _ | apply Drawn0.step)⟩
          · rw [if_neg c24] at H
            have c24b0 : (t197 == 0) = false := beq_eq_false_iff_ne.mpr c24
            have c24b1 : (t197 != 0) = true := bne_iff_ne.mpr c24
            replace H := Option.bind_eq_some_iff.mp H
            obtain ⟨t201, A270, H⟩ := H
            replace H : ((fixed_rounded.f t196 false t201).bind fun bt202 => ((fixed_signed.f k bt202.1 bt202.2 true).bind fun t204 => (some t204))) = some r := H
            have A27 := Aside0.mk A270
            clear A270
            replace H := Option.bind_eq_some_iff.mp H
            obtain ⟨⟨t202, t203⟩, A280, H⟩ := H
            replace H : ((fixed_signed.f k t202 t203 true).bind fun t204 => (some t204)) = some r := H
            have A28 := Aside0.mk A280
            clear A280
            replace H := Option.bind_eq_some_iff.mp H
            obtain ⟨t204, A290, H⟩ := H
            replace H : (some t204) = some r := H
            have A29 := Aside0.mk A290
            clear A290
            obtain rfl := Option.some.inj H
            go_enter Try.func123, Try.ntmps123
            go_wp2_with (first | ((with_reducible refine gate_callee (f := 110) rfl ?_); refine goesL_ (some 26) rfl rfl Try.func110 (by kernel_rfl) rfl #[.int .i64 a0] rfl (by (try simp only [List.map_toArray, List.map_cons, List.map_nil]); first | done | rfl | (simp only [List.length_drop, List.length_take]; rfl)) ?_; (with_reducible refine (fixed_size.calls a0 t193 _ A19.out).mono ?_); rintro e w' ⟨rfl, ⟨nd, rfl⟩⟩; refine ⟨_, rfl, ?_⟩) | ((with_reducible refine gate_callee (f := 110) rfl ?_); refine goesL_ (some 28) rfl rfl Try.func110 (by kernel_rfl) rfl #[.int .i64 a1] rfl (by (try simp only [List.map_toArray, List.map_cons, List.map_nil]); first | done | rfl | (simp only [List.length_drop, List.length_take]; rfl)) ?_; (with_reducible refine (fixed_size.calls a1 t194 _ A20.out).mono ?_); rintro e w' ⟨rfl, ⟨nd, rfl⟩⟩; refine ⟨_, rfl, ?_⟩) | ((with_reducible refine gate_callee (f := 142) rfl ?_); refine goesL_ (some 42) rfl rfl Try.func142 (by kernel_rfl) rfl #[.int .u64 (t193 / 4294967296), .int .u64 (IntKind.u64.wrap (t193 * 4294967296)), .int .u64 t194] rfl (by (try simp only [List.map_toArray, List.map_cons, List.map_nil]); first | done | rfl | (simp only [List.length_drop, List.length_take]; rfl)) ?_; (with_reducible refine (bits_Div64.calls k (t193 / 4294967296) (IntKind.u64.wrap (t193 * 4294967296)) t194 t196 t197 _ A23.out).mono ?_); rintro e w' ⟨rfl, ⟨nd, rfl⟩⟩; refine ⟨_, rfl, ?_⟩) | (go_at_call 124; refine calls_of_args (args' := #[.bool true]) (by first | rfl | rfl) ?_; (with_reducible refine (fixed_CeilDiv_1.calls true t201 _ A27.out).mono ?_); rintro e w' ⟨rfl, ⟨nd, rfl⟩⟩) | ((with_reducible refine gate_callee (f := 111) rfl ?_); refine goesL_ (some 54) rfl rfl Try.func111 (by kernel_rfl) rfl #[.int .u64 t196, .bool false, .bool t201] rfl (by (try simp only [List.map_toArray, List.map_cons, List.map_nil]); first | done | rfl | (simp only [List.length_drop, List.length_take]; rfl)) ?_; (with_reducible refine (fixed_rounded.calls t196 false t201 t202 t203 _ A28.out).mono ?_); rintro e w' ⟨rfl, ⟨nd, rfl⟩⟩; refine ⟨_, rfl, ?_⟩) | ((with_reducible refine gate_callee (f := 112) rfl ?_); refine goesL_ (some 60) rfl rfl Try.func112 (by kernel_rfl) rfl #[.int .u64 t202, .bool t203, .bool true] rfl (by (try simp only [List.map_toArray, List.map_cons, List.map_nil]); first | done | rfl | (simp only [List.length_drop, List.length_take]; rfl)) ?_; (with_reducible refine (fixed_signed.calls k t202 t203 true t204 _ A29.out).mono ?_); rintro e w' ⟨rfl, ⟨nd, rfl⟩⟩; refine ⟨_, rfl, ?_⟩))
            go_ret
            exact ⟨by first | rfl | (simp; done) | (simp [*]; done), by repeat (first | exact Drawn0.refl _ | apply Drawn0.step)⟩
    · rw [if_neg c6] at H
      have c6b0 : decide (a0 < 0) = false := decide_eq_false c6
      clear c6
      by_cases c30 : a1 < 0
      · rw [if_pos c30] at H
        have c30b0 : decide (a1 < 0) = true := decide_eq_true c30
        clear c30
        replace H := Option.bind_eq_some_iff.mp H
        obtain ⟨t205, A310, H⟩ := H
        replace H : ((fixed_size.f a1).bind fun t206 => (if (t205 / 4294967296) ≥ t206 then ((fixed_signed.f k 0 true true).bind fun t207 => (some t207)) else ((bits_Div64.f k (t205 / 4294967296) (IntKind.u64.wrap (t205 * 4294967296)) t206).bind fun bt208 => (if bt208.2 = 0 then ((fixed_rounded.f bt208.1 false false).bind fun bt210 => ((fixed_signed.f k bt210.1 bt210.2 true).bind fun t212 => (some t212))) else ((fixed_CeilDiv_1.f true).bind fun t213 => ((fixed_rounded.f bt208.1 false t213).bind fun bt214 => ((fixed_signed.f k bt214.1 bt214.2 true).bind fun t216 => (some t216)))))))) = some r := H
        have A31 := Aside0.mk A310
        clear A310
        replace H := Option.bind_eq_some_iff.mp H
        obtain ⟨t206, A320, H⟩ := H
        replace H : (if (t205 / 4294967296) ≥ t206 then ((fixed_signed.f k 0 true true).bind fun t207 => (some t207)) else ((bits_Div64.f k (t205 / 4294967296) (IntKind.u64.wrap (t205 * 4294967296)) t206).bind fun bt208 => (if bt208.2 = 0 then ((fixed_rounded.f bt208.1 false false).bind fun bt210 => ((fixed_signed.f k bt210.1 bt210.2 true).bind fun t212 => (some t212))) else ((fixed_CeilDiv_1.f true).bind fun t213 => ((fixed_rounded.f bt208.1 false t213).bind fun bt214 => ((fixed_signed.f k bt214.1 bt214.2 true).bind fun t216 => (some t216))))))) = some r := H
        have A32 := Aside0.mk A320
        clear A320
        by_cases c33 : (t205 / 4294967296) ≥ t206
        · rw [if_pos c33] at H
          have c33b0 : decide (t206 ≤ (t205 / 4294967296)) = true := decide_eq_true c33
          clear c33
          replace H := Option.bind_eq_some_iff.mp H
          obtain ⟨t207, A340, H⟩ := H
          replace H : (some t207) = some r := H
          have A34 := Aside0.mk A340
          clear A340
          obtain rfl := Option.some.inj H
          go_enter Try.func123, Try.ntmps123
          go_wp2_with (first | ((with_reducible refine gate_callee (f := 110) rfl ?_); refine goesL_ (some 26) rfl rfl Try.func110 (by kernel_rfl) rfl #[.int .i64 a0] rfl (by (try simp only [List.map_toArray, List.map_cons, List.map_nil]); first | done | rfl | (simp only [List.length_drop, List.length_take]; rfl)) ?_; (with_reducible refine (fixed_size.calls a0 t205 _ A31.out).mono ?_); rintro e w' ⟨rfl, ⟨nd, rfl⟩⟩; refine ⟨_, rfl, ?_⟩) | ((with_reducible refine gate_callee (f := 110) rfl ?_); refine goesL_ (some 28) rfl rfl Try.func110 (by kernel_rfl) rfl #[.int .i64 a1] rfl (by (try simp only [List.map_toArray, List.map_cons, List.map_nil]); first | done | rfl | (simp only [List.length_drop, List.length_take]; rfl)) ?_; (with_reducible refine (fixed_size.calls a1 t206 _ A32.out).mono ?_); rintro e w' ⟨rfl, ⟨nd, rfl⟩⟩; refine ⟨_, rfl, ?_⟩) | ((with_reducible refine gate_callee (f := 112) rfl ?_); refine goesL_ (some 37) rfl rfl Try.func112 (by kernel_rfl) rfl #[.int .u64 0, .bool true, .bool true] rfl (by (try simp only [List.map_toArray, List.map_cons, List.map_nil]); first | done | rfl | (simp only [List.length_drop, List.length_take]; rfl)) ?_; (with_reducible refine (fixed_signed.calls k 0 true true t207 _ A34.out).mono ?_); rintro e w' ⟨rfl, ⟨nd, rfl⟩⟩; refine ⟨_, rfl, ?_⟩))
          go_ret
          exact ⟨by first | rfl | (simp; done) | (simp [*]; done), by repeat (first | exact Drawn0.refl _ | apply Drawn0.step)⟩
        · rw [if_neg c33] at H
          have c33b0 : decide (t206 ≤ (t205 / 4294967296)) = false := decide_eq_false c33
          clear c33
          replace H := Option.bind_eq_some_iff.mp H
          obtain ⟨⟨t208, t209⟩, A350, H⟩ := H
          replace H : (if t209 = 0 then ((fixed_rounded.f t208 false false).bind fun bt210 => ((fixed_signed.f k bt210.1 bt210.2 true).bind fun t212 => (some t212))) else ((fixed_CeilDiv_1.f true).bind fun t213 => ((fixed_rounded.f t208 false t213).bind fun bt214 => ((fixed_signed.f k bt214.1 bt214.2 true).bind fun t216 => (some t216))))) = some r := H
          have A35 := Aside0.mk A350
          clear A350
          by_cases c36 : t209 = 0
          · rw [if_pos c36] at H
            have c36b0 : (t209 == 0) = true := beq_iff_eq.mpr c36
            have c36b1 : (t209 != 0) = false := bne_eq_false_iff_eq.mpr c36
            clear c36
            replace H := Option.bind_eq_some_iff.mp H
            obtain ⟨⟨t210, t211⟩, A370, H⟩ := H
            replace H : ((fixed_signed.f k t210 t211 true).bind fun t212 => (some t212)) = some r := H
            have A37 := Aside0.mk A370
            clear A370
            replace H := Option.bind_eq_some_iff.mp H
            obtain ⟨t212, A380, H⟩ := H
            replace H : (some t212) = some r := H
            have A38 := Aside0.mk A380
            clear A380
            obtain rfl := Option.some.inj H
            go_enter Try.func123, Try.ntmps123
            go_wp2_with (first | ((with_reducible refine gate_callee (f := 110) rfl ?_); refine goesL_ (some 26) rfl rfl Try.func110 (by kernel_rfl) rfl #[.int .i64 a0] rfl (by (try simp only [List.map_toArray, List.map_cons, List.map_nil]); first | done | rfl | (simp only [List.length_drop, List.length_take]; rfl)) ?_; (with_reducible refine (fixed_size.calls a0 t205 _ A31.out).mono ?_); rintro e w' ⟨rfl, ⟨nd, rfl⟩⟩; refine ⟨_, rfl, ?_⟩) | ((with_reducible refine gate_callee (f := 110) rfl ?_); refine goesL_ (some 28) rfl rfl Try.func110 (by kernel_rfl) rfl #[.int .i64 a1] rfl (by (try simp only [List.map_toArray, List.map_cons, List.map_nil]); first | done | rfl | (simp only [List.length_drop, List.length_take]; rfl)) ?_; (with_reducible refine (fixed_size.calls a1 t206 _ A32.out).mono ?_); rintro e w' ⟨rfl, ⟨nd, rfl⟩⟩; refine ⟨_, rfl, ?_⟩) | ((with_reducible refine gate_callee (f := 142) rfl ?_); refine goesL_ (some 42) rfl rfl Try.func142 (by kernel_rfl) rfl #[.int .u64 (t205 / 4294967296), .int .u64 (IntKind.u64.wrap (t205 * 4294967296)), .int .u64 t206] rfl (by (try simp only [List.map_toArray, List.map_cons, List.map_nil]); first | done | rfl | (simp only [List.length_drop, List.length_take]; rfl)) ?_; (with_reducible refine (bits_Div64.calls k (t205 / 4294967296) (IntKind.u64.wrap (t205 * 4294967296)) t206 t208 t209 _ A35.out).mono ?_); rintro e w' ⟨rfl, ⟨nd, rfl⟩⟩; refine ⟨_, rfl, ?_⟩) | ((with_reducible refine gate_callee (f := 111) rfl ?_); refine goesL_ (some 54) rfl rfl Try.func111 (by kernel_rfl) rfl #[.int .u64 t208, .bool false, .bool false] rfl (by (try simp only [List.map_toArray, List.map_cons, List.map_nil]); first | done | rfl | (simp only [List.length_drop, List.length_take]; rfl)) ?_; (with_reducible refine (fixed_rounded.calls t208 false false t210 t211 _ A37.out).mono ?_); rintro e w' ⟨rfl, ⟨nd, rfl⟩⟩; refine ⟨_, rfl, ?_⟩) | ((with_reducible refine gate_callee (f := 112) rfl ?_); refine goesL_ (some 60) rfl rfl Try.func112 (by kernel_rfl) rfl #[.int .u64 t210, .bool t211, .bool true] rfl (by (try simp only [List.map_toArray, List.map_cons, List.map_nil]); first | done | rfl | (simp only [List.length_drop, List.length_take]; rfl)) ?_; (with_reducible refine (fixed_signed.calls k t210 t211 true t212 _ A38.out).mono ?_); rintro e w' ⟨rfl, ⟨nd, rfl⟩⟩; refine ⟨_, rfl, ?_⟩))
            go_ret
            exact ⟨by first | rfl | (simp; done) | (simp [*]; done), by repeat (first | exact Drawn0.refl _ | apply Drawn0.step)⟩
          · rw [if_neg c36] at H
            have c36b0 : (t209 == 0) = false := beq_eq_false_iff_ne.mpr c36
            have c36b1 : (t209 != 0) = true := bne_iff_ne.mpr c36
            replace H := Option.bind_eq_some_iff.mp H
            obtain ⟨t213, A390, H⟩ := H
            replace H : ((fixed_rounded.f t208 false t213).bind fun bt214 => ((fixed_signed.f k bt214.1 bt214.2 true).bind fun t216 => (some t216))) = some r := H
            have A39 := Aside0.mk A390
            clear A390
            replace H := Option.bind_eq_some_iff.mp H
            obtain ⟨⟨t214, t215⟩, A400, H⟩ := H
            replace H : ((fixed_signed.f k t214 t215 true).bind fun t216 => (some t216)) = some r := H
            have A40 := Aside0.mk A400
            clear A400
            replace H := Option.bind_eq_some_iff.mp H
            obtain ⟨t216, A410, H⟩ := H
            replace H : (some t216) = some r := H
            have A41 := Aside0.mk A410
            clear A410
            obtain rfl := Option.some.inj H
            go_enter Try.func123, Try.ntmps123
            go_wp2_with (first | ((with_reducible refine gate_callee (f := 110) rfl ?_); refine goesL_ (some 26) rfl rfl Try.func110 (by kernel_rfl) rfl #[.int .i64 a0] rfl (by (try simp only [List.map_toArray, List.map_cons, List.map_nil]); first | done | rfl | (simp only [List.length_drop, List.length_take]; rfl)) ?_; (with_reducible refine (fixed_size.calls a0 t205 _ A31.out).mono ?_); rintro e w' ⟨rfl, ⟨nd, rfl⟩⟩; refine ⟨_, rfl, ?_⟩) | ((with_reducible refine gate_callee (f := 110) rfl ?_); refine goesL_ (some 28) rfl rfl Try.func110 (by kernel_rfl) rfl #[.int .i64 a1] rfl (by (try simp only [List.map_toArray, List.map_cons, List.map_nil]); first | done | rfl | (simp only [List.length_drop, List.length_take]; rfl)) ?_; (with_reducible refine (fixed_size.calls a1 t206 _ A32.out).mono ?_); rintro e w' ⟨rfl, ⟨nd, rfl⟩⟩; refine ⟨_, rfl, ?_⟩) | ((with_reducible refine gate_callee (f := 142) rfl ?_); refine goesL_ (some 42) rfl rfl Try.func142 (by kernel_rfl) rfl #[.int .u64 (t205 / 4294967296), .int .u64 (IntKind.u64.wrap (t205 * 4294967296)), .int .u64 t206] rfl (by (try simp only [List.map_toArray, List.map_cons, List.map_nil]); first | done | rfl | (simp only [List.length_drop, List.length_take]; rfl)) ?_; (with_reducible refine (bits_Div64.calls k (t205 / 4294967296) (IntKind.u64.wrap (t205 * 4294967296)) t206 t208 t209 _ A35.out).mono ?_); rintro e w' ⟨rfl, ⟨nd, rfl⟩⟩; refine ⟨_, rfl, ?_⟩) | (go_at_call 124; refine calls_of_args (args' := #[.bool true]) (by first | rfl | rfl) ?_; (with_reducible refine (fixed_CeilDiv_1.calls true t213 _ A39.out).mono ?_); rintro e w' ⟨rfl, ⟨nd, rfl⟩⟩) | ((with_reducible refine gate_callee (f := 111) rfl ?_); refine goesL_ (some 54) rfl rfl Try.func111 (by kernel_rfl) rfl #[.int .u64 t208, .bool false, .bool t213] rfl (by (try simp only [List.map_toArray, List.map_cons, List.map_nil]); first | done | rfl | (simp only [List.length_drop, List.length_take]; rfl)) ?_; (with_reducible refine (fixed_rounded.calls t208 false t213 t214 t215 _ A40.out).mono ?_); rintro e w' ⟨rfl, ⟨nd, rfl⟩⟩; refine ⟨_, rfl, ?_⟩) | ((with_reducible refine gate_callee (f := 112) rfl ?_); refine goesL_ (some 60) rfl rfl Try.func112 (by kernel_rfl) rfl #[.int .u64 t214, .bool t215, .bool true] rfl (by (try simp only [List.map_toArray, List.map_cons, List.map_nil]); first | done | rfl | (simp only [List.length_drop, List.length_take]; rfl)) ?_; (with_reducible refine (fixed_signed.calls k t214 t215 true t216 _ A41.out).mono ?_); rintro e w' ⟨rfl, ⟨nd, rfl⟩⟩; refine ⟨_, rfl, ?_⟩))
            go_ret
            exact ⟨by first | rfl | (simp; done) | (simp [*]; done), by repeat (first | exact Drawn0.refl _ | apply Drawn0.step)⟩
      · rw [if_neg c30] at H
        have c30b0 : decide (a1 < 0) = false := decide_eq_false c30
        clear c30
        replace H := Option.bind_eq_some_iff.mp H
        obtain ⟨t217, A420, H⟩ := H
        replace H : ((fixed_size.f a1).bind fun t218 => (if (t217 / 4294967296) ≥ t218 then ((fixed_signed.f k 0 true false).bind fun t219 => (some t219)) else ((bits_Div64.f k (t217 / 4294967296) (IntKind.u64.wrap (t217 * 4294967296)) t218).bind fun bt220 => (if bt220.2 = 0 then ((fixed_rounded.f bt220.1 false false).bind fun bt222 => ((fixed_signed.f k bt222.1 bt222.2 false).bind fun t224 => (some t224))) else ((fixed_CeilDiv_1.f false).bind fun t225 => ((fixed_rounded.f bt220.1 false t225).bind fun bt226 => ((fixed_signed.f k bt226.1 bt226.2 false).bind fun t228 => (some t228)))))))) = some r := H
        have A42 := Aside0.mk A420
        clear A420
        replace H := Option.bind_eq_some_iff.mp H
        obtain ⟨t218, A430, H⟩ := H
        replace H : (if (t217 / 4294967296) ≥ t218 then ((fixed_signed.f k 0 true false).bind fun t219 => (some t219)) else ((bits_Div64.f k (t217 / 4294967296) (IntKind.u64.wrap (t217 * 4294967296)) t218).bind fun bt220 => (if bt220.2 = 0 then ((fixed_rounded.f bt220.1 false false).bind fun bt222 => ((fixed_signed.f k bt222.1 bt222.2 false).bind fun t224 => (some t224))) else ((fixed_CeilDiv_1.f false).bind fun t225 => ((fixed_rounded.f bt220.1 false t225).bind fun bt226 => ((fixed_signed.f k bt226.1 bt226.2 false).bind fun t228 => (some t228))))))) = some r := H
        have A43 := Aside0.mk A430
        clear A430
        by_cases c44 : (t217 / 4294967296) ≥ t218
        · rw [if_pos c44] at H
          have c44b0 : decide (t218 ≤ (t217 / 4294967296)) = true := decide_eq_true c44
          clear c44
          replace H := Option.bind_eq_some_iff.mp H
          obtain ⟨t219, A450, H⟩ := H
          replace H : (some t219) = some r := H
          have A45 := Aside0.mk A450
          clear A450
          obtain rfl := Option.some.inj H
          go_enter Try.func123, Try.ntmps123
          go_wp2_with (first | ((with_reducible refine gate_callee (f := 110) rfl ?_); refine goesL_ (some 26) rfl rfl Try.func110 (by kernel_rfl) rfl #[.int .i64 a0] rfl (by (try simp only [List.map_toArray, List.map_cons, List.map_nil]); first | done | rfl | (simp only [List.length_drop, List.length_take]; rfl)) ?_; (with_reducible refine (fixed_size.calls a0 t217 _ A42.out).mono ?_); rintro e w' ⟨rfl, ⟨nd, rfl⟩⟩; refine ⟨_, rfl, ?_⟩) | ((with_reducible refine gate_callee (f := 110) rfl ?_); refine goesL_ (some 28) rfl rfl Try.func110 (by kernel_rfl) rfl #[.int .i64 a1] rfl (by (try simp only [List.map_toArray, List.map_cons, List.map_nil]); first | done | rfl | (simp only [List.length_drop, List.length_take]; rfl)) ?_; (with_reducible refine (fixed_size.calls a1 t218 _ A43.out).mono ?_); rintro e w' ⟨rfl, ⟨nd, rfl⟩⟩; refine ⟨_, rfl, ?_⟩) | ((with_reducible refine gate_callee (f := 112) rfl ?_); refine goesL_ (some 37) rfl rfl Try.func112 (by kernel_rfl) rfl #[.int .u64 0, .bool true, .bool false] rfl (by (try simp only [List.map_toArray, List.map_cons, List.map_nil]); first | done | rfl | (simp only [List.length_drop, List.length_take]; rfl)) ?_; (with_reducible refine (fixed_signed.calls k 0 true false t219 _ A45.out).mono ?_); rintro e w' ⟨rfl, ⟨nd, rfl⟩⟩; refine ⟨_, rfl, ?_⟩))
          go_ret
          exact ⟨by first | rfl | (simp; done) | (simp [*]; done), by repeat (first | exact Drawn0.refl _ | apply Drawn0.step)⟩
        · rw [if_neg c44] at H
          have c44b0 : decide (t218 ≤ (t217 / 4294967296)) = false := decide_eq_false c44
          clear c44
          replace H := Option.bind_eq_some_iff.mp H
          obtain ⟨⟨t220, t221⟩, A460, H⟩ := H
          replace H : (if t221 = 0 then ((fixed_rounded.f t220 false false).bind fun bt222 => ((fixed_signed.f k bt222.1 bt222.2 false).bind fun t224 => (some t224))) else ((fixed_CeilDiv_1.f false).bind fun t225 => ((fixed_rounded.f t220 false t225).bind fun bt226 => ((fixed_signed.f k bt226.1 bt226.2 false).bind fun t228 => (some t228))))) = some r := H
          have A46 := Aside0.mk A460
          clear A460
          by_cases c47 : t221 = 0
          · rw [if_pos c47] at H
            have c47b0 : (t221 == 0) = true := beq_iff_eq.mpr c47
            have c47b1 : (t221 != 0) = false := bne_eq_false_iff_eq.mpr c47
            clear c47
            replace H := Option.bind_eq_some_iff.mp H
            obtain ⟨⟨t222, t223⟩, A480, H⟩ := H
            replace H : ((fixed_signed.f k t222 t223 false).bind fun t224 => (some t224)) = some r := H
            have A48 := Aside0.mk A480
            clear A480
            replace H := Option.bind_eq_some_iff.mp H
            obtain ⟨t224, A490, H⟩ := H
            replace H : (some t224) = some r := H
            have A49 := Aside0.mk A490
            clear A490
            obtain rfl := Option.some.inj H
            go_enter Try.func123, Try.ntmps123
            go_wp2_with (first | ((with_reducible refine gate_callee (f := 110) rfl ?_); refine goesL_ (some 26) rfl rfl Try.func110 (by kernel_rfl) rfl #[.int .i64 a0] rfl (by (try simp only [List.map_toArray, List.map_cons, List.map_nil]); first | done | rfl | (simp only [List.length_drop, List.length_take]; rfl)) ?_; (with_reducible refine (fixed_size.calls a0 t217 _ A42.out).mono ?_); rintro e w' ⟨rfl, ⟨nd, rfl⟩⟩; refine ⟨_, rfl, ?_⟩) | ((with_reducible refine gate_callee (f := 110) rfl ?_); refine goesL_ (some 28) rfl rfl Try.func110 (by kernel_rfl) rfl #[.int .i64 a1] rfl (by (try simp only [List.map_toArray, List.map_cons, List.map_nil]); first | done | rfl | (simp only [List.length_drop, List.length_take]; rfl)) ?_; (with_reducible refine (fixed_size.calls a1 t218 _ A43.out).mono ?_); rintro e w' ⟨rfl, ⟨nd, rfl⟩⟩; refine ⟨_, rfl, ?_⟩) | ((with_reducible refine gate_callee (f := 142) rfl ?_); refine goesL_ (some 42) rfl rfl Try.func142 (by kernel_rfl) rfl #[.int .u64 (t217 / 4294967296), .int .u64 (IntKind.u64.wrap (t217 * 4294967296)), .int .u64 t218] rfl (by (try simp only [List.map_toArray, List.map_cons, List.map_nil]); first | done | rfl | (simp only [List.length_drop, List.length_take]; rfl)) ?_; (with_reducible refine (bits_Div64.calls k (t217 / 4294967296) (IntKind.u64.wrap (t217 * 4294967296)) t218 t220 t221 _ A46.out).mono ?_); rintro e w' ⟨rfl, ⟨nd, rfl⟩⟩; refine ⟨_, rfl, ?_⟩) | ((with_reducible refine gate_callee (f := 111) rfl ?_); refine goesL_ (some 54) rfl rfl Try.func111 (by kernel_rfl) rfl #[.int .u64 t220, .bool false, .bool false] rfl (by (try simp only [List.map_toArray, List.map_cons, List.map_nil]); first | done | rfl | (simp only [List.length_drop, List.length_take]; rfl)) ?_; (with_reducible refine (fixed_rounded.calls t220 false false t222 t223 _ A48.out).mono ?_); rintro e w' ⟨rfl, ⟨nd, rfl⟩⟩; refine ⟨_, rfl, ?_⟩) | ((with_reducible refine gate_callee (f := 112) rfl ?_); refine goesL_ (some 60) rfl rfl Try.func112 (by kernel_rfl) rfl #[.int .u64 t222, .bool t223, .bool false] rfl (by (try simp only [List.map_toArray, List.map_cons, List.map_nil]); first | done | rfl | (simp only [List.length_drop, List.length_take]; rfl)) ?_; (with_reducible refine (fixed_signed.calls k t222 t223 false t224 _ A49.out).mono ?_); rintro e w' ⟨rfl, ⟨nd, rfl⟩⟩; refine ⟨_, rfl, ?_⟩))
            go_ret
            exact ⟨by first | rfl | (simp; done) | (simp [*]; done), by repeat (first | exact Drawn0.refl _ | apply Drawn0.step)⟩
          · rw [if_neg c47] at H
            have c47b0 : (t221 == 0) = false := beq_eq_false_iff_ne.mpr c47
            have c47b1 : (t221 != 0) = true := bne_iff_ne.mpr c47
            replace H := Option.bind_eq_some_iff.mp H
            obtain ⟨t225, A500, H⟩ := H
            replace H : ((fixed_rounded.f t220 false t225).bind fun bt226 => ((fixed_signed.f k bt226.1 bt226.2 false).bind fun t228 => (some t228))) = some r := H
            have A50 := Aside0.mk A500
            clear A500
            replace H := Option.bind_eq_some_iff.mp H
            obtain ⟨⟨t226, t227⟩, A510, H⟩ := H
            replace H : ((fixed_signed.f k t226 t227 false).bind fun t228 => (some t228)) = some r := H
            have A51 := Aside0.mk A510
            clear A510
            replace H := Option.bind_eq_some_iff.mp H
            obtain ⟨t228, A520, H⟩ := H
            replace H : (some t228) = some r := H
            have A52 := Aside0.mk A520
            clear A520
            obtain rfl := Option.some.inj H
            go_enter Try.func123, Try.ntmps123
            go_wp2_with (first | ((with_reducible refine gate_callee (f := 110) rfl ?_); refine goesL_ (some 26) rfl rfl Try.func110 (by kernel_rfl) rfl #[.int .i64 a0] rfl (by (try simp only [List.map_toArray, List.map_cons, List.map_nil]); first | done | rfl | (simp only [List.length_drop, List.length_take]; rfl)) ?_; (with_reducible refine (fixed_size.calls a0 t217 _ A42.out).mono ?_); rintro e w' ⟨rfl, ⟨nd, rfl⟩⟩; refine ⟨_, rfl, ?_⟩) | ((with_reducible refine gate_callee (f := 110) rfl ?_); refine goesL_ (some 28) rfl rfl Try.func110 (by kernel_rfl) rfl #[.int .i64 a1] rfl (by (try simp only [List.map_toArray, List.map_cons, List.map_nil]); first | done | rfl | (simp only [List.length_drop, List.length_take]; rfl)) ?_; (with_reducible refine (fixed_size.calls a1 t218 _ A43.out).mono ?_); rintro e w' ⟨rfl, ⟨nd, rfl⟩⟩; refine ⟨_, rfl, ?_⟩) | ((with_reducible refine gate_callee (f := 142) rfl ?_); refine goesL_ (some 42) rfl rfl Try.func142 (by kernel_rfl) rfl #[.int .u64 (t217 / 4294967296), .int .u64 (IntKind.u64.wrap (t217 * 4294967296)), .int .u64 t218] rfl (by (try simp only [List.map_toArray, List.map_cons, List.map_nil]); first | done | rfl | (simp only [List.length_drop, List.length_take]; rfl)) ?_; (with_reducible refine (bits_Div64.calls k (t217 / 4294967296) (IntKind.u64.wrap (t217 * 4294967296)) t218 t220 t221 _ A46.out).mono ?_); rintro e w' ⟨rfl, ⟨nd, rfl⟩⟩; refine ⟨_, rfl, ?_⟩) | (go_at_call 124; refine calls_of_args (args' := #[.bool false]) (by first | rfl | rfl) ?_; (with_reducible refine (fixed_CeilDiv_1.calls false t225 _ A50.out).mono ?_); rintro e w' ⟨rfl, ⟨nd, rfl⟩⟩) | ((with_reducible refine gate_callee (f := 111) rfl ?_); refine goesL_ (some 54) rfl rfl Try.func111 (by kernel_rfl) rfl #[.int .u64 t220, .bool false, .bool t225] rfl (by (try simp only [List.map_toArray, List.map_cons, List.map_nil]); first | done | rfl | (simp only [List.length_drop, List.length_take]; rfl)) ?_; (with_reducible refine (fixed_rounded.calls t220 false t225 t226 t227 _ A51.out).mono ?_); rintro e w' ⟨rfl, ⟨nd, rfl⟩⟩; refine ⟨_, rfl, ?_⟩) | ((with_reducible refine gate_callee (f := 112) rfl ?_); refine goesL_ (some 60) rfl rfl Try.func112 (by kernel_rfl) rfl #[.int .u64 t226, .bool t227, .bool false] rfl (by (try simp only [List.map_toArray, List.map_cons, List.map_nil]); first | done | rfl | (simp only [List.length_drop, List.length_take]; rfl)) ?_; (with_reducible refine (fixed_signed.calls k t226 t227 false t228 _ A52.out).mono ?_); rintro e w' ⟨rfl, ⟨nd, rfl⟩⟩; refine ⟨_, rfl, ?_⟩))
            go_ret
            exact ⟨by first | rfl | (simp; done) | (simp [*]; done), by repeat (first | exact Drawn0.refl _ | apply Drawn0.step)⟩
def fixed_CeilDiv.f (k : Nat) (a0 : Int) (a1 : Int) : Option (Int) := (fixed_quotient_124.f k a0 a1).bind fun t229 => (some t229)
set_option maxHeartbeats 8000000 in
set_option maxRecDepth 100000 in
theorem fixed_CeilDiv.calls (k : Nat) (a0 : Int) (a1 : Int) (r : Int) (w : World) (h : fixed_CeilDiv.f k a0 a1 = some r) :
    Calls Try.prog 91 #[.int .i64 a0, .int .i64 a1] w fun e w' => e = .returned (.int .i64 r) ∧ Drawn0 w w' := by
  have H : ((fixed_quotient_124.f k a0 a1).bind fun t229 => (some t229)) = some r := h
  clear h
  replace H := Option.bind_eq_some_iff.mp H
  obtain ⟨t229, A30, H⟩ := H
  replace H : (some t229) = some r := H
  have A3 := Aside0.mk A30
  clear A30
  obtain rfl := Option.some.inj H
  go_enter Try.func91, Try.ntmps91
  go_wp2_with (first | ((with_reducible refine gate_callee (f := 123) rfl ?_); refine goesL_ (some 7) rfl rfl Try.func123 (by kernel_rfl) rfl #[.int .i64 a0, .int .i64 a1, .func (.func 124) #[] #[]] rfl (by (try simp only [List.map_toArray, List.map_cons, List.map_nil]); first | done | rfl | (simp only [List.length_drop, List.length_take]; rfl)) ?_; (with_reducible refine (fixed_quotient_124.calls k a0 a1  t229 _ A3.out).mono ?_); rintro e w' ⟨rfl, ⟨nd, rfl⟩⟩; refine ⟨_, rfl, ?_⟩))
  go_ret
  exact ⟨by first | rfl | (simp; done) | (simp [*]; done), by repeat (first | exact Drawn0.refl _ | apply Drawn0.step)⟩
def fixed_Of.f (a0 : Int) : Option (Int) := if a0 ≥ 2147483648 then (some 9223372036854775807) else (if a0 < (-2147483648) then (some (-9223372036854775808)) else (some (wrap64 (a0 * 4294967296))))
set_option maxHeartbeats 8000000 in
set_option maxRecDepth 100000 in
theorem fixed_Of.calls (a0 : Int) (r : Int) (w : World) (h : fixed_Of.f a0 = some r) :
    Calls Try.prog 69 #[.int .i64 a0] w fun e w' => e = .returned (.int .i64 r) ∧ Drawn0 w w' := by
  have H : (if a0 ≥ 2147483648 then (some 9223372036854775807) else (if a0 < (-2147483648) then (some (-9223372036854775808)) else (some (wrap64 (a0 * 4294967296))))) = some r := h
  clear h
  by_cases c2 : a0 ≥ 2147483648
  · rw [if_pos c2] at H
    have c2b0 : decide (2147483648 ≤ a0) = true := decide_eq_true c2
    clear c2
    obtain rfl := Option.some.inj H
    go_enter Try.func69, Try.ntmps69
    go_wp2
    go_ret
    exact ⟨by first | rfl | (simp; done) | (simp [*]; done), by repeat (first | exact Drawn0.refl _ | apply Drawn0.step)⟩
  · rw [if_neg c2] at H
    have c2b0 : decide (2147483648 ≤ a0) = false := decide_eq_false c2
    clear c2
    by_cases c3 : a0 < (-2147483648)
    · rw [if_pos c3] at H
      have c3b0 : decide (a0 < (-2147483648)) = true := decide_eq_true c3
      clear c3
      obtain rfl := Option.some.inj H
      go_enter Try.func69, Try.ntmps69
      go_wp2
      go_ret
      exact ⟨by first | rfl | (simp; done) | (simp [*]; done), by repeat (first | exact Drawn0.refl _ | apply Drawn0.step)⟩
    · rw [if_neg c3] at H
      have c3b0 : decide (a0 < (-2147483648)) = false := decide_eq_false c3
      clear c3
      obtain rfl := Option.some.inj H
      go_enter Try.func69, Try.ntmps69
      go_wp2
      go_ret
      exact ⟨by first | rfl | (simp; done) | (simp [*]; done), by repeat (first | exact Drawn0.refl _ | apply Drawn0.step)⟩
def fixed_Ceil.f (a0 : Int) : Option (Int) := if ((a0) % 4294967296) = 0 then (some (a0 / 4294967296)) else (some (wrap64 ((a0 / 4294967296) + 1)))
set_option maxHeartbeats 8000000 in
set_option maxRecDepth 100000 in
theorem fixed_Ceil.calls (a0 : Int) (r : Int) (w : World) (h : fixed_Ceil.f a0 = some r) :
    Calls Try.prog 90 #[.int .i64 a0] w fun e w' => e = .returned (.int .i64 r) ∧ Drawn0 w w' := by
  have H : (if ((a0) % 4294967296) = 0 then (some (a0 / 4294967296)) else (some (wrap64 ((a0 / 4294967296) + 1)))) = some r := h
  clear h
  by_cases c2 : ((a0) % 4294967296) = 0
  · rw [if_pos c2] at H
    have c2b0 : (((a0) % 4294967296) == 0) = true := beq_iff_eq.mpr c2
    have c2b1 : (((a0) % 4294967296) != 0) = false := bne_eq_false_iff_eq.mpr c2
    clear c2
    obtain rfl := Option.some.inj H
    go_enter Try.func90, Try.ntmps90
    go_wp2
    go_ret
    exact ⟨by first | rfl | (simp; done) | (simp [*]; done), by repeat (first | exact Drawn0.refl _ | apply Drawn0.step)⟩
  · rw [if_neg c2] at H
    have c2b0 : (((a0) % 4294967296) == 0) = false := beq_eq_false_iff_ne.mpr c2
    have c2b1 : (((a0) % 4294967296) != 0) = true := bne_iff_ne.mpr c2
    obtain rfl := Option.some.inj H
    go_enter Try.func90, Try.ntmps90
    go_wp2
    go_ret
    exact ⟨by first | rfl | (simp; done) | (simp [*]; done), by repeat (first | exact Drawn0.refl _ | apply Drawn0.step)⟩
def fixed_Clamp.f (a0 : Int) (a1 : Int) (a2 : Int) : Option (Int) := if a0 < a1 then (some a1) else (if a0 > a2 then (some a2) else (some a0))
set_option maxHeartbeats 8000000 in
set_option maxRecDepth 100000 in
theorem fixed_Clamp.calls (a0 : Int) (a1 : Int) (a2 : Int) (r : Int) (w : World) (h : fixed_Clamp.f a0 a1 a2 = some r) :
    Calls Try.prog 89 #[.int .i64 a0, .int .i64 a1, .int .i64 a2] w fun e w' => e = .returned (.int .i64 r) ∧ Drawn0 w w' := by
  have H : (if a0 < a1 then (some a1) else (if a0 > a2 then (some a2) else (some a0))) = some r := h
  clear h
  by_cases c4 : a0 < a1
  · rw [if_pos c4] at H
    have c4b0 : decide (a0 < a1) = true := decide_eq_true c4
    clear c4
    obtain rfl := Option.some.inj H
    go_enter Try.func89, Try.ntmps89
    go_wp2
    go_ret
    exact ⟨by first | rfl | (simp; done) | (simp [*]; done), by repeat (first | exact Drawn0.refl _ | apply Drawn0.step)⟩
  · rw [if_neg c4] at H
    have c4b0 : decide (a0 < a1) = false := decide_eq_false c4
    clear c4
    by_cases c5 : a0 > a2
    · rw [if_pos c5] at H
      have c5b0 : decide (a2 < a0) = true := decide_eq_true c5
      clear c5
      obtain rfl := Option.some.inj H
      go_enter Try.func89, Try.ntmps89
      go_wp2
      go_ret
      exact ⟨by first | rfl | (simp; done) | (simp [*]; done), by repeat (first | exact Drawn0.refl _ | apply Drawn0.step)⟩
    · rw [if_neg c5] at H
      have c5b0 : decide (a2 < a0) = false := decide_eq_false c5
      clear c5
      obtain rfl := Option.some.inj H
      go_enter Try.func89, Try.ntmps89
      go_wp2
      go_ret
      exact ⟨by first | rfl | (simp; done) | (simp [*]; done), by repeat (first | exact Drawn0.refl _ | apply Drawn0.step)⟩
end Go.Proofs.Ytemnfnbjapobcaa.Fix
end
section
namespace Go.Proofs.Ytemnfnbjapobcaa.Fix
open Go.RowKit Go.Proofs.YtemnfnbjapobcaaW.PrintWords Go.Proofs.YtemnfnbjapobcaaW.PrintLast Go.Proofs.YtemnfnbjapobcaaW.PrintMore
attribute [local go_sem] max2_int min2_int max_two min_two max_three min_three max_four min_four   -- for this text's walks alone
set_option linter.unusedVariables false
set_option linter.unusedSimpArgs false
def lysimeterref1_size.f (a0 : Int) : Option (Int) := if a0 < 0 then (some (IntKind.u64.wrap ((IntKind.u64.wrap (wrap64 (-(wrap64 (a0 + 1))))) + 1))) else (some (IntKind.u64.wrap (a0)))
set_option maxHeartbeats 8000000 in
set_option maxRecDepth 100000 in
theorem lysimeterref1_size.calls (a0 : Int) (r : Int) (w : World) (h : lysimeterref1_size.f a0 = some r) :
    Calls Try.prog 106 #[.int .i64 a0] w fun e w' => e = .returned (.int .u64 r) ∧ Drawn0 w w' := by
  have H : (if a0 < 0 then (some (IntKind.u64.wrap ((IntKind.u64.wrap (wrap64 (-(wrap64 (a0 + 1))))) + 1))) else (some (IntKind.u64.wrap (a0)))) = some r := h
  clear h
  by_cases c2 : a0 < 0
  · rw [if_pos c2] at H
    have c2b0 : decide (a0 < 0) = true := decide_eq_true c2
    clear c2
    obtain rfl := Option.some.inj H
    go_enter Try.func106, Try.ntmps106
    go_wp2
    go_ret
    exact ⟨by first | rfl | (simp; done) | (simp [*]; done), by repeat (first | exact Drawn0.refl _ | apply Drawn0.step)⟩
  · rw [if_neg c2] at H
    have c2b0 : decide (a0 < 0) = false := decide_eq_false c2
    clear c2
    obtain rfl := Option.some.inj H
    go_enter Try.func106, Try.ntmps106
    go_wp2
    go_ret
    exact ⟨by first | rfl | (simp; done) | (simp [*]; done), by repeat (first | exact Drawn0.refl _ | apply Drawn0.step)⟩
def lysimeterref1_more.f (a0_0 : Int) (a0_1 : Int) : Option (Int × Int) := if (IntKind.u64.wrap (a0_1 + 1)) = 0 then (some (IntKind.u64.wrap (a0_0 + 1), IntKind.u64.wrap (a0_1 + 1))) else (some (a0_0, IntKind.u64.wrap (a0_1 + 1)))
set_option maxHeartbeats 8000000 in
set_option maxRecDepth 100000 in
theorem lysimeterref1_more.calls (a0_0 : Int) (a0_1 : Int) (r1 : Int) (r2 : Int) (w : World) (h : lysimeterref1_more.f a0_0 a0_1 = some (r1, r2)) :
    Calls Try.prog 107 #[.agg #[.int .u64 a0_0, .int .u64 a0_1]] w fun e w' => e = .returned (.agg #[.int .u64 r1, .int .u64 r2]) ∧ Below w.heap.size w w' := by
  have hu136 := Try.underlying136
  have HB := Aside0.mk (Below.refl w.heap.size w)
  have H : (if (IntKind.u64.wrap (a0_1 + 1)) = 0 then (some (IntKind.u64.wrap (a0_0 + 1), IntKind.u64.wrap (a0_1 + 1))) else (some (a0_0, IntKind.u64.wrap (a0_1 + 1)))) = some (r1, r2) := h
  clear h
  by_cases c2 : (IntKind.u64.wrap (a0_1 + 1)) = 0
  · rw [if_pos c2] at H
    have c2b0 : ((IntKind.u64.wrap (a0_1 + 1)) == 0) = true := beq_iff_eq.mpr c2
    have c2b1 : ((IntKind.u64.wrap (a0_1 + 1)) != 0) = false := bne_eq_false_iff_eq.mpr c2
    clear c2
    simp only [Option.some.injEq, Prod.mk.injEq] at H
    obtain ⟨rfl, rfl⟩ := H
    go_enter Try.func107, Try.ntmps107
    go_wp2_with (first | ((with_reducible refine gate_dst (N := 1) rfl ?_); refine box_event ?hg (N := 1) ?hd (cs := #[.int .u64 a0_0, .int .u64 a0_1]) (t := 136) ?hr ?_; (case hd => rfl); (case hg => rfl); (case hr => first | (go_simp; done) | (go_simp; rfl)); intro gb231 hg w3 hbox hb; have n0_ := Aside0.mk (below_step (by repeat (first | (with_reducible first | exact HB.out | apply below_alloc | apply pw_below_drewN | apply below_drew1) | exact HB.out)) hb); have n1_ := Aside0.mk (hbox); have n2_ := Aside0.mk ((by rw [hg]; exact (below_size (by repeat (first | (with_reducible first | exact HB.out | apply below_alloc | apply pw_below_drewN | apply below_drew1) | exact HB.out))) : w.heap.size ≤ gb231)); have n3_ := Aside0.mk ((by rw [hg]; exact (below_size (by repeat (first | (with_reducible first | exact HB.out | apply below_alloc | apply pw_below_drewN | apply below_drew1) | exact HB.out))) : w.heap.size ≤ gb231)); clear HB; have HB := n0_; have BK231 := n1_; have GW231 := n2_; have GE231 := n3_; clear n0_ n1_ n2_ n3_; clear hb hbox hg) | ((with_reducible refine gate_dst (N := 2) rfl ?_); refine box_event ?hg (N := 2) ?hd (cs := #[.int .u64 0, .int .u64 0]) (t := 136) ?hr ?_; (case hd => rfl); (case hg => rfl); (case hr => first | (go_simp; done) | (go_simp; rfl)); intro gb232 hg w4 hbox hb; have n0_ := Aside0.mk (blk_below (g := gb231) (o := .cells #[.int .u64 a0_0, .int .u64 a0_1] 136 (0, 0)) (by (with_reducible repeat (first | refine blk_drewN ?_ _ | refine blk_drew ?_ | refine blk_alloc ?_ _)); exact BK231.out) hb); have n1_ := Aside0.mk (below_step (by repeat (first | (with_reducible first | exact HB.out | apply below_alloc | apply pw_below_drewN | apply below_drew1 | refine below_set ?_ GE231.out) | exact HB.out)) hb); have n2_ := Aside0.mk (hbox); have n3_ := Aside0.mk ((by rw [hg]; exact (below_size (by repeat (first | (with_reducible first | exact HB.out | apply below_alloc | apply pw_below_drewN | apply below_drew1 | refine below_set ?_ GE231.out) | exact HB.out))) : w.heap.size ≤ gb232)); have n4_ := Aside0.mk ((by rw [hg]; exact (below_size (by repeat (first | (with_reducible first | exact HB.out | apply below_alloc | apply pw_below_drewN | apply below_drew1 | refine below_set ?_ GE231.out) | exact HB.out))) : w.heap.size ≤ gb232)); have n5_ := Aside0.mk ((by rw [hg]; exact Nat.ne_of_lt (blk_lt (g := gb231) (o := .cells #[.int .u64 a0_0, .int .u64 a0_1] 136 (0, 0)) (by (with_reducible repeat (first | refine blk_drewN ?_ _ | refine blk_drew ?_ | refine blk_alloc ?_ _)); exact BK231.out)) : gb231 ≠ gb232)); have n6_ := Aside0.mk ((by rw [hg]; exact Nat.ne_of_gt (blk_lt (g := gb231) (o := .cells #[.int .u64 a0_0, .int .u64 a0_1] 136 (0, 0)) (by (with_reducible repeat (first | refine blk_drewN ?_ _ | refine blk_drew ?_ | refine blk_alloc ?_ _)); exact BK231.out)) : gb232 ≠ gb231)); clear BK231; clear HB; have BK231 := n0_; have HB := n1_; have BK232 := n2_; have GW232 := n3_; have GE232 := n4_; have NB231_232 := n5_; have NB232_231 := n6_; clear n0_ n1_ n2_ n3_ n4_ n5_ n6_; clear hb hbox hg; have hnb5 := NB231_232.out; have hnc5 := NB232_231.out; have hcz6_0 : w4.cell? ⟨gb231, 0, none⟩ = some (.int .u64 a0_0) := (blk_cell BK231.out 0).trans rfl; have hcz6_1 : w4.cell? ⟨gb231, 1, none⟩ = some (.int .u64 a0_1) := (blk_cell BK231.out 1).trans rfl; have hfz6_0 := blk_frozen BK231.out 0; have hfz6_1 := blk_frozen BK231.out 1; have hcz7_0 : w4.cell? ⟨gb232, 0, none⟩ = some (.int .u64 0) := (blk_cell BK232.out 0).trans rfl; have hcz7_1 : w4.cell? ⟨gb232, 1, none⟩ = some (.int .u64 0) := (blk_cell BK232.out 1).trans rfl; have hfz7_0 := blk_frozen BK232.out 0; have hfz7_1 := blk_frozen BK232.out 1))
    refine bodyPost_ret (results_cell_row rfl _ _ gb232 136 #[.int .u64 (IntKind.u64.wrap (a0_0 + 1)), .int .u64 (IntKind.u64.wrap (a0_1 + 1))] (0, 0) _ rfl (by (with_reducible repeat (first | refine blk_drewN ?_ _ | refine blk_drew ?_ | refine blk_alloc ?_ _)); refine blk_put (cs := #[.int .u64 (IntKind.u64.wrap (a0_0 + 1)), .int .u64 0]) ?_ 1 _ rfl; (with_reducible repeat (first | refine blk_drewN ?_ _ | refine blk_drew ?_ | refine blk_alloc ?_ _)); refine blk_put (cs := #[.int .u64 0, .int .u64 0]) ?_ 0 _ rfl; (with_reducible repeat (first | refine blk_drewN ?_ _ | refine blk_drew ?_ | refine blk_alloc ?_ _)); refine blk_far ?_ NB232_231.out _; (with_reducible repeat (first | refine blk_drewN ?_ _ | refine blk_drew ?_ | refine blk_alloc ?_ _)); refine blk_far ?_ NB232_231.out _; (with_reducible repeat (first | refine blk_drewN ?_ _ | refine blk_drew ?_ | refine blk_alloc ?_ _)); exact BK232.out) Try.underlying136 rfl (by kernel_rfl)) rfl ?_
    exact ⟨by first | rfl | (simp [errW_none, errW_some] <;> rfl) | (simp [*, errW_none, errW_some] <;> rfl), by repeat (first | (with_reducible first | exact HB.out | apply below_alloc | apply pw_below_drewN | apply below_drew1 | refine below_set ?_ GE231.out | refine below_set ?_ GE232.out) | exact HB.out)⟩
  · rw [if_neg c2] at H
    have c2b0 : ((IntKind.u64.wrap (a0_1 + 1)) == 0) = false := beq_eq_false_iff_ne.mpr c2
    have c2b1 : ((IntKind.u64.wrap (a0_1 + 1)) != 0) = true := bne_iff_ne.mpr c2
    simp only [Option.some.injEq, Prod.mk.injEq] at H
    obtain ⟨rfl, rfl⟩ := H
    go_enter Try.func107, Try.ntmps107
    go_wp2_with (first | ((with_reducible refine gate_dst (N := 1) rfl ?_); refine box_event ?hg (N := 1) ?hd (cs := #[.int .u64 a0_0, .int .u64 a0_1]) (t := 136) ?hr ?_; (case hd => rfl); (case hg => rfl); (case hr => first | (go_simp; done) | (go_simp; rfl)); intro gb231 hg w8 hbox hb; have n0_ := Aside0.mk (below_step (by repeat (first | (with_reducible first | exact HB.out | apply below_alloc | apply pw_below_drewN | apply below_drew1) | exact HB.out)) hb); have n1_ := Aside0.mk (hbox); have n2_ := Aside0.mk ((by rw [hg]; exact (below_size (by repeat (first | (with_reducible first | exact HB.out | apply below_alloc | apply pw_below_drewN | apply below_drew1) | exact HB.out))) : w.heap.size ≤ gb231)); have n3_ := Aside0.mk ((by rw [hg]; exact (below_size (by repeat (first | (with_reducible first | exact HB.out | apply below_alloc | apply pw_below_drewN | apply below_drew1) | exact HB.out))) : w.heap.size ≤ gb231)); clear HB; have HB := n0_; have BK231 := n1_; have GW231 := n2_; have GE231 := n3_; clear n0_ n1_ n2_ n3_; clear hb hbox hg) | ((with_reducible refine gate_dst (N := 2) rfl ?_); refine box_event ?hg (N := 2) ?hd (cs := #[.int .u64 0, .int .u64 0]) (t := 136) ?hr ?_; (case hd => rfl); (case hg => rfl); (case hr => first | (go_simp; done) | (go_simp; rfl)); intro gb232 hg w9 hbox hb; have n0_ := Aside0.mk (blk_below (g := gb231) (o := .cells #[.int .u64 a0_0, .int .u64 a0_1] 136 (0, 0)) (by (with_reducible repeat (first | refine blk_drewN ?_ _ | refine blk_drew ?_ | refine blk_alloc ?_ _)); exact BK231.out) hb); have n1_ := Aside0.mk (below_step (by repeat (first | (with_reducible first | exact HB.out | apply below_alloc | apply pw_below_drewN | apply below_drew1 | refine below_set ?_ GE231.out) | exact HB.out)) hb); have n2_ := Aside0.mk (hbox); have n3_ := Aside0.mk ((by rw [hg]; exact (below_size (by repeat (first | (with_reducible first | exact HB.out | apply below_alloc | apply pw_below_drewN | apply below_drew1 | refine below_set ?_ GE231.out) | exact HB.out))) : w.heap.size ≤ gb232)); have n4_ := Aside0.mk ((by rw [hg]; exact (below_size (by repeat (first | (with_reducible first | exact HB.out | apply below_alloc | apply pw_below_drewN | apply below_drew1 | refine below_set ?_ GE231.out) | exact HB.out))) : w.heap.size ≤ gb232)); have n5_ := Aside0.mk ((by rw [hg]; exact Nat.ne_of_lt (blk_lt (g := gb231) (o := .cells #[.int .u64 a0_0, .int .u64 a0_1] 136 (0, 0)) (by (with_reducible repeat (first | refine blk_drewN ?_ _ | refine blk_drew ?_ | refine blk_alloc ?_ _)); exact BK231.out)) : gb231 ≠ gb232)); have n6_ := Aside0.mk ((by rw [hg]; exact Nat.ne_of_gt (blk_lt (g := gb231) (o := .cells #[.int .u64 a0_0, .int .u64 a0_1] 136 (0, 0)) (by (with_reducible repeat (first | refine blk_drewN ?_ _ | refine blk_drew ?_ | refine blk_alloc ?_ _)); exact BK231.out)) : gb232 ≠ gb231)); clear BK231; clear HB; have BK231 := n0_; have HB := n1_; have BK232 := n2_; have GW232 := n3_; have GE232 := n4_; have NB231_232 := n5_; have NB232_231 := n6_; clear n0_ n1_ n2_ n3_ n4_ n5_ n6_; clear hb hbox hg; have hnb10 := NB231_232.out; have hnc10 := NB232_231.out; have hcz11_0 : w9.cell? ⟨gb231, 0, none⟩ = some (.int .u64 a0_0) := (blk_cell BK231.out 0).trans rfl; have hcz11_1 : w9.cell? ⟨gb231, 1, none⟩ = some (.int .u64 a0_1) := (blk_cell BK231.out 1).trans rfl; have hfz11_0 := blk_frozen BK231.out 0; have hfz11_1 := blk_frozen BK231.out 1; have hcz12_0 : w9.cell? ⟨gb232, 0, none⟩ = some (.int .u64 0) := (blk_cell BK232.out 0).trans rfl; have hcz12_1 : w9.cell? ⟨gb232, 1, none⟩ = some (.int .u64 0) := (blk_cell BK232.out 1).trans rfl; have hfz12_0 := blk_frozen BK232.out 0; have hfz12_1 := blk_frozen BK232.out 1))
    refine bodyPost_ret (results_cell_row rfl _ _ gb232 136 #[.int .u64 a0_0, .int .u64 (IntKind.u64.wrap (a0_1 + 1))] (0, 0) _ rfl (by (with_reducible repeat (first | refine blk_drewN ?_ _ | refine blk_drew ?_ | refine blk_alloc ?_ _)); refine blk_put (cs := #[.int .u64 a0_0, .int .u64 0]) ?_ 1 _ rfl; (with_reducible repeat (first | refine blk_drewN ?_ _ | refine blk_drew ?_ | refine blk_alloc ?_ _)); refine blk_put (cs := #[.int .u64 0, .int .u64 0]) ?_ 0 _ rfl; (with_reducible repeat (first | refine blk_drewN ?_ _ | refine blk_drew ?_ | refine blk_alloc ?_ _)); refine blk_far ?_ NB232_231.out _; (with_reducible repeat (first | refine blk_drewN ?_ _ | refine blk_drew ?_ | refine blk_alloc ?_ _)); exact BK232.out) Try.underlying136 rfl (by kernel_rfl)) rfl ?_
    exact ⟨by first | rfl | (simp [errW_none, errW_some] <;> rfl) | (simp [*, errW_none, errW_some] <;> rfl), by repeat (first | (with_reducible first | exact HB.out | apply below_alloc | apply pw_below_drewN | apply below_drew1 | refine below_set ?_ GE231.out | refine below_set ?_ GE232.out) | exact HB.out)⟩
def lysimeterref1_back.j0 : Nat → Bool → Int → Int → Option (Int)
  | 0, _, _, _ => none
  | k + 1, x13, x234000, x234001 => if x13 = true then (some (-9223372036854775808)) else (if x234001 = 9223372036854775808 then (some (-9223372036854775808)) else (some (wrap64 (-(wrap64 (x234001))))))
def lysimeterref1_back.f (k : Nat) (a0 : Bool) (a1_0 : Int) (a1_1 : Int) : Option (Int) := if a0 = true then (if a1_0 > 0 then (lysimeterref1_back.j0 k true a1_0 a1_1) else (lysimeterref1_back.j0 k (decide (a1_1 > 9223372036854775808)) a1_0 a1_1)) else (if a1_0 > 0 then (some 9223372036854775807) else (if a1_1 > 9223372036854775807 then (some 9223372036854775807) else (some (wrap64 (a1_1)))))
set_option maxHeartbeats 8000000 in
set_option maxRecDepth 100000 in
theorem lysimeterref1_back.calls (k : Nat) (a0 : Bool) (a1_0 : Int) (a1_1 : Int) (r : Int) (w : World) (h : lysimeterref1_back.f k a0 a1_0 a1_1 = some r) :
    Calls Try.prog 108 #[.bool a0, .agg #[.int .u64 a1_0, .int .u64 a1_1]] w fun e w' => e = .returned (.int .i64 r) ∧ Below w.heap.size w w' := by
  have hu136 := Try.underlying136
  have HB := Aside0.mk (Below.refl w.heap.size w)
  have H : (if a0 = true then (if a1_0 > 0 then (lysimeterref1_back.j0 k true a1_0 a1_1) else (lysimeterref1_back.j0 k (decide (a1_1 > 9223372036854775808)) a1_0 a1_1)) else (if a1_0 > 0 then (some 9223372036854775807) else (if a1_1 > 9223372036854775807 then (some 9223372036854775807) else (some (wrap64 (a1_1)))))) = some r := h
  clear h
  by_cases c3 : a0 = true
  · subst c3
    have H1 : (if a1_0 > 0 then (lysimeterref1_back.j0 k true a1_0 a1_1) else (lysimeterref1_back.j0 k (decide (a1_1 > 9223372036854775808)) a1_0 a1_1)) = some r := by rw [if_pos rfl] at H; exact H
    clear H
    have H := H1
    clear H1
    have HC4 := Aside0.mk H
    clear H
    go_enter Try.func108, Try.ntmps108
    go_upto_region 2 with (first | ((with_reducible refine gate_dst (N := 3) rfl ?_); refine box_event ?hg (N := 3) ?hd (cs := #[.int .u64 a1_0, .int .u64 a1_1]) (t := 136) ?hr ?_; (case hd => rfl); (case hg => rfl); (case hr => first | (go_simp; done) | (go_simp; rfl)); intro gb233 hg w5 hbox hb; have n0_ := Aside0.mk (below_step (by repeat (first | (with_reducible first | exact HB.out | apply below_alloc | apply pw_below_drewN | apply below_drew1) | exact HB.out)) hb); have n1_ := Aside0.mk (hbox); have n2_ := Aside0.mk ((by rw [hg]; exact (below_size (by repeat (first | (with_reducible first | exact HB.out | apply below_alloc | apply pw_below_drewN | apply below_drew1) | exact HB.out))) : w.heap.size ≤ gb233)); have n3_ := Aside0.mk ((by rw [hg]; exact (below_size (by repeat (first | (with_reducible first | exact HB.out | apply below_alloc | apply pw_below_drewN | apply below_drew1) | exact HB.out))) : w.heap.size ≤ gb233)); clear HB; have HB := n0_; have BK233 := n1_; have GW233 := n2_; have GE233 := n3_; clear n0_ n1_ n2_ n3_; clear hb hbox hg))
    (try simp only [Act.put, List.setIfInBounds_toArray, List.set_cons_zero, List.set_cons_succ])
    go_cut [13] (fun v13 wc => ∃ (kq : Nat) (x13_3 : Bool), v13 = .bool x13_3 ∧ Aside0 (lysimeterref1_back.j0 kq x13_3 a1_0 a1_1 = some r) ∧ Aside0 (kq ≤ k) ∧ Aside0 (wc.heap[gb233]? = some (.cells #[.int .u64 a1_0, .int .u64 a1_1] 136 (0, 0))) ∧ Aside0 (Below w.heap.size w wc))
    case first =>
      have H := HC4.out
      clear HC4
      by_cases c6 : a1_0 > 0
      · rw [if_pos c6] at H
        have c6b0 : decide (0 < a1_0) = true := decide_eq_true c6
        clear c6
        (first | rw [c6b0] | (simp only [i64_w, i32_w]; rw [c6b0]) | skip)
        have H' := Aside0.mk H
        clear H
        have hcz7_0 : w5.cell? ⟨gb233, 0, none⟩ = some (.int .u64 a1_0) := (blk_cell BK233.out 0).trans rfl
        have hcz7_1 : w5.cell? ⟨gb233, 1, none⟩ = some (.int .u64 a1_1) := (blk_cell BK233.out 1).trans rfl
        have hfz7_0 := blk_frozen BK233.out 0
        have hfz7_1 := blk_frozen BK233.out 1
        go_wp2
        go_meet
        case rel => exact ⟨_, (true), (by first | rfl | (simp; done) | (simp [*]; done)), H', ⟨by first | omega | exact Nat.le_refl _⟩, ⟨by (with_reducible repeat (first | refine blk_drewN ?_ _ | refine blk_drew ?_ | refine blk_alloc ?_ _)); exact BK233.out⟩, ⟨by repeat (first | (with_reducible first | exact HB.out | apply below_alloc | apply pw_below_drewN | apply below_drew1 | refine below_set ?_ GE233.out) | exact HB.out)⟩⟩
      · rw [if_neg c6] at H
        have c6b0 : decide (0 < a1_0) = false := decide_eq_false c6
        clear c6
        (first | rw [c6b0] | (simp only [i64_w, i32_w]; rw [c6b0]) | skip)
        have H' := Aside0.mk H
        clear H
        have hcz8_0 : w5.cell? ⟨gb233, 0, none⟩ = some (.int .u64 a1_0) := (blk_cell BK233.out 0).trans rfl
        have hcz8_1 : w5.cell? ⟨gb233, 1, none⟩ = some (.int .u64 a1_1) := (blk_cell BK233.out 1).trans rfl
        have hfz8_0 := blk_frozen BK233.out 0
        have hfz8_1 := blk_frozen BK233.out 1
        go_wp2
        go_meet
        case rel => exact ⟨_, (decide (a1_1 > 9223372036854775808)), (by first | rfl | (simp; done) | (simp [*]; done)), H', ⟨by first | omega | exact Nat.le_refl _⟩, ⟨by (with_reducible repeat (first | refine blk_drewN ?_ _ | refine blk_drew ?_ | refine blk_alloc ?_ _)); exact BK233.out⟩, ⟨by repeat (first | (with_reducible first | exact HB.out | apply below_alloc | apply pw_below_drewN | apply below_drew1 | refine below_set ?_ GE233.out) | exact HB.out)⟩⟩
    case rest =>
      clear HC4
      try clear c1
      try clear p2
      try clear c3
      try clear c6
      try clear c6b0
      try clear p6
      try clear hcz7_0
      try clear hcz7_1
      try clear hcz8_0
      try clear hcz8_1
      try clear hfz7_0
      try clear hfz7_1
      try clear hfz8_0
      try clear hfz8_1
      obtain ⟨kq, x13_3, rfl, HA, HJ3, BK233, HB⟩ := hcut
      cases kq with
      | zero => exact absurd HA.out (by simp [lysimeterref1_back.j0])
      | succ kj3 =>
        have H := HA.out
        clear HA
        simp only [lysimeterref1_back.j0] at H
        by_cases c9 : x13_3 = true
        · subst c9
          have H1 : (some (-9223372036854775808)) = some r := by rw [if_pos rfl] at H; exact H
          clear H
          have H := H1
          clear H1
          obtain rfl := Option.some.inj H
          go_wp2
          go_ret
          exact ⟨by first | rfl | (simp [errW_none, errW_some] <;> rfl) | (simp [*, errW_none, errW_some] <;> rfl), by repeat (first | (with_reducible first | exact HB.out | apply below_alloc | apply pw_below_drewN | apply below_drew1 | refine below_set ?_ GE233.out) | exact HB.out)⟩
        · replace c9 := Bool.eq_false_iff.mpr c9
          subst c9
          have H1 : (if a1_1 = 9223372036854775808 then (some (-9223372036854775808)) else (some (wrap64 (-(wrap64 (a1_1)))))) = some r := by rw [if_neg (show ¬ (false = true) by decide)] at H; exact H
          clear H
          have H := H1
          clear H1
          by_cases c10 : a1_1 = 9223372036854775808
          · rw [if_pos c10] at H
            have c10b0 : (a1_1 == 9223372036854775808) = true := beq_iff_eq.mpr c10
            have c10b1 : (a1_1 != 9223372036854775808) = false := bne_eq_false_iff_eq.mpr c10
            clear c10
            obtain rfl := Option.some.inj H
            have hcz11_0 : wc.cell? ⟨gb233, 0, none⟩ = some (.int .u64 a1_0) := (blk_cell BK233.out 0).trans rfl
            have hcz11_1 : wc.cell? ⟨gb233, 1, none⟩ = some (.int .u64 a1_1) := (blk_cell BK233.out 1).trans rfl
            have hfz11_0 := blk_frozen BK233.out 0
            have hfz11_1 := blk_frozen BK233.out 1
            go_wp2
            go_ret
            exact ⟨by first | rfl | (simp [errW_none, errW_some] <;> rfl) | (simp [*, errW_none, errW_some] <;> rfl), by repeat (first | (with_reducible first | exact HB.out | apply below_alloc | apply pw_below_drewN | apply below_drew1 | refine below_set ?_ GE233.out) | exact HB.out)⟩
          · rw [if_neg c10] at H
            have c10b0 : (a1_1 == 9223372036854775808) = false := beq_eq_false_iff_ne.mpr c10
            have c10b1 : (a1_1 != 9223372036854775808) = true := bne_iff_ne.mpr c10
            obtain rfl := Option.some.inj H
            have hcz12_0 : wc.cell? ⟨gb233, 0, none⟩ = some (.int .u64 a1_0) := (blk_cell BK233.out 0).trans rfl
            have hcz12_1 : wc.cell? ⟨gb233, 1, none⟩ = some (.int .u64 a1_1) := (blk_cell BK233.out 1).trans rfl
            have hfz12_0 := blk_frozen BK233.out 0
            have hfz12_1 := blk_frozen BK233.out 1
            go_wp2
            go_ret
            exact ⟨by first | rfl | (simp [errW_none, errW_some] <;> rfl) | (simp [*, errW_none, errW_some] <;> rfl), by repeat (first | (with_reducible first | exact HB.out | apply below_alloc | apply pw_below_drewN | apply below_drew1 | refine below_set ?_ GE233.out) | exact HB.out)⟩
  · replace c3 := Bool.eq_false_iff.mpr c3
    subst c3
    have H1 : (if a1_0 > 0 then (some 9223372036854775807) else (if a1_1 > 9223372036854775807 then (some 9223372036854775807) else (some (wrap64 (a1_1))))) = some r := by rw [if_neg (show ¬ (false = true) by decide)] at H; exact H
    clear H
    have H := H1
    clear H1
    by_cases c13 : a1_0 > 0
    · rw [if_pos c13] at H
      have c13b0 : decide (0 < a1_0) = true := decide_eq_true c13
      clear c13
      obtain rfl := Option.some.inj H
      go_enter Try.func108, Try.ntmps108
      go_wp2_with (first | ((with_reducible refine gate_dst (N := 3) rfl ?_); refine box_event ?hg (N := 3) ?hd (cs := #[.int .u64 a1_0, .int .u64 a1_1]) (t := 136) ?hr ?_; (case hd => rfl); (case hg => rfl); (case hr => first | (go_simp; done) | (go_simp; rfl)); intro gb233 hg w14 hbox hb; have n0_ := Aside0.mk (below_step (by repeat (first | (with_reducible first | exact HB.out | apply below_alloc | apply pw_below_drewN | apply below_drew1) | exact HB.out)) hb); have n1_ := Aside0.mk (hbox); have n2_ := Aside0.mk ((by rw [hg]; exact (below_size (by repeat (first | (with_reducible first | exact HB.out | apply below_alloc | apply pw_below_drewN | apply below_drew1) | exact HB.out))) : w.heap.size ≤ gb233)); have n3_ := Aside0.mk ((by rw [hg]; exact (below_size (by repeat (first | (with_reducible first | exact HB.out | apply below_alloc | apply pw_below_drewN | apply below_drew1) | exact HB.out))) : w.heap.size ≤ gb233)); clear HB; have HB := n0_; have BK233 := n1_; have GW233 := n2_; have GE233 := n3_; clear n0_ n1_ n2_ n3_; clear hb hbox hg; have hcz15_0 : w14.cell? ⟨gb233, 0, none⟩ = some (.int .u64 a1_0) := (blk_cell BK233.out 0).trans rfl; have hcz15_1 : w14.cell? ⟨gb233, 1, none⟩ = some (.int .u64 a1_1) := (blk_cell BK233.out 1).trans rfl; have hfz15_0 := blk_frozen BK233.out 0; have hfz15_1 := blk_frozen BK233.out 1))
      go_ret
      exact ⟨by first | rfl | (simp [errW_none, errW_some] <;> rfl) | (simp [*, errW_none, errW_some] <;> rfl), by repeat (first | (with_reducible first | exact HB.out | apply below_alloc | apply pw_below_drewN | apply below_drew1 | refine below_set ?_ GE233.out) | exact HB.out)⟩
    · rw [if_neg c13] at H
      have c13b0 : decide (0 < a1_0) = false := decide_eq_false c13
      clear c13
      by_cases c16 : a1_1 > 9223372036854775807
      · rw [if_pos c16] at H
        have c16b0 : decide (9223372036854775807 < a1_1) = true := decide_eq_true c16
        clear c16
        obtain rfl := Option.some.inj H
        go_enter Try.func108, Try.ntmps108
        go_wp2_with (first | ((with_reducible refine gate_dst (N := 3) rfl ?_); refine box_event ?hg (N := 3) ?hd (cs := #[.int .u64 a1_0, .int .u64 a1_1]) (t := 136) ?hr ?_; (case hd => rfl); (case hg => rfl); (case hr => first | (go_simp; done) | (go_simp; rfl)); intro gb233 hg w17 hbox hb; have n0_ := Aside0.mk (below_step (by repeat (first | (with_reducible first | exact HB.out | apply below_alloc | apply pw_below_drewN | apply below_drew1) | exact HB.out)) hb); have n1_ := Aside0.mk (hbox); have n2_ := Aside0.mk ((by rw [hg]; exact (below_size (by repeat (first | (with_reducible first | exact HB.out | apply below_alloc | apply pw_below_drewN | apply below_drew1) | exact HB.out))) : w.heap.size ≤ gb233)); have n3_ := Aside0.mk ((by rw [hg]; exact (below_size (by repeat (first | (with_reducible first | exact HB.out | apply below_alloc | apply pw_below_drewN | apply below_drew1) | exact HB.out))) : w.heap.size ≤ gb233)); clear HB; have HB := n0_; have BK233 := n1_; have GW233 := n2_; have GE233 := n3_; clear n0_ n1_ n2_ n3_; clear hb hbox hg; have hcz18_0 : w17.cell? ⟨gb233, 0, none⟩ = some (.int .u64 a1_0) := (blk_cell BK233.out 0).trans rfl; have hcz18_1 : w17.cell? ⟨gb233, 1, none⟩ = some (.int .u64 a1_1) := (blk_cell BK233.out 1).trans rfl; have hfz18_0 := blk_frozen BK233.out 0; have hfz18_1 := blk_frozen BK233.out 1))
        go_ret
        exact ⟨by first | rfl | (simp [errW_none, errW_some] <;> rfl) | (simp [*, errW_none, errW_some] <;> rfl), by repeat (first | (with_reducible first | exact HB.out | apply below_alloc | apply pw_below_drewN | apply below_drew1 | refine below_set ?_ GE233.out) | exact HB.out)⟩
      · rw [if_neg c16] at H
        have c16b0 : decide (9223372036854775807 < a1_1) = false := decide_eq_false c16
        clear c16
        obtain rfl := Option.some.inj H
        go_enter Try.func108, Try.ntmps108
        go_wp2_with (first | ((with_reducible refine gate_dst (N := 3) rfl ?_); refine box_event ?hg (N := 3) ?hd (cs := #[.int .u64 a1_0, .int .u64 a1_1]) (t := 136) ?hr ?_; (case hd => rfl); (case hg => rfl); (case hr => first | (go_simp; done) | (go_simp; rfl)); intro gb233 hg w19 hbox hb; have n0_ := Aside0.mk (below_step (by repeat (first | (with_reducible first | exact HB.out | apply below_alloc | apply pw_below_drewN | apply below_drew1) | exact HB.out)) hb); have n1_ := Aside0.mk (hbox); have n2_ := Aside0.mk ((by rw [hg]; exact (below_size (by repeat (first | (with_reducible first | exact HB.out | apply below_alloc | apply pw_below_drewN | apply below_drew1) | exact HB.out))) : w.heap.size ≤ gb233)); have n3_ := Aside0.mk ((by rw [hg]; exact (below_size (by repeat (first | (with_reducible first | exact HB.out | apply below_alloc | apply pw_below_drewN | apply below_drew1) | exact HB.out))) : w.heap.size ≤ gb233)); clear HB; have HB := n0_; have BK233 := n1_; have GW233 := n2_; have GE233 := n3_; clear n0_ n1_ n2_ n3_; clear hb hbox hg; have hcz20_0 : w19.cell? ⟨gb233, 0, none⟩ = some (.int .u64 a1_0) := (blk_cell BK233.out 0).trans rfl; have hcz20_1 : w19.cell? ⟨gb233, 1, none⟩ = some (.int .u64 a1_1) := (blk_cell BK233.out 1).trans rfl; have hfz20_0 := blk_frozen BK233.out 0; have hfz20_1 := blk_frozen BK233.out 1))
        go_ret
        exact ⟨by first | rfl | (simp [errW_none, errW_some] <;> rfl) | (simp [*, errW_none, errW_some] <;> rfl), by repeat (first | (with_reducible first | exact HB.out | apply below_alloc | apply pw_below_drewN | apply below_drew1 | refine below_set ?_ GE233.out) | exact HB.out)⟩
end Go.Proofs.Ytemnfnbjapobcaa.Fix
end
section
namespace Go.Proofs.Ytemnfnbjapobcaa.Fix
open Go.RowKit Go.Proofs.YtemnfnbjapobcaaW.PrintWords Go.Proofs.YtemnfnbjapobcaaW.PrintLast Go.Proofs.YtemnfnbjapobcaaW.PrintMore
attribute [local go_sem] max2_int min2_int max_two min_two max_three min_three max_four min_four   -- for this text's walks alone
set_option linter.unusedVariables false
set_option linter.unusedSimpArgs false
def lysimeterref1_none.f (a0 : Int) : Option (Int) := if a0 > 0 then (some 9223372036854775807) else (if a0 < 0 then (some (-9223372036854775808)) else (some 0))
set_option maxHeartbeats 8000000 in
set_option maxRecDepth 100000 in
theorem lysimeterref1_none.calls (a0 : Int) (r : Int) (w : World) (h : lysimeterref1_none.f a0 = some r) :
    Calls Try.prog 104 #[.int .i64 a0] w fun e w' => e = .returned (.int .i64 r) ∧ Drawn0 w w' := by
  have H : (if a0 > 0 then (some 9223372036854775807) else (if a0 < 0 then (some (-9223372036854775808)) else (some 0))) = some r := h
  clear h
  by_cases c2 : a0 > 0
  · rw [if_pos c2] at H
    have c2b0 : decide (0 < a0) = true := decide_eq_true c2
    clear c2
    obtain rfl := Option.some.inj H
    go_enter Try.func104, Try.ntmps104
    go_wp2
    go_ret
    exact ⟨by first | rfl | (simp; done) | (simp [*]; done), by repeat (first | exact Drawn0.refl _ | apply Drawn0.step)⟩
  · rw [if_neg c2] at H
    have c2b0 : decide (0 < a0) = false := decide_eq_false c2
    clear c2
    by_cases c3 : a0 < 0
    · rw [if_pos c3] at H
      have c3b0 : decide (a0 < 0) = true := decide_eq_true c3
      clear c3
      obtain rfl := Option.some.inj H
      go_enter Try.func104, Try.ntmps104
      go_wp2
      go_ret
      exact ⟨by first | rfl | (simp; done) | (simp [*]; done), by repeat (first | exact Drawn0.refl _ | apply Drawn0.step)⟩
    · rw [if_neg c3] at H
      have c3b0 : decide (a0 < 0) = false := decide_eq_false c3
      clear c3
      obtain rfl := Option.some.inj H
      go_enter Try.func104, Try.ntmps104
      go_wp2
      go_ret
      exact ⟨by first | rfl | (simp; done) | (simp [*]; done), by repeat (first | exact Drawn0.refl _ | apply Drawn0.step)⟩
end Go.Proofs.Ytemnfnbjapobcaa.Fix
end
