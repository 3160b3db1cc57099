-- Laid together by wip/shake.py out of: Fixx4 Fixx5 FixSpec FixDiv FixOver
import Derived.Test.YtemnfnbjapobcaaPolicyPacksm3
section
namespace Go.Proofs.Ytemnfnbjapobcaa.Fix
open Go.RowKit Go.Proofs.YtemnfnbjapobcaaW.PrintWords Go.Proofs.YtemnfnbjapobcaaW.PrintLast Go.Proofs.YtemnfnbjapobcaaW.PrintMore
attribute [local go_sem] max2_int min2_int max_two min_two max_three min_three max_four min_four   -- for this text's walks alone
set_option linter.unusedVariables false
set_option linter.unusedSimpArgs false
def fixed_Div_1.f (a0 : Bool) : Option (Bool) := some a0
set_option maxHeartbeats 8000000 in
set_option maxRecDepth 100000 in
theorem fixed_Div_1.calls (a0 : Bool) (r : Bool) (w : World) (h : fixed_Div_1.f a0 = some r) :
    Calls Try.prog 134 #[.bool a0] w fun e w' => e = .returned (.bool r) ∧ Drawn0 w w' := by
  have H : (some a0) = some r := h
  clear h
  obtain rfl := Option.some.inj H
  go_enter Try.func134, Try.ntmps134
  go_wp2
  go_ret
  exact ⟨by first | rfl | (simp; done) | (simp [*]; done), by repeat (first | exact Drawn0.refl _ | apply Drawn0.step)⟩
def fixed_quotient_134.f (k : Nat) (a0 : Int) (a1 : Int)  : Option (Int) := if a1 = 0 then ((fixed_edge.f a0).bind fun t130 => (some t130)) else (if a0 < 0 then (if a1 < 0 then ((fixed_size.f a0).bind fun t131 => ((fixed_size.f a1).bind fun t132 => (if (t131 / 4294967296) ≥ t132 then ((fixed_signed.f k 0 true false).bind fun t133 => (some t133)) else ((bits_Div64.f k (t131 / 4294967296) (IntKind.u64.wrap (t131 * 4294967296)) t132).bind fun bt134 => (if bt134.2 = 0 then ((fixed_rounded.f bt134.1 false false).bind fun bt136 => ((fixed_signed.f k bt136.1 bt136.2 false).bind fun t138 => (some t138))) else ((fixed_Div_1.f false).bind fun t139 => ((fixed_rounded.f bt134.1 false t139).bind fun bt140 => ((fixed_signed.f k bt140.1 bt140.2 false).bind fun t142 => (some t142))))))))) else ((fixed_size.f a0).bind fun t143 => ((fixed_size.f a1).bind fun t144 => (if (t143 / 4294967296) ≥ t144 then ((fixed_signed.f k 0 true true).bind fun t145 => (some t145)) else ((bits_Div64.f k (t143 / 4294967296) (IntKind.u64.wrap (t143 * 4294967296)) t144).bind fun bt146 => (if bt146.2 = 0 then ((fixed_rounded.f bt146.1 false false).bind fun bt148 => ((fixed_signed.f k bt148.1 bt148.2 true).bind fun t150 => (some t150))) else ((fixed_Div_1.f true).bind fun t151 => ((fixed_rounded.f bt146.1 false t151).bind fun bt152 => ((fixed_signed.f k bt152.1 bt152.2 true).bind fun t154 => (some t154)))))))))) else (if a1 < 0 then ((fixed_size.f a0).bind fun t155 => ((fixed_size.f a1).bind fun t156 => (if (t155 / 4294967296) ≥ t156 then ((fixed_signed.f k 0 true true).bind fun t157 => (some t157)) else ((bits_Div64.f k (t155 / 4294967296) (IntKind.u64.wrap (t155 * 4294967296)) t156).bind fun bt158 => (if bt158.2 = 0 then ((fixed_rounded.f bt158.1 false false).bind fun bt160 => ((fixed_signed.f k bt160.1 bt160.2 true).bind fun t162 => (some t162))) else ((fixed_Div_1.f true).bind fun t163 => ((fixed_rounded.f bt158.1 false t163).bind fun bt164 => ((fixed_signed.f k bt164.1 bt164.2 true).bind fun t166 => (some t166))))))))) else ((fixed_size.f a0).bind fun t167 => ((fixed_size.f a1).bind fun t168 => (if (t167 / 4294967296) ≥ t168 then ((fixed_signed.f k 0 true false).bind fun t169 => (some t169)) else ((bits_Div64.f k (t167 / 4294967296) (IntKind.u64.wrap (t167 * 4294967296)) t168).bind fun bt170 => (if bt170.2 = 0 then ((fixed_rounded.f bt170.1 false false).bind fun bt172 => ((fixed_signed.f k bt172.1 bt172.2 false).bind fun t174 => (some t174))) else ((fixed_Div_1.f false).bind fun t175 => ((fixed_rounded.f bt170.1 false t175).bind fun bt176 => ((fixed_signed.f k bt176.1 bt176.2 false).bind fun t178 => (some t178)))))))))))
set_option maxHeartbeats 8000000 in
set_option maxRecDepth 100000 in
theorem fixed_quotient_134.calls (k : Nat) (a0 : Int) (a1 : Int)  (r : Int) (w : World) (h : fixed_quotient_134.f k a0 a1 = some r) :
    Calls Try.prog 123 #[.int .i64 a0, .int .i64 a1, .func (.func 134) #[] #[]] w fun e w' => e = .returned (.int .i64 r) ∧ Drawn0 w w' := by
  have H : (if a1 = 0 then ((fixed_edge.f a0).bind fun t130 => (some t130)) else (if a0 < 0 then (if a1 < 0 then ((fixed_size.f a0).bind fun t131 => ((fixed_size.f a1).bind fun t132 => (if (t131 / 4294967296) ≥ t132 then ((fixed_signed.f k 0 true false).bind fun t133 => (some t133)) else ((bits_Div64.f k (t131 / 4294967296) (IntKind.u64.wrap (t131 * 4294967296)) t132).bind fun bt134 => (if bt134.2 = 0 then ((fixed_rounded.f bt134.1 false false).bind fun bt136 => ((fixed_signed.f k bt136.1 bt136.2 false).bind fun t138 => (some t138))) else ((fixed_Div_1.f false).bind fun t139 => ((fixed_rounded.f bt134.1 false t139).bind fun bt140 => ((fixed_signed.f k bt140.1 bt140.2 false).bind fun t142 => (some t142))))))))) else ((fixed_size.f a0).bind fun t143 => ((fixed_size.f a1).bind fun t144 => (if (t143 / 4294967296) ≥ t144 then ((fixed_signed.f k 0 true true).bind fun t145 => (some t145)) else ((bits_Div64.f k (t143 / 4294967296) (IntKind.u64.wrap (t143 * 4294967296)) t144).bind fun bt146 => (if bt146.2 = 0 then ((fixed_rounded.f bt146.1 false false).bind fun bt148 => ((fixed_signed.f k bt148.1 bt148.2 true).bind fun t150 => (some t150))) else ((fixed_Div_1.f true).bind fun t151 => ((fixed_rounded.f bt146.1 false t151).bind fun bt152 => ((fixed_signed.f k bt152.1 bt152.2 true).bind fun t154 => (some t154)))))))))) else (if a1 < 0 then ((fixed_size.f a0).bind fun t155 => ((fixed_size.f a1).bind fun t156 => (if (t155 / 4294967296) ≥ t156 then ((fixed_signed.f k 0 true true).bind fun t157 => (some t157)) else ((bits_Div64.f k (t155 / 4294967296) (IntKind.u64.wrap (t155 * 4294967296)) t156).bind fun bt158 => (if bt158.2 = 0 then ((fixed_rounded.f bt158.1 false false).bind fun bt160 => ((fixed_signed.f k bt160.1 bt160.2 true).bind fun t162 => (some t162))) else ((fixed_Div_1.f true).bind fun t163 => ((fixed_rounded.f bt158.1 false t163).bind fun bt164 => ((fixed_signed.f k bt164.1 bt164.2 true).bind fun t166 => (some t166))))))))) else ((fixed_size.f a0).bind fun t167 => ((fixed_size.f a1).bind fun t168 => (if (t167 / 4294967296) ≥ t168 then ((fixed_signed.f k 0 true false).bind fun t169 => (some t169)) else ((bits_Div64.f k (t167 / 4294967296) (IntKind.u64.wrap (t167 * 4294967296)) t168).bind fun bt170 => (if bt170.2 = 0 then ((fixed_rounded.f bt170.1 false false).bind fun bt172 => ((fixed_signed.f k bt172.1 bt172.2 false).bind fun t174 => (some t174))) else ((fixed_Div_1.f false).bind fun t175 => ((fixed_rounded.f bt170.1 false t175).bind fun bt176 => ((fixed_signed.f k bt176.1 bt176.2 false).bind fun t178 => (some t178)))))))))))) = some r := h
  clear h
  by_cases c4 : a1 = 0
  · rw [if_pos c4] at H
    have c4b0 : (a1 == 0) = true := beq_iff_eq.mpr c4
    have c4b1 : (a1 != 0) = false := bne_eq_false_iff_eq.mpr c4
    clear c4
    replace H := Option.bind_eq_some_iff.mp H
    obtain ⟨t130, A50, H⟩ := H
    replace H : (some t130) = some r := H
    have A5 := Aside0.mk A50
    clear A50
    obtain rfl := Option.some.inj H
    go_enter Try.func123, Try.ntmps123
    go_wp2_with (first | ((with_reducible refine gate_callee (f := 141) rfl ?_); refine goesL_ (some 19) rfl rfl Try.func141 (by kernel_rfl) rfl #[.int .i64 a0] rfl (by (try simp only [List.map_toArray, List.map_cons, List.map_nil]); first | done | rfl | (simp only [List.length_drop, List.length_take]; rfl)) ?_; (with_reducible refine (fixed_edge.calls a0 t130 _ A5.out).mono ?_); rintro e w' ⟨rfl, ⟨nd, rfl⟩⟩; refine ⟨_, rfl, ?_⟩))
    go_ret
    exact ⟨by first | rfl | (simp; done) | (simp [*]; done), by repeat (first | exact Drawn0.refl _ | apply Drawn0.step)⟩
  · rw [if_neg c4] at H
    have c4b0 : (a1 == 0) = false := beq_eq_false_iff_ne.mpr c4
    have c4b1 : (a1 != 0) = true := bne_iff_ne.mpr c4
    by_cases c6 : a0 < 0
    · rw [if_pos c6] at H
      have c6b0 : decide (a0 < 0) = true := decide_eq_true c6
      clear c6
      by_cases c7 : a1 < 0
      · rw [if_pos c7] at H
        have c7b0 : decide (a1 < 0) = true := decide_eq_true c7
        clear c7
        replace H := Option.bind_eq_some_iff.mp H
        obtain ⟨t131, A80, H⟩ := H
        replace H : ((fixed_size.f a1).bind fun t132 => (if (t131 / 4294967296) ≥ t132 then ((fixed_signed.f k 0 true false).bind fun t133 => (some t133)) else ((bits_Div64.f k (t131 / 4294967296) (IntKind.u64.wrap (t131 * 4294967296)) t132).bind fun bt134 => (if bt134.2 = 0 then ((fixed_rounded.f bt134.1 false false).bind fun bt136 => ((fixed_signed.f k bt136.1 bt136.2 false).bind fun t138 => (some t138))) else ((fixed_Div_1.f false).bind fun t139 => ((fixed_rounded.f bt134.1 false t139).bind fun bt140 => ((fixed_signed.f k bt140.1 bt140.2 false).bind fun t142 => (some t142)))))))) = some r := H
        have A8 := Aside0.mk A80
        clear A80
        replace H := Option.bind_eq_some_iff.mp H
        obtain ⟨t132, A90, H⟩ := H
        replace H : (if (t131 / 4294967296) ≥ t132 then ((fixed_signed.f k 0 true false).bind fun t133 => (some t133)) else ((bits_Div64.f k (t131 / 4294967296) (IntKind.u64.wrap (t131 * 4294967296)) t132).bind fun bt134 => (if bt134.2 = 0 then ((fixed_rounded.f bt134.1 false false).bind fun bt136 => ((fixed_signed.f k bt136.1 bt136.2 false).bind fun t138 => (some t138))) else ((fixed_Div_1.f false).bind fun t139 => ((fixed_rounded.f bt134.1 false t139).bind fun bt140 => ((fixed_signed.f k bt140.1 bt140.2 false).bind fun t142 => (some t142))))))) = some r := H
        have A9 := Aside0.mk A90
        clear A90
        by_cases c10 : (t131 / 4294967296) ≥ t132
        · rw [if_pos c10] at H
          have c10b0 : decide (t132 ≤ (t131 / 4294967296)) = true := decide_eq_true c10
          clear c10
          replace H := Option.bind_eq_some_iff.mp H
          obtain ⟨t133, A110, H⟩ := H
          replace H : (some t133) = some r := H
          have A11 := Aside0.mk A110
          clear A110
          obtain rfl := Option.some.inj H
          go_enter Try.func123, Try.ntmps123
          go_wp2_with (first | ((with_reducible refine gate_callee (f := 110) rfl ?_); refine goesL_ (some 26) rfl rfl Try.func110 (by kernel_rfl) rfl #[.int .i64 a0] rfl (by (try simp only [List.map_toArray, List.map_cons, List.map_nil]); first | done | rfl | (simp only [List.length_drop, List.length_take]; rfl)) ?_; (with_reducible refine (fixed_size.calls a0 t131 _ A8.out).mono ?_); rintro e w' ⟨rfl, ⟨nd, rfl⟩⟩; refine ⟨_, rfl, ?_⟩) | ((with_reducible refine gate_callee (f := 110) rfl ?_); refine goesL_ (some 28) rfl rfl Try.func110 (by kernel_rfl) rfl #[.int .i64 a1] rfl (by (try simp only [List.map_toArray, List.map_cons, List.map_nil]); first | done | rfl | (simp only [List.length_drop, List.length_take]; rfl)) ?_; (with_reducible refine (fixed_size.calls a1 t132 _ A9.out).mono ?_); rintro e w' ⟨rfl, ⟨nd, rfl⟩⟩; refine ⟨_, rfl, ?_⟩) | ((with_reducible refine gate_callee (f := 112) rfl ?_); refine goesL_ (some 37) rfl rfl Try.func112 (by kernel_rfl) rfl #[.int .u64 0, .bool true, .bool false] rfl (by (try simp only [List.map_toArray, List.map_cons, List.map_nil]); first | done | rfl | (simp only [List.length_drop, List.length_take]; rfl)) ?_; (with_reducible refine (fixed_signed.calls k 0 true false t133 _ A11.out).mono ?_); rintro e w' ⟨rfl, ⟨nd, rfl⟩⟩; refine ⟨_, rfl, ?_⟩))
          go_ret
          exact ⟨by first | rfl | (simp; done) | (simp [*]; done), by repeat (first | exact Drawn0.refl _ | apply Drawn0.step)⟩
        · rw [if_neg c10] at H
          have c10b0 : decide (t132 ≤ (t131 / 4294967296)) = false := decide_eq_false c10
          clear c10
          replace H := Option.bind_eq_some_iff.mp H
          obtain ⟨⟨t134, t135⟩, A120, H⟩ := H
          replace H : (if t135 = 0 then ((fixed_rounded.f t134 false false).bind fun bt136 => ((fixed_signed.f k bt136.1 bt136.2 false).bind fun t138 => (some t138))) else ((fixed_Div_1.f false).bind fun t139 => ((fixed_rounded.f t134 false t139).bind fun bt140 => ((fixed_signed.f k bt140.1 bt140.2 false).bind fun t142 => (some t142))))) = some r := H
          have A12 := Aside0.mk A120
          clear A120
          by_cases c13 : t135 = 0
          · rw [if_pos c13] at H
            have c13b0 : (t135 == 0) = true := beq_iff_eq.mpr c13
            have c13b1 : (t135 != 0) = false := bne_eq_false_iff_eq.mpr c13
            clear c13
            replace H := Option.bind_eq_some_iff.mp H
            obtain ⟨⟨t136, t137⟩, A140, H⟩ := H
            replace H : ((fixed_signed.f k t136 t137 false).bind fun t138 => (some t138)) = some r := H
            have A14 := Aside0.mk A140
            clear A140
            replace H := Option.bind_eq_some_iff.mp H
            obtain ⟨t138, A150, H⟩ := H
            replace H : (some t138) = some r := H
            have A15 := Aside0.mk A150
            clear A150
            obtain rfl := Option.some.inj H
            go_enter Try.func123, Try.ntmps123
            go_wp2_with (first | ((with_reducible refine gate_callee (f := 110) rfl ?_); refine goesL_ (some 26) rfl rfl Try.func110 (by kernel_rfl) rfl #[.int .i64 a0] rfl (by (try simp only [List.map_toArray, List.map_cons, List.map_nil]); first | done | rfl | (simp only [List.length_drop, List.length_take]; rfl)) ?_; (with_reducible refine (fixed_size.calls a0 t131 _ A8.out).mono ?_); rintro e w' ⟨rfl, ⟨nd, rfl⟩⟩; refine ⟨_, rfl, ?_⟩) | ((with_reducible refine gate_callee (f := 110) rfl ?_); refine goesL_ (some 28) rfl rfl Try.func110 (by kernel_rfl) rfl #[.int .i64 a1] rfl (by (try simp only [List.map_toArray, List.map_cons, List.map_nil]); first | done | rfl | (simp only [List.length_drop, List.length_take]; rfl)) ?_; (with_reducible refine (fixed_size.calls a1 t132 _ A9.out).mono ?_); rintro e w' ⟨rfl, ⟨nd, rfl⟩⟩; refine ⟨_, rfl, ?_⟩) | ((with_reducible refine gate_callee (f := 142) rfl ?_); refine goesL_ (some 42) rfl rfl Try.func142 (by kernel_rfl) rfl #[.int .u64 (t131 / 4294967296), .int .u64 (IntKind.u64.wrap (t131 * 4294967296)), .int .u64 t132] rfl (by (try simp only [List.map_toArray, List.map_cons, List.map_nil]); first | done | rfl | (simp only [List.length_drop, List.length_take]; rfl)) ?_; (with_reducible refine (bits_Div64.calls k (t131 / 4294967296) (IntKind.u64.wrap (t131 * 4294967296)) t132 t134 t135 _ A12.out).mono ?_); rintro e w' ⟨rfl, ⟨nd, rfl⟩⟩; refine ⟨_, rfl, ?_⟩) | ((with_reducible refine gate_callee (f := 111) rfl ?_); refine goesL_ (some 54) rfl rfl Try.func111 (by kernel_rfl) rfl #[.int .u64 t134, .bool false, .bool false] rfl (by (try simp only [List.map_toArray, List.map_cons, List.map_nil]); first | done | rfl | (simp only [List.length_drop, List.length_take]; rfl)) ?_; (with_reducible refine (fixed_rounded.calls t134 false false t136 t137 _ A14.out).mono ?_); rintro e w' ⟨rfl, ⟨nd, rfl⟩⟩; refine ⟨_, rfl, ?_⟩) | ((with_reducible refine gate_callee (f := 112) rfl ?_); refine goesL_ (some 60) rfl rfl Try.func112 (by kernel_rfl) rfl #[.int .u64 t136, .bool t137, .bool false] rfl (by (try simp only [List.map_toArray, List.map_cons, List.map_nil]); first | done | rfl | (simp only [List.length_drop, List.length_take]; rfl)) ?_; (with_reducible refine (fixed_signed.calls k t136 t137 false t138 _ A15.out).mono ?_); rintro e w' ⟨rfl, ⟨nd, rfl⟩⟩; refine ⟨_, rfl, ?_⟩))
            go_ret
            exact ⟨by first | rfl | (simp; done) | (simp [*]; done), by repeat (first | exact Drawn0.refl _ | apply Drawn0.step)⟩
          · rw [if_neg c13] at H
            have c13b0 : (t135 == 0) = false := beq_eq_false_iff_ne.mpr c13
            have c13b1 : (t135 != 0) = true := bne_iff_ne.mpr c13
            replace H := Option.bind_eq_some_iff.mp H
            obtain ⟨t139, A160, H⟩ := H
            replace H : ((fixed_rounded.f t134 false t139).bind fun bt140 => ((fixed_signed.f k bt140.1 bt140.2 false).bind fun t142 => (some t142))) = some r := H
            have A16 := Aside0.mk A160
            clear A160
            replace H := Option.bind_eq_some_iff.mp H
            obtain ⟨⟨t140, t141⟩, A170, H⟩ := H
            replace H : ((fixed_signed.f k t140 t141 false).bind fun t142 => (some t142)) = some r := H
            have A17 := Aside0.mk A170
            clear A170
            replace H := Option.bind_eq_some_iff.mp H
            obtain ⟨t142, A180, H⟩ := H
            replace H : (some t142) = some r := H
            have A18 := Aside0.mk A180
            clear A180
            obtain rfl := Option.some.inj H
            go_enter Try.func123, Try.ntmps123
            go_wp2_with (first | ((with_reducible refine gate_callee (f := 110) rfl ?_); refine goesL_ (some 26) rfl rfl Try.func110 (by kernel_rfl) rfl #[.int .i64 a0] rfl (by (try simp only [List.map_toArray, List.map_cons, List.map_nil]); first | done | rfl | (simp only [List.length_drop, List.length_take]; rfl)) ?_; (with_reducible refine (fixed_size.calls a0 t131 _ A8.out).mono ?_); rintro e w' ⟨rfl, ⟨nd, rfl⟩⟩; refine ⟨_, rfl, ?_⟩) | ((with_reducible refine gate_callee (f := 110) rfl ?_); refine goesL_ (some 28) rfl rfl Try.func110 (by kernel_rfl) rfl #[.int .i64 a1] rfl (by (try simp only [List.map_toArray, List.map_cons, List.map_nil]); first | done | rfl | (simp only [List.length_drop, List.length_take]; rfl)) ?_; (with_reducible refine (fixed_size.calls a1 t132 _ A9.out).mono ?_); rintro e w' ⟨rfl, ⟨nd, rfl⟩⟩; refine ⟨_, rfl, ?_⟩) | ((with_reducible refine gate_callee (f := 142) rfl ?_); refine goesL_ (some 42) rfl rfl Try.func142 (by kernel_rfl) rfl #[.int .u64 (t131 / 4294967296), .int .u64 (IntKind.u64.wrap (t131 * 4294967296)), .int .u64 t132] rfl (by (try simp only [List.map_toArray, List.map_cons, List.map_nil]); first | done | rfl | (simp only [List.length_drop, List.length_take]; rfl)) ?_; (with_reducible refine (bits_Div64.calls k (t131 / 4294967296) (IntKind.u64.wrap (t131 * 4294967296)) t132 t134 t135 _ A12.out).mono ?_); rintro e w' ⟨rfl, ⟨nd, rfl⟩⟩; refine ⟨_, rfl, ?_⟩) | (go_at_call 134; refine calls_of_args (args' := #[.bool false]) (by first | rfl | rfl) ?_; (with_reducible refine (fixed_Div_1.calls false t139 _ A16.out).mono ?_); rintro e w' ⟨rfl, ⟨nd, rfl⟩⟩) | ((with_reducible refine gate_callee (f := 111) rfl ?_); refine goesL_ (some 54) rfl rfl Try.func111 (by kernel_rfl) rfl #[.int .u64 t134, .bool false, .bool t139] rfl (by (try simp only [List.map_toArray, List.map_cons, List.map_nil]); first | done | rfl | (simp only [List.length_drop, List.length_take]; rfl)) ?_; (with_reducible refine (fixed_rounded.calls t134 false t139 t140 t141 _ A17.out).mono ?_); rintro e w' ⟨rfl, ⟨nd, rfl⟩⟩; refine ⟨_, rfl, ?_⟩) | ((with_reducible refine gate_callee (f := 112) rfl ?_); refine goesL_ (some 60) rfl rfl Try.func112 (by kernel_rfl) rfl #[.int .u64 t140, .bool t141, .bool false] rfl (by (try simp only [List.map_toArray, List.map_cons, List.map_nil]); first | done | rfl | (simp only [List.length_drop, List.length_take]; rfl)) ?_; (with_reducible refine (fixed_signed.calls k t140 t141 false t142 _ A18.out).mono ?_); rintro e w' ⟨rfl, ⟨nd, rfl⟩⟩; refine ⟨_, rfl, ?_⟩))
            go_ret
            exact ⟨by first | rfl | (simp; done) | (simp [*]; done), by repeat (first | exact Drawn0.refl _ | apply Drawn0.step)⟩
      · rw [if_neg c7] at H
        have c7b0 : decide (a1 < 0) = false := decide_eq_false c7
        clear c7
        replace H := Option.bind_eq_some_iff.mp H
        obtain ⟨t143, A190, H⟩ := H
        replace H : ((fixed_size.f a1).bind fun t144 => (if (t143 / 4294967296) ≥ t144 then ((fixed_signed.f k 0 true true).bind fun t145 => (some t145)) else ((bits_Div64.f k (t143 / 4294967296) (IntKind.u64.wrap (t143 * 4294967296)) t144).bind fun bt146 => (if bt146.2 = 0 then ((fixed_rounded.f bt146.1 false false).bind fun bt148 => ((fixed_signed.f k bt148.1 bt148.2 true).bind fun t150 => (some t150))) else ((fixed_Div_1.f true).bind fun t151 => ((fixed_rounded.f bt146.1 false t151).bind fun bt152 => ((fixed_signed.f k bt152.1 bt152.2 true).bind fun t154 => (some t154)))))))) = some r := H
        have A19 := Aside0.mk A190
        clear A190
        replace H := Option.bind_eq_some_iff.mp H
        obtain ⟨t144, A200, H⟩ := H
        replace H : (if (t143 / 4294967296) ≥ t144 then ((fixed_signed.f k 0 true true).bind fun t145 => (some t145)) else ((bits_Div64.f k (t143 / 4294967296) (IntKind.u64.wrap (t143 * 4294967296)) t144).bind fun bt146 => (if bt146.2 = 0 then ((fixed_rounded.f bt146.1 false false).bind fun bt148 => ((fixed_signed.f k bt148.1 bt148.2 true).bind fun t150 => (some t150))) else ((fixed_Div_1.f true).bind fun t151 => ((fixed_rounded.f bt146.1 false t151).bind fun bt152 => ((fixed_signed.f k bt152.1 bt152.2 true).bind fun t154 => (some t154))))))) = some r := H
        have A20 := Aside0.mk A200
        clear A200
        by_cases c21 : (t143 / 4294967296) ≥ t144
        · rw [if_pos c21] at H
          have c21b0 : decide (t144 ≤ (t143 / 4294967296)) = true := decide_eq_true c21
          clear c21
          replace H := Option.bind_eq_some_iff.mp H
          obtain ⟨t145, A220, H⟩ := H
          replace H : (some t145) = some r := H
          have A22 := Aside0.mk A220
          clear A220
          obtain rfl := Option.some.inj H
          go_enter Try.func123, Try.ntmps123
          go_wp2_with (first | ((with_reducible refine gate_callee (f := 110) rfl ?_); refine goesL_ (some 26) rfl rfl Try.func110 (by kernel_rfl) rfl #[.int .i64 a0] rfl (by (try simp only [List.map_toArray, List.map_cons, List.map_nil]); first | done | rfl | (simp only [List.length_drop, List.length_take]; rfl)) ?_; (with_reducible refine (fixed_size.calls a0 t143 _ A19.out).mono ?_); rintro e w' ⟨rfl, ⟨nd, rfl⟩⟩; refine ⟨_, rfl, ?_⟩) | ((with_reducible refine gate_callee (f := 110) rfl ?_); refine goesL_ (some 28) rfl rfl Try.func110 (by kernel_rfl) rfl #[.int .i64 a1] rfl (by (try simp only [List.map_toArray, List.map_cons, List.map_nil]); first | done | rfl | (simp only [List.length_drop, List.length_take]; rfl)) ?_; (with_reducible refine (fixed_size.calls a1 t144 _ A20.out).mono ?_); rintro e w' ⟨rfl, ⟨nd, rfl⟩⟩; refine ⟨_, rfl, ?_⟩) | ((with_reducible refine gate_callee (f := 112) rfl ?_); refine goesL_ (some 37) rfl rfl Try.func112 (by kernel_rfl) rfl #[.int .u64 0, .bool true, .bool true] rfl (by (try simp only [List.map_toArray, List.map_cons, List.map_nil]); first | done | rfl | (simp only [List.length_drop, List.length_take]; rfl)) ?_; (with_reducible refine (fixed_signed.calls k 0 true true t145 _ A22.out).mono ?_); rintro e w' ⟨rfl, ⟨nd, rfl⟩⟩; refine ⟨_, rfl, ?_⟩))
          go_ret
          exact ⟨by first | rfl | (simp; done) | (simp [*]; done), by repeat (first | exact Drawn0.refl _ | apply Drawn0.step)⟩
        · rw [if_neg c21] at H
          have c21b0 : decide (t144 ≤ (t143 / 4294967296)) = false := decide_eq_false c21
          clear c21
          replace H := Option.bind_eq_some_iff.mp H
          obtain ⟨⟨t146, t147⟩, A230, H⟩ := H
          replace H : (if t147 = 0 then ((fixed_rounded.f t146 false false).bind fun bt148 => ((fixed_signed.f k bt148.1 bt148.2 true).bind fun t150 => (some t150))) else ((fixed_Div_1.f true).bind fun t151 => ((fixed_rounded.f t146 false t151).bind fun bt152 => ((fixed_signed.f k bt152.1 bt152.2 true).bind fun t154 => (some t154))))) = some r := H
          have A23 := Aside0.mk A230
          clear A230
          by_cases c24 : t147 = 0
          · rw [if_pos c24] at H
            have c24b0 : (t147 == 0) = true := beq_iff_eq.mpr c24
            have c24b1 : (t147 != 0) = false := bne_eq_false_iff_eq.mpr c24
            clear c24
            replace H := Option.bind_eq_some_iff.mp H
            obtain ⟨⟨t148, t149⟩, A250, H⟩ := H
            replace H : ((fixed_signed.f k t148 t149 true).bind fun t150 => (some t150)) = some r := H
            have A25 := Aside0.mk A250
            clear A250
            replace H := Option.bind_eq_some_iff.mp H
            obtain ⟨t150, A260, H⟩ := H
            replace H : (some t150) = some r := H
            have A26 := Aside0.mk A260
            clear A260
            obtain rfl := Option.some.inj H
            go_enter Try.func123, Try.ntmps123
            go_wp2_with (first | ((with_reducible refine gate_callee (f := 110) rfl ?_); refine goesL_ (some 26) rfl rfl Try.func110 (by kernel_rfl) rfl #[.int .i64 a0] rfl (by (try simp only [List.map_toArray, List.map_cons, List.map_nil]); first | done | rfl | (simp only [List.length_drop, List.length_take]; rfl)) ?_; (with_reducible refine (fixed_size.calls a0 t143 _ A19.out).mono ?_); rintro e w' ⟨rfl, ⟨nd, rfl⟩⟩; refine ⟨_, rfl, ?_⟩) | ((with_reducible refine gate_callee (f := 110) rfl ?_); refine goesL_ (some 28) rfl rfl Try.func110 (by kernel_rfl) rfl #[.int .i64 a1] rfl (by (try simp only [List.map_toArray, List.map_cons, List.map_nil]); first | done | rfl | (simp only [List.length_drop, List.length_take]; rfl)) ?_; (with_reducible refine (fixed_size.calls a1 t144 _ A20.out).mono ?_); rintro e w' ⟨rfl, ⟨nd, rfl⟩⟩; refine ⟨_, rfl, ?_⟩) | ((with_reducible refine gate_callee (f := 142) rfl ?_); refine goesL_ (some 42) rfl rfl Try.func142 (by kernel_rfl) rfl #[.int .u64 (t143 / 4294967296), .int .u64 (IntKind.u64.wrap (t143 * 4294967296)), .int .u64 t144] rfl (by (try simp only [List.map_toArray, List.map_cons, List.map_nil]); first | done | rfl | (simp only [List.length_drop, List.length_take]; rfl)) ?_; (with_reducible refine (bits_Div64.calls k (t143 / 4294967296) (IntKind.u64.wrap (t143 * 4294967296)) t144 t146 t147 _ A23.out).mono ?_); rintro e w' ⟨rfl, ⟨nd, rfl⟩⟩; refine ⟨_, rfl, ?_⟩) | ((with_reducible refine gate_callee (f := 111) rfl ?_); refine goesL_ (some 54) rfl rfl Try.func111 (by kernel_rfl) rfl #[.int .u64 t146, .bool false, .bool false] rfl (by (try simp only [List.map_toArray, List.map_cons, List.map_nil]); first | done | rfl | (simp only [List.length_drop, List.length_take]; rfl)) ?_; (with_reducible refine (fixed_rounded.calls t146 false false t148 t149 _ A25.out).mono ?_); rintro e w' ⟨rfl, ⟨nd, rfl⟩⟩; refine ⟨_, rfl, ?_⟩) | ((with_reducible refine gate_callee (f := 112) rfl ?_); refine goesL_ (some 60) rfl rfl Try.func112 (by kernel_rfl) rfl #[.int .u64 t148, .bool t149, .bool true] rfl (by (try simp only [List.map_toArray, List.map_cons, List.map_nil]); first | done | rfl | (simp only [List.length_drop, List.length_take]; rfl)) ?_; (with_reducible refine (fixed_signed.calls k t148 t149 true t150 _ A26.out).mono ?_); rintro e w' ⟨rfl, ⟨nd, rfl⟩⟩; refine ⟨_, rfl, ?_⟩))
            go_ret
            exact ⟨by first | rfl | (simp; done) | (simp [*]; done), by repeat (first | exact Drawn0.refl _ | apply Drawn0.step)⟩
          · rw [if_neg c24] at H
            have c24b0 : (t147 == 0) = false := beq_eq_false_iff_ne.mpr c24
            have c24b1 : (t147 != 0) = true := bne_iff_ne.mpr c24
            replace H := Option.bind_eq_some_iff.mp H
            obtain ⟨t151, A270, H⟩ := H
            replace H : ((fixed_rounded.f t146 false t151).bind fun bt152 => ((fixed_signed.f k bt152.1 bt152.2 true).bind fun t154 => (some t154))) = some r := H
            have A27 := Aside0.mk A270
            clear A270
            replace H := Option.bind_eq_some_iff.mp H
            obtain ⟨⟨t152, t153⟩, A280, H⟩ := H
            replace H : ((fixed_signed.f k t152 t153 true).bind fun t154 => (some t154)) = some r := H
            have A28 := Aside0.mk A280
            clear A280
            replace H := Option.bind_eq_some_iff.mp H
            obtain ⟨t154, A290, H⟩ := H
            replace H : (some t154) = some r := H
            have A29 := Aside0.mk A290
            clear A290
            obtain rfl := Option.some.inj H
            go_enter Try.func123, Try.ntmps123
            go_wp2_with (first | ((with_reducible refine gate_callee (f := 110) rfl ?_); refine goesL_ (some 26) rfl rfl Try.func110 (by kernel_rfl) rfl #[.int .i64 a0] rfl (by (try simp only [List.map_toArray, List.map_cons, List.map_nil]); first | done | rfl | (simp only [List.length_drop, List.length_take]; rfl)) ?_; (with_reducible refine (fixed_size.calls a0 t143 _ A19.out).mono ?_); rintro e w' ⟨rfl, ⟨nd, rfl⟩⟩; refine ⟨_, rfl, ?_⟩) | ((with_reducible refine gate_callee (f := 110) rfl ?_); refine goesL_ (some 28) rfl rfl Try.func110 (by kernel_rfl) rfl #[.int .i64 a1] rfl (by (try simp only [List.map_toArray, List.map_cons, List.map_nil]); first | done | rfl | (simp only [List.length_drop, List.length_take]; rfl)) ?_; (with_reducible refine (fixed_size.calls a1 t144 _ A20.out).mono ?_); rintro e w' ⟨rfl, ⟨nd, rfl⟩⟩; refine ⟨_, rfl, ?_⟩) | ((with_reducible refine gate_callee (f := 142) rfl ?_); refine goesL_ (some 42) rfl rfl Try.func142 (by kernel_rfl) rfl #[.int .u64 (t143 / 4294967296), .int .u64 (IntKind.u64.wrap (t143 * 4294967296)), .int .u64 t144] rfl (by (try simp only [List.map_toArray, List.map_cons, List.map_nil]); first | done | rfl | (simp only [List.length_drop, List.length_take]; rfl)) ?_; (with_reducible refine (bits_Div64.calls k (t143 / 4294967296) (IntKind.u64.wrap (t143 * 4294967296)) t144 t146 t147 _ A23.out).mono ?_); rintro e w' ⟨rfl, ⟨nd, rfl⟩⟩; refine ⟨_, rfl, ?_⟩) | (go_at_call 134; refine calls_of_args (args' := #[.bool true]) (by first | rfl | rfl) ?_; (with_reducible refine (fixed_Div_1.calls true t151 _ A27.out).mono ?_); rintro e w' ⟨rfl, ⟨nd, rfl⟩⟩) | ((with_reducible refine gate_callee (f := 111) rfl ?_); refine goesL_ (some 54) rfl rfl Try.func111 (by kernel_rfl) rfl #[.int .u64 t146, .bool false, .bool t151] rfl (by (try simp only [List.map_toArray, List.map_cons, List.map_nil]); first | done | rfl | (simp only [List.length_drop, List.length_take]; rfl)) ?_; (with_reducible refine (fixed_rounded.calls t146 false t151 t152 t153 _ A28.out).mono ?_); rintro e w' ⟨rfl, ⟨nd, rfl⟩⟩; refine ⟨_, rfl, ?_⟩) | ((with_reducible refine gate_callee (f := 112) rfl ?_); refine goesL_ (some 60) rfl rfl Try.func112 (by kernel_rfl) rfl #[.int .u64 t152, .bool t153, .bool true] rfl (by (try simp only [List.map_toArray, List.map_cons, List.map_nil]); first | done | rfl | (simp only [List.length_drop, List.length_take]; rfl)) ?_; (with_reducible refine (fixed_signed.calls k t152 t153 true t154 _ A29.out).mono ?_); rintro e w' ⟨rfl, ⟨nd, rfl⟩⟩; refine ⟨_, rfl, ?_⟩))
            go_ret
            exact ⟨by first | rfl | (simp; done) | (simp [*]; done), by repeat (first | exact Drawn0.refl _ | apply Drawn0.step)⟩
    · rw [if_neg c6] at H
      have c6b0 : decide (a0 < 0) = false := decide_eq_false c6
      clear c6
      by_cases c30 : a1 < 0
      · rw [if_pos c30] at H
        have c30b0 : decide (a1 < 0) = true := decide_eq_true c30
        clear c30
        replace H := Option.bind_eq_some_iff.mp H
        obtain ⟨t155, A310, H⟩ := H
        replace H : ((fixed_size.f a1).bind fun t156 => (if (t155 / 4294967296) ≥ t156 then ((fixed_signed.f k 0 true true).bind fun t157 => (some t157)) else ((bits_Div64.f k (t155 / 4294967296) (IntKind.u64.wrap (t155 * 4294967296)) t156).bind fun bt158 => (if bt158.2 = 0 then ((fixed_rounded.f bt158.1 false false).bind fun bt160 => ((fixed_signed.f k bt160.1 bt160.2 true).bind fun t162 => (some t162))) else ((fixed_Div_1.f true).bind fun t163 => ((fixed_rounded.f bt158.1 false t163).bind fun bt164 => ((fixed_signed.f k bt164.1 bt164.2 true).bind fun t166 => (some t166)))))))) = some r := H
        have A31 := Aside0.mk A310
        clear A310
        replace H := Option.bind_eq_some_iff.mp H
        obtain ⟨t156, A320, H⟩ := H
        replace H : (if (t155 / 4294967296) ≥ t156 then ((fixed_signed.f k 0 true true).bind fun t157 => (some t157)) else ((bits_Div64.f k (t155 / 4294967296) (IntKind.u64.wrap (t155 * 4294967296)) t156).bind fun bt158 => (if bt158.2 = 0 then ((fixed_rounded.f bt158.1 false false).bind fun bt160 => ((fixed_signed.f k bt160.1 bt160.2 true).bind fun t162 => (some t162))) else ((fixed_Div_1.f true).bind fun t163 => ((fixed_rounded.f bt158.1 false t163).bind fun bt164 => ((fixed_signed.f k bt164.1 bt164.2 true).bind fun t166 => (some t166))))))) = some r := H
        have A32 := Aside0.mk A320
        clear A320
        by_cases c33 : (t155 / 4294967296) ≥ t156
        · rw [if_pos c33] at H
          have c33b0 : decide (t156 ≤ (t155 / 4294967296)) = true := decide_eq_true c33
          clear c33
          replace H := Option.bind_eq_some_iff.mp H
          obtain ⟨t157, A340, H⟩ := H
          replace H : (some t157) = some r := H
          have A34 := Aside0.mk A340
          clear A340
          obtain rfl := Option.some.inj H
          go_enter Try.func123, Try.ntmps123
          go_wp2_with (first | ((with_reducible refine gate_callee (f := 110) rfl ?_); refine goesL_ (some 26) rfl rfl Try.func110 (by kernel_rfl) rfl #[.int .i64 a0] rfl (by (try simp only [List.map_toArray, List.map_cons, List.map_nil]); first | done | rfl | (simp only [List.length_drop, List.length_take]; rfl)) ?_; (with_reducible refine (fixed_size.calls a0 t155 _ A31.out).mono ?_); rintro e w' ⟨rfl, ⟨nd, rfl⟩⟩; refine ⟨_, rfl, ?_⟩) | ((with_reducible refine gate_callee (f := 110) rfl ?_); refine goesL_ (some 28) rfl rfl Try.func110 (by kernel_rfl) rfl #[.int .i64 a1] rfl (by (try simp only [List.map_toArray, List.map_cons, List.map_nil]); first | done | rfl | (simp only [List.length_drop, List.length_take]; rfl)) ?_; (with_reducible refine (fixed_size.calls a1 t156 _ A32.out).mono ?_); rintro e w' ⟨rfl, ⟨nd, rfl⟩⟩; refine ⟨_, rfl, ?_⟩) | ((with_reducible refine gate_callee (f := 112) rfl ?_); refine goesL_ (some 37) rfl rfl Try.func112 (by kernel_rfl) rfl #[.int .u64 0, .bool true, .bool true] rfl (by (try simp only [List.map_toArray, List.map_cons, List.map_nil]); first | done | rfl | (simp only [List.length_drop, List.length_take]; rfl)) ?_; (with_reducible refine (fixed_signed.calls k 0 true true t157 _ A34.out).mono ?_); rintro e w' ⟨rfl, ⟨nd, rfl⟩⟩; refine ⟨_, rfl, ?_⟩))
          go_ret
          exact ⟨by first | rfl | (simp; done) | (simp [*]; done), by repeat (first | exact Drawn0.refl _ | apply Drawn0.step)⟩
        · rw [if_neg c33] at H
          have c33b0 : decide (t156 ≤ (t155 / 4294967296)) = false := decide_eq_false c33
          clear c33
          replace H := Option.bind_eq_some_iff.mp H
          obtain ⟨⟨t158, t159⟩, A350, H⟩ := H
          replace H : (if t159 = 0 then ((fixed_rounded.f t158 false false).bind fun bt160 => ((fixed_signed.f k bt160.1 bt160.2 true).bind fun t162 => (some t162))) else ((fixed_Div_1.f true).bind fun t163 => ((fixed_rounded.f t158 false t163).bind fun bt164 => ((fixed_signed.f k bt164.1 bt164.2 true).bind fun t166 => (some t166))))) = some r := H
          have A35 := Aside0.mk A350
          clear A350
          by_cases c36 : t159 = 0
          · rw [if_pos c36] at H
            have c36b0 : (t159 == 0) = true := beq_iff_eq.mpr c36
            have c36b1 : (t159 != 0) = false := bne_eq_false_iff_eq.mpr c36
            clear c36
            replace H := Option.bind_eq_some_iff.mp H
            obtain ⟨⟨t160, t161⟩, A370, H⟩ := H
            replace H : ((fixed_signed.f k t160 t161 true).bind fun t162 => (some t162)) = some r := H
            have A37 := Aside0.mk A370
            clear A370
            replace H := Option.bind_eq_some_iff.mp H
            obtain ⟨t162, A380, H⟩ := H
            replace H : (some t162) = some r := H
            have A38 := Aside0.mk A380
            clear A380
            obtain rfl := Option.some.inj H
            go_enter Try.func123, Try.ntmps123
            go_wp2_with (first | ((with_reducible refine gate_callee (f := 110) rfl ?_); refine goesL_ (some 26) rfl rfl Try.func110 (by kernel_rfl) rfl #[.int .i64 a0] rfl (by (try simp only [List.map_toArray, List.map_cons, List.map_nil]); first | done | rfl | (simp only [List.length_drop, List.length_take]; rfl)) ?_; (with_reducible refine (fixed_size.calls a0 t155 _ A31.out).mono ?_); rintro e w' ⟨rfl, ⟨nd, rfl⟩⟩; refine ⟨_, rfl, ?_⟩) | ((with_reducible refine gate_callee (f := 110) rfl ?_); refine goesL_ (some 28) rfl rfl Try.func110 (by kernel_rfl) rfl #[.int .i64 a1] rfl (by (try simp only [List.map_toArray, List.map_cons, List.map_nil]); first | done | rfl | (simp only [List.length_drop, List.length_take]; rfl)) ?_; (with_reducible refine (fixed_size.calls a1 t156 _ A32.out).mono ?_); rintro e w' ⟨rfl, ⟨nd, rfl⟩⟩; refine ⟨_, rfl, ?_⟩) | ((with_reducible refine gate_callee (f := 142) rfl ?_); refine goesL_ (some 42) rfl rfl Try.func142 (by kernel_rfl) rfl #[.int .u64 (t155 / 4294967296), .int .u64 (IntKind.u64.wrap (t155 * 4294967296)), .int .u64 t156] rfl (by (try simp only [List.map_toArray, List.map_cons, List.map_nil]); first | done | rfl | (simp only [List.length_drop, List.length_take]; rfl)) ?_; (with_reducible refine (bits_Div64.calls k (t155 / 4294967296) (IntKind.u64.wrap (t155 * 4294967296)) t156 t158 t159 _ A35.out).mono ?_); rintro e w' ⟨rfl, ⟨nd, rfl⟩⟩; refine ⟨_, rfl, ?_⟩) | ((with_reducible refine gate_callee (f := 111) rfl ?_); refine goesL_ (some 54) rfl rfl Try.func111 (by kernel_rfl) rfl #[.int .u64 t158, .bool false, .bool false] rfl (by (try simp only [List.map_toArray, List.map_cons, List.map_nil]); first | done | rfl | (simp only [List.length_drop, List.length_take]; rfl)) ?_; (with_reducible refine (fixed_rounded.calls t158 false false t160 t161 _ A37.out).mono ?_); rintro e w' ⟨rfl, ⟨nd, rfl⟩⟩; refine ⟨_, rfl, ?_⟩) | ((with_reducible refine gate_callee (f := 112) rfl ?_); refine goesL_ (some 60) rfl rfl Try.func112 (by kernel_rfl) rfl #[.int .u64 t160, .bool t161, .bool true] rfl (by (try simp only [List.map_toArray, List.map_cons, List.map_nil]); first | done | rfl | (simp only [List.length_drop, List.length_take]; rfl)) ?_; (with_reducible refine (fixed_signed.calls k t160 t161 true t162 _ A38.out).mono ?_); rintro e w' ⟨rfl, ⟨nd, rfl⟩⟩; refine ⟨_, rfl, ?_⟩))
            go_ret
            exact ⟨by first | rfl | (simp; done) | (simp [*]; done), by repeat (first | exact Drawn0.refl _ | apply Drawn0.step)⟩
          · rw [if_neg c36] at H
            have c36b0 : (t159 == 0) = false := beq_eq_false_iff_ne.mpr c36
            have c36b1 : (t159 != 0) = true := bne_iff_ne.mpr c36
            replace H := Option.bind_eq_some_iff.mp H
            obtain ⟨t163, A390, H⟩ := H
            replace H : ((fixed_rounded.f t158 false t163).bind fun bt164 => ((fixed_signed.f k bt164.1 bt164.2 true).bind fun t166 => (some t166))) = some r := H
            have A39 := Aside0.mk A390
            clear A390
            replace H := Option.bind_eq_some_iff.mp H
            obtain ⟨⟨t164, t165⟩, A400, H⟩ := H
            replace H : ((fixed_signed.f k t164 t165 true).bind fun t166 => (some t166)) = some r := H
            have A40 := Aside0.mk A400
            clear A400
            replace H := Option.bind_eq_some_iff.mp H
            obtain ⟨t166, A410, H⟩ := H
            replace H : (some t166) = some r := H
            have A41 := Aside0.mk A410
            clear A410
            obtain rfl := Option.some.inj H
            go_enter Try.func123, Try.ntmps123
            go_wp2_with (first | ((with_reducible refine gate_callee (f := 110) rfl ?_); refine goesL_ (some 26) rfl rfl Try.func110 (by kernel_rfl) rfl #[.int .i64 a0] rfl (by (try simp only [List.map_toArray, List.map_cons, List.map_nil]); first | done | rfl | (simp only [List.length_drop, List.length_take]; rfl)) ?_; (with_reducible refine (fixed_size.calls a0 t155 _ A31.out).mono ?_); rintro e w' ⟨rfl, ⟨nd, rfl⟩⟩; refine ⟨_, rfl, ?_⟩) | ((with_reducible refine gate_callee (f := 110) rfl ?_); refine goesL_ (some 28) rfl rfl Try.func110 (by kernel_rfl) rfl #[.int .i64 a1] rfl (by (try simp only [List.map_toArray, List.map_cons, List.map_nil]); first | done | rfl | (simp only [List.length_drop, List.length_take]; rfl)) ?_; (with_reducible refine (fixed_size.calls a1 t156 _ A32.out).mono ?_); rintro e w' ⟨rfl, ⟨nd, rfl⟩⟩; refine ⟨_, rfl, ?_⟩) | ((with_reducible refine gate_callee (f := 142) rfl ?_); refine goesL_ (some 42) rfl rfl Try.func142 (by kernel_rfl) rfl #[.int .u64 (t155 / 4294967296), .int .u64 (IntKind.u64.wrap (t155 * 4294967296)), .int .u64 t156] rfl (by (try simp only [List.map_toArray, List.map_cons, List.map_nil]); first | done | rfl | (simp only [List.length_drop, List.length_take]; rfl)) ?_; (with_reducible refine (bits_Div64.calls k (t155 / 4294967296) (IntKind.u64.wrap (t155 * 4294967296)) t156 t158 t159 _ A35.out).mono ?_); rintro e w' ⟨rfl, ⟨nd, rfl⟩⟩; refine ⟨_, rfl, ?_⟩) | (go_at_call 134; refine calls_of_args (args' := #[.bool true]) (by first | rfl | rfl) ?_; (with_reducible refine (fixed_Div_1.calls true t163 _ A39.out).mono ?_); rintro e w' ⟨rfl, ⟨nd, rfl⟩⟩) | ((with_reducible refine gate_callee (f := 111) rfl ?_); refine goesL_ (some 54) rfl rfl Try.func111 (by kernel_rfl) rfl #[.int .u64 t158, .bool false, .bool t163] rfl (by (try simp only [List.map_toArray, List.map_cons, List.map_nil]); first | done | rfl | (simp only [List.length_drop, List.length_take]; rfl)) ?_; (with_reducible refine (fixed_rounded.calls t158 false t163 t164 t165 _ A40.out).mono ?_); rintro e w' ⟨rfl, ⟨nd, rfl⟩⟩; refine ⟨_, rfl, ?_⟩) | ((with_reducible refine gate_callee (f := 112) rfl ?_); refine goesL_ (some 60) rfl rfl Try.func112 (by kernel_rfl) rfl #[.int .u64 t164, .bool t165, .bool true] rfl (by (try simp only [List.map_toArray, List.map_cons, List.map_nil]); first | done | rfl | (simp only [List.length_drop, List.length_take]; rfl)) ?_; (with_reducible refine (fixed_signed.calls k t164 t165 true t166 _ A41.out).mono ?_); rintro e w' ⟨rfl, ⟨nd, rfl⟩⟩; refine ⟨_, rfl, ?_⟩))
            go_ret
            exact ⟨by first | rfl | (simp; done) | (simp [*]; done), by repeat (first | exact Drawn0.refl _ | apply Drawn0.step)⟩
      · rw [if_neg c30] at H
        have c30b0 : decide (a1 < 0) = false := decide_eq_false c30
        clear c30
        replace H := Option.bind_eq_some_iff.mp H
        obtain ⟨t167, A420, H⟩ := H
        replace H : ((fixed_size.f a1).bind fun t168 => (if (t167 / 4294967296) ≥ t168 then ((fixed_signed.f k 0 true false).bind fun t169 => (some t169)) else ((bits_Div64.f k (t167 / 4294967296) (IntKind.u64.wrap (t167 * 4294967296)) t168).bind fun bt170 => (if bt170.2 = 0 then ((fixed_rounded.f bt170.1 false false).bind fun bt172 => ((fixed_signed.f k bt172.1 bt172.2 false).bind fun t174 => (some t174))) else ((fixed_Div_1.f false).bind fun t175 => ((fixed_rounded.f bt170.1 false t175).bind fun bt176 => ((fixed_signed.f k bt176.1 bt176.2 false).bind fun t178 => (some t178)))))))) = some r := H
        have A42 := Aside0.mk A420
        clear A420
        replace H := Option.bind_eq_some_iff.mp H
        obtain ⟨t168, A430, H⟩ := H
        replace H : (if (t167 / 4294967296) ≥ t168 then ((fixed_signed.f k 0 true false).bind fun t169 => (some t169)) else ((bits_Div64.f k (t167 / 4294967296) (IntKind.u64.wrap (t167 * 4294967296)) t168).bind fun bt170 => (if bt170.2 = 0 then ((fixed_rounded.f bt170.1 false false).bind fun bt172 => ((fixed_signed.f k bt172.1 bt172.2 false).bind fun t174 => (some t174))) else ((fixed_Div_1.f false).bind fun t175 => ((fixed_rounded.f bt170.1 false t175).bind fun bt176 => ((fixed_signed.f k bt176.1 bt176.2 false).bind fun t178 => (some t178))))))) = some r := H
        have A43 := Aside0.mk A430
        clear A430
        by_cases c44 : (t167 / 4294967296) ≥ t168
        · rw [if_pos c44] at H
          have c44b0 : decide (t168 ≤ (t167 / 4294967296)) = true := decide_eq_true c44
          clear c44
          replace H := Option.bind_eq_some_iff.mp H
          obtain ⟨t169, A450, H⟩ := H
          replace H : (some t169) = some r := H
          have A45 := Aside0.mk A450
          clear A450
          obtain rfl := Option.some.inj H
          go_enter Try.func123, Try.ntmps123
          go_wp2_with (first | ((with_reducible refine gate_callee (f := 110) rfl ?_); refine goesL_ (some 26) rfl rfl Try.func110 (by kernel_rfl) rfl #[.int .i64 a0] rfl (by (try simp only [List.map_toArray, List.map_cons, List.map_nil]); first | done | rfl | (simp only [List.length_drop, List.length_take]; rfl)) ?_; (with_reducible refine (fixed_size.calls a0 t167 _ A42.out).mono ?_); rintro e w' ⟨rfl, ⟨nd, rfl⟩⟩; refine ⟨_, rfl, ?_⟩) | ((with_reducible refine gate_callee (f := 110) rfl ?_); refine goesL_ (some 28) rfl rfl Try.func110 (by kernel_rfl) rfl #[.int .i64 a1] rfl (by (try simp only [List.map_toArray, List.map_cons, List.map_nil]); first | done | rfl | (simp only [List.length_drop, List.length_take]; rfl)) ?_; (with_reducible refine (fixed_size.calls a1 t168 _ A43.out).mono ?_); rintro e w' ⟨rfl, ⟨nd, rfl⟩⟩; refine ⟨_, rfl, ?_⟩) | ((with_reducible refine gate_callee (f := 112) rfl ?_); refine goesL_ (some 37) rfl rfl Try.func112 (by kernel_rfl) rfl #[.int .u64 0, .bool true, .bool false] rfl (by (try simp only [List.map_toArray, List.map_cons, List.map_nil]); first | done | rfl | (simp only [List.length_drop, List.length_take]; rfl)) ?_; (with_reducible refine (fixed_signed.calls k 0 true false t169 _ A45.out).mono ?_); rintro e w' ⟨rfl, ⟨nd, rfl⟩⟩; refine ⟨_, rfl, ?_⟩))
          go_ret
          exact ⟨by first | rfl | (simp; done) | (simp [*]; done), by repeat (first | exact Drawn0.refl _ | apply Drawn0.step)⟩
        · rw [if_neg c44] at H
          have c44b0 : decide (t168 ≤ (t167 / 4294967296)) = false := decide_eq_false c44
          clear c44
          replace H := Option.bind_eq_some_iff.mp H
          obtain ⟨⟨t170, t171⟩, A460, H⟩ := H
          replace H : (if t171 = 0 then ((fixed_rounded.f t170 false false).bind fun bt172 => ((fixed_signed.f k bt172.1 bt172.2 false).bind fun t174 => (some t174))) else ((fixed_Div_1.f false).bind fun t175 => ((fixed_rounded.f t170 false t175).bind fun bt176 => ((fixed_signed.f k bt176.1 bt176.2 false).bind fun t178 => (some t178))))) = some r := H
          have A46 := Aside0.mk A460
          clear A460
          by_cases c47 : t171 = 0
          · rw [if_pos c47] at H
            have c47b0 : (t171 == 0) = true := beq_iff_eq.mpr c47
            have c47b1 : (t171 != 0) = false := bne_eq_false_iff_eq.mpr c47
            clear c47
            replace H := Option.bind_eq_some_iff.mp H
            obtain ⟨⟨t172, t173⟩, A480, H⟩ := H
            replace H : ((fixed_signed.f k t172 t173 false).bind fun t174 => (some t174)) = some r := H
            have A48 := Aside0.mk A480
            clear A480
            replace H := Option.bind_eq_some_iff.mp H
            obtain ⟨t174, A490, H⟩ := H
            replace H : (some t174) = some r := H
            have A49 := Aside0.mk A490
            clear A490
            obtain rfl := Option.some.inj H
            go_enter Try.func123, Try.ntmps123
            go_wp2_with (first | ((with_reducible refine gate_callee (f := 110) rfl ?_); refine goesL_ (some 26) rfl rfl Try.func110 (by kernel_rfl) rfl #[.int .i64 a0] rfl (by (try simp only [List.map_toArray, List.map_cons, List.map_nil]); first | done | rfl | (simp only [List.length_drop, List.length_take]; rfl)) ?_; (with_reducible refine (fixed_size.calls a0 t167 _ A42.out).mono ?_); rintro e w' ⟨rfl, ⟨nd, rfl⟩⟩; refine ⟨_, rfl, ?_⟩) | ((with_reducible refine gate_callee (f := 110) rfl ?_); refine goesL_ (some 28) rfl rfl Try.func110 (by kernel_rfl) rfl #[.int .i64 a1] rfl (by (try simp only [List.map_toArray, List.map_cons, List.map_nil]); first | done | rfl | (simp only [List.length_drop, List.length_take]; rfl)) ?_; (with_reducible refine (fixed_size.calls a1 t168 _ A43.out).mono ?_); rintro e w' ⟨rfl, ⟨nd, rfl⟩⟩; refine ⟨_, rfl, ?_⟩) | ((with_reducible refine gate_callee (f := 142) rfl ?_); refine goesL_ (some 42) rfl rfl Try.func142 (by kernel_rfl) rfl #[.int .u64 (t167 / 4294967296), .int .u64 (IntKind.u64.wrap (t167 * 4294967296)), .int .u64 t168] rfl (by (try simp only [List.map_toArray, List.map_cons, List.map_nil]); first | done | rfl | (simp only [List.length_drop, List.length_take]; rfl)) ?_; (with_reducible refine (bits_Div64.calls k (t167 / 4294967296) (IntKind.u64.wrap (t167 * 4294967296)) t168 t170 t171 _ A46.out).mono ?_); rintro e w' ⟨rfl, ⟨nd, rfl⟩⟩; refine ⟨_, rfl, ?_⟩) | ((with_reducible refine gate_callee (f := 111) rfl ?_); refine goesL_ (some 54) rfl rfl Try.func111 (by kernel_rfl) rfl #[.int .u64 t170, .bool false, .bool false] rfl (by (try simp only [List.map_toArray, List.map_cons, List.map_nil]); first | done | rfl | (simp only [List.length_drop, List.length_take]; rfl)) ?_; (with_reducible refine (fixed_rounded.calls t170 false false t172 t173 _ A48.out).mono ?_); rintro e w' ⟨rfl, ⟨nd, rfl⟩⟩; refine ⟨_, rfl, ?_⟩) | ((with_reducible refine gate_callee (f := 112) rfl ?_); refine goesL_ (some 60) rfl rfl Try.func112 (by kernel_rfl) rfl #[.int .u64 t172, .bool t173, .bool false] rfl (by (try simp only [List.map_toArray, List.map_cons, List.map_nil]); first | done | rfl | (simp only [List.length_drop, List.length_take]; rfl)) ?_; (with_reducible refine (fixed_signed.calls k t172 t173 false t174 _ A49.out).mono ?_); rintro e w' ⟨rfl, ⟨nd, rfl⟩⟩; refine ⟨_, rfl, ?_⟩))
            go_ret
            exact ⟨by first | rfl | (simp; done) | (simp [*]; done), by repeat (first | exact Drawn0.refl _ | apply Drawn0.step)⟩
          · rw [if_neg c47] at H
            have c47b0 : (t171 == 0) = false := beq_eq_false_iff_ne.mpr c47
            have c47b1 : (t171 != 0) = true := bne_iff_ne.mpr c47
            replace H := Option.bind_eq_some_iff.mp H
            obtain ⟨t175, A500, H⟩ := H
            replace H : ((fixed_rounded.f t170 false t175).bind fun bt176 => ((fixed_signed.f k bt176.1 bt176.2 false).bind fun t178 => (some t178))) = some r := H
            have A50 := Aside0.mk A500
            clear A500
            replace H := Option.bind_eq_some_iff.mp H
            obtain ⟨⟨t176, t177⟩, A510, H⟩ := H
            replace H : ((fixed_signed.f k t176 t177 false).bind fun t178 => (some t178)) = some r := H
            have A51 := Aside0.mk A510
            clear A510
            replace H := Option.bind_eq_some_iff.mp H
            obtain ⟨t178, A520, H⟩ := H
            replace H : (some t178) = some r := H
            have A52 := Aside0.mk A520
            clear A520
            obtain rfl := Option.some.inj H
            go_enter Try.func123, Try.ntmps123
            go_wp2_with (first | ((with_reducible refine gate_callee (f := 110) rfl ?_); refine goesL_ (some 26) rfl rfl Try.func110 (by kernel_rfl) rfl #[.int .i64 a0] rfl (by (try simp only [List.map_toArray, List.map_cons, List.map_nil]); first | done | rfl | (simp only [List.length_drop, List.length_take]; rfl)) ?_; (with_reducible refine (fixed_size.calls a0 t167 _ A42.out).mono ?_); rintro e w' ⟨rfl, ⟨nd, rfl⟩⟩; refine ⟨_, rfl, ?_⟩) | ((with_reducible refine gate_callee (f := 110) rfl ?_); refine goesL_ (some 28) rfl rfl Try.func110 (by kernel_rfl) rfl #[.int .i64 a1] rfl (by (try simp only [List.map_toArray, List.map_cons, List.map_nil]); first | done | rfl | (simp only [List.length_drop, List.length_take]; rfl)) ?_; (with_reducible refine (fixed_size.calls a1 t168 _ A43.out).mono ?_); rintro e w' ⟨rfl, ⟨nd, rfl⟩⟩; refine ⟨_, rfl, ?_⟩) | ((with_reducible refine gate_callee (f := 142) rfl ?_); refine goesL_ (some 42) rfl rfl Try.func142 (by kernel_rfl) rfl #[.int .u64 (t167 / 4294967296), .int .u64 (IntKind.u64.wrap (t167 * 4294967296)), .int .u64 t168] rfl (by (try simp only [List.map_toArray, List.map_cons, List.map_nil]); first | done | rfl | (simp only [List.length_drop, List.length_take]; rfl)) ?_; (with_reducible refine (bits_Div64.calls k (t167 / 4294967296) (IntKind.u64.wrap (t167 * 4294967296)) t168 t170 t171 _ A46.out).mono ?_); rintro e w' ⟨rfl, ⟨nd, rfl⟩⟩; refine ⟨_, rfl, ?_⟩) | (go_at_call 134; refine calls_of_args (args' := #[.bool false]) (by first | rfl | rfl) ?_; (with_reducible refine (fixed_Div_1.calls false t175 _ A50.out).mono ?_); rintro e w' ⟨rfl, ⟨nd, rfl⟩⟩) | ((with_reducible refine gate_callee (f := 111) rfl ?_); refine goesL_ (some 54) rfl rfl Try.func111 (by kernel_rfl) rfl #[.int .u64 t170, .bool false, .bool t175] rfl (by (try simp only [List.map_toArray, List.map_cons, List.map_nil]); first | done | rfl | (simp only [List.length_drop, List.length_take]; rfl)) ?_; (with_reducible refine (fixed_rounded.calls t170 false t175 t176 t177 _ A51.out).mono ?_); rintro e w' ⟨rfl, ⟨nd, rfl⟩⟩; refine ⟨_, rfl, ?_⟩) | ((with_reducible refine gate_callee (f := 112) rfl ?_); refine goesL_ (some 60) rfl rfl Try.func112 (by kernel_rfl) rfl #[.int .u64 t176, .bool t177, .bool false] rfl (by (try simp only [List.map_toArray, List.map_cons, List.map_nil]); first | done | rfl | (simp only [List.length_drop, List.length_take]; rfl)) ?_; (with_reducible refine (fixed_signed.calls k t176 t177 false t178 _ A52.out).mono ?_); rintro e w' ⟨rfl, ⟨nd, rfl⟩⟩; refine ⟨_, rfl, ?_⟩))
            go_ret
            exact ⟨by first | rfl | (simp; done) | (simp [*]; done), by repeat (first | exact Drawn0.refl _ | apply Drawn0.step)⟩
def fixed_Div.f (k : Nat) (a0 : Int) (a1 : Int) : Option (Int) := (fixed_quotient_134.f k a0 a1).bind fun t179 => (some t179)
set_option maxHeartbeats 8000000 in
set_option maxRecDepth 100000 in
theorem fixed_Div.calls (k : Nat) (a0 : Int) (a1 : Int) (r : Int) (w : World) (h : fixed_Div.f k a0 a1 = some r) :
    Calls Try.prog 102 #[.int .i64 a0, .int .i64 a1] w fun e w' => e = .returned (.int .i64 r) ∧ Drawn0 w w' := by
  have H : ((fixed_quotient_134.f k a0 a1).bind fun t179 => (some t179)) = some r := h
  clear h
  replace H := Option.bind_eq_some_iff.mp H
  obtain ⟨t179, A30, H⟩ := H
  replace H : (some t179) = some r := H
  have A3 := Aside0.mk A30
  clear A30
  obtain rfl := Option.some.inj H
  go_enter Try.func102, Try.ntmps102
  go_wp2_with (first | ((with_reducible refine gate_callee (f := 123) rfl ?_); refine goesL_ (some 7) rfl rfl Try.func123 (by kernel_rfl) rfl #[.int .i64 a0, .int .i64 a1, .func (.func 134) #[] #[]] rfl (by (try simp only [List.map_toArray, List.map_cons, List.map_nil]); first | done | rfl | (simp only [List.length_drop, List.length_take]; rfl)) ?_; (with_reducible refine (fixed_quotient_134.calls k a0 a1  t179 _ A3.out).mono ?_); rintro e w' ⟨rfl, ⟨nd, rfl⟩⟩; refine ⟨_, rfl, ?_⟩))
  go_ret
  exact ⟨by first | rfl | (simp; done) | (simp [*]; done), by repeat (first | exact Drawn0.refl _ | apply Drawn0.step)⟩
def fixed_CeilDiv_1.f (a0 : Bool) : Option (Bool) := some (!a0)
set_option maxHeartbeats 8000000 in
set_option maxRecDepth 100000 in
theorem fixed_CeilDiv_1.calls (a0 : Bool) (r : Bool) (w : World) (h : fixed_CeilDiv_1.f a0 = some r) :
    Calls Try.prog 124 #[.bool a0] w fun e w' => e = .returned (.bool r) ∧ Drawn0 w w' := by
  have H : (some (!a0)) = some r := h
  clear h
  obtain rfl := Option.some.inj H
  go_enter Try.func124, Try.ntmps124
  go_wp2
  go_ret
  exact ⟨by first | rfl | (simp; done) | (simp [*]; done), by repeat (first | exact Drawn0.refl _ | apply Drawn0.step)⟩
end Go.Proofs.Ytemnfnbjapobcaa.Fix
end
section
namespace Go.Proofs.Ytemnfnbjapobcaa.Fix
open Go.RowKit Go.Proofs.YtemnfnbjapobcaaW.PrintWords Go.Proofs.YtemnfnbjapobcaaW.PrintLast Go.Proofs.YtemnfnbjapobcaaW.PrintMore
attribute [local go_sem] max2_int min2_int max_two min_two max_three min_three max_four min_four   -- for this text's walks alone
set_option linter.unusedVariables false
set_option linter.unusedSimpArgs false
def fixed_quotient_124.f (k : Nat) (a0 : Int) (a1 : Int)  : Option (Int) := if a1 = 0 then ((fixed_edge.f a0).bind fun t180 => (some t180)) else (if a0 < 0 then (if a1 < 0 then ((fixed_size.f a0).bind fun t181 => ((fixed_size.f a1).bind fun t182 => (if (t181 / 4294967296) ≥ t182 then ((fixed_signed.f k 0 true false).bind fun t183 => (some t183)) else ((bits_Div64.f k (t181 / 4294967296) (IntKind.u64.wrap (t181 * 4294967296)) t182).bind fun bt184 => (if bt184.2 = 0 then ((fixed_rounded.f bt184.1 false false).bind fun bt186 => ((fixed_signed.f k bt186.1 bt186.2 false).bind fun t188 => (some t188))) else ((fixed_CeilDiv_1.f false).bind fun t189 => ((fixed_rounded.f bt184.1 false t189).bind fun bt190 => ((fixed_signed.f k bt190.1 bt190.2 false).bind fun t192 => (some t192))))))))) else ((fixed_size.f a0).bind fun t193 => ((fixed_size.f a1).bind fun t194 => (if (t193 / 4294967296) ≥ t194 then ((fixed_signed.f k 0 true true).bind fun t195 => (some t195)) else ((bits_Div64.f k (t193 / 4294967296) (IntKind.u64.wrap (t193 * 4294967296)) t194).bind fun bt196 => (if bt196.2 = 0 then ((fixed_rounded.f bt196.1 false false).bind fun bt198 => ((fixed_signed.f k bt198.1 bt198.2 true).bind fun t200 => (some t200))) else ((fixed_CeilDiv_1.f true).bind fun t201 => ((fixed_rounded.f bt196.1 false t201).bind fun bt202 => ((fixed_signed.f k bt202.1 bt202.2 true).bind fun t204 => (some t204)))))))))) else (if a1 < 0 then ((fixed_size.f a0).bind fun t205 => ((fixed_size.f a1).bind fun t206 => (if (t205 / 4294967296) ≥ t206 then ((fixed_signed.f k 0 true true).bind fun t207 => (some t207)) else ((bits_Div64.f k (t205 / 4294967296) (IntKind.u64.wrap (t205 * 4294967296)) t206).bind fun bt208 => (if bt208.2 = 0 then ((fixed_rounded.f bt208.1 false false).bind fun bt210 => ((fixed_signed.f k bt210.1 bt210.2 true).bind fun t212 => (some t212))) else ((fixed_CeilDiv_1.f true).bind fun t213 => ((fixed_rounded.f bt208.1 false t213).bind fun bt214 => ((fixed_signed.f k bt214.1 bt214.2 true).bind fun t216 => (some t216))))))))) else ((fixed_size.f a0).bind fun t217 => ((fixed_size.f a1).bind fun t218 => (if (t217 / 4294967296) ≥ t218 then ((fixed_signed.f k 0 true false).bind fun t219 => (some t219)) else ((bits_Div64.f k (t217 / 4294967296) (IntKind.u64.wrap (t217 * 4294967296)) t218).bind fun bt220 => (if bt220.2 = 0 then ((fixed_rounded.f bt220.1 false false).bind fun bt222 => ((fixed_signed.f k bt222.1 bt222.2 false).bind fun t224 => (some t224))) else ((fixed_CeilDiv_1.f false).bind fun t225 => ((fixed_rounded.f bt220.1 false t225).bind fun bt226 => ((fixed_signed.f k bt226.1 bt226.2 false).bind fun t228 => (some t228)))))))))))
set_option maxHeartbeats 8000000 in
set_option maxRecDepth 100000 in
theorem fixed_quotient_124.calls (k : Nat) (a0 : Int) (a1 : Int)  (r : Int) (w : World) (h : fixed_quotient_124.f k a0 a1 = some r) :
    Calls Try.prog 123 #[.int .i64 a0, .int .i64 a1, .func (.func 124) #[] #[]] w fun e w' => e = .returned (.int .i64 r) ∧ Drawn0 w w' := by
  have H : (if a1 = 0 then ((fixed_edge.f a0).bind fun t180 => (some t180)) else (if a0 < 0 then (if a1 < 0 then ((fixed_size.f a0).bind fun t181 => ((fixed_size.f a1).bind fun t182 => (if (t181 / 4294967296) ≥ t182 then ((fixed_signed.f k 0 true false).bind fun t183 => (some t183)) else ((bits_Div64.f k (t181 / 4294967296) (IntKind.u64.wrap (t181 * 4294967296)) t182).bind fun bt184 => (if bt184.2 = 0 then ((fixed_rounded.f bt184.1 false false).bind fun bt186 => ((fixed_signed.f k bt186.1 bt186.2 false).bind fun t188 => (some t188))) else ((fixed_CeilDiv_1.f false).bind fun t189 => ((fixed_rounded.f bt184.1 false t189).bind fun bt190 => ((fixed_signed.f k bt190.1 bt190.2 false).bind fun t192 => (some t192))))))))) else ((fixed_size.f a0).bind fun t193 => ((fixed_size.f a1).bind fun t194 => (if (t193 / 4294967296) ≥ t194 then ((fixed_signed.f k 0 true true).bind fun t195 => (some t195)) else ((bits_Div64.f k (t193 / 4294967296) (IntKind.u64.wrap (t193 * 4294967296)) t194).bind fun bt196 => (if bt196.2 = 0 then ((fixed_rounded.f bt196.1 false false).bind fun bt198 => ((fixed_signed.f k bt198.1 bt198.2 true).bind fun t200 => (some t200))) else ((fixed_CeilDiv_1.f true).bind fun t201 => ((fixed_rounded.f bt196.1 false t201).bind fun bt202 => ((fixed_signed.f k bt202.1 bt202.2 true).bind fun t204 => (some t204)))))))))) else (if a1 < 0 then ((fixed_size.f a0).bind fun t205 => ((fixed_size.f a1).bind fun t206 => (if (t205 / 4294967296) ≥ t206 then ((fixed_signed.f k 0 true true).bind fun t207 => (some t207)) else ((bits_Div64.f k (t205 / 4294967296) (IntKind.u64.wrap (t205 * 4294967296)) t206).bind fun bt208 => (if bt208.2 = 0 then ((fixed_rounded.f bt208.1 false false).bind fun bt210 => ((fixed_signed.f k bt210.1 bt210.2 true).bind fun t212 => (some t212))) else ((fixed_CeilDiv_1.f true).bind fun t213 => ((fixed_rounded.f bt208.1 false t213).bind fun bt214 => ((fixed_signed.f k bt214.1 bt214.2 true).bind fun t216 => (some t216))))))))) else ((fixed_size.f a0).bind fun t217 => ((fixed_size.f a1).bind fun t218 => (if (t217 / 4294967296) ≥ t218 then ((fixed_signed.f k 0 true false).bind fun t219 => (some t219)) else ((bits_Div64.f k (t217 / 4294967296) (IntKind.u64.wrap (t217 * 4294967296)) t218).bind fun bt220 => (if bt220.2 = 0 then ((fixed_rounded.f bt220.1 false false).bind fun bt222 => ((fixed_signed.f k bt222.1 bt222.2 false).bind fun t224 => (some t224))) else ((fixed_CeilDiv_1.f false).bind fun t225 => ((fixed_rounded.f bt220.1 false t225).bind fun bt226 => ((fixed_signed.f k bt226.1 bt226.2 false).bind fun t228 => (some t228)))))))))))) = some r := h
  clear h
  by_cases c4 : a1 = 0
  · rw [if_pos c4] at H
    have c4b0 : (a1 == 0) = true := beq_iff_eq.mpr c4
    have c4b1 : (a1 != 0) = false := bne_eq_false_iff_eq.mpr c4
    clear c4
    replace H := Option.bind_eq_some_iff.mp H
    obtain ⟨t180, A50, H⟩ := H
    replace H : (some t180) = some r := H
    have A5 := Aside0.mk A50
    clear A50
    obtain rfl := Option.some.inj H
    go_enter Try.func123, Try.ntmps123
    go_wp2_with (first | ((with_reducible refine gate_callee (f := 141) rfl ?_); refine goesL_ (some 19) rfl rfl Try.func141 (by kernel_rfl) rfl #[.int .i64 a0] rfl (by (try simp only [List.map_toArray, List.map_cons, List.map_nil]); first | done | rfl | (simp only [List.length_drop, List.length_take]; rfl)) ?_; (with_reducible refine (fixed_edge.calls a0 t180 _ A5.out).mono ?_); rintro e w' ⟨rfl, ⟨nd, rfl⟩⟩; refine ⟨_, rfl, ?_⟩))
    go_ret
    exact ⟨by first | rfl | (simp; done) | (simp [*]; done), by repeat (first | exact Drawn0.refl _ | apply Drawn0.step)⟩
  · rw [if_neg c4] at H
    have c4b0 : (a1 == 0) = false := beq_eq_false_iff_ne.mpr c4
    have c4b1 : (a1 != 0) = true := bne_iff_ne.mpr c4
    by_cases c6 : a0 < 0
    · rw [if_pos c6] at H
      have c6b0 : decide (a0 < 0) = true := decide_eq_true c6
      clear c6
      by_cases c7 : a1 < 0
      · rw [if_pos c7] at H
        have c7b0 : decide (a1 < 0) = true := decide_eq_true c7
        clear c7
        replace H := Option.bind_eq_some_iff.mp H
        obtain ⟨t181, A80, H⟩ := H
        replace H : ((fixed_size.f a1).bind fun t182 => (if (t181 / 4294967296) ≥ t182 then ((fixed_signed.f k 0 true false).bind fun t183 => (some t183)) else ((bits_Div64.f k (t181 / 4294967296) (IntKind.u64.wrap (t181 * 4294967296)) t182).bind fun bt184 => (if bt184.2 = 0 then ((fixed_rounded.f bt184.1 false false).bind fun bt186 => ((fixed_signed.f k bt186.1 bt186.2 false).bind fun t188 => (some t188))) else ((fixed_CeilDiv_1.f false).bind fun t189 => ((fixed_rounded.f bt184.1 false t189).bind fun bt190 => ((fixed_signed.f k bt190.1 bt190.2 false).bind fun t192 => (some t192)))))))) = some r := H
        have A8 := Aside0.mk A80
        clear A80
        replace H := Option.bind_eq_some_iff.mp H
        obtain ⟨t182, A90, H⟩ := H
        replace H : (if (t181 / 4294967296) ≥ t182 then ((fixed_signed.f k 0 true false).bind fun t183 => (some t183)) else ((bits_Div64.f k (t181 / 4294967296) (IntKind.u64.wrap (t181 * 4294967296)) t182).bind fun bt184 => (if bt184.2 = 0 then ((fixed_rounded.f bt184.1 false false).bind fun bt186 => ((fixed_signed.f k bt186.1 bt186.2 false).bind fun t188 => (some t188))) else ((fixed_CeilDiv_1.f false).bind fun t189 => ((fixed_rounded.f bt184.1 false t189).bind fun bt190 => ((fixed_signed.f k bt190.1 bt190.2 false).bind fun t192 => (some t192))))))) = some r := H
        have A9 := Aside0.mk A90
        clear A90
        by_cases c10 : (t181 / 4294967296) ≥ t182
        · rw [if_pos c10] at H
          have c10b0 : decide (t182 ≤ (t181 / 4294967296)) = true := decide_eq_true c10
          clear c10
          replace H := Option.bind_eq_some_iff.mp H
          obtain ⟨t183, A110, H⟩ := H
          replace H : (some t183) = some r := H
          have A11 := Aside0.mk A110
          clear A110
          obtain rfl := Option.some.inj H
          go_enter Try.func123, Try.ntmps123
          go_wp2_with (first | ((with_reducible refine gate_callee (f := 110) rfl ?_); refine goesL_ (some 26) rfl rfl Try.func110 (by kernel_rfl) rfl #[.int .i64 a0] rfl (by (try simp only [List.map_toArray, List.map_cons, List.map_nil]); first | done | rfl | (simp only [List.length_drop, List.length_take]; rfl)) ?_; (with_reducible refine (fixed_size.calls a0 t181 _ A8.out).mono ?_); rintro e w' ⟨rfl, ⟨nd, rfl⟩⟩; refine ⟨_, rfl, ?_⟩) | ((with_reducible refine gate_callee (f := 110) rfl ?_); refine goesL_ (some 28) rfl rfl Try.func110 (by kernel_rfl) rfl #[.int .i64 a1] rfl (by (try simp only [List.map_toArray, List.map_cons, List.map_nil]); first | done | rfl | (simp only [List.length_drop, List.length_take]; rfl)) ?_; (with_reducible refine (fixed_size.calls a1 t182 _ A9.out).mono ?_); rintro e w' ⟨rfl, ⟨nd, rfl⟩⟩; refine ⟨_, rfl, ?_⟩) | ((with_reducible refine gate_callee (f := 112) rfl ?_); refine goesL_ (some 37) rfl rfl Try.func112 (by kernel_rfl) rfl #[.int .u64 0, .bool true, .bool false] rfl (by (try simp only [List.map_toArray, List.map_cons, List.map_nil]); first | done | rfl | (simp only [List.length_drop, List.length_take]; rfl)) ?_; (with_reducible refine (fixed_signed.calls k 0 true false t183 _ A11.out).mono ?_); rintro e w' ⟨rfl, ⟨nd, rfl⟩⟩; refine ⟨_, rfl, ?_⟩))
          go_ret
          exact ⟨by first | rfl | (simp; done) | (simp [*]; done), by repeat (first | exact Drawn0.refl _ | apply Drawn0.step)⟩
        · rw [if_neg c10] at H
          have c10b0 : decide (t182 ≤ (t181 / 4294967296)) = false := decide_eq_false c10
          clear c10
          replace H := Option.bind_eq_some_iff.mp H
          obtain ⟨⟨t184, t185⟩, A120, H⟩ := H
          replace H : (if t185 = 0 then ((fixed_rounded.f t184 false false).bind fun bt186 => ((fixed_signed.f k bt186.1 bt186.2 false).bind fun t188 => (some t188))) else ((fixed_CeilDiv_1.f false).bind fun t189 => ((fixed_rounded.f t184 false t189).bind fun bt190 => ((fixed_signed.f k bt190.1 bt190.2 false).bind fun t192 => (some t192))))) = some r := H
          have A12 := Aside0.mk A120
          clear A120
          by_cases c13 : t185 = 0
          · rw [if_pos c13] at H
            have c13b0 : (t185 == 0) = true := beq_iff_eq.mpr c13
            have c13b1 : (t185 != 0) = false := bne_eq_false_iff_eq.mpr c13
            clear c13
            replace H := Option.bind_eq_some_iff.mp H
            obtain ⟨⟨t186, t187⟩, A140, H⟩ := H
            replace H : ((fixed_signed.f k t186 t187 false).bind fun t188 => (some t188)) = some r := H
            have A14 := Aside0.mk A140
            clear A140
            replace H := Option.bind_eq_some_iff.mp H
            obtain ⟨t188, A150, H⟩ := H
            replace H : (some t188) = some r := H
            have A15 := Aside0.mk A150
            clear A150
            obtain rfl := Option.some.inj H
            go_enter Try.func123, Try.ntmps123
            go_wp2_with (first | ((with_reducible refine gate_callee (f := 110) rfl ?_); refine goesL_ (some 26) rfl rfl Try.func110 (by kernel_rfl) rfl #[.int .i64 a0] rfl (by (try simp only [List.map_toArray, List.map_cons, List.map_nil]); first | done | rfl | (simp only [List.length_drop, List.length_take]; rfl)) ?_; (with_reducible refine (fixed_size.calls a0 t181 _ A8.out).mono ?_); rintro e w' ⟨rfl, ⟨nd, rfl⟩⟩; refine ⟨_, rfl, ?_⟩) | ((with_reducible refine gate_callee (f := 110) rfl ?_); refine goesL_ (some 28) rfl rfl Try.func110 (by kernel_rfl) rfl #[.int .i64 a1] rfl (by (try simp only [List.map_toArray, List.map_cons, List.map_nil]); first | done | rfl | (simp only [List.length_drop, List.length_take]; rfl)) ?_; (with_reducible refine (fixed_size.calls a1 t182 _ A9.out).mono ?_); rintro e w' ⟨rfl, ⟨nd, rfl⟩⟩; refine ⟨_, rfl, ?_⟩) | ((with_reducible refine gate_callee (f := 142) rfl ?_); refine goesL_ (some 42) rfl rfl Try.func142 (by kernel_rfl) rfl #[.int .u64 (t181 / 4294967296), .int .u64 (IntKind.u64.wrap (t181 * 4294967296)), .int .u64 t182] rfl (by (try simp only [List.map_toArray, List.map_cons, List.map_nil]); first | done | rfl | (simp only [List.length_drop, List.length_take]; rfl)) ?_; (with_reducible refine (bits_Div64.calls k (t181 / 4294967296) (IntKind.u64.wrap (t181 * 4294967296)) t182 t184 t185 _ A12.out).mono ?_); rintro e w' ⟨rfl, ⟨nd, rfl⟩⟩; refine ⟨_, rfl, ?_⟩) | ((with_reducible refine gate_callee (f := 111) rfl ?_); refine goesL_ (some 54) rfl rfl Try.func111 (by kernel_rfl) rfl #[.int .u64 t184, .bool false, .bool false] rfl (by (try simp only [List.map_toArray, List.map_cons, List.map_nil]); first | done | rfl | (simp only [List.length_drop, List.length_take]; rfl)) ?_; (with_reducible refine (fixed_rounded.calls t184 false false t186 t187 _ A14.out).mono ?_); rintro e w' ⟨rfl, ⟨nd, rfl⟩⟩; refine ⟨_, rfl, ?_⟩) | ((with_reducible refine gate_callee (f := 112) rfl ?_); refine goesL_ (some 60) rfl rfl Try.func112 (by kernel_rfl) rfl #[.int .u64 t186, .bool t187, .bool false] rfl (by (try simp only [List.map_toArray, List.map_cons, List.map_nil]); first | done | rfl | (simp only [List.length_drop, List.length_take]; rfl)) ?_; (with_reducible refine (fixed_signed.calls k t186 t187 false t188 _ A15.out).mono ?_); rintro e w' ⟨rfl, ⟨nd, rfl⟩⟩; refine ⟨_, rfl, ?_⟩))
            go_ret
            exact ⟨by first | rfl | (simp; done) | (simp [*]; done), by repeat (first | exact Drawn0.refl _ | apply Drawn0.step)⟩
          · rw [if_neg c13] at H
            have c13b0 : (t185 == 0) = false := beq_eq_false_iff_ne.mpr c13
            have c13b1 : (t185 != 0) = true := bne_iff_ne.mpr c13
            replace H := Option.bind_eq_some_iff.mp H
            obtain ⟨t189, A160, H⟩ := H
            replace H : ((fixed_rounded.f t184 false t189).bind fun bt190 => ((fixed_signed.f k bt190.1 bt190.2 false).bind fun t192 => (some t192))) = some r := H
            have A16 := Aside0.mk A160
            clear A160
            replace H := Option.bind_eq_some_iff.mp H
            obtain ⟨⟨t190, t191⟩, A170, H⟩ := H
            replace H : ((fixed_signed.f k t190 t191 false).bind fun t192 => (some t192)) = some r := H
            have A17 := Aside0.mk A170
            clear A170
            replace H := Option.bind_eq_some_iff.mp H
            obtain ⟨t192, A180, H⟩ := H
            replace H : (some t192) = some r := H
            have A18 := Aside0.mk A180
            clear A180
            obtain rfl := Option.some.inj H
            go_enter Try.func123, Try.ntmps123
            go_wp2_with (first | ((with_reducible refine gate_callee (f := 110) rfl ?_); refine goesL_ (some 26) rfl rfl Try.func110 (by kernel_rfl) rfl #[.int .i64 a0] rfl (by (try simp only [List.map_toArray, List.map_cons, List.map_nil]); first | done | rfl | (simp only [List.length_drop, List.length_take]; rfl)) ?_; (with_reducible refine (fixed_size.calls a0 t181 _ A8.out).mono ?_); rintro e w' ⟨rfl, ⟨nd, rfl⟩⟩; refine ⟨_, rfl, ?_⟩) | ((with_reducible refine gate_callee (f := 110) rfl ?_); refine goesL_ (some 28) rfl rfl Try.func110 (by kernel_rfl) rfl #[.int .i64 a1] rfl (by (try simp only [List.map_toArray, List.map_cons, List.map_nil]); first | done | rfl | (simp only [List.length_drop, List.length_take]; rfl)) ?_; (with_reducible refine (fixed_size.calls a1 t182 _ A9.out).mono ?_); rintro e w' ⟨rfl, ⟨nd, rfl⟩⟩; refine ⟨_, rfl, ?_⟩) | ((with_reducible refine gate_callee (f := 142) rfl ?_); refine goesL_ (some 42) rfl rfl Try.func142 (by kernel_rfl) rfl #[.int .u64 (t181 / 4294967296), .int .u64 (IntKind.u64.wrap (t181 * 4294967296)), .int .u64 t182] rfl (by (try simp only [List.map_toArray, List.map_cons, List.map_nil]); first | done | rfl | (simp only [List.length_drop, List.length_take]; rfl)) ?_; (with_reducible refine (bits_Div64.calls k (t181 / 4294967296) (IntKind.u64.wrap (t181 * 4294967296)) t182 t184 t185 _ A12.out).mono ?_); rintro e w' ⟨rfl, ⟨nd, rfl⟩⟩; refine ⟨_, rfl, ?_⟩) | (go_at_call 124; refine calls_of_args (args' := #[.bool false]) (by first | rfl | rfl) ?_; (with_reducible refine (fixed_CeilDiv_1.calls false t189 _ A16.out).mono ?_); rintro e w' ⟨rfl, ⟨nd, rfl⟩⟩) | ((with_reducible refine gate_callee (f := 111) rfl ?_); refine goesL_ (some 54) rfl rfl Try.func111 (by kernel_rfl) rfl #[.int .u64 t184, .bool false, .bool t189] rfl (by (try simp only [List.map_toArray, List.map_cons, List.map_nil]); first | done | rfl | (simp only [List.length_drop, List.length_take]; rfl)) ?_; (with_reducible refine (fixed_rounded.calls t184 false t189 t190 t191 _ A17.out).mono ?_); rintro e w' ⟨rfl, ⟨nd, rfl⟩⟩; refine ⟨_, rfl, ?_⟩) | ((with_reducible refine gate_callee (f := 112) rfl ?_); refine goesL_ (some 60) rfl rfl Try.func112 (by kernel_rfl) rfl #[.int .u64 t190, .bool t191, .bool false] rfl (by (try simp only [List.map_toArray, List.map_cons, List.map_nil]); first | done | rfl | (simp only [List.length_drop, List.length_take]; rfl)) ?_; (with_reducible refine (fixed_signed.calls k t190 t191 false t192 _ A18.out).mono ?_); rintro e w' ⟨rfl, ⟨nd, rfl⟩⟩; refine ⟨_, rfl, ?_⟩))
            go_ret
            exact ⟨by first | rfl | (simp; done) | (simp [*]; done), by repeat (first | exact Drawn0.refl _ | apply Drawn0.step)⟩
      · rw [if_neg c7] at H
        have c7b0 : decide (a1 < 0) = false := decide_eq_false c7
        clear c7
        replace H := Option.bind_eq_some_iff.mp H
        obtain ⟨t193, A190, H⟩ := H
        replace H : ((fixed_size.f a1).bind fun t194 => (if (t193 / 4294967296) ≥ t194 then ((fixed_signed.f k 0 true true).bind fun t195 => (some t195)) else ((bits_Div64.f k (t193 / 4294967296) (IntKind.u64.wrap (t193 * 4294967296)) t194).bind fun bt196 => (if bt196.2 = 0 then ((fixed_rounded.f bt196.1 false false).bind fun bt198 => ((fixed_signed.f k bt198.1 bt198.2 true).bind fun t200 => (some t200))) else ((fixed_CeilDiv_1.f true).bind fun t201 => ((fixed_rounded.f bt196.1 false t201).bind fun bt202 => ((fixed_signed.f k bt202.1 bt202.2 true).bind fun t204 => (some t204)))))))) = some r := H
        have A19 := Aside0.mk A190
        clear A190
        replace H := Option.bind_eq_some_iff.mp H
        obtain ⟨t194, A200, H⟩ := H
        replace H : (if (t193 / 4294967296) ≥ t194 then ((fixed_signed.f k 0 true true).bind fun t195 => (some t195)) else ((bits_Div64.f k (t193 / 4294967296) (IntKind.u64.wrap (t193 * 4294967296)) t194).bind fun bt196 => (if bt196.2 = 0 then ((fixed_rounded.f bt196.1 false false).bind fun bt198 => ((fixed_signed.f k bt198.1 bt198.2 true).bind fun t200 => (some t200))) else ((fixed_CeilDiv_1.f true).bind fun t201 => ((fixed_rounded.f bt196.1 false t201).bind fun bt202 => ((fixed_signed.f k bt202.1 bt202.2 true).bind fun t204 => (some t204))))))) = some r := H
        have A20 := Aside0.mk A200
        clear A200
        by_cases c21 : (t193 / 4294967296) ≥ t194
        · rw [if_pos c21] at H
          have c21b0 : decide (t194 ≤ (t193 / 4294967296)) = true := decide_eq_true c21
          clear c21
          replace H := Option.bind_eq_some_iff.mp H
          obtain ⟨t195, A220, H⟩ := H
          replace H : (some t195) = some r := H
          have A22 := Aside0.mk A220
          clear A220
          obtain rfl := Option.some.inj H
          go_enter Try.func123, Try.ntmps123
          go_wp2_with (first | ((with_reducible refine gate_callee (f := 110) rfl ?_); refine goesL_ (some 26) rfl rfl Try.func110 (by kernel_rfl) rfl #[.int .i64 a0] rfl (by (try simp only [List.map_toArray, List.map_cons, List.map_nil]); first | done | rfl | (simp only [List.length_drop, List.length_take]; rfl)) ?_; (with_reducible refine (fixed_size.calls a0 t193 _ A19.out).mono ?_); rintro e w' ⟨rfl, ⟨nd, rfl⟩⟩; refine ⟨_, rfl, ?_⟩) | ((with_reducible refine gate_callee (f := 110) rfl ?_); refine goesL_ (some 28) rfl rfl Try.func110 (by kernel_rfl) rfl #[.int .i64 a1] rfl (by (try simp only [List.map_toArray, List.map_cons, List.map_nil]); first | done | rfl | (simp only [List.length_drop, List.length_take]; rfl)) ?_; (with_reducible refine (fixed_size.calls a1 t194 _ A20.out).mono ?_); rintro e w' ⟨rfl, ⟨nd, rfl⟩⟩; refine ⟨_, rfl, ?_⟩) | ((with_reducible refine gate_callee (f := 112) rfl ?_); refine goesL_ (some 37) rfl rfl Try.func112 (by kernel_rfl) rfl #[.int .u64 0, .bool true, .bool true] rfl (by (try simp only [List.map_toArray, List.map_cons, List.map_nil]); first | done | rfl | (simp only [List.length_drop, List.length_take]; rfl)) ?_; (with_reducible refine (fixed_signed.calls k 0 true true t195 _ A22.out).mono ?_); rintro e w' ⟨rfl, ⟨nd, rfl⟩⟩; refine ⟨_, rfl, ?_⟩))
          go_ret
          exact ⟨by first | rfl | (simp; done) | (simp [*]; done), by repeat (first | exact Drawn0.refl _ | apply Drawn0.step)⟩
        · rw [if_neg c21] at H
          have c21b0 : decide (t194 ≤ (t193 / 4294967296)) = false := decide_eq_false c21
          clear c21
          replace H := Option.bind_eq_some_iff.mp H
          obtain ⟨⟨t196, t197⟩, A230, H⟩ := H
          replace H : (if t197 = 0 then ((fixed_rounded.f t196 false false).bind fun bt198 => ((fixed_signed.f k bt198.1 bt198.2 true).bind fun t200 => (some t200))) else ((fixed_CeilDiv_1.f true).bind fun t201 => ((fixed_rounded.f t196 false t201).bind fun bt202 => ((fixed_signed.f k bt202.1 bt202.2 true).bind fun t204 => (some t204))))) = some r := H
          have A23 := Aside0.mk A230
          clear A230
          by_cases c24 : t197 = 0
          · rw [if_pos c24] at H
            have c24b0 : (t197 == 0) = true := beq_iff_eq.mpr c24
            have c24b1 : (t197 != 0) = false := bne_eq_false_iff_eq.mpr c24
            clear c24
            replace H := Option.bind_eq_some_iff.mp H
            obtain ⟨⟨t198, t199⟩, A250, H⟩ := H
            replace H : ((fixed_signed.f k t198 t199 true).bind fun t200 => (some t200)) = some r := H
            have A25 := Aside0.mk A250
            clear A250
            replace H := Option.bind_eq_some_iff.mp H
            obtain ⟨t200, A260, H⟩ := H
            replace H : (some t200) = some r := H
            have A26 := Aside0.mk A260
            clear A260
            obtain rfl := Option.some.inj H
            go_enter Try.func123, Try.ntmps123
            go_wp2_with (first | ((with_reducible refine gate_callee (f := 110) rfl ?_); refine goesL_ (some 26) rfl rfl Try.func110 (by kernel_rfl) rfl #[.int .i64 a0] rfl (by (try simp only [List.map_toArray, List.map_cons, List.map_nil]); first | done | rfl | (simp only [List.length_drop, List.length_take]; rfl)) ?_; (with_reducible refine (fixed_size.calls a0 t193 _ A19.out).mono ?_); rintro e w' ⟨rfl, ⟨nd, rfl⟩⟩; refine ⟨_, rfl, ?_⟩) | ((with_reducible refine gate_callee (f := 110) rfl ?_); refine goesL_ (some 28) rfl rfl Try.func110 (by kernel_rfl) rfl #[.int .i64 a1] rfl (by (try simp only [List.map_toArray, List.map_cons, List.map_nil]); first | done | rfl | (simp only [List.length_drop, List.length_take]; rfl)) ?_; (with_reducible refine (fixed_size.calls a1 t194 _ A20.out).mono ?_); rintro e w' ⟨rfl, ⟨nd, rfl⟩⟩; refine ⟨_, rfl, ?_⟩) | ((with_reducible refine gate_callee (f := 142) rfl ?_); refine goesL_ (some 42) rfl rfl Try.func142 (by kernel_rfl) rfl #[.int .u64 (t193 / 4294967296), .int .u64 (IntKind.u64.wrap (t193 * 4294967296)), .int .u64 t194] rfl (by (try simp only [List.map_toArray, List.map_cons, List.map_nil]); first | done | rfl | (simp only [List.length_drop, List.length_take]; rfl)) ?_; (with_reducible refine (bits_Div64.calls k (t193 / 4294967296) (IntKind.u64.wrap (t193 * 4294967296)) t194 t196 t197 _ A23.out).mono ?_); rintro e w' ⟨rfl, ⟨nd, rfl⟩⟩; refine ⟨_, rfl, ?_⟩) | ((with_reducible refine gate_callee (f := 111) rfl ?_); refine goesL_ (some 54) rfl rfl Try.func111 (by kernel_rfl) rfl #[.int .u64 t196, .bool false, .bool false] rfl (by (try simp only [List.map_toArray, List.map_cons, List.map_nil]); first | done | rfl | (simp only [List.length_drop, List.length_take]; rfl)) ?_; (with_reducible refine (fixed_rounded.calls t196 false false t198 t199 _ A25.out).mono ?_); rintro e w' ⟨rfl, ⟨nd, rfl⟩⟩; refine ⟨_, rfl, ?_⟩) | ((with_reducible refine gate_callee (f := 112) rfl ?_); refine goesL_ (some 60) rfl rfl Try.func112 (by kernel_rfl) rfl #[.int .u64 t198, .bool t199, .bool true] rfl (by (try simp only [List.map_toArray, List.map_cons, List.map_nil]); first | done | rfl | (simp only [List.length_drop, List.length_take]; rfl)) ?_; (with_reducible refine (fixed_signed.calls k t198 t199 true t200 _ A26.out).mono ?_); rintro e w' ⟨rfl, ⟨nd, rfl⟩⟩; refine ⟨_, rfl, ?_⟩))
            go_ret
            exact ⟨by first | rfl | (simp; done) | (simp [*]; done), by repeat (first | exact Drawn0.refl _ | apply Drawn0.step)⟩
          · rw [if_neg c24] at H
            have c24b0 : (t197 == 0) = false := beq_eq_false_iff_ne.mpr c24
            have c24b1 : (t197 != 0) = true := bne_iff_ne.mpr c24
            replace H := Option.bind_eq_some_iff.mp H
            obtain ⟨t201, A270, H⟩ := H
            replace H : ((fixed_rounded.f t196 false t201).bind fun bt202 => ((fixed_signed.f k bt202.1 bt202.2 true).bind fun t204 => (some t204))) = some r := H
            have A27 := Aside0.mk A270
            clear A270
            replace H := Option.bind_eq_some_iff.mp H
            obtain ⟨⟨t202, t203⟩, A280, H⟩ := H
            replace H : ((fixed_signed.f k t202 t203 true).bind fun t204 => (some t204)) = some r := H
            have A28 := Aside0.mk A280
            clear A280
            replace H := Option.bind_eq_some_iff.mp H
            obtain ⟨t204, A290, H⟩ := H
            replace H : (some t204) = some r := H
            have A29 := Aside0.mk A290
            clear A290
            obtain rfl := Option.some.inj H
            go_enter Try.func123, Try.ntmps123
            go_wp2_with (first | ((with_reducible refine gate_callee (f := 110) rfl ?_); refine goesL_ (some 26) rfl rfl Try.func110 (by kernel_rfl) rfl #[.int .i64 a0] rfl (by (try simp only [List.map_toArray, List.map_cons, List.map_nil]); first | done | rfl | (simp only [List.length_drop, List.length_take]; rfl)) ?_; (with_reducible refine (fixed_size.calls a0 t193 _ A19.out).mono ?_); rintro e w' ⟨rfl, ⟨nd, rfl⟩⟩; refine ⟨_, rfl, ?_⟩) | ((with_reducible refine gate_callee (f := 110) rfl ?_); refine goesL_ (some 28) rfl rfl Try.func110 (by kernel_rfl) rfl #[.int .i64 a1] rfl (by (try simp only [List.map_toArray, List.map_cons, List.map_nil]); first | done | rfl | (simp only [List.length_drop, List.length_take]; rfl)) ?_; (with_reducible refine (fixed_size.calls a1 t194 _ A20.out).mono ?_); rintro e w' ⟨rfl, ⟨nd, rfl⟩⟩; refine ⟨_, rfl, ?_⟩) | ((with_reducible refine gate_callee (f := 142) rfl ?_); refine goesL_ (some 42) rfl rfl Try.func142 (by kernel_rfl) rfl #[.int .u64 (t193 / 4294967296), .int .u64 (IntKind.u64.wrap (t193 * 4294967296)), .int .u64 t194] rfl (by (try simp only [List.map_toArray, List.map_cons, List.map_nil]); first | done | rfl | (simp only [List.length_drop, List.length_take]; rfl)) ?_; (with_reducible refine (bits_Div64.calls k (t193 / 4294967296) (IntKind.u64.wrap (t193 * 4294967296)) t194 t196 t197 _ A23.out).mono ?_); rintro e w' ⟨rfl, ⟨nd, rfl⟩⟩; refine ⟨_, rfl, ?_⟩) | (go_at_call 124; refine calls_of_args (args' := #[.bool true]) (by first | rfl | rfl) ?_; (with_reducible refine (fixed_CeilDiv_1.calls true t201 _ A27.out).mono ?_); rintro e w' ⟨rfl, ⟨nd, rfl⟩⟩) | ((with_reducible refine gate_callee (f := 111) rfl ?_); refine goesL_ (some 54) rfl rfl Try.func111 (by kernel_rfl) rfl #[.int .u64 t196, .bool false, .bool t201] rfl (by (try simp only [List.map_toArray, List.map_cons, List.map_nil]); first | done | rfl | (simp only [List.length_drop, List.length_take]; rfl)) ?_; (with_reducible refine (fixed_rounded.calls t196 false t201 t202 t203 _ A28.out).mono ?_); rintro e w' ⟨rfl, ⟨nd, rfl⟩⟩; refine ⟨_, rfl, ?_⟩) | ((with_reducible refine gate_callee (f := 112) rfl ?_); refine goesL_ (some 60) rfl rfl Try.func112 (by kernel_rfl) rfl #[.int .u64 t202, .bool t203, .bool true] rfl (by (try simp only [List.map_toArray, List.map_cons, List.map_nil]); first | done | rfl | (simp only [List.length_drop, List.length_take]; rfl)) ?_; (with_reducible refine (fixed_signed.calls k t202 t203 true t204 _ A29.out).mono ?_); rintro e w' ⟨rfl, ⟨nd, rfl⟩⟩; refine ⟨_, rfl, ?_⟩))
            go_ret
            exact ⟨by first | rfl | (simp; done) | (simp [*]; done), by repeat (first | exact Drawn0.refl _ | apply Drawn0.step)⟩
    · rw [if_neg c6] at H
      have c6b0 : decide (a0 < 0) = false := decide_eq_false c6
      clear c6
      by_cases c30 : a1 < 0
      · rw [if_pos c30] at H
        have c30b0 : decide (a1 < 0) = true := decide_eq_true c30
        clear c30
        replace H := Option.bind_eq_some_iff.mp H
        obtain ⟨t205, A310, H⟩ := H
        replace H : ((fixed_size.f a1).bind fun t206 => (if (t205 / 4294967296) ≥ t206 then ((fixed_signed.f k 0 true true).bind fun t207 => (some t207)) else ((bits_Div64.f k (t205 / 4294967296) (IntKind.u64.wrap (t205 * 4294967296)) t206).bind fun bt208 => (if bt208.2 = 0 then ((fixed_rounded.f bt208.1 false false).bind fun bt210 => ((fixed_signed.f k bt210.1 bt210.2 true).bind fun t212 => (some t212))) else ((fixed_CeilDiv_1.f true).bind fun t213 => ((fixed_rounded.f bt208.1 false t213).bind fun bt214 => ((fixed_signed.f k bt214.1 bt214.2 true).bind fun t216 => (some t216)))))))) = some r := H
        have A31 := Aside0.mk A310
        clear A310
        replace H := Option.bind_eq_some_iff.mp H
        obtain ⟨t206, A320, H⟩ := H
        replace H : (if (t205 / 4294967296) ≥ t206 then ((fixed_signed.f k 0 true true).bind fun t207 => (some t207)) else ((bits_Div64.f k (t205 / 4294967296) (IntKind.u64.wrap (t205 * 4294967296)) t206).bind fun bt208 => (if bt208.2 = 0 then ((fixed_rounded.f bt208.1 false false).bind fun bt210 => ((fixed_signed.f k bt210.1 bt210.2 true).bind fun t212 => (some t212))) else ((fixed_CeilDiv_1.f true).bind fun t213 => ((fixed_rounded.f bt208.1 false t213).bind fun bt214 => ((fixed_signed.f k bt214.1 bt214.2 true).bind fun t216 => (some t216))))))) = some r := H
        have A32 := Aside0.mk A320
        clear A320
        by_cases c33 : (t205 / 4294967296) ≥ t206
        · rw [if_pos c33] at H
          have c33b0 : decide (t206 ≤ (t205 / 4294967296)) = true := decide_eq_true c33
          clear c33
          replace H := Option.bind_eq_some_iff.mp H
          obtain ⟨t207, A340, H⟩ := H
          replace H : (some t207) = some r := H
          have A34 := Aside0.mk A340
          clear A340
          obtain rfl := Option.some.inj H
          go_enter Try.func123, Try.ntmps123
          go_wp2_with (first | ((with_reducible refine gate_callee (f := 110) rfl ?_); refine goesL_ (some 26) rfl rfl Try.func110 (by kernel_rfl) rfl #[.int .i64 a0] rfl (by (try simp only [List.map_toArray, List.map_cons, List.map_nil]); first | done | rfl | (simp only [List.length_drop, List.length_take]; rfl)) ?_; (with_reducible refine (fixed_size.calls a0 t205 _ A31.out).mono ?_); rintro e w' ⟨rfl, ⟨nd, rfl⟩⟩; refine ⟨_, rfl, ?_⟩) | ((with_reducible refine gate_callee (f := 110) rfl ?_); refine goesL_ (some 28) rfl rfl Try.func110 (by kernel_rfl) rfl #[.int .i64 a1] rfl (by (try simp only [List.map_toArray, List.map_cons, List.map_nil]); first | done | rfl | (simp only [List.length_drop, List.length_take]; rfl)) ?_; (with_reducible refine (fixed_size.calls a1 t206 _ A32.out).mono ?_); rintro e w' ⟨rfl, ⟨nd, rfl⟩⟩; refine ⟨_, rfl, ?_⟩) | ((with_reducible refine gate_callee (f := 112) rfl ?_); refine goesL_ (some 37) rfl rfl Try.func112 (by kernel_rfl) rfl #[.int .u64 0, .bool true, .bool true] rfl (by (try simp only [List.map_toArray, List.map_cons, List.map_nil]); first | done | rfl | (simp only [List.length_drop, List.length_take]; rfl)) ?_; (with_reducible refine (fixed_signed.calls k 0 true true t207 _ A34.out).mono ?_); rintro e w' ⟨rfl, ⟨nd, rfl⟩⟩; refine ⟨_, rfl, ?_⟩))
          go_ret
          exact ⟨by first | rfl | (simp; done) | (simp [*]; done), by repeat (first | exact Drawn0.refl _ | apply Drawn0.step)⟩
        · rw [if_neg c33] at H
          have c33b0 : decide (t206 ≤ (t205 / 4294967296)) = false := decide_eq_false c33
          clear c33
          replace H := Option.bind_eq_some_iff.mp H
          obtain ⟨⟨t208, t209⟩, A350, H⟩ := H
          replace H : (if t209 = 0 then ((fixed_rounded.f t208 false false).bind fun bt210 => ((fixed_signed.f k bt210.1 bt210.2 true).bind fun t212 => (some t212))) else ((fixed_CeilDiv_1.f true).bind fun t213 => ((fixed_rounded.f t208 false t213).bind fun bt214 => ((fixed_signed.f k bt214.1 bt214.2 true).bind fun t216 => (some t216))))) = some r := H
          have A35 := Aside0.mk A350
          clear A350
          by_cases c36 : t209 = 0
          · rw [if_pos c36] at H
            have c36b0 : (t209 == 0) = true := beq_iff_eq.mpr c36
            have c36b1 : (t209 != 0) = false := bne_eq_false_iff_eq.mpr c36
            clear c36
            replace H := Option.bind_eq_some_iff.mp H
            obtain ⟨⟨t210, t211⟩, A370, H⟩ := H
            replace H : ((fixed_signed.f k t210 t211 true).bind fun t212 => (some t212)) = some r := H
            have A37 := Aside0.mk A370
            clear A370
            replace H := Option.bind_eq_some_iff.mp H
            obtain ⟨t212, A380, H⟩ := H
            replace H : (some t212) = some r := H
            have A38 := Aside0.mk A380
            clear A380
            obtain rfl := Option.some.inj H
            go_enter Try.func123, Try.ntmps123
            go_wp2_with (first | ((with_reducible refine gate_callee (f := 110) rfl ?_); refine goesL_ (some 26) rfl rfl Try.func110 (by kernel_rfl) rfl #[.int .i64 a0] rfl (by (try simp only [List.map_toArray, List.map_cons, List.map_nil]); first | done | rfl | (simp only [List.length_drop, List.length_take]; rfl)) ?_; (with_reducible refine (fixed_size.calls a0 t205 _ A31.out).mono ?_); rintro e w' ⟨rfl, ⟨nd, rfl⟩⟩; refine ⟨_, rfl, ?_⟩) | ((with_reducible refine gate_callee (f := 110) rfl ?_); refine goesL_ (some 28) rfl rfl Try.func110 (by kernel_rfl) rfl #[.int .i64 a1] rfl (by (try simp only [List.map_toArray, List.map_cons, List.map_nil]); first | done | rfl | (simp only [List.length_drop, List.length_take]; rfl)) ?_; (with_reducible refine (fixed_size.calls a1 t206 _ A32.out).mono ?_); rintro e w' ⟨rfl, ⟨nd, rfl⟩⟩; refine ⟨_, rfl, ?_⟩) | ((with_reducible refine gate_callee (f := 142) rfl ?_); refine goesL_ (some 42) rfl rfl Try.func142 (by kernel_rfl) rfl #[.int .u64 (t205 / 4294967296), .int .u64 (IntKind.u64.wrap (t205 * 4294967296)), .int .u64 t206] rfl (by (try simp only [List.map_toArray, List.map_cons, List.map_nil]); first | done | rfl | (simp only [List.length_drop, List.length_take]; rfl)) ?_; (with_reducible refine (bits_Div64.calls k (t205 / 4294967296) (IntKind.u64.wrap (t205 * 4294967296)) t206 t208 t209 _ A35.out).mono ?_); rintro e w' ⟨rfl, ⟨nd, rfl⟩⟩; refine ⟨_, rfl, ?_⟩) | ((with_reducible refine gate_callee (f := 111) rfl ?_); refine goesL_ (some 54) rfl rfl Try.func111 (by kernel_rfl) rfl #[.int .u64 t208, .bool false, .bool false] rfl (by (try simp only [List.map_toArray, List.map_cons, List.map_nil]); first | done | rfl | (simp only [List.length_drop, List.length_take]; rfl)) ?_; (with_reducible refine (fixed_rounded.calls t208 false false t210 t211 _ A37.out).mono ?_); rintro e w' ⟨rfl, ⟨nd, rfl⟩⟩; refine ⟨_, rfl, ?_⟩) | ((with_reducible refine gate_callee (f := 112) rfl ?_); refine goesL_ (some 60) rfl rfl Try.func112 (by kernel_rfl) rfl #[.int .u64 t210, .bool t211, .bool true] rfl (by (try simp only [List.map_toArray, List.map_cons, List.map_nil]); first | done | rfl | (simp only [List.length_drop, List.length_take]; rfl)) ?_; (with_reducible refine (fixed_signed.calls k t210 t211 true t212 _ A38.out).mono ?_); rintro e w' ⟨rfl, ⟨nd, rfl⟩⟩; refine ⟨_, rfl, ?_⟩))
            go_ret
            exact ⟨by first | rfl | (simp; done) | (simp [*]; done), by repeat (first | exact Drawn0.refl _ | apply Drawn0.step)⟩
          · rw [if_neg c36] at H
            have c36b0 : (t209 == 0) = false := beq_eq_false_iff_ne.mpr c36
            have c36b1 : (t209 != 0) = true := bne_iff_ne.mpr c36
            replace H := Option.bind_eq_some_iff.mp H
            obtain ⟨t213, A390, H⟩ := H
            replace H : ((fixed_rounded.f t208 false t213).bind fun bt214 => ((fixed_signed.f k bt214.1 bt214.2 true).bind fun t216 => (some t216))) = some r := H
            have A39 := Aside0.mk A390
            clear A390
            replace H := Option.bind_eq_some_iff.mp H
            obtain ⟨⟨t214, t215⟩, A400, H⟩ := H
            replace H : ((fixed_signed.f k t214 t215 true).bind fun t216 => (some t216)) = some r := H
            have A40 := Aside0.mk A400
            clear A400
            replace H := Option.bind_eq_some_iff.mp H
            obtain ⟨t216, A410, H⟩ := H
            replace H : (some t216) = some r := H
            have A41 := Aside0.mk A410
            clear A410
            obtain rfl := Option.some.inj H
            go_enter Try.func123, Try.ntmps123
            go_wp2_with (first | ((with_reducible refine gate_callee (f := 110) rfl ?_); refine goesL_ (some 26) rfl rfl Try.func110 (by kernel_rfl) rfl #[.int .i64 a0] rfl (by (try simp only [List.map_toArray, List.map_cons, List.map_nil]); first | done | rfl | (simp only [List.length_drop, List.length_take]; rfl)) ?_; (with_reducible refine (fixed_size.calls a0 t205 _ A31.out).mono ?_); rintro e w' ⟨rfl, ⟨nd, rfl⟩⟩; refine ⟨_, rfl, ?_⟩) | ((with_reducible refine gate_callee (f := 110) rfl ?_); refine goesL_ (some 28) rfl rfl Try.func110 (by kernel_rfl) rfl #[.int .i64 a1] rfl (by (try simp only [List.map_toArray, List.map_cons, List.map_nil]); first | done | rfl | (simp only [List.length_drop, List.length_take]; rfl)) ?_; (with_reducible refine (fixed_size.calls a1 t206 _ A32.out).mono ?_); rintro e w' ⟨rfl, ⟨nd, rfl⟩⟩; refine ⟨_, rfl, ?_⟩) | ((with_reducible refine gate_callee (f := 142) rfl ?_); refine goesL_ (some 42) rfl rfl Try.func142 (by kernel_rfl) rfl #[.int .u64 (t205 / 4294967296), .int .u64 (IntKind.u64.wrap (t205 * 4294967296)), .int .u64 t206] rfl (by (try simp only [List.map_toArray, List.map_cons, List.map_nil]); first | done | rfl | (simp only [List.length_drop, List.length_take]; rfl)) ?_; (with_reducible refine (bits_Div64.calls k (t205 / 4294967296) (IntKind.u64.wrap (t205 * 4294967296)) t206 t208 t209 _ A35.out).mono ?_); rintro e w' ⟨rfl, ⟨nd, rfl⟩⟩; refine ⟨_, rfl, ?_⟩) | (go_at_call 124; refine calls_of_args (args' := #[.bool true]) (by first | rfl | rfl) ?_; (with_reducible refine (fixed_CeilDiv_1.calls true t213 _ A39.out).mono ?_); rintro e w' ⟨rfl, ⟨nd, rfl⟩⟩) | ((with_reducible refine gate_callee (f := 111) rfl ?_); refine goesL_ (some 54) rfl rfl Try.func111 (by kernel_rfl) rfl #[.int .u64 t208, .bool false, .bool t213] rfl (by (try simp only [List.map_toArray, List.map_cons, List.map_nil]); first | done | rfl | (simp only [List.length_drop, List.length_take]; rfl)) ?_; (with_reducible refine (fixed_rounded.calls t208 false t213 t214 t215 _ A40.out).mono ?_); rintro e w' ⟨rfl, ⟨nd, rfl⟩⟩; refine ⟨_, rfl, ?_⟩) | ((with_reducible refine gate_callee (f := 112) rfl ?_); refine goesL_ (some 60) rfl rfl Try.func112 (by kernel_rfl) rfl #[.int .u64 t214, .bool t215, .bool true] rfl (by (try simp only [List.map_toArray, List.map_cons, List.map_nil]); first | done | rfl | (simp only [List.length_drop, List.length_take]; rfl)) ?_; (with_reducible refine (fixed_signed.calls k t214 t215 true t216 _ A41.out).mono ?_); rintro e w' ⟨rfl, ⟨nd, rfl⟩⟩; refine ⟨_, rfl, ?_⟩))
            go_ret
            exact ⟨by first | rfl | (simp; done) | (simp [*]; done), by repeat (first | exact Drawn0.refl _ | apply Drawn0.step)⟩
      · rw [if_neg c30] at H
        have c30b0 : decide (a1 < 0) = false := decide_eq_false c30
        clear c30
        replace H := Option.bind_eq_some_iff.mp H
        obtain ⟨t217, A420, H⟩ := H
        replace H : ((fixed_size.f a1).bind fun t218 => (if (t217 / 4294967296) ≥ t218 then ((fixed_signed.f k 0 true false).bind fun t219 => (some t219)) else ((bits_Div64.f k (t217 / 4294967296) (IntKind.u64.wrap (t217 * 4294967296)) t218).bind fun bt220 => (if bt220.2 = 0 then ((fixed_rounded.f bt220.1 false false).bind fun bt222 => ((fixed_signed.f k bt222.1 bt222.2 false).bind fun t224 => (some t224))) else ((fixed_CeilDiv_1.f false).bind fun t225 => ((fixed_rounded.f bt220.1 false t225).bind fun bt226 => ((fixed_signed.f k bt226.1 bt226.2 false).bind fun t228 => (some t228)))))))) = some r := H
        have A42 := Aside0.mk A420
        clear A420
        replace H := Option.bind_eq_some_iff.mp H
        obtain ⟨t218, A430, H⟩ := H
        replace H : (if (t217 / 4294967296) ≥ t218 then ((fixed_signed.f k 0 true false).bind fun t219 => (some t219)) else ((bits_Div64.f k (t217 / 4294967296) (IntKind.u64.wrap (t217 * 4294967296)) t218).bind fun bt220 => (if bt220.2 = 0 then ((fixed_rounded.f bt220.1 false false).bind fun bt222 => ((fixed_signed.f k bt222.1 bt222.2 false).bind fun t224 => (some t224))) else ((fixed_CeilDiv_1.f false).bind fun t225 => ((fixed_rounded.f bt220.1 false t225).bind fun bt226 => ((fixed_signed.f k bt226.1 bt226.2 false).bind fun t228 => (some t228))))))) = some r := H
        have A43 := Aside0.mk A430
        clear A430
        by_cases c44 : (t217 / 4294967296) ≥ t218
        · rw [if_pos c44] at H
          have c44b0 : decide (t218 ≤ (t217 / 4294967296)) = true := decide_eq_true c44
          clear c44
          replace H := Option.bind_eq_some_iff.mp H
          obtain ⟨t219, A450, H⟩ := H
          replace H : (some t219) = some r := H
          have A45 := Aside0.mk A450
          clear A450
          obtain rfl := Option.some.inj H
          go_enter Try.func123, Try.ntmps123
          go_wp2_with (first | ((with_reducible refine gate_callee (f := 110) rfl ?_); refine goesL_ (some 26) rfl rfl Try.func110 (by kernel_rfl) rfl #[.int .i64 a0] rfl (by (try simp only [List.map_toArray, List.map_cons, List.map_nil]); first | done | rfl | (simp only [List.length_drop, List.length_take]; rfl)) ?_; (with_reducible refine (fixed_size.calls a0 t217 _ A42.out).mono ?_); rintro e w' ⟨rfl, ⟨nd, rfl⟩⟩; refine ⟨_, rfl, ?_⟩) | ((with_reducible refine gate_callee (f := 110) rfl ?_); refine goesL_ (some 28) rfl rfl Try.func110 (by kernel_rfl) rfl #[.int .i64 a1] rfl (by (try simp only [List.map_toArray, List.map_cons, List.map_nil]); first | done | rfl | (simp only [List.length_drop, List.length_take]; rfl)) ?_; (with_reducible refine (fixed_size.calls a1 t218 _ A43.out).mono ?_); rintro e w' ⟨rfl, ⟨nd, rfl⟩⟩; refine ⟨_, rfl, ?_⟩) | ((with_reducible refine gate_callee (f := 112) rfl ?_); refine goesL_ (some 37) rfl rfl Try.func112 (by kernel_rfl) rfl #[.int .u64 0, .bool true, .bool false] rfl (by (try simp only [List.map_toArray, List.map_cons, List.map_nil]); first | done | rfl | (simp only [List.length_drop, List.length_take]; rfl)) ?_; (with_reducible refine (fixed_signed.calls k 0 true false t219 _ A45.out).mono ?_); rintro e w' ⟨rfl, ⟨nd, rfl⟩⟩; refine ⟨_, rfl, ?_⟩))
          go_ret
          exact ⟨by first | rfl | (simp; done) | (simp [*]; done), by repeat (first | exact Drawn0.refl _ | apply Drawn0.step)⟩
        · rw [if_neg c44] at H
          have c44b0 : decide (t218 ≤ (t217 / 4294967296)) = false := decide_eq_false c44
          clear c44
          replace H := Option.bind_eq_some_iff.mp H
          obtain ⟨⟨t220, t221⟩, A460, H⟩ := H
          replace H : (if t221 = 0 then ((fixed_rounded.f t220 false false).bind fun bt222 => ((fixed_signed.f k bt222.1 bt222.2 false).bind fun t224 => (some t224))) else ((fixed_CeilDiv_1.f false).bind fun t225 => ((fixed_rounded.f t220 false t225).bind fun bt226 => ((fixed_signed.f k bt226.1 bt226.2 false).bind fun t228 => (some t228))))) = some r := H
          have A46 := Aside0.mk A460
          clear A460
          by_cases c47 : t221 = 0
          · rw [if_pos c47] at H
            have c47b0 : (t221 == 0) = true := beq_iff_eq.mpr c47
            have c47b1 : (t221 != 0) = false := bne_eq_false_iff_eq.mpr c47
            clear c47
            replace H := Option.bind_eq_some_iff.mp H
            obtain ⟨⟨t222, t223⟩, A480, H⟩ := H
            replace H : ((fixed_signed.f k t222 t223 false).bind fun t224 => (some t224)) = some r := H
            have A48 := Aside0.mk A480
            clear A480
            replace H := Option.bind_eq_some_iff.mp H
            obtain ⟨t224, A490, H⟩ := H
            replace H : (some t224) = some r := H
            have A49 := Aside0.mk A490
            clear A490
            obtain rfl := Option.some.inj H
            go_enter Try.func123, Try.ntmps123
            go_wp2_with (first | ((with_reducible refine gate_callee (f := 110) rfl ?_); refine goesL_ (some 26) rfl rfl Try.func110 (by kernel_rfl) rfl #[.int .i64 a0] rfl (by (try simp only [List.map_toArray, List.map_cons, List.map_nil]); first | done | rfl | (simp only [List.length_drop, List.length_take]; rfl)) ?_; (with_reducible refine (fixed_size.calls a0 t217 _ A42.out).mono ?_); rintro e w' ⟨rfl, ⟨nd, rfl⟩⟩; refine ⟨_, rfl, ?_⟩) | ((with_reducible refine gate_callee (f := 110) rfl ?_); refine goesL_ (some 28) rfl rfl Try.func110 (by kernel_rfl) rfl #[.int .i64 a1] rfl (by (try simp only [List.map_toArray, List.map_cons, List.map_nil]); first | done | rfl | (simp only [List.length_drop, List.length_take]; rfl)) ?_; (with_reducible refine (fixed_size.calls a1 t218 _ A43.out).mono ?_); rintro e w' ⟨rfl, ⟨nd, rfl⟩⟩; refine ⟨_, rfl, ?_⟩) | ((with_reducible refine gate_callee (f := 142) rfl ?_); refine goesL_ (some 42) rfl rfl Try.func142 (by kernel_rfl) rfl #[.int .u64 (t217 / 4294967296), .int .u64 (IntKind.u64.wrap (t217 * 4294967296)), .int .u64 t218] rfl (by (try simp only [List.map_toArray, List.map_cons, List.map_nil]); first | done | rfl | (simp only [List.length_drop, List.length_take]; rfl)) ?_; (with_reducible refine (bits_Div64.calls k (t217 / 4294967296) (IntKind.u64.wrap (t217 * 4294967296)) t218 t220 t221 _ A46.out).mono ?_); rintro e w' ⟨rfl, ⟨nd, rfl⟩⟩; refine ⟨_, rfl, ?_⟩) | ((with_reducible refine gate_callee (f := 111) rfl ?_); refine goesL_ (some 54) rfl rfl Try.func111 (by kernel_rfl) rfl #[.int .u64 t220, .bool false, .bool false] rfl (by (try simp only [List.map_toArray, List.map_cons, List.map_nil]); first | done | rfl | (simp only [List.length_drop, List.length_take]; rfl)) ?_; (with_reducible refine (fixed_rounded.calls t220 false false t222 t223 _ A48.out).mono ?_); rintro e w' ⟨rfl, ⟨nd, rfl⟩⟩; refine ⟨_, rfl, ?_⟩) | ((with_reducible refine gate_callee (f := 112) rfl ?_); refine goesL_ (some 60) rfl rfl Try.func112 (by kernel_rfl) rfl #[.int .u64 t222, .bool t223, .bool false] rfl (by (try simp only [List.map_toArray, List.map_cons, List.map_nil]); first | done | rfl | (simp only [List.length_drop, List.length_take]; rfl)) ?_; (with_reducible refine (fixed_signed.calls k t222 t223 false t224 _ A49.out).mono ?_); rintro e w' ⟨rfl, ⟨nd, rfl⟩⟩; refine ⟨_, rfl, ?_⟩))
            go_ret
            exact ⟨by first | rfl | (simp; done) | (simp [*]; done), by repeat (first | exact Drawn0.refl _ | apply Drawn0.step)⟩
          · rw [if_neg c47] at H
            have c47b0 : (t221 == 0) = false := beq_eq_false_iff_ne.mpr c47
            have c47b1 : (t221 != 0) = true := bne_iff_ne.mpr c47
            replace H := Option.bind_eq_some_iff.mp H
            obtain ⟨t225, A500, H⟩ := H
            replace H : ((fixed_rounded.f t220 false t225).bind fun bt226 => ((fixed_signed.f k bt226.1 bt226.2 false).bind fun t228 => (some t228))) = some r := H
            have A50 := Aside0.mk A500
            clear A500
            replace H := Option.bind_eq_some_iff.mp H
            obtain ⟨⟨t226, t227⟩, A510, H⟩ := H
            replace H : ((fixed_signed.f k t226 t227 false).bind fun t228 => (some t228)) = some r := H
            have A51 := Aside0.mk A510
            clear A510
            replace H := Option.bind_eq_some_iff.mp H
            obtain ⟨t228, A520, H⟩ := H
            replace H : (some t228) = some r := H
            have A52 := Aside0.mk A520
            clear A520
            obtain rfl := Option.some.inj H
            go_enter Try.func123, Try.ntmps123
            go_wp2_with (first | ((with_reducible refine gate_callee (f := 110) rfl ?_); refine goesL_ (some 26) rfl rfl Try.func110 (by kernel_rfl) rfl #[.int .i64 a0] rfl (by (try simp only [List.map_toArray, List.map_cons, List.map_nil]); first | done | rfl | (simp only [List.length_drop, List.length_take]; rfl)) ?_; (with_reducible refine (fixed_size.calls a0 t217 _ A42.out).mono ?_); rintro e w' ⟨rfl, ⟨nd, rfl⟩⟩; refine ⟨_, rfl, ?_⟩) | ((with_reducible refine gate_callee (f := 110) rfl ?_); refine goesL_ (some 28) rfl rfl Try.func110 (by kernel_rfl) rfl #[.int .i64 a1] rfl (by (try simp only [List.map_toArray, List.map_cons, List.map_nil]); first | done | rfl | (simp only [List.length_drop, List.length_take]; rfl)) ?_; (with_reducible refine (fixed_size.calls a1 t218 _ A43.out).mono ?_); rintro e w' ⟨rfl, ⟨nd, rfl⟩⟩; refine ⟨_, rfl, ?_⟩) | ((with_reducible refine gate_callee (f := 142) rfl ?_); refine goesL_ (some 42) rfl rfl Try.func142 (by kernel_rfl) rfl #[.int .u64 (t217 / 4294967296), .int .u64 (IntKind.u64.wrap (t217 * 4294967296)), .int .u64 t218] rfl (by (try simp only [List.map_toArray, List.map_cons, List.map_nil]); first | done | rfl | (simp only [List.length_drop, List.length_take]; rfl)) ?_; (with_reducible refine (bits_Div64.calls k (t217 / 4294967296) (IntKind.u64.wrap (t217 * 4294967296)) t218 t220 t221 _ A46.out).mono ?_); rintro e w' ⟨rfl, ⟨nd, rfl⟩⟩; refine ⟨_, rfl, ?_⟩) | (go_at_call 124; refine calls_of_args (args' := #[.bool false]) (by first | rfl | rfl) ?_; (with_reducible refine (fixed_CeilDiv_1.calls false t225 _ A50.out).mono ?_); rintro e w' ⟨rfl, ⟨nd, rfl⟩⟩) | ((with_reducible refine gate_callee (f := 111) rfl ?_); refine goesL_ (some 54) rfl rfl Try.func111 (by kernel_rfl) rfl #[.int .u64 t220, .bool false, .bool t225] rfl (by (try simp only [List.map_toArray, List.map_cons, List.map_nil]); first | done | rfl | (simp only [List.length_drop, List.length_take]; rfl)) ?_; (with_reducible refine (fixed_rounded.calls t220 false t225 t226 t227 _ A51.out).mono ?_); rintro e w' ⟨rfl, ⟨nd, rfl⟩⟩; refine ⟨_, rfl, ?_⟩) | ((with_reducible refine gate_callee (f := 112) rfl ?_); refine goesL_ (some 60) rfl rfl Try.func112 (by kernel_rfl) rfl #[.int .u64 t226, .bool t227, .bool false] rfl (by (try simp only [List.map_toArray, List.map_cons, List.map_nil]); first | done | rfl | (simp only [List.length_drop, List.length_take]; rfl)) ?_; (with_reducible refine (fixed_signed.calls k t226 t227 false t228 _ A52.out).mono ?_); rintro e w' ⟨rfl, ⟨nd, rfl⟩⟩; refine ⟨_, rfl, ?_⟩))
            go_ret
            exact ⟨by first | rfl | (simp; done) | (simp [*]; done), by repeat (first | exact Drawn0.refl _ | apply Drawn0.step)⟩
def fixed_CeilDiv.f (k : Nat) (a0 : Int) (a1 : Int) : Option (Int) := (fixed_quotient_124.f k a0 a1).bind fun t229 => (some t229)
set_option maxHeartbeats 8000000 in
set_option maxRecDepth 100000 in
theorem fixed_CeilDiv.calls (k : Nat) (a0 : Int) (a1 : Int) (r : Int) (w : World) (h : fixed_CeilDiv.f k a0 a1 = some r) :
    Calls Try.prog 91 #[.int .i64 a0, .int .i64 a1] w fun e w' => e = .returned (.int .i64 r) ∧ Drawn0 w w' := by
  have H : ((fixed_quotient_124.f k a0 a1).bind fun t229 => (some t229)) = some r := h
  clear h
  replace H := Option.bind_eq_some_iff.mp H
  obtain ⟨t229, A30, H⟩ := H
  replace H : (some t229) = some r := H
  have A3 := Aside0.mk A30
  clear A30
  obtain rfl := Option.some.inj H
  go_enter Try.func91, Try.ntmps91
  go_wp2_with (first | ((with_reducible refine gate_callee (f := 123) rfl ?_); refine goesL_ (some 7) rfl rfl Try.func123 (by kernel_rfl) rfl #[.int .i64 a0, .int .i64 a1, .func (.func 124) #[] #[]] rfl (by (try simp only [List.map_toArray, List.map_cons, List.map_nil]); first | done | rfl | (simp only [List.length_drop, List.length_take]; rfl)) ?_; (with_reducible refine (fixed_quotient_124.calls k a0 a1  t229 _ A3.out).mono ?_); rintro e w' ⟨rfl, ⟨nd, rfl⟩⟩; refine ⟨_, rfl, ?_⟩))
  go_ret
  exact ⟨by first | rfl | (simp; done) | (simp [*]; done), by repeat (first | exact Drawn0.refl _ | apply Drawn0.step)⟩
def fixed_Of.f (a0 : Int) : Option (Int) := if a0 ≥ 2147483648 then (some 9223372036854775807) else (if a0 < (-2147483648) then (some (-9223372036854775808)) else (some (wrap64 (a0 * 4294967296))))
set_option maxHeartbeats 8000000 in
set_option maxRecDepth 100000 in
theorem fixed_Of.calls (a0 : Int) (r : Int) (w : World) (h : fixed_Of.f a0 = some r) :
    Calls Try.prog 69 #[.int .i64 a0] w fun e w' => e = .returned (.int .i64 r) ∧ Drawn0 w w' := by
  have H : (if a0 ≥ 2147483648 then (some 9223372036854775807) else (if a0 < (-2147483648) then (some (-9223372036854775808)) else (some (wrap64 (a0 * 4294967296))))) = some r := h
  clear h
  by_cases c2 : a0 ≥ 2147483648
  · rw [if_pos c2] at H
    have c2b0 : decide (2147483648 ≤ a0) = true := decide_eq_true c2
    clear c2
    obtain rfl := Option.some.inj H
    go_enter Try.func69, Try.ntmps69
    go_wp2
    go_ret
    exact ⟨by first | rfl | (simp; done) | (simp [*]; done), by repeat (first | exact Drawn0.refl _ | apply Drawn0.step)⟩
  · rw [if_neg c2] at H
    have c2b0 : decide (2147483648 ≤ a0) = false := decide_eq_false c2
    clear c2
    by_cases c3 : a0 < (-2147483648)
    · rw [if_pos c3] at H
      have c3b0 : decide (a0 < (-2147483648)) = true := decide_eq_true c3
      clear c3
      obtain rfl := Option.some.inj H
      go_enter Try.func69, Try.ntmps69
      go_wp2
      go_ret
      exact ⟨by first | rfl | (simp; done) | (simp [*]; done), by repeat (first | exact Drawn0.refl _ | apply Drawn0.step)⟩
    · rw [if_neg c3] at H
      have c3b0 : decide (a0 < (-2147483648)) = false := decide_eq_false c3
      clear c3
      obtain rfl := Option.some.inj H
      go_enter Try.func69, Try.ntmps69
      go_wp2
      go_ret
      exact ⟨by first | rfl | (simp; done) | (simp [*]; done), by repeat (first | exact Drawn0.refl _ | apply Drawn0.step)⟩
def fixed_Ceil.f (a0 : Int) : Option (Int) := if ((a0) % 4294967296) = 0 then (some (a0 / 4294967296)) else (some (wrap64 ((a0 / 4294967296) + 1)))
set_option maxHeartbeats 8000000 in
set_option maxRecDepth 100000 in
theorem fixed_Ceil.calls (a0 : Int) (r : Int) (w : World) (h : fixed_Ceil.f a0 = some r) :
    Calls Try.prog 90 #[.int .i64 a0] w fun e w' => e = .returned (.int .i64 r) ∧ Drawn0 w w' := by
  have H : (if ((a0) % 4294967296) = 0 then (some (a0 / 4294967296)) else (some (wrap64 ((a0 / 4294967296) + 1)))) = some r := h
  clear h
  by_cases c2 : ((a0) % 4294967296) = 0
  · rw [if_pos c2] at H
    have c2b0 : (((a0) % 4294967296) == 0) = true := beq_iff_eq.mpr c2
    have c2b1 : (((a0) % 4294967296) != 0) = false := bne_eq_false_iff_eq.mpr c2
    clear c2
    obtain rfl := Option.some.inj H
    go_enter Try.func90, Try.ntmps90
    go_wp2
    go_ret
    exact ⟨by first | rfl | (simp; done) | (simp [*]; done), by repeat (first | exact Drawn0.refl _ | apply Drawn0.step)⟩
  · rw [if_neg c2] at H
    have c2b0 : (((a0) % 4294967296) == 0) = false := beq_eq_false_iff_ne.mpr c2
    have c2b1 : (((a0) % 4294967296) != 0) = true := bne_iff_ne.mpr c2
    obtain rfl := Option.some.inj H
    go_enter Try.func90, Try.ntmps90
    go_wp2
    go_ret
    exact ⟨by first | rfl | (simp; done) | (simp [*]; done), by repeat (first | exact Drawn0.refl _ | apply Drawn0.step)⟩
def fixed_Clamp.f (a0 : Int) (a1 : Int) (a2 : Int) : Option (Int) := if a0 < a1 then (some a1) else (if a0 > a2 then (some a2) else (some a0))
set_option maxHeartbeats 8000000 in
set_option maxRecDepth 100000 in
theorem fixed_Clamp.calls (a0 : Int) (a1 : Int) (a2 : Int) (r : Int) (w : World) (h : fixed_Clamp.f a0 a1 a2 = some r) :
    Calls Try.prog 89 #[.int .i64 a0, .int .i64 a1, .int .i64 a2] w fun e w' => e = .returned (.int .i64 r) ∧ Drawn0 w w' := by
  have H : (if a0 < a1 then (some a1) else (if a0 > a2 then (some a2) else (some a0))) = some r := h
  clear h
  by_cases c4 : a0 < a1
  · rw [if_pos c4] at H
    have c4b0 : decide (a0 < a1) = true := decide_eq_true c4
    clear c4
    obtain rfl := Option.some.inj H
    go_enter Try.func89, Try.ntmps89
    go_wp2
    go_ret
    exact ⟨by first | rfl | (simp; done) | (simp [*]; done), by repeat (first | exact Drawn0.refl _ | apply Drawn0.step)⟩
  · rw [if_neg c4] at H
    have c4b0 : decide (a0 < a1) = false := decide_eq_false c4
    clear c4
    by_cases c5 : a0 > a2
    · rw [if_pos c5] at H
      have c5b0 : decide (a2 < a0) = true := decide_eq_true c5
      clear c5
      obtain rfl := Option.some.inj H
      go_enter Try.func89, Try.ntmps89
      go_wp2
      go_ret
      exact ⟨by first | rfl | (simp; done) | (simp [*]; done), by repeat (first | exact Drawn0.refl _ | apply Drawn0.step)⟩
    · rw [if_neg c5] at H
      have c5b0 : decide (a2 < a0) = false := decide_eq_false c5
      clear c5
      obtain rfl := Option.some.inj H
      go_enter Try.func89, Try.ntmps89
      go_wp2
      go_ret
      exact ⟨by first | rfl | (simp; done) | (simp [*]; done), by repeat (first | exact Drawn0.refl _ | apply Drawn0.step)⟩
end Go.Proofs.Ytemnfnbjapobcaa.Fix
end
section
namespace Go.Proofs.Ytemnfnbjapobcaa.FS
open Go.RowKit Go.Proofs.Ytemnfnbjapobcaa.Fix Go.Proofs.Ytemnfnbjapobcaa.FM Go.Proofs.YtemnfnbjapobcaaW.PrintWords Go.Proofs.YtemnfnbjapobcaaW.PrintLast Go.Proofs.YtemnfnbjapobcaaW.PrintMore
def In (x : Int) : Prop := -9223372036854775808 ≤ x ∧ x ≤ 9223372036854775807
theorem in_sat (z : Int) : In (sat z) := ⟨sat_ge z, sat_le z⟩
theorem add_eq {k : Nat} (hk : 400 ≤ k) {a b : Int} (ha : In a) (hb : In b) : fixed_Add.f k a b = some (sat (a + b)) := by
  obtain ⟨k, rfl⟩ : ∃ m, k = m + 1 := ⟨k - 1, by omega⟩
  obtain ⟨a0, a1⟩ := ha
  obtain ⟨b0, b1⟩ := hb
  unfold fixed_Add.f
  simp only [fixed_Add.j0]
  unfold wrap64 sat
  repeat' split
  all_goals first | (congr 1; omega) | (simp_all; done) | (simp_all; omega)
theorem sub_eq {k : Nat} (hk : 400 ≤ k) {a b : Int} (ha : In a) (hb : In b) : fixed_Sub.f k a b = some (sat (a - b)) := by
  obtain ⟨k, rfl⟩ : ∃ m, k = m + 1 := ⟨k - 1, by omega⟩
  obtain ⟨a0, a1⟩ := ha
  obtain ⟨b0, b1⟩ := hb
  unfold fixed_Sub.f
  simp only [fixed_Sub.j0]
  unfold wrap64 sat
  repeat' split
  all_goals first | (congr 1; omega) | (simp_all; done) | (simp_all; omega)
theorem of_eq {n : Int} (_hn : In n) : fixed_Of.f n = some (sat (n * 4294967296)) := by
  unfold fixed_Of.f wrap64 sat
  repeat' split
  all_goals first | rfl | (congr 1; omega) | omega
theorem ceil_eq {x : Int} (hx : In x) : fixed_Ceil.f x = some (-(-x / 4294967296)) := by
  obtain ⟨a0, a1⟩ := hx
  unfold fixed_Ceil.f wrap64
  repeat' split
  all_goals first | rfl | (congr 1; omega) | omega
theorem size_eq {a : Int} (ha : In a) : fixed_size.f a = some (sz a) := by
  obtain ⟨a0, a1⟩ := ha
  unfold fixed_size.f sz
  simp only [u64w]
  repeat' split
  all_goals (congr 1; omega)
theorem rounded_eq (m : Int) (h0 : 0 ≤ m) (more : Bool) : fixed_rounded.f (m % 18446744073709551616) (decide (18446744073709551616 ≤ m)) more =
    some ((m + if more then 1 else 0) % 18446744073709551616, decide (18446744073709551616 ≤ m + if more then 1 else 0)) := by
  unfold fixed_rounded.f
  simp only [u64w]
  cases more
  · simp
  · by_cases h : 18446744073709551616 ≤ m
    · simp only [if_true, h]
      have h2 : 18446744073709551616 ≤ m + 1 := by omega
      simp [h2]
    · simp only [if_true, decide_eq_false h]
      simp only [Bool.false_eq_true, if_false]
      congr 2
      · omega
      · rw [Bool.eq_iff_iff]; simp; omega
theorem signed_eq {k : Nat} (hk : 1 ≤ k) (m : Int) (h0 : 0 ≤ m) (below : Bool) : fixed_signed.f k (m % 18446744073709551616) (decide (18446744073709551616 ≤ m)) below = some (sat (if below then -m else m)) := by
  obtain ⟨k, rfl⟩ : ∃ q, k = q + 1 := ⟨k - 1, by omega⟩
  unfold fixed_signed.f
  simp only [fixed_signed.j0]
  unfold wrap64 sat
  cases below
  · by_cases h : 18446744073709551616 ≤ m
    · simp [h]
      repeat' split
      all_goals first | done | rfl | omega
    · simp [h]
      repeat' split
      all_goals first | rfl | (congr 1; omega) | omega | (simp; omega)
  · by_cases h : 18446744073709551616 ≤ m
    · simp [h]
      repeat' split
      all_goals first | done | rfl | omega
    · simp [h]
      repeat' split
      all_goals first | rfl | (congr 1; omega) | omega | (simp; omega)
theorem prod_bd {x y m : Int} (hx0 : 0 ≤ x) (hx : x ≤ m) (hy0 : 0 ≤ y) (hy : y ≤ m) : 0 ≤ x * y ∧ x * y ≤ m * m :=
  ⟨Int.mul_nonneg hx0 hy0, Int.mul_le_mul hx hy hy0 (by omega)⟩
theorem mul_parts (P : Int) (_h0 : 0 ≤ P) : Go.bits .or .u64 (IntKind.u64.wrap (P / 18446744073709551616 * 4294967296)) (P % 18446744073709551616 / 4294967296) = (P / 4294967296) % 18446744073709551616 := by
  rw [u64w, or_join _ _ (by omega) (by omega) (by omega) (by omega) (by omega)]
  omega
theorem mul_over (P : Int) (_h0 : 0 ≤ P) : ((P / 18446744073709551616 / 4294967296) != 0) = decide (18446744073709551616 ≤ P / 4294967296) := by
  rw [Bool.eq_iff_iff]; simp; omega
theorem mul_rest (P : Int) (_h0 : 0 ≤ P) : ((IntKind.u64.wrap (P % 18446744073709551616 * 4294967296)) != 0) = decide (P % 4294967296 ≠ 0) := by
  rw [u64w, Bool.eq_iff_iff]; simp; omega
theorem sz_mul {a b : Int} : a * b = if (decide (a < 0) != decide (b < 0)) then -(sz a * sz b) else sz a * sz b := by
  unfold sz
  by_cases h1 : a < 0 <;> by_cases h2 : b < 0 <;> simp [h1, h2, Int.neg_mul, Int.mul_neg]
theorem mul_floor (P : Int) (_h0 : 0 ≤ P) : -P / 4294967296 = -(P / 4294967296 + if P % 4294967296 ≠ 0 then 1 else 0) := by
  split <;> omega
theorem mul64_eq {a b : Int} (ha : In a) (hb : In b) : bits_Mul64.f (sz a) (sz b) = some (sz a * sz b / 18446744073709551616, sz a * sz b % 18446744073709551616) := by
  have a0 := sz_nonneg a
  have b0 := sz_nonneg b
  have a1 := sz_le ha.1 ha.2
  have b1 := sz_le hb.1 hb.2
  unfold bits_Mul64.f
  rw [if_pos ⟨a0, by omega, b0, by omega⟩]
theorem mul_eq {k : Nat} (hk : 400 ≤ k) {a b : Int} (ha : In a) (hb : In b) : fixed_Mul.f k a b = some (sat (a * b / 4294967296)) := by
  have hP := Int.mul_nonneg (sz_nonneg a) (sz_nonneg b)
  unfold fixed_Mul.f
  simp only [size_eq ha, size_eq hb, Option.bind_some, mul64_eq ha hb, mul_parts _ hP, mul_over _ hP, mul_rest _ hP]
  have q0 : 0 ≤ sz a * sz b / 4294967296 := by omega
  simp only [rounded_eq _ q0, Option.bind_some]
  have e := @sz_mul a b
  have hf := mul_floor (sz a * sz b) hP
  by_cases h1 : a < 0
  · by_cases h2 : b < 0
    · rw [if_pos h1, if_pos h2, signed_eq (by omega) _ (by omega)]
      simp [h1, h2] at e
      rw [e]; simp
    · rw [if_pos h1, if_neg h2, signed_eq (by omega) _ (by split <;> omega)]
      simp [h1, h2] at e
      rw [e, hf]; simp
  · by_cases h2 : b < 0
    · rw [if_neg h1, if_pos h2, signed_eq (by omega) _ (by split <;> omega)]
      simp [h1, h2] at e
      rw [e, hf]; simp
    · rw [if_neg h1, if_neg h2, signed_eq (by omega) _ (by omega)]
      simp [h1, h2] at e
      rw [e]; simp
end Go.Proofs.Ytemnfnbjapobcaa.FS
end
section
namespace Go.Proofs.Ytemnfnbjapobcaa.FS
open Go.RowKit Go.Proofs.Ytemnfnbjapobcaa.Fix Go.Proofs.Ytemnfnbjapobcaa.FM Go.Proofs.YtemnfnbjapobcaaW.PrintWords Go.Proofs.YtemnfnbjapobcaaW.PrintLast Go.Proofs.YtemnfnbjapobcaaW.PrintMore
structure Dig (y yn1 yn0 un32 un1 q r : Int) : Prop where
  hy : y = yn1 * 4294967296 + yn0
  hn1 : 2147483648 ≤ yn1
  hn1' : yn1 < 4294967296
  hn0 : 0 ≤ yn0
  hn0' : yn0 < 4294967296
  hu : 0 ≤ un32
  huy : un32 < y
  h1 : 0 ≤ un1
  h1' : un1 < 4294967296
  q0 : 0 ≤ q
  q1 : q ≤ 4294967297
  rr : q * yn1 + r = un32
  r0 : 0 ≤ r
  r1 : r < 4294967296
  up : un32 * 4294967296 + un1 < q * y + y
theorem Dig.qy {y yn1 yn0 un32 un1 q r : Int} (h : Dig y yn1 yn0 un32 un1 q r) : q * y = (un32 - r) * 4294967296 + q * yn0 := by
  have a := h.hy
  have b := h.rr
  rw [a]; grind
theorem Dig.ypos {y yn1 yn0 un32 un1 q r : Int} (h : Dig y yn1 yn0 un32 un1 q r) : 0 < y := by
  have a := h.hy; have b := h.hn1; have c := h.hn0; omega
theorem Dig.no {y yn1 yn0 un32 un1 q r : Int} (h : Dig y yn1 yn0 un32 un1 q r) (hc : q * yn0 ≤ 4294967296 * r + un1) : q = (un32 * 4294967296 + un1) / y := by
  have hq := h.qy
  have h1 : q ≤ (un32 * 4294967296 + un1) / y := (Int.le_ediv_iff_mul_le h.ypos).2 (by omega)
  have h2 : (un32 * 4294967296 + un1) / y < q + 1 := (Int.ediv_lt_iff_lt_mul h.ypos).2 (by
    have := h.up
    have e : (q + 1) * y = q * y + y := by grind
    omega)
  omega
theorem Dig.yes {y yn1 yn0 un32 un1 q r : Int} (h : Dig y yn1 yn0 un32 un1 q r) (hc : 4294967296 ≤ q ∨ 4294967296 * r + un1 < q * yn0) : un32 * 4294967296 + un1 < q * y ∧ 1 ≤ q := by
  have hy := h.ypos
  have a1 := h.huy; have a2 := h.h1'; have a3 := h.hu; have a4 := h.h1
  have key : un32 * 4294967296 + un1 < q * y := by
    rcases hc with hc | hc
    · have := Int.mul_le_mul_of_nonneg_right hc (Int.le_of_lt hy)
      omega
    · have hq := h.qy
      omega
  refine ⟨key, ?_⟩
  by_cases hz : q ≤ 0
  · have hq0 := h.q0
    obtain rfl : q = 0 := by omega
    omega
  · omega
theorem Dig.next {y yn1 yn0 un32 un1 q r : Int} (h : Dig y yn1 yn0 un32 un1 q r) (hc : 4294967296 ≤ q ∨ 4294967296 * r + un1 < q * yn0) (hr : r + yn1 < 4294967296) : Dig y yn1 yn0 un32 un1 (q - 1) (r + yn1) := by
  obtain ⟨k1, k2⟩ := h.yes hc
  have e1 : (q - 1) * y = q * y - y := by grind
  have e2 : (q - 1) * yn1 = q * yn1 - yn1 := by grind
  exact { h with q0 := by omega, q1 := by have := h.q1; omega, rr := by have := h.rr; omega, r0 := by have := h.r0; have := h.hn1; omega, r1 := hr, up := by omega }
theorem Dig.stop {y yn1 yn0 un32 un1 q r : Int} (h : Dig y yn1 yn0 un32 un1 q r) (hc : 4294967296 ≤ q ∨ 4294967296 * r + un1 < q * yn0) (hr : 4294967296 ≤ r + yn1) : q - 1 = (un32 * 4294967296 + un1) / y := by
  obtain ⟨k1, k2⟩ := h.yes hc
  have hq := h.qy
  have e1 : (q - 1) * y = q * y - y := by grind
  have e3 : (q - 1) * yn0 = q * yn0 - yn0 := by grind
  have hm : (q - 1) * yn0 ≤ 4294967296 * 4294967295 := Int.mul_le_mul (by have := h.q1; omega) (by have := h.hn0'; omega) h.hn0 (by decide)
  have a1 := h.hy; have a2 := h.h1
  have h1 : q - 1 ≤ (un32 * 4294967296 + un1) / y := (Int.le_ediv_iff_mul_le h.ypos).2 (by omega)
  have h2 : (un32 * 4294967296 + un1) / y < q := (Int.ediv_lt_iff_lt_mul h.ypos).2 (by omega)
  omega
theorem Dig.start {y yn1 yn0 un32 un1 : Int} (hy : y = yn1 * 4294967296 + yn0) (hn1 : 2147483648 ≤ yn1) (hn1' : yn1 < 4294967296) (hn0 : 0 ≤ yn0) (hn0' : yn0 < 4294967296) (hu : 0 ≤ un32) (huy : un32 < y) (h1 : 0 ≤ un1) (h1' : un1 < 4294967296) :
    Dig y yn1 yn0 un32 un1 (un32 / yn1) (un32 - un32 / yn1 * yn1) := by
  have hp : 0 < yn1 := by omega
  have d1 := Int.emod_add_mul_ediv un32 yn1
  have d2 := Int.emod_nonneg un32 (show yn1 ≠ 0 by omega)
  have d3 := Int.emod_lt_of_pos un32 hp
  have e0 : un32 / yn1 * yn1 = yn1 * (un32 / yn1) := Int.mul_comm _ _
  have q0 : 0 ≤ un32 / yn1 := Int.ediv_nonneg hu (by omega)
  have q1 : un32 / yn1 < 4294967298 := (Int.ediv_lt_iff_lt_mul hp).2 (by omega)
  refine ⟨hy, hn1, hn1', hn0, hn0', hu, huy, h1, h1', q0, by omega, by omega, by omega, by omega, ?_⟩
  have e1 : un32 / yn1 * y + y = (yn1 * (un32 / yn1) + yn1) * 4294967296 + (un32 / yn1 * yn0 + yn0) := by rw [hy]; grind
  have e2 : 0 ≤ un32 / yn1 * yn0 := Int.mul_nonneg q0 hn0
  omega
theorem Dig.prod {y yn1 yn0 un32 un1 q r : Int} (h : Dig y yn1 yn0 un32 un1 q r) (hq : q < 4294967296) : 0 ≤ q * yn0 ∧ q * yn0 < 18446744073709551616 := by
  have := prod_bd (m := 4294967295) h.q0 (by omega) h.hn0 (by have := h.hn0'; omega)
  omega
theorem l0_eq (y s yn1 yn0 un32 un1 un0 : Int) (n : Nat) : ∀ (k : Nat) (q r : Int), 2 * n + 2 ≤ k → Dig y yn1 yn0 un32 un1 q r → 4294967296 ≤ r + n * 2147483648 →
    ∃ k', k ≤ k' + 2 * n + 2 ∧ bits_Div64.l0 k y s yn1 yn0 un32 un1 un0 q r = bits_Div64.j2 k' y s yn1 yn0 un32 un1 un0 ((un32 * 4294967296 + un1) / y) := by
  induction n with
  | zero => intro k q r _ h hm; have := h.r1; omega
  | succ n ih =>
    intro k q r hk h hm
    obtain ⟨k, rfl⟩ : ∃ m, k = m + 2 := ⟨k - 2, by omega⟩
    have hr0 := h.r0; have hr1 := h.r1; have hq0 := h.q0; have hq1 := h.q1; have b1 := h.h1; have b2 := h.h1'; have b3 := h.hn1; have b4 := h.hn1'
    have w1 : IntKind.u64.wrap (r + yn1) = r + yn1 := by rw [u64w]; omega
    have goes : (4294967296 ≤ q ∨ 4294967296 * r + un1 < q * yn0) → ∃ k', k + 2 ≤ k' + 2 * (n + 1) + 2 ∧ bits_Div64.j1 (k + 1) y s yn1 yn0 un32 un1 un0 q r true = bits_Div64.j2 k' y s yn1 yn0 un32 un1 un0 ((un32 * 4294967296 + un1) / y) := by
      intro hc
      have hq2 := (h.yes hc).2
      have w2 : IntKind.u64.wrap (q - 1) = q - 1 := by rw [u64w]; omega
      simp only [bits_Div64.j1, if_true, w1, w2]
      by_cases hs : r + yn1 ≥ 4294967296
      · rw [if_pos hs, h.stop hc hs]
        exact ⟨k, by omega, rfl⟩
      · rw [if_neg hs]
        obtain ⟨k', hk', e⟩ := ih k (q - 1) (r + yn1) (by omega) (h.next hc (by omega)) (by omega)
        exact ⟨k', by omega, e⟩
    simp only [bits_Div64.l0]
    by_cases hb : q ≥ 4294967296
    · rw [if_pos hb]
      exact goes (.inl hb)
    · rw [if_neg hb]
      have hp := h.prod (by omega)
      have w3 : IntKind.u64.wrap (q * yn0) = q * yn0 := by rw [u64w]; omega
      have w4 : IntKind.u64.wrap (IntKind.u64.wrap (4294967296 * r) + un1) = 4294967296 * r + un1 := by simp only [u64w]; omega
      rw [w3, w4]
      by_cases hc : q * yn0 > 4294967296 * r + un1
      · rw [decide_eq_true hc]
        exact goes (.inr hc)
      · rw [decide_eq_false hc]
        simp only [bits_Div64.j1]
        rw [if_neg (by decide), ← h.no (by omega)]
        exact ⟨k, by omega, rfl⟩
theorem l1_eq (y s yn1 yn0 un0 q1 un21 : Int) (hs0 : 0 ≤ s) (n : Nat) : ∀ (k : Nat) (q r : Int), 2 * n + 2 ≤ k → Dig y yn1 yn0 un21 un0 q r → 4294967296 ≤ r + n * 2147483648 →
    bits_Div64.l1 k y s yn1 yn0 un0 q1 r un21 q = some (IntKind.u64.wrap ((IntKind.u64.wrap (q1 * 4294967296)) + (un21 * 4294967296 + un0) / y), shr .u64 (IntKind.u64.wrap ((IntKind.u64.wrap ((IntKind.u64.wrap (un21 * 4294967296)) + un0)) - (IntKind.u64.wrap ((un21 * 4294967296 + un0) / y * y)))) s) := by
  induction n with
  | zero => intro k q r _ h hm; have := h.r1; omega
  | succ n ih =>
    intro k q r hk h hm
    obtain ⟨k, rfl⟩ : ∃ m, k = m + 2 := ⟨k - 2, by omega⟩
    have hr0 := h.r0; have hr1 := h.r1; have hq0 := h.q0; have hq1 := h.q1; have b1 := h.h1; have b2 := h.h1'; have b3 := h.hn1; have b4 := h.hn1'
    have w1 : IntKind.u64.wrap (r + yn1) = r + yn1 := by rw [u64w]; omega
    have goes : (4294967296 ≤ q ∨ 4294967296 * r + un0 < q * yn0) → bits_Div64.j4 (k + 1) y s yn1 yn0 un0 q1 r un21 q true = some (IntKind.u64.wrap ((IntKind.u64.wrap (q1 * 4294967296)) + (un21 * 4294967296 + un0) / y), shr .u64 (IntKind.u64.wrap ((IntKind.u64.wrap ((IntKind.u64.wrap (un21 * 4294967296)) + un0)) - (IntKind.u64.wrap ((un21 * 4294967296 + un0) / y * y)))) s) := by
      intro hc
      have hq2 := (h.yes hc).2
      have w2 : IntKind.u64.wrap (q - 1) = q - 1 := by rw [u64w]; omega
      simp only [bits_Div64.j4, if_true, w1, w2]
      by_cases hs : r + yn1 ≥ 4294967296
      · rw [if_pos hs, if_pos hs0, h.stop hc hs]
      · rw [if_neg hs]
        exact ih k (q - 1) (r + yn1) (by omega) (h.next hc (by omega)) (by omega)
    simp only [bits_Div64.l1]
    by_cases hb : q ≥ 4294967296
    · rw [if_pos hb]
      exact goes (.inl hb)
    · rw [if_neg hb]
      have hp := h.prod (by omega)
      have w3 : IntKind.u64.wrap (q * yn0) = q * yn0 := by rw [u64w]; omega
      have w4 : IntKind.u64.wrap (IntKind.u64.wrap (4294967296 * r) + un0) = 4294967296 * r + un0 := by simp only [u64w]; omega
      rw [w3, w4]
      by_cases hc : q * yn0 > 4294967296 * r + un0
      · rw [decide_eq_true hc]
        exact goes (.inr hc)
      · rw [decide_eq_false hc]
        simp only [bits_Div64.j4]
        rw [if_neg (by decide), if_pos hs0, ← h.no (by omega)]
theorem bitLenAux_le (f x : Nat) : Lib.bitLenAux f x ≤ f := by
  induction f generalizing x with
  | zero => exact Nat.le_refl _
  | succ f ih =>
    unfold Lib.bitLenAux
    split
    · omega
    · have := ih (x / 2); omega
theorem bitLenAux_spec (f : Nat) : ∀ x : Nat, x ≠ 0 → x < 2 ^ f → 1 ≤ Lib.bitLenAux f x ∧ 2 ^ (Lib.bitLenAux f x - 1) ≤ x ∧ x < 2 ^ Lib.bitLenAux f x := by
  induction f with
  | zero => intro x h0 h1; simp at h1; omega
  | succ f ih =>
    intro x h0 h1
    unfold Lib.bitLenAux
    rw [if_neg h0]
    by_cases hz : x / 2 = 0
    · have e : Lib.bitLenAux f (x / 2) = 0 := by rw [hz]; cases f <;> simp [Lib.bitLenAux]
      rw [e]
      refine ⟨by omega, ?_, ?_⟩
      · simp; omega
      · simp; omega
    · obtain ⟨g0, g1, g2⟩ := ih (x / 2) hz (by rw [Nat.pow_succ] at h1; omega)
      refine ⟨by omega, ?_, ?_⟩
      · rw [show 1 + Lib.bitLenAux f (x / 2) - 1 = (Lib.bitLenAux f (x / 2) - 1) + 1 by omega, Nat.pow_succ]; omega
      · rw [show 1 + Lib.bitLenAux f (x / 2) = Lib.bitLenAux f (x / 2) + 1 by omega, Nat.pow_succ]; omega
theorem norm (y : Int) (h0 : 0 < y) (h1 : y < 18446744073709551616) :
    ∃ s : Nat, s ≤ 63 ∧ (64 - (Lib.bitLen y.toNat : Int)) = s ∧ 9223372036854775808 ≤ y * 2 ^ s ∧ y * 2 ^ s < 18446744073709551616 := by
  obtain ⟨n, rfl⟩ := Int.eq_ofNat_of_zero_le (Int.le_of_lt h0)
  have hn0 : n ≠ 0 := by omega
  obtain ⟨g0, g1, g2⟩ := bitLenAux_spec 64 n hn0 (by omega)
  have g3 := bitLenAux_le 64 n
  have hb : Lib.bitLen (n : Int).toNat = Lib.bitLenAux 64 n := rfl
  rw [hb]
  generalize Lib.bitLenAux 64 n = L at *
  refine ⟨64 - L, by omega, by omega, ?_, ?_⟩
  · have e : 2 ^ (L - 1) * 2 ^ (64 - L) = 9223372036854775808 := by
      rw [← Nat.pow_add, show L - 1 + (64 - L) = 63 by omega]
    have := Nat.mul_le_mul_right (2 ^ (64 - L)) g1
    rw [e] at this
    have z : ((n * 2 ^ (64 - L) : Nat) : Int) = (n : Int) * 2 ^ (64 - L) := by simp
    rw [← z]
    omega
  · have e : 2 ^ L * 2 ^ (64 - L) = 18446744073709551616 := by
      rw [← Nat.pow_add, show L + (64 - L) = 64 by omega]
    have := Nat.mul_lt_mul_of_pos_right g2 (Nat.two_pow_pos (64 - L))
    rw [e] at this
    have z : ((n * 2 ^ (64 - L) : Nat) : Int) = (n : Int) * 2 ^ (64 - L) := by simp
    rw [← z]
    omega
theorem shl_eq (x : Int) (s : Nat) (hs : s ≤ 64) : shl .u64 x s = (x * 2 ^ s) % 18446744073709551616 := by
  unfold shl
  rw [u64w]
  have e : min (s : Int).toNat IntKind.u64.bits = s := by show min s 64 = s; omega
  rw [e]
theorem shr_eq (x : Int) (s : Nat) (hs : s ≤ 64) : shr .u64 x s = x / 2 ^ s := by
  unfold shr
  have e : min (s : Int).toNat IntKind.u64.bits = s := by show min s 64 = s; omega
  rw [e]
theorem div64_eq {k : Nat} (hk : 20 ≤ k) {hi lo y : Int} (h0 : 0 ≤ hi) (hy : hi < y) (hy1 : y < 18446744073709551616) (l0 : 0 ≤ lo) (l1 : lo < 18446744073709551616) :
    bits_Div64.f k hi lo y = some ((hi * 18446744073709551616 + lo) / y, (hi * 18446744073709551616 + lo) % y) := by
  unfold bits_Div64.f
  rw [if_neg (by omega), if_neg (by omega)]
  by_cases hz : hi = 0
  · rw [if_pos hz]
    subst hz
    have e1 : lo.tdiv y = lo / y := Int.tdiv_eq_ediv_of_nonneg l0
    have e2 : lo.tmod y = lo % y := Int.tmod_eq_emod_of_nonneg l0
    rw [e1, e2, u64w]
    have d1 := Int.ediv_nonneg l0 (show 0 ≤ y by omega)
    have d2 := Int.ediv_le_self y l0
    rw [Int.emod_eq_of_lt d1 (by omega)]
    simp
  rw [if_neg hz]
  obtain ⟨s, hs, es, n1, n2⟩ := norm y (by omega) hy1
  unfold bits_LeadingZeros64.f
  rw [if_pos (by omega), if_pos (by omega), es]
  simp only [Option.bind_some]
  have ws : IntKind.u64.wrap (s : Int) = s := by rw [u64w]; omega
  have ws2 : IntKind.u64.wrap (64 - (s : Int)) = ((64 - s : Nat) : Int) := by rw [u64w]; omega
  rw [ws, ws2, if_pos (by omega), if_pos (by omega)]
  simp only [shl_eq _ s (by omega), shr_eq _ (64 - s) (by omega)]
  obtain ⟨p, hp⟩ : ∃ p : Int, (2 : Int) ^ s = p := ⟨_, rfl⟩
  obtain ⟨p', hp'⟩ : ∃ p' : Int, (2 : Int) ^ (64 - s) = p' := ⟨_, rfl⟩
  have hpp : p * p' = 18446744073709551616 := by
    rw [← hp, ← hp', ← Int.pow_add, show s + (64 - s) = 64 by omega]
    decide
  have hp0 : 0 < p := by rw [← hp]; exact Int.pow_pos (by decide)
  have hp0' : 0 < p' := by rw [← hp']; exact Int.pow_pos (by decide)
  rw [hp] at n1 n2
  rw [hp, hp']
  have hyn : y * p % 18446744073709551616 = y * p := Int.emod_eq_of_lt (by omega) n2
  have hhi : hi * p % 18446744073709551616 = hi * p := by
    have := Int.mul_lt_mul_of_pos_right hy hp0
    exact Int.emod_eq_of_lt (Int.mul_nonneg h0 (by omega)) (by omega)
  rw [hyn, hhi]
  have l2 := Int.emod_add_mul_ediv lo p'
  have l3 := Int.emod_nonneg lo (show p' ≠ 0 by omega)
  have l4 := Int.emod_lt_of_pos lo hp0'
  have l5 : lo / p' < p := (Int.ediv_lt_iff_lt_mul hp0').2 (by omega)
  have l6 : 0 ≤ lo / p' := Int.ediv_nonneg l0 (by omega)
  have l7 : lo * p = (lo / p') * 18446744073709551616 + lo % p' * p := by
    have : lo * p = (lo % p' + p' * (lo / p')) * p := by rw [l2]
    rw [this, ← hpp]; grind
  have l8 : lo % p' * p < 18446744073709551616 := by
    have := Int.mul_lt_mul_of_pos_right l4 hp0
    rw [Int.mul_comm p' p, hpp] at this
    exact this
  have l9 : 0 ≤ lo % p' * p := Int.mul_nonneg l3 (by omega)
  have l10 : lo * p % 18446744073709551616 = lo % p' * p := by omega
  have h1 : hi * p + p ≤ y * p := by
    have := Int.mul_le_mul_of_nonneg_right (show hi + 1 ≤ y by omega) (show 0 ≤ p by omega)
    have e : (hi + 1) * p = hi * p + p := by grind
    omega
  have h2 : 0 ≤ hi * p := Int.mul_nonneg h0 (by omega)
  have hor : Go.bits .or .u64 (hi * p) (lo / p') = hi * p + lo / p' := by
    refine bits_join .u64 64 (by decide) wraps_u64 s _ _ h2 ?_ (by omega) l6 (by rw [hp]; exact l5) (by omega)
    rw [hp]; exact Int.mul_emod_left _ _
  rw [hor, l10]
  have hT : (hi * 18446744073709551616 + lo) * p = (hi * p + lo / p') * 18446744073709551616 + lo % p' * p := by
    have : (hi * 18446744073709551616 + lo) * p = hi * p * 18446744073709551616 + lo * p := by grind
    rw [this, l7]; grind
  have eq1 : (hi * 18446744073709551616 + lo) / y = (hi * 18446744073709551616 + lo) * p / (y * p) := (Int.mul_ediv_mul_of_pos_left _ _ hp0).symm
  have eq2 : (hi * 18446744073709551616 + lo) % y = (hi * 18446744073709551616 + lo) * p % (y * p) / p := by
    rw [Int.mul_comm _ p, Int.mul_comm y p, Int.mul_emod_mul_of_pos _ _ hp0, Int.mul_ediv_cancel_left _ (by omega)]
  rw [eq1, eq2, hT]
  have hup : hi * p + lo / p' < y * p := by omega
  have hun : 0 ≤ hi * p + lo / p' := by omega
  generalize hi * p + lo / p' = u at *
  generalize lo % p' * p = v at *
  generalize y * p = yn at *
  clear eq1 eq2 hT h1 h2 hor l2 l3 l4 l5 l6 l7 l10 hhi hyn
  rw [and_low yn (by omega) n2, and_low v l9 l8]
  rw [if_neg (by omega)]
  obtain ⟨y1, hy1⟩ : ∃ x, yn / 4294967296 = x := ⟨_, rfl⟩
  obtain ⟨y0, hy0⟩ : ∃ x, yn % 4294967296 = x := ⟨_, rfl⟩
  obtain ⟨v1, hv1⟩ : ∃ x, v / 4294967296 = x := ⟨_, rfl⟩
  obtain ⟨v0, hv0⟩ : ∃ x, v % 4294967296 = x := ⟨_, rfl⟩
  rw [hy1, hy0, hv1, hv0]
  have S := Dig.start (y := yn) (yn1 := y1) (yn0 := y0) (un32 := u) (un1 := v1) (by omega) (by omega) (by omega) (by omega) (by omega) hun hup (by omega) (by omega)
  have t1 : u.tdiv y1 = u / y1 := Int.tdiv_eq_ediv_of_nonneg hun
  have hS0 := S.q0; have hS1 := S.q1; have hSr := S.rr; have hSr0 := S.r0; have hSr1 := S.r1
  have t2 : IntKind.u64.wrap (u / y1) = u / y1 := by rw [u64w]; omega
  have t3 : IntKind.u64.wrap (u - IntKind.u64.wrap (u / y1 * y1)) = u - u / y1 * y1 := by simp only [u64w]; omega
  rw [t1, t2, t3]
  obtain ⟨k', hk', e⟩ := l0_eq yn s y1 y0 u v1 v0 2 k _ _ (by omega) S (by omega)
  rw [e]
  obtain ⟨k', rfl⟩ : ∃ m, k' = m + 1 := ⟨k' - 1, by omega⟩
  simp only [bits_Div64.j2]
  rw [if_neg (by omega)]
  have hyp : 0 < yn := by omega
  have c1 := Int.emod_add_mul_ediv (u * 4294967296 + v1) yn
  have c2 := Int.emod_nonneg (u * 4294967296 + v1) (show yn ≠ 0 by omega)
  have c3 := Int.emod_lt_of_pos (u * 4294967296 + v1) hyp
  have c4 : (u * 4294967296 + v1) / yn < 4294967296 := (Int.ediv_lt_iff_lt_mul hyp).2 (by omega)
  have c5 : 0 ≤ (u * 4294967296 + v1) / yn := Int.ediv_nonneg (by omega) (by omega)
  have c6 : (u * 4294967296 + v1) / yn * yn = yn * ((u * 4294967296 + v1) / yn) := Int.mul_comm _ _
  obtain ⟨q1, hq1⟩ : ∃ x, (u * 4294967296 + v1) / yn = x := ⟨_, rfl⟩
  obtain ⟨r1, hr1⟩ : ∃ x, (u * 4294967296 + v1) % yn = x := ⟨_, rfl⟩
  rw [hq1] at c1 c4 c5 c6 ⊢
  rw [hr1] at c1 c2 c3
  rw [c6]
  have w21 : IntKind.u64.wrap (IntKind.u64.wrap (IntKind.u64.wrap (u * 4294967296) + v1) - IntKind.u64.wrap (yn * q1)) = r1 := by simp only [u64w]; omega
  rw [w21]
  have S2 := Dig.start (y := yn) (yn1 := y1) (yn0 := y0) (un32 := r1) (un1 := v0) (by omega) (by omega) (by omega) (by omega) (by omega) c2 c3 (by omega) (by omega)
  have t4 : r1.tdiv y1 = r1 / y1 := Int.tdiv_eq_ediv_of_nonneg c2
  have hZ0 := S2.q0; have hZ1 := S2.q1; have hZr := S2.rr; have hZr0 := S2.r0; have hZr1 := S2.r1
  have t5 : IntKind.u64.wrap (r1 / y1) = r1 / y1 := by rw [u64w]; omega
  have t6 : IntKind.u64.wrap (r1 - IntKind.u64.wrap (r1 / y1 * y1)) = r1 - r1 / y1 * y1 := by simp only [u64w]; omega
  rw [t4, t5, t6, l1_eq yn s y1 y0 v0 q1 r1 (by omega) 2 k' _ _ (by omega) S2 (by omega), shr_eq _ s (by omega), hp]
  have f1 := Int.emod_add_mul_ediv (r1 * 4294967296 + v0) yn
  have f2 := Int.emod_nonneg (r1 * 4294967296 + v0) (show yn ≠ 0 by omega)
  have f3 := Int.emod_lt_of_pos (r1 * 4294967296 + v0) hyp
  have f4 : (r1 * 4294967296 + v0) / yn < 4294967296 := (Int.ediv_lt_iff_lt_mul hyp).2 (by omega)
  have f5 : 0 ≤ (r1 * 4294967296 + v0) / yn := Int.ediv_nonneg (by omega) (by omega)
  have f6 : (r1 * 4294967296 + v0) / yn * yn = yn * ((r1 * 4294967296 + v0) / yn) := Int.mul_comm _ _
  obtain ⟨q0, hq0⟩ : ∃ x, (r1 * 4294967296 + v0) / yn = x := ⟨_, rfl⟩
  obtain ⟨r0, hr0⟩ : ∃ x, (r1 * 4294967296 + v0) % yn = x := ⟨_, rfl⟩
  rw [hq0] at f1 f4 f5 f6 ⊢
  rw [hr0] at f1 f2 f3
  rw [f6]
  have w22 : IntKind.u64.wrap (IntKind.u64.wrap (IntKind.u64.wrap (r1 * 4294967296) + v0) - IntKind.u64.wrap (yn * q0)) = r0 := by simp only [u64w]; omega
  have w23 : IntKind.u64.wrap (IntKind.u64.wrap (q1 * 4294967296) + q0) = q1 * 4294967296 + q0 := by simp only [u64w]; omega
  rw [w22, w23]
  have fin := (Int.ediv_emod_unique (a := u * 18446744073709551616 + v) (b := yn) (r := r0) (q := q1 * 4294967296 + q0) hyp).2 ⟨by
    have e1 : yn * (q1 * 4294967296 + q0) = yn * q1 * 4294967296 + yn * q0 := by grind
    rw [e1]; omega, f2, f3⟩
  rw [fin.1, fin.2]
end Go.Proofs.Ytemnfnbjapobcaa.FS
end
section
namespace Go.Proofs.Ytemnfnbjapobcaa.FS
open Go.RowKit Go.Proofs.Ytemnfnbjapobcaa.Fix Go.Proofs.Ytemnfnbjapobcaa.FM Go.Proofs.YtemnfnbjapobcaaW.PrintWords Go.Proofs.YtemnfnbjapobcaaW.PrintLast Go.Proofs.YtemnfnbjapobcaaW.PrintMore
def edgeS (a : Int) : Int := if a > 0 then 9223372036854775807 else if a < 0 then -9223372036854775808 else 0
def quoS (up : Bool → Bool) (a b : Int) : Int :=
  if b = 0 then edgeS a else
    sat (if (decide (a < 0) != decide (b < 0)) then -(sz a * 4294967296 / sz b + (if (sz a * 4294967296 % sz b != 0 && up true) then 1 else 0))
      else sz a * 4294967296 / sz b + (if (sz a * 4294967296 % sz b != 0 && up false) then 1 else 0))
def divS (a b : Int) : Int := quoS id a b
def cdivS (a b : Int) : Int := quoS not a b
theorem edge_eq (a : Int) : fixed_edge.f a = some (edgeS a) := by unfold fixed_edge.f edgeS; split; rfl; split <;> rfl
theorem sz_pos {b : Int} (h : b ≠ 0) : 0 < sz b := by unfold sz; split <;> omega
theorem signed_big {k : Nat} (hk : 1 ≤ k) (m : Int) (h : 18446744073709551616 ≤ m) (below : Bool) : fixed_signed.f k 0 true below = some (sat (if below then -m else m)) := by
  obtain ⟨k, rfl⟩ : ∃ q, k = q + 1 := ⟨k - 1, by omega⟩
  unfold fixed_signed.f
  simp only [fixed_signed.j0]
  cases below
  · simp [sat_hi (show 9223372036854775807 ≤ m by omega)]
  · simp [sat_lo (show -m ≤ -9223372036854775808 by omega)]
theorem way_eq {k : Nat} (hk : 400 ≤ k) {a b : Int} (ha : In a) (hb : In b) (hz : b ≠ 0) (below : Bool) :
    (if sz a / 4294967296 ≥ sz b then fixed_signed.f k 0 true below = some (sat (if below then -(sz a * 4294967296 / sz b) else sz a * 4294967296 / sz b)) ∧ 18446744073709551616 ≤ sz a * 4294967296 / sz b
     else bits_Div64.f k (sz a / 4294967296) (IntKind.u64.wrap (sz a * 4294967296)) (sz b) = some (sz a * 4294967296 / sz b, sz a * 4294967296 % sz b) ∧ 0 ≤ sz a * 4294967296 / sz b ∧ sz a * 4294967296 / sz b < 18446744073709551616) := by
  have a0 := sz_nonneg a
  have b0 := sz_pos hz
  have a1 := sz_le ha.1 ha.2
  have b1 := sz_le hb.1 hb.2
  generalize sz a = n at *
  generalize sz b = d at *
  split
  · rename_i h
    have : 18446744073709551616 ≤ n * 4294967296 / d := (Int.le_ediv_iff_mul_le b0).2 (by omega)
    exact ⟨signed_big (by omega) _ this below, this⟩
  · rename_i h
    have e : n / 4294967296 * 18446744073709551616 + IntKind.u64.wrap (n * 4294967296) = n * 4294967296 := by rw [u64w]; omega
    have h1 := div64_eq (k := k) (by omega) (hi := n / 4294967296) (lo := IntKind.u64.wrap (n * 4294967296)) (y := d) (by omega) (by omega) (by omega) (by rw [u64w]; omega) (by rw [u64w]; omega)
    rw [e] at h1
    exact ⟨h1, Int.ediv_nonneg (by omega) (by omega), (Int.ediv_lt_iff_lt_mul b0).2 (by omega)⟩
theorem rounded_small (q : Int) (h0 : 0 ≤ q) (h1 : q < 18446744073709551616) (more : Bool) : fixed_rounded.f q false more =
    some ((q + if more then 1 else 0) % 18446744073709551616, decide (18446744073709551616 ≤ q + if more then 1 else 0)) := by
  have h := rounded_eq q h0 more
  rw [Int.emod_eq_of_lt h0 h1, decide_eq_false (by omega)] at h
  exact h
theorem div_eq {k : Nat} (hk : 400 ≤ k) {a b : Int} (ha : In a) (hb : In b) : fixed_Div.f k a b = some (divS a b) := by
  unfold fixed_Div.f fixed_quotient_134.f divS quoS
  by_cases hz : b = 0
  · rw [if_pos hz, if_pos hz, edge_eq]; rfl
  rw [if_neg hz, if_neg hz]
  simp only [size_eq ha, size_eq hb, Option.bind_some, fixed_Div_1.f]
  have W := fun below => way_eq hk ha hb hz below
  have b0 := sz_pos hz
  have r0 := Int.emod_nonneg (sz a * 4294967296) (show sz b ≠ 0 by omega)
  by_cases hbig : sz a / 4294967296 ≥ sz b
  · simp only [if_pos hbig] at W ⊢
    have W1 := W true
    have W2 := W false
    have sat1 : ∀ m : Int, 18446744073709551616 ≤ m → ∀ c : Bool, sat (-(m + if c then 1 else 0)) = sat (-m) := by
      intro m hm c; rw [sat_lo (show -m ≤ _ by omega), sat_lo (by split <;> omega)]
    by_cases h1 : a < 0 <;> by_cases h2 : b < 0 <;> simp [h1, h2, W1.1, W2.1]
    all_goals (have := sat1 _ W1.2 (sz a * 4294967296 % sz b != 0); simp at this; rw [this])
  · simp only [if_neg hbig] at W ⊢
    obtain ⟨W1, W2, W3⟩ := W true
    simp only [W1, Option.bind_some]
    by_cases hr : sz a * 4294967296 % sz b = 0
    · simp only [if_pos hr, rounded_small _ W2 W3, Option.bind_some]
      have q0 : 0 ≤ sz a * 4294967296 / sz b + if false = true then 1 else 0 := by simpa using W2
      simp only [signed_eq (show 1 ≤ k by omega) _ q0]
      by_cases h1 : a < 0 <;> by_cases h2 : b < 0 <;> simp [h1, h2, hr]
    · simp only [if_neg hr, rounded_small _ W2 W3, Option.bind_some]
      have q0 : ∀ c : Bool, 0 ≤ sz a * 4294967296 / sz b + if c = true then 1 else 0 := by intro c; split <;> omega
      have z1 := fun c => signed_eq (k := k) (by omega) _ (q0 true) c
      have z2 := fun c => signed_eq (k := k) (by omega) _ (q0 false) c
      simp only [if_true, Bool.false_eq_true, if_false, Int.add_zero] at z1 z2
      by_cases h1 : a < 0 <;> by_cases h2 : b < 0 <;> simp [h1, h2, hr, z1, z2]
theorem cdiv_eq {k : Nat} (hk : 400 ≤ k) {a b : Int} (ha : In a) (hb : In b) : fixed_CeilDiv.f k a b = some (cdivS a b) := by
  unfold fixed_CeilDiv.f fixed_quotient_124.f cdivS quoS
  by_cases hz : b = 0
  · rw [if_pos hz, if_pos hz, edge_eq]; rfl
  rw [if_neg hz, if_neg hz]
  simp only [size_eq ha, size_eq hb, Option.bind_some, fixed_CeilDiv_1.f]
  have W := fun below => way_eq hk ha hb hz below
  have b0 := sz_pos hz
  have r0 := Int.emod_nonneg (sz a * 4294967296) (show sz b ≠ 0 by omega)
  by_cases hbig : sz a / 4294967296 ≥ sz b
  · simp only [if_pos hbig] at W ⊢
    have W1 := W true
    have W2 := W false
    have sat1 : ∀ m : Int, 18446744073709551616 ≤ m → ∀ c : Bool, sat (m + if c then 1 else 0) = sat m := by
      intro m hm c; rw [sat_hi (show _ ≤ m by omega), sat_hi (by split <;> omega)]
    by_cases h1 : a < 0 <;> by_cases h2 : b < 0 <;> simp [h1, h2, W1.1, W2.1]
    all_goals (have := sat1 _ W1.2 (sz a * 4294967296 % sz b != 0); simp at this; rw [this])
  · simp only [if_neg hbig] at W ⊢
    obtain ⟨W1, W2, W3⟩ := W true
    simp only [W1, Option.bind_some]
    by_cases hr : sz a * 4294967296 % sz b = 0
    · simp only [if_pos hr, rounded_small _ W2 W3, Option.bind_some]
      have q0 : 0 ≤ sz a * 4294967296 / sz b + if false = true then 1 else 0 := by simpa using W2
      simp only [signed_eq (show 1 ≤ k by omega) _ q0]
      by_cases h1 : a < 0 <;> by_cases h2 : b < 0 <;> simp [h1, h2, hr]
    · simp only [if_neg hr, rounded_small _ W2 W3, Option.bind_some]
      have q0 : ∀ c : Bool, 0 ≤ sz a * 4294967296 / sz b + if c = true then 1 else 0 := by intro c; split <;> omega
      have z1 := fun c => signed_eq (k := k) (by omega) _ (q0 true) c
      have z2 := fun c => signed_eq (k := k) (by omega) _ (q0 false) c
      simp only [if_true, Bool.false_eq_true, if_false, Int.add_zero] at z1 z2
      by_cases h1 : a < 0 <;> by_cases h2 : b < 0 <;> simp [h1, h2, hr, z1, z2]
theorem in_lit {x : Int} (h : decide (-9223372036854775808 ≤ x) = true) (h' : decide (x ≤ 9223372036854775807) = true) : In x := ⟨of_decide_eq_true h, of_decide_eq_true h'⟩
theorem in_divS (a b : Int) : In (divS a b) := by
  unfold divS quoS
  split
  · unfold edgeS; split
    · exact in_lit rfl rfl
    · split
      · exact in_lit rfl rfl
      · exact in_lit rfl rfl
  · exact in_sat _
theorem in_cdivS (a b : Int) : In (cdivS a b) := by
  unfold cdivS quoS
  split
  · unfold edgeS; split
    · exact in_lit rfl rfl
    · split
      · exact in_lit rfl rfl
      · exact in_lit rfl rfl
  · exact in_sat _
end Go.Proofs.Ytemnfnbjapobcaa.FS
end
