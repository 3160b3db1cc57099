-- Laid together by wip/shake.py out of: Fixx9 FixSpec FixDiv FixOver
import Derived.Test.YtemnfnbjapobcaaPolicyDecidesm6
set_option maxHeartbeats 8000000
set_option maxRecDepth 100000
set_option linter.unusedVariables false
set_option linter.unusedSimpArgs false
namespace Go.Proofs
open Go.RowKit
theorem zlc {P : Prop} (h : P := by repeat (first | (with_reducible first | exact HB.out | apply zaq | apply zaj | apply zaU | refine zaS ?_ GE338.out) | exact HB.out)) : P := h
theorem zlb {P : Prop} (h : P := by repeat (first | (with_reducible first | exact HB.out | apply zaq | apply zaj | apply zaU | refine zaS ?_ GE314.out) | exact HB.out)) : P := h
theorem zla {P : Prop} (h : P := by repeat (first | (with_reducible first | exact HB.out | apply zaq | apply zaj | apply zaU | refine zaS ?_ GE296.out) | exact HB.out)) : P := h
theorem zkZ {P : Prop} (h : P := by repeat (first | (with_reducible first | exact HB.out | apply zaq | apply zaj | apply zaU | refine zaS ?_ GE286.out) | exact HB.out)) : P := h
end Go.Proofs
section
namespace Go.Proofs.Ytemnfnbjapobcaa.Fix
open Go.RowKit Go.Proofs.ZW.PrintWords Go.Proofs.ZW.PrintLast Go.Proofs.ZW.PrintMore
attribute [local go_sem] zcx zcw zcO zcN zco zcn zcJ zcI
def zdN.f (k : Nat) (a0 : Int) (a1 : Int) : Option (Int) := if a1 = 0 then ((zcc.f a0).bind fun t273 => (some t273)) else (if a0 < 0 then (if a1 < 0 then ((zap.f a0).bind fun t274 => ((zap.f a1).bind fun t275 => ((zau.f k t274 t275).bind fun bt276 => ((zag.f k false bt276.1 bt276.2.1).bind fun t280 => (some t280))))) else ((zap.f a0).bind fun t281 => ((zap.f a1).bind fun t282 => ((zau.f k t281 t282).bind fun bt283 => (if bt283.2.2 = true then ((zaD.f bt283.1 bt283.2.1).bind fun bt287 => ((zag.f k true bt287.1 bt287.2).bind fun t289 => (some t289))) else ((zag.f k true bt283.1 bt283.2.1).bind fun t290 => (some t290))))))) else (if a1 < 0 then ((zap.f a0).bind fun t291 => ((zap.f a1).bind fun t292 => ((zau.f k t291 t292).bind fun bt293 => (if bt293.2.2 = true then ((zaD.f bt293.1 bt293.2.1).bind fun bt297 => ((zag.f k true bt297.1 bt297.2).bind fun t299 => (some t299))) else ((zag.f k true bt293.1 bt293.2.1).bind fun t300 => (some t300)))))) else ((zap.f a0).bind fun t301 => ((zap.f a1).bind fun t302 => ((zau.f k t301 t302).bind fun bt303 => ((zag.f k false bt303.1 bt303.2.1).bind fun t307 => (some t307)))))))
theorem zdN.calls (k : Nat) (a0 : Int) (a1 : Int) (r : Int) (w : World) (h : zdN.f k a0 a1 = some r) :
  Calls Try.prog 65 #[.int .i64 a0, .int .i64 a1] w fun e w' => e = .returned (.int .i64 r) ∧ Below w.heap.size w w' := by
 have hu136 := Try.underlying136; have HB := zaa.mk (Below.refl w.heap.size w); have H : (if a1 = 0 then ((zcc.f a0).bind fun t273 => (some t273)) else (if a0 < 0 then (if a1 < 0 then ((zap.f a0).bind fun t274 => ((zap.f a1).bind fun t275 => ((zau.f k t274 t275).bind fun bt276 => ((zag.f k false bt276.1 bt276.2.1).bind fun t280 => (some t280))))) else ((zap.f a0).bind fun t281 => ((zap.f a1).bind fun t282 => ((zau.f k t281 t282).bind fun bt283 => (if bt283.2.2 = true then ((zaD.f bt283.1 bt283.2.1).bind fun bt287 => ((zag.f k true bt287.1 bt287.2).bind fun t289 => (some t289))) else ((zag.f k true bt283.1 bt283.2.1).bind fun t290 => (some t290))))))) else (if a1 < 0 then ((zap.f a0).bind fun t291 => ((zap.f a1).bind fun t292 => ((zau.f k t291 t292).bind fun bt293 => (if bt293.2.2 = true then ((zaD.f bt293.1 bt293.2.1).bind fun bt297 => ((zag.f k true bt297.1 bt297.2).bind fun t299 => (some t299))) else ((zag.f k true bt293.1 bt293.2.1).bind fun t300 => (some t300)))))) else ((zap.f a0).bind fun t301 => ((zap.f a1).bind fun t302 => ((zau.f k t301 t302).bind fun bt303 => ((zag.f k false bt303.1 bt303.2.1).bind fun t307 => (some t307)))))))) = some r := h; clear h; by_cases c3 : a1 = 0
 · rw [if_pos c3] at H; have c3b0 : (a1 == 0) = true := beq_iff_eq.mpr c3; have c3b1 : (a1 != 0) = false := bne_eq_false_iff_eq.mpr c3; clear c3; replace H := zob H; obtain ⟨t273, A40, H⟩ := H; replace H : (some t273) = some r := H; have A4 := zaa.mk A40; clear A40; obtain rfl := zoi H; go_enter Try.func65, Try.ntmps65
   go_wp2_with (first | ((with_reducible refine zaf (f := 104) rfl ?_); refine zat (some 11) rfl rfl Try.func104 zq6 rfl #[.int .i64 a0] rfl zq1 ?_; (with_reducible refine (zcc.calls a0 t273 _ A4.out).mono ?_); rintro e w' ⟨rfl, ⟨nd, rfl⟩⟩; refine ⟨_, rfl, ?_⟩))
   go_ret; exact ⟨zq4, zq0⟩
 rw [if_neg c3] at H; have c3b0 : (a1 == 0) = false := beq_eq_false_iff_ne.mpr c3; have c3b1 : (a1 != 0) = true := bne_iff_ne.mpr c3; by_cases c5 : a0 < 0
 · rw [if_pos c5] at H; have c5b0 := zdt c5; clear c5; by_cases c6 : a1 < 0
   · rw [if_pos c6] at H; have c6b0 := zdt c6; clear c6; replace H := zob H; obtain ⟨t274, A70, H⟩ := H; replace H : ((zap.f a1).bind fun t275 => ((zau.f k t274 t275).bind fun bt276 => ((zag.f k false bt276.1 bt276.2.1).bind fun t280 => (some t280)))) = some r := H; have A7 := zaa.mk A70; clear A70; replace H := zob H; obtain ⟨t275, A80, H⟩ := H; replace H : ((zau.f k t274 t275).bind fun bt276 => ((zag.f k false bt276.1 bt276.2.1).bind fun t280 => (some t280))) = some r := H; have A8 := zaa.mk A80; clear A80; replace H := zob H; obtain ⟨⟨t276, t277, t278⟩, A90, H⟩ := H; replace H : ((zag.f k false t276 t277).bind fun t280 => (some t280)) = some r := H; have A9 := zaa.mk A90; clear A90; replace H := zob H; obtain ⟨t280, A100, H⟩ := H; replace H : (some t280) = some r := H; have A10 := zaa.mk A100; clear A100; obtain rfl := zoi H; go_enter Try.func65, Try.ntmps65
     go_wp2_with (first | ((with_reducible refine zaf (f := 106) rfl ?_); refine zat (some 19) rfl rfl Try.func106 zq6 rfl #[.int .i64 a0] rfl zq1 ?_; (with_reducible refine (zap.calls a0 t274 _ A7.out).mono ?_); rintro e w' ⟨rfl, ⟨nd, rfl⟩⟩; refine ⟨_, rfl, ?_⟩) | ((with_reducible refine zaf (f := 106) rfl ?_); refine zat (some 21) rfl rfl Try.func106 zq6 rfl #[.int .i64 a1] rfl zq1 ?_; (with_reducible refine (zap.calls a1 t275 _ A8.out).mono ?_); rintro e w' ⟨rfl, ⟨nd, rfl⟩⟩; refine ⟨_, rfl, ?_⟩) | ((with_reducible refine zaf (f := 105) rfl ?_); refine zat (some 22) rfl rfl Try.func105 zq6 rfl #[.int .u64 t274, .int .u64 t275] rfl zq1 ?_; (with_reducible refine (zau.calls k t274 t275 t276 t277 t278 _ A9.out).mono ?_); rintro e w11 ⟨rfl, hb⟩; refine ⟨_, rfl, ?_⟩; have n0_ := zaa.mk (zan zq0 hb); clear HB; have HB := n0_; clear n0_; (try clear hb); (try clear hb2); (try clear hk); (try clear hi)) | ((with_reducible refine zaK (N := 6) rfl ?_); refine zaJ ?hg (N := 6) ?hd (cs := #[.int .u64 0, .int .u64 0]) (t := 136) ?hr ?_; (case hd => rfl); (case hg => rfl); (case hr => first | (go_simp; done) | (go_simp; rfl)); intro gb279 hg w12 hbox hb; have n0_ := zaa.mk (zan zq0 hb); have n1_ := zaa.mk (hbox); have n2_ := zaa.mk ((by rw [hg]; exact (zao zq0) : w.heap.size ≤ gb279)); have n3_ := zaa.mk ((by rw [hg]; exact (zao zq0) : w.heap.size ≤ gb279)); clear HB; have HB := n0_; have BK279 := n1_; have GW279 := n2_; have GE279 := n3_; clear n0_ n1_ n2_ n3_; clear hb hbox hg; have hcz13_0 : w12.cell? ⟨gb279, 0, none⟩ = some (.int .u64 0) := (zab BK279.out 0).trans rfl; have hcz13_1 : w12.cell? ⟨gb279, 1, none⟩ = some (.int .u64 0) := (zab BK279.out 1).trans rfl; have hfz13_0 := zac BK279.out 0; have hfz13_1 := zac BK279.out 1) | ((with_reducible refine zaf (f := 108) rfl ?_); refine zat (some 33) rfl rfl Try.func108 zq6 rfl #[.bool false, .agg #[.int .u64 t276, .int .u64 t277]] rfl zq1 ?_; (with_reducible refine (zag.calls k false t276 t277 t280 _ A10.out).mono ?_); rintro e w14 ⟨rfl, hb⟩; refine ⟨_, rfl, ?_⟩; have n0_ := zaa.mk (zax (g := gb279) (o := .cells #[.int .u64 t276, .int .u64 t277] 136 (0, 0)) (by (with_reducible repeat (first | refine zal ?_ _ | refine zam ?_ | refine zai ?_ _)); refine zaA (cs := #[.int .u64 t276, .int .u64 0]) ?_ 1 _ rfl; (with_reducible repeat (first | refine zal ?_ _ | refine zam ?_ | refine zai ?_ _)); refine zaA (cs := #[.int .u64 0, .int .u64 0]) ?_ 0 _ rfl; (with_reducible repeat (first | refine zal ?_ _ | refine zam ?_ | refine zai ?_ _)); exact BK279.out) hb); have n1_ := zaa.mk (zan (by repeat (first | (with_reducible first | exact HB.out | apply zaq | apply zaj | apply zaU | refine zaS ?_ GE279.out) | exact HB.out)) hb); clear BK279; clear HB; have BK279 := n0_; have HB := n1_; clear n0_ n1_; (try clear hb); (try clear hb2); (try clear hk); (try clear hi)))
     go_ret; exact ⟨zq4, by repeat (first | (with_reducible first | exact HB.out | apply zaq | apply zaj | apply zaU | refine zaS ?_ GE279.out) | exact HB.out)⟩
   rw [if_neg c6] at H; have c6b0 := zdf c6; clear c6; replace H := zob H; obtain ⟨t281, A150, H⟩ := H; replace H : ((zap.f a1).bind fun t282 => ((zau.f k t281 t282).bind fun bt283 => (if bt283.2.2 = true then ((zaD.f bt283.1 bt283.2.1).bind fun bt287 => ((zag.f k true bt287.1 bt287.2).bind fun t289 => (some t289))) else ((zag.f k true bt283.1 bt283.2.1).bind fun t290 => (some t290))))) = some r := H; have A15 := zaa.mk A150; clear A150; replace H := zob H; obtain ⟨t282, A160, H⟩ := H; replace H : ((zau.f k t281 t282).bind fun bt283 => (if bt283.2.2 = true then ((zaD.f bt283.1 bt283.2.1).bind fun bt287 => ((zag.f k true bt287.1 bt287.2).bind fun t289 => (some t289))) else ((zag.f k true bt283.1 bt283.2.1).bind fun t290 => (some t290)))) = some r := H; have A16 := zaa.mk A160; clear A160; replace H := zob H; obtain ⟨⟨t283, t284, t285⟩, A170, H⟩ := H; replace H : (if t285 = true then ((zaD.f t283 t284).bind fun bt287 => ((zag.f k true bt287.1 bt287.2).bind fun t289 => (some t289))) else ((zag.f k true t283 t284).bind fun t290 => (some t290))) = some r := H; have A17 := zaa.mk A170; clear A170; by_cases c18 : t285 = true; rotate_left
   · replace c18 := Bool.eq_false_iff.mpr c18; subst c18; have H1 : ((zag.f k true t283 t284).bind fun t290 => (some t290)) = some r := by rw [if_neg (show ¬ (false = true) by decide)] at H; exact H
     clear H; have H := H1; clear H1; replace H := zob H; obtain ⟨t290, A270, H⟩ := H; replace H : (some t290) = some r := H; have A27 := zaa.mk A270; clear A270; obtain rfl := zoi H; go_enter Try.func65, Try.ntmps65
     go_wp2_with (first | ((with_reducible refine zaf (f := 106) rfl ?_); refine zat (some 19) rfl rfl Try.func106 zq6 rfl #[.int .i64 a0] rfl zq1 ?_; (with_reducible refine (zap.calls a0 t281 _ A15.out).mono ?_); rintro e w' ⟨rfl, ⟨nd, rfl⟩⟩; refine ⟨_, rfl, ?_⟩) | ((with_reducible refine zaf (f := 106) rfl ?_); refine zat (some 21) rfl rfl Try.func106 zq6 rfl #[.int .i64 a1] rfl zq1 ?_; (with_reducible refine (zap.calls a1 t282 _ A16.out).mono ?_); rintro e w' ⟨rfl, ⟨nd, rfl⟩⟩; refine ⟨_, rfl, ?_⟩) | ((with_reducible refine zaf (f := 105) rfl ?_); refine zat (some 22) rfl rfl Try.func105 zq6 rfl #[.int .u64 t281, .int .u64 t282] rfl zq1 ?_; (with_reducible refine (zau.calls k t281 t282 t283 t284 false _ A17.out).mono ?_); rintro e w28 ⟨rfl, hb⟩; refine ⟨_, rfl, ?_⟩; have n0_ := zaa.mk (zan zq0 hb); clear HB; have HB := n0_; clear n0_; (try clear hb); (try clear hb2); (try clear hk); (try clear hi)) | ((with_reducible refine zaK (N := 6) rfl ?_); refine zaJ ?hg (N := 6) ?hd (cs := #[.int .u64 0, .int .u64 0]) (t := 136) ?hr ?_; (case hd => rfl); (case hg => rfl); (case hr => first | (go_simp; done) | (go_simp; rfl)); intro gb286 hg w29 hbox hb; have n0_ := zaa.mk (zan zq0 hb); have n1_ := zaa.mk (hbox); have n2_ := zaa.mk ((by rw [hg]; exact (zao zq0) : w.heap.size ≤ gb286)); have n3_ := zaa.mk ((by rw [hg]; exact (zao zq0) : w.heap.size ≤ gb286)); clear HB; have HB := n0_; have BK286 := n1_; have GW286 := n2_; have GE286 := n3_; clear n0_ n1_ n2_ n3_; clear hb hbox hg; have hcz30_0 : w29.cell? ⟨gb286, 0, none⟩ = some (.int .u64 0) := (zab BK286.out 0).trans rfl; have hcz30_1 : w29.cell? ⟨gb286, 1, none⟩ = some (.int .u64 0) := (zab BK286.out 1).trans rfl; have hfz30_0 := zac BK286.out 0; have hfz30_1 := zac BK286.out 1) | ((with_reducible refine zaf (f := 108) rfl ?_); refine zat (some 33) rfl rfl Try.func108 zq6 rfl #[.bool true, .agg #[.int .u64 t283, .int .u64 t284]] rfl zq1 ?_; (with_reducible refine (zag.calls k true t283 t284 t290 _ A27.out).mono ?_); rintro e w31 ⟨rfl, hb⟩; refine ⟨_, rfl, ?_⟩; have n0_ := zaa.mk (zax (g := gb286) (o := .cells #[.int .u64 t283, .int .u64 t284] 136 (0, 0)) (by (with_reducible repeat (first | refine zal ?_ _ | refine zam ?_ | refine zai ?_ _)); refine zaA (cs := #[.int .u64 t283, .int .u64 0]) ?_ 1 _ rfl; (with_reducible repeat (first | refine zal ?_ _ | refine zam ?_ | refine zai ?_ _)); refine zaA (cs := #[.int .u64 0, .int .u64 0]) ?_ 0 _ rfl; (with_reducible repeat (first | refine zal ?_ _ | refine zam ?_ | refine zai ?_ _)); exact BK286.out) hb); have n1_ := zaa.mk (zan zkZ hb); clear BK286; clear HB; have BK286 := n0_; have HB := n1_; clear n0_ n1_; (try clear hb); (try clear hb2); (try clear hk); (try clear hi)))
     go_ret; exact ⟨zq4, zkZ⟩
   subst c18; have H1 : ((zaD.f t283 t284).bind fun bt287 => ((zag.f k true bt287.1 bt287.2).bind fun t289 => (some t289))) = some r := by rw [if_pos rfl] at H; exact H
   clear H; have H := H1; clear H1; replace H := zob H; obtain ⟨⟨t287, t288⟩, A190, H⟩ := H; replace H : ((zag.f k true t287 t288).bind fun t289 => (some t289)) = some r := H; have A19 := zaa.mk A190; clear A190; replace H := zob H; obtain ⟨t289, A200, H⟩ := H; replace H : (some t289) = some r := H; have A20 := zaa.mk A200; clear A200; obtain rfl := zoi H; go_enter Try.func65, Try.ntmps65
   go_wp2_with (first | ((with_reducible refine zaf (f := 106) rfl ?_); refine zat (some 19) rfl rfl Try.func106 zq6 rfl #[.int .i64 a0] rfl zq1 ?_; (with_reducible refine (zap.calls a0 t281 _ A15.out).mono ?_); rintro e w' ⟨rfl, ⟨nd, rfl⟩⟩; refine ⟨_, rfl, ?_⟩) | ((with_reducible refine zaf (f := 106) rfl ?_); refine zat (some 21) rfl rfl Try.func106 zq6 rfl #[.int .i64 a1] rfl zq1 ?_; (with_reducible refine (zap.calls a1 t282 _ A16.out).mono ?_); rintro e w' ⟨rfl, ⟨nd, rfl⟩⟩; refine ⟨_, rfl, ?_⟩) | ((with_reducible refine zaf (f := 105) rfl ?_); refine zat (some 22) rfl rfl Try.func105 zq6 rfl #[.int .u64 t281, .int .u64 t282] rfl zq1 ?_; (with_reducible refine (zau.calls k t281 t282 t283 t284 true _ A17.out).mono ?_); rintro e w21 ⟨rfl, hb⟩; refine ⟨_, rfl, ?_⟩; have n0_ := zaa.mk (zan zq0 hb); clear HB; have HB := n0_; clear n0_; (try clear hb); (try clear hb2); (try clear hk); (try clear hi)) | ((with_reducible refine zaK (N := 6) rfl ?_); refine zaJ ?hg (N := 6) ?hd (cs := #[.int .u64 0, .int .u64 0]) (t := 136) ?hr ?_; (case hd => rfl); (case hg => rfl); (case hr => first | (go_simp; done) | (go_simp; rfl)); intro gb286 hg w22 hbox hb; have n0_ := zaa.mk (zan zq0 hb); have n1_ := zaa.mk (hbox); have n2_ := zaa.mk ((by rw [hg]; exact (zao zq0) : w.heap.size ≤ gb286)); have n3_ := zaa.mk ((by rw [hg]; exact (zao zq0) : w.heap.size ≤ gb286)); clear HB; have HB := n0_; have BK286 := n1_; have GW286 := n2_; have GE286 := n3_; clear n0_ n1_ n2_ n3_; clear hb hbox hg; have hcz23_0 : w22.cell? ⟨gb286, 0, none⟩ = some (.int .u64 0) := (zab BK286.out 0).trans rfl; have hcz23_1 : w22.cell? ⟨gb286, 1, none⟩ = some (.int .u64 0) := (zab BK286.out 1).trans rfl; have hfz23_0 := zac BK286.out 0; have hfz23_1 := zac BK286.out 1) | ((with_reducible refine zaf (f := 107) rfl ?_); refine zat (some 30) rfl rfl Try.func107 zq6 rfl #[.agg #[.int .u64 t283, .int .u64 t284]] rfl zq1 ?_; (with_reducible refine (zaD.calls t283 t284 t287 t288 _ A19.out).mono ?_); rintro e w24 ⟨rfl, hb⟩; refine ⟨_, rfl, ?_⟩; have n0_ := zaa.mk (zax (g := gb286) (o := .cells #[.int .u64 t283, .int .u64 t284] 136 (0, 0)) (by (with_reducible repeat (first | refine zal ?_ _ | refine zam ?_ | refine zai ?_ _)); refine zaA (cs := #[.int .u64 t283, .int .u64 0]) ?_ 1 _ rfl; (with_reducible repeat (first | refine zal ?_ _ | refine zam ?_ | refine zai ?_ _)); refine zaA (cs := #[.int .u64 0, .int .u64 0]) ?_ 0 _ rfl; (with_reducible repeat (first | refine zal ?_ _ | refine zam ?_ | refine zai ?_ _)); exact BK286.out) hb); have n1_ := zaa.mk (zan zkZ hb); clear BK286; clear HB; have BK286 := n0_; have HB := n1_; clear n0_ n1_; (try clear hb); (try clear hb2); (try clear hk); (try clear hi); have hcz25_0 : w24.cell? ⟨gb286, 0, none⟩ = some (.int .u64 t283) := (zab BK286.out 0).trans rfl; have hcz25_1 : w24.cell? ⟨gb286, 1, none⟩ = some (.int .u64 t284) := (zab BK286.out 1).trans rfl; have hfz25_0 := zac BK286.out 0; have hfz25_1 := zac BK286.out 1) | ((with_reducible refine zaf (f := 108) rfl ?_); refine zat (some 33) rfl rfl Try.func108 zq6 rfl #[.bool true, .agg #[.int .u64 t287, .int .u64 t288]] rfl zq1 ?_; (with_reducible refine (zag.calls k true t287 t288 t289 _ A20.out).mono ?_); rintro e w26 ⟨rfl, hb⟩; refine ⟨_, rfl, ?_⟩; have n0_ := zaa.mk (zax (g := gb286) (o := .cells #[.int .u64 t287, .int .u64 t288] 136 (0, 0)) (by (with_reducible repeat (first | refine zal ?_ _ | refine zam ?_ | refine zai ?_ _)); refine zaA (cs := #[.int .u64 t287, .int .u64 t284]) ?_ 1 _ rfl; (with_reducible repeat (first | refine zal ?_ _ | refine zam ?_ | refine zai ?_ _)); refine zaA (cs := #[.int .u64 t283, .int .u64 t284]) ?_ 0 _ rfl; (with_reducible repeat (first | refine zal ?_ _ | refine zam ?_ | refine zai ?_ _)); exact BK286.out) hb); have n1_ := zaa.mk (zan zkZ hb); clear BK286; clear HB; have BK286 := n0_; have HB := n1_; clear n0_ n1_; (try clear hb); (try clear hb2); (try clear hk); (try clear hi)))
   go_ret; exact ⟨zq4, zkZ⟩
 rw [if_neg c5] at H; have c5b0 := zdf c5; clear c5; by_cases c32 : a1 < 0; rotate_left
 · rw [if_neg c32] at H; have c32b0 := zdf c32; clear c32; replace H := zob H; obtain ⟨t301, A500, H⟩ := H; replace H : ((zap.f a1).bind fun t302 => ((zau.f k t301 t302).bind fun bt303 => ((zag.f k false bt303.1 bt303.2.1).bind fun t307 => (some t307)))) = some r := H; have A50 := zaa.mk A500; clear A500; replace H := zob H; obtain ⟨t302, A510, H⟩ := H; replace H : ((zau.f k t301 t302).bind fun bt303 => ((zag.f k false bt303.1 bt303.2.1).bind fun t307 => (some t307))) = some r := H; have A51 := zaa.mk A510; clear A510; replace H := zob H; obtain ⟨⟨t303, t304, t305⟩, A520, H⟩ := H; replace H : ((zag.f k false t303 t304).bind fun t307 => (some t307)) = some r := H; have A52 := zaa.mk A520; clear A520; replace H := zob H; obtain ⟨t307, A530, H⟩ := H; replace H : (some t307) = some r := H; have A53 := zaa.mk A530; clear A530; obtain rfl := zoi H; go_enter Try.func65, Try.ntmps65
   go_wp2_with (first | ((with_reducible refine zaf (f := 106) rfl ?_); refine zat (some 19) rfl rfl Try.func106 zq6 rfl #[.int .i64 a0] rfl zq1 ?_; (with_reducible refine (zap.calls a0 t301 _ A50.out).mono ?_); rintro e w' ⟨rfl, ⟨nd, rfl⟩⟩; refine ⟨_, rfl, ?_⟩) | ((with_reducible refine zaf (f := 106) rfl ?_); refine zat (some 21) rfl rfl Try.func106 zq6 rfl #[.int .i64 a1] rfl zq1 ?_; (with_reducible refine (zap.calls a1 t302 _ A51.out).mono ?_); rintro e w' ⟨rfl, ⟨nd, rfl⟩⟩; refine ⟨_, rfl, ?_⟩) | ((with_reducible refine zaf (f := 105) rfl ?_); refine zat (some 22) rfl rfl Try.func105 zq6 rfl #[.int .u64 t301, .int .u64 t302] rfl zq1 ?_; (with_reducible refine (zau.calls k t301 t302 t303 t304 t305 _ A52.out).mono ?_); rintro e w54 ⟨rfl, hb⟩; refine ⟨_, rfl, ?_⟩; have n0_ := zaa.mk (zan zq0 hb); clear HB; have HB := n0_; clear n0_; (try clear hb); (try clear hb2); (try clear hk); (try clear hi)) | ((with_reducible refine zaK (N := 6) rfl ?_); refine zaJ ?hg (N := 6) ?hd (cs := #[.int .u64 0, .int .u64 0]) (t := 136) ?hr ?_; (case hd => rfl); (case hg => rfl); (case hr => first | (go_simp; done) | (go_simp; rfl)); intro gb306 hg w55 hbox hb; have n0_ := zaa.mk (zan zq0 hb); have n1_ := zaa.mk (hbox); have n2_ := zaa.mk ((by rw [hg]; exact (zao zq0) : w.heap.size ≤ gb306)); have n3_ := zaa.mk ((by rw [hg]; exact (zao zq0) : w.heap.size ≤ gb306)); clear HB; have HB := n0_; have BK306 := n1_; have GW306 := n2_; have GE306 := n3_; clear n0_ n1_ n2_ n3_; clear hb hbox hg; have hcz56_0 : w55.cell? ⟨gb306, 0, none⟩ = some (.int .u64 0) := (zab BK306.out 0).trans rfl; have hcz56_1 : w55.cell? ⟨gb306, 1, none⟩ = some (.int .u64 0) := (zab BK306.out 1).trans rfl; have hfz56_0 := zac BK306.out 0; have hfz56_1 := zac BK306.out 1) | ((with_reducible refine zaf (f := 108) rfl ?_); refine zat (some 33) rfl rfl Try.func108 zq6 rfl #[.bool false, .agg #[.int .u64 t303, .int .u64 t304]] rfl zq1 ?_; (with_reducible refine (zag.calls k false t303 t304 t307 _ A53.out).mono ?_); rintro e w57 ⟨rfl, hb⟩; refine ⟨_, rfl, ?_⟩; have n0_ := zaa.mk (zax (g := gb306) (o := .cells #[.int .u64 t303, .int .u64 t304] 136 (0, 0)) (by (with_reducible repeat (first | refine zal ?_ _ | refine zam ?_ | refine zai ?_ _)); refine zaA (cs := #[.int .u64 t303, .int .u64 0]) ?_ 1 _ rfl; (with_reducible repeat (first | refine zal ?_ _ | refine zam ?_ | refine zai ?_ _)); refine zaA (cs := #[.int .u64 0, .int .u64 0]) ?_ 0 _ rfl; (with_reducible repeat (first | refine zal ?_ _ | refine zam ?_ | refine zai ?_ _)); exact BK306.out) hb); have n1_ := zaa.mk (zan (by repeat (first | (with_reducible first | exact HB.out | apply zaq | apply zaj | apply zaU | refine zaS ?_ GE306.out) | exact HB.out)) hb); clear BK306; clear HB; have BK306 := n0_; have HB := n1_; clear n0_ n1_; (try clear hb); (try clear hb2); (try clear hk); (try clear hi)))
   go_ret; exact ⟨zq4, by repeat (first | (with_reducible first | exact HB.out | apply zaq | apply zaj | apply zaU | refine zaS ?_ GE306.out) | exact HB.out)⟩
 rw [if_pos c32] at H; have c32b0 := zdt c32; clear c32; replace H := zob H; obtain ⟨t291, A330, H⟩ := H; replace H : ((zap.f a1).bind fun t292 => ((zau.f k t291 t292).bind fun bt293 => (if bt293.2.2 = true then ((zaD.f bt293.1 bt293.2.1).bind fun bt297 => ((zag.f k true bt297.1 bt297.2).bind fun t299 => (some t299))) else ((zag.f k true bt293.1 bt293.2.1).bind fun t300 => (some t300))))) = some r := H; have A33 := zaa.mk A330; clear A330; replace H := zob H; obtain ⟨t292, A340, H⟩ := H; replace H : ((zau.f k t291 t292).bind fun bt293 => (if bt293.2.2 = true then ((zaD.f bt293.1 bt293.2.1).bind fun bt297 => ((zag.f k true bt297.1 bt297.2).bind fun t299 => (some t299))) else ((zag.f k true bt293.1 bt293.2.1).bind fun t300 => (some t300)))) = some r := H; have A34 := zaa.mk A340; clear A340; replace H := zob H; obtain ⟨⟨t293, t294, t295⟩, A350, H⟩ := H; replace H : (if t295 = true then ((zaD.f t293 t294).bind fun bt297 => ((zag.f k true bt297.1 bt297.2).bind fun t299 => (some t299))) else ((zag.f k true t293 t294).bind fun t300 => (some t300))) = some r := H; have A35 := zaa.mk A350; clear A350; by_cases c36 : t295 = true; rotate_left
 · replace c36 := Bool.eq_false_iff.mpr c36; subst c36; have H1 : ((zag.f k true t293 t294).bind fun t300 => (some t300)) = some r := by rw [if_neg (show ¬ (false = true) by decide)] at H; exact H
   clear H; have H := H1; clear H1; replace H := zob H; obtain ⟨t300, A450, H⟩ := H; replace H : (some t300) = some r := H; have A45 := zaa.mk A450; clear A450; obtain rfl := zoi H; go_enter Try.func65, Try.ntmps65
   go_wp2_with (first | ((with_reducible refine zaf (f := 106) rfl ?_); refine zat (some 19) rfl rfl Try.func106 zq6 rfl #[.int .i64 a0] rfl zq1 ?_; (with_reducible refine (zap.calls a0 t291 _ A33.out).mono ?_); rintro e w' ⟨rfl, ⟨nd, rfl⟩⟩; refine ⟨_, rfl, ?_⟩) | ((with_reducible refine zaf (f := 106) rfl ?_); refine zat (some 21) rfl rfl Try.func106 zq6 rfl #[.int .i64 a1] rfl zq1 ?_; (with_reducible refine (zap.calls a1 t292 _ A34.out).mono ?_); rintro e w' ⟨rfl, ⟨nd, rfl⟩⟩; refine ⟨_, rfl, ?_⟩) | ((with_reducible refine zaf (f := 105) rfl ?_); refine zat (some 22) rfl rfl Try.func105 zq6 rfl #[.int .u64 t291, .int .u64 t292] rfl zq1 ?_; (with_reducible refine (zau.calls k t291 t292 t293 t294 false _ A35.out).mono ?_); rintro e w46 ⟨rfl, hb⟩; refine ⟨_, rfl, ?_⟩; have n0_ := zaa.mk (zan zq0 hb); clear HB; have HB := n0_; clear n0_; (try clear hb); (try clear hb2); (try clear hk); (try clear hi)) | ((with_reducible refine zaK (N := 6) rfl ?_); refine zaJ ?hg (N := 6) ?hd (cs := #[.int .u64 0, .int .u64 0]) (t := 136) ?hr ?_; (case hd => rfl); (case hg => rfl); (case hr => first | (go_simp; done) | (go_simp; rfl)); intro gb296 hg w47 hbox hb; have n0_ := zaa.mk (zan zq0 hb); have n1_ := zaa.mk (hbox); have n2_ := zaa.mk ((by rw [hg]; exact (zao zq0) : w.heap.size ≤ gb296)); have n3_ := zaa.mk ((by rw [hg]; exact (zao zq0) : w.heap.size ≤ gb296)); clear HB; have HB := n0_; have BK296 := n1_; have GW296 := n2_; have GE296 := n3_; clear n0_ n1_ n2_ n3_; clear hb hbox hg; have hcz48_0 : w47.cell? ⟨gb296, 0, none⟩ = some (.int .u64 0) := (zab BK296.out 0).trans rfl; have hcz48_1 : w47.cell? ⟨gb296, 1, none⟩ = some (.int .u64 0) := (zab BK296.out 1).trans rfl; have hfz48_0 := zac BK296.out 0; have hfz48_1 := zac BK296.out 1) | ((with_reducible refine zaf (f := 108) rfl ?_); refine zat (some 33) rfl rfl Try.func108 zq6 rfl #[.bool true, .agg #[.int .u64 t293, .int .u64 t294]] rfl zq1 ?_; (with_reducible refine (zag.calls k true t293 t294 t300 _ A45.out).mono ?_); rintro e w49 ⟨rfl, hb⟩; refine ⟨_, rfl, ?_⟩; have n0_ := zaa.mk (zax (g := gb296) (o := .cells #[.int .u64 t293, .int .u64 t294] 136 (0, 0)) (by (with_reducible repeat (first | refine zal ?_ _ | refine zam ?_ | refine zai ?_ _)); refine zaA (cs := #[.int .u64 t293, .int .u64 0]) ?_ 1 _ rfl; (with_reducible repeat (first | refine zal ?_ _ | refine zam ?_ | refine zai ?_ _)); refine zaA (cs := #[.int .u64 0, .int .u64 0]) ?_ 0 _ rfl; (with_reducible repeat (first | refine zal ?_ _ | refine zam ?_ | refine zai ?_ _)); exact BK296.out) hb); have n1_ := zaa.mk (zan zla hb); clear BK296; clear HB; have BK296 := n0_; have HB := n1_; clear n0_ n1_; (try clear hb); (try clear hb2); (try clear hk); (try clear hi)))
   go_ret; exact ⟨zq4, zla⟩
 subst c36; have H1 : ((zaD.f t293 t294).bind fun bt297 => ((zag.f k true bt297.1 bt297.2).bind fun t299 => (some t299))) = some r := by rw [if_pos rfl] at H; exact H
 clear H; have H := H1; clear H1; replace H := zob H; obtain ⟨⟨t297, t298⟩, A370, H⟩ := H; replace H : ((zag.f k true t297 t298).bind fun t299 => (some t299)) = some r := H; have A37 := zaa.mk A370; clear A370; replace H := zob H; obtain ⟨t299, A380, H⟩ := H; replace H : (some t299) = some r := H; have A38 := zaa.mk A380; clear A380; obtain rfl := zoi H; go_enter Try.func65, Try.ntmps65
 go_wp2_with (first | ((with_reducible refine zaf (f := 106) rfl ?_); refine zat (some 19) rfl rfl Try.func106 zq6 rfl #[.int .i64 a0] rfl zq1 ?_; (with_reducible refine (zap.calls a0 t291 _ A33.out).mono ?_); rintro e w' ⟨rfl, ⟨nd, rfl⟩⟩; refine ⟨_, rfl, ?_⟩) | ((with_reducible refine zaf (f := 106) rfl ?_); refine zat (some 21) rfl rfl Try.func106 zq6 rfl #[.int .i64 a1] rfl zq1 ?_; (with_reducible refine (zap.calls a1 t292 _ A34.out).mono ?_); rintro e w' ⟨rfl, ⟨nd, rfl⟩⟩; refine ⟨_, rfl, ?_⟩) | ((with_reducible refine zaf (f := 105) rfl ?_); refine zat (some 22) rfl rfl Try.func105 zq6 rfl #[.int .u64 t291, .int .u64 t292] rfl zq1 ?_; (with_reducible refine (zau.calls k t291 t292 t293 t294 true _ A35.out).mono ?_); rintro e w39 ⟨rfl, hb⟩; refine ⟨_, rfl, ?_⟩; have n0_ := zaa.mk (zan zq0 hb); clear HB; have HB := n0_; clear n0_; (try clear hb); (try clear hb2); (try clear hk); (try clear hi)) | ((with_reducible refine zaK (N := 6) rfl ?_); refine zaJ ?hg (N := 6) ?hd (cs := #[.int .u64 0, .int .u64 0]) (t := 136) ?hr ?_; (case hd => rfl); (case hg => rfl); (case hr => first | (go_simp; done) | (go_simp; rfl)); intro gb296 hg w40 hbox hb; have n0_ := zaa.mk (zan zq0 hb); have n1_ := zaa.mk (hbox); have n2_ := zaa.mk ((by rw [hg]; exact (zao zq0) : w.heap.size ≤ gb296)); have n3_ := zaa.mk ((by rw [hg]; exact (zao zq0) : w.heap.size ≤ gb296)); clear HB; have HB := n0_; have BK296 := n1_; have GW296 := n2_; have GE296 := n3_; clear n0_ n1_ n2_ n3_; clear hb hbox hg; have hcz41_0 : w40.cell? ⟨gb296, 0, none⟩ = some (.int .u64 0) := (zab BK296.out 0).trans rfl; have hcz41_1 : w40.cell? ⟨gb296, 1, none⟩ = some (.int .u64 0) := (zab BK296.out 1).trans rfl; have hfz41_0 := zac BK296.out 0; have hfz41_1 := zac BK296.out 1) | ((with_reducible refine zaf (f := 107) rfl ?_); refine zat (some 30) rfl rfl Try.func107 zq6 rfl #[.agg #[.int .u64 t293, .int .u64 t294]] rfl zq1 ?_; (with_reducible refine (zaD.calls t293 t294 t297 t298 _ A37.out).mono ?_); rintro e w42 ⟨rfl, hb⟩; refine ⟨_, rfl, ?_⟩; have n0_ := zaa.mk (zax (g := gb296) (o := .cells #[.int .u64 t293, .int .u64 t294] 136 (0, 0)) (by (with_reducible repeat (first | refine zal ?_ _ | refine zam ?_ | refine zai ?_ _)); refine zaA (cs := #[.int .u64 t293, .int .u64 0]) ?_ 1 _ rfl; (with_reducible repeat (first | refine zal ?_ _ | refine zam ?_ | refine zai ?_ _)); refine zaA (cs := #[.int .u64 0, .int .u64 0]) ?_ 0 _ rfl; (with_reducible repeat (first | refine zal ?_ _ | refine zam ?_ | refine zai ?_ _)); exact BK296.out) hb); have n1_ := zaa.mk (zan zla hb); clear BK296; clear HB; have BK296 := n0_; have HB := n1_; clear n0_ n1_; (try clear hb); (try clear hb2); (try clear hk); (try clear hi); have hcz43_0 : w42.cell? ⟨gb296, 0, none⟩ = some (.int .u64 t293) := (zab BK296.out 0).trans rfl; have hcz43_1 : w42.cell? ⟨gb296, 1, none⟩ = some (.int .u64 t294) := (zab BK296.out 1).trans rfl; have hfz43_0 := zac BK296.out 0; have hfz43_1 := zac BK296.out 1) | ((with_reducible refine zaf (f := 108) rfl ?_); refine zat (some 33) rfl rfl Try.func108 zq6 rfl #[.bool true, .agg #[.int .u64 t297, .int .u64 t298]] rfl zq1 ?_; (with_reducible refine (zag.calls k true t297 t298 t299 _ A38.out).mono ?_); rintro e w44 ⟨rfl, hb⟩; refine ⟨_, rfl, ?_⟩; have n0_ := zaa.mk (zax (g := gb296) (o := .cells #[.int .u64 t297, .int .u64 t298] 136 (0, 0)) (by (with_reducible repeat (first | refine zal ?_ _ | refine zam ?_ | refine zai ?_ _)); refine zaA (cs := #[.int .u64 t297, .int .u64 t294]) ?_ 1 _ rfl; (with_reducible repeat (first | refine zal ?_ _ | refine zam ?_ | refine zai ?_ _)); refine zaA (cs := #[.int .u64 t293, .int .u64 t294]) ?_ 0 _ rfl; (with_reducible repeat (first | refine zal ?_ _ | refine zam ?_ | refine zai ?_ _)); exact BK296.out) hb); have n1_ := zaa.mk (zan zla hb); clear BK296; clear HB; have BK296 := n0_; have HB := n1_; clear n0_ n1_; (try clear hb); (try clear hb2); (try clear hk); (try clear hi)))
 go_ret; exact ⟨zq4, zla⟩
def zbq.f (k : Nat) (a0 : Int) (a1 : Int) : Option (Int) := if a1 = 0 then ((zcc.f a0).bind fun t308 => (some t308)) else (if a0 < 0 then (if a1 < 0 then ((zap.f a0).bind fun t309 => ((zap.f a1).bind fun t310 => ((zau.f k t309 t310).bind fun bt311 => (if bt311.2.2 = true then ((zaD.f bt311.1 bt311.2.1).bind fun bt315 => ((zag.f k false bt315.1 bt315.2).bind fun t317 => (some t317))) else ((zag.f k false bt311.1 bt311.2.1).bind fun t318 => (some t318)))))) else ((zap.f a0).bind fun t319 => ((zap.f a1).bind fun t320 => ((zau.f k t319 t320).bind fun bt321 => ((zag.f k true bt321.1 bt321.2.1).bind fun t325 => (some t325)))))) else (if a1 < 0 then ((zap.f a0).bind fun t326 => ((zap.f a1).bind fun t327 => ((zau.f k t326 t327).bind fun bt328 => ((zag.f k true bt328.1 bt328.2.1).bind fun t332 => (some t332))))) else ((zap.f a0).bind fun t333 => ((zap.f a1).bind fun t334 => ((zau.f k t333 t334).bind fun bt335 => (if bt335.2.2 = true then ((zaD.f bt335.1 bt335.2.1).bind fun bt339 => ((zag.f k false bt339.1 bt339.2).bind fun t341 => (some t341))) else ((zag.f k false bt335.1 bt335.2.1).bind fun t342 => (some t342))))))))
theorem zbq.calls (k : Nat) (a0 : Int) (a1 : Int) (r : Int) (w : World) (h : zbq.f k a0 a1 = some r) :
  Calls Try.prog 93 #[.int .i64 a0, .int .i64 a1] w fun e w' => e = .returned (.int .i64 r) ∧ Below w.heap.size w w' := by
 have hu136 := Try.underlying136; have HB := zaa.mk (Below.refl w.heap.size w); have H : (if a1 = 0 then ((zcc.f a0).bind fun t308 => (some t308)) else (if a0 < 0 then (if a1 < 0 then ((zap.f a0).bind fun t309 => ((zap.f a1).bind fun t310 => ((zau.f k t309 t310).bind fun bt311 => (if bt311.2.2 = true then ((zaD.f bt311.1 bt311.2.1).bind fun bt315 => ((zag.f k false bt315.1 bt315.2).bind fun t317 => (some t317))) else ((zag.f k false bt311.1 bt311.2.1).bind fun t318 => (some t318)))))) else ((zap.f a0).bind fun t319 => ((zap.f a1).bind fun t320 => ((zau.f k t319 t320).bind fun bt321 => ((zag.f k true bt321.1 bt321.2.1).bind fun t325 => (some t325)))))) else (if a1 < 0 then ((zap.f a0).bind fun t326 => ((zap.f a1).bind fun t327 => ((zau.f k t326 t327).bind fun bt328 => ((zag.f k true bt328.1 bt328.2.1).bind fun t332 => (some t332))))) else ((zap.f a0).bind fun t333 => ((zap.f a1).bind fun t334 => ((zau.f k t333 t334).bind fun bt335 => (if bt335.2.2 = true then ((zaD.f bt335.1 bt335.2.1).bind fun bt339 => ((zag.f k false bt339.1 bt339.2).bind fun t341 => (some t341))) else ((zag.f k false bt335.1 bt335.2.1).bind fun t342 => (some t342))))))))) = some r := h; clear h; by_cases c3 : a1 = 0
 · rw [if_pos c3] at H; have c3b0 : (a1 == 0) = true := beq_iff_eq.mpr c3; have c3b1 : (a1 != 0) = false := bne_eq_false_iff_eq.mpr c3; clear c3; replace H := zob H; obtain ⟨t308, A40, H⟩ := H; replace H : (some t308) = some r := H; have A4 := zaa.mk A40; clear A40; obtain rfl := zoi H; go_enter Try.func93, Try.ntmps93
   go_wp2_with (first | ((with_reducible refine zaf (f := 104) rfl ?_); refine zat (some 11) rfl rfl Try.func104 zq6 rfl #[.int .i64 a0] rfl zq1 ?_; (with_reducible refine (zcc.calls a0 t308 _ A4.out).mono ?_); rintro e w' ⟨rfl, ⟨nd, rfl⟩⟩; refine ⟨_, rfl, ?_⟩))
   go_ret; exact ⟨zq4, zq0⟩
 rw [if_neg c3] at H; have c3b0 : (a1 == 0) = false := beq_eq_false_iff_ne.mpr c3; have c3b1 : (a1 != 0) = true := bne_iff_ne.mpr c3; by_cases c5 : a0 < 0
 · rw [if_pos c5] at H; have c5b0 := zdt c5; clear c5; by_cases c6 : a1 < 0; rotate_left
   · rw [if_neg c6] at H; have c6b0 := zdf c6; clear c6; replace H := zob H; obtain ⟨t319, A240, H⟩ := H; replace H : ((zap.f a1).bind fun t320 => ((zau.f k t319 t320).bind fun bt321 => ((zag.f k true bt321.1 bt321.2.1).bind fun t325 => (some t325)))) = some r := H; have A24 := zaa.mk A240; clear A240; replace H := zob H; obtain ⟨t320, A250, H⟩ := H; replace H : ((zau.f k t319 t320).bind fun bt321 => ((zag.f k true bt321.1 bt321.2.1).bind fun t325 => (some t325))) = some r := H; have A25 := zaa.mk A250; clear A250; replace H := zob H; obtain ⟨⟨t321, t322, t323⟩, A260, H⟩ := H; replace H : ((zag.f k true t321 t322).bind fun t325 => (some t325)) = some r := H; have A26 := zaa.mk A260; clear A260; replace H := zob H; obtain ⟨t325, A270, H⟩ := H; replace H : (some t325) = some r := H; have A27 := zaa.mk A270; clear A270; obtain rfl := zoi H; go_enter Try.func93, Try.ntmps93
     go_wp2_with (first | ((with_reducible refine zaf (f := 106) rfl ?_); refine zat (some 19) rfl rfl Try.func106 zq6 rfl #[.int .i64 a0] rfl zq1 ?_; (with_reducible refine (zap.calls a0 t319 _ A24.out).mono ?_); rintro e w' ⟨rfl, ⟨nd, rfl⟩⟩; refine ⟨_, rfl, ?_⟩) | ((with_reducible refine zaf (f := 106) rfl ?_); refine zat (some 21) rfl rfl Try.func106 zq6 rfl #[.int .i64 a1] rfl zq1 ?_; (with_reducible refine (zap.calls a1 t320 _ A25.out).mono ?_); rintro e w' ⟨rfl, ⟨nd, rfl⟩⟩; refine ⟨_, rfl, ?_⟩) | ((with_reducible refine zaf (f := 105) rfl ?_); refine zat (some 22) rfl rfl Try.func105 zq6 rfl #[.int .u64 t319, .int .u64 t320] rfl zq1 ?_; (with_reducible refine (zau.calls k t319 t320 t321 t322 t323 _ A26.out).mono ?_); rintro e w28 ⟨rfl, hb⟩; refine ⟨_, rfl, ?_⟩; have n0_ := zaa.mk (zan zq0 hb); clear HB; have HB := n0_; clear n0_; (try clear hb); (try clear hb2); (try clear hk); (try clear hi)) | ((with_reducible refine zaK (N := 6) rfl ?_); refine zaJ ?hg (N := 6) ?hd (cs := #[.int .u64 0, .int .u64 0]) (t := 136) ?hr ?_; (case hd => rfl); (case hg => rfl); (case hr => first | (go_simp; done) | (go_simp; rfl)); intro gb324 hg w29 hbox hb; have n0_ := zaa.mk (zan zq0 hb); have n1_ := zaa.mk (hbox); have n2_ := zaa.mk ((by rw [hg]; exact (zao zq0) : w.heap.size ≤ gb324)); have n3_ := zaa.mk ((by rw [hg]; exact (zao zq0) : w.heap.size ≤ gb324)); clear HB; have HB := n0_; have BK324 := n1_; have GW324 := n2_; have GE324 := n3_; clear n0_ n1_ n2_ n3_; clear hb hbox hg; have hcz30_0 : w29.cell? ⟨gb324, 0, none⟩ = some (.int .u64 0) := (zab BK324.out 0).trans rfl; have hcz30_1 : w29.cell? ⟨gb324, 1, none⟩ = some (.int .u64 0) := (zab BK324.out 1).trans rfl; have hfz30_0 := zac BK324.out 0; have hfz30_1 := zac BK324.out 1) | ((with_reducible refine zaf (f := 108) rfl ?_); refine zat (some 34) rfl rfl Try.func108 zq6 rfl #[.bool true, .agg #[.int .u64 t321, .int .u64 t322]] rfl zq1 ?_; (with_reducible refine (zag.calls k true t321 t322 t325 _ A27.out).mono ?_); rintro e w31 ⟨rfl, hb⟩; refine ⟨_, rfl, ?_⟩; have n0_ := zaa.mk (zax (g := gb324) (o := .cells #[.int .u64 t321, .int .u64 t322] 136 (0, 0)) (by (with_reducible repeat (first | refine zal ?_ _ | refine zam ?_ | refine zai ?_ _)); refine zaA (cs := #[.int .u64 t321, .int .u64 0]) ?_ 1 _ rfl; (with_reducible repeat (first | refine zal ?_ _ | refine zam ?_ | refine zai ?_ _)); refine zaA (cs := #[.int .u64 0, .int .u64 0]) ?_ 0 _ rfl; (with_reducible repeat (first | refine zal ?_ _ | refine zam ?_ | refine zai ?_ _)); exact BK324.out) hb); have n1_ := zaa.mk (zan (by repeat (first | (with_reducible first | exact HB.out | apply zaq | apply zaj | apply zaU | refine zaS ?_ GE324.out) | exact HB.out)) hb); clear BK324; clear HB; have BK324 := n0_; have HB := n1_; clear n0_ n1_; (try clear hb); (try clear hb2); (try clear hk); (try clear hi)))
     go_ret; exact ⟨zq4, by repeat (first | (with_reducible first | exact HB.out | apply zaq | apply zaj | apply zaU | refine zaS ?_ GE324.out) | exact HB.out)⟩
   rw [if_pos c6] at H; have c6b0 := zdt c6; clear c6; replace H := zob H; obtain ⟨t309, A70, H⟩ := H; replace H : ((zap.f a1).bind fun t310 => ((zau.f k t309 t310).bind fun bt311 => (if bt311.2.2 = true then ((zaD.f bt311.1 bt311.2.1).bind fun bt315 => ((zag.f k false bt315.1 bt315.2).bind fun t317 => (some t317))) else ((zag.f k false bt311.1 bt311.2.1).bind fun t318 => (some t318))))) = some r := H; have A7 := zaa.mk A70; clear A70; replace H := zob H; obtain ⟨t310, A80, H⟩ := H; replace H : ((zau.f k t309 t310).bind fun bt311 => (if bt311.2.2 = true then ((zaD.f bt311.1 bt311.2.1).bind fun bt315 => ((zag.f k false bt315.1 bt315.2).bind fun t317 => (some t317))) else ((zag.f k false bt311.1 bt311.2.1).bind fun t318 => (some t318)))) = some r := H; have A8 := zaa.mk A80; clear A80; replace H := zob H; obtain ⟨⟨t311, t312, t313⟩, A90, H⟩ := H; replace H : (if t313 = true then ((zaD.f t311 t312).bind fun bt315 => ((zag.f k false bt315.1 bt315.2).bind fun t317 => (some t317))) else ((zag.f k false t311 t312).bind fun t318 => (some t318))) = some r := H; have A9 := zaa.mk A90; clear A90; by_cases c10 : t313 = true; rotate_left
   · replace c10 := Bool.eq_false_iff.mpr c10; subst c10; have H1 : ((zag.f k false t311 t312).bind fun t318 => (some t318)) = some r := by rw [if_neg (show ¬ (false = true) by decide)] at H; exact H
     clear H; have H := H1; clear H1; replace H := zob H; obtain ⟨t318, A190, H⟩ := H; replace H : (some t318) = some r := H; have A19 := zaa.mk A190; clear A190; obtain rfl := zoi H; go_enter Try.func93, Try.ntmps93
     go_wp2_with (first | ((with_reducible refine zaf (f := 106) rfl ?_); refine zat (some 19) rfl rfl Try.func106 zq6 rfl #[.int .i64 a0] rfl zq1 ?_; (with_reducible refine (zap.calls a0 t309 _ A7.out).mono ?_); rintro e w' ⟨rfl, ⟨nd, rfl⟩⟩; refine ⟨_, rfl, ?_⟩) | ((with_reducible refine zaf (f := 106) rfl ?_); refine zat (some 21) rfl rfl Try.func106 zq6 rfl #[.int .i64 a1] rfl zq1 ?_; (with_reducible refine (zap.calls a1 t310 _ A8.out).mono ?_); rintro e w' ⟨rfl, ⟨nd, rfl⟩⟩; refine ⟨_, rfl, ?_⟩) | ((with_reducible refine zaf (f := 105) rfl ?_); refine zat (some 22) rfl rfl Try.func105 zq6 rfl #[.int .u64 t309, .int .u64 t310] rfl zq1 ?_; (with_reducible refine (zau.calls k t309 t310 t311 t312 false _ A9.out).mono ?_); rintro e w20 ⟨rfl, hb⟩; refine ⟨_, rfl, ?_⟩; have n0_ := zaa.mk (zan zq0 hb); clear HB; have HB := n0_; clear n0_; (try clear hb); (try clear hb2); (try clear hk); (try clear hi)) | ((with_reducible refine zaK (N := 6) rfl ?_); refine zaJ ?hg (N := 6) ?hd (cs := #[.int .u64 0, .int .u64 0]) (t := 136) ?hr ?_; (case hd => rfl); (case hg => rfl); (case hr => first | (go_simp; done) | (go_simp; rfl)); intro gb314 hg w21 hbox hb; have n0_ := zaa.mk (zan zq0 hb); have n1_ := zaa.mk (hbox); have n2_ := zaa.mk ((by rw [hg]; exact (zao zq0) : w.heap.size ≤ gb314)); have n3_ := zaa.mk ((by rw [hg]; exact (zao zq0) : w.heap.size ≤ gb314)); clear HB; have HB := n0_; have BK314 := n1_; have GW314 := n2_; have GE314 := n3_; clear n0_ n1_ n2_ n3_; clear hb hbox hg; have hcz22_0 : w21.cell? ⟨gb314, 0, none⟩ = some (.int .u64 0) := (zab BK314.out 0).trans rfl; have hcz22_1 : w21.cell? ⟨gb314, 1, none⟩ = some (.int .u64 0) := (zab BK314.out 1).trans rfl; have hfz22_0 := zac BK314.out 0; have hfz22_1 := zac BK314.out 1) | ((with_reducible refine zaf (f := 108) rfl ?_); refine zat (some 34) rfl rfl Try.func108 zq6 rfl #[.bool false, .agg #[.int .u64 t311, .int .u64 t312]] rfl zq1 ?_; (with_reducible refine (zag.calls k false t311 t312 t318 _ A19.out).mono ?_); rintro e w23 ⟨rfl, hb⟩; refine ⟨_, rfl, ?_⟩; have n0_ := zaa.mk (zax (g := gb314) (o := .cells #[.int .u64 t311, .int .u64 t312] 136 (0, 0)) (by (with_reducible repeat (first | refine zal ?_ _ | refine zam ?_ | refine zai ?_ _)); refine zaA (cs := #[.int .u64 t311, .int .u64 0]) ?_ 1 _ rfl; (with_reducible repeat (first | refine zal ?_ _ | refine zam ?_ | refine zai ?_ _)); refine zaA (cs := #[.int .u64 0, .int .u64 0]) ?_ 0 _ rfl; (with_reducible repeat (first | refine zal ?_ _ | refine zam ?_ | refine zai ?_ _)); exact BK314.out) hb); have n1_ := zaa.mk (zan zlb hb); clear BK314; clear HB; have BK314 := n0_; have HB := n1_; clear n0_ n1_; (try clear hb); (try clear hb2); (try clear hk); (try clear hi)))
     go_ret; exact ⟨zq4, zlb⟩
   subst c10; have H1 : ((zaD.f t311 t312).bind fun bt315 => ((zag.f k false bt315.1 bt315.2).bind fun t317 => (some t317))) = some r := by rw [if_pos rfl] at H; exact H
   clear H; have H := H1; clear H1; replace H := zob H; obtain ⟨⟨t315, t316⟩, A110, H⟩ := H; replace H : ((zag.f k false t315 t316).bind fun t317 => (some t317)) = some r := H; have A11 := zaa.mk A110; clear A110; replace H := zob H; obtain ⟨t317, A120, H⟩ := H; replace H : (some t317) = some r := H; have A12 := zaa.mk A120; clear A120; obtain rfl := zoi H; go_enter Try.func93, Try.ntmps93
   go_wp2_with (first | ((with_reducible refine zaf (f := 106) rfl ?_); refine zat (some 19) rfl rfl Try.func106 zq6 rfl #[.int .i64 a0] rfl zq1 ?_; (with_reducible refine (zap.calls a0 t309 _ A7.out).mono ?_); rintro e w' ⟨rfl, ⟨nd, rfl⟩⟩; refine ⟨_, rfl, ?_⟩) | ((with_reducible refine zaf (f := 106) rfl ?_); refine zat (some 21) rfl rfl Try.func106 zq6 rfl #[.int .i64 a1] rfl zq1 ?_; (with_reducible refine (zap.calls a1 t310 _ A8.out).mono ?_); rintro e w' ⟨rfl, ⟨nd, rfl⟩⟩; refine ⟨_, rfl, ?_⟩) | ((with_reducible refine zaf (f := 105) rfl ?_); refine zat (some 22) rfl rfl Try.func105 zq6 rfl #[.int .u64 t309, .int .u64 t310] rfl zq1 ?_; (with_reducible refine (zau.calls k t309 t310 t311 t312 true _ A9.out).mono ?_); rintro e w13 ⟨rfl, hb⟩; refine ⟨_, rfl, ?_⟩; have n0_ := zaa.mk (zan zq0 hb); clear HB; have HB := n0_; clear n0_; (try clear hb); (try clear hb2); (try clear hk); (try clear hi)) | ((with_reducible refine zaK (N := 6) rfl ?_); refine zaJ ?hg (N := 6) ?hd (cs := #[.int .u64 0, .int .u64 0]) (t := 136) ?hr ?_; (case hd => rfl); (case hg => rfl); (case hr => first | (go_simp; done) | (go_simp; rfl)); intro gb314 hg w14 hbox hb; have n0_ := zaa.mk (zan zq0 hb); have n1_ := zaa.mk (hbox); have n2_ := zaa.mk ((by rw [hg]; exact (zao zq0) : w.heap.size ≤ gb314)); have n3_ := zaa.mk ((by rw [hg]; exact (zao zq0) : w.heap.size ≤ gb314)); clear HB; have HB := n0_; have BK314 := n1_; have GW314 := n2_; have GE314 := n3_; clear n0_ n1_ n2_ n3_; clear hb hbox hg; have hcz15_0 : w14.cell? ⟨gb314, 0, none⟩ = some (.int .u64 0) := (zab BK314.out 0).trans rfl; have hcz15_1 : w14.cell? ⟨gb314, 1, none⟩ = some (.int .u64 0) := (zab BK314.out 1).trans rfl; have hfz15_0 := zac BK314.out 0; have hfz15_1 := zac BK314.out 1) | ((with_reducible refine zaf (f := 107) rfl ?_); refine zat (some 31) rfl rfl Try.func107 zq6 rfl #[.agg #[.int .u64 t311, .int .u64 t312]] rfl zq1 ?_; (with_reducible refine (zaD.calls t311 t312 t315 t316 _ A11.out).mono ?_); rintro e w16 ⟨rfl, hb⟩; refine ⟨_, rfl, ?_⟩; have n0_ := zaa.mk (zax (g := gb314) (o := .cells #[.int .u64 t311, .int .u64 t312] 136 (0, 0)) (by (with_reducible repeat (first | refine zal ?_ _ | refine zam ?_ | refine zai ?_ _)); refine zaA (cs := #[.int .u64 t311, .int .u64 0]) ?_ 1 _ rfl; (with_reducible repeat (first | refine zal ?_ _ | refine zam ?_ | refine zai ?_ _)); refine zaA (cs := #[.int .u64 0, .int .u64 0]) ?_ 0 _ rfl; (with_reducible repeat (first | refine zal ?_ _ | refine zam ?_ | refine zai ?_ _)); exact BK314.out) hb); have n1_ := zaa.mk (zan zlb hb); clear BK314; clear HB; have BK314 := n0_; have HB := n1_; clear n0_ n1_; (try clear hb); (try clear hb2); (try clear hk); (try clear hi); have hcz17_0 : w16.cell? ⟨gb314, 0, none⟩ = some (.int .u64 t311) := (zab BK314.out 0).trans rfl; have hcz17_1 : w16.cell? ⟨gb314, 1, none⟩ = some (.int .u64 t312) := (zab BK314.out 1).trans rfl; have hfz17_0 := zac BK314.out 0; have hfz17_1 := zac BK314.out 1) | ((with_reducible refine zaf (f := 108) rfl ?_); refine zat (some 34) rfl rfl Try.func108 zq6 rfl #[.bool false, .agg #[.int .u64 t315, .int .u64 t316]] rfl zq1 ?_; (with_reducible refine (zag.calls k false t315 t316 t317 _ A12.out).mono ?_); rintro e w18 ⟨rfl, hb⟩; refine ⟨_, rfl, ?_⟩; have n0_ := zaa.mk (zax (g := gb314) (o := .cells #[.int .u64 t315, .int .u64 t316] 136 (0, 0)) (by (with_reducible repeat (first | refine zal ?_ _ | refine zam ?_ | refine zai ?_ _)); refine zaA (cs := #[.int .u64 t315, .int .u64 t312]) ?_ 1 _ rfl; (with_reducible repeat (first | refine zal ?_ _ | refine zam ?_ | refine zai ?_ _)); refine zaA (cs := #[.int .u64 t311, .int .u64 t312]) ?_ 0 _ rfl; (with_reducible repeat (first | refine zal ?_ _ | refine zam ?_ | refine zai ?_ _)); exact BK314.out) hb); have n1_ := zaa.mk (zan zlb hb); clear BK314; clear HB; have BK314 := n0_; have HB := n1_; clear n0_ n1_; (try clear hb); (try clear hb2); (try clear hk); (try clear hi)))
   go_ret; exact ⟨zq4, zlb⟩
 rw [if_neg c5] at H; have c5b0 := zdf c5; clear c5; by_cases c32 : a1 < 0
 · rw [if_pos c32] at H; have c32b0 := zdt c32; clear c32; replace H := zob H; obtain ⟨t326, A330, H⟩ := H; replace H : ((zap.f a1).bind fun t327 => ((zau.f k t326 t327).bind fun bt328 => ((zag.f k true bt328.1 bt328.2.1).bind fun t332 => (some t332)))) = some r := H; have A33 := zaa.mk A330; clear A330; replace H := zob H; obtain ⟨t327, A340, H⟩ := H; replace H : ((zau.f k t326 t327).bind fun bt328 => ((zag.f k true bt328.1 bt328.2.1).bind fun t332 => (some t332))) = some r := H; have A34 := zaa.mk A340; clear A340; replace H := zob H; obtain ⟨⟨t328, t329, t330⟩, A350, H⟩ := H; replace H : ((zag.f k true t328 t329).bind fun t332 => (some t332)) = some r := H; have A35 := zaa.mk A350; clear A350; replace H := zob H; obtain ⟨t332, A360, H⟩ := H; replace H : (some t332) = some r := H; have A36 := zaa.mk A360; clear A360; obtain rfl := zoi H; go_enter Try.func93, Try.ntmps93
   go_wp2_with (first | ((with_reducible refine zaf (f := 106) rfl ?_); refine zat (some 19) rfl rfl Try.func106 zq6 rfl #[.int .i64 a0] rfl zq1 ?_; (with_reducible refine (zap.calls a0 t326 _ A33.out).mono ?_); rintro e w' ⟨rfl, ⟨nd, rfl⟩⟩; refine ⟨_, rfl, ?_⟩) | ((with_reducible refine zaf (f := 106) rfl ?_); refine zat (some 21) rfl rfl Try.func106 zq6 rfl #[.int .i64 a1] rfl zq1 ?_; (with_reducible refine (zap.calls a1 t327 _ A34.out).mono ?_); rintro e w' ⟨rfl, ⟨nd, rfl⟩⟩; refine ⟨_, rfl, ?_⟩) | ((with_reducible refine zaf (f := 105) rfl ?_); refine zat (some 22) rfl rfl Try.func105 zq6 rfl #[.int .u64 t326, .int .u64 t327] rfl zq1 ?_; (with_reducible refine (zau.calls k t326 t327 t328 t329 t330 _ A35.out).mono ?_); rintro e w37 ⟨rfl, hb⟩; refine ⟨_, rfl, ?_⟩; have n0_ := zaa.mk (zan zq0 hb); clear HB; have HB := n0_; clear n0_; (try clear hb); (try clear hb2); (try clear hk); (try clear hi)) | ((with_reducible refine zaK (N := 6) rfl ?_); refine zaJ ?hg (N := 6) ?hd (cs := #[.int .u64 0, .int .u64 0]) (t := 136) ?hr ?_; (case hd => rfl); (case hg => rfl); (case hr => first | (go_simp; done) | (go_simp; rfl)); intro gb331 hg w38 hbox hb; have n0_ := zaa.mk (zan zq0 hb); have n1_ := zaa.mk (hbox); have n2_ := zaa.mk ((by rw [hg]; exact (zao zq0) : w.heap.size ≤ gb331)); have n3_ := zaa.mk ((by rw [hg]; exact (zao zq0) : w.heap.size ≤ gb331)); clear HB; have HB := n0_; have BK331 := n1_; have GW331 := n2_; have GE331 := n3_; clear n0_ n1_ n2_ n3_; clear hb hbox hg; have hcz39_0 : w38.cell? ⟨gb331, 0, none⟩ = some (.int .u64 0) := (zab BK331.out 0).trans rfl; have hcz39_1 : w38.cell? ⟨gb331, 1, none⟩ = some (.int .u64 0) := (zab BK331.out 1).trans rfl; have hfz39_0 := zac BK331.out 0; have hfz39_1 := zac BK331.out 1) | ((with_reducible refine zaf (f := 108) rfl ?_); refine zat (some 34) rfl rfl Try.func108 zq6 rfl #[.bool true, .agg #[.int .u64 t328, .int .u64 t329]] rfl zq1 ?_; (with_reducible refine (zag.calls k true t328 t329 t332 _ A36.out).mono ?_); rintro e w40 ⟨rfl, hb⟩; refine ⟨_, rfl, ?_⟩; have n0_ := zaa.mk (zax (g := gb331) (o := .cells #[.int .u64 t328, .int .u64 t329] 136 (0, 0)) (by (with_reducible repeat (first | refine zal ?_ _ | refine zam ?_ | refine zai ?_ _)); refine zaA (cs := #[.int .u64 t328, .int .u64 0]) ?_ 1 _ rfl; (with_reducible repeat (first | refine zal ?_ _ | refine zam ?_ | refine zai ?_ _)); refine zaA (cs := #[.int .u64 0, .int .u64 0]) ?_ 0 _ rfl; (with_reducible repeat (first | refine zal ?_ _ | refine zam ?_ | refine zai ?_ _)); exact BK331.out) hb); have n1_ := zaa.mk (zan (by repeat (first | (with_reducible first | exact HB.out | apply zaq | apply zaj | apply zaU | refine zaS ?_ GE331.out) | exact HB.out)) hb); clear BK331; clear HB; have BK331 := n0_; have HB := n1_; clear n0_ n1_; (try clear hb); (try clear hb2); (try clear hk); (try clear hi)))
   go_ret; exact ⟨zq4, by repeat (first | (with_reducible first | exact HB.out | apply zaq | apply zaj | apply zaU | refine zaS ?_ GE331.out) | exact HB.out)⟩
 rw [if_neg c32] at H; have c32b0 := zdf c32; clear c32; replace H := zob H; obtain ⟨t333, A410, H⟩ := H; replace H : ((zap.f a1).bind fun t334 => ((zau.f k t333 t334).bind fun bt335 => (if bt335.2.2 = true then ((zaD.f bt335.1 bt335.2.1).bind fun bt339 => ((zag.f k false bt339.1 bt339.2).bind fun t341 => (some t341))) else ((zag.f k false bt335.1 bt335.2.1).bind fun t342 => (some t342))))) = some r := H; have A41 := zaa.mk A410; clear A410; replace H := zob H; obtain ⟨t334, A420, H⟩ := H; replace H : ((zau.f k t333 t334).bind fun bt335 => (if bt335.2.2 = true then ((zaD.f bt335.1 bt335.2.1).bind fun bt339 => ((zag.f k false bt339.1 bt339.2).bind fun t341 => (some t341))) else ((zag.f k false bt335.1 bt335.2.1).bind fun t342 => (some t342)))) = some r := H; have A42 := zaa.mk A420; clear A420; replace H := zob H; obtain ⟨⟨t335, t336, t337⟩, A430, H⟩ := H; replace H : (if t337 = true then ((zaD.f t335 t336).bind fun bt339 => ((zag.f k false bt339.1 bt339.2).bind fun t341 => (some t341))) else ((zag.f k false t335 t336).bind fun t342 => (some t342))) = some r := H; have A43 := zaa.mk A430; clear A430; by_cases c44 : t337 = true; rotate_left
 · replace c44 := Bool.eq_false_iff.mpr c44; subst c44; have H1 : ((zag.f k false t335 t336).bind fun t342 => (some t342)) = some r := by rw [if_neg (show ¬ (false = true) by decide)] at H; exact H
   clear H; have H := H1; clear H1; replace H := zob H; obtain ⟨t342, A530, H⟩ := H; replace H : (some t342) = some r := H; have A53 := zaa.mk A530; clear A530; obtain rfl := zoi H; go_enter Try.func93, Try.ntmps93
   go_wp2_with (first | ((with_reducible refine zaf (f := 106) rfl ?_); refine zat (some 19) rfl rfl Try.func106 zq6 rfl #[.int .i64 a0] rfl zq1 ?_; (with_reducible refine (zap.calls a0 t333 _ A41.out).mono ?_); rintro e w' ⟨rfl, ⟨nd, rfl⟩⟩; refine ⟨_, rfl, ?_⟩) | ((with_reducible refine zaf (f := 106) rfl ?_); refine zat (some 21) rfl rfl Try.func106 zq6 rfl #[.int .i64 a1] rfl zq1 ?_; (with_reducible refine (zap.calls a1 t334 _ A42.out).mono ?_); rintro e w' ⟨rfl, ⟨nd, rfl⟩⟩; refine ⟨_, rfl, ?_⟩) | ((with_reducible refine zaf (f := 105) rfl ?_); refine zat (some 22) rfl rfl Try.func105 zq6 rfl #[.int .u64 t333, .int .u64 t334] rfl zq1 ?_; (with_reducible refine (zau.calls k t333 t334 t335 t336 false _ A43.out).mono ?_); rintro e w54 ⟨rfl, hb⟩; refine ⟨_, rfl, ?_⟩; have n0_ := zaa.mk (zan zq0 hb); clear HB; have HB := n0_; clear n0_; (try clear hb); (try clear hb2); (try clear hk); (try clear hi)) | ((with_reducible refine zaK (N := 6) rfl ?_); refine zaJ ?hg (N := 6) ?hd (cs := #[.int .u64 0, .int .u64 0]) (t := 136) ?hr ?_; (case hd => rfl); (case hg => rfl); (case hr => first | (go_simp; done) | (go_simp; rfl)); intro gb338 hg w55 hbox hb; have n0_ := zaa.mk (zan zq0 hb); have n1_ := zaa.mk (hbox); have n2_ := zaa.mk ((by rw [hg]; exact (zao zq0) : w.heap.size ≤ gb338)); have n3_ := zaa.mk ((by rw [hg]; exact (zao zq0) : w.heap.size ≤ gb338)); clear HB; have HB := n0_; have BK338 := n1_; have GW338 := n2_; have GE338 := n3_; clear n0_ n1_ n2_ n3_; clear hb hbox hg; have hcz56_0 : w55.cell? ⟨gb338, 0, none⟩ = some (.int .u64 0) := (zab BK338.out 0).trans rfl; have hcz56_1 : w55.cell? ⟨gb338, 1, none⟩ = some (.int .u64 0) := (zab BK338.out 1).trans rfl; have hfz56_0 := zac BK338.out 0; have hfz56_1 := zac BK338.out 1) | ((with_reducible refine zaf (f := 108) rfl ?_); refine zat (some 34) rfl rfl Try.func108 zq6 rfl #[.bool false, .agg #[.int .u64 t335, .int .u64 t336]] rfl zq1 ?_; (with_reducible refine (zag.calls k false t335 t336 t342 _ A53.out).mono ?_); rintro e w57 ⟨rfl, hb⟩; refine ⟨_, rfl, ?_⟩; have n0_ := zaa.mk (zax (g := gb338) (o := .cells #[.int .u64 t335, .int .u64 t336] 136 (0, 0)) (by (with_reducible repeat (first | refine zal ?_ _ | refine zam ?_ | refine zai ?_ _)); refine zaA (cs := #[.int .u64 t335, .int .u64 0]) ?_ 1 _ rfl; (with_reducible repeat (first | refine zal ?_ _ | refine zam ?_ | refine zai ?_ _)); refine zaA (cs := #[.int .u64 0, .int .u64 0]) ?_ 0 _ rfl; (with_reducible repeat (first | refine zal ?_ _ | refine zam ?_ | refine zai ?_ _)); exact BK338.out) hb); have n1_ := zaa.mk (zan zlc hb); clear BK338; clear HB; have BK338 := n0_; have HB := n1_; clear n0_ n1_; (try clear hb); (try clear hb2); (try clear hk); (try clear hi)))
   go_ret; exact ⟨zq4, zlc⟩
 subst c44; have H1 : ((zaD.f t335 t336).bind fun bt339 => ((zag.f k false bt339.1 bt339.2).bind fun t341 => (some t341))) = some r := by rw [if_pos rfl] at H; exact H
 clear H; have H := H1; clear H1; replace H := zob H; obtain ⟨⟨t339, t340⟩, A450, H⟩ := H; replace H : ((zag.f k false t339 t340).bind fun t341 => (some t341)) = some r := H; have A45 := zaa.mk A450; clear A450; replace H := zob H; obtain ⟨t341, A460, H⟩ := H; replace H : (some t341) = some r := H; have A46 := zaa.mk A460; clear A460; obtain rfl := zoi H; go_enter Try.func93, Try.ntmps93
 go_wp2_with (first | ((with_reducible refine zaf (f := 106) rfl ?_); refine zat (some 19) rfl rfl Try.func106 zq6 rfl #[.int .i64 a0] rfl zq1 ?_; (with_reducible refine (zap.calls a0 t333 _ A41.out).mono ?_); rintro e w' ⟨rfl, ⟨nd, rfl⟩⟩; refine ⟨_, rfl, ?_⟩) | ((with_reducible refine zaf (f := 106) rfl ?_); refine zat (some 21) rfl rfl Try.func106 zq6 rfl #[.int .i64 a1] rfl zq1 ?_; (with_reducible refine (zap.calls a1 t334 _ A42.out).mono ?_); rintro e w' ⟨rfl, ⟨nd, rfl⟩⟩; refine ⟨_, rfl, ?_⟩) | ((with_reducible refine zaf (f := 105) rfl ?_); refine zat (some 22) rfl rfl Try.func105 zq6 rfl #[.int .u64 t333, .int .u64 t334] rfl zq1 ?_; (with_reducible refine (zau.calls k t333 t334 t335 t336 true _ A43.out).mono ?_); rintro e w47 ⟨rfl, hb⟩; refine ⟨_, rfl, ?_⟩; have n0_ := zaa.mk (zan zq0 hb); clear HB; have HB := n0_; clear n0_; (try clear hb); (try clear hb2); (try clear hk); (try clear hi)) | ((with_reducible refine zaK (N := 6) rfl ?_); refine zaJ ?hg (N := 6) ?hd (cs := #[.int .u64 0, .int .u64 0]) (t := 136) ?hr ?_; (case hd => rfl); (case hg => rfl); (case hr => first | (go_simp; done) | (go_simp; rfl)); intro gb338 hg w48 hbox hb; have n0_ := zaa.mk (zan zq0 hb); have n1_ := zaa.mk (hbox); have n2_ := zaa.mk ((by rw [hg]; exact (zao zq0) : w.heap.size ≤ gb338)); have n3_ := zaa.mk ((by rw [hg]; exact (zao zq0) : w.heap.size ≤ gb338)); clear HB; have HB := n0_; have BK338 := n1_; have GW338 := n2_; have GE338 := n3_; clear n0_ n1_ n2_ n3_; clear hb hbox hg; have hcz49_0 : w48.cell? ⟨gb338, 0, none⟩ = some (.int .u64 0) := (zab BK338.out 0).trans rfl; have hcz49_1 : w48.cell? ⟨gb338, 1, none⟩ = some (.int .u64 0) := (zab BK338.out 1).trans rfl; have hfz49_0 := zac BK338.out 0; have hfz49_1 := zac BK338.out 1) | ((with_reducible refine zaf (f := 107) rfl ?_); refine zat (some 31) rfl rfl Try.func107 zq6 rfl #[.agg #[.int .u64 t335, .int .u64 t336]] rfl zq1 ?_; (with_reducible refine (zaD.calls t335 t336 t339 t340 _ A45.out).mono ?_); rintro e w50 ⟨rfl, hb⟩; refine ⟨_, rfl, ?_⟩; have n0_ := zaa.mk (zax (g := gb338) (o := .cells #[.int .u64 t335, .int .u64 t336] 136 (0, 0)) (by (with_reducible repeat (first | refine zal ?_ _ | refine zam ?_ | refine zai ?_ _)); refine zaA (cs := #[.int .u64 t335, .int .u64 0]) ?_ 1 _ rfl; (with_reducible repeat (first | refine zal ?_ _ | refine zam ?_ | refine zai ?_ _)); refine zaA (cs := #[.int .u64 0, .int .u64 0]) ?_ 0 _ rfl; (with_reducible repeat (first | refine zal ?_ _ | refine zam ?_ | refine zai ?_ _)); exact BK338.out) hb); have n1_ := zaa.mk (zan zlc hb); clear BK338; clear HB; have BK338 := n0_; have HB := n1_; clear n0_ n1_; (try clear hb); (try clear hb2); (try clear hk); (try clear hi); have hcz51_0 : w50.cell? ⟨gb338, 0, none⟩ = some (.int .u64 t335) := (zab BK338.out 0).trans rfl; have hcz51_1 : w50.cell? ⟨gb338, 1, none⟩ = some (.int .u64 t336) := (zab BK338.out 1).trans rfl; have hfz51_0 := zac BK338.out 0; have hfz51_1 := zac BK338.out 1) | ((with_reducible refine zaf (f := 108) rfl ?_); refine zat (some 34) rfl rfl Try.func108 zq6 rfl #[.bool false, .agg #[.int .u64 t339, .int .u64 t340]] rfl zq1 ?_; (with_reducible refine (zag.calls k false t339 t340 t341 _ A46.out).mono ?_); rintro e w52 ⟨rfl, hb⟩; refine ⟨_, rfl, ?_⟩; have n0_ := zaa.mk (zax (g := gb338) (o := .cells #[.int .u64 t339, .int .u64 t340] 136 (0, 0)) (by (with_reducible repeat (first | refine zal ?_ _ | refine zam ?_ | refine zai ?_ _)); refine zaA (cs := #[.int .u64 t339, .int .u64 t336]) ?_ 1 _ rfl; (with_reducible repeat (first | refine zal ?_ _ | refine zam ?_ | refine zai ?_ _)); refine zaA (cs := #[.int .u64 t335, .int .u64 t336]) ?_ 0 _ rfl; (with_reducible repeat (first | refine zal ?_ _ | refine zam ?_ | refine zai ?_ _)); exact BK338.out) hb); have n1_ := zaa.mk (zan zlc hb); clear BK338; clear HB; have BK338 := n0_; have HB := n1_; clear n0_ n1_; (try clear hb); (try clear hb2); (try clear hk); (try clear hi)))
 go_ret; exact ⟨zq4, zlc⟩
def zeg.f (a0 : Int) : Option (Int) := if a0 > 2147483647 then (some 9223372036854775807) else (if a0 < (-2147483648) then (some (-9223372036854775808)) else (some (wrap64 (a0 * 4294967296))))
theorem zeg.calls (a0 : Int) (r : Int) (w : World) (h : zeg.f a0 = some r) :
  Calls Try.prog 21 #[.int .i64 a0] w fun e w' => e = .returned (.int .i64 r) ∧ Drawn0 w w' := by
 have H : (if a0 > 2147483647 then (some 9223372036854775807) else (if a0 < (-2147483648) then (some (-9223372036854775808)) else (some (wrap64 (a0 * 4294967296))))) = some r := h; clear h; by_cases c2 : a0 > 2147483647
 · rw [if_pos c2] at H; have c2b0 : decide (2147483647 < a0) = true := zdt c2; clear c2; obtain rfl := zoi H; go_enter Try.func21, Try.ntmps21
   go_wp2; go_ret; exact ⟨zq2, zq3⟩
 rw [if_neg c2] at H; have c2b0 : decide (2147483647 < a0) = false := zdf c2; clear c2; by_cases c3 : a0 < (-2147483648)
 · rw [if_pos c3] at H; have c3b0 := zdt c3; clear c3; obtain rfl := zoi H; go_enter Try.func21, Try.ntmps21
   go_wp2; go_ret; exact ⟨zq2, zq3⟩
 rw [if_neg c3] at H; have c3b0 := zdf c3; clear c3; obtain rfl := zoi H; go_enter Try.func21, Try.ntmps21
 go_wp2; go_ret; exact ⟨zq2, zq3⟩
def zbv.f (a0 : Int) : Option (Int) := if (Go.bits .and .i64 a0 4294967295) = 0 then (some (a0 / 4294967296)) else (some (wrap64 ((a0 / 4294967296) + 1)))
theorem zbv.calls (a0 : Int) (r : Int) (w : World) (h : zbv.f a0 = some r) :
  Calls Try.prog 92 #[.int .i64 a0] w fun e w' => e = .returned (.int .i64 r) ∧ Drawn0 w w' := by
 have H : (if (Go.bits .and .i64 a0 4294967295) = 0 then (some (a0 / 4294967296)) else (some (wrap64 ((a0 / 4294967296) + 1)))) = some r := h; clear h; by_cases c2 : (Go.bits .and .i64 a0 4294967295) = 0; rotate_left
 · rw [if_neg c2] at H; have c2b0 : ((Go.bits .and .i64 a0 4294967295) == 0) = false := beq_eq_false_iff_ne.mpr c2; have c2b1 : ((Go.bits .and .i64 a0 4294967295) != 0) = true := bne_iff_ne.mpr c2; obtain rfl := zoi H; go_enter Try.func92, Try.ntmps92
   go_wp2; go_ret; exact ⟨zq2, zq3⟩
 rw [if_pos c2] at H; have c2b0 : ((Go.bits .and .i64 a0 4294967295) == 0) = true := beq_iff_eq.mpr c2; have c2b1 : ((Go.bits .and .i64 a0 4294967295) != 0) = false := bne_eq_false_iff_eq.mpr c2; clear c2; obtain rfl := zoi H; go_enter Try.func92, Try.ntmps92
 go_wp2; go_ret; exact ⟨zq2, zq3⟩
def zbz.f (a0 : Int) (a1 : Int) (a2 : Int) : Option (Int) := if a0 < a1 then (some a1) else (if a0 > a2 then (some a2) else (some a0))
theorem zbz.calls (a0 : Int) (a1 : Int) (a2 : Int) (r : Int) (w : World) (h : zbz.f a0 a1 a2 = some r) :
  Calls Try.prog 88 #[.int .i64 a0, .int .i64 a1, .int .i64 a2] w fun e w' => e = .returned (.int .i64 r) ∧ Drawn0 w w' := by
 have H : (if a0 < a1 then (some a1) else (if a0 > a2 then (some a2) else (some a0))) = some r := h; clear h; by_cases c4 : a0 < a1
 · rw [if_pos c4] at H; have c4b0 := zdt c4; clear c4; obtain rfl := zoi H; go_enter Try.func88, Try.ntmps88
   go_wp2; go_ret; exact ⟨zq2, zq3⟩
 rw [if_neg c4] at H; have c4b0 := zdf c4; clear c4; by_cases c5 : a0 > a2
 · rw [if_pos c5] at H; have c5b0 : decide (a2 < a0) = true := zdt c5; clear c5; obtain rfl := zoi H; go_enter Try.func88, Try.ntmps88
   go_wp2; go_ret; exact ⟨zq2, zq3⟩
 rw [if_neg c5] at H; have c5b0 : decide (a2 < a0) = false := zdf c5; clear c5; obtain rfl := zoi H; go_enter Try.func88, Try.ntmps88
 go_wp2; go_ret; exact ⟨zq2, zq3⟩
end Go.Proofs.Ytemnfnbjapobcaa.Fix
end
section
namespace Go.Proofs.Ytemnfnbjapobcaa.FS
open Go.RowKit Go.Proofs.Ytemnfnbjapobcaa.Fix Go.Proofs.Ytemnfnbjapobcaa.FM Go.Proofs.ZW.PrintWords Go.Proofs.ZW.PrintLast Go.Proofs.ZW.PrintMore
def In (x : Int) : Prop := -9223372036854775808 ≤ x ∧ x ≤ 9223372036854775807
theorem zfo (z : Int) : In (sat z) := ⟨zqF z, zqE z⟩
theorem zrc {k : Nat} (hk : 400 ≤ k) {a b : Int} (ha : In a) (hb : In b) : zbQ.f k a b = some (sat (a + b)) := by
 obtain ⟨k, rfl⟩ : ∃ m, k = m + 1 := ⟨k - 1, zq8⟩
 obtain ⟨a0, a1⟩ := ha; obtain ⟨b0, b1⟩ := hb; unfold zbQ.f; simp only [zbQ.j0]; unfold wrap64 sat; repeat' split
 all_goals first | (congr 1; omega) | (simp_all; done) | (simp_all; omega)
theorem zqC {k : Nat} (hk : 400 ≤ k) {a b : Int} (ha : In a) (hb : In b) : zcG.f k a b = some (sat (a - b)) := by
 obtain ⟨k, rfl⟩ : ∃ m, k = m + 1 := ⟨k - 1, zq8⟩
 obtain ⟨a0, a1⟩ := ha; obtain ⟨b0, b1⟩ := hb; unfold zcG.f; simp only [zcG.j0]; unfold wrap64 sat; repeat' split
 all_goals first | (congr 1; omega) | (simp_all; done) | (simp_all; omega)
theorem zmu {k : Nat} (hk : 400 ≤ k) {a b : Int} (ha : In a) (hb : In b) : zaW.f k a b = some (sat (a + b)) := by
 obtain ⟨k, rfl⟩ : ∃ m, k = m + 1 := ⟨k - 1, zq8⟩
 obtain ⟨a0, a1⟩ := ha; obtain ⟨b0, b1⟩ := hb; unfold zaW.f; simp only [zaW.j0]; unfold wrap64 sat; repeat' split
 all_goals first | (congr 1; omega) | (simp_all; done) | (simp_all; omega)
theorem zpU {k : Nat} (hk : 400 ≤ k) {a b : Int} (ha : In a) (hb : In b) : zdL.f k a b = some (sat (a - b)) := by
 unfold zdL.f; by_cases h : b = -9223372036854775808
 · rw [if_pos h]; obtain ⟨a0, a1⟩ := ha; unfold wrap64 sat; repeat' split
   all_goals first | rfl | (congr 1; omega) | omega
 rw [if_neg h]; obtain ⟨b0, b1⟩ := hb; have e : wrap64 (-b) = -b := zaI zq8 zq8; rw [e, zmu hk ha ⟨zq8, zq8⟩]; simp only [Option.bind_some]
 congr 2
theorem zrn {n : Int} (_hn : In n) : zgA.f n = some (sat (n * 4294967296)) := by
 unfold zgA.f wrap64 sat; repeat' split
 all_goals first | rfl | (congr 1; omega) | omega
theorem zqG {n : Int} (_hn : In n) : zeg.f n = some (sat (n * 4294967296)) := by
 unfold zeg.f wrap64 sat; repeat' split
 all_goals first | rfl | (congr 1; omega) | omega
theorem zqq {x : Int} (hx : In x) : zcp.f x = some (-(-x / 4294967296)) := by
 obtain ⟨a0, a1⟩ := hx; unfold zcp.f wrap64; repeat' split
 all_goals first | rfl | (congr 1; omega) | omega
theorem zpc {x : Int} (hx : In x) : zbv.f x = some (-(-x / 4294967296)) := by
 obtain ⟨a0, a1⟩ := hx; unfold zbv.f; rw [zmq]; unfold wrap64; repeat' split
 all_goals first | rfl | (congr 1; omega) | omega
theorem zgl {a : Int} (ha : In a) : zav.f a = some (sz a) := by
 obtain ⟨a0, a1⟩ := ha; unfold zav.f sz; simp only [zct]; repeat' split
 all_goals (congr 1; omega)
theorem zft {a : Int} (ha : In a) : zap.f a = some (sz a) := by
 obtain ⟨a0, a1⟩ := ha; unfold zap.f sz wrap64; simp only [zct]; repeat' split
 all_goals (congr 1; omega)
theorem zjn (m : Int) (h0 : 0 ≤ m) (more : Bool) : zar.f (m % 18446744073709551616) (decide (18446744073709551616 ≤ m)) more =
  some ((m + if more then 1 else 0) % 18446744073709551616, decide (18446744073709551616 ≤ m + if more then 1 else 0)) := by
 unfold zar.f; simp only [zct]
 cases more
 · simp
 · by_cases h : 18446744073709551616 ≤ m
   · simp only [if_true, h]; have h2 : 18446744073709551616 ≤ m + 1 := by omega
     simp [h2]
   simp only [if_true, zdf h]; simp only [Bool.false_eq_true, if_false]
   congr 2
   · omega
   · rw [Bool.eq_iff_iff]; simp; omega
theorem zdY {k : Nat} (hk : 1 ≤ k) (m : Int) (h0 : 0 ≤ m) (below : Bool) : zah.f k (m % 18446744073709551616) (decide (18446744073709551616 ≤ m)) below = some (sat (if below then -m else m)) := by
 obtain ⟨k, rfl⟩ : ∃ q, k = q + 1 := ⟨k - 1, zq8⟩
 unfold zah.f; simp only [zah.j0]; unfold wrap64 sat
 cases below
 · by_cases h : 18446744073709551616 ≤ m
   · simp [h]
     repeat' split
     all_goals first | done | rfl | omega
   simp [h]
   repeat' split
   all_goals first | rfl | (congr 1; omega) | omega | (simp; omega)
 · by_cases h : 18446744073709551616 ≤ m
   · simp [h]
     repeat' split
     all_goals first | done | rfl | omega
   simp [h]
   repeat' split
   all_goals first | rfl | (congr 1; omega) | omega | (simp; omega)
theorem zmM {k : Nat} (hk : 1 ≤ k) (hi lo : Int) (h0 : 0 ≤ hi) (l0 : 0 ≤ lo) (l1 : lo < 18446744073709551616) (neg : Bool) : zag.f k neg hi lo = some (sat (if neg then -(hi * 18446744073709551616 + lo) else hi * 18446744073709551616 + lo)) := by
 obtain ⟨k, rfl⟩ : ∃ q, k = q + 1 := ⟨k - 1, zq8⟩
 unfold zag.f; simp only [zag.j0]; unfold wrap64 sat
 cases neg
 · simp
   repeat' split
   all_goals first | done | rfl | (congr 1; omega) | omega
 · simp
   repeat' split
   all_goals first | done | rfl | (congr 1; omega) | omega
theorem zqe (hi lo : Int) (h0 : 0 ≤ hi) (h1 : hi < 18446744073709551615) (l0 : 0 ≤ lo) (l1 : lo < 18446744073709551616) :
  ∃ hi' lo', zaD.f hi lo = some (hi', lo') ∧ 0 ≤ hi' ∧ 0 ≤ lo' ∧ lo' < 18446744073709551616 ∧ hi' * 18446744073709551616 + lo' = hi * 18446744073709551616 + lo + 1 := by
 unfold zaD.f; simp only [zct]; by_cases h : (lo + 1) % 18446744073709551616 = 0
 · rw [if_pos h]; exact ⟨_, _, rfl, zq8, zq8, zq8, zq8⟩
 rw [if_neg h]; exact ⟨_, _, rfl, zq8, zq8, zq8, zq8⟩
theorem zgm {x y m : Int} (hx0 : 0 ≤ x) (hx : x ≤ m) (hy0 : 0 ≤ y) (hy : y ≤ m) : 0 ≤ x * y ∧ x * y ≤ m * m :=
 ⟨Int.mul_nonneg hx0 hy0, Int.mul_le_mul hx hy hy0 zq8⟩
theorem zoR {a b : Int} (ha0 : 0 ≤ a) (ha : a < 18446744073709551616) (hb0 : 0 ≤ b) (hb : b < 18446744073709551616) :
  zaV.f a b = some (a * b / 18446744073709551616, a * b % 18446744073709551616) := by
 unfold zaV.f; rw [zfh a ha0 ha, zfh b hb0 hb]; obtain ⟨al, hal⟩ : ∃ x, a % 4294967296 = x := ⟨_, rfl⟩
 obtain ⟨ah, hah⟩ : ∃ x, a / 4294967296 = x := ⟨_, rfl⟩
 obtain ⟨bl, hbl⟩ : ∃ x, b % 4294967296 = x := ⟨_, rfl⟩
 obtain ⟨bh, hbh⟩ : ∃ x, b / 4294967296 = x := ⟨_, rfl⟩
 have ea : a = 4294967296 * ah + al := by omega
 have eb : b = 4294967296 * bh + bl := by omega
 rw [hal, hah, hbl, hbh]; have d1 := zgm (m := 4294967295) (show 0 ≤ al by omega) zq8 (show 0 ≤ bl by omega) zq8; have d2 := zgm (m := 4294967295) (show 0 ≤ al by omega) zq8 (show 0 ≤ bh by omega) zq8; have d3 := zgm (m := 4294967295) (show 0 ≤ ah by omega) zq8 (show 0 ≤ bl by omega) zq8; have d4 := zgm (m := 4294967295) (show 0 ≤ ah by omega) zq8 (show 0 ≤ bh by omega) zq8; have e : a * b = 18446744073709551616 * (ah * bh) + 4294967296 * (al * bh) + 4294967296 * (ah * bl) + al * bl := by
  rw [ea, eb]; grind
 rw [e]; clear e ea eb hal hah hbl hbh ha0 ha hb0 hb
 generalize al * bl = LL at *
 generalize al * bh = LH at *
 generalize ah * bl = HL at *
 generalize ah * bh = HH at *
 simp only [zct]; have m1 : LL % 18446744073709551616 = LL := by omega
 have m2 : LH % 18446744073709551616 = LH := by omega
 have m3 : HL % 18446744073709551616 = HL := by omega
 have m4 : HH % 18446744073709551616 = HH := by omega
 rw [m1, m2, m3, m4]; rw [zfh LL zq8 zq8, zfh LH zq8 zq8, zfh HL zq8 zq8]; rw [zmy _ _ zq8 zq8 zq8 zq8 zq8]
 congr 2 <;> omega
theorem zkx (P : Int) (_h0 : 0 ≤ P) : Go.bits .or .u64 (IntKind.u64.wrap (P / 18446744073709551616 * 4294967296)) (P % 18446744073709551616 / 4294967296) = (P / 4294967296) % 18446744073709551616 := by
 rw [zct, zmy _ _ zq8 zq8 zq8 zq8 zq8]; omega
theorem zpk (P : Int) (_h0 : 0 ≤ P) : ((P / 18446744073709551616 / 4294967296) != 0) = decide (18446744073709551616 ≤ P / 4294967296) := by
 rw [Bool.eq_iff_iff]; simp; omega
theorem zpj (P : Int) (_h0 : 0 ≤ P) : ((IntKind.u64.wrap (P % 18446744073709551616 * 4294967296)) != 0) = decide (P % 4294967296 ≠ 0) := by
 rw [zct, Bool.eq_iff_iff]; simp; omega
theorem zqB {a b : Int} : a * b = if (decide (a < 0) != decide (b < 0)) then -(sz a * sz b) else sz a * sz b := by
 unfold sz; by_cases h1 : a < 0 <;> by_cases h2 : b < 0 <;> simp [h1, h2, Int.neg_mul, Int.mul_neg]
theorem zky (P : Int) (_h0 : 0 ≤ P) : -P / 4294967296 = -(P / 4294967296 + if P % 4294967296 ≠ 0 then 1 else 0) := by
 split <;> omega
theorem zpl {a b : Int} (ha : In a) (hb : In b) : zbu.f (sz a) (sz b) = some (sz a * sz b / 18446744073709551616, sz a * sz b % 18446744073709551616) := by
 have a0 := zdX a; have b0 := zdX b; have a1 := zfm ha.1 ha.2; have b1 := zfm hb.1 hb.2; unfold zbu.f; rw [if_pos ⟨a0, zq8, b0, zq8⟩]
theorem zqP {k : Nat} (hk : 400 ≤ k) {a b : Int} (ha : In a) (hb : In b) : zfI.f k a b = some (sat (a * b / 4294967296)) := by
 have hP := Int.mul_nonneg (zdX a) (zdX b); unfold zfI.f; simp only [zgl ha, zgl hb, Option.bind_some, zpl ha hb, zkx _ hP, zpk _ hP, zpj _ hP]; have q0 : 0 ≤ sz a * sz b / 4294967296 := by omega
 simp only [zjn _ q0, Option.bind_some]; have e := @zqB a b; have hf := zky (sz a * sz b) hP; by_cases h1 : a < 0
 · by_cases h2 : b < 0
   · rw [if_pos h1, if_pos h2, zdY zq8 _ zq8]; simp [h1, h2] at e
     rw [e]; simp
   rw [if_pos h1, if_neg h2, zdY zq8 _ (by split <;> omega)]; simp [h1, h2] at e
   rw [e, hf]; simp
 by_cases h2 : b < 0
 · rw [if_neg h1, if_pos h2, zdY zq8 _ (by split <;> omega)]; simp [h1, h2] at e
   rw [e, hf]; simp
 rw [if_neg h1, if_neg h2, zdY zq8 _ zq8]; simp [h1, h2] at e
 rw [e]; simp
structure Dig (y yn1 yn0 un32 un1 q r : Int) : Prop where
 hy : y = yn1 * 4294967296 + yn0
 hn1 : 2147483648 ≤ yn1
 hn1' : yn1 < 4294967296
 hn0 : 0 ≤ yn0
 hn0' : yn0 < 4294967296
 hu : 0 ≤ un32
 huy : un32 < y
 h1 : 0 ≤ un1
 h1' : un1 < 4294967296
 q0 : 0 ≤ q
 q1 : q ≤ 4294967297
 rr : q * yn1 + r = un32
 r0 : 0 ≤ r
 r1 : r < 4294967296
 up : un32 * 4294967296 + un1 < q * y + y
theorem Dig.qy {y yn1 yn0 un32 un1 q r : Int} (h : Dig y yn1 yn0 un32 un1 q r) : q * y = (un32 - r) * 4294967296 + q * yn0 := by
 have a := h.hy; have b := h.rr; rw [a]; grind
theorem Dig.ypos {y yn1 yn0 un32 un1 q r : Int} (h : Dig y yn1 yn0 un32 un1 q r) : 0 < y := by
 have a := h.hy; have b := h.hn1; have c := h.hn0; omega
theorem Dig.no {y yn1 yn0 un32 un1 q r : Int} (h : Dig y yn1 yn0 un32 un1 q r) (hc : q * yn0 ≤ 4294967296 * r + un1) : q = (un32 * 4294967296 + un1) / y := by
 have hq := h.qy; have h1 : q ≤ (un32 * 4294967296 + un1) / y := (Int.le_ediv_iff_mul_le h.ypos).2 zq8; have h2 : (un32 * 4294967296 + un1) / y < q + 1 := (Int.ediv_lt_iff_lt_mul h.ypos).2 (by
  have := h.up; have e : (q + 1) * y = q * y + y := by grind
  omega)
 omega
theorem Dig.yes {y yn1 yn0 un32 un1 q r : Int} (h : Dig y yn1 yn0 un32 un1 q r) (hc : 4294967296 ≤ q ∨ 4294967296 * r + un1 < q * yn0) : un32 * 4294967296 + un1 < q * y ∧ 1 ≤ q := by
 have hy := h.ypos; have a1 := h.huy; have a2 := h.h1'; have a3 := h.hu; have a4 := h.h1; have key : un32 * 4294967296 + un1 < q * y := by
  rcases hc with hc | hc
  · have := Int.mul_le_mul_of_nonneg_right hc (Int.le_of_lt hy); omega
  · have hq := h.qy; omega
 refine ⟨key, ?_⟩; by_cases hz : q ≤ 0
 · have hq0 := h.q0; obtain rfl : q = 0 := by omega
   omega
 · omega
theorem Dig.next {y yn1 yn0 un32 un1 q r : Int} (h : Dig y yn1 yn0 un32 un1 q r) (hc : 4294967296 ≤ q ∨ 4294967296 * r + un1 < q * yn0) (hr : r + yn1 < 4294967296) : Dig y yn1 yn0 un32 un1 (q - 1) (r + yn1) := by
 obtain ⟨k1, k2⟩ := h.yes hc; have e1 : (q - 1) * y = q * y - y := by grind
 have e2 : (q - 1) * yn1 = q * yn1 - yn1 := by grind
 exact { h with q0 := by omega, q1 := by have := h.q1; omega, rr := by have := h.rr; omega, r0 := by have := h.r0; have := h.hn1; omega, r1 := hr, up := by omega }
theorem Dig.stop {y yn1 yn0 un32 un1 q r : Int} (h : Dig y yn1 yn0 un32 un1 q r) (hc : 4294967296 ≤ q ∨ 4294967296 * r + un1 < q * yn0) (hr : 4294967296 ≤ r + yn1) : q - 1 = (un32 * 4294967296 + un1) / y := by
 obtain ⟨k1, k2⟩ := h.yes hc; have hq := h.qy; have e1 : (q - 1) * y = q * y - y := by grind
 have e3 : (q - 1) * yn0 = q * yn0 - yn0 := by grind
 have hm : (q - 1) * yn0 ≤ 4294967296 * 4294967295 := Int.mul_le_mul (by have := h.q1; omega) (by have := h.hn0'; omega) h.hn0 zaR; have a1 := h.hy; have a2 := h.h1; have h1 : q - 1 ≤ (un32 * 4294967296 + un1) / y := (Int.le_ediv_iff_mul_le h.ypos).2 zq8; have h2 : (un32 * 4294967296 + un1) / y < q := (Int.ediv_lt_iff_lt_mul h.ypos).2 zq8; omega
theorem Dig.start {y yn1 yn0 un32 un1 : Int} (hy : y = yn1 * 4294967296 + yn0) (hn1 : 2147483648 ≤ yn1) (hn1' : yn1 < 4294967296) (hn0 : 0 ≤ yn0) (hn0' : yn0 < 4294967296) (hu : 0 ≤ un32) (huy : un32 < y) (h1 : 0 ≤ un1) (h1' : un1 < 4294967296) :
  Dig y yn1 yn0 un32 un1 (un32 / yn1) (un32 - un32 / yn1 * yn1) := by
 have hp : 0 < yn1 := by omega
 have d1 := Int.emod_add_mul_ediv un32 yn1; have d2 := Int.emod_nonneg un32 (show yn1 ≠ 0 by omega); have d3 := Int.emod_lt_of_pos un32 hp; have e0 : un32 / yn1 * yn1 = yn1 * (un32 / yn1) := Int.mul_comm _ _; have q0 : 0 ≤ un32 / yn1 := Int.ediv_nonneg hu zq8; have q1 : un32 / yn1 < 4294967298 := (Int.ediv_lt_iff_lt_mul hp).2 zq8; refine ⟨hy, hn1, hn1', hn0, hn0', hu, huy, h1, h1', q0, zq8, zq8, zq8, zq8, ?_⟩; have e1 : un32 / yn1 * y + y = (yn1 * (un32 / yn1) + yn1) * 4294967296 + (un32 / yn1 * yn0 + yn0) := by rw [hy]; grind
 have e2 : 0 ≤ un32 / yn1 * yn0 := Int.mul_nonneg q0 hn0; omega
theorem Dig.prod {y yn1 yn0 un32 un1 q r : Int} (h : Dig y yn1 yn0 un32 un1 q r) (hq : q < 4294967296) : 0 ≤ q * yn0 ∧ q * yn0 < 18446744073709551616 := by
 have := zgm (m := 4294967295) h.q0 zq8 h.hn0 (by have := h.hn0'; omega); omega
theorem zrp (y s yn1 yn0 un32 un1 un0 : Int) (n : Nat) : ∀ (k : Nat) (q r : Int), 2 * n + 2 ≤ k → Dig y yn1 yn0 un32 un1 q r → 4294967296 ≤ r + n * 2147483648 →
  ∃ k', k ≤ k' + 2 * n + 2 ∧ zaw.l0 k y s yn1 yn0 un32 un1 un0 q r = zaw.j2 k' y s yn1 yn0 un32 un1 un0 ((un32 * 4294967296 + un1) / y) := by
 induction n with
 | zero => intro k q r _ h hm; have := h.r1; omega
 | succ n ih =>
  intro k q r hk h hm; obtain ⟨k, rfl⟩ : ∃ m, k = m + 2 := ⟨k - 2, zq8⟩
  have hr0 := h.r0; have hr1 := h.r1; have hq0 := h.q0; have hq1 := h.q1; have b1 := h.h1; have b2 := h.h1'; have b3 := h.hn1; have b4 := h.hn1'; have w1 : IntKind.u64.wrap (r + yn1) = r + yn1 := by rw [zct]; omega
  have goes : (4294967296 ≤ q ∨ 4294967296 * r + un1 < q * yn0) → ∃ k', k + 2 ≤ k' + 2 * (n + 1) + 2 ∧ zaw.j1 (k + 1) y s yn1 yn0 un32 un1 un0 q r true = zaw.j2 k' y s yn1 yn0 un32 un1 un0 ((un32 * 4294967296 + un1) / y) := by
   intro hc; have hq2 := (h.yes hc).2; have w2 : IntKind.u64.wrap (q - 1) = q - 1 := by rw [zct]; omega
   simp only [zaw.j1, if_true, w1, w2]; by_cases hs : r + yn1 ≥ 4294967296
   · rw [if_pos hs, h.stop hc hs]; exact ⟨k, zq8, rfl⟩
   rw [if_neg hs]; obtain ⟨k', hk', e⟩ := ih k (q - 1) (r + yn1) zq8 (h.next hc zq8) zq8; exact ⟨k', zq8, e⟩
  simp only [zaw.l0]; by_cases hb : q ≥ 4294967296
  · rw [if_pos hb]; exact goes (.inl hb)
  rw [if_neg hb]; have hp := h.prod zq8; have w3 : IntKind.u64.wrap (q * yn0) = q * yn0 := by rw [zct]; omega
  have w4 : IntKind.u64.wrap (IntKind.u64.wrap (4294967296 * r) + un1) = 4294967296 * r + un1 := by simp only [zct]; omega
  rw [w3, w4]; by_cases hc : q * yn0 > 4294967296 * r + un1
  · rw [zdt hc]; exact goes (.inr hc)
  rw [zdf hc]; simp only [zaw.j1]; rw [if_neg zaR, ← h.no zq8]; exact ⟨k, zq8, rfl⟩
theorem zro (y s yn1 yn0 un0 q1 un21 : Int) (hs0 : 0 ≤ s) (n : Nat) : ∀ (k : Nat) (q r : Int), 2 * n + 2 ≤ k → Dig y yn1 yn0 un21 un0 q r → 4294967296 ≤ r + n * 2147483648 →
  zaw.l1 k y s yn1 yn0 un0 q1 r un21 q = some (IntKind.u64.wrap ((IntKind.u64.wrap (q1 * 4294967296)) + (un21 * 4294967296 + un0) / y), shr .u64 (IntKind.u64.wrap ((IntKind.u64.wrap ((IntKind.u64.wrap (un21 * 4294967296)) + un0)) - (IntKind.u64.wrap ((un21 * 4294967296 + un0) / y * y)))) s) := by
 induction n with
 | zero => intro k q r _ h hm; have := h.r1; omega
 | succ n ih =>
  intro k q r hk h hm; obtain ⟨k, rfl⟩ : ∃ m, k = m + 2 := ⟨k - 2, zq8⟩
  have hr0 := h.r0; have hr1 := h.r1; have hq0 := h.q0; have hq1 := h.q1; have b1 := h.h1; have b2 := h.h1'; have b3 := h.hn1; have b4 := h.hn1'; have w1 : IntKind.u64.wrap (r + yn1) = r + yn1 := by rw [zct]; omega
  have goes : (4294967296 ≤ q ∨ 4294967296 * r + un0 < q * yn0) → zaw.j4 (k + 1) y s yn1 yn0 un0 q1 r un21 q true = some (IntKind.u64.wrap ((IntKind.u64.wrap (q1 * 4294967296)) + (un21 * 4294967296 + un0) / y), shr .u64 (IntKind.u64.wrap ((IntKind.u64.wrap ((IntKind.u64.wrap (un21 * 4294967296)) + un0)) - (IntKind.u64.wrap ((un21 * 4294967296 + un0) / y * y)))) s) := by
   intro hc; have hq2 := (h.yes hc).2; have w2 : IntKind.u64.wrap (q - 1) = q - 1 := by rw [zct]; omega
   simp only [zaw.j4, if_true, w1, w2]; by_cases hs : r + yn1 ≥ 4294967296
   · rw [if_pos hs, if_pos hs0, h.stop hc hs]
   rw [if_neg hs]; exact ih k (q - 1) (r + yn1) zq8 (h.next hc zq8) zq8
  simp only [zaw.l1]; by_cases hb : q ≥ 4294967296
  · rw [if_pos hb]; exact goes (.inl hb)
  rw [if_neg hb]; have hp := h.prod zq8; have w3 : IntKind.u64.wrap (q * yn0) = q * yn0 := by rw [zct]; omega
  have w4 : IntKind.u64.wrap (IntKind.u64.wrap (4294967296 * r) + un0) = 4294967296 * r + un0 := by simp only [zct]; omega
  rw [w3, w4]; by_cases hc : q * yn0 > 4294967296 * r + un0
  · rw [zdt hc]; exact goes (.inr hc)
  rw [zdf hc]; simp only [zaw.j4]; rw [if_neg zaR, if_pos hs0, ← h.no zq8]
theorem zlP (f x : Nat) : Lib.bitLenAux f x ≤ f := by
 induction f generalizing x with
 | zero => exact Nat.le_refl _
 | succ f ih =>
  unfold Lib.bitLenAux; split
  · omega
  · have := ih (x / 2); omega
theorem zko (f : Nat) : ∀ x : Nat, x ≠ 0 → x < 2 ^ f → 1 ≤ Lib.bitLenAux f x ∧ 2 ^ (Lib.bitLenAux f x - 1) ≤ x ∧ x < 2 ^ Lib.bitLenAux f x := by
 induction f with
 | zero => intro x h0 h1; simp at h1; omega
 | succ f ih =>
  intro x h0 h1; unfold Lib.bitLenAux; rw [if_neg h0]; by_cases hz : x / 2 = 0
  · have e : Lib.bitLenAux f (x / 2) = 0 := by rw [hz]; cases f <;> simp [Lib.bitLenAux]
    rw [e]; refine ⟨zq8, ?_, ?_⟩
    · simp; omega
    · simp; omega
  · obtain ⟨g0, g1, g2⟩ := ih (x / 2) hz (by rw [Nat.pow_succ] at h1; omega); refine ⟨zq8, ?_, ?_⟩
    · rw [show 1 + Lib.bitLenAux f (x / 2) - 1 = (Lib.bitLenAux f (x / 2) - 1) + 1 by omega, Nat.pow_succ]; omega
    · rw [show 1 + Lib.bitLenAux f (x / 2) = Lib.bitLenAux f (x / 2) + 1 by omega, Nat.pow_succ]; omega
theorem zrA (y : Int) (h0 : 0 < y) (h1 : y < 18446744073709551616) :
  ∃ s : Nat, s ≤ 63 ∧ (64 - (Lib.bitLen y.toNat : Int)) = s ∧ 9223372036854775808 ≤ y * 2 ^ s ∧ y * 2 ^ s < 18446744073709551616 := by
 obtain ⟨n, rfl⟩ := Int.eq_ofNat_of_zero_le (Int.le_of_lt h0); have hn0 : n ≠ 0 := by omega
 obtain ⟨g0, g1, g2⟩ := zko 64 n hn0 zq8; have g3 := zlP 64 n; have hb : Lib.bitLen (n : Int).toNat = Lib.bitLenAux 64 n := rfl; rw [hb]
 generalize Lib.bitLenAux 64 n = L at *
 refine ⟨64 - L, zq8, zq8, ?_, ?_⟩
 · have e : 2 ^ (L - 1) * 2 ^ (64 - L) = 9223372036854775808 := by
    rw [← Nat.pow_add, show L - 1 + (64 - L) = 63 by omega]
   have := Nat.mul_le_mul_right (2 ^ (64 - L)) g1; rw [e] at this; have z : ((n * 2 ^ (64 - L) : Nat) : Int) = (n : Int) * 2 ^ (64 - L) := by simp
   rw [← z]; omega
 · have e : 2 ^ L * 2 ^ (64 - L) = 18446744073709551616 := by
    rw [← Nat.pow_add, show L + (64 - L) = 64 by omega]
   have := Nat.mul_lt_mul_of_pos_right g2 (Nat.two_pow_pos (64 - L)); rw [e] at this; have z : ((n * 2 ^ (64 - L) : Nat) : Int) = (n : Int) * 2 ^ (64 - L) := by simp
   rw [← z]; omega
theorem zqD (x : Int) (s : Nat) (hs : s ≤ 64) : shl .u64 x s = (x * 2 ^ s) % 18446744073709551616 := by
 unfold shl; rw [zct]; have e : min (s : Int).toNat IntKind.u64.bits = s := by show min s 64 = s; omega
 rw [e]
theorem zjl (x : Int) (s : Nat) (hs : s ≤ 64) : shr .u64 x s = x / 2 ^ s := by
 unfold shr; have e : min (s : Int).toNat IntKind.u64.bits = s := by show min s 64 = s; omega
 rw [e]
theorem zpu {k : Nat} (hk : 20 ≤ k) {hi lo y : Int} (h0 : 0 ≤ hi) (hy : hi < y) (hy1 : y < 18446744073709551616) (l0 : 0 ≤ lo) (l1 : lo < 18446744073709551616) :
  zaw.f k hi lo y = some ((hi * 18446744073709551616 + lo) / y, (hi * 18446744073709551616 + lo) % y) := by
 unfold zaw.f; rw [if_neg zq8, if_neg zq8]; by_cases hz : hi = 0
 · rw [if_pos hz]; subst hz; have e1 : lo.tdiv y = lo / y := Int.tdiv_eq_ediv_of_nonneg l0; have e2 : lo.tmod y = lo % y := Int.tmod_eq_emod_of_nonneg l0; rw [e1, e2, zct]; have d1 := Int.ediv_nonneg l0 (show 0 ≤ y by omega); have d2 := Int.ediv_le_self y l0; rw [Int.emod_eq_of_lt d1 zq8]; simp
 rw [if_neg hz]; obtain ⟨s, hs, es, n1, n2⟩ := zrA y zq8 hy1; unfold zbI.f; rw [if_pos zq8, if_pos zq8, es]; simp only [Option.bind_some]; have ws : IntKind.u64.wrap (s : Int) = s := by rw [zct]; omega
 have ws2 : IntKind.u64.wrap (64 - (s : Int)) = ((64 - s : Nat) : Int) := by rw [zct]; omega
 rw [ws, ws2, if_pos zq8, if_pos zq8]; simp only [zqD _ s zq8, zjl _ (64 - s) zq8]; obtain ⟨p, hp⟩ : ∃ p : Int, (2 : Int) ^ s = p := ⟨_, rfl⟩
 obtain ⟨p', hp'⟩ : ∃ p' : Int, (2 : Int) ^ (64 - s) = p' := ⟨_, rfl⟩
 have hpp : p * p' = 18446744073709551616 := by
  rw [← hp, ← hp', ← Int.pow_add, show s + (64 - s) = 64 by omega]
  decide
 have hp0 : 0 < p := by rw [← hp]; exact Int.pow_pos zaR
 have hp0' : 0 < p' := by rw [← hp']; exact Int.pow_pos zaR
 rw [hp] at n1 n2; rw [hp, hp']; have hyn : y * p % 18446744073709551616 = y * p := Int.emod_eq_of_lt zq8 n2; have hhi : hi * p % 18446744073709551616 = hi * p := by
  have := Int.mul_lt_mul_of_pos_right hy hp0; exact Int.emod_eq_of_lt (Int.mul_nonneg h0 zq8) zq8
 rw [hyn, hhi]; have l2 := Int.emod_add_mul_ediv lo p'; have l3 := Int.emod_nonneg lo (show p' ≠ 0 by omega); have l4 := Int.emod_lt_of_pos lo hp0'; have l5 : lo / p' < p := (Int.ediv_lt_iff_lt_mul hp0').2 zq8; have l6 : 0 ≤ lo / p' := Int.ediv_nonneg l0 zq8; have l7 : lo * p = (lo / p') * 18446744073709551616 + lo % p' * p := by
  have : lo * p = (lo % p' + p' * (lo / p')) * p := by rw [l2]
  rw [this, ← hpp]; grind
 have l8 : lo % p' * p < 18446744073709551616 := by
  have := Int.mul_lt_mul_of_pos_right l4 hp0; rw [Int.mul_comm p' p, hpp] at this; exact this
 have l9 : 0 ≤ lo % p' * p := Int.mul_nonneg l3 zq8; have l10 : lo * p % 18446744073709551616 = lo % p' * p := by omega
 have h1 : hi * p + p ≤ y * p := by
  have := Int.mul_le_mul_of_nonneg_right (show hi + 1 ≤ y by omega) (show 0 ≤ p by omega); have e : (hi + 1) * p = hi * p + p := by grind
  omega
 have h2 : 0 ≤ hi * p := Int.mul_nonneg h0 zq8; have hor : Go.bits .or .u64 (hi * p) (lo / p') = hi * p + lo / p' := by
  refine bits_join .u64 64 zaR zfB s _ _ h2 ?_ zq8 l6 (by rw [hp]; exact l5) zq8; rw [hp]; exact Int.mul_emod_left _ _
 rw [hor, l10]; have hT : (hi * 18446744073709551616 + lo) * p = (hi * p + lo / p') * 18446744073709551616 + lo % p' * p := by
  have : (hi * 18446744073709551616 + lo) * p = hi * p * 18446744073709551616 + lo * p := by grind
  rw [this, l7]; grind
 have eq1 : (hi * 18446744073709551616 + lo) / y = (hi * 18446744073709551616 + lo) * p / (y * p) := (Int.mul_ediv_mul_of_pos_left _ _ hp0).symm; have eq2 : (hi * 18446744073709551616 + lo) % y = (hi * 18446744073709551616 + lo) * p % (y * p) / p := by
  rw [Int.mul_comm _ p, Int.mul_comm y p, Int.mul_emod_mul_of_pos _ _ hp0, Int.mul_ediv_cancel_left _ zq8]
 rw [eq1, eq2, hT]; have hup : hi * p + lo / p' < y * p := by omega
 have hun : 0 ≤ hi * p + lo / p' := by omega
 generalize hi * p + lo / p' = u at *
 generalize lo % p' * p = v at *
 generalize y * p = yn at *
 clear eq1 eq2 hT h1 h2 hor l2 l3 l4 l5 l6 l7 l10 hhi hyn; rw [zfh yn zq8 n2, zfh v l9 l8]; rw [if_neg zq8]; obtain ⟨y1, hy1⟩ : ∃ x, yn / 4294967296 = x := ⟨_, rfl⟩
 obtain ⟨y0, hy0⟩ : ∃ x, yn % 4294967296 = x := ⟨_, rfl⟩
 obtain ⟨v1, hv1⟩ : ∃ x, v / 4294967296 = x := ⟨_, rfl⟩
 obtain ⟨v0, hv0⟩ : ∃ x, v % 4294967296 = x := ⟨_, rfl⟩
 rw [hy1, hy0, hv1, hv0]; have S := Dig.start (y := yn) (yn1 := y1) (yn0 := y0) (un32 := u) (un1 := v1) zq8 zq8 zq8 zq8 zq8 hun hup zq8 zq8; have t1 : u.tdiv y1 = u / y1 := Int.tdiv_eq_ediv_of_nonneg hun; have hS0 := S.q0; have hS1 := S.q1; have hSr := S.rr; have hSr0 := S.r0; have hSr1 := S.r1; have t2 : IntKind.u64.wrap (u / y1) = u / y1 := by rw [zct]; omega
 have t3 : IntKind.u64.wrap (u - IntKind.u64.wrap (u / y1 * y1)) = u - u / y1 * y1 := by simp only [zct]; omega
 rw [t1, t2, t3]; obtain ⟨k', hk', e⟩ := zrp yn s y1 y0 u v1 v0 2 k _ _ zq8 S zq8; rw [e]; obtain ⟨k', rfl⟩ : ∃ m, k' = m + 1 := ⟨k' - 1, zq8⟩
 simp only [zaw.j2]; rw [if_neg zq8]; have hyp : 0 < yn := by omega
 have c1 := Int.emod_add_mul_ediv (u * 4294967296 + v1) yn; have c2 := Int.emod_nonneg (u * 4294967296 + v1) (show yn ≠ 0 by omega); have c3 := Int.emod_lt_of_pos (u * 4294967296 + v1) hyp; have c4 : (u * 4294967296 + v1) / yn < 4294967296 := (Int.ediv_lt_iff_lt_mul hyp).2 zq8; have c5 : 0 ≤ (u * 4294967296 + v1) / yn := Int.ediv_nonneg zq8 zq8; have c6 : (u * 4294967296 + v1) / yn * yn = yn * ((u * 4294967296 + v1) / yn) := Int.mul_comm _ _; obtain ⟨q1, hq1⟩ : ∃ x, (u * 4294967296 + v1) / yn = x := ⟨_, rfl⟩
 obtain ⟨r1, hr1⟩ : ∃ x, (u * 4294967296 + v1) % yn = x := ⟨_, rfl⟩
 rw [hq1] at c1 c4 c5 c6 ⊢; rw [hr1] at c1 c2 c3; rw [c6]; have w21 : IntKind.u64.wrap (IntKind.u64.wrap (IntKind.u64.wrap (u * 4294967296) + v1) - IntKind.u64.wrap (yn * q1)) = r1 := by simp only [zct]; omega
 rw [w21]; have S2 := Dig.start (y := yn) (yn1 := y1) (yn0 := y0) (un32 := r1) (un1 := v0) zq8 zq8 zq8 zq8 zq8 c2 c3 zq8 zq8; have t4 : r1.tdiv y1 = r1 / y1 := Int.tdiv_eq_ediv_of_nonneg c2; have hZ0 := S2.q0; have hZ1 := S2.q1; have hZr := S2.rr; have hZr0 := S2.r0; have hZr1 := S2.r1; have t5 : IntKind.u64.wrap (r1 / y1) = r1 / y1 := by rw [zct]; omega
 have t6 : IntKind.u64.wrap (r1 - IntKind.u64.wrap (r1 / y1 * y1)) = r1 - r1 / y1 * y1 := by simp only [zct]; omega
 rw [t4, t5, t6, zro yn s y1 y0 v0 q1 r1 zq8 2 k' _ _ zq8 S2 zq8, zjl _ s zq8, hp]; have f1 := Int.emod_add_mul_ediv (r1 * 4294967296 + v0) yn; have f2 := Int.emod_nonneg (r1 * 4294967296 + v0) (show yn ≠ 0 by omega); have f3 := Int.emod_lt_of_pos (r1 * 4294967296 + v0) hyp; have f4 : (r1 * 4294967296 + v0) / yn < 4294967296 := (Int.ediv_lt_iff_lt_mul hyp).2 zq8; have f5 : 0 ≤ (r1 * 4294967296 + v0) / yn := Int.ediv_nonneg zq8 zq8; have f6 : (r1 * 4294967296 + v0) / yn * yn = yn * ((r1 * 4294967296 + v0) / yn) := Int.mul_comm _ _; obtain ⟨q0, hq0⟩ : ∃ x, (r1 * 4294967296 + v0) / yn = x := ⟨_, rfl⟩
 obtain ⟨r0, hr0⟩ : ∃ x, (r1 * 4294967296 + v0) % yn = x := ⟨_, rfl⟩
 rw [hq0] at f1 f4 f5 f6 ⊢; rw [hr0] at f1 f2 f3; rw [f6]; have w22 : IntKind.u64.wrap (IntKind.u64.wrap (IntKind.u64.wrap (r1 * 4294967296) + v0) - IntKind.u64.wrap (yn * q0)) = r0 := by simp only [zct]; omega
 have w23 : IntKind.u64.wrap (IntKind.u64.wrap (q1 * 4294967296) + q0) = q1 * 4294967296 + q0 := by simp only [zct]; omega
 rw [w22, w23]; have fin := (Int.ediv_emod_unique (a := u * 18446744073709551616 + v) (b := yn) (r := r0) (q := q1 * 4294967296 + q0) hyp).2 ⟨by
  have e1 : yn * (q1 * 4294967296 + q0) = yn * q1 * 4294967296 + yn * q0 := by grind
  rw [e1]; omega, f2, f3⟩
 rw [fin.1, fin.2]
theorem zgx (t : Nat) : (0 : Int) < 2 ^ t := Int.pow_pos zaR
theorem zrD (N : Int) (t : Nat) : N / 2 ^ t = 2 * (N / 2 ^ (t + 1)) + (N / 2 ^ t) % 2 := by
 have e : N / 2 ^ (t + 1) = N / 2 ^ t / 2 := by
  rw [Int.pow_succ, ← Int.ediv_ediv_of_nonneg (Int.le_of_lt (zgx t))]
 omega
theorem zoT (M b d : Int) (hd : 0 < d) (hb0 : 0 ≤ b) (hb1 : b < 2) (_hM : 0 ≤ M) :
  (2 * M + b) / d = 2 * (M / d) + (if 2 * (M % d) + b ≥ d then 1 else 0) ∧ (2 * M + b) % d = 2 * (M % d) + b - (if 2 * (M % d) + b ≥ d then d else 0) := by
 have h1 := Int.emod_add_mul_ediv M d; have h2 := Int.emod_nonneg M (show d ≠ 0 by omega); have h3 := Int.emod_lt_of_pos M hd; refine (Int.ediv_emod_unique hd).2 ⟨?_, ?_, ?_⟩
 · split
   · have : d * (2 * (M / d) + 1) = 2 * (d * (M / d)) + d := by grind
     omega
   · have : d * (2 * (M / d) + 0) = 2 * (d * (M / d)) := by grind
     omega
 · split <;> omega
 · split <;> omega
theorem zqY (hi lo : Int) (j : Nat) (l0 : 0 ≤ lo) (l1 : lo < 18446744073709551616) : (hi * 18446744073709551616 + lo) / 2 ^ (64 + j) = hi / 2 ^ j := by
 rw [Int.pow_add, ← Int.ediv_ediv_of_nonneg zaR]; have : (hi * 18446744073709551616 + lo) / 2 ^ 64 = hi := by
  show (hi * 18446744073709551616 + lo) / 18446744073709551616 = hi
  omega
 rw [this]
theorem zqX (hi lo : Int) (i : Nat) (hi' : i ≤ 63) : (hi * 18446744073709551616 + lo) / 2 ^ i % 2 = lo / 2 ^ i % 2 := by
 have e : (18446744073709551616 : Int) = 2 ^ i * (2 * 2 ^ (63 - i)) := by
  rw [← Int.mul_assoc, Int.mul_comm (2 ^ i) 2, Int.mul_assoc, ← Int.pow_add, show i + (63 - i) = 63 by omega]
  decide
 have e2 : hi * 18446744073709551616 + lo = lo + 2 ^ i * (2 * (hi * 2 ^ (63 - i))) := by rw [e]; grind
 rw [e2, Int.add_mul_ediv_left _ _ (by have := zgx i; omega)]; omega
theorem zqb (d hi lo : Int) (hd : 0 < d) (hd1 : d ≤ 9223372036854775808) (h0 : 0 ≤ hi) (h1 : hi < 4294967296) (l0 : 0 ≤ lo) (l1 : lo < 18446744073709551616) (t : Nat) :
  ∀ k : Nat, t ≤ 128 → 2 * t + 1 ≤ k →
  zau.l0 k d ((t : Int) - 1) hi lo ((hi * 18446744073709551616 + lo) / 2 ^ t / d / 18446744073709551616) ((hi * 18446744073709551616 + lo) / 2 ^ t / d % 18446744073709551616) 0 ((hi * 18446744073709551616 + lo) / 2 ^ t % d) =
   some ((hi * 18446744073709551616 + lo) / d / 18446744073709551616, (hi * 18446744073709551616 + lo) / d % 18446744073709551616, ((hi * 18446744073709551616 + lo) % d != 0)) := by
 obtain ⟨N, hN⟩ : ∃ N, hi * 18446744073709551616 + lo = N := ⟨_, rfl⟩
 induction t with
 | zero =>
  intro k _ hk; obtain ⟨k, rfl⟩ : ∃ m, k = m + 1 := ⟨k - 1, zq8⟩
  simp only [zau.l0]; rw [if_neg zq8]; simp
 | succ t ih =>
  intro k ht hk; rw [hN] at ih ⊢; obtain ⟨k, rfl⟩ : ∃ m, k = m + 2 := ⟨k - 2, zq8⟩
  have hM : 0 ≤ N / 2 ^ (t + 1) := Int.ediv_nonneg zq8 (Int.le_of_lt (zgx _)); have hMl : N / 2 ^ (t + 1) ≤ N := Int.ediv_le_self _ zq8; have hh := zrD N t; obtain ⟨bit, hbit⟩ : ∃ b, N / 2 ^ t % 2 = b := ⟨_, rfl⟩
  rw [hbit] at hh; obtain ⟨sd1, sd2⟩ := zoT (N / 2 ^ (t + 1)) bit d hd zq8 zq8 hM; rw [← hh] at sd1 sd2; have r0 := Int.emod_nonneg (N / 2 ^ (t + 1)) (show d ≠ 0 by omega); have r1 := Int.emod_lt_of_pos (N / 2 ^ (t + 1)) hd; have q0 : 0 ≤ N / 2 ^ (t + 1) / d := Int.ediv_nonneg hM zq8; have q1 : N / 2 ^ (t + 1) / d ≤ N / 2 ^ (t + 1) := Int.ediv_le_self _ hM; obtain ⟨q, hq⟩ : ∃ q, N / 2 ^ (t + 1) / d = q := ⟨_, rfl⟩
  obtain ⟨r, hr⟩ : ∃ r, N / 2 ^ (t + 1) % d = r := ⟨_, rfl⟩
  rw [hq] at sd1 q0 q1; rw [hr] at sd1 sd2 r0 r1; have hqN : q ≤ N := by omega
  have e0 : (((t + 1 : Nat) : Int) - 1) = (t : Int) := by omega
  have w1 : wrap64 ((t : Int) - 1) = (t : Int) - 1 := zaI zq8 zq8; have o1 : Go.bits .or .u64 (IntKind.u64.wrap (0 * 2)) (r / 9223372036854775808) = 0 := by
   rw [zct, zjx _ _ zq8 zq8 zq8 zq8 zq8]; omega
  have o2 : IntKind.u64.wrap (r * 2) = r * 2 := by rw [zct]; omega
  have o3 : Go.bits .or .u64 (r * 2) bit = 2 * r + bit := by
   rw [zjx _ _ zq8 zq8 zq8 zq8 zq8]; omega
  have goes : zau.j1 (k + 1) d (t : Int) bit hi lo (q / 18446744073709551616) (q % 18446744073709551616) 0 (r * 2) = some (N / d / 18446744073709551616, N / d % 18446744073709551616, (N % d != 0)) := by
   simp only [zau.j1]; rw [if_neg zq8, o3, w1]; have p1 : Go.bits .or .u64 (IntKind.u64.wrap (q / 18446744073709551616 * 2)) (q % 18446744073709551616 / 9223372036854775808) = 2 * q / 18446744073709551616 := by
    rw [zct, zjx _ _ zq8 zq8 zq8 zq8 zq8]; omega
   by_cases hc : 2 * r + bit ≥ d; rotate_left
   · rw [if_neg hc, p1]; rw [if_neg hc] at sd1 sd2; have p2 : IntKind.u64.wrap (q % 18446744073709551616 * 2) = 2 * q % 18446744073709551616 := by rw [zct]; omega
     rw [p2]; have := ih k zq8 zq8; rw [sd1, sd2] at this; rw [← this]
     congr 1 <;> omega
   rw [if_pos hc, p1]; rw [if_pos hc] at sd1 sd2; have p2 : Go.bits .or .u64 (IntKind.u64.wrap (q % 18446744073709551616 * 2)) 1 = (2 * q + 1) % 18446744073709551616 := by
    rw [zct, zjx _ _ zq8 zq8 zq8 zq8 zq8]; omega
   have p3 : IntKind.u64.wrap (2 * r + bit - d) = 2 * r + bit - d := by rw [zct]; omega
   rw [p2, p3]; have := ih k zq8 zq8; rw [sd1, sd2] at this; rw [← this]
   congr 1
   omega
  rw [hq, hr]; simp only [zau.l0]; rw [e0, if_pos zq8]; by_cases h63 : (t : Int) > 63; rotate_left
  · have a63 : Go.bits .and .i64 (t : Int) 63 = (t : Int) := by rw [zra _ zq8 zq8]; omega
    have s1 : IntKind.u64.wrap (t : Int) = (t : Int) := by rw [zct]; omega
    rw [a63, s1, if_pos zq8, if_neg h63, zjl _ _ zq8, o1, o2]; have hhn : 0 ≤ lo / 2 ^ t := Int.ediv_nonneg l0 (Int.le_of_lt (zgx _)); have hhl : lo / 2 ^ t ≤ lo := Int.ediv_le_self _ l0; rw [zmN _ hhn zq8]; have hb : lo / 2 ^ t % 2 = bit := by
     rw [← zqX hi lo t zq8, hN]; exact hbit
    rw [hb]; exact goes
  have a63 : 0 ≤ IntKind.u64.wrap (Go.bits .and .i64 (t : Int) 63) := by rw [zct]; omega
  have s1 : IntKind.u64.wrap (wrap64 ((t : Int) - 64)) = ((t - 64 : Nat) : Int) := by rw [zaI zq8 zq8, zct]; omega
  rw [if_pos a63, if_pos h63, s1, if_pos zq8, zjl _ _ zq8, o1, o2]; have hhn : 0 ≤ hi / 2 ^ (t - 64) := Int.ediv_nonneg h0 (Int.le_of_lt (zgx _)); have hhl : hi / 2 ^ (t - 64) ≤ hi := Int.ediv_le_self _ h0; rw [zmN _ hhn zq8]; have hb : hi / 2 ^ (t - 64) % 2 = bit := by
   have := zqY hi lo (t - 64) l0 l1; rw [show 64 + (t - 64) = t by omega, hN] at this; rw [← this]; exact hbit
  rw [hb]; exact goes
theorem zmx {k : Nat} (hk : 400 ≤ k) {a d : Int} (ha : 0 ≤ a) (ha1 : a ≤ 9223372036854775808) (hd : 0 < d) (hd1 : d ≤ 9223372036854775808) :
  zau.f k a d = some (a * 4294967296 / d / 18446744073709551616, a * 4294967296 / d % 18446744073709551616, (a * 4294967296 % d != 0)) := by
 unfold zau.f; have e : a / 4294967296 * 18446744073709551616 + IntKind.u64.wrap (a * 4294967296) = a * 4294967296 := by rw [zct]; omega
 have l0 : 0 ≤ IntKind.u64.wrap (a * 4294967296) := by rw [zct]; omega
 have l1 : IntKind.u64.wrap (a * 4294967296) < 18446744073709551616 := by rw [zct]; omega
 have h := zqb d (a / 4294967296) (IntKind.u64.wrap (a * 4294967296)) hd hd1 zq8 zq8 l0 l1 128 k zq8 zq8; rw [e] at h; have z : a * 4294967296 / 2 ^ 128 = 0 := Int.ediv_eq_zero_of_lt zq8 (by
  have : a * 4294967296 ≤ 9223372036854775808 * 4294967296 := by omega
  have e2 : (9223372036854775808 * 4294967296 : Int) < 2 ^ 128 := by decide
  omega)
 rw [z] at h; simpa using h
def zhI (a : Int) : Int := if a > 0 then 9223372036854775807 else if a < 0 then -9223372036854775808 else 0
def zhy (up : Bool → Bool) (a b : Int) : Int :=
 if b = 0 then zhI a else
  sat (if (decide (a < 0) != decide (b < 0)) then -(sz a * 4294967296 / sz b + (if (sz a * 4294967296 % sz b != 0 && up true) then 1 else 0))
   else sz a * 4294967296 / sz b + (if (sz a * 4294967296 % sz b != 0 && up false) then 1 else 0))
def zeZ (a b : Int) : Int := zhy id a b
def cdivS (a b : Int) : Int := zhy not a b
theorem zmH (a : Int) : zdA.f a = some (zhI a) := by unfold zdA.f zhI; split; rfl; split <;> rfl
theorem zmA (a : Int) : zcc.f a = some (zhI a) := by unfold zcc.f zhI; split; rfl; split <;> rfl
theorem zhd {b : Int} (h : b ≠ 0) : 0 < sz b := by unfold sz; split <;> omega
theorem zne {k : Nat} (hk : 1 ≤ k) (m : Int) (h : 18446744073709551616 ≤ m) (below : Bool) : zah.f k 0 true below = some (sat (if below then -m else m)) := by
 obtain ⟨k, rfl⟩ : ∃ q, k = q + 1 := ⟨k - 1, zq8⟩
 unfold zah.f; simp only [zah.j0]
 cases below
 · simp [zlr (show 9223372036854775807 ≤ m by omega)]
 · simp [zlq (show -m ≤ -9223372036854775808 by omega)]
theorem znE {k : Nat} (hk : 400 ≤ k) {a b : Int} (ha : In a) (hb : In b) (hz : b ≠ 0) (below : Bool) :
  (if sz a / 4294967296 ≥ sz b then zah.f k 0 true below = some (sat (if below then -(sz a * 4294967296 / sz b) else sz a * 4294967296 / sz b)) ∧ 18446744073709551616 ≤ sz a * 4294967296 / sz b
   else zaw.f k (sz a / 4294967296) (IntKind.u64.wrap (sz a * 4294967296)) (sz b) = some (sz a * 4294967296 / sz b, sz a * 4294967296 % sz b) ∧ 0 ≤ sz a * 4294967296 / sz b ∧ sz a * 4294967296 / sz b < 18446744073709551616) := by
 have a0 := zdX a; have b0 := zhd hz; have a1 := zfm ha.1 ha.2; have b1 := zfm hb.1 hb.2
 generalize sz a = n at *
 generalize sz b = d at *
 split
 · rename_i h
   have : 18446744073709551616 ≤ n * 4294967296 / d := (Int.le_ediv_iff_mul_le b0).2 zq8; exact ⟨zne zq8 _ this below, this⟩
 · rename_i h
   have e : n / 4294967296 * 18446744073709551616 + IntKind.u64.wrap (n * 4294967296) = n * 4294967296 := by rw [zct]; omega
   have h1 := zpu (k := k) zq8 (hi := n / 4294967296) (lo := IntKind.u64.wrap (n * 4294967296)) (y := d) zq8 zq8 zq8 (by rw [zct]; omega) (by rw [zct]; omega); rw [e] at h1; exact ⟨h1, Int.ediv_nonneg zq8 zq8, (Int.ediv_lt_iff_lt_mul b0).2 zq8⟩
theorem zeU (q : Int) (h0 : 0 ≤ q) (h1 : q < 18446744073709551616) (more : Bool) : zar.f q false more =
  some ((q + if more then 1 else 0) % 18446744073709551616, decide (18446744073709551616 ≤ q + if more then 1 else 0)) := by
 have h := zjn q h0 more; rw [Int.emod_eq_of_lt h0 h1, zdf zq8] at h; exact h
theorem zqU {k : Nat} (hk : 400 ≤ k) {a b : Int} (ha : In a) (hb : In b) : zfJ.f k a b = some (zeZ a b) := by
 unfold zfJ.f zdb.f zeZ zhy; by_cases hz : b = 0
 · rw [if_pos hz, if_pos hz, zmH]; rfl
 rw [if_neg hz, if_neg hz]; simp only [zgl ha, zgl hb, Option.bind_some, zbr.f]; have W := fun below => znE hk ha hb hz below
 have b0 := zhd hz; have r0 := Int.emod_nonneg (sz a * 4294967296) (show sz b ≠ 0 by omega); by_cases hbig : sz a / 4294967296 ≥ sz b
 · simp only [if_pos hbig] at W ⊢; have W1 := W true; have W2 := W false; have sat1 : ∀ m : Int, 18446744073709551616 ≤ m → ∀ c : Bool, sat (-(m + if c then 1 else 0)) = sat (-m) := by
    intro m hm c; rw [zlq (show -m ≤ _ by omega), zlq (by split <;> omega)]
   by_cases h1 : a < 0 <;> by_cases h2 : b < 0 <;> simp [h1, h2, W1.1, W2.1]
   all_goals (have := sat1 _ W1.2 (sz a * 4294967296 % sz b != 0); simp at this; rw [this])
 simp only [if_neg hbig] at W ⊢; obtain ⟨W1, W2, W3⟩ := W true; simp only [W1, Option.bind_some]; by_cases hr : sz a * 4294967296 % sz b = 0
 · simp only [if_pos hr, zeU _ W2 W3, Option.bind_some]; have q0 : 0 ≤ sz a * 4294967296 / sz b + if false = true then 1 else 0 := by simpa using W2
   simp only [zdY (show 1 ≤ k by omega) _ q0]; by_cases h1 : a < 0 <;> by_cases h2 : b < 0 <;> simp [h1, h2, hr]
 simp only [if_neg hr, zeU _ W2 W3, Option.bind_some]; have q0 : ∀ c : Bool, 0 ≤ sz a * 4294967296 / sz b + if c = true then 1 else 0 := by intro c; split <;> omega
 have z1 := fun c => zdY (k := k) zq8 _ (q0 true) c
 have z2 := fun c => zdY (k := k) zq8 _ (q0 false) c
 simp only [if_true, Bool.false_eq_true, if_false, Int.add_zero] at z1 z2; by_cases h1 : a < 0 <;> by_cases h2 : b < 0 <;> simp [h1, h2, hr, z1, z2]
theorem zqr {k : Nat} (hk : 400 ≤ k) {a b : Int} (ha : In a) (hb : In b) : zbV.f k a b = some (cdivS a b) := by
 unfold zbV.f zdc.f cdivS zhy; by_cases hz : b = 0
 · rw [if_pos hz, if_pos hz, zmH]; rfl
 rw [if_neg hz, if_neg hz]; simp only [zgl ha, zgl hb, Option.bind_some, zbe.f]; have W := fun below => znE hk ha hb hz below
 have b0 := zhd hz; have r0 := Int.emod_nonneg (sz a * 4294967296) (show sz b ≠ 0 by omega); by_cases hbig : sz a / 4294967296 ≥ sz b
 · simp only [if_pos hbig] at W ⊢; have W1 := W true; have W2 := W false; have sat1 : ∀ m : Int, 18446744073709551616 ≤ m → ∀ c : Bool, sat (m + if c then 1 else 0) = sat m := by
    intro m hm c; rw [zlr (show _ ≤ m by omega), zlr (by split <;> omega)]
   by_cases h1 : a < 0 <;> by_cases h2 : b < 0 <;> simp [h1, h2, W1.1, W2.1]
   all_goals (have := sat1 _ W1.2 (sz a * 4294967296 % sz b != 0); simp at this; rw [this])
 simp only [if_neg hbig] at W ⊢; obtain ⟨W1, W2, W3⟩ := W true; simp only [W1, Option.bind_some]; by_cases hr : sz a * 4294967296 % sz b = 0
 · simp only [if_pos hr, zeU _ W2 W3, Option.bind_some]; have q0 : 0 ≤ sz a * 4294967296 / sz b + if false = true then 1 else 0 := by simpa using W2
   simp only [zdY (show 1 ≤ k by omega) _ q0]; by_cases h1 : a < 0 <;> by_cases h2 : b < 0 <;> simp [h1, h2, hr]
 simp only [if_neg hr, zeU _ W2 W3, Option.bind_some]; have q0 : ∀ c : Bool, 0 ≤ sz a * 4294967296 / sz b + if c = true then 1 else 0 := by intro c; split <;> omega
 have z1 := fun c => zdY (k := k) zq8 _ (q0 true) c
 have z2 := fun c => zdY (k := k) zq8 _ (q0 false) c
 simp only [if_true, Bool.false_eq_true, if_false, Int.add_zero] at z1 z2; by_cases h1 : a < 0 <;> by_cases h2 : b < 0 <;> simp [h1, h2, hr, z1, z2]
theorem ziA {k : Nat} (hk : 400 ≤ k) (Q : Int) (h0 : 0 ≤ Q) (h1 : Q < 18446744073709551616 * 4294967296) (neg : Bool) :
  zag.f k neg (Q / 18446744073709551616) (Q % 18446744073709551616) = some (sat (if neg then -Q else Q)) ∧
  ((zaD.f (Q / 18446744073709551616) (Q % 18446744073709551616)).bind fun b => zag.f k neg b.1 b.2) = some (sat (if neg then -(Q + 1) else Q + 1)) := by
 constructor
 · rw [zmM zq8 _ _ zq8 zq8 zq8]; rw [show Q / 18446744073709551616 * 18446744073709551616 + Q % 18446744073709551616 = Q by omega]
 · obtain ⟨hi, lo, e, a1, a2, a3, a4⟩ := zqe (Q / 18446744073709551616) (Q % 18446744073709551616) zq8 zq8 zq8 zq8; rw [e]; simp only [Option.bind_some]; rw [zmM zq8 _ _ a1 a2 a3, a4, show Q / 18446744073709551616 * 18446744073709551616 + Q % 18446744073709551616 + 1 = Q + 1 by omega]
theorem znM {a b : Int} (ha : In a) (hz : b ≠ 0) : 0 ≤ sz a * 4294967296 / sz b ∧ sz a * 4294967296 / sz b < 18446744073709551616 * 4294967296 := by
 have a0 := zdX a; have a1 := zfm ha.1 ha.2; have b0 := zhd hz; have := Int.ediv_le_self (sz b) (show 0 ≤ sz a * 4294967296 by omega); exact ⟨Int.ediv_nonneg zq8 zq8, zq8⟩
theorem zpX {k : Nat} (hk : 400 ≤ k) {a b : Int} (ha : In a) (hb : In b) : zdN.f k a b = some (zeZ a b) := by
 unfold zdN.f zeZ zhy; by_cases hz : b = 0
 · rw [if_pos hz, if_pos hz, zmA]; rfl
 rw [if_neg hz, if_neg hz]; simp only [zft ha, zft hb, Option.bind_some, zmx hk (zdX a) (zfm ha.1 ha.2) (zhd hz) (zfm hb.1 hb.2)]; obtain ⟨q0, q1⟩ := znM ha hz; have R := ziA hk _ q0 q1; have R1 := R true; have R2 := R false; by_cases hr : sz a * 4294967296 % sz b = 0
 · by_cases h1 : a < 0 <;> by_cases h2 : b < 0 <;> simp [h1, h2, hr, R1.1, R2.1]
 have R3 := R1.2; by_cases h1 : a < 0 <;> by_cases h2 : b < 0 <;> simp [h1, h2, hr, R2.1]
 all_goals (simp at R3; exact R3)
theorem zpd {k : Nat} (hk : 400 ≤ k) {a b : Int} (ha : In a) (hb : In b) : zbq.f k a b = some (cdivS a b) := by
 unfold zbq.f cdivS zhy; by_cases hz : b = 0
 · rw [if_pos hz, if_pos hz, zmA]; rfl
 rw [if_neg hz, if_neg hz]; simp only [zft ha, zft hb, Option.bind_some, zmx hk (zdX a) (zfm ha.1 ha.2) (zhd hz) (zfm hb.1 hb.2)]; obtain ⟨q0, q1⟩ := znM ha hz; have R := ziA hk _ q0 q1; have R1 := R true; have R2 := R false; by_cases hr : sz a * 4294967296 % sz b = 0
 · by_cases h1 : a < 0 <;> by_cases h2 : b < 0 <;> simp [h1, h2, hr, R1.1, R2.1]
 have R3 := R2.2; by_cases h1 : a < 0 <;> by_cases h2 : b < 0 <;> simp [h1, h2, hr, R1.1]
 all_goals (simp at R3; exact R3)
theorem zoW {k : Nat} (hk : 400 ≤ k) (P : Int) (hP : 0 ≤ P) (hPb : P ≤ 9223372036854775808 * 9223372036854775808) :
  zag.f k false (P / 18446744073709551616 / 4294967296) (Go.bits .or .u64 (P % 18446744073709551616 / 4294967296) (IntKind.u64.wrap (P / 18446744073709551616 * 4294967296))) = some (sat (P / 4294967296)) ∧
  (if Go.bits .and .u64 (P % 18446744073709551616) 4294967295 = 0 then zag.f k true (P / 18446744073709551616 / 4294967296) (Go.bits .or .u64 (P % 18446744073709551616 / 4294967296) (IntKind.u64.wrap (P / 18446744073709551616 * 4294967296)))
   else (zaD.f (P / 18446744073709551616 / 4294967296) (Go.bits .or .u64 (P % 18446744073709551616 / 4294967296) (IntKind.u64.wrap (P / 18446744073709551616 * 4294967296)))).bind fun b => zag.f k true b.1 b.2) = some (sat (-P / 4294967296)) := by
 have m1 : Go.bits .or .u64 (P % 18446744073709551616 / 4294967296) (IntKind.u64.wrap (P / 18446744073709551616 * 4294967296)) = P / 4294967296 % 18446744073709551616 := by
  rw [FM.zmz]; exact zkx P hP
 have m2 : P / 18446744073709551616 / 4294967296 = P / 4294967296 / 18446744073709551616 := by omega
 have m3 : Go.bits .and .u64 (P % 18446744073709551616) 4294967295 = P % 4294967296 := by rw [zfh _ zq8 zq8]; omega
 have hf := zky P hP; rw [m1, m2, m3]; have q1 : P / 4294967296 < 18446744073709551616 * 4294967296 := by omega
 have R1 := ziA hk (P / 4294967296) zq8 q1 true; have R2 := ziA hk (P / 4294967296) zq8 q1 false; simp only [if_true, Bool.false_eq_true, if_false] at R1 R2; refine ⟨R2.1, ?_⟩; by_cases hr : P % 4294967296 = 0
 · rw [if_pos hr, R1.1, hf, if_neg (fun h => h hr), Int.add_zero]
 rw [if_neg hr, R1.2, hf, if_pos hr]
theorem zlQ {α : Type} (x : Option α) : (x.bind fun t => some t) = x := by cases x <;> rfl
theorem szm {a b : Int} : ((a < 0 ↔ b < 0) → a * b = sz a * sz b) ∧ (¬ (a < 0 ↔ b < 0) → a * b = -(sz a * sz b)) := by
 unfold sz; by_cases h1 : a < 0 <;> by_cases h2 : b < 0 <;> simp [h1, h2, Int.neg_mul, Int.mul_neg]
theorem zpV {k : Nat} (hk : 400 ≤ k) {a b : Int} (ha : In a) (hb : In b) : zdM.f k a b = some (sat (a * b / 4294967296)) := by
 obtain ⟨e1, e2⟩ := @szm a b; have a0 := zdX a; have b0 := zdX b; have a1 := zfm ha.1 ha.2; have b1 := zfm hb.1 hb.2; have s1 := zft ha; have s2 := zft hb; have R := zoW hk _ (Int.mul_nonneg a0 b0) (zgm a0 a1 b0 b1).2; have T := zoR a0 (show sz a < 18446744073709551616 by omega) b0 (show sz b < 18446744073709551616 by omega); unfold zdM.f; rw [s1, s2]
 generalize sz a = n at *
 generalize sz b = d at *
 simp -implicitDefEqProofs only [Option.bind_some, T, zlQ]
 by_cases h1 : a < 0
 · by_cases h2 : b < 0
   · rw [if_pos h1, if_pos h2, R.1, e1 (by simp [h1, h2])]
   rw [if_pos h1, if_neg h2, R.2, e2 (by simp [h1, h2])]
 by_cases h2 : b < 0
 · rw [if_neg h1, if_pos h2, R.2, e2 (by simp [h1, h2])]
 rw [if_neg h1, if_neg h2, R.1, e1 (by simp [h1, h2])]
theorem zop {a b : Int} (hb : 0 < b) : cdivS a b = sat (-(-(a * 4294967296) / b)) := by
 unfold cdivS zhy; rw [if_neg zq8]; have e2 : sz b = b := by unfold sz; rw [if_neg zq8]
 have d2 : decide (b < 0) = false := zdf zq8; rw [e2, d2]; by_cases h : a < 0
 · have e1 : sz a = -a := by unfold sz; rw [if_pos h]
   rw [e1, zdt h]; simp [Int.neg_mul]
 have e1 : sz a = a := by unfold sz; rw [if_neg h]
 rw [e1, zdf h]; have h1 := Int.emod_add_mul_ediv (a * 4294967296) b; have h2 := Int.emod_nonneg (a * 4294967296) (show b ≠ 0 by omega); have h3 := Int.emod_lt_of_pos (a * 4294967296) hb; by_cases hr : a * 4294967296 % b = 0
 · have : -(a * 4294967296) / b = -(a * 4294967296 / b) := by
    refine ((Int.ediv_emod_unique (r := 0) hb).2 ⟨?_, zq8, hb⟩).1; rw [Int.mul_neg]; omega
   rw [this]; simp [hr]
 have : -(a * 4294967296) / b = -(a * 4294967296 / b + 1) := by
  refine ((Int.ediv_emod_unique (r := b - a * 4294967296 % b) hb).2 ⟨?_, zq8, zq8⟩).1; have : b * -(a * 4294967296 / b + 1) = -(b * (a * 4294967296 / b)) - b := by grind
  omega
 rw [this]; simp [hr]
theorem zhi {x : Int} (h : decide (-9223372036854775808 ≤ x) = true) (h' : decide (x ≤ 9223372036854775807) = true) : In x := ⟨zod h, zod h'⟩
theorem zgp (a b : Int) : In (zeZ a b) := by
 unfold zeZ zhy; split
 · unfold zhI; split
   · exact zhi rfl rfl
   · split
     · exact zhi rfl rfl
     · exact zhi rfl rfl
 · exact zfo _
theorem zlJ (a b : Int) : In (cdivS a b) := by
 unfold cdivS zhy; split
 · unfold zhI; split
   · exact zhi rfl rfl
   · split
     · exact zhi rfl rfl
     · exact zhi rfl rfl
 · exact zfo _
end Go.Proofs.Ytemnfnbjapobcaa.FS
end
