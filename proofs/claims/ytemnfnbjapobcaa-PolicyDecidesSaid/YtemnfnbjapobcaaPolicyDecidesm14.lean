-- Laid together by wip/shake.py out of: Pol5 Pol6 Pol7 Extra3 PolSpec
import Derived.Test.YtemnfnbjapobcaaPolicyDecidesm13
set_option maxHeartbeats 8000000
set_option maxRecDepth 100000
set_option linter.unusedVariables false
set_option linter.unusedSimpArgs false
namespace Go.Proofs
open Go.RowKit
theorem ziV {P : Prop} (h : P := by unfold zcu; first | (go_simp; done) | (go_simp; with_reducible rfl)) : P := h
theorem zjT {P : Prop} (h : P := by subst hv1; exact (HD.out.below HB1.out).below (zaj (Below.refl _ _) _)) : P := h
theorem zkX {P : Prop} (h : P := by simp only [zhg, Act.put, List.setIfInBounds_toArray, List.set_cons_zero, List.set_cons_succ] <;> rfl) : P := h
theorem zjS {P : Prop} (h : P := by subst hv1; exact Kd.zaL HC1.out (zaj (Below.refl _ _) _)) : P := h
theorem zjR {P : Prop} (h : P := by subst hnq; repeat (first | exact Below.refl _ _ | apply zaj)) : P := h
theorem ziU {P : Prop} (h : P := by simp [results, Try.results84, go_sem, p0, p1, p2, p3, p4]) : P := h
theorem zjP {P : Prop} (h : P := by subst hnq; exact zaj (Below.refl _ _) _) : P := h
theorem zmV {P : Prop} (h : P := by subst hnq; repeat (first | exact Below.refl _ _ | exact HV1.out | apply zaj)) : P := h
theorem zmT {P : Prop} (h : P := by subst hv2; exact (HD.out.below HB2.out).below (zaj (Below.refl _ _) _)) : P := h
theorem zjO {P : Prop} (h : P := by subst hv1; exact zaj HB1.out _) : P := h
theorem zmS {P : Prop} (h : P := by subst hv2; exact Kd.zaL HC2.out (zaj (Below.refl _ _) _)) : P := h
theorem zmR {P : Prop} (h : P := by simp [results, Try.results49, go_sem, p0, p1, p2, p3, p4]) : P := h
end Go.Proofs
section
namespace Go.Proofs.Ytemnfnbjapobcaa.Ho
open Go.RowKit Go.Proofs.ZW.PrintWords Go.Proofs.ZW.PrintLast Go.Proofs.ZW.PrintMore
open Go.Proofs.Ytemnfnbjapobcaa.FS Go.Proofs.Ytemnfnbjapobcaa.HS Go.Proofs.Ytemnfnbjapobcaa.FM Go.Proofs.Ytemnfnbjapobcaa.PS Go.Proofs.Ytemnfnbjapobcaa.Pr
theorem znu {l : List Int} (hin : AllIn l) (s : Int) (o : Option Mo) (ahead : Int) : FS.In (zbJ l s o ahead).1 := by
 have z : FS.In 0 := ⟨zaR, zaR⟩
 cases o with
 | none =>
  show FS.In (zdk l s ahead).1
  unfold zdk; split
  · exact z
  · exact zcb hin _
 | some m =>
  show FS.In (zcl (zbG l m) ahead).1
  unfold zcl; split
  · exact z
  · exact zee _ _
theorem zpZ (A : Option Addr) (c : Nat) (l : List S70) (from_ step n : Int) (w : World) (hr : Kd.C k70 w A l.length l) (hc : l.length ≤ c) (hl : l.length ≤ 1152921504606846976) :
  Calls Try.prog 139 #[.slice A l.length c, .int .i64 from_, .int .i64 step, .int .i64 n] w fun e w' => ∃ (B : Option Addr) (cB : Nat), e = .returned (.tuple #[.slice B (zce l from_ step n).1.length cB, .int .i64 (zce l from_ step n).2]) ∧ (zce l from_ step n).1.length ≤ cB ∧ Kd.C (Kd.int .i64) w' B (zce l from_ step n).1.length (zce l from_ step n).1 ∧ Below w.heap.size w w' := by
 refine (zly A c l from_ step n w hr hc hl).mono ?_; rintro e w' ⟨v0, rfl, hR, hb⟩; obtain ⟨B, cB, rfl, h1, h2⟩ := Kd.zew hR; exact ⟨B, cB, rfl, h1, h2, hb⟩
theorem zkv {l : List Int} (hin : AllIn l) (s : Int) (o : Option Mo) : ∀ n, FS.In (zcL l s o n)
 | 0 => by
  show FS.In (-9223372036854775808)
  exact ⟨zaR, zaR⟩
 | n + 1 => by
  obtain ⟨a1, a2⟩ := zkv hin s o n; obtain ⟨b1, b2⟩ := znu hin s o ((n : Int) + 1); show FS.In (max (zcL l s o n) (zbJ l s o ((n : Int) + 1)).1)
  exact ⟨Int.le_trans a1 (Int.le_max_left _ _), Int.max_le.mpr ⟨a2, b2⟩⟩
theorem zmv {l : List Int} (hin : AllIn l) (s a : Int) : FS.In (zde l s a).1 := by
 unfold zde; split
 · exact ⟨zaR, zaR⟩
 · exact zkv hin s _ _
theorem zoj {N step : Int} (h1 : 1 ≤ N) (h2 : 1 ≤ step) (h3 : ¬ 4503599627370496 / N < step) : 0 ≤ N * step ∧ N * step ≤ 4503599627370496 := by
 refine ⟨Int.mul_nonneg zq8 zq8, ?_⟩; have e1 : N * step ≤ N * (4503599627370496 / N) := Int.mul_le_mul_of_nonneg_left zq8 zq8; exact Int.le_trans e1 (Int.mul_ediv_self_le zq8)
theorem zmj (HS : zaa SeasonMiss) (HC : zaa SeasonCast) (b : Nat) (d : Dr) (A : Option Addr) (c : Nat) (l : List S70) (w : World) (h : zbY w b d A l.length c) (hr : Kd.C k70 w A l.length l) (hc : l.length ≤ c) (hs : sIn l) (hp : okP d.p) (hper : FS.In d.p.per) (hn0 : -4503599627370496 ≤ d.now) (hn1 : d.now ≤ 4503599627370496) (hl : l.length ≤ 1152921504606846976) :
  Calls Try.prog 119 #[.pointer (some ⟨b, 0, none⟩)] w fun e w' => e = .returned (.int .i64 (zfA d l)) ∧ Below w.heap.size w w' := by
 obtain ⟨f, hf⟩ : ∃ f, zfA d l = f := ⟨_, rfl⟩
 rw [hf]; have HD := zaa.mk h; have HR := zaa.mk hr; clear h hr; obtain ⟨⟨mn, mx, per, stale, step, ahead, cool, season⟩, now, plan, prev, changed⟩ := d; unfold zfA zge zfu zio at hf; dsimp only [okP] at hf hp hper hn0 hn1; have hp' := hp; obtain ⟨_, _, _, _, _, ⟨s1, s2⟩, _, a1, a2, e1, e2⟩ := hp'; obtain ⟨N, hN⟩ : ∃ N, 4 * season = N := ⟨_, rfl⟩
 have n1 : 4 ≤ N ∧ N ≤ 2000 := by omega
 have eN : wrap64 (4 * season) = N := by rw [hN]; exact zaI zq8 zq8
 have eN' : IntKind.i64.wrap (4 * season) = N := (zaF _).trans eN; rw [hN] at hf; obtain ⟨Q, hQ⟩ : ∃ Q, 4503599627370496 / N = Q := ⟨_, rfl⟩
 have q0 : 0 ≤ Q ∧ Q ≤ 4503599627370496 := by rw [← hQ]; exact ⟨Int.ediv_nonneg zq8 zq8, Int.ediv_le_self _ zq8⟩
 have eQ : Int.tdiv 4503599627370496 N = Q := by rw [Int.tdiv_eq_ediv_of_nonneg zq8]; exact hQ
 have eQ' : IntKind.i64.wrap Q = Q := by rw [zaF]; exact zaI zq8 zq8
 have zN : ¬ N = 0 := by omega
 have zN' : (N = 0) = False := eq_false zN; have zN2 : (N == 0) = false := by simp [zN]
 have G : zaa (okP ⟨mn, mx, per, stale, step, ahead, cool, season⟩) := ⟨hp⟩
 by_cases h1 : Q < step
 · rw [hQ, if_pos h1] at hf; subst hf; have c1 := zdt h1; have d0 := (HD.out).at 0 (.int .i64 mn) rfl; have d1 := (HD.out).at 1 (.int .i64 mx) rfl; have d2 := (HD.out).at 2 (.int .i64 per) rfl; have d3 := (HD.out).at 3 (.int .i64 stale) rfl; have d4 := (HD.out).at 4 (.int .i64 step) rfl; have d5 := (HD.out).at 5 (.int .i64 ahead) rfl; have d6 := (HD.out).at 6 (.int .i64 cool) rfl; have d7 := (HD.out).at 7 (.int .i64 season) rfl; have d8 := (HD.out).at 8 (.int .i64 now) rfl; have d9 := (HD.out).at 9 (.slice A l.length c) rfl; clear hp hper hn0 hn1 s1 s2 a1 a2 e1 e2 hN n1 q0 hQ h1 zN; go_enter Try.func119, Try.ntmps119
   go_wp2; go_quiet (fail)
   go_wp2; go_ret; exact ⟨rfl, zaj (Below.refl _ _) _⟩
 have c1 := zdf h1; obtain ⟨p0, p1⟩ := zoj (N := N) (step := step) zq8 s1 (by rw [hQ]; exact h1); obtain ⟨P, hP⟩ : ∃ P, N * step = P := ⟨_, rfl⟩
 rw [hP] at p0 p1 hf; have eP : IntKind.i64.wrap (N * step) = P := by rw [zaF, hP]; exact zaI zq8 zq8
 obtain ⟨M, hM⟩ : ∃ M, now + 1 = M := ⟨_, rfl⟩
 have eM : IntKind.i64.wrap (now + 1) = M := by rw [zaF, hM]; exact zaI zq8 zq8
 rw [hM] at hf; obtain ⟨F, hF⟩ : ∃ F, M - P = F := ⟨_, rfl⟩
 have eF : IntKind.i64.wrap (M - P) = F := by rw [zaF, hF]; exact zaI zq8 zq8
 rw [hF, hQ, if_neg h1] at hf; have KP := zaa.mk (fun W (h : Kd.C k70 W A l.length l) => zpZ A c l F step N W h hc hl); have KG := zaa.mk (fun W (h : Kd.C k70 W A l.length l) => znq A c l F step N W h hc hl); have hpi := zkt hs F step N; have hpl := zju l F step N zq8; obtain ⟨ps, hps⟩ : ∃ ps, (zce l F step N).1 = ps := ⟨_, rfl⟩
 obtain ⟨pe, hpe⟩ : ∃ pe, (zce l F step N).2 = pe := ⟨_, rfl⟩
 obtain ⟨gs, hgs⟩ : ∃ gs, (zeV l F step N).1 = gs := ⟨_, rfl⟩
 obtain ⟨ge, hge⟩ : ∃ ge, (zeV l F step N).2 = ge := ⟨_, rfl⟩
 rw [hps, hpe] at KP; rw [hgs, hge] at KG; rw [hps] at hpi hpl; rw [hps, hpe, hgs, hge] at hf; have KK := zaa.mk (fun W (B : Option Addr) (cB : Nat) (h : Kd.C (Kd.int .i64) W B ps.length ps) (hcB : ps.length ≤ cB) => zkP HS HC B cB ps season ahead W h hcB hpi ⟨zq8, zq8⟩ ⟨zq8, zq8⟩ zq8); obtain ⟨kv, hkv⟩ : ∃ kv, (zde ps season ahead).1 = kv := ⟨_, rfl⟩
 obtain ⟨ke, hke⟩ : ∃ ke, (zde ps season ahead).2 = ke := ⟨_, rfl⟩
 have hkin : FS.In kv := by
  rw [← hkv]; exact zmv hpi season ahead
 rw [hkv, hke] at KK hf; have KF := zaa.mk (fun W => zgy ⟨mn, mx, per, stale, step, ahead, cool, season⟩ kv hkin hper W); dsimp only [zdI] at KF; obtain ⟨H, hH⟩ : ∃ H, N / 2 = H := ⟨_, rfl⟩
 have eH : Int.tdiv N 2 = H := by rw [Int.tdiv_eq_ediv_of_nonneg zq8]; exact hH
 have eH' : wrap64 H = H := zaI zq8 zq8; rw [hH] at hf; clear hps hpe hgs hge hkv hke hkin hpi hpl hp hper hn0 hn1 s1 s2 a1 a2 e1 e2 hN n1 q0 hQ zN p0 p1 hP hM hF hH h1 hs hl; by_cases h2 : pe ≠ 0
 · rw [if_pos h2] at hf; subst hf; have c2 : (pe != 0) = true := by simp [h2]
   have c2' : (pe = 0) = False := eq_false h2; clear h2; have d0 := (HD.out).at 0 (.int .i64 mn) rfl; have d1 := (HD.out).at 1 (.int .i64 mx) rfl; have d2 := (HD.out).at 2 (.int .i64 per) rfl; have d3 := (HD.out).at 3 (.int .i64 stale) rfl; have d4 := (HD.out).at 4 (.int .i64 step) rfl; have d5 := (HD.out).at 5 (.int .i64 ahead) rfl; have d6 := (HD.out).at 6 (.int .i64 cool) rfl; have d7 := (HD.out).at 7 (.int .i64 season) rfl; have d8 := (HD.out).at 8 (.int .i64 now) rfl; have d9 := (HD.out).at 9 (.slice A l.length c) rfl; go_enter Try.func119, Try.ntmps119
   go_wp2; go_quiet (fail)
   go_wp2; go_quiet (fail)
   go_wp2; refine zbU 11 zq6 zq6 rfl ?_; simp only [List.take_succ_cons, List.take_zero, List.drop_succ_cons, List.drop_zero]; repeat (go_big_quiet_step (fail))
   refine wpQuiet_nil ?_; rintro W1 ⟨nq, hnq⟩ K1 hK; have HA1 : zaa (Below w.heap.size w W1) := ⟨zjR⟩
   clear hnq nq; refine zcT Try.func139 zq6 rfl #[.slice A l.length c, .int .i64 F, .int .i64 step, .int .i64 N] (by rfl) rfl rfl zdi ?_; refine (KP.out _ (Kd.zaL HR.out HA1.out)).mono ?_; rintro e w1 ⟨B, cB, rfl, hcB, hC, hb2⟩; refine ⟨_, rfl, hK _ _ ?_⟩; have HB1 : zaa (Below w.heap.size w w1) := ⟨HA1.out.trans (hb2.mono HA1.out.size)⟩
   have HC1 := zaa.mk hC; clear hK K1 hb2 hC d0 d1 d2 d3 d4 d5 d6 d7 d8 d9; simp only [Act.put, List.setIfInBounds_toArray, List.set_cons_zero, List.set_cons_succ]; repeat (go_big_quiet_step (fail))
   refine wpQuiet_nil ?_; rintro v1 ⟨m1, hv1⟩; have HD1 : zaa (zbY v1 b ⟨⟨mn, mx, per, stale, step, ahead, cool, season⟩, now, plan, prev, changed⟩ A l.length c) := ⟨zjT⟩
   have HV1 : zaa (Below w.heap.size w v1) := ⟨zjO⟩
   have HCv : zaa (Kd.C (Kd.int .i64) v1 B ps.length ps) := ⟨zjS⟩
   clear hv1 m1 HC1; have d0 := (HD1.out).at 0 (.int .i64 mn) rfl; have d1 := (HD1.out).at 1 (.int .i64 mx) rfl; have d2 := (HD1.out).at 2 (.int .i64 per) rfl; have d3 := (HD1.out).at 3 (.int .i64 stale) rfl; have d4 := (HD1.out).at 4 (.int .i64 step) rfl; have d5 := (HD1.out).at 5 (.int .i64 ahead) rfl; have d6 := (HD1.out).at 6 (.int .i64 cool) rfl; have d7 := (HD1.out).at 7 (.int .i64 season) rfl; have d8 := (HD1.out).at 8 (.int .i64 now) rfl; have d9 := (HD1.out).at 9 (.slice A l.length c) rfl; go_wp2; go_ret; exact ⟨rfl, HV1.out⟩
 rw [if_neg h2] at hf; obtain rfl : pe = 0 := Decidable.not_not.mp h2; clear h2; by_cases h3 : ps.length = 0
 · rw [if_pos h3] at hf; subst hf; have c3 : ((ps.length : Int) == 0) = true := by simp [h3]
   have c3' : (ps.length = 0) = True := eq_true h3; clear h3; have d0 := (HD.out).at 0 (.int .i64 mn) rfl; have d1 := (HD.out).at 1 (.int .i64 mx) rfl; have d2 := (HD.out).at 2 (.int .i64 per) rfl; have d3 := (HD.out).at 3 (.int .i64 stale) rfl; have d4 := (HD.out).at 4 (.int .i64 step) rfl; have d5 := (HD.out).at 5 (.int .i64 ahead) rfl; have d6 := (HD.out).at 6 (.int .i64 cool) rfl; have d7 := (HD.out).at 7 (.int .i64 season) rfl; have d8 := (HD.out).at 8 (.int .i64 now) rfl; have d9 := (HD.out).at 9 (.slice A l.length c) rfl; go_enter Try.func119, Try.ntmps119
   go_wp2; go_quiet (fail)
   go_wp2; go_quiet (fail)
   go_wp2; refine zbU 11 zq6 zq6 rfl ?_; simp only [List.take_succ_cons, List.take_zero, List.drop_succ_cons, List.drop_zero]; repeat (go_big_quiet_step (fail))
   refine wpQuiet_nil ?_; rintro W1 ⟨nq, hnq⟩ K1 hK; have HA1 : zaa (Below w.heap.size w W1) := ⟨zjR⟩
   clear hnq nq; refine zcT Try.func139 zq6 rfl #[.slice A l.length c, .int .i64 F, .int .i64 step, .int .i64 N] (by rfl) rfl rfl zdi ?_; refine (KP.out _ (Kd.zaL HR.out HA1.out)).mono ?_; rintro e w1 ⟨B, cB, rfl, hcB, hC, hb2⟩; refine ⟨_, rfl, hK _ _ ?_⟩; have HB1 : zaa (Below w.heap.size w w1) := ⟨HA1.out.trans (hb2.mono HA1.out.size)⟩
   have HC1 := zaa.mk hC; clear hK K1 hb2 hC d0 d1 d2 d3 d4 d5 d6 d7 d8 d9; simp only [Act.put, List.setIfInBounds_toArray, List.set_cons_zero, List.set_cons_succ]; repeat (go_big_quiet_step (fail))
   refine wpQuiet_nil ?_; rintro v1 ⟨m1, hv1⟩; have HD1 : zaa (zbY v1 b ⟨⟨mn, mx, per, stale, step, ahead, cool, season⟩, now, plan, prev, changed⟩ A l.length c) := ⟨zjT⟩
   have HV1 : zaa (Below w.heap.size w v1) := ⟨zjO⟩
   have HCv : zaa (Kd.C (Kd.int .i64) v1 B ps.length ps) := ⟨zjS⟩
   clear hv1 m1 HC1; have d0 := (HD1.out).at 0 (.int .i64 mn) rfl; have d1 := (HD1.out).at 1 (.int .i64 mx) rfl; have d2 := (HD1.out).at 2 (.int .i64 per) rfl; have d3 := (HD1.out).at 3 (.int .i64 stale) rfl; have d4 := (HD1.out).at 4 (.int .i64 step) rfl; have d5 := (HD1.out).at 5 (.int .i64 ahead) rfl; have d6 := (HD1.out).at 6 (.int .i64 cool) rfl; have d7 := (HD1.out).at 7 (.int .i64 season) rfl; have d8 := (HD1.out).at 8 (.int .i64 now) rfl; have d9 := (HD1.out).at 9 (.slice A l.length c) rfl; go_wp2; go_ret; exact ⟨rfl, HV1.out⟩
 rw [if_neg h3] at hf; have c3 : ((ps.length : Int) == 0) = false := by simp [h3]
 have c3' : (ps.length = 0) = False := eq_false h3; clear h3; by_cases h4 : ge ≠ 0
 · rw [if_pos h4] at hf; subst hf; have c4 : (ge != 0) = true := by simp [h4]
   have c4' : (ge = 0) = False := eq_false h4; clear h4; have d0 := (HD.out).at 0 (.int .i64 mn) rfl; have d1 := (HD.out).at 1 (.int .i64 mx) rfl; have d2 := (HD.out).at 2 (.int .i64 per) rfl; have d3 := (HD.out).at 3 (.int .i64 stale) rfl; have d4 := (HD.out).at 4 (.int .i64 step) rfl; have d5 := (HD.out).at 5 (.int .i64 ahead) rfl; have d6 := (HD.out).at 6 (.int .i64 cool) rfl; have d7 := (HD.out).at 7 (.int .i64 season) rfl; have d8 := (HD.out).at 8 (.int .i64 now) rfl; have d9 := (HD.out).at 9 (.slice A l.length c) rfl; go_enter Try.func119, Try.ntmps119
   go_wp2; go_quiet (fail)
   go_wp2; go_quiet (fail)
   go_wp2; refine zbU 11 zq6 zq6 rfl ?_; simp only [List.take_succ_cons, List.take_zero, List.drop_succ_cons, List.drop_zero]; repeat (go_big_quiet_step (fail))
   refine wpQuiet_nil ?_; rintro W1 ⟨nq, hnq⟩ K1 hK; have HA1 : zaa (Below w.heap.size w W1) := ⟨zjR⟩
   clear hnq nq; refine zcT Try.func139 zq6 rfl #[.slice A l.length c, .int .i64 F, .int .i64 step, .int .i64 N] (by rfl) rfl rfl zdi ?_; refine (KP.out _ (Kd.zaL HR.out HA1.out)).mono ?_; rintro e w1 ⟨B, cB, rfl, hcB, hC, hb2⟩; refine ⟨_, rfl, hK _ _ ?_⟩; have HB1 : zaa (Below w.heap.size w w1) := ⟨HA1.out.trans (hb2.mono HA1.out.size)⟩
   have HC1 := zaa.mk hC; clear hK K1 hb2 hC d0 d1 d2 d3 d4 d5 d6 d7 d8 d9; simp only [Act.put, List.setIfInBounds_toArray, List.set_cons_zero, List.set_cons_succ]; repeat (go_big_quiet_step (fail))
   refine wpQuiet_nil ?_; rintro v1 ⟨m1, hv1⟩; have HD1 : zaa (zbY v1 b ⟨⟨mn, mx, per, stale, step, ahead, cool, season⟩, now, plan, prev, changed⟩ A l.length c) := ⟨zjT⟩
   have HV1 : zaa (Below w.heap.size w v1) := ⟨zjO⟩
   have HCv : zaa (Kd.C (Kd.int .i64) v1 B ps.length ps) := ⟨zjS⟩
   clear hv1 m1 HC1; have d0 := (HD1.out).at 0 (.int .i64 mn) rfl; have d1 := (HD1.out).at 1 (.int .i64 mx) rfl; have d2 := (HD1.out).at 2 (.int .i64 per) rfl; have d3 := (HD1.out).at 3 (.int .i64 stale) rfl; have d4 := (HD1.out).at 4 (.int .i64 step) rfl; have d5 := (HD1.out).at 5 (.int .i64 ahead) rfl; have d6 := (HD1.out).at 6 (.int .i64 cool) rfl; have d7 := (HD1.out).at 7 (.int .i64 season) rfl; have d8 := (HD1.out).at 8 (.int .i64 now) rfl; have d9 := (HD1.out).at 9 (.slice A l.length c) rfl; go_wp2; refine zbU 11 zq6 zq6 rfl ?_; simp only [List.take_succ_cons, List.take_zero, List.drop_succ_cons, List.drop_zero]; repeat (go_big_quiet_step (fail))
   refine wpQuiet_nil ?_; rintro W2 ⟨nq, hnq⟩ K1 hK; have HE2 : zaa (Below v1.heap.size v1 W2) := ⟨zjP⟩
   have HA2 : zaa (Below w.heap.size w W2) := ⟨zmV⟩
   clear hnq nq; refine zcT Try.func140 zq6 rfl #[.slice A l.length c, .int .i64 F, .int .i64 step, .int .i64 N] (by rfl) rfl rfl zdi ?_; refine (KG.out _ (Kd.zaL HR.out HA2.out)).mono ?_; rintro e w2 ⟨rfl, hb2⟩; refine ⟨_, rfl, hK _ _ ?_⟩; have HB2 : zaa (Below w.heap.size w w2) := ⟨HA2.out.trans (hb2.mono HA2.out.size)⟩
   have HC2 : zaa (Kd.C (Kd.int .i64) w2 B ps.length ps) := ⟨Kd.zaL (Kd.zaL HCv.out HE2.out) hb2⟩
   clear hK K1 hb2 HCv HE2 d0 d1 d2 d3 d4 d5 d6 d7 d8 d9; simp only [Act.put, List.setIfInBounds_toArray, List.set_cons_zero, List.set_cons_succ]; repeat (go_big_quiet_step (fail))
   refine wpQuiet_nil ?_; rintro v2 ⟨m2, hv2⟩; have HD2 : zaa (zbY v2 b ⟨⟨mn, mx, per, stale, step, ahead, cool, season⟩, now, plan, prev, changed⟩ A l.length c) := ⟨zmT⟩
   have HV2 : zaa (Below w.heap.size w v2) := ⟨by subst hv2; exact zaj HB2.out _⟩
   have HCv : zaa (Kd.C (Kd.int .i64) v2 B ps.length ps) := ⟨zmS⟩
   clear hv2 m2 HC2; have d0 := (HD2.out).at 0 (.int .i64 mn) rfl; have d1 := (HD2.out).at 1 (.int .i64 mx) rfl; have d2 := (HD2.out).at 2 (.int .i64 per) rfl; have d3 := (HD2.out).at 3 (.int .i64 stale) rfl; have d4 := (HD2.out).at 4 (.int .i64 step) rfl; have d5 := (HD2.out).at 5 (.int .i64 ahead) rfl; have d6 := (HD2.out).at 6 (.int .i64 cool) rfl; have d7 := (HD2.out).at 7 (.int .i64 season) rfl; have d8 := (HD2.out).at 8 (.int .i64 now) rfl; have d9 := (HD2.out).at 9 (.slice A l.length c) rfl; go_wp2; go_ret; exact ⟨rfl, HV2.out⟩
 rw [if_neg h4] at hf; obtain rfl : ge = 0 := Decidable.not_not.mp h4; clear h4; by_cases h5 : H < gs
 · rw [if_pos h5] at hf; subst hf; have c5 := zdt h5; clear h5; have d0 := (HD.out).at 0 (.int .i64 mn) rfl; have d1 := (HD.out).at 1 (.int .i64 mx) rfl; have d2 := (HD.out).at 2 (.int .i64 per) rfl; have d3 := (HD.out).at 3 (.int .i64 stale) rfl; have d4 := (HD.out).at 4 (.int .i64 step) rfl; have d5 := (HD.out).at 5 (.int .i64 ahead) rfl; have d6 := (HD.out).at 6 (.int .i64 cool) rfl; have d7 := (HD.out).at 7 (.int .i64 season) rfl; have d8 := (HD.out).at 8 (.int .i64 now) rfl; have d9 := (HD.out).at 9 (.slice A l.length c) rfl; go_enter Try.func119, Try.ntmps119
   go_wp2; go_quiet (fail)
   go_wp2; go_quiet (fail)
   go_wp2; refine zbU 11 zq6 zq6 rfl ?_; simp only [List.take_succ_cons, List.take_zero, List.drop_succ_cons, List.drop_zero]; repeat (go_big_quiet_step (fail))
   refine wpQuiet_nil ?_; rintro W1 ⟨nq, hnq⟩ K1 hK; have HA1 : zaa (Below w.heap.size w W1) := ⟨zjR⟩
   clear hnq nq; refine zcT Try.func139 zq6 rfl #[.slice A l.length c, .int .i64 F, .int .i64 step, .int .i64 N] (by rfl) rfl rfl zdi ?_; refine (KP.out _ (Kd.zaL HR.out HA1.out)).mono ?_; rintro e w1 ⟨B, cB, rfl, hcB, hC, hb2⟩; refine ⟨_, rfl, hK _ _ ?_⟩; have HB1 : zaa (Below w.heap.size w w1) := ⟨HA1.out.trans (hb2.mono HA1.out.size)⟩
   have HC1 := zaa.mk hC; clear hK K1 hb2 hC d0 d1 d2 d3 d4 d5 d6 d7 d8 d9; simp only [Act.put, List.setIfInBounds_toArray, List.set_cons_zero, List.set_cons_succ]; repeat (go_big_quiet_step (fail))
   refine wpQuiet_nil ?_; rintro v1 ⟨m1, hv1⟩; have HD1 : zaa (zbY v1 b ⟨⟨mn, mx, per, stale, step, ahead, cool, season⟩, now, plan, prev, changed⟩ A l.length c) := ⟨zjT⟩
   have HV1 : zaa (Below w.heap.size w v1) := ⟨zjO⟩
   have HCv : zaa (Kd.C (Kd.int .i64) v1 B ps.length ps) := ⟨zjS⟩
   clear hv1 m1 HC1; have d0 := (HD1.out).at 0 (.int .i64 mn) rfl; have d1 := (HD1.out).at 1 (.int .i64 mx) rfl; have d2 := (HD1.out).at 2 (.int .i64 per) rfl; have d3 := (HD1.out).at 3 (.int .i64 stale) rfl; have d4 := (HD1.out).at 4 (.int .i64 step) rfl; have d5 := (HD1.out).at 5 (.int .i64 ahead) rfl; have d6 := (HD1.out).at 6 (.int .i64 cool) rfl; have d7 := (HD1.out).at 7 (.int .i64 season) rfl; have d8 := (HD1.out).at 8 (.int .i64 now) rfl; have d9 := (HD1.out).at 9 (.slice A l.length c) rfl; go_wp2; refine zbU 11 zq6 zq6 rfl ?_; simp only [List.take_succ_cons, List.take_zero, List.drop_succ_cons, List.drop_zero]; repeat (go_big_quiet_step (fail))
   refine wpQuiet_nil ?_; rintro W2 ⟨nq, hnq⟩ K1 hK; have HE2 : zaa (Below v1.heap.size v1 W2) := ⟨zjP⟩
   have HA2 : zaa (Below w.heap.size w W2) := ⟨zmV⟩
   clear hnq nq; refine zcT Try.func140 zq6 rfl #[.slice A l.length c, .int .i64 F, .int .i64 step, .int .i64 N] (by rfl) rfl rfl zdi ?_; refine (KG.out _ (Kd.zaL HR.out HA2.out)).mono ?_; rintro e w2 ⟨rfl, hb2⟩; refine ⟨_, rfl, hK _ _ ?_⟩; have HB2 : zaa (Below w.heap.size w w2) := ⟨HA2.out.trans (hb2.mono HA2.out.size)⟩
   have HC2 : zaa (Kd.C (Kd.int .i64) w2 B ps.length ps) := ⟨Kd.zaL (Kd.zaL HCv.out HE2.out) hb2⟩
   clear hK K1 hb2 HCv HE2 d0 d1 d2 d3 d4 d5 d6 d7 d8 d9; simp only [Act.put, List.setIfInBounds_toArray, List.set_cons_zero, List.set_cons_succ]; repeat (go_big_quiet_step (fail))
   refine wpQuiet_nil ?_; rintro v2 ⟨m2, hv2⟩; have HD2 : zaa (zbY v2 b ⟨⟨mn, mx, per, stale, step, ahead, cool, season⟩, now, plan, prev, changed⟩ A l.length c) := ⟨zmT⟩
   have HV2 : zaa (Below w.heap.size w v2) := ⟨by subst hv2; exact zaj HB2.out _⟩
   have HCv : zaa (Kd.C (Kd.int .i64) v2 B ps.length ps) := ⟨zmS⟩
   clear hv2 m2 HC2; have d0 := (HD2.out).at 0 (.int .i64 mn) rfl; have d1 := (HD2.out).at 1 (.int .i64 mx) rfl; have d2 := (HD2.out).at 2 (.int .i64 per) rfl; have d3 := (HD2.out).at 3 (.int .i64 stale) rfl; have d4 := (HD2.out).at 4 (.int .i64 step) rfl; have d5 := (HD2.out).at 5 (.int .i64 ahead) rfl; have d6 := (HD2.out).at 6 (.int .i64 cool) rfl; have d7 := (HD2.out).at 7 (.int .i64 season) rfl; have d8 := (HD2.out).at 8 (.int .i64 now) rfl; have d9 := (HD2.out).at 9 (.slice A l.length c) rfl; go_wp2; go_ret; exact ⟨rfl, HV2.out⟩
 rw [if_neg h5] at hf; have c5 := zdf h5; clear h5; by_cases h6 : ke ≠ 0
 · rw [if_pos h6] at hf; subst hf; have c6 : (ke != 0) = true := by simp [h6]
   have c6' : (ke = 0) = False := eq_false h6; clear h6; have d0 := (HD.out).at 0 (.int .i64 mn) rfl; have d1 := (HD.out).at 1 (.int .i64 mx) rfl; have d2 := (HD.out).at 2 (.int .i64 per) rfl; have d3 := (HD.out).at 3 (.int .i64 stale) rfl; have d4 := (HD.out).at 4 (.int .i64 step) rfl; have d5 := (HD.out).at 5 (.int .i64 ahead) rfl; have d6 := (HD.out).at 6 (.int .i64 cool) rfl; have d7 := (HD.out).at 7 (.int .i64 season) rfl; have d8 := (HD.out).at 8 (.int .i64 now) rfl; have d9 := (HD.out).at 9 (.slice A l.length c) rfl; go_enter Try.func119, Try.ntmps119
   go_wp2; go_quiet (fail)
   go_wp2; go_quiet (fail)
   go_wp2; refine zbU 11 zq6 zq6 rfl ?_; simp only [List.take_succ_cons, List.take_zero, List.drop_succ_cons, List.drop_zero]; repeat (go_big_quiet_step (fail))
   refine wpQuiet_nil ?_; rintro W1 ⟨nq, hnq⟩ K1 hK; have HA1 : zaa (Below w.heap.size w W1) := ⟨zjR⟩
   clear hnq nq; refine zcT Try.func139 zq6 rfl #[.slice A l.length c, .int .i64 F, .int .i64 step, .int .i64 N] (by rfl) rfl rfl zdi ?_; refine (KP.out _ (Kd.zaL HR.out HA1.out)).mono ?_; rintro e w1 ⟨B, cB, rfl, hcB, hC, hb2⟩; refine ⟨_, rfl, hK _ _ ?_⟩; have HB1 : zaa (Below w.heap.size w w1) := ⟨HA1.out.trans (hb2.mono HA1.out.size)⟩
   have HC1 := zaa.mk hC; clear hK K1 hb2 hC d0 d1 d2 d3 d4 d5 d6 d7 d8 d9; simp only [Act.put, List.setIfInBounds_toArray, List.set_cons_zero, List.set_cons_succ]; repeat (go_big_quiet_step (fail))
   refine wpQuiet_nil ?_; rintro v1 ⟨m1, hv1⟩; have HD1 : zaa (zbY v1 b ⟨⟨mn, mx, per, stale, step, ahead, cool, season⟩, now, plan, prev, changed⟩ A l.length c) := ⟨zjT⟩
   have HV1 : zaa (Below w.heap.size w v1) := ⟨zjO⟩
   have HCv : zaa (Kd.C (Kd.int .i64) v1 B ps.length ps) := ⟨zjS⟩
   clear hv1 m1 HC1; have d0 := (HD1.out).at 0 (.int .i64 mn) rfl; have d1 := (HD1.out).at 1 (.int .i64 mx) rfl; have d2 := (HD1.out).at 2 (.int .i64 per) rfl; have d3 := (HD1.out).at 3 (.int .i64 stale) rfl; have d4 := (HD1.out).at 4 (.int .i64 step) rfl; have d5 := (HD1.out).at 5 (.int .i64 ahead) rfl; have d6 := (HD1.out).at 6 (.int .i64 cool) rfl; have d7 := (HD1.out).at 7 (.int .i64 season) rfl; have d8 := (HD1.out).at 8 (.int .i64 now) rfl; have d9 := (HD1.out).at 9 (.slice A l.length c) rfl; go_wp2; refine zbU 11 zq6 zq6 rfl ?_; simp only [List.take_succ_cons, List.take_zero, List.drop_succ_cons, List.drop_zero]; repeat (go_big_quiet_step (fail))
   refine wpQuiet_nil ?_; rintro W2 ⟨nq, hnq⟩ K1 hK; have HE2 : zaa (Below v1.heap.size v1 W2) := ⟨zjP⟩
   have HA2 : zaa (Below w.heap.size w W2) := ⟨zmV⟩
   clear hnq nq; refine zcT Try.func140 zq6 rfl #[.slice A l.length c, .int .i64 F, .int .i64 step, .int .i64 N] (by rfl) rfl rfl zdi ?_; refine (KG.out _ (Kd.zaL HR.out HA2.out)).mono ?_; rintro e w2 ⟨rfl, hb2⟩; refine ⟨_, rfl, hK _ _ ?_⟩; have HB2 : zaa (Below w.heap.size w w2) := ⟨HA2.out.trans (hb2.mono HA2.out.size)⟩
   have HC2 : zaa (Kd.C (Kd.int .i64) w2 B ps.length ps) := ⟨Kd.zaL (Kd.zaL HCv.out HE2.out) hb2⟩
   clear hK K1 hb2 HCv HE2 d0 d1 d2 d3 d4 d5 d6 d7 d8 d9; simp only [Act.put, List.setIfInBounds_toArray, List.set_cons_zero, List.set_cons_succ]; repeat (go_big_quiet_step (fail))
   refine wpQuiet_nil ?_; rintro v2 ⟨m2, hv2⟩; have HD2 : zaa (zbY v2 b ⟨⟨mn, mx, per, stale, step, ahead, cool, season⟩, now, plan, prev, changed⟩ A l.length c) := ⟨zmT⟩
   have HV2 : zaa (Below w.heap.size w v2) := ⟨by subst hv2; exact zaj HB2.out _⟩
   have HCv : zaa (Kd.C (Kd.int .i64) v2 B ps.length ps) := ⟨zmS⟩
   clear hv2 m2 HC2; have d0 := (HD2.out).at 0 (.int .i64 mn) rfl; have d1 := (HD2.out).at 1 (.int .i64 mx) rfl; have d2 := (HD2.out).at 2 (.int .i64 per) rfl; have d3 := (HD2.out).at 3 (.int .i64 stale) rfl; have d4 := (HD2.out).at 4 (.int .i64 step) rfl; have d5 := (HD2.out).at 5 (.int .i64 ahead) rfl; have d6 := (HD2.out).at 6 (.int .i64 cool) rfl; have d7 := (HD2.out).at 7 (.int .i64 season) rfl; have d8 := (HD2.out).at 8 (.int .i64 now) rfl; have d9 := (HD2.out).at 9 (.slice A l.length c) rfl; go_wp2; refine zbU 11 zq6 zq6 rfl ?_; simp only [List.take_succ_cons, List.take_zero, List.drop_succ_cons, List.drop_zero]; repeat (go_big_quiet_step (fail))
   refine wpQuiet_nil ?_; rintro W3 ⟨nq, hnq⟩ K1 hK; have HE3 : zaa (Below v2.heap.size v2 W3) := ⟨zjP⟩
   have HA3 : zaa (Below w.heap.size w W3) := ⟨by subst hnq; repeat (first | exact Below.refl _ _ | exact HV2.out | apply zaj)⟩
   clear hnq nq; refine zcT Try.func45 zq6 rfl #[.slice B ps.length cB, .int .i64 season, .int .i64 ahead] (by rfl) rfl rfl zdi ?_; refine (KK.out _ B cB (Kd.zaL HCv.out HE3.out) hcB).mono ?_; rintro e w3 ⟨rfl, hb2⟩; refine ⟨_, rfl, hK _ _ ?_⟩; have HB3 : zaa (Below w.heap.size w w3) := ⟨HA3.out.trans (hb2.mono HA3.out.size)⟩
   clear hK K1 hb2 HCv HE3 d0 d1 d2 d3 d4 d5 d6 d7 d8 d9; simp only [Act.put, List.setIfInBounds_toArray, List.set_cons_zero, List.set_cons_succ]; repeat (go_big_quiet_step (fail))
   refine wpQuiet_nil ?_; rintro v3 ⟨m3, hv3⟩; have HD3 : zaa (zbY v3 b ⟨⟨mn, mx, per, stale, step, ahead, cool, season⟩, now, plan, prev, changed⟩ A l.length c) := ⟨by subst hv3; exact (HD.out.below HB3.out).below (zaj (Below.refl _ _) _)⟩
   have HV3 : zaa (Below w.heap.size w v3) := ⟨by subst hv3; exact zaj HB3.out _⟩
   clear hv3 m3; have d0 := (HD3.out).at 0 (.int .i64 mn) rfl; have d1 := (HD3.out).at 1 (.int .i64 mx) rfl; have d2 := (HD3.out).at 2 (.int .i64 per) rfl; have d3 := (HD3.out).at 3 (.int .i64 stale) rfl; have d4 := (HD3.out).at 4 (.int .i64 step) rfl; have d5 := (HD3.out).at 5 (.int .i64 ahead) rfl; have d6 := (HD3.out).at 6 (.int .i64 cool) rfl; have d7 := (HD3.out).at 7 (.int .i64 season) rfl; have d8 := (HD3.out).at 8 (.int .i64 now) rfl; have d9 := (HD3.out).at 9 (.slice A l.length c) rfl; go_wp2; go_ret; exact ⟨rfl, HV3.out⟩
 rw [if_neg h6] at hf; obtain rfl : ke = 0 := Decidable.not_not.mp h6; clear h6; subst hf; have d0 := (HD.out).at 0 (.int .i64 mn) rfl; have d1 := (HD.out).at 1 (.int .i64 mx) rfl; have d2 := (HD.out).at 2 (.int .i64 per) rfl; have d3 := (HD.out).at 3 (.int .i64 stale) rfl; have d4 := (HD.out).at 4 (.int .i64 step) rfl; have d5 := (HD.out).at 5 (.int .i64 ahead) rfl; have d6 := (HD.out).at 6 (.int .i64 cool) rfl; have d7 := (HD.out).at 7 (.int .i64 season) rfl; have d8 := (HD.out).at 8 (.int .i64 now) rfl; have d9 := (HD.out).at 9 (.slice A l.length c) rfl; go_enter Try.func119, Try.ntmps119
 go_wp2; go_quiet (fail)
 go_wp2; go_quiet (fail)
 go_wp2; refine zbU 11 zq6 zq6 rfl ?_; simp only [List.take_succ_cons, List.take_zero, List.drop_succ_cons, List.drop_zero]; repeat (go_big_quiet_step (fail))
 refine wpQuiet_nil ?_; rintro W1 ⟨nq, hnq⟩ K1 hK; have HA1 : zaa (Below w.heap.size w W1) := ⟨zjR⟩
 clear hnq nq; refine zcT Try.func139 zq6 rfl #[.slice A l.length c, .int .i64 F, .int .i64 step, .int .i64 N] (by rfl) rfl rfl zdi ?_; refine (KP.out _ (Kd.zaL HR.out HA1.out)).mono ?_; rintro e w1 ⟨B, cB, rfl, hcB, hC, hb2⟩; refine ⟨_, rfl, hK _ _ ?_⟩; have HB1 : zaa (Below w.heap.size w w1) := ⟨HA1.out.trans (hb2.mono HA1.out.size)⟩
 have HC1 := zaa.mk hC; clear hK K1 hb2 hC d0 d1 d2 d3 d4 d5 d6 d7 d8 d9; simp only [Act.put, List.setIfInBounds_toArray, List.set_cons_zero, List.set_cons_succ]; repeat (go_big_quiet_step (fail))
 refine wpQuiet_nil ?_; rintro v1 ⟨m1, hv1⟩; have HD1 : zaa (zbY v1 b ⟨⟨mn, mx, per, stale, step, ahead, cool, season⟩, now, plan, prev, changed⟩ A l.length c) := ⟨zjT⟩
 have HV1 : zaa (Below w.heap.size w v1) := ⟨zjO⟩
 have HCv : zaa (Kd.C (Kd.int .i64) v1 B ps.length ps) := ⟨zjS⟩
 clear hv1 m1 HC1; have d0 := (HD1.out).at 0 (.int .i64 mn) rfl; have d1 := (HD1.out).at 1 (.int .i64 mx) rfl; have d2 := (HD1.out).at 2 (.int .i64 per) rfl; have d3 := (HD1.out).at 3 (.int .i64 stale) rfl; have d4 := (HD1.out).at 4 (.int .i64 step) rfl; have d5 := (HD1.out).at 5 (.int .i64 ahead) rfl; have d6 := (HD1.out).at 6 (.int .i64 cool) rfl; have d7 := (HD1.out).at 7 (.int .i64 season) rfl; have d8 := (HD1.out).at 8 (.int .i64 now) rfl; have d9 := (HD1.out).at 9 (.slice A l.length c) rfl; go_wp2; refine zbU 11 zq6 zq6 rfl ?_; simp only [List.take_succ_cons, List.take_zero, List.drop_succ_cons, List.drop_zero]; repeat (go_big_quiet_step (fail))
 refine wpQuiet_nil ?_; rintro W2 ⟨nq, hnq⟩ K1 hK; have HE2 : zaa (Below v1.heap.size v1 W2) := ⟨zjP⟩
 have HA2 : zaa (Below w.heap.size w W2) := ⟨zmV⟩
 clear hnq nq; refine zcT Try.func140 zq6 rfl #[.slice A l.length c, .int .i64 F, .int .i64 step, .int .i64 N] (by rfl) rfl rfl zdi ?_; refine (KG.out _ (Kd.zaL HR.out HA2.out)).mono ?_; rintro e w2 ⟨rfl, hb2⟩; refine ⟨_, rfl, hK _ _ ?_⟩; have HB2 : zaa (Below w.heap.size w w2) := ⟨HA2.out.trans (hb2.mono HA2.out.size)⟩
 have HC2 : zaa (Kd.C (Kd.int .i64) w2 B ps.length ps) := ⟨Kd.zaL (Kd.zaL HCv.out HE2.out) hb2⟩
 clear hK K1 hb2 HCv HE2 d0 d1 d2 d3 d4 d5 d6 d7 d8 d9; simp only [Act.put, List.setIfInBounds_toArray, List.set_cons_zero, List.set_cons_succ]; repeat (go_big_quiet_step (fail))
 refine wpQuiet_nil ?_; rintro v2 ⟨m2, hv2⟩; have HD2 : zaa (zbY v2 b ⟨⟨mn, mx, per, stale, step, ahead, cool, season⟩, now, plan, prev, changed⟩ A l.length c) := ⟨zmT⟩
 have HV2 : zaa (Below w.heap.size w v2) := ⟨by subst hv2; exact zaj HB2.out _⟩
 have HCv : zaa (Kd.C (Kd.int .i64) v2 B ps.length ps) := ⟨zmS⟩
 clear hv2 m2 HC2; have d0 := (HD2.out).at 0 (.int .i64 mn) rfl; have d1 := (HD2.out).at 1 (.int .i64 mx) rfl; have d2 := (HD2.out).at 2 (.int .i64 per) rfl; have d3 := (HD2.out).at 3 (.int .i64 stale) rfl; have d4 := (HD2.out).at 4 (.int .i64 step) rfl; have d5 := (HD2.out).at 5 (.int .i64 ahead) rfl; have d6 := (HD2.out).at 6 (.int .i64 cool) rfl; have d7 := (HD2.out).at 7 (.int .i64 season) rfl; have d8 := (HD2.out).at 8 (.int .i64 now) rfl; have d9 := (HD2.out).at 9 (.slice A l.length c) rfl; go_wp2; refine zbU 11 zq6 zq6 rfl ?_; simp only [List.take_succ_cons, List.take_zero, List.drop_succ_cons, List.drop_zero]; repeat (go_big_quiet_step (fail))
 refine wpQuiet_nil ?_; rintro W3 ⟨nq, hnq⟩ K1 hK; have HE3 : zaa (Below v2.heap.size v2 W3) := ⟨zjP⟩
 have HA3 : zaa (Below w.heap.size w W3) := ⟨by subst hnq; repeat (first | exact Below.refl _ _ | exact HV2.out | apply zaj)⟩
 clear hnq nq; refine zcT Try.func45 zq6 rfl #[.slice B ps.length cB, .int .i64 season, .int .i64 ahead] (by rfl) rfl rfl zdi ?_; refine (KK.out _ B cB (Kd.zaL HCv.out HE3.out) hcB).mono ?_; rintro e w3 ⟨rfl, hb2⟩; refine ⟨_, rfl, hK _ _ ?_⟩; have HB3 : zaa (Below w.heap.size w w3) := ⟨HA3.out.trans (hb2.mono HA3.out.size)⟩
 clear hK K1 hb2 HCv HE3 d0 d1 d2 d3 d4 d5 d6 d7 d8 d9; simp only [Act.put, List.setIfInBounds_toArray, List.set_cons_zero, List.set_cons_succ]; repeat (go_big_quiet_step (fail))
 refine wpQuiet_nil ?_; rintro v3 ⟨m3, hv3⟩; have HD3 : zaa (zbY v3 b ⟨⟨mn, mx, per, stale, step, ahead, cool, season⟩, now, plan, prev, changed⟩ A l.length c) := ⟨by subst hv3; exact (HD.out.below HB3.out).below (zaj (Below.refl _ _) _)⟩
 have HV3 : zaa (Below w.heap.size w v3) := ⟨by subst hv3; exact zaj HB3.out _⟩
 clear hv3 m3; have d0 := (HD3.out).at 0 (.int .i64 mn) rfl; have d1 := (HD3.out).at 1 (.int .i64 mx) rfl; have d2 := (HD3.out).at 2 (.int .i64 per) rfl; have d3 := (HD3.out).at 3 (.int .i64 stale) rfl; have d4 := (HD3.out).at 4 (.int .i64 step) rfl; have d5 := (HD3.out).at 5 (.int .i64 ahead) rfl; have d6 := (HD3.out).at 6 (.int .i64 cool) rfl; have d7 := (HD3.out).at 7 (.int .i64 season) rfl; have d8 := (HD3.out).at 8 (.int .i64 now) rfl; have d9 := (HD3.out).at 9 (.slice A l.length c) rfl; go_wp2_with (go_at_call 53; (with_reducible refine (KF.out _).mono ?_); rintro e w4 ⟨rfl, hb⟩; have HB4 := zaa.mk (HV3.out.trans (hb.mono HV3.out.size)); clear hb)
 go_ret; exact ⟨rfl, HB4.out⟩
end Go.Proofs.Ytemnfnbjapobcaa.Ho
end
section
namespace Go.Proofs.Ytemnfnbjapobcaa.PS
open Go.Proofs.Ytemnfnbjapobcaa.Pr
def zki (a b c : Int) : Int := if (if a < b then b else a) < c then c else (if a < b then b else a)
def zeS (d : Dr) (l : List S70) : Int := d.bounded (zki (zeM d l) d.plan (zfA d l))
def zgW (d : Dr) (l : List S70) : Int := if d.some ∧ zeS d l < d.bounded d.prev.rep ∧ d.rests then d.bounded d.prev.rep else zeS d l
def zgC (d : Dr) (l : List S70) : Dec := ⟨d.now, zgW d l, zeM d l, d.plan, zfA d l⟩
def zgE (d : Dr) (l : List S70) : Int := if ¬ d.some ∨ zgW d l ≠ d.prev.rep then d.now else d.changed
end Go.Proofs.Ytemnfnbjapobcaa.PS
namespace Go.Proofs.Ytemnfnbjapobcaa.Ho
open Go.RowKit Go.Proofs.ZW.PrintWords Go.Proofs.ZW.PrintLast Go.Proofs.ZW.PrintMore
open Go.Proofs.Ytemnfnbjapobcaa.FS Go.Proofs.Ytemnfnbjapobcaa.HS Go.Proofs.Ytemnfnbjapobcaa.FM Go.Proofs.Ytemnfnbjapobcaa.PS Go.Proofs.Ytemnfnbjapobcaa.Pr
attribute [local go_sem] zcx zcw zcO zcN zco zcn
def zeh (x : Dec) : Value := .agg #[.int .i64 x.t, .int .i64 x.rep, .int .i64 x.floor, .int .i64 x.plan, .int .i64 x.cast]
def zbx (x : Dec) : Array Value := #[.int .i64 x.t, .int .i64 x.rep, .int .i64 x.floor, .int .i64 x.plan, .int .i64 x.cast]
def zbK : Array Value := #[.int .i64 0, .int .i64 0, .int .i64 0, .int .i64 0, .int .i64 0]
def zcu (W : World) (T : Nat) (x0 x1 x2 x3 x4 : Int) : World := ((((W.setCell ⟨T, 0, none⟩ (.int .i64 x0)).setCell ⟨T, 1, none⟩ (.int .i64 x1)).setCell ⟨T, 2, none⟩ (.int .i64 x2)).setCell ⟨T, 3, none⟩ (.int .i64 x3)).setCell ⟨T, 4, none⟩ (.int .i64 x4)
theorem zcZ {W : World} {T : Nat} (h : W.heap[T]? = some (.cells zbK 68 (0, 0))) (x0 x1 x2 x3 x4 : Int) : (zcu W T x0 x1 x2 x3 x4).heap[T]? = some (.cells #[.int .i64 x0, .int .i64 x1, .int .i64 x2, .int .i64 x3, .int .i64 x4] 68 (0, 0)) := zaA (zaA (zaA (zaA (zaA h 0 _ rfl) 1 _ rfl) 2 _ rfl) 3 _ rfl) 4 _ rfl
theorem zcA {w W : World} {T : Nat} (h : Below w.heap.size w W) (hT : w.heap.size ≤ T) (x0 x1 x2 x3 x4 : Int) : Below w.heap.size w (zcu W T x0 x1 x2 x3 x4) := ((((h.setCell hT _).setCell hT _).setCell hT _).setCell hT _).setCell hT _
theorem zoU {W : World} {T : Nat} {p : Addr} {v : Value} (h : W.cell? p = some v) (hne : p.block ≠ T) (x0 x1 x2 x3 x4 : Int) : (zcu W T x0 x1 x2 x3 x4).cell? p = some v := by
 unfold zcu; rw [zbs (p := ⟨T, 4, none⟩) hne, zbs (p := ⟨T, 3, none⟩) hne, zbs (p := ⟨T, 2, none⟩) hne, zbs (p := ⟨T, 1, none⟩) hne, zbs (p := ⟨T, 0, none⟩) hne]; exact h
theorem zkC (W : World) (p : Addr) : W.drew.cell? p = W.cell? p := rfl
theorem zbh {W : World} {T : Nat} {p : Addr} {v : Value} (h : W.drew.cell? p = some v) (hne : p.block ≠ T) (x0 x1 x2 x3 x4 : Int) : (zcu W T x0 x1 x2 x3 x4).drew.cell? p = some v := (zkC _ _).trans (zoU ((zkC _ _).symm.trans h) hne x0 x1 x2 x3 x4)
theorem ziq {W W' : World} {g : Nat} {o : Obj} (h : W.heap[g]? = some o) (hD : Drawn0 W W') : W'.heap[g]? = some o := by
 obtain ⟨m, rfl⟩ := hD.out; exact h
theorem zjd {w V w9 : World} {k B b T : Nat} {now fl plan ca rr z : Int} {d : Dr} {A : Option Addr} {n c : Nat} (hD : Drawn0 ((V.drewN k).setCell ⟨B, 1, none⟩ (.int .i64 rr)) w9) (h1 : zbY V b d A n c) (h2 : V.heap[B]? = some (.cells #[.int .i64 now, .int .i64 z, .int .i64 fl, .int .i64 plan, .int .i64 ca] 68 (0, 0))) (h3 : V.heap[T]? = some (.cells zbK 68 (0, 0))) (hb : b ≠ B) (hT : T ≠ B) (h4 : Below w.heap.size w V) (hB : w.heap.size ≤ B) :
  zbY w9 b d A n c ∧ w9.heap[B]? = some (.cells #[.int .i64 now, .int .i64 rr, .int .i64 fl, .int .i64 plan, .int .i64 ca] 68 (0, 0)) ∧ w9.heap[T]? = some (.cells zbK 68 (0, 0)) ∧ Below w.heap.size w w9 := by
 refine ⟨ziq (zaP (zal h1 k) hb _) hD, ziq (zaA (zal h2 k) 1 _ rfl) hD, ziq (zaP (zal h3 k) hT _) hD, ?_⟩; obtain ⟨m, rfl⟩ := hD.out; exact zaj ((zaj h4 k).setCell hB _) m
theorem zbY.set {W : World} {b g i : Nat} {v : Value} {d : Dr} {A : Option Addr} {n c : Nat} (h : zbY W b d A n c) (hne : b ≠ g) : zbY (W.setCell ⟨g, i, none⟩ v) b d A n c := zaP h hne _
theorem zlO (HS : zaa SeasonMiss) (HC : zaa SeasonCast) (b : Nat) (d : Dr) (A : Option Addr) (c : Nat) (l : List S70) (w : World) (h : zbY w b d A l.length c) (hr : Kd.C k70 w A l.length l) (hc : l.length ≤ c) (hs : sIn l) (hp : okP d.p) (hper : FS.In d.p.per) (hn0 : -4503599627370496 ≤ d.now) (hn1 : d.now ≤ 4503599627370496) (hch : FS.In d.changed) (hl : l.length ≤ 1152921504606846976) :
  Calls Try.prog 84 #[.pointer (some ⟨b, 0, none⟩)] w fun e w' => e = .returned (.tuple #[zeh (zgC d l), .int .i64 (zgE d l)]) ∧ Below w.heap.size w w' := by
 have KFl := zaa.mk (fun W (h : zbY W b d A l.length c) (hr : Kd.C k70 W A l.length l) => zlN b d A c l W h hr hc hs hp hper hn0 hn1 hl); have KCa := zaa.mk (fun W (h : zbY W b d A l.length c) (hr : Kd.C k70 W A l.length l) => zmj HS HC b d A c l W h hr hc hs hp hper hn0 hn1 hl); have KBo := zaa.mk (fun W x (h : zbY W b d A l.length c) => zkQ b d A l.length c x W h); have KSo := zaa.mk (fun W (h : zbY W b d A l.length c) => zjk b d A l.length c W h); have KRe := zaa.mk (fun W (h : zbY W b d A l.length c) => zmb b d A l.length c W h hp.2.2.2.2.2.2.1.1 hp.2.2.2.2.2.2.1.2 hch); have HD := zaa.mk h; have HR := zaa.mk hr; obtain ⟨r, hrr⟩ : ∃ r, zgW d l = r := ⟨_, rfl⟩
 obtain ⟨ch, hchg⟩ : ∃ ch, zgE d l = ch := ⟨_, rfl⟩
 have hres : zgC d l = ⟨d.now, r, zeM d l, d.plan, zfA d l⟩ := by unfold zgC; rw [hrr]
 unfold zgE at hchg; rw [hrr] at hchg; have hcc : zgE d l = ch := by unfold zgE; rw [hrr]; exact hchg
 rw [hres, hcc]; unfold zgW zeS at hrr; obtain ⟨fl, hfl⟩ : ∃ fl, zeM d l = fl := ⟨_, rfl⟩
 obtain ⟨ca, hca⟩ : ∃ ca, zfA d l = ca := ⟨_, rfl⟩
 rw [hfl] at KFl hrr ⊢; rw [hca] at KCa hrr ⊢; clear hres hcc hfl hca h hr; have d8 := HD.out.at 8 (.int .i64 d.now) rfl; have d10 := HD.out.at 10 (.int .i64 d.plan) rfl; have d12 := HD.out.at 12 (.int .i64 d.prev.rep) rfl; have d16 := HD.out.at 16 (.int .i64 d.changed) rfl; have hbb : b < w.heap.size := zbT HD.out; obtain ⟨now, hnow⟩ : ∃ x, d.now = x := ⟨_, rfl⟩
 obtain ⟨plan, hplan⟩ : ∃ x, d.plan = x := ⟨_, rfl⟩
 obtain ⟨pr, hpr⟩ : ∃ x, d.prev.rep = x := ⟨_, rfl⟩
 obtain ⟨chd, hchd⟩ : ∃ x, d.changed = x := ⟨_, rfl⟩
 rw [hnow] at d8 hchg ⊢; rw [hplan] at d10 hrr ⊢; rw [hpr] at d12 hrr hchg; rw [hchd] at d16 hchg; obtain ⟨a, ha⟩ : ∃ a, (if fl < plan then plan else fl) = a := ⟨_, rfl⟩
 obtain ⟨M, hM⟩ : ∃ M, (if a < ca then ca else a) = M := ⟨_, rfl⟩
 have hm3 : zki fl plan ca = M := by unfold zki; rw [ha]; exact hM
 rw [hm3] at hrr; obtain ⟨n0, hn0'⟩ : ∃ n0, d.bounded M = n0 := ⟨_, rfl⟩
 obtain ⟨old, hold⟩ : ∃ old, d.bounded pr = old := ⟨_, rfl⟩
 rw [hn0', hold] at hrr; have KB1 : zaa (∀ W, zbY W b d A l.length c → Calls Try.prog 120 #[.pointer (some ⟨b, 0, none⟩), .int .i64 M] W fun e w' => e = .returned (.int .i64 n0) ∧ Drawn0 W w') := ⟨fun W h => hn0' ▸ KBo.out W M h⟩
 have KB2 : zaa (∀ W, zbY W b d A l.length c → Calls Try.prog 120 #[.pointer (some ⟨b, 0, none⟩), .int .i64 pr] W fun e w' => e = .returned (.int .i64 old) ∧ Drawn0 W w') := ⟨fun W h => hold ▸ KBo.out W pr h⟩
 have HF := zaa.mk (And.intro hrr hchg); have HE := zaa.mk (And.intro hnow (And.intro hplan (And.intro hpr hchd))); have HM := zaa.mk (And.intro ha hM); clear hm3 hn0' hold KBo ha hM; clear hrr hchg hnow hplan hpr hchd hp hper hn0 hn1 hch hs hl; dsimp only [zeh]; go_enter Try.func84, Try.ntmps84
 go_wp2; obtain ⟨W0, hW0⟩ : ∃ W0, w.alloc (.cells #[.int .i64 0, .int .i64 0, .int .i64 0, .int .i64 0, .int .i64 0] 68) = W0 := ⟨_, rfl⟩
 rw [hW0]; have hb0 : Below w.heap.size w W0 := hW0 ▸ zaq (Below.refl _ _) _; have hz0 : W0.heap[w.heap.size]? = some (.cells zbK 68 (0, 0)) := hW0 ▸ zbL w _; have hs0 : W0.heap.size = w.heap.size + 1 := by rw [← hW0]; exact zcE _ _
 have d8' : W0.drew.cell? ⟨b, 8, none⟩ = some (.int .i64 now) := zca (zcM hb0) d8; have d10' : W0.drew.cell? ⟨b, 10, none⟩ = some (.int .i64 plan) := zca (zcM hb0) d10; have H0 := zaa.mk (And.intro hb0 (And.intro hz0 hs0)); clear hb0 hz0 hW0; refine zer (n := 15) (S := (fun w' => w'.cell? ⟨b, 8, none⟩ = some (.int .i64 now) ∧ w'.cell? ⟨b, 10, none⟩ = some (.int .i64 plan))) (ds := [14]) #[false, false, false, false, false, false, false, false, false, false, false, false, false, false, false] zq6 rfl rfl ⟨d8', d10'⟩ (fun hHeld => ?_); refine zbg (i := 0) (N := some 7) (v := ?_) (a' := ?_) #[true, false, false, false, false, false, false, false, false, false, false, false, false, false, false] rfl rfl zq6 (fun _ _ _ h => h) (Or.inl ⟨by rfl, ?_⟩) ?_ ?_; rotate_left
 · intro w'; go_simp; with_reducible rfl
 rotate_left
 · simp only [Act.put, List.setIfInBounds_toArray, List.set_cons_zero, List.set_cons_succ, zaF, zaM]; rfl
 refine zbg (i := 1) (N := some 8) (v := ?_) (a' := ?_) #[true, true, false, false, false, false, false, false, false, false, false, false, false, false, false] rfl rfl zq6 (fun _ _ _ h => h) (Or.inl ⟨by rfl, ?_⟩) ?_ ?_; rotate_left
 · intro w'; go_simp; with_reducible rfl
 rotate_left
 · simp only [Act.put, List.setIfInBounds_toArray, List.set_cons_zero, List.set_cons_succ, zaF, zaM]; rfl
 refine zbg (i := 2) (N := some 9) (v := ?_) (a' := ?_) #[true, true, true, false, false, false, false, false, false, false, false, false, false, false, false] rfl rfl zq6 (fun _ _ _ h => h) (Or.inl ⟨by rfl, ?_⟩) ?_ ?_; rotate_left
 · intro w'; go_simp; with_reducible rfl
 rotate_left
 · simp only [Act.put, List.setIfInBounds_toArray, List.set_cons_zero, List.set_cons_succ, zaF, zaM]; rfl
 refine zbg (i := 4) (N := some 11) (v := ?_) (a' := ?_) #[true, true, true, false, true, false, false, false, false, false, false, false, false, false, false] rfl rfl zq6 (fun _ _ _ h => h) (Or.inl ⟨by rfl, ?_⟩) ?_ ?_; rotate_left
 · intro w'; go_simp; with_reducible rfl
 rotate_left
 · simp only [Act.put, List.setIfInBounds_toArray, List.set_cons_zero, List.set_cons_succ, zaF, zaM]; rfl
 refine zbg (i := 6) (N := some 13) (v := ?_) (a' := ?_) #[true, true, true, false, true, false, true, false, false, false, false, false, false, false, false] rfl rfl zq6 (fun _ _ _ h => h) (Or.inl ⟨by rfl, ?_⟩) ?_ ?_; rotate_left
 · intro w'; go_simp; with_reducible rfl
 rotate_left
 · simp only [Act.put, List.setIfInBounds_toArray, List.set_cons_zero, List.set_cons_succ, zaF, zaM]; rfl
 refine zbg (i := 7) (N := some 14) (v := ?_) (a' := ?_) #[true, true, true, false, true, false, true, true, false, false, false, false, false, false, false] rfl rfl zq6 (fun _ _ _ h => h) (Or.inl ⟨by rfl, ?_⟩) ?_ ?_; rotate_left
 · intro w'; go_simp; with_reducible rfl
 rotate_left
 · simp only [Act.put, List.setIfInBounds_toArray, List.set_cons_zero, List.set_cons_succ, zaF, zaM]; rfl
 refine zbg (i := 8) (N := some 15) (v := ?_) (a' := ?_) #[true, true, true, false, true, false, true, true, true, false, false, false, false, false, false] rfl rfl zq6 (fun _ _ _ h => h) (Or.inl ⟨by rfl, ?_⟩) ?_ ?_; rotate_left
 · intro w'; go_simp; with_reducible rfl
 rotate_left
 · simp only [Act.put, List.setIfInBounds_toArray, List.set_cons_zero, List.set_cons_succ, zaF, zaM]; rfl
 refine zbg (i := 10) (N := some 17) (v := ?_) (a' := ?_) #[true, true, true, false, true, false, true, true, true, false, true, false, false, false, false] rfl rfl zq6 (fun _ _ _ h => h) (Or.inl ⟨by rfl, ?_⟩) ?_ ?_; rotate_left
 · intro w'; go_simp; with_reducible rfl
 rotate_left
 · simp only [Act.put, List.setIfInBounds_toArray, List.set_cons_zero, List.set_cons_succ, zaF, zaM]; rfl
 refine take_ (i := 3) (N := some 10) (v := ?_) (a' := ?_) #[true, true, true, true, true, false, true, true, true, false, true, false, false, false, false] rfl rfl zq6 (fun _ _ _ h => h) (Or.inl ⟨by rfl, ?_⟩) hHeld ?_ ?_; rotate_left
 · rintro w' ⟨s0, s1⟩; go_simp; with_reducible rfl
 rotate_left
 · simp only [Act.put, List.setIfInBounds_toArray, List.set_cons_zero, List.set_cons_succ, zaF, zaM]; rfl
 refine take_ (i := 9) (N := some 16) (v := ?_) (a' := ?_) #[true, true, true, true, true, false, true, true, true, true, true, false, false, false, false] rfl rfl zq6 (fun _ _ _ h => h) (Or.inl ⟨by rfl, ?_⟩) hHeld ?_ ?_; rotate_left
 · rintro w' ⟨s0, s1⟩; go_simp; with_reducible rfl
 rotate_left
 · simp only [Act.put, List.setIfInBounds_toArray, List.set_cons_zero, List.set_cons_succ, zaF, zaM]; rfl
 refine zpL (σ := Nat) 1 #[true, true, true, true, true, true, true, true, true, true, true, true, true, true, false] (fun B => [(12, .int .i64 fl), (18, .int .i64 ca), (19, .agg #[.int .i64 now, .int .i64 0, .int .i64 fl, .int .i64 plan, .int .i64 ca]), (4, .pointer (some ⟨B, 0, none⟩))]) (fun B w' => (w'.cell? ⟨b, 8, none⟩ = some (.int .i64 now) ∧ w'.cell? ⟨b, 10, none⟩ = some (.int .i64 plan)) ∧ zaa (Below W0.heap.size W0 w' ∧ W0.heap.size ≤ B ∧ w'.heap[B]? = some (.cells zbK 68 (0, 0)))) ?cont ?main
 case main =>
  intro HJ; have q0 : Below W0.heap.size W0 W0.drew := zcM (Below.refl _ _); refine zoP (i := 5) (j := 13) (Ni := some 12) (Nj := some 4) #[true, true, true, true, true, true, true, true, true, true, true, false, false, false, false] #[true, true, true, true, true, false, true, true, true, true, true, false, false, true, false] rfl rfl rfl rfl zq6 zaR zaR (fun K hK => ?_) (fun K hK => ?_)
  · refine zcT Try.func118 zq6 rfl #[.pointer (some ⟨b, 0, none⟩)] (by rfl) rfl rfl zdi ?_; refine (KFl.out _ (HD.out.below (H0.out.1.trans (q0.mono H0.out.1.size))) (Kd.zaL HR.out (H0.out.1.trans (q0.mono H0.out.1.size)))).mono ?_; rintro e u1 ⟨rfl, hb1⟩; have q1 : Below W0.heap.size W0 u1 := q0.trans (hb1.mono q0.size); refine ⟨_, rfl, hK.out _ _ ⟨zca hb1 hHeld.1, zca hb1 hHeld.2⟩ (fun hHeld => ?_)⟩; clear hK K; refine zcR zeH ?_; refine zoP (i := 11) (j := 13) (Ni := some 18) (Nj := some 4) #[true, true, true, true, true, true, true, true, true, true, true, true, false, false, false] #[true, true, true, true, true, true, true, true, true, true, true, false, false, true, false] rfl rfl rfl rfl zq6 zaR zaR (fun K hK => ?_) (fun K hK => ?_)
    · refine zcT Try.func119 zq6 rfl #[.pointer (some ⟨b, 0, none⟩)] (by rfl) rfl rfl zdi ?_; refine (KCa.out _ (HD.out.below (H0.out.1.trans (q1.mono H0.out.1.size))) (Kd.zaL HR.out (H0.out.1.trans (q1.mono H0.out.1.size)))).mono ?_; rintro e u2 ⟨rfl, hb2⟩; have q2 : Below W0.heap.size W0 u2 := q1.trans (hb2.mono q1.size); refine ⟨_, rfl, hK.out _ _ ⟨zca hb2 hHeld.1, zca hb2 hHeld.2⟩ (fun hHeld => ?_)⟩; clear hK K; refine zcR zeH ?_; refine zbg (i := 12) (N := some 19) (v := ?_) (a' := ?_) #[true, true, true, true, true, true, true, true, true, true, true, true, true, false, false] rfl rfl zq6 (fun _ _ _ h => h) (Or.inl ⟨by rfl, ?_⟩) ?_ ?_; rotate_left
      · intro w'; go_simp; with_reducible rfl
      rotate_left
      · simp only [Act.put, List.setIfInBounds_toArray, List.set_cons_zero, List.set_cons_succ, zaF, zaM]; rfl
      refine zef (i := 13) (N := some 4) #[true, true, true, true, true, true, true, true, true, true, true, true, true, true, false] rfl rfl zq6 zaR (fun K hK => ?_); refine zgt (w1 := (u2).alloc (.cells #[.int .i64 0, .int .i64 0, .int .i64 0, .int .i64 0, .int .i64 0] 68)) (v := .pointer (some ⟨(u2).heap.size, 0, none⟩)) (by rfl) rfl (by go_simp) ?_; have q3 : Below W0.heap.size W0 ((u2).alloc (.cells #[.int .i64 0, .int .i64 0, .int .i64 0, .int .i64 0, .int .i64 0] 68)) := q2.alloc q2.size _; have z3 : ((u2).alloc (.cells #[.int .i64 0, .int .i64 0, .int .i64 0, .int .i64 0, .int .i64 0] 68)).heap[(u2).heap.size]? = some (.cells zbK 68 (0, 0)) := zbL _ _; have s3 : W0.heap.size ≤ (u2).heap.size := q2.size; refine hK.out _ _ ⟨zdW hHeld.1 _, zdW hHeld.2 _⟩ (fun hHeld => ?_); clear hK K; refine zcR zeH ?_; refine zcR zkX (HJ (u2.heap.size) _ ⟨hHeld, ⟨q3, s3, z3⟩⟩)
    · refine zgt (w1 := (u1).alloc (.cells #[.int .i64 0, .int .i64 0, .int .i64 0, .int .i64 0, .int .i64 0] 68)) (v := .pointer (some ⟨(u1).heap.size, 0, none⟩)) (by rfl) rfl (by go_simp) ?_; have q2 : Below W0.heap.size W0 ((u1).alloc (.cells #[.int .i64 0, .int .i64 0, .int .i64 0, .int .i64 0, .int .i64 0] 68)) := q1.alloc q1.size _; have z2 : ((u1).alloc (.cells #[.int .i64 0, .int .i64 0, .int .i64 0, .int .i64 0, .int .i64 0] 68)).heap[(u1).heap.size]? = some (.cells zbK 68 (0, 0)) := zbL _ _; have s2 : W0.heap.size ≤ (u1).heap.size := q1.size; refine hK.out _ _ ⟨zdW hHeld.1 _, zdW hHeld.2 _⟩ (fun hHeld => ?_); clear hK K; refine zcR zeH ?_; refine zef (i := 11) (N := some 18) #[true, true, true, true, true, true, true, true, true, true, true, true, false, true, false] rfl rfl zq6 zaR (fun K hK => ?_); refine zcT Try.func119 zq6 rfl #[.pointer (some ⟨b, 0, none⟩)] (by rfl) rfl rfl zdi ?_; refine (KCa.out _ (HD.out.below (H0.out.1.trans (q2.mono H0.out.1.size))) (Kd.zaL HR.out (H0.out.1.trans (q2.mono H0.out.1.size)))).mono ?_; rintro e u3 ⟨rfl, hb3⟩; have q3 : Below W0.heap.size W0 u3 := q2.trans (hb3.mono q2.size); refine ⟨_, rfl, hK.out _ _ ⟨zca hb3 hHeld.1, zca hb3 hHeld.2⟩ (fun hHeld => ?_)⟩; clear hK K; refine zcR zeH ?_
      refine zbg (i := 12) (N := some 19) (v := ?_) (a' := ?_) #[true, true, true, true, true, true, true, true, true, true, true, true, true, true, false] rfl rfl zq6 (fun _ _ _ h => h) (Or.inl ⟨by rfl, ?_⟩) ?_ ?_; rotate_left
      · intro w'; go_simp; with_reducible rfl
      rotate_left
      · simp only [Act.put, List.setIfInBounds_toArray, List.set_cons_zero, List.set_cons_succ, zaF, zaM]; rfl
      refine zcR zkX (HJ (u1.heap.size) _ ⟨hHeld, ⟨q3, s2, (zax z2 hb3)⟩⟩)
  · refine zgt (w1 := (W0.drew).alloc (.cells #[.int .i64 0, .int .i64 0, .int .i64 0, .int .i64 0, .int .i64 0] 68)) (v := .pointer (some ⟨(W0.drew).heap.size, 0, none⟩)) (by rfl) rfl (by go_simp) ?_; have q1 : Below W0.heap.size W0 ((W0.drew).alloc (.cells #[.int .i64 0, .int .i64 0, .int .i64 0, .int .i64 0, .int .i64 0] 68)) := q0.alloc q0.size _; have z1 : ((W0.drew).alloc (.cells #[.int .i64 0, .int .i64 0, .int .i64 0, .int .i64 0, .int .i64 0] 68)).heap[(W0.drew).heap.size]? = some (.cells zbK 68 (0, 0)) := zbL _ _; have s1 : W0.heap.size ≤ (W0.drew).heap.size := q0.size; refine hK.out _ _ ⟨zdW hHeld.1 _, zdW hHeld.2 _⟩ (fun hHeld => ?_); clear hK K; refine zcR zeH ?_; refine zef (i := 5) (N := some 12) #[true, true, true, true, true, true, true, true, true, true, true, false, false, true, false] rfl rfl zq6 zaR (fun K hK => ?_); refine zcT Try.func118 zq6 rfl #[.pointer (some ⟨b, 0, none⟩)] (by rfl) rfl rfl zdi ?_; refine (KFl.out _ (HD.out.below (H0.out.1.trans (q1.mono H0.out.1.size))) (Kd.zaL HR.out (H0.out.1.trans (q1.mono H0.out.1.size)))).mono ?_; rintro e u2 ⟨rfl, hb2⟩; have q2 : Below W0.heap.size W0 u2 := q1.trans (hb2.mono q1.size); refine ⟨_, rfl, hK.out _ _ ⟨zca hb2 hHeld.1, zca hb2 hHeld.2⟩ (fun hHeld => ?_)⟩; clear hK K; refine zcR zeH ?_
    refine zef (i := 11) (N := some 18) #[true, true, true, true, true, true, true, true, true, true, true, true, false, true, false] rfl rfl zq6 zaR (fun K hK => ?_); refine zcT Try.func119 zq6 rfl #[.pointer (some ⟨b, 0, none⟩)] (by rfl) rfl rfl zdi ?_; refine (KCa.out _ (HD.out.below (H0.out.1.trans (q2.mono H0.out.1.size))) (Kd.zaL HR.out (H0.out.1.trans (q2.mono H0.out.1.size)))).mono ?_; rintro e u3 ⟨rfl, hb3⟩; have q3 : Below W0.heap.size W0 u3 := q2.trans (hb3.mono q2.size); refine ⟨_, rfl, hK.out _ _ ⟨zca hb3 hHeld.1, zca hb3 hHeld.2⟩ (fun hHeld => ?_)⟩; clear hK K; refine zcR zeH ?_; refine zbg (i := 12) (N := some 19) (v := ?_) (a' := ?_) #[true, true, true, true, true, true, true, true, true, true, true, true, true, true, false] rfl rfl zq6 (fun _ _ _ h => h) (Or.inl ⟨by rfl, ?_⟩) ?_ ?_; rotate_left
    · intro w'; go_simp; with_reducible rfl
    rotate_left
    · simp only [Act.put, List.setIfInBounds_toArray, List.set_cons_zero, List.set_cons_succ, zaF, zaM]; rfl
    refine zcR zkX (HJ (W0.drew.heap.size) _ ⟨hHeld, ⟨q3, s1, (zax (zax z1 hb2) hb3)⟩⟩)
 case cont =>
  rintro B V0 ⟨hHeld, HB⟩; refine zcR (by simp only [zhg, Act.put, List.setIfInBounds_toArray, List.set_cons_zero, List.set_cons_succ]; rfl) ?_; obtain ⟨hb1, hB, hzB⟩ := HB.out; have e0 := zab hzB 0; have e1 := zab hzB 1; have e2 := zab hzB 2; have e3 := zab hzB 3; have e4 := zab hzB 4; simp only [zbK, List.getElem?_toArray, List.getElem?_cons_zero, List.getElem?_cons_succ] at e0 e1 e2 e3 e4; have z0 := zac hzB 0; have z1 := zac hzB 1; have z2 := zac hzB 2; have z3 := zac hzB 3; have z4 := zac hzB 4; clear HB; refine zkT (i := 14) (N := none) #[true, true, true, true, true, true, true, true, true, true, true, true, true, true, true] rfl rfl zq6 zaR (fun K hK => ?_); refine zeT (w1 := ((((V0.setCell ⟨B, 0, none⟩ (.int .i64 now)).setCell ⟨B, 1, none⟩ (.int .i64 0)).setCell ⟨B, 2, none⟩ (.int .i64 fl)).setCell ⟨B, 3, none⟩ (.int .i64 plan)).setCell ⟨B, 4, none⟩ (.int .i64 ca)) (by rfl) rfl (by go_simp) ?_; refine hK.out _ _ ?_; clear hK K; refine zeN zq6 ?_; have hVb : Below W0.heap.size W0 (((((V0.setCell ⟨B, 0, none⟩ (.int .i64 now)).setCell ⟨B, 1, none⟩ (.int .i64 0)).setCell ⟨B, 2, none⟩ (.int .i64 fl)).setCell ⟨B, 3, none⟩ (.int .i64 plan)).setCell ⟨B, 4, none⟩ (.int .i64 ca)) := ((((hb1.setCell hB _).setCell hB _).setCell hB _).setCell hB _).setCell hB _; have hVB : (((((V0.setCell ⟨B, 0, none⟩ (.int .i64 now)).setCell ⟨B, 1, none⟩ (.int .i64 0)).setCell ⟨B, 2, none⟩ (.int .i64 fl)).setCell ⟨B, 3, none⟩ (.int .i64 plan)).setCell ⟨B, 4, none⟩ (.int .i64 ca)).heap[B]? = some (.cells #[.int .i64 now, .int .i64 0, .int .i64 fl, .int .i64 plan, .int .i64 ca] 68 (0, 0)) := zaA (zaA (zaA (zaA (zaA hzB 0 _ rfl) 1 _ rfl) 2 _ rfl) 3 _ rfl) 4 _ rfl
  obtain ⟨V, hV⟩ : ∃ V, (((((V0.setCell ⟨B, 0, none⟩ (.int .i64 now)).setCell ⟨B, 1, none⟩ (.int .i64 0)).setCell ⟨B, 2, none⟩ (.int .i64 fl)).setCell ⟨B, 3, none⟩ (.int .i64 plan)).setCell ⟨B, 4, none⟩ (.int .i64 ca)) = V := ⟨_, rfl⟩
  rw [hV] at hVb hVB ⊢; have hVw : Below w.heap.size w V := H0.out.1.trans (hVb.mono H0.out.1.size); have hVz := zax H0.out.2.1 hVb; have HV := zaa.mk (And.intro hVw (And.intro hVB hVz)); have HDV := zaa.mk (HD.out.below hVw); have hB' : w.heap.size < B := by have := H0.out.2.2; omega
  clear hV hVb hVw hzB e0 e1 e2 e3 e4 z0 z1 z2 z3 z4 d8 d10 d12 d16 d8' d10' hb1 hHeld hB H0 HD HR KFl KCa; have d8 : V.cell? ⟨b, 8, none⟩ = some (.int .i64 now) := HE.out.1 ▸ HDV.out.at 8 (.int .i64 d.now) rfl; have d10 : V.cell? ⟨b, 10, none⟩ = some (.int .i64 plan) := HE.out.2.1 ▸ HDV.out.at 10 (.int .i64 d.plan) rfl; have d12 : V.cell? ⟨b, 12, none⟩ = some (.int .i64 pr) := HE.out.2.2.1 ▸ HDV.out.at 12 (.int .i64 d.prev.rep) rfl; have d16 : V.cell? ⟨b, 16, none⟩ = some (.int .i64 chd) := HE.out.2.2.2 ▸ HDV.out.at 16 (.int .i64 d.changed) rfl; have f0 := zab HV.out.2.1 0; have f1 := zab HV.out.2.1 1; have f2 := zab HV.out.2.1 2; have f3 := zab HV.out.2.1 3; have f4 := zab HV.out.2.1 4; simp only [List.getElem?_toArray, List.getElem?_cons_zero, List.getElem?_cons_succ] at f0 f1 f2 f3 f4; have y1 := zac HV.out.2.1 1; obtain ⟨ha, hM⟩ := HM.out; go_wp2; go_quiet ((go_at_call 120; exact Calls.quiet_of (zeo (KB1.out _ (HDV.out.below (zaj (Below.refl _ _) _))))))
  obtain ⟨hrr, hchg⟩ := HF.out; have hbB : b ≠ B := by omega
  have hBb : B ≠ b := by omega
  clear ha hM HF KB1; have hTB : w.heap.size ≠ B := by omega
  have hwB : w.heap.size ≤ B := by omega
  have hbT : b ≠ w.heap.size := by omega
  have hBT : B ≠ w.heap.size := by omega
  by_cases g1 : d.some
  rotate_left
  · rw [if_neg (fun h => g1 h.1)] at hrr; subst hrr; rw [if_pos (.inl g1)] at hchg; subst hchg; have KS1 : zaa (∀ W, zbY W b d A l.length c → Calls Try.prog 121 #[.pointer (some ⟨b, 0, none⟩)] W fun e w' => e = .returned (.bool false) ∧ Drawn0 W w') := ⟨fun W h => by
     have := KSo.out W h; rwa [zdf g1] at this⟩
    clear g1 KSo KRe; go_wp2_with (first | (go_at_call 120; (with_reducible refine (KB2.out _ (HDV.out.below (zaj (Below.refl _ _) _))).mono ?_); rintro e w' ⟨rfl, ⟨nd, rfl⟩⟩) | (go_at_call 121; (with_reducible refine (KS1.out _ (HDV.out.below (zaj (Below.refl _ _) _))).mono ?_); rintro e w' ⟨rfl, ⟨nd, rfl⟩⟩) | (go_at_call 121; (with_reducible refine (KS1.out _ (zbY.set (HDV.out.below (zaj (Below.refl _ _) _)) hbB)).mono ?_); rintro e w9 ⟨rfl, hD9⟩; have H9 := zaa.mk (zjd hD9 HDV.out HV.out.2.1 HV.out.2.2 hbB hTB HV.out.1 hwB); clear hD9; have g12 : w9.cell? ⟨b, 12, none⟩ = some (.int .i64 pr) := HE.out.2.2.1 ▸ H9.out.1.at 12 (.int .i64 d.prev.rep) rfl))
    have g8 : w9.cell? ⟨b, 8, none⟩ = some (.int .i64 now) := HE.out.1 ▸ H9.out.1.at 8 (.int .i64 d.now) rfl; obtain ⟨_, hB9, hT9, hw9⟩ := H9.out; have j0 := zab hB9 0; have j1 := zab hB9 1; have j2 := zab hB9 2; have j3 := zab hB9 3; have j4 := zab hB9 4; simp only [List.getElem?_toArray, List.getElem?_cons_zero, List.getElem?_cons_succ] at j0 j1 j2 j3 j4; have k0 := zab hT9 0; have k1 := zab hT9 1; have k2 := zab hT9 2; have k3 := zab hT9 3; have k4 := zab hT9 4; simp only [zbK, List.getElem?_toArray, List.getElem?_cons_zero, List.getElem?_cons_succ] at k0 k1 k2 k3 k4; have l0 := zac hT9 0; have l1 := zac hT9 1; have l2 := zac hT9 2; have l3 := zac hT9 3; have l4 := zac hT9 4; have H9' := zaa.mk (And.intro hT9 hw9); clear hB9 hT9 hw9; refine zer (n := 7) (S := (fun w' => w'.cell? ⟨b, 8, none⟩ = some (.int .i64 now) ∧ w'.cell? ⟨B, 0, none⟩ = some (.int .i64 now) ∧ w'.cell? ⟨B, 1, none⟩ = some (.int .i64 n0) ∧ w'.cell? ⟨B, 2, none⟩ = some (.int .i64 fl) ∧ w'.cell? ⟨B, 3, none⟩ = some (.int .i64 plan) ∧ w'.cell? ⟨B, 4, none⟩ = some (.int .i64 ca))) (ds := []) #[false, false, false, false, false, false, false] zq6 rfl rfl ⟨g8, j0, j1, j2, j3, j4⟩ (fun hHeld => ?_); refine zbg (i := 1) (N := some 65) (v := ?_) (a' := ?_) #[false, true, false, false, false, false, false] rfl rfl zq6 (fun _ _ _ h => h) (Or.inl ⟨by rfl, ?_⟩) ?_ ?_; rotate_left
    · intro w'; go_simp; with_reducible rfl
    rotate_left
    · simp only [Act.put, List.setIfInBounds_toArray, List.set_cons_zero, List.set_cons_succ, zaF, zaM]; rfl
    refine zbg (i := 2) (N := some 66) (v := ?_) (a' := ?_) #[false, true, true, false, false, false, false] rfl rfl zq6 (fun _ _ _ h => h) (Or.inl ⟨by rfl, ?_⟩) ?_ ?_; rotate_left
    · intro w'; go_simp; with_reducible rfl
    rotate_left
    · simp only [Act.put, List.setIfInBounds_toArray, List.set_cons_zero, List.set_cons_succ, zaF, zaM]; rfl
    refine zbg (i := 3) (N := some 67) (v := ?_) (a' := ?_) #[false, true, true, true, false, false, false] rfl rfl zq6 (fun _ _ _ h => h) (Or.inl ⟨by rfl, ?_⟩) ?_ ?_; rotate_left
    · intro w'; go_simp; with_reducible rfl
    rotate_left
    · simp only [Act.put, List.setIfInBounds_toArray, List.set_cons_zero, List.set_cons_succ, zaF, zaM]; rfl
    refine take_ (i := 0) (N := some 64) (v := ?_) (a' := ?_) #[true, true, true, true, false, false, false] rfl rfl zq6 (fun _ _ _ h => h) (Or.inl ⟨by rfl, ?_⟩) hHeld ?_ ?_; rotate_left
    · rintro w' ⟨s0, s1, s2, s3, s4, s5⟩; go_simp; with_reducible rfl
    rotate_left
    · simp only [Act.put, List.setIfInBounds_toArray, List.set_cons_zero, List.set_cons_succ, zaF, zaM]; rfl
    refine take_ (i := 4) (N := some 68) (v := ?_) (a' := ?_) #[true, true, true, true, true, false, false] rfl rfl zq6 (fun _ _ _ h => h) (Or.inl ⟨by rfl, ?_⟩) hHeld ?_ ?_; rotate_left
    · rintro w' ⟨s0, s1, s2, s3, s4, s5⟩; go_simp; with_reducible rfl
    rotate_left
    · simp only [Act.put, List.setIfInBounds_toArray, List.set_cons_zero, List.set_cons_succ, zaF, zaM]; rfl
    refine zef (i := 5) (N := none) #[true, true, true, true, true, true, false] rfl rfl zq6 zaR (fun K hK => ?_); refine zeT (w1 := (zcu w9 w.heap.size now n0 fl plan ca).drew) (by rfl) rfl ziV ?_; refine hK.out _ _ ⟨zbh hHeld.1 hbT _ _ _ _ _, zbh hHeld.2.1 hBT _ _ _ _ _, zbh hHeld.2.2.1 hBT _ _ _ _ _, zbh hHeld.2.2.2.1 hBT _ _ _ _ _, zbh hHeld.2.2.2.2.1 hBT _ _ _ _ _, zbh hHeld.2.2.2.2.2 hBT _ _ _ _ _⟩ (fun hHeld => ?_); clear hK K; refine zbg (i := 6) (N := some 3) (v := ?_) (a' := ?_) #[true, true, true, true, true, true, true] rfl rfl zq6 (fun _ _ _ h => h) (Or.inl ⟨by rfl, ?_⟩) ?_ ?_; rotate_left
    · intro w'; go_simp; with_reducible rfl
    rotate_left
    · simp only [Act.put, List.setIfInBounds_toArray, List.set_cons_zero, List.set_cons_succ, zaF, zaM]; rfl
    refine zeN zq6 ?_; have hfin : (zcu w9 w.heap.size now n0 fl plan ca).drew.heap[w.heap.size]? = some (.cells #[.int .i64 now, .int .i64 n0, .int .i64 fl, .int .i64 plan, .int .i64 ca] 68 (0, 0)) := zam (zcZ H9'.out.1 now n0 fl plan ca); have hfb : Below w.heap.size w (zcu w9 w.heap.size now n0 fl plan ca).drew := zcM (zcA H9'.out.2 (Nat.le_refl _) _ _ _ _ _); obtain ⟨Z, hZ⟩ : ∃ Z, (zcu w9 w.heap.size now n0 fl plan ca).drew = Z := ⟨_, rfl⟩
    rw [hZ] at hfin hfb ⊢; have p0 := zab hfin 0; have p1 := zab hfin 1; have p2 := zab hfin 2; have p3 := zab hfin 3; have p4 := zab hfin 4; simp only [List.getElem?_toArray, List.getElem?_cons_zero, List.getElem?_cons_succ] at p0 p1 p2 p3 p4; have HFB := zaa.mk hfb; clear hfin hfb hZ hHeld; go_wp2; refine bodyPost_ret (v := .tuple #[.agg #[.int .i64 now, .int .i64 n0, .int .i64 fl, .int .i64 plan, .int .i64 ca], .int .i64 now]) ziU rfl ?_; exact ⟨rfl, HFB.out⟩
  have KS1 : zaa (∀ W, zbY W b d A l.length c → Calls Try.prog 121 #[.pointer (some ⟨b, 0, none⟩)] W fun e w' => e = .returned (.bool true) ∧ Drawn0 W w') := ⟨fun W h => by
   have := KSo.out W h; rwa [zdt g1] at this⟩
  by_cases g2 : n0 < old
  rotate_left
  · rw [if_neg (fun h => g2 h.2.1)] at hrr; subst hrr; have c7 := zdf g2; clear g2; by_cases g4 : n0 = pr
    · rw [if_neg (fun h => h.elim (fun h => h g1) (fun h => h g4))] at hchg; subst hchg; have c8 : (n0 == pr) = true := by simp [g4]
      have c8' : (n0 != pr) = false := by simp [g4]
      have c8'' : (n0 = pr) = True := eq_true g4; clear g1 g4 KSo KRe; go_wp2_with (first | (go_at_call 120; (with_reducible refine (KB2.out _ (HDV.out.below (zaj (Below.refl _ _) _))).mono ?_); rintro e w' ⟨rfl, ⟨nd, rfl⟩⟩) | (go_at_call 121; (with_reducible refine (KS1.out _ (HDV.out.below (zaj (Below.refl _ _) _))).mono ?_); rintro e w' ⟨rfl, ⟨nd, rfl⟩⟩) | (go_at_call 121; (with_reducible refine (KS1.out _ (zbY.set (HDV.out.below (zaj (Below.refl _ _) _)) hbB)).mono ?_); rintro e w9 ⟨rfl, hD9⟩; have H9 := zaa.mk (zjd hD9 HDV.out HV.out.2.1 HV.out.2.2 hbB hTB HV.out.1 hwB); clear hD9; have g12 : w9.cell? ⟨b, 12, none⟩ = some (.int .i64 pr) := HE.out.2.2.1 ▸ H9.out.1.at 12 (.int .i64 d.prev.rep) rfl))
      have g16 : w9.cell? ⟨b, 16, none⟩ = some (.int .i64 chd) := HE.out.2.2.2 ▸ H9.out.1.at 16 (.int .i64 d.changed) rfl; obtain ⟨_, hB9, hT9, hw9⟩ := H9.out; have j0 := zab hB9 0; have j1 := zab hB9 1; have j2 := zab hB9 2; have j3 := zab hB9 3; have j4 := zab hB9 4; simp only [List.getElem?_toArray, List.getElem?_cons_zero, List.getElem?_cons_succ] at j0 j1 j2 j3 j4; have k0 := zab hT9 0; have k1 := zab hT9 1; have k2 := zab hT9 2; have k3 := zab hT9 3; have k4 := zab hT9 4; simp only [zbK, List.getElem?_toArray, List.getElem?_cons_zero, List.getElem?_cons_succ] at k0 k1 k2 k3 k4; have l0 := zac hT9 0; have l1 := zac hT9 1; have l2 := zac hT9 2; have l3 := zac hT9 3; have l4 := zac hT9 4; have H9' := zaa.mk (And.intro hT9 hw9); clear hB9 hT9 hw9; refine zer (n := 7) (S := (fun w' => w'.cell? ⟨b, 16, none⟩ = some (.int .i64 chd) ∧ w'.cell? ⟨B, 0, none⟩ = some (.int .i64 now) ∧ w'.cell? ⟨B, 1, none⟩ = some (.int .i64 n0) ∧ w'.cell? ⟨B, 2, none⟩ = some (.int .i64 fl) ∧ w'.cell? ⟨B, 3, none⟩ = some (.int .i64 plan) ∧ w'.cell? ⟨B, 4, none⟩ = some (.int .i64 ca))) (ds := []) #[false, false, false, false, false, false, false] zq6 rfl rfl ⟨g16, j0, j1, j2, j3, j4⟩ (fun hHeld => ?_); refine zbg (i := 1) (N := some 70) (v := ?_) (a' := ?_) #[false, true, false, false, false, false, false] rfl rfl zq6 (fun _ _ _ h => h) (Or.inl ⟨by rfl, ?_⟩) ?_ ?_; rotate_left
      · intro w'; go_simp; with_reducible rfl
      rotate_left
      · simp only [Act.put, List.setIfInBounds_toArray, List.set_cons_zero, List.set_cons_succ, zaF, zaM]; rfl
      refine zbg (i := 2) (N := some 71) (v := ?_) (a' := ?_) #[false, true, true, false, false, false, false] rfl rfl zq6 (fun _ _ _ h => h) (Or.inl ⟨by rfl, ?_⟩) ?_ ?_; rotate_left
      · intro w'; go_simp; with_reducible rfl
      rotate_left
      · simp only [Act.put, List.setIfInBounds_toArray, List.set_cons_zero, List.set_cons_succ, zaF, zaM]; rfl
      refine zbg (i := 3) (N := some 72) (v := ?_) (a' := ?_) #[false, true, true, true, false, false, false] rfl rfl zq6 (fun _ _ _ h => h) (Or.inl ⟨by rfl, ?_⟩) ?_ ?_; rotate_left
      · intro w'; go_simp; with_reducible rfl
      rotate_left
      · simp only [Act.put, List.setIfInBounds_toArray, List.set_cons_zero, List.set_cons_succ, zaF, zaM]; rfl
      refine take_ (i := 0) (N := some 69) (v := ?_) (a' := ?_) #[true, true, true, true, false, false, false] rfl rfl zq6 (fun _ _ _ h => h) (Or.inl ⟨by rfl, ?_⟩) hHeld ?_ ?_; rotate_left
      · rintro w' ⟨s0, s1, s2, s3, s4, s5⟩; go_simp; with_reducible rfl
      rotate_left
      · simp only [Act.put, List.setIfInBounds_toArray, List.set_cons_zero, List.set_cons_succ, zaF, zaM]; rfl
      refine take_ (i := 4) (N := some 73) (v := ?_) (a' := ?_) #[true, true, true, true, true, false, false] rfl rfl zq6 (fun _ _ _ h => h) (Or.inl ⟨by rfl, ?_⟩) hHeld ?_ ?_; rotate_left
      · rintro w' ⟨s0, s1, s2, s3, s4, s5⟩; go_simp; with_reducible rfl
      rotate_left
      · simp only [Act.put, List.setIfInBounds_toArray, List.set_cons_zero, List.set_cons_succ, zaF, zaM]; rfl
      refine zef (i := 5) (N := none) #[true, true, true, true, true, true, false] rfl rfl zq6 zaR (fun K hK => ?_); refine zeT (w1 := (zcu w9 w.heap.size now n0 fl plan ca).drew) (by rfl) rfl ziV ?_; refine hK.out _ _ ⟨zbh hHeld.1 hbT _ _ _ _ _, zbh hHeld.2.1 hBT _ _ _ _ _, zbh hHeld.2.2.1 hBT _ _ _ _ _, zbh hHeld.2.2.2.1 hBT _ _ _ _ _, zbh hHeld.2.2.2.2.1 hBT _ _ _ _ _, zbh hHeld.2.2.2.2.2 hBT _ _ _ _ _⟩ (fun hHeld => ?_); clear hK K; refine zbg (i := 6) (N := some 3) (v := ?_) (a' := ?_) #[true, true, true, true, true, true, true] rfl rfl zq6 (fun _ _ _ h => h) (Or.inl ⟨by rfl, ?_⟩) ?_ ?_; rotate_left
      · intro w'; go_simp; with_reducible rfl
      rotate_left
      · simp only [Act.put, List.setIfInBounds_toArray, List.set_cons_zero, List.set_cons_succ, zaF, zaM]; rfl
      refine zeN zq6 ?_; have hfin : (zcu w9 w.heap.size now n0 fl plan ca).drew.heap[w.heap.size]? = some (.cells #[.int .i64 now, .int .i64 n0, .int .i64 fl, .int .i64 plan, .int .i64 ca] 68 (0, 0)) := zam (zcZ H9'.out.1 now n0 fl plan ca); have hfb : Below w.heap.size w (zcu w9 w.heap.size now n0 fl plan ca).drew := zcM (zcA H9'.out.2 (Nat.le_refl _) _ _ _ _ _); obtain ⟨Z, hZ⟩ : ∃ Z, (zcu w9 w.heap.size now n0 fl plan ca).drew = Z := ⟨_, rfl⟩
      rw [hZ] at hfin hfb ⊢; have p0 := zab hfin 0; have p1 := zab hfin 1; have p2 := zab hfin 2; have p3 := zab hfin 3; have p4 := zab hfin 4; simp only [List.getElem?_toArray, List.getElem?_cons_zero, List.getElem?_cons_succ] at p0 p1 p2 p3 p4; have HFB := zaa.mk hfb; clear hfin hfb hZ hHeld; go_wp2; refine bodyPost_ret (v := .tuple #[.agg #[.int .i64 now, .int .i64 n0, .int .i64 fl, .int .i64 plan, .int .i64 ca], .int .i64 chd]) ziU rfl ?_; exact ⟨rfl, HFB.out⟩
    rw [if_pos (.inr g4)] at hchg; subst hchg; have c8 : (n0 == pr) = false := by simp [g4]
    have c8' : (n0 != pr) = true := by simp [g4]
    have c8'' : (n0 = pr) = False := eq_false g4; clear g1 g4 KSo KRe; go_wp2_with (first | (go_at_call 120; (with_reducible refine (KB2.out _ (HDV.out.below (zaj (Below.refl _ _) _))).mono ?_); rintro e w' ⟨rfl, ⟨nd, rfl⟩⟩) | (go_at_call 121; (with_reducible refine (KS1.out _ (HDV.out.below (zaj (Below.refl _ _) _))).mono ?_); rintro e w' ⟨rfl, ⟨nd, rfl⟩⟩) | (go_at_call 121; (with_reducible refine (KS1.out _ (zbY.set (HDV.out.below (zaj (Below.refl _ _) _)) hbB)).mono ?_); rintro e w9 ⟨rfl, hD9⟩; have H9 := zaa.mk (zjd hD9 HDV.out HV.out.2.1 HV.out.2.2 hbB hTB HV.out.1 hwB); clear hD9; have g12 : w9.cell? ⟨b, 12, none⟩ = some (.int .i64 pr) := HE.out.2.2.1 ▸ H9.out.1.at 12 (.int .i64 d.prev.rep) rfl))
    have g8 : w9.cell? ⟨b, 8, none⟩ = some (.int .i64 now) := HE.out.1 ▸ H9.out.1.at 8 (.int .i64 d.now) rfl; obtain ⟨_, hB9, hT9, hw9⟩ := H9.out; have j0 := zab hB9 0; have j1 := zab hB9 1; have j2 := zab hB9 2; have j3 := zab hB9 3; have j4 := zab hB9 4; simp only [List.getElem?_toArray, List.getElem?_cons_zero, List.getElem?_cons_succ] at j0 j1 j2 j3 j4; have k0 := zab hT9 0; have k1 := zab hT9 1; have k2 := zab hT9 2; have k3 := zab hT9 3; have k4 := zab hT9 4; simp only [zbK, List.getElem?_toArray, List.getElem?_cons_zero, List.getElem?_cons_succ] at k0 k1 k2 k3 k4; have l0 := zac hT9 0; have l1 := zac hT9 1; have l2 := zac hT9 2; have l3 := zac hT9 3; have l4 := zac hT9 4; have H9' := zaa.mk (And.intro hT9 hw9); clear hB9 hT9 hw9; refine zer (n := 7) (S := (fun w' => w'.cell? ⟨b, 8, none⟩ = some (.int .i64 now) ∧ w'.cell? ⟨B, 0, none⟩ = some (.int .i64 now) ∧ w'.cell? ⟨B, 1, none⟩ = some (.int .i64 n0) ∧ w'.cell? ⟨B, 2, none⟩ = some (.int .i64 fl) ∧ w'.cell? ⟨B, 3, none⟩ = some (.int .i64 plan) ∧ w'.cell? ⟨B, 4, none⟩ = some (.int .i64 ca))) (ds := []) #[false, false, false, false, false, false, false] zq6 rfl rfl ⟨g8, j0, j1, j2, j3, j4⟩ (fun hHeld => ?_); refine zbg (i := 1) (N := some 65) (v := ?_) (a' := ?_) #[false, true, false, false, false, false, false] rfl rfl zq6 (fun _ _ _ h => h) (Or.inl ⟨by rfl, ?_⟩) ?_ ?_; rotate_left
    · intro w'; go_simp; with_reducible rfl
    rotate_left
    · simp only [Act.put, List.setIfInBounds_toArray, List.set_cons_zero, List.set_cons_succ, zaF, zaM]; rfl
    refine zbg (i := 2) (N := some 66) (v := ?_) (a' := ?_) #[false, true, true, false, false, false, false] rfl rfl zq6 (fun _ _ _ h => h) (Or.inl ⟨by rfl, ?_⟩) ?_ ?_; rotate_left
    · intro w'; go_simp; with_reducible rfl
    rotate_left
    · simp only [Act.put, List.setIfInBounds_toArray, List.set_cons_zero, List.set_cons_succ, zaF, zaM]; rfl
    refine zbg (i := 3) (N := some 67) (v := ?_) (a' := ?_) #[false, true, true, true, false, false, false] rfl rfl zq6 (fun _ _ _ h => h) (Or.inl ⟨by rfl, ?_⟩) ?_ ?_; rotate_left
    · intro w'; go_simp; with_reducible rfl
    rotate_left
    · simp only [Act.put, List.setIfInBounds_toArray, List.set_cons_zero, List.set_cons_succ, zaF, zaM]; rfl
    refine take_ (i := 0) (N := some 64) (v := ?_) (a' := ?_) #[true, true, true, true, false, false, false] rfl rfl zq6 (fun _ _ _ h => h) (Or.inl ⟨by rfl, ?_⟩) hHeld ?_ ?_; rotate_left
    · rintro w' ⟨s0, s1, s2, s3, s4, s5⟩; go_simp; with_reducible rfl
    rotate_left
    · simp only [Act.put, List.setIfInBounds_toArray, List.set_cons_zero, List.set_cons_succ, zaF, zaM]; rfl
    refine take_ (i := 4) (N := some 68) (v := ?_) (a' := ?_) #[true, true, true, true, true, false, false] rfl rfl zq6 (fun _ _ _ h => h) (Or.inl ⟨by rfl, ?_⟩) hHeld ?_ ?_; rotate_left
    · rintro w' ⟨s0, s1, s2, s3, s4, s5⟩; go_simp; with_reducible rfl
    rotate_left
    · simp only [Act.put, List.setIfInBounds_toArray, List.set_cons_zero, List.set_cons_succ, zaF, zaM]; rfl
    refine zef (i := 5) (N := none) #[true, true, true, true, true, true, false] rfl rfl zq6 zaR (fun K hK => ?_); refine zeT (w1 := (zcu w9 w.heap.size now n0 fl plan ca).drew) (by rfl) rfl ziV ?_; refine hK.out _ _ ⟨zbh hHeld.1 hbT _ _ _ _ _, zbh hHeld.2.1 hBT _ _ _ _ _, zbh hHeld.2.2.1 hBT _ _ _ _ _, zbh hHeld.2.2.2.1 hBT _ _ _ _ _, zbh hHeld.2.2.2.2.1 hBT _ _ _ _ _, zbh hHeld.2.2.2.2.2 hBT _ _ _ _ _⟩ (fun hHeld => ?_); clear hK K; refine zbg (i := 6) (N := some 3) (v := ?_) (a' := ?_) #[true, true, true, true, true, true, true] rfl rfl zq6 (fun _ _ _ h => h) (Or.inl ⟨by rfl, ?_⟩) ?_ ?_; rotate_left
    · intro w'; go_simp; with_reducible rfl
    rotate_left
    · simp only [Act.put, List.setIfInBounds_toArray, List.set_cons_zero, List.set_cons_succ, zaF, zaM]; rfl
    refine zeN zq6 ?_; have hfin : (zcu w9 w.heap.size now n0 fl plan ca).drew.heap[w.heap.size]? = some (.cells #[.int .i64 now, .int .i64 n0, .int .i64 fl, .int .i64 plan, .int .i64 ca] 68 (0, 0)) := zam (zcZ H9'.out.1 now n0 fl plan ca); have hfb : Below w.heap.size w (zcu w9 w.heap.size now n0 fl plan ca).drew := zcM (zcA H9'.out.2 (Nat.le_refl _) _ _ _ _ _); obtain ⟨Z, hZ⟩ : ∃ Z, (zcu w9 w.heap.size now n0 fl plan ca).drew = Z := ⟨_, rfl⟩
    rw [hZ] at hfin hfb ⊢; have p0 := zab hfin 0; have p1 := zab hfin 1; have p2 := zab hfin 2; have p3 := zab hfin 3; have p4 := zab hfin 4; simp only [List.getElem?_toArray, List.getElem?_cons_zero, List.getElem?_cons_succ] at p0 p1 p2 p3 p4; have HFB := zaa.mk hfb; clear hfin hfb hZ hHeld; go_wp2; refine bodyPost_ret (v := .tuple #[.agg #[.int .i64 now, .int .i64 n0, .int .i64 fl, .int .i64 plan, .int .i64 ca], .int .i64 now]) ziU rfl ?_; exact ⟨rfl, HFB.out⟩
  have c7 := zdt g2; by_cases g3 : d.rests
  rotate_left
  · rw [if_neg (fun h => g3 h.2.2)] at hrr; subst hrr; have KR1 : zaa (∀ W, zbY W b d A l.length c → Calls Try.prog 122 #[.pointer (some ⟨b, 0, none⟩)] W fun e w' => e = .returned (.bool false) ∧ Drawn0 W w') := ⟨fun W h => by
     have := KRe.out W h; rwa [zdf g3] at this⟩
    clear g2 g3; by_cases g4 : n0 = pr
    · rw [if_neg (fun h => h.elim (fun h => h g1) (fun h => h g4))] at hchg; subst hchg; have c8 : (n0 == pr) = true := by simp [g4]
      have c8' : (n0 != pr) = false := by simp [g4]
      have c8'' : (n0 = pr) = True := eq_true g4; clear g1 g4 KSo KRe; go_wp2_with (first | (go_at_call 120; (with_reducible refine (KB2.out _ (HDV.out.below (zaj (Below.refl _ _) _))).mono ?_); rintro e w' ⟨rfl, ⟨nd, rfl⟩⟩) | (go_at_call 121; (with_reducible refine (KS1.out _ (HDV.out.below (zaj (Below.refl _ _) _))).mono ?_); rintro e w' ⟨rfl, ⟨nd, rfl⟩⟩) | (go_at_call 121; (with_reducible refine (KS1.out _ (zbY.set (HDV.out.below (zaj (Below.refl _ _) _)) hbB)).mono ?_); rintro e w9 ⟨rfl, hD9⟩; have H9 := zaa.mk (zjd hD9 HDV.out HV.out.2.1 HV.out.2.2 hbB hTB HV.out.1 hwB); clear hD9; have g12 : w9.cell? ⟨b, 12, none⟩ = some (.int .i64 pr) := HE.out.2.2.1 ▸ H9.out.1.at 12 (.int .i64 d.prev.rep) rfl) | (go_at_call 122; (with_reducible refine (KR1.out _ (HDV.out.below (zaj (Below.refl _ _) _))).mono ?_); rintro e w' ⟨rfl, ⟨nd, rfl⟩⟩))
      have g16 : w9.cell? ⟨b, 16, none⟩ = some (.int .i64 chd) := HE.out.2.2.2 ▸ H9.out.1.at 16 (.int .i64 d.changed) rfl; obtain ⟨_, hB9, hT9, hw9⟩ := H9.out; have j0 := zab hB9 0; have j1 := zab hB9 1; have j2 := zab hB9 2; have j3 := zab hB9 3; have j4 := zab hB9 4; simp only [List.getElem?_toArray, List.getElem?_cons_zero, List.getElem?_cons_succ] at j0 j1 j2 j3 j4; have k0 := zab hT9 0; have k1 := zab hT9 1; have k2 := zab hT9 2; have k3 := zab hT9 3; have k4 := zab hT9 4; simp only [zbK, List.getElem?_toArray, List.getElem?_cons_zero, List.getElem?_cons_succ] at k0 k1 k2 k3 k4; have l0 := zac hT9 0; have l1 := zac hT9 1; have l2 := zac hT9 2; have l3 := zac hT9 3; have l4 := zac hT9 4; have H9' := zaa.mk (And.intro hT9 hw9); clear hB9 hT9 hw9; refine zer (n := 7) (S := (fun w' => w'.cell? ⟨b, 16, none⟩ = some (.int .i64 chd) ∧ w'.cell? ⟨B, 0, none⟩ = some (.int .i64 now) ∧ w'.cell? ⟨B, 1, none⟩ = some (.int .i64 n0) ∧ w'.cell? ⟨B, 2, none⟩ = some (.int .i64 fl) ∧ w'.cell? ⟨B, 3, none⟩ = some (.int .i64 plan) ∧ w'.cell? ⟨B, 4, none⟩ = some (.int .i64 ca))) (ds := []) #[false, false, false, false, false, false, false] zq6 rfl rfl ⟨g16, j0, j1, j2, j3, j4⟩ (fun hHeld => ?_); refine zbg (i := 1) (N := some 70) (v := ?_) (a' := ?_) #[false, true, false, false, false, false, false] rfl rfl zq6 (fun _ _ _ h => h) (Or.inl ⟨by rfl, ?_⟩) ?_ ?_; rotate_left
      · intro w'; go_simp; with_reducible rfl
      rotate_left
      · simp only [Act.put, List.setIfInBounds_toArray, List.set_cons_zero, List.set_cons_succ, zaF, zaM]; rfl
      refine zbg (i := 2) (N := some 71) (v := ?_) (a' := ?_) #[false, true, true, false, false, false, false] rfl rfl zq6 (fun _ _ _ h => h) (Or.inl ⟨by rfl, ?_⟩) ?_ ?_; rotate_left
      · intro w'; go_simp; with_reducible rfl
      rotate_left
      · simp only [Act.put, List.setIfInBounds_toArray, List.set_cons_zero, List.set_cons_succ, zaF, zaM]; rfl
      refine zbg (i := 3) (N := some 72) (v := ?_) (a' := ?_) #[false, true, true, true, false, false, false] rfl rfl zq6 (fun _ _ _ h => h) (Or.inl ⟨by rfl, ?_⟩) ?_ ?_; rotate_left
      · intro w'; go_simp; with_reducible rfl
      rotate_left
      · simp only [Act.put, List.setIfInBounds_toArray, List.set_cons_zero, List.set_cons_succ, zaF, zaM]; rfl
      refine take_ (i := 0) (N := some 69) (v := ?_) (a' := ?_) #[true, true, true, true, false, false, false] rfl rfl zq6 (fun _ _ _ h => h) (Or.inl ⟨by rfl, ?_⟩) hHeld ?_ ?_; rotate_left
      · rintro w' ⟨s0, s1, s2, s3, s4, s5⟩; go_simp; with_reducible rfl
      rotate_left
      · simp only [Act.put, List.setIfInBounds_toArray, List.set_cons_zero, List.set_cons_succ, zaF, zaM]; rfl
      refine take_ (i := 4) (N := some 73) (v := ?_) (a' := ?_) #[true, true, true, true, true, false, false] rfl rfl zq6 (fun _ _ _ h => h) (Or.inl ⟨by rfl, ?_⟩) hHeld ?_ ?_; rotate_left
      · rintro w' ⟨s0, s1, s2, s3, s4, s5⟩; go_simp; with_reducible rfl
      rotate_left
      · simp only [Act.put, List.setIfInBounds_toArray, List.set_cons_zero, List.set_cons_succ, zaF, zaM]; rfl
      refine zef (i := 5) (N := none) #[true, true, true, true, true, true, false] rfl rfl zq6 zaR (fun K hK => ?_); refine zeT (w1 := (zcu w9 w.heap.size now n0 fl plan ca).drew) (by rfl) rfl ziV ?_; refine hK.out _ _ ⟨zbh hHeld.1 hbT _ _ _ _ _, zbh hHeld.2.1 hBT _ _ _ _ _, zbh hHeld.2.2.1 hBT _ _ _ _ _, zbh hHeld.2.2.2.1 hBT _ _ _ _ _, zbh hHeld.2.2.2.2.1 hBT _ _ _ _ _, zbh hHeld.2.2.2.2.2 hBT _ _ _ _ _⟩ (fun hHeld => ?_); clear hK K; refine zbg (i := 6) (N := some 3) (v := ?_) (a' := ?_) #[true, true, true, true, true, true, true] rfl rfl zq6 (fun _ _ _ h => h) (Or.inl ⟨by rfl, ?_⟩) ?_ ?_; rotate_left
      · intro w'; go_simp; with_reducible rfl
      rotate_left
      · simp only [Act.put, List.setIfInBounds_toArray, List.set_cons_zero, List.set_cons_succ, zaF, zaM]; rfl
      refine zeN zq6 ?_; have hfin : (zcu w9 w.heap.size now n0 fl plan ca).drew.heap[w.heap.size]? = some (.cells #[.int .i64 now, .int .i64 n0, .int .i64 fl, .int .i64 plan, .int .i64 ca] 68 (0, 0)) := zam (zcZ H9'.out.1 now n0 fl plan ca); have hfb : Below w.heap.size w (zcu w9 w.heap.size now n0 fl plan ca).drew := zcM (zcA H9'.out.2 (Nat.le_refl _) _ _ _ _ _); obtain ⟨Z, hZ⟩ : ∃ Z, (zcu w9 w.heap.size now n0 fl plan ca).drew = Z := ⟨_, rfl⟩
      rw [hZ] at hfin hfb ⊢; have p0 := zab hfin 0; have p1 := zab hfin 1; have p2 := zab hfin 2; have p3 := zab hfin 3; have p4 := zab hfin 4; simp only [List.getElem?_toArray, List.getElem?_cons_zero, List.getElem?_cons_succ] at p0 p1 p2 p3 p4; have HFB := zaa.mk hfb; clear hfin hfb hZ hHeld; go_wp2; refine bodyPost_ret (v := .tuple #[.agg #[.int .i64 now, .int .i64 n0, .int .i64 fl, .int .i64 plan, .int .i64 ca], .int .i64 chd]) ziU rfl ?_; exact ⟨rfl, HFB.out⟩
    rw [if_pos (.inr g4)] at hchg; subst hchg; have c8 : (n0 == pr) = false := by simp [g4]
    have c8' : (n0 != pr) = true := by simp [g4]
    have c8'' : (n0 = pr) = False := eq_false g4; clear g1 g4 KSo KRe; go_wp2_with (first | (go_at_call 120; (with_reducible refine (KB2.out _ (HDV.out.below (zaj (Below.refl _ _) _))).mono ?_); rintro e w' ⟨rfl, ⟨nd, rfl⟩⟩) | (go_at_call 121; (with_reducible refine (KS1.out _ (HDV.out.below (zaj (Below.refl _ _) _))).mono ?_); rintro e w' ⟨rfl, ⟨nd, rfl⟩⟩) | (go_at_call 121; (with_reducible refine (KS1.out _ (zbY.set (HDV.out.below (zaj (Below.refl _ _) _)) hbB)).mono ?_); rintro e w9 ⟨rfl, hD9⟩; have H9 := zaa.mk (zjd hD9 HDV.out HV.out.2.1 HV.out.2.2 hbB hTB HV.out.1 hwB); clear hD9; have g12 : w9.cell? ⟨b, 12, none⟩ = some (.int .i64 pr) := HE.out.2.2.1 ▸ H9.out.1.at 12 (.int .i64 d.prev.rep) rfl) | (go_at_call 122; (with_reducible refine (KR1.out _ (HDV.out.below (zaj (Below.refl _ _) _))).mono ?_); rintro e w' ⟨rfl, ⟨nd, rfl⟩⟩))
    have g8 : w9.cell? ⟨b, 8, none⟩ = some (.int .i64 now) := HE.out.1 ▸ H9.out.1.at 8 (.int .i64 d.now) rfl; obtain ⟨_, hB9, hT9, hw9⟩ := H9.out; have j0 := zab hB9 0; have j1 := zab hB9 1; have j2 := zab hB9 2; have j3 := zab hB9 3; have j4 := zab hB9 4; simp only [List.getElem?_toArray, List.getElem?_cons_zero, List.getElem?_cons_succ] at j0 j1 j2 j3 j4; have k0 := zab hT9 0; have k1 := zab hT9 1; have k2 := zab hT9 2; have k3 := zab hT9 3; have k4 := zab hT9 4; simp only [zbK, List.getElem?_toArray, List.getElem?_cons_zero, List.getElem?_cons_succ] at k0 k1 k2 k3 k4; have l0 := zac hT9 0; have l1 := zac hT9 1; have l2 := zac hT9 2; have l3 := zac hT9 3; have l4 := zac hT9 4; have H9' := zaa.mk (And.intro hT9 hw9); clear hB9 hT9 hw9; refine zer (n := 7) (S := (fun w' => w'.cell? ⟨b, 8, none⟩ = some (.int .i64 now) ∧ w'.cell? ⟨B, 0, none⟩ = some (.int .i64 now) ∧ w'.cell? ⟨B, 1, none⟩ = some (.int .i64 n0) ∧ w'.cell? ⟨B, 2, none⟩ = some (.int .i64 fl) ∧ w'.cell? ⟨B, 3, none⟩ = some (.int .i64 plan) ∧ w'.cell? ⟨B, 4, none⟩ = some (.int .i64 ca))) (ds := []) #[false, false, false, false, false, false, false] zq6 rfl rfl ⟨g8, j0, j1, j2, j3, j4⟩ (fun hHeld => ?_); refine zbg (i := 1) (N := some 65) (v := ?_) (a' := ?_) #[false, true, false, false, false, false, false] rfl rfl zq6 (fun _ _ _ h => h) (Or.inl ⟨by rfl, ?_⟩) ?_ ?_; rotate_left
    · intro w'; go_simp; with_reducible rfl
    rotate_left
    · simp only [Act.put, List.setIfInBounds_toArray, List.set_cons_zero, List.set_cons_succ, zaF, zaM]; rfl
    refine zbg (i := 2) (N := some 66) (v := ?_) (a' := ?_) #[false, true, true, false, false, false, false] rfl rfl zq6 (fun _ _ _ h => h) (Or.inl ⟨by rfl, ?_⟩) ?_ ?_; rotate_left
    · intro w'; go_simp; with_reducible rfl
    rotate_left
    · simp only [Act.put, List.setIfInBounds_toArray, List.set_cons_zero, List.set_cons_succ, zaF, zaM]; rfl
    refine zbg (i := 3) (N := some 67) (v := ?_) (a' := ?_) #[false, true, true, true, false, false, false] rfl rfl zq6 (fun _ _ _ h => h) (Or.inl ⟨by rfl, ?_⟩) ?_ ?_; rotate_left
    · intro w'; go_simp; with_reducible rfl
    rotate_left
    · simp only [Act.put, List.setIfInBounds_toArray, List.set_cons_zero, List.set_cons_succ, zaF, zaM]; rfl
    refine take_ (i := 0) (N := some 64) (v := ?_) (a' := ?_) #[true, true, true, true, false, false, false] rfl rfl zq6 (fun _ _ _ h => h) (Or.inl ⟨by rfl, ?_⟩) hHeld ?_ ?_; rotate_left
    · rintro w' ⟨s0, s1, s2, s3, s4, s5⟩; go_simp; with_reducible rfl
    rotate_left
    · simp only [Act.put, List.setIfInBounds_toArray, List.set_cons_zero, List.set_cons_succ, zaF, zaM]; rfl
    refine take_ (i := 4) (N := some 68) (v := ?_) (a' := ?_) #[true, true, true, true, true, false, false] rfl rfl zq6 (fun _ _ _ h => h) (Or.inl ⟨by rfl, ?_⟩) hHeld ?_ ?_; rotate_left
    · rintro w' ⟨s0, s1, s2, s3, s4, s5⟩; go_simp; with_reducible rfl
    rotate_left
    · simp only [Act.put, List.setIfInBounds_toArray, List.set_cons_zero, List.set_cons_succ, zaF, zaM]; rfl
    refine zef (i := 5) (N := none) #[true, true, true, true, true, true, false] rfl rfl zq6 zaR (fun K hK => ?_); refine zeT (w1 := (zcu w9 w.heap.size now n0 fl plan ca).drew) (by rfl) rfl ziV ?_; refine hK.out _ _ ⟨zbh hHeld.1 hbT _ _ _ _ _, zbh hHeld.2.1 hBT _ _ _ _ _, zbh hHeld.2.2.1 hBT _ _ _ _ _, zbh hHeld.2.2.2.1 hBT _ _ _ _ _, zbh hHeld.2.2.2.2.1 hBT _ _ _ _ _, zbh hHeld.2.2.2.2.2 hBT _ _ _ _ _⟩ (fun hHeld => ?_); clear hK K; refine zbg (i := 6) (N := some 3) (v := ?_) (a' := ?_) #[true, true, true, true, true, true, true] rfl rfl zq6 (fun _ _ _ h => h) (Or.inl ⟨by rfl, ?_⟩) ?_ ?_; rotate_left
    · intro w'; go_simp; with_reducible rfl
    rotate_left
    · simp only [Act.put, List.setIfInBounds_toArray, List.set_cons_zero, List.set_cons_succ, zaF, zaM]; rfl
    refine zeN zq6 ?_; have hfin : (zcu w9 w.heap.size now n0 fl plan ca).drew.heap[w.heap.size]? = some (.cells #[.int .i64 now, .int .i64 n0, .int .i64 fl, .int .i64 plan, .int .i64 ca] 68 (0, 0)) := zam (zcZ H9'.out.1 now n0 fl plan ca); have hfb : Below w.heap.size w (zcu w9 w.heap.size now n0 fl plan ca).drew := zcM (zcA H9'.out.2 (Nat.le_refl _) _ _ _ _ _); obtain ⟨Z, hZ⟩ : ∃ Z, (zcu w9 w.heap.size now n0 fl plan ca).drew = Z := ⟨_, rfl⟩
    rw [hZ] at hfin hfb ⊢; have p0 := zab hfin 0; have p1 := zab hfin 1; have p2 := zab hfin 2; have p3 := zab hfin 3; have p4 := zab hfin 4; simp only [List.getElem?_toArray, List.getElem?_cons_zero, List.getElem?_cons_succ] at p0 p1 p2 p3 p4; have HFB := zaa.mk hfb; clear hfin hfb hZ hHeld; go_wp2; refine bodyPost_ret (v := .tuple #[.agg #[.int .i64 now, .int .i64 n0, .int .i64 fl, .int .i64 plan, .int .i64 ca], .int .i64 now]) ziU rfl ?_; exact ⟨rfl, HFB.out⟩
  rw [if_pos ⟨g1, g2, g3⟩] at hrr; subst hrr; have KR1 : zaa (∀ W, zbY W b d A l.length c → Calls Try.prog 122 #[.pointer (some ⟨b, 0, none⟩)] W fun e w' => e = .returned (.bool true) ∧ Drawn0 W w') := ⟨fun W h => by
   have := KRe.out W h; rwa [zdt g3] at this⟩
  clear g2 g3; by_cases g4 : old = pr
  · rw [if_neg (fun h => h.elim (fun h => h g1) (fun h => h g4))] at hchg; subst hchg; have c8 : (old == pr) = true := by simp [g4]
    have c8' : (old != pr) = false := by simp [g4]
    have c8'' : (old = pr) = True := eq_true g4; clear g1 g4 KSo KRe; go_wp2_with (first | (go_at_call 120; (with_reducible refine (KB2.out _ (HDV.out.below (zaj (Below.refl _ _) _))).mono ?_); rintro e w' ⟨rfl, ⟨nd, rfl⟩⟩) | (go_at_call 121; (with_reducible refine (KS1.out _ (HDV.out.below (zaj (Below.refl _ _) _))).mono ?_); rintro e w' ⟨rfl, ⟨nd, rfl⟩⟩) | (go_at_call 121; (with_reducible refine (KS1.out _ (zbY.set (HDV.out.below (zaj (Below.refl _ _) _)) hbB)).mono ?_); rintro e w9 ⟨rfl, hD9⟩; have H9 := zaa.mk (zjd hD9 HDV.out HV.out.2.1 HV.out.2.2 hbB hTB HV.out.1 hwB); clear hD9; have g12 : w9.cell? ⟨b, 12, none⟩ = some (.int .i64 pr) := HE.out.2.2.1 ▸ H9.out.1.at 12 (.int .i64 d.prev.rep) rfl) | (go_at_call 122; (with_reducible refine (KR1.out _ (HDV.out.below (zaj (Below.refl _ _) _))).mono ?_); rintro e w' ⟨rfl, ⟨nd, rfl⟩⟩))
    have g16 : w9.cell? ⟨b, 16, none⟩ = some (.int .i64 chd) := HE.out.2.2.2 ▸ H9.out.1.at 16 (.int .i64 d.changed) rfl; obtain ⟨_, hB9, hT9, hw9⟩ := H9.out; have j0 := zab hB9 0; have j1 := zab hB9 1; have j2 := zab hB9 2; have j3 := zab hB9 3; have j4 := zab hB9 4; simp only [List.getElem?_toArray, List.getElem?_cons_zero, List.getElem?_cons_succ] at j0 j1 j2 j3 j4; have k0 := zab hT9 0; have k1 := zab hT9 1; have k2 := zab hT9 2; have k3 := zab hT9 3; have k4 := zab hT9 4; simp only [zbK, List.getElem?_toArray, List.getElem?_cons_zero, List.getElem?_cons_succ] at k0 k1 k2 k3 k4; have l0 := zac hT9 0; have l1 := zac hT9 1; have l2 := zac hT9 2; have l3 := zac hT9 3; have l4 := zac hT9 4; have H9' := zaa.mk (And.intro hT9 hw9); clear hB9 hT9 hw9; refine zer (n := 7) (S := (fun w' => w'.cell? ⟨b, 16, none⟩ = some (.int .i64 chd) ∧ w'.cell? ⟨B, 0, none⟩ = some (.int .i64 now) ∧ w'.cell? ⟨B, 1, none⟩ = some (.int .i64 old) ∧ w'.cell? ⟨B, 2, none⟩ = some (.int .i64 fl) ∧ w'.cell? ⟨B, 3, none⟩ = some (.int .i64 plan) ∧ w'.cell? ⟨B, 4, none⟩ = some (.int .i64 ca))) (ds := []) #[false, false, false, false, false, false, false] zq6 rfl rfl ⟨g16, j0, j1, j2, j3, j4⟩ (fun hHeld => ?_); refine zbg (i := 1) (N := some 70) (v := ?_) (a' := ?_) #[false, true, false, false, false, false, false] rfl rfl zq6 (fun _ _ _ h => h) (Or.inl ⟨by rfl, ?_⟩) ?_ ?_; rotate_left
    · intro w'; go_simp; with_reducible rfl
    rotate_left
    · simp only [Act.put, List.setIfInBounds_toArray, List.set_cons_zero, List.set_cons_succ, zaF, zaM]; rfl
    refine zbg (i := 2) (N := some 71) (v := ?_) (a' := ?_) #[false, true, true, false, false, false, false] rfl rfl zq6 (fun _ _ _ h => h) (Or.inl ⟨by rfl, ?_⟩) ?_ ?_; rotate_left
    · intro w'; go_simp; with_reducible rfl
    rotate_left
    · simp only [Act.put, List.setIfInBounds_toArray, List.set_cons_zero, List.set_cons_succ, zaF, zaM]; rfl
    refine zbg (i := 3) (N := some 72) (v := ?_) (a' := ?_) #[false, true, true, true, false, false, false] rfl rfl zq6 (fun _ _ _ h => h) (Or.inl ⟨by rfl, ?_⟩) ?_ ?_; rotate_left
    · intro w'; go_simp; with_reducible rfl
    rotate_left
    · simp only [Act.put, List.setIfInBounds_toArray, List.set_cons_zero, List.set_cons_succ, zaF, zaM]; rfl
    refine take_ (i := 0) (N := some 69) (v := ?_) (a' := ?_) #[true, true, true, true, false, false, false] rfl rfl zq6 (fun _ _ _ h => h) (Or.inl ⟨by rfl, ?_⟩) hHeld ?_ ?_; rotate_left
    · rintro w' ⟨s0, s1, s2, s3, s4, s5⟩; go_simp; with_reducible rfl
    rotate_left
    · simp only [Act.put, List.setIfInBounds_toArray, List.set_cons_zero, List.set_cons_succ, zaF, zaM]; rfl
    refine take_ (i := 4) (N := some 73) (v := ?_) (a' := ?_) #[true, true, true, true, true, false, false] rfl rfl zq6 (fun _ _ _ h => h) (Or.inl ⟨by rfl, ?_⟩) hHeld ?_ ?_; rotate_left
    · rintro w' ⟨s0, s1, s2, s3, s4, s5⟩; go_simp; with_reducible rfl
    rotate_left
    · simp only [Act.put, List.setIfInBounds_toArray, List.set_cons_zero, List.set_cons_succ, zaF, zaM]; rfl
    refine zef (i := 5) (N := none) #[true, true, true, true, true, true, false] rfl rfl zq6 zaR (fun K hK => ?_); refine zeT (w1 := (zcu w9 w.heap.size now old fl plan ca).drew) (by rfl) rfl ziV ?_; refine hK.out _ _ ⟨zbh hHeld.1 hbT _ _ _ _ _, zbh hHeld.2.1 hBT _ _ _ _ _, zbh hHeld.2.2.1 hBT _ _ _ _ _, zbh hHeld.2.2.2.1 hBT _ _ _ _ _, zbh hHeld.2.2.2.2.1 hBT _ _ _ _ _, zbh hHeld.2.2.2.2.2 hBT _ _ _ _ _⟩ (fun hHeld => ?_); clear hK K; refine zbg (i := 6) (N := some 3) (v := ?_) (a' := ?_) #[true, true, true, true, true, true, true] rfl rfl zq6 (fun _ _ _ h => h) (Or.inl ⟨by rfl, ?_⟩) ?_ ?_; rotate_left
    · intro w'; go_simp; with_reducible rfl
    rotate_left
    · simp only [Act.put, List.setIfInBounds_toArray, List.set_cons_zero, List.set_cons_succ, zaF, zaM]; rfl
    refine zeN zq6 ?_; have hfin : (zcu w9 w.heap.size now old fl plan ca).drew.heap[w.heap.size]? = some (.cells #[.int .i64 now, .int .i64 old, .int .i64 fl, .int .i64 plan, .int .i64 ca] 68 (0, 0)) := zam (zcZ H9'.out.1 now old fl plan ca); have hfb : Below w.heap.size w (zcu w9 w.heap.size now old fl plan ca).drew := zcM (zcA H9'.out.2 (Nat.le_refl _) _ _ _ _ _); obtain ⟨Z, hZ⟩ : ∃ Z, (zcu w9 w.heap.size now old fl plan ca).drew = Z := ⟨_, rfl⟩
    rw [hZ] at hfin hfb ⊢; have p0 := zab hfin 0; have p1 := zab hfin 1; have p2 := zab hfin 2; have p3 := zab hfin 3; have p4 := zab hfin 4; simp only [List.getElem?_toArray, List.getElem?_cons_zero, List.getElem?_cons_succ] at p0 p1 p2 p3 p4; have HFB := zaa.mk hfb; clear hfin hfb hZ hHeld; go_wp2; refine bodyPost_ret (v := .tuple #[.agg #[.int .i64 now, .int .i64 old, .int .i64 fl, .int .i64 plan, .int .i64 ca], .int .i64 chd]) ziU rfl ?_; exact ⟨rfl, HFB.out⟩
  rw [if_pos (.inr g4)] at hchg; subst hchg; have c8 : (old == pr) = false := by simp [g4]
  have c8' : (old != pr) = true := by simp [g4]
  have c8'' : (old = pr) = False := eq_false g4; clear g1 g4 KSo KRe; go_wp2_with (first | (go_at_call 120; (with_reducible refine (KB2.out _ (HDV.out.below (zaj (Below.refl _ _) _))).mono ?_); rintro e w' ⟨rfl, ⟨nd, rfl⟩⟩) | (go_at_call 121; (with_reducible refine (KS1.out _ (HDV.out.below (zaj (Below.refl _ _) _))).mono ?_); rintro e w' ⟨rfl, ⟨nd, rfl⟩⟩) | (go_at_call 121; (with_reducible refine (KS1.out _ (zbY.set (HDV.out.below (zaj (Below.refl _ _) _)) hbB)).mono ?_); rintro e w9 ⟨rfl, hD9⟩; have H9 := zaa.mk (zjd hD9 HDV.out HV.out.2.1 HV.out.2.2 hbB hTB HV.out.1 hwB); clear hD9; have g12 : w9.cell? ⟨b, 12, none⟩ = some (.int .i64 pr) := HE.out.2.2.1 ▸ H9.out.1.at 12 (.int .i64 d.prev.rep) rfl) | (go_at_call 122; (with_reducible refine (KR1.out _ (HDV.out.below (zaj (Below.refl _ _) _))).mono ?_); rintro e w' ⟨rfl, ⟨nd, rfl⟩⟩))
  have g8 : w9.cell? ⟨b, 8, none⟩ = some (.int .i64 now) := HE.out.1 ▸ H9.out.1.at 8 (.int .i64 d.now) rfl; obtain ⟨_, hB9, hT9, hw9⟩ := H9.out; have j0 := zab hB9 0; have j1 := zab hB9 1; have j2 := zab hB9 2; have j3 := zab hB9 3; have j4 := zab hB9 4; simp only [List.getElem?_toArray, List.getElem?_cons_zero, List.getElem?_cons_succ] at j0 j1 j2 j3 j4; have k0 := zab hT9 0; have k1 := zab hT9 1; have k2 := zab hT9 2; have k3 := zab hT9 3; have k4 := zab hT9 4; simp only [zbK, List.getElem?_toArray, List.getElem?_cons_zero, List.getElem?_cons_succ] at k0 k1 k2 k3 k4; have l0 := zac hT9 0; have l1 := zac hT9 1; have l2 := zac hT9 2; have l3 := zac hT9 3; have l4 := zac hT9 4; have H9' := zaa.mk (And.intro hT9 hw9); clear hB9 hT9 hw9; refine zer (n := 7) (S := (fun w' => w'.cell? ⟨b, 8, none⟩ = some (.int .i64 now) ∧ w'.cell? ⟨B, 0, none⟩ = some (.int .i64 now) ∧ w'.cell? ⟨B, 1, none⟩ = some (.int .i64 old) ∧ w'.cell? ⟨B, 2, none⟩ = some (.int .i64 fl) ∧ w'.cell? ⟨B, 3, none⟩ = some (.int .i64 plan) ∧ w'.cell? ⟨B, 4, none⟩ = some (.int .i64 ca))) (ds := []) #[false, false, false, false, false, false, false] zq6 rfl rfl ⟨g8, j0, j1, j2, j3, j4⟩ (fun hHeld => ?_); refine zbg (i := 1) (N := some 65) (v := ?_) (a' := ?_) #[false, true, false, false, false, false, false] rfl rfl zq6 (fun _ _ _ h => h) (Or.inl ⟨by rfl, ?_⟩) ?_ ?_; rotate_left
  · intro w'; go_simp; with_reducible rfl
  rotate_left
  · simp only [Act.put, List.setIfInBounds_toArray, List.set_cons_zero, List.set_cons_succ, zaF, zaM]; rfl
  refine zbg (i := 2) (N := some 66) (v := ?_) (a' := ?_) #[false, true, true, false, false, false, false] rfl rfl zq6 (fun _ _ _ h => h) (Or.inl ⟨by rfl, ?_⟩) ?_ ?_; rotate_left
  · intro w'; go_simp; with_reducible rfl
  rotate_left
  · simp only [Act.put, List.setIfInBounds_toArray, List.set_cons_zero, List.set_cons_succ, zaF, zaM]; rfl
  refine zbg (i := 3) (N := some 67) (v := ?_) (a' := ?_) #[false, true, true, true, false, false, false] rfl rfl zq6 (fun _ _ _ h => h) (Or.inl ⟨by rfl, ?_⟩) ?_ ?_; rotate_left
  · intro w'; go_simp; with_reducible rfl
  rotate_left
  · simp only [Act.put, List.setIfInBounds_toArray, List.set_cons_zero, List.set_cons_succ, zaF, zaM]; rfl
  refine take_ (i := 0) (N := some 64) (v := ?_) (a' := ?_) #[true, true, true, true, false, false, false] rfl rfl zq6 (fun _ _ _ h => h) (Or.inl ⟨by rfl, ?_⟩) hHeld ?_ ?_; rotate_left
  · rintro w' ⟨s0, s1, s2, s3, s4, s5⟩; go_simp; with_reducible rfl
  rotate_left
  · simp only [Act.put, List.setIfInBounds_toArray, List.set_cons_zero, List.set_cons_succ, zaF, zaM]; rfl
  refine take_ (i := 4) (N := some 68) (v := ?_) (a' := ?_) #[true, true, true, true, true, false, false] rfl rfl zq6 (fun _ _ _ h => h) (Or.inl ⟨by rfl, ?_⟩) hHeld ?_ ?_; rotate_left
  · rintro w' ⟨s0, s1, s2, s3, s4, s5⟩; go_simp; with_reducible rfl
  rotate_left
  · simp only [Act.put, List.setIfInBounds_toArray, List.set_cons_zero, List.set_cons_succ, zaF, zaM]; rfl
  refine zef (i := 5) (N := none) #[true, true, true, true, true, true, false] rfl rfl zq6 zaR (fun K hK => ?_); refine zeT (w1 := (zcu w9 w.heap.size now old fl plan ca).drew) (by rfl) rfl ziV ?_; refine hK.out _ _ ⟨zbh hHeld.1 hbT _ _ _ _ _, zbh hHeld.2.1 hBT _ _ _ _ _, zbh hHeld.2.2.1 hBT _ _ _ _ _, zbh hHeld.2.2.2.1 hBT _ _ _ _ _, zbh hHeld.2.2.2.2.1 hBT _ _ _ _ _, zbh hHeld.2.2.2.2.2 hBT _ _ _ _ _⟩ (fun hHeld => ?_); clear hK K; refine zbg (i := 6) (N := some 3) (v := ?_) (a' := ?_) #[true, true, true, true, true, true, true] rfl rfl zq6 (fun _ _ _ h => h) (Or.inl ⟨by rfl, ?_⟩) ?_ ?_; rotate_left
  · intro w'; go_simp; with_reducible rfl
  rotate_left
  · simp only [Act.put, List.setIfInBounds_toArray, List.set_cons_zero, List.set_cons_succ, zaF, zaM]; rfl
  refine zeN zq6 ?_; have hfin : (zcu w9 w.heap.size now old fl plan ca).drew.heap[w.heap.size]? = some (.cells #[.int .i64 now, .int .i64 old, .int .i64 fl, .int .i64 plan, .int .i64 ca] 68 (0, 0)) := zam (zcZ H9'.out.1 now old fl plan ca); have hfb : Below w.heap.size w (zcu w9 w.heap.size now old fl plan ca).drew := zcM (zcA H9'.out.2 (Nat.le_refl _) _ _ _ _ _); obtain ⟨Z, hZ⟩ : ∃ Z, (zcu w9 w.heap.size now old fl plan ca).drew = Z := ⟨_, rfl⟩
  rw [hZ] at hfin hfb ⊢; have p0 := zab hfin 0; have p1 := zab hfin 1; have p2 := zab hfin 2; have p3 := zab hfin 3; have p4 := zab hfin 4; simp only [List.getElem?_toArray, List.getElem?_cons_zero, List.getElem?_cons_succ] at p0 p1 p2 p3 p4; have HFB := zaa.mk hfb; clear hfin hfb hZ hHeld; go_wp2; refine bodyPost_ret (v := .tuple #[.agg #[.int .i64 now, .int .i64 old, .int .i64 fl, .int .i64 plan, .int .i64 ca], .int .i64 now]) ziU rfl ?_; exact ⟨rfl, HFB.out⟩
end Go.Proofs.Ytemnfnbjapobcaa.Ho
end
section
namespace Go.Proofs.Ytemnfnbjapobcaa.PS
open Go.Proofs.Ytemnfnbjapobcaa.Pr Go.Proofs.Ytemnfnbjapobcaa.Ho
def zpv : Dec := ⟨0, 0, 0, 0, 0⟩
def decideP (p : Pol) (now : Int) (load : List S70) (plan : Int) (prev : Dec) (changed : Int) : Dec × Int × Int :=
 if ¬ okP p then (zpv, 0, 31) else if timedB now = false then (zpv, 0, 21) else if RS.ris load 0 load.length = false then (zpv, 0, 21)
 else (zgC ⟨p, now, plan, prev, changed⟩ (load.take (zck load now)), zgE ⟨p, now, plan, prev, changed⟩ (load.take (zck load now)), 0)
end Go.Proofs.Ytemnfnbjapobcaa.PS
namespace Go.Proofs.Ytemnfnbjapobcaa.Ho
open Go.RowKit Go.Proofs.ZW.PrintWords Go.Proofs.ZW.PrintLast Go.Proofs.ZW.PrintMore
open Go.Proofs.Ytemnfnbjapobcaa.FS Go.Proofs.Ytemnfnbjapobcaa.HS Go.Proofs.Ytemnfnbjapobcaa.FM Go.Proofs.Ytemnfnbjapobcaa.PS Go.Proofs.Ytemnfnbjapobcaa.Pr
def zbl (p : Pol) : Array Value := #[.int .i64 p.mn, .int .i64 p.mx, .int .i64 p.per, .int .i64 p.stale, .int .i64 p.step, .int .i64 p.ahead, .int .i64 p.cool, .int .i64 p.season]
def Env (s : Nat) (p : Pol) (prev : Dec) (W : World) : Prop := W.heap[s]? = some (.cells (zbl p) 65 (0, 0)) ∧ W.heap[s + 1]? = some (.cells (zbx prev) 68 (0, 0)) ∧ W.heap[s + 2]? = some (.cells zbK 68 (0, 0))
theorem Env.below {s : Nat} {p : Pol} {prev : Dec} {W W' : World} (h : Env s p prev W) (hb : Below W.heap.size W W') : Env s p prev W' := ⟨zax h.1 hb, zax h.2.1 hb, zax h.2.2 hb⟩
theorem zqT (w : World) (p : Pol) (prev : Dec) : Env w.heap.size p prev (((w.alloc (.cells (zbl p) 65)).alloc (.cells (zbx prev) 68)).alloc (.cells zbK 68)) := by
 refine ⟨zai (zai (zbL w _) _) _, ?_, ?_⟩
 · have := zbL (w.alloc (.cells (zbl p) 65)) (.cells (zbx prev) 68); rw [zcE] at this; exact zai this _
 · have := zbL ((w.alloc (.cells (zbl p) 65)).alloc (.cells (zbx prev) 68)) (.cells zbK 68); rw [zcE, zcE] at this; exact this
theorem zqA {W : World} {A : Option Addr} {l : List S70} {c : Nat} (h : Kd.C k70 W A l.length l) (n : Nat) (hn : n ≤ l.length) : Kd.C k70 W A (l.take n).length (l.take n) := by
 rw [List.length_take, Nat.min_eq_left hn]; have := Kd.zhn h (m := n) hn; rwa [List.length_take, Nat.min_eq_left hn] at this
theorem zhO (HS : zaa SeasonMiss) (HC : zaa SeasonCast) (p : Pol) (now : Int) (A : Option Addr) (c : Nat) (load : List S70) (plan : Int) (prev : Dec) (changed : Int) (w : World) (hr : Kd.C k70 w A load.length load) (hc : load.length ≤ c) (hs : sIn load) (hper : FS.In p.per) (hch : FS.In changed) (hl : load.length ≤ 1152921504606846976) :
  Calls Try.prog 49 #[zdI p, .int .i64 now, .slice A load.length c, .int .i64 plan, zeh prev, .int .i64 changed] w fun e w' => e = .returned (.tuple #[zeh (decideP p now load plan prev changed).1, .int .i64 (decideP p now load plan prev changed).2.1, .int .i64 (decideP p now load plan prev changed).2.2]) ∧ Below w.heap.size w w' := by
 have HR := zaa.mk hr; clear hr; obtain ⟨res, hres⟩ : ∃ x, decideP p now load plan prev changed = x := ⟨_, rfl⟩
 rw [hres]; unfold decideP at hres; have KC := zaa.mk (fun W => zgz p W); have E0 := zaa.mk (zqT w p prev); have hb0 : Below w.heap.size w (((w.alloc (.cells (zbl p) 65)).alloc (.cells (zbx prev) 68)).alloc (.cells zbK 68)) := zaq (zaq (zaq (Below.refl _ _) _) _) _; have HB0 := zaa.mk hb0; clear hb0; have KT := zaa.mk (fun W => zlx now W); have KR := zaa.mk (fun W (h : Kd.C k70 W A load.length load) => zlt A c load W h hc hl); by_cases g1 : okP p
 rotate_left
 · rw [if_pos g1] at hres; subst hres; have c0 : checkP p = 31 := if_neg g1; rw [c0] at KC; clear g1 KT KR; obtain ⟨mn, mx, per, stale, step, ahead, cool, season⟩ := p; obtain ⟨pt, pr, pf, pp, pc⟩ := prev; dsimp only [zdI, zeh, zbl, zbx, zbK] at *; clear c0; go_enter Try.func49, Try.ntmps49
   go_wp2_with ((go_at_call 48; (with_reducible refine (KC.out _).mono ?_); rintro e w1 ⟨rfl, hb⟩; have E1 := zaa.mk (Env.below E0.out hb); have HB1 := zaa.mk (HB0.out.trans (hb.mono (HB0.out).size)); clear hb; have k0 := zab E1.out.2.2 0; have k1 := zab E1.out.2.2 1; have k2 := zab E1.out.2.2 2; have k3 := zab E1.out.2.2 3; have k4 := zab E1.out.2.2 4; simp only [zbK, List.getElem?_toArray, List.getElem?_cons_zero, List.getElem?_cons_succ] at k0 k1 k2 k3 k4; have l0 := zac E1.out.2.2 0; have l1 := zac E1.out.2.2 1; have l2 := zac E1.out.2.2 2; have l3 := zac E1.out.2.2 3; have l4 := zac E1.out.2.2 4))
   have hfin := zcZ (W := w1) E1.out.2.2 0 0 0 0 0; have hfb := zcA HB1.out (Nat.le_add_right _ 2) 0 0 0 0 0; unfold zcu at hfin hfb; have p0 := zab hfin 0; have p1 := zab hfin 1; have p2 := zab hfin 2; have p3 := zab hfin 3; have p4 := zab hfin 4; simp only [List.getElem?_toArray, List.getElem?_cons_zero, List.getElem?_cons_succ] at p0 p1 p2 p3 p4; refine bodyPost_ret (v := .tuple #[.agg #[.int .i64 0, .int .i64 0, .int .i64 0, .int .i64 0, .int .i64 0], .int .i64 0, .int .i64 31]) zmR rfl ?_; exact ⟨rfl, hfb⟩
 rw [if_neg (fun h => h g1)] at hres; have c0 : checkP p = 0 := if_pos g1; rw [c0] at KC; clear c0; by_cases g2 : timedB now = false
 · rw [if_pos g2] at hres; subst hres; rw [g2] at KT; clear g1 g2 KR; obtain ⟨mn, mx, per, stale, step, ahead, cool, season⟩ := p; obtain ⟨pt, pr, pf, pp, pc⟩ := prev; dsimp only [zdI, zeh, zbl, zbx, zbK] at *; go_enter Try.func49, Try.ntmps49
   go_wp2_with (first | (go_at_call 48; (with_reducible refine (KC.out _).mono ?_); rintro e w1 ⟨rfl, hb⟩; have E1 := zaa.mk (Env.below E0.out hb); have HB1 := zaa.mk (HB0.out.trans (hb.mono (HB0.out).size)); clear hb; skip) | (go_at_call 81; (with_reducible refine (KT.out _).mono ?_); rintro e w2 ⟨rfl, hb⟩; have E2 := zaa.mk (Env.below E1.out hb.below); have HB2 := zaa.mk (HB1.out.trans (hb.below.mono HB1.out.size)); clear hb; have k0 := zab E2.out.2.2 0; have k1 := zab E2.out.2.2 1; have k2 := zab E2.out.2.2 2; have k3 := zab E2.out.2.2 3; have k4 := zab E2.out.2.2 4; simp only [zbK, List.getElem?_toArray, List.getElem?_cons_zero, List.getElem?_cons_succ] at k0 k1 k2 k3 k4; have l0 := zac E2.out.2.2 0; have l1 := zac E2.out.2.2 1; have l2 := zac E2.out.2.2 2; have l3 := zac E2.out.2.2 3; have l4 := zac E2.out.2.2 4))
   have hfin := zcZ (W := w2) E2.out.2.2 0 0 0 0 0; have hfb := zcA HB2.out (Nat.le_add_right _ 2) 0 0 0 0 0; unfold zcu at hfin hfb; have p0 := zab hfin 0; have p1 := zab hfin 1; have p2 := zab hfin 2; have p3 := zab hfin 3; have p4 := zab hfin 4; simp only [List.getElem?_toArray, List.getElem?_cons_zero, List.getElem?_cons_succ] at p0 p1 p2 p3 p4; refine bodyPost_ret (v := .tuple #[.agg #[.int .i64 0, .int .i64 0, .int .i64 0, .int .i64 0, .int .i64 0], .int .i64 0, .int .i64 21]) zmR rfl ?_; exact ⟨rfl, hfb⟩
 have g2' : timedB now = true := by simpa using g2
 rw [if_neg g2] at hres; rw [g2'] at KT; by_cases g3 : RS.ris load 0 load.length = false
 · rw [if_pos g3] at hres; subst hres; rw [g3] at KR; simp only [Bool.false_eq_true, if_false] at KR; clear g1 g2 g2' g3; obtain ⟨mn, mx, per, stale, step, ahead, cool, season⟩ := p; obtain ⟨pt, pr, pf, pp, pc⟩ := prev; dsimp only [zdI, zeh, zbl, zbx, zbK] at *; go_enter Try.func49, Try.ntmps49
   go_wp2_with (first | (go_at_call 48; (with_reducible refine (KC.out _).mono ?_); rintro e w1 ⟨rfl, hb⟩; have E1 := zaa.mk (Env.below E0.out hb); have HB1 := zaa.mk (HB0.out.trans (hb.mono (HB0.out).size)); clear hb; skip) | (go_at_call 81; (with_reducible refine (KT.out _).mono ?_); rintro e w2 ⟨rfl, hb⟩; have E2 := zaa.mk (Env.below E1.out hb.below); have HB2 := zaa.mk (HB1.out.trans (hb.below.mono HB1.out.size)); clear hb; skip) | (go_at_call 82; (with_reducible refine (KR.out _ (Kd.zaL HR.out HB2.out)).mono ?_); rintro e w3 ⟨rfl, hb⟩; have E3 := zaa.mk (Env.below E2.out hb); have HB3 := zaa.mk (HB2.out.trans (hb.mono HB2.out.size)); clear hb; have k0 := zab E3.out.2.2 0; have k1 := zab E3.out.2.2 1; have k2 := zab E3.out.2.2 2; have k3 := zab E3.out.2.2 3; have k4 := zab E3.out.2.2 4; simp only [zbK, List.getElem?_toArray, List.getElem?_cons_zero, List.getElem?_cons_succ] at k0 k1 k2 k3 k4; have l0 := zac E3.out.2.2 0; have l1 := zac E3.out.2.2 1; have l2 := zac E3.out.2.2 2; have l3 := zac E3.out.2.2 3; have l4 := zac E3.out.2.2 4))
   have hfin := zcZ (W := w3) E3.out.2.2 0 0 0 0 0; have hfb := zcA HB3.out (Nat.le_add_right _ 2) 0 0 0 0 0; unfold zcu at hfin hfb; have p0 := zab hfin 0; have p1 := zab hfin 1; have p2 := zab hfin 2; have p3 := zab hfin 3; have p4 := zab hfin 4; simp only [List.getElem?_toArray, List.getElem?_cons_zero, List.getElem?_cons_succ] at p0 p1 p2 p3 p4; refine bodyPost_ret (v := .tuple #[.agg #[.int .i64 0, .int .i64 0, .int .i64 0, .int .i64 0, .int .i64 0], .int .i64 0, .int .i64 21]) zmR rfl ?_; exact ⟨rfl, hfb⟩
 have g3' : RS.ris load 0 load.length = true := by simpa using g3
 rw [if_neg g3] at hres; rw [g3'] at KR; simp only [if_true] at KR; obtain ⟨hn0, hn1⟩ : -4503599627370496 ≤ now ∧ now ≤ 4503599627370496 := by simpa [timedB] using g2'
 have hu := zhr load now; have KU := zaa.mk (fun W (h : Kd.C k70 W A load.length load) => zlV A c load now W h hc hl); obtain ⟨l, hll⟩ : ∃ l, load.take (zck load now) = l := ⟨_, rfl⟩
 have hlen : zck load now = l.length := by rw [← hll, List.length_take, Nat.min_eq_left hu]
 have hsl : sIn l := fun x hx => hs x (List.mem_of_mem_take (hll ▸ hx))
 have KL : zaa (∀ W, Kd.C k70 W A load.length load → Kd.C k70 W A l.length l) := ⟨fun W h => hll ▸ zqA (c := c) h _ hu⟩
 rw [hll] at hres; rw [hlen] at KU; have KD := zaa.mk (fun W b (h : zbY W b ⟨p, now, plan, prev, changed⟩ A l.length l.length) (hr : Kd.C k70 W A l.length l) => zlO HS HC b ⟨p, now, plan, prev, changed⟩ A l.length l W h hr (Nat.le_refl _) hsl g1 hper hn0 hn1 hch zq8); obtain ⟨D, hD⟩ : ∃ D, zgC ⟨p, now, plan, prev, changed⟩ l = D := ⟨_, rfl⟩
 obtain ⟨ch, hch'⟩ : ∃ ch, zgE ⟨p, now, plan, prev, changed⟩ l = ch := ⟨_, rfl⟩
 rw [hD, hch'] at KD hres; subst hres; clear g1 g2 g2' g3 g3' hD hch' hsl hll hu hlen hn0 hn1 hs hper hch hl; obtain ⟨dt, dr, df, dp, dc⟩ := D; obtain ⟨mn, mx, per, stale, step, ahead, cool, season⟩ := p; obtain ⟨pt, pr, pf, pp, pc⟩ := prev; dsimp only [zdI, zeh, zbl, zbx, zbK] at *; go_enter Try.func49, Try.ntmps49
 go_wp2_with (first | (go_at_call 48; (with_reducible refine (KC.out _).mono ?_); rintro e w1 ⟨rfl, hb⟩; have E1 := zaa.mk (Env.below E0.out hb); have HB1 := zaa.mk (HB0.out.trans (hb.mono (HB0.out).size)); clear hb; skip) | (go_at_call 81; (with_reducible refine (KT.out _).mono ?_); rintro e w2 ⟨rfl, hb⟩; have E2 := zaa.mk (Env.below E1.out hb.below); have HB2 := zaa.mk (HB1.out.trans (hb.below.mono HB1.out.size)); clear hb; skip) | (go_at_call 82; (with_reducible refine (KR.out _ (Kd.zaL HR.out HB2.out)).mono ?_); rintro e w3 ⟨rfl, hb⟩; have E3 := zaa.mk (Env.below E2.out hb); have HB3 := zaa.mk (HB2.out.trans (hb.mono HB2.out.size)); clear hb; have x0 := zab E3.out.1 0; have x1 := zab E3.out.1 1; have x2 := zab E3.out.1 2; have x3 := zab E3.out.1 3; have x4 := zab E3.out.1 4; have x5 := zab E3.out.1 5; have x6 := zab E3.out.1 6; have x7 := zab E3.out.1 7; simp only [zbl, List.getElem?_toArray, List.getElem?_cons_zero, List.getElem?_cons_succ] at x0 x1 x2 x3 x4 x5 x6 x7; have y0 := zab E3.out.2.1 0; have y1 := zab E3.out.2.1 1; have y2 := zab E3.out.2.1 2; have y3 := zab E3.out.2.1 3; have y4 := zab E3.out.2.1 4; simp only [zbx, List.getElem?_toArray, List.getElem?_cons_zero, List.getElem?_cons_succ] at y0 y1 y2 y3 y4))
 refine zdR 9 zq6 zq6 (fun _ _ _ _ _ h => h) ?_; simp only [List.take_succ_cons, List.take_zero, List.drop_succ_cons, List.drop_zero]; repeat (go_big_quiet_step ((go_at_call 83; exact Calls.quiet_of (zeo (KU.out _ (Kd.zaL HR.out (zaj HB3.out _)))))))
 refine wpQuiet_nil ?_; rintro W4 ⟨nq, hnq⟩; have hb4 : Below w3.heap.size w3 W4 := hnq ▸ zaj (Below.refl _ _) _; have E4 := zaa.mk (Env.below E3.out hb4); have HB4 := zaa.mk (HB3.out.trans (hb4.mono HB3.out.size)); have hDr : zbY (W4.alloc (.cells #[.int .i64 mn, .int .i64 mx, .int .i64 per, .int .i64 stale, .int .i64 step, .int .i64 ahead, .int .i64 cool, .int .i64 season, .int .i64 now, .slice A l.length l.length, .int .i64 plan, .int .i64 pt, .int .i64 pr, .int .i64 pf, .int .i64 pp, .int .i64 pc, .int .i64 changed] 115)) W4.heap.size ⟨⟨mn, mx, per, stale, step, ahead, cool, season⟩, now, plan, ⟨pt, pr, pf, pp, pc⟩, changed⟩ A l.length l.length := zbL _ _; have HDr := zaa.mk hDr; have hb5 : Below W4.heap.size W4 (W4.alloc (.cells #[.int .i64 mn, .int .i64 mx, .int .i64 per, .int .i64 stale, .int .i64 step, .int .i64 ahead, .int .i64 cool, .int .i64 season, .int .i64 now, .slice A l.length l.length, .int .i64 plan, .int .i64 pt, .int .i64 pr, .int .i64 pf, .int .i64 pp, .int .i64 pc, .int .i64 changed] 115)) := zaq (Below.refl _ _) _; have E5 := zaa.mk (Env.below E4.out hb5); have HB5 := zaa.mk (HB4.out.trans (hb5.mono HB4.out.size)); clear hnq nq hb4 hb5 hDr x0 x1 x2 x3 x4 x5 x6 x7 y0 y1 y2 y3 y4; go_wp2_with (go_at_call 84; (with_reducible refine (KD.out _ _ HDr.out (KL.out _ (Kd.zaL HR.out HB5.out))).mono ?_); rintro e w5 ⟨rfl, hb⟩; have E6 := zaa.mk (Env.below E5.out hb); have HB6 := zaa.mk (HB5.out.trans (hb.mono HB5.out.size)); clear hb; have E7 := zaa.mk (Env.below E6.out (zaq (Below.refl _ _) (.cells #[.int .i64 dt, .int .i64 dr, .int .i64 df, .int .i64 dp, .int .i64 dc] 68))); have HB7 := zaa.mk (HB6.out.alloc HB6.out.size (.cells #[.int .i64 dt, .int .i64 dr, .int .i64 df, .int .i64 dp, .int .i64 dc] 68)); have k0 := zab E7.out.2.2 0; have k1 := zab E7.out.2.2 1; have k2 := zab E7.out.2.2 2; have k3 := zab E7.out.2.2 3; have k4 := zab E7.out.2.2 4; simp only [zbK, List.getElem?_toArray, List.getElem?_cons_zero, List.getElem?_cons_succ] at k0 k1 k2 k3 k4; have l0 := zac E7.out.2.2 0; have l1 := zac E7.out.2.2 1; have l2 := zac E7.out.2.2 2; have l3 := zac E7.out.2.2 3; have l4 := zac E7.out.2.2 4)
 have hfin := zcZ (W := w5.alloc (.cells #[.int .i64 dt, .int .i64 dr, .int .i64 df, .int .i64 dp, .int .i64 dc] 68)) E7.out.2.2 dt dr df dp dc; have hfb := zcA HB7.out (Nat.le_add_right _ 2) dt dr df dp dc; unfold zcu at hfin hfb; have p0 := zab hfin 0; have p1 := zab hfin 1; have p2 := zab hfin 2; have p3 := zab hfin 3; have p4 := zab hfin 4; simp only [List.getElem?_toArray, List.getElem?_cons_zero, List.getElem?_cons_succ] at p0 p1 p2 p3 p4; refine bodyPost_ret (v := .tuple #[.agg #[.int .i64 dt, .int .i64 dr, .int .i64 df, .int .i64 dp, .int .i64 dc], .int .i64 ch, .int .i64 0]) zmR rfl ?_; exact ⟨rfl, hfb⟩
end Go.Proofs.Ytemnfnbjapobcaa.Ho
end
section
namespace Go.Proofs.Ytemnfnbjapobcaa
open Go.RowKit Go.Proofs.ZW.PrintWords
theorem zpN {α β γ : Type} {d : Kd α} {f : β → α} {f' : γ → α} {g : β → γ} (hfg : ∀ x, f' (g x) = f x) {w : World} {A : Option Addr} {n : Nat} {xs : List β} (h : (Kd.iso d f).C w A n xs) : (Kd.iso d f').C w A n (xs.map g) := by
 obtain ⟨h1, h2, h3⟩ := h; refine ⟨by rw [List.length_map]; exact h1, h2, fun h0 => ?_⟩; obtain ⟨ad, e, hc⟩ := h3 h0; refine ⟨ad, e, fun j p hj => ?_⟩; rw [List.getElem?_map] at hj; obtain ⟨y, hy, rfl⟩ := Option.map_eq_some_iff.mp hj; obtain ⟨c, c1, c2, c3⟩ := hc j y hy; refine ⟨c, c1, ?_, c3⟩; show d.K w (f' (g y)) c
 rw [hfg]; exact c2
def ziZ (l : List Pr.S70) : Bool := l.all (fun x => HS.InB x.f0 && HS.InB x.f1)
theorem ziY {l : List Pr.S70} : ziZ l = true ↔ PS.sIn l := by
 unfold ziZ PS.sIn; rw [List.all_eq_true]
 constructor
 · intro h x hx; have := h x hx; rw [Bool.and_eq_true, HS.zbO, HS.zbO] at this; exact this
 · intro h x hx; rw [Bool.and_eq_true, HS.zbO, HS.zbO]; exact h x hx
end Go.Proofs.Ytemnfnbjapobcaa
end
section
namespace Go.Proofs.Ytemnfnbjapobcaa.PS
open Go.Proofs.Ytemnfnbjapobcaa.Pr Go.Proofs.Ytemnfnbjapobcaa.HS
theorem zpw {x lo hi : Int} (h : lo ≤ hi) : lo ≤ zcV x lo hi ∧ zcV x lo hi ≤ hi := by
 unfold zcV; repeat' split
 all_goals omega
theorem zml {a b : Int} (hb : 0 < b) (ha : a ≤ 0) : FS.cdivS a b ≤ 0 := by
 rw [FS.zop hb]; have : 0 ≤ -(a * 4294967296) / b := Int.ediv_nonneg zq8 zq8; unfold FM.sat; repeat' split
 all_goals omega
theorem zkA {p : Pol} (h : okP p) (load : Int) : floorP p load = zcV (-(-(FS.cdivS load p.per) / 4294967296)) 0 p.mx := by unfold floorP; rw [if_pos h]
theorem zmi {p : Pol} (h : okP p) {load : Int} (hl : load ≤ 0) : floorP p load = 0 := by
 rw [zkA h]; have h1 := zml h.2.2.2.1 hl; have h2 : 0 ≤ p.mx := by obtain ⟨h1, h2, _⟩ := h; omega
 unfold zcV; repeat' split
 all_goals omega
theorem zns {p : Pol} {now : Int} {l : List S70} (h1 : okP p) (h2 : Ho.timedB now = true) (h3 : RS.ris l 0 l.length = true) (plan : Int) (prev : Dec) (ch : Int) :
  decideP p now l plan prev ch = (zgC ⟨p, now, plan, prev, ch⟩ (l.take (zck l now)), zgE ⟨p, now, plan, prev, ch⟩ (l.take (zck l now)), 0) := by
 unfold decideP; rw [if_neg (fun h => h h1), if_neg (by rw [h2]; decide), if_neg (by rw [h3]; decide)]
theorem zpP {d : Dr} (h : okP d.p) (l : List S70) : d.p.mn ≤ zeS d l ∧ zeS d l ≤ d.p.mx := zpw (by obtain ⟨h1, h2, _⟩ := h; omega)
end Go.Proofs.Ytemnfnbjapobcaa.PS
end
