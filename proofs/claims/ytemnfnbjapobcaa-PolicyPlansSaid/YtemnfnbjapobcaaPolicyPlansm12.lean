-- Laid together by wip/shake.py out of: PolSpec PurePolicyFloors PurePolicyPlans Over LawPolicyPlans
import Derived.Test.YtemnfnbjapobcaaPolicyPlansm11
import Derived.Test.YtemnfnbjapobcaaRows
import Derived.WalkKit
import Derived.ProofKit
import Derived.JoinedOf
import Derived.OpenShut
import Derived.ShutString
import Derived.ChangeOld
import Derived.Below
import Derived.SizedLaws
import Derived.Deep.Slices
import Derived.WideShapes
section
namespace Go.Proofs.Ytemnfnbjapobcaa.PS
open Go.Proofs.Ytemnfnbjapobcaa.Pr Go.Proofs.Ytemnfnbjapobcaa.HS
set_option linter.unusedVariables false
theorem decideP_cases (p : Pol) (now : Int) (l : List S70) (prev : Dec) (ch : Int) :
    (∃ e, e ≠ 0 ∧ ∀ plan, decideP p now l plan prev ch = (dec0, 0, e)) ∨
    (okP p ∧ ∀ plan, decideP p now l plan prev ch = (decD ⟨p, now, plan, prev, ch⟩ (l.take (untilN l now)), chgD ⟨p, now, plan, prev, ch⟩ (l.take (untilN l now)), 0)) := by
  unfold decideP
  by_cases h1 : okP p
  · by_cases h2 : Ho.timedB now = false
    · exact .inl ⟨21, by decide, fun plan => by rw [if_neg (fun h => h h1), if_pos h2]⟩
    · by_cases h3 : RS.ris l 0 l.length = false
      · exact .inl ⟨21, by decide, fun plan => by rw [if_neg (fun h => h h1), if_neg h2, if_pos h3]⟩
      · exact .inr ⟨h1, fun plan => by rw [if_neg (fun h => h h1), if_neg h2, if_neg h3]⟩
  · exact .inl ⟨31, by decide, fun plan => by rw [if_pos h1]⟩
theorem want_mono {p : Pol} {now x y ch : Int} {prev : Dec} (l : List S70) (h : x ≤ y) (hp : okP p) : wantD ⟨p, now, x, prev, ch⟩ l ≤ wantD ⟨p, now, y, prev, ch⟩ l := by
  have e1 : floorD ⟨p, now, x, prev, ch⟩ l = floorD ⟨p, now, y, prev, ch⟩ l := rfl
  have e2 : castD ⟨p, now, x, prev, ch⟩ l = castD ⟨p, now, y, prev, ch⟩ l := rfl
  obtain ⟨h3, h4, _⟩ := hp
  unfold wantD Dr.bounded clampS max3
  rw [e1, e2]
  generalize floorD ⟨p, now, y, prev, ch⟩ l = a at *
  generalize castD ⟨p, now, y, prev, ch⟩ l = b at *
  dsimp only
  repeat' split
  all_goals omega
theorem rep_mono {p : Pol} {now x y ch : Int} {prev : Dec} (l : List S70) (h : x ≤ y) (hp : okP p) : repD ⟨p, now, x, prev, ch⟩ l ≤ repD ⟨p, now, y, prev, ch⟩ l := by
  have hw := want_mono (now := now) (ch := ch) (prev := prev) l h hp
  have e3 : Dr.some ⟨p, now, x, prev, ch⟩ = Dr.some ⟨p, now, y, prev, ch⟩ := rfl
  have e4 : Dr.rests ⟨p, now, x, prev, ch⟩ = Dr.rests ⟨p, now, y, prev, ch⟩ := rfl
  have e5 : Dr.bounded ⟨p, now, x, prev, ch⟩ prev.rep = Dr.bounded ⟨p, now, y, prev, ch⟩ prev.rep := rfl
  unfold repD
  dsimp only
  rw [e5]
  generalize wantD ⟨p, now, x, prev, ch⟩ l = a at *
  generalize wantD ⟨p, now, y, prev, ch⟩ l = b at *
  generalize Dr.bounded ⟨p, now, y, prev, ch⟩ prev.rep = o at *
  by_cases g1 : Dr.some ⟨p, now, y, prev, ch⟩
  · by_cases g2 : Dr.rests ⟨p, now, y, prev, ch⟩
    · have g1' : Dr.some ⟨p, now, x, prev, ch⟩ := g1
      have g2' : Dr.rests ⟨p, now, x, prev, ch⟩ := g2
      by_cases c1 : a < o
      · rw [if_pos ⟨g1', c1, g2'⟩]
        by_cases c2 : b < o
        · rw [if_pos ⟨g1, c2, g2⟩]; exact Int.le_refl _
        · rw [if_neg (fun h => c2 h.2.1)]; omega
      · rw [if_neg (fun h => c1 h.2.1), if_neg (fun h => c1 (by have := h.2.1; omega))]; exact hw
    · rw [if_neg (fun h => g2 h.2.2), if_neg (fun h => g2 h.2.2)]; exact hw
  · rw [if_neg (fun h => g1 h.1), if_neg (fun h => g1 h.1)]; exact hw
end Go.Proofs.Ytemnfnbjapobcaa.PS
end
section
namespace Go.Proofs.Ytemnfnbjapobcaa.Pure
open Go.RowKit Go.Proofs.Ytemnfnbjapobcaa.Pl Go.Proofs.YtemnfnbjapobcaaW.PrintWords Go.Proofs.YtemnfnbjapobcaaW.PrintLast
open Go.Proofs.Ytemnfnbjapobcaa.HS Go.Proofs.Ytemnfnbjapobcaa.PS
theorem policy_alive : lysimeterlaw26_alive.f = some true := by decide +kernel
end Go.Proofs.Ytemnfnbjapobcaa.Pure
end
section
namespace Go.Proofs.Ytemnfnbjapobcaa.Pure
open Go.RowKit Go.Proofs.Ytemnfnbjapobcaa.Pl Go.Proofs.YtemnfnbjapobcaaW.PrintWords Go.Proofs.YtemnfnbjapobcaaW.PrintLast
open Go.Proofs.Ytemnfnbjapobcaa.HS Go.Proofs.Ytemnfnbjapobcaa.PS
theorem samples_in {l : List S70} (h : ∀ x ∈ l, (Lit.int .i64 x.f0).wf = true ∧ (Lit.int .i64 x.f1).wf = true) : sInB (l.map policy_Decide.to) = true := by
  rw [sInB_iff]
  intro x hx
  obtain ⟨y, hy, rfl⟩ := List.mem_map.mp hx
  exact ⟨FM.i64_of_wf (h y hy).1, FM.i64_of_wf (h y hy).2⟩
theorem decide_eq_ {a b c d e f g h now : Int} {l : List S70} {plan q0 q1 q2 q3 q4 ch : Int} (hs : sInB (l.map policy_Decide.to) = true) (hc : FS.In c) (hch : FS.In ch) (hl : l.length ≤ 1000000000) :
    policy_Decide.f a b c d e f g h now l plan q0 q1 q2 q3 q4 ch = some (policy_Decide.flat (decideP ⟨a, b, c, d, e, f, g, h⟩ now (l.map policy_Decide.to) plan ⟨q0, q1, q2, q3, q4⟩ ch)) :=
  if_pos (by rw [hs, inB_iff.mpr hc, inB_iff.mpr hch, decide_eq_true hl]; rfl)
theorem plans_j1 {a b c d e f g h now : Int} {l : List S70} {x y q0 q1 q2 q3 q4 ch : Int} (hs : sInB (l.map policy_Decide.to) = true) (hc : FS.In c) (hch : FS.In ch) (hl : l.length ≤ 1000000000) (hxy : x ≤ y) :
    lysimeterlaw26_PolicyPlans.j1 1 now l x y ch a b c d e f g h q0 q1 q2 q3 q4 = some true := by
  rw [lysimeterlaw26_PolicyPlans.j1, decide_eq_ hs hc hch hl, Option.bind_some, decide_eq_ hs hc hch hl, Option.bind_some]
  unfold lysimeterlaw26_num.f
  rcases decideP_cases ⟨a, b, c, d, e, f, g, h⟩ now (l.map policy_Decide.to) ⟨q0, q1, q2, q3, q4⟩ ch with ⟨er, h0, hd⟩ | ⟨hp, hd⟩
  · rw [hd x, hd y]
    unfold policy_Decide.flat
    rw [Option.bind_some, Option.bind_some, if_pos rfl, Option.bind_some, if_neg h0]
  · have hr := rep_mono (now := now) (ch := ch) (prev := ⟨q0, q1, q2, q3, q4⟩) ((l.map policy_Decide.to).take (untilN (l.map policy_Decide.to) now)) hxy hp
    rw [hd x, hd y]
    unfold policy_Decide.flat
    rw [Option.bind_some, Option.bind_some]
    refine (if_pos (by rfl)).trans ?_
    rw [Option.bind_some]
    refine (if_pos (by rfl)).trans ((if_pos (by rfl)).trans ((if_pos (by rfl)).trans (if_pos hr)))
theorem PolicyPlans : lysimeterlaw26_PolicyPlans.Pure := by
  intro a b c d e f g h now l x y q0 q1 q2 q3 q4 ch w0 w1 w2 w3 w4 w5 w6 w7 wn _ hlb hls wx wy v0 v1 v2 v3 v4 wch
  have hs := samples_in hls
  have hc := FM.i64_of_wf w2
  have hch := FM.i64_of_wf wch
  have out : lysimeterlaw26_PolicyPlans.j0 2 now l x y ch true true a b c d e f g h q0 q1 q2 q3 q4 = some true := by rw [lysimeterlaw26_PolicyPlans.j0, if_pos rfl]
  refine ⟨2, ?_⟩
  unfold lysimeterlaw26_PolicyPlans.f
  rw [policy_alive, Option.bind_some, if_pos rfl]
  by_cases h1 : (l.length : Int) > 200
  · rw [if_pos h1]; exact out
  rw [if_neg h1]
  by_cases h2 : h > 60
  · rw [decide_eq_true h2]; exact out
  rw [decide_eq_false h2, lysimeterlaw26_PolicyPlans.j0, if_neg (by decide)]
  by_cases h3 : x > y
  · rw [if_pos h3]; exact plans_j1 hs hc hch (by omega) (by omega)
  · rw [if_neg h3]; exact plans_j1 hs hc hch (by omega) (by omega)
end Go.Proofs.Ytemnfnbjapobcaa.Pure
end
section
namespace Go.Proofs.Ytemnfnbjapobcaa.Over
open Go.RowKit
def rest (P : Program) (f : FuncId) (fn : Func) (s : ChangeSpec) (c : OpenClaim) : Bool :=
  c.wf (OpenSpec.ofChange s) && laidOutB P && mapsRowed P &&
  fn.params.all (P.readableRec ·) && namedTie P c.named s.vars &&
  (c.stops == []) && (P.stops == []) && (c.knobs == []) && (P.stopKnobs == []) &&
  (c.inPlace == P.inPlace f) && (c.unfollowed == P.unfollowed f) && (c.recurses == P.recurses f) && (c.named == P.varsNamed f) &&
  (c.maps == (fn.params.toList ++ s.plain.varTypes P).any (P.mapsRec ·)) && (c.ifaces == (fn.params.toList ++ s.plain.varTypes P).any (P.ifacesRec ·)) && (c.mapsOut == P.mapsAmong fn.resultTypes.toList) &&
  (c.loops == (fn.params.toList ++ s.plain.varTypes P).any (P.loopsFrom ·)) && (c.wideKeys == (fn.params.toList ++ s.plain.varTypes P ++ fn.resultTypes.toList).any (P.wideKeysFrom ·)) &&
  s.vars.all (P.varReadable ·) && fn.resultTypes.all (fun t => P.readableRec t && decide (t < P.types.size)) && (c.ifacesOut == fn.resultTypes.toList.any (P.ifacesRec ·)) && (c.loopsOut == fn.resultTypes.toList.any (P.loopsFrom ·)) && (c.plainKeys == P.plainKeys) && c.shortTexts.isNone && P.stopsHeard && true && true && true && (c.kinds == (if c.domain.isEmpty then [] else fn.params.toList.map fun t => match P.underlying t with | some (.int k) => some k | _ => none)) && (c.pinned == c.pinnedBy) &&
  (c.veiled == (fn.params.toList ++ s.plain.varTypes P ++ fn.resultTypes.toList).any (P.veiledRec ·)) && c.veiledFits P fn.params.toList (fn.params.toList ++ s.plain.varTypes P ++ fn.resultTypes.toList)
theorem joined_ {P : Program} {f : FuncId} {fn : Func} {s : ChangeSpec} {c : OpenClaim} (w : (P.mayEnter && (false == P.liftsFinal) && (P.make == some .cut)) = true) (h : rest P f fn s c = true) (e1 : c.lifted = false) (e2 : c.make = .cut) : joinedFacts P f fn s c = true := by
  simp only [Bool.and_eq_true] at w
  obtain ⟨⟨w1, w2⟩, w3⟩ := w
  unfold rest at h
  unfold joinedFacts
  rw [w1, e1, w2, e2, w3]
  exact h
theorem words : (Try.pinned.checked.prog.mayEnter && (false == Try.pinned.checked.prog.liftsFinal) && (Try.pinned.checked.prog.make == some .cut)) = true := by kernel_rfl
theorem joined {f : FuncId} {fn : Func} {s : ChangeSpec} {c : OpenClaim} (h : rest Try.pinned.checked.prog f fn s c = true) (e1 : c.lifted = false) (e2 : c.make = .cut) : joinedFacts Try.pinned.checked.prog f fn s c = true := joined_ words h e1 e2
end Go.Proofs.Ytemnfnbjapobcaa.Over
end
section
namespace Go.Proofs.Ytemnfnbjapobcaa.policyPlans
open Go.ChangeShapes Go.WideShapes Go.ChangeAt Go.RowKit Go.Proofs.Ytemnfnbjapobcaa.Pl
open Go.Proofs.YtemnfnbjapobcaaW.PrintWords Go.Proofs.YtemnfnbjapobcaaW.PrintLast
open Go.ChangeMaps (open_string shut_string)
set_option linter.unusedVariables false
set_option maxRecDepth 100000
theorem own : ownKnob Try.prog.godebug = none := by kernel_rfl
theorem laidOut : laidOutB Try.prog = true := by kernel_rfl
def IsRow (k : IntKind) (w : World) (a : Option Addr) (len cap : Nat) (zs : List Int) : Prop :=
  (a = none ∧ len = 0 ∧ cap = 0 ∧ zs = []) ∨
  ∃ x, a = some x ∧ len ≤ cap ∧ cap ≤ maxLen ∧ zs.length = cap ∧ (∀ i, i < zs.length → w.cell? (x.add i) = some (.int k (zs.getD i 0))) ∧ ∀ n ∈ zs, (Lit.int k n).wf = true
theorem cells70 : Try.prog.cellsOf 70 = 2 := by kernel_rfl
theorem cellsF70_3 : Try.prog.cellsOf 3 = 1 := by kernel_rfl
theorem bytes70 : Try.prog.bytesOf 70 = 16 := by kernel_rfl
theorem open_sl70 {H : Type} {enc : TypeId × Value → H} {W : World} {base : Nat} {spare : Nat → Bool} {held : Bool} {a : Option Addr} {len cap fuel : Nat} {x : DataW H × List MemPlace}
    (h : DataW.trod enc Try.prog W base spare held fuel 66 [.slice a len cap] = some x) :
    ∃ l : List S70, len = l.length ∧ Kd.C k70 W a l.length l ∧ l.length ≤ maxLen ∧ l.length ≤ cap ∧ (∀ y ∈ l, (Lit.int .i64 y.f0).wf = true ∧ (Lit.int .i64 y.f1).wf = true) ∧ (∃ D R, x.1 = .slice D R ∧ l.length ≤ D.length + R.length ∨ l = []) := by
  rcases Deep.open_slice Try.underlying66 h with ⟨hcs, _⟩ | ⟨x, l, c, m, n, D, Pl, hcs, _, hl, hm, hmm, hx0, hx⟩
  · simp only [List.cons.injEq, Value.slice.injEq, and_true] at hcs
    obtain ⟨rfl, rfl, rfl⟩ := hcs
    exact ⟨[], rfl, Kd.C_nil _ _, by simp, by simp, by simp, [], [], .inr rfl⟩
  · simp only [List.cons.injEq, Value.slice.injEq, and_true] at hcs
    obtain ⟨rfl, rfl, rfl⟩ := hcs
    have hlm : len ≤ m := by rw [hmm]; split <;> omega
    have key : ∀ i, i < len → ∃ y : S70, ((Lit.int .i64 y.f0).wf = true ∧ (Lit.int .i64 y.f1).wf = true) ∧ ∀ j u, [Value.int .i64 y.f0, Value.int .i64 y.f1][j]? = some u → W.cell? (x.add (i * 2 + j)) = some u := by
      intro i hi
      obtain ⟨cs', h1, h2⟩ := hx i (by omega)
      rw [cells70] at h1
      obtain ⟨xs, n', _, _, hlen, hxl, hf⟩ := DataW.trod_struct Try.underlying70 h2
      rw [cells70] at hlen
      obtain ⟨_, _, hcell⟩ := World.cells?_some h1
      match cs', hlen with
      | [c0, c1], _ =>
        have g0 := hf 0 _ rfl
        obtain ⟨n0, e0, _, w0⟩ := DataW.trod_int Try.underlying3 (g0.trans (List.getElem?_eq_getElem (by rw [hxl]; decide)))
        obtain rfl : c0 = .int .i64 n0 := by simpa [cellsF70_3] using e0
        have g1 := hf 1 _ rfl
        obtain ⟨n1, e1, _, w1⟩ := DataW.trod_int Try.underlying3 (g1.trans (List.getElem?_eq_getElem (by rw [hxl]; decide)))
        obtain rfl : c1 = .int .i64 n1 := by simpa [cellsF70_3] using e1
        refine ⟨⟨n0, n1⟩, ⟨w0, w1⟩, ?_⟩
        intro j u hu
        have hj : j < 2 := by obtain ⟨z, _⟩ := List.getElem?_eq_some_iff.1 hu; simpa using z
        have z := hcell j hj
        rw [Deep.add_add] at z
        rw [z]; exact hu
    obtain ⟨f, hf⟩ : ∃ f : Nat → S70, ∀ i, i < len → ((Lit.int .i64 (f i).f0).wf = true ∧ (Lit.int .i64 (f i).f1).wf = true) ∧ ∀ j u, [Value.int .i64 (f i).f0, Value.int .i64 (f i).f1][j]? = some u → W.cell? (x.add (i * 2 + j)) = some u := by
      haveI : Inhabited S70 := ⟨z70⟩
      exact Deep.choose_lt key
    refine ⟨(List.range len).map f, by simp, ⟨rfl, by simp only [List.length_map, List.length_range]; unfold maxLen at hm; omega, fun hn => ⟨x, rfl, fun j p hp => ?_⟩⟩, by simp only [List.length_map, List.length_range]; omega, by simpa using hl, ?_, ?_⟩
    · obtain ⟨hj, rfl⟩ := List.getElem?_eq_some_iff.1 hp
      simp only [List.length_map, List.length_range] at hj
      simp only [List.getElem_map, List.getElem_range]
      refine ⟨[Value.int .i64 (f j).f0, Value.int .i64 (f j).f1], rfl, k70_mk W (f j), fun i u hu => ?_⟩
      exact (hf j hj).2 i u hu
    · intro y hy
      simp only [List.mem_map, List.mem_range] at hy
      obtain ⟨i, hi, rfl⟩ := hy
      exact (hf i hi).1
    · refine ⟨_, _, .inl ⟨by rw [hx0], ?_⟩⟩
      simp only [List.length_map, List.length_range]
      omega
theorem cellsA65 : Try.prog.cellsOf 65 = 8 := by kernel_rfl
theorem cellsG65_3 : Try.prog.cellsOf 3 = 1 := by kernel_rfl
theorem open_st65 {H : Type} {enc : TypeId × Value → H} {W : World} {base b0 : Nat} {spare : Nat → Bool} {held : Bool} {v : Value} {d : DataW H} {p : List MemPlace}
    (hv : Value.okWide Try.prog W .any b0 65 v) (h : DataW.Trod enc Try.prog W base spare held 65 v d p) :
    ∃ a0 a1 a2 a3 a4 a5 a6 a7 : Int, v = .agg #[.int .i64 a0, .int .i64 a1, .int .i64 a2, .int .i64 a3, .int .i64 a4, .int .i64 a5, .int .i64 a6, .int .i64 a7] ∧ p = [] ∧ (Lit.int .i64 a0).wf = true ∧ (Lit.int .i64 a1).wf = true ∧ (Lit.int .i64 a2).wf = true ∧ (Lit.int .i64 a3).wf = true ∧ (Lit.int .i64 a4).wf = true ∧ (Lit.int .i64 a5).wf = true ∧ (Lit.int .i64 a6).wf = true ∧ (Lit.int .i64 a7).wf = true := by
  obtain ⟨cs, rfl, hsz⟩ := okWide_struct Try.underlying65 hv
  rw [cellsA65] at hsz
  obtain ⟨fuel, hf0⟩ := h
  have hf1 : DataW.trod enc Try.prog W base spare held fuel 65 cs.toList = some (d, p) := by simpa [Value.cells] using hf0
  obtain ⟨xs, n', _, hxp, hlen, hxl, hf⟩ := DataW.trod_struct Try.underlying65 hf1
  obtain ⟨l, rfl⟩ : ∃ l : List Value, cs = l.toArray := ⟨cs.toList, by simp⟩
  have hlen2 : l.length = 8 := by simpa using hsz
  have hxl2 : xs.length = 8 := hxl
  match l, hlen2, xs, hxl2 with
  | [c0, c1, c2, c3, c4, c5, c6, c7], _, [y0, y1, y2, y3, y4, y5, y6, y7], _ =>
    have g0 := hf 0 _ rfl
    obtain ⟨n0, e0, z0, w0⟩ := DataW.trod_int (x := y0) Try.underlying3 (g0.trans rfl)
    obtain rfl : c0 = .int .i64 n0 := by simpa [cellsG65_3] using e0
    have g1 := hf 1 _ rfl
    obtain ⟨n1, e1, z1, w1⟩ := DataW.trod_int (x := y1) Try.underlying3 (g1.trans rfl)
    obtain rfl : c1 = .int .i64 n1 := by simpa [cellsG65_3] using e1
    have g2 := hf 2 _ rfl
    obtain ⟨n2, e2, z2, w2⟩ := DataW.trod_int (x := y2) Try.underlying3 (g2.trans rfl)
    obtain rfl : c2 = .int .i64 n2 := by simpa [cellsG65_3] using e2
    have g3 := hf 3 _ rfl
    obtain ⟨n3, e3, z3, w3⟩ := DataW.trod_int (x := y3) Try.underlying3 (g3.trans rfl)
    obtain rfl : c3 = .int .i64 n3 := by simpa [cellsG65_3] using e3
    have g4 := hf 4 _ rfl
    obtain ⟨n4, e4, z4, w4⟩ := DataW.trod_int (x := y4) Try.underlying3 (g4.trans rfl)
    obtain rfl : c4 = .int .i64 n4 := by simpa [cellsG65_3] using e4
    have g5 := hf 5 _ rfl
    obtain ⟨n5, e5, z5, w5⟩ := DataW.trod_int (x := y5) Try.underlying3 (g5.trans rfl)
    obtain rfl : c5 = .int .i64 n5 := by simpa [cellsG65_3] using e5
    have g6 := hf 6 _ rfl
    obtain ⟨n6, e6, z6, w6⟩ := DataW.trod_int (x := y6) Try.underlying3 (g6.trans rfl)
    obtain rfl : c6 = .int .i64 n6 := by simpa [cellsG65_3] using e6
    have g7 := hf 7 _ rfl
    obtain ⟨n7, e7, z7, w7⟩ := DataW.trod_int (x := y7) Try.underlying3 (g7.trans rfl)
    obtain rfl : c7 = .int .i64 n7 := by simpa [cellsG65_3] using e7
    obtain ⟨_, rfl⟩ := Prod.mk.inj hxp
    refine ⟨n0, n1, n2, n3, n4, n5, n6, n7, rfl, ?_, w0, w1, w2, w3, w4, w5, w6, w7⟩
    simp [z0, z1, z2, z3, z4, z5, z6, z7]
theorem cellsA68 : Try.prog.cellsOf 68 = 5 := by kernel_rfl
theorem cellsG68_3 : Try.prog.cellsOf 3 = 1 := by kernel_rfl
theorem open_st68 {H : Type} {enc : TypeId × Value → H} {W : World} {base b0 : Nat} {spare : Nat → Bool} {held : Bool} {v : Value} {d : DataW H} {p : List MemPlace}
    (hv : Value.okWide Try.prog W .any b0 68 v) (h : DataW.Trod enc Try.prog W base spare held 68 v d p) :
    ∃ a0 a1 a2 a3 a4 : Int, v = .agg #[.int .i64 a0, .int .i64 a1, .int .i64 a2, .int .i64 a3, .int .i64 a4] ∧ p = [] ∧ (Lit.int .i64 a0).wf = true ∧ (Lit.int .i64 a1).wf = true ∧ (Lit.int .i64 a2).wf = true ∧ (Lit.int .i64 a3).wf = true ∧ (Lit.int .i64 a4).wf = true := by
  obtain ⟨cs, rfl, hsz⟩ := okWide_struct Try.underlying68 hv
  rw [cellsA68] at hsz
  obtain ⟨fuel, hf0⟩ := h
  have hf1 : DataW.trod enc Try.prog W base spare held fuel 68 cs.toList = some (d, p) := by simpa [Value.cells] using hf0
  obtain ⟨xs, n', _, hxp, hlen, hxl, hf⟩ := DataW.trod_struct Try.underlying68 hf1
  obtain ⟨l, rfl⟩ : ∃ l : List Value, cs = l.toArray := ⟨cs.toList, by simp⟩
  have hlen2 : l.length = 5 := by simpa using hsz
  have hxl2 : xs.length = 5 := hxl
  match l, hlen2, xs, hxl2 with
  | [c0, c1, c2, c3, c4], _, [y0, y1, y2, y3, y4], _ =>
    have g0 := hf 0 _ rfl
    obtain ⟨n0, e0, z0, w0⟩ := DataW.trod_int (x := y0) Try.underlying3 (g0.trans rfl)
    obtain rfl : c0 = .int .i64 n0 := by simpa [cellsG68_3] using e0
    have g1 := hf 1 _ rfl
    obtain ⟨n1, e1, z1, w1⟩ := DataW.trod_int (x := y1) Try.underlying3 (g1.trans rfl)
    obtain rfl : c1 = .int .i64 n1 := by simpa [cellsG68_3] using e1
    have g2 := hf 2 _ rfl
    obtain ⟨n2, e2, z2, w2⟩ := DataW.trod_int (x := y2) Try.underlying3 (g2.trans rfl)
    obtain rfl : c2 = .int .i64 n2 := by simpa [cellsG68_3] using e2
    have g3 := hf 3 _ rfl
    obtain ⟨n3, e3, z3, w3⟩ := DataW.trod_int (x := y3) Try.underlying3 (g3.trans rfl)
    obtain rfl : c3 = .int .i64 n3 := by simpa [cellsG68_3] using e3
    have g4 := hf 4 _ rfl
    obtain ⟨n4, e4, z4, w4⟩ := DataW.trod_int (x := y4) Try.underlying3 (g4.trans rfl)
    obtain rfl : c4 = .int .i64 n4 := by simpa [cellsG68_3] using e4
    obtain ⟨_, rfl⟩ := Prod.mk.inj hxp
    refine ⟨n0, n1, n2, n3, n4, rfl, ?_, w0, w1, w2, w3, w4⟩
    simp [z0, z1, z2, z3, z4]
set_option maxRecDepth 100000 in
theorem lifted (os : Os) (started : os.Started) (H : Type) (enc : TypeId × Value → H) :
    ReturnsInHanded {} Try.checked os 18 .any (Rows.policyPlansSpec.pre6 enc Try.prog Try.f18 Rows.policyPlansRow.domain false) (Rows.policyPlansSpec.post enc Try.prog Try.f18 false true false false) := by
  refine returnsInHanded_of_change_sized (C := Try.checked) own started (by kernel_rfl) Try.func18
    (ChangeSpec.witness6 (enc := enc) (C := Try.checked) false ⟨#[], #[.agg #[.int .i64 0, .int .i64 0, .int .i64 0, .int .i64 0, .int .i64 0, .int .i64 0, .int .i64 0, .int .i64 0], .int .i64 0, .slice none 0 0, .int .i64 0, .int .i64 0, .agg #[.int .i64 0, .int .i64 0, .int .i64 0, .int .i64 0, .int .i64 0], .int .i64 0], []⟩ 8 (by kernel_rfl) (by kernel_rfl) (by kernel_rfl) (by kernel_rfl)) ?_
  intro W base args ds gs before hval0 hW hcnd hsz0 _
  have hsz : (DataW.weightsEach Try.prog (Try.f18.params.toList ++ Rows.policyPlansSpec.plain.varTypes Try.prog) (ds ++ gs)).all (· ≤ reachBytes) = true := hsz0
  have hval : ∀ (j : Nat) t v, Try.f18.params[j]? = some t → args[j]? = some v → Value.okWide Try.prog W .any base t v := hval0
  have hW' := hW
  obtain ⟨p, q, hA0, hV, rfl, hfz, hnd⟩ := hW
  have hA : DataW.TrodAll enc Try.prog W 0 (fun _ => true) true Try.f18.params.toList args.toList ds p := hA0
  rw [Try.params18] at hA hval hsz
  obtain ⟨v0, vs0, d0, ds0, p0, q0, hargs, rfl, rfl, h0, r0⟩ := trodAll_cons hA
  obtain ⟨v1, vs1, d1, ds1, p1, q1, rfl, rfl, rfl, h1, r1⟩ := trodAll_cons r0
  obtain ⟨v2, vs2, d2, ds2, p2, q2, rfl, rfl, rfl, h2, r2⟩ := trodAll_cons r1
  obtain ⟨v3, vs3, d3, ds3, p3, q3, rfl, rfl, rfl, h3, r3⟩ := trodAll_cons r2
  obtain ⟨v4, vs4, d4, ds4, p4, q4, rfl, rfl, rfl, h4, r4⟩ := trodAll_cons r3
  obtain ⟨v5, vs5, d5, ds5, p5, q5, rfl, rfl, rfl, h5, r5⟩ := trodAll_cons r4
  obtain ⟨v6, vs6, d6, ds6, p6, q6, rfl, rfl, rfl, h6, r6⟩ := trodAll_cons r5
  obtain ⟨rfl, rfl, rfl⟩ := trodAll_nil r6
  obtain rfl : args = #[v0, v1, v2, v3, v4, v5, v6] := by cases args; simp_all
  obtain ⟨rfl, rfl⟩ := trodVars_none hV
  have k0 := h0
  obtain ⟨a0_0, a0_1, a0_2, a0_3, a0_4, a0_5, a0_6, a0_7, rfl, rfl, w0_0, w0_1, w0_2, w0_3, w0_4, w0_5, w0_6, w0_7⟩ := open_st65 (hval 0 65 v0 rfl rfl) h0
  have lt0 : ∀ x ∈ ([] : List MemPlace), x.block < W.heap.size := by simp
  obtain ⟨a1, rfl, rfl, rfl, w1⟩ := open_int Try.underlying3 (hval 1 3 v1 rfl rfl) h1
  obtain ⟨a2, len2, cap2, rfl⟩ := okWide_slice Try.underlying66 (hval 2 66 v2 rfl rfl)
  have k2 := h2
  have lt2 : ∀ x ∈ p2, x.block < W.heap.size := by obtain ⟨m, hm⟩ := k2; exact DataW.trod_lt m _ _ _ hm
  obtain ⟨l2, rfl, hr2, hm2, hc2, hw2, y2⟩ : ∃ l : List S70, len2 = l.length ∧ Kd.C k70 W a2 l.length l ∧ l.length ≤ maxLen ∧ l.length ≤ cap2 ∧ (∀ y ∈ l, (Lit.int .i64 y.f0).wf = true ∧ (Lit.int .i64 y.f1).wf = true) ∧ l.length * 16 ≤ 140737488351232 := by
    obtain ⟨fuel, hf⟩ := h2
    obtain ⟨l, e1, e2, e3, e4, e5, D, R, e6⟩ := open_sl70 (by simpa [Value.cells] using hf)
    refine ⟨l, e1, e2, e3, e4, e5, ?_⟩
    rcases e6 with ⟨e6, e7⟩ | rfl
    · have e6' : d2 = .slice D R := e6
      subst e6'
      have z := sized_slice hsz (j := 2) (t := 66) (e := 70) rfl rfl Try.underlying66
      rw [bytes70] at z
      unfold reachBytes at z
      have z1 := Nat.mul_le_mul_right 16 e7
      omega
    · simp
  obtain ⟨a3, rfl, rfl, rfl, w3⟩ := open_int Try.underlying3 (hval 3 3 v3 rfl rfl) h3
  obtain ⟨a4, rfl, rfl, rfl, w4⟩ := open_int Try.underlying3 (hval 4 3 v4 rfl rfl) h4
  have k5 := h5
  obtain ⟨a5_0, a5_1, a5_2, a5_3, a5_4, rfl, rfl, w5_0, w5_1, w5_2, w5_3, w5_4⟩ := open_st68 (hval 5 68 v5 rfl rfl) h5
  have lt5 : ∀ x ∈ ([] : List MemPlace), x.block < W.heap.size := by simp
  obtain ⟨a6, rfl, rfl, rfl, w6⟩ := open_int Try.underlying3 (hval 6 3 v6 rfl rfl) h6
  clear hA0 hval0 hsz0 hsz
  obtain ⟨k, hk⟩ := Pure.PolicyPlans a0_0 a0_1 a0_2 a0_3 a0_4 a0_5 a0_6 a0_7 a1 l2 a3 a4 a5_0 a5_1 a5_2 a5_3 a5_4 a6 w0_0 w0_1 w0_2 w0_3 w0_4 w0_5 w0_6 w0_7 w1 hm2 y2 hw2 w3 w4 w5_0 w5_1 w5_2 w5_3 w5_4 w6
  refine (lysimeterlaw26_PolicyPlans.calls k a0_0 a0_1 a0_2 a0_3 a0_4 a0_5 a0_6 a0_7 a1 _ _ l2 a3 a4 a5_0 a5_1 a5_2 a5_3 a5_4 a6 true W hr2 hc2 hk).mono ?_
  rintro e W' ⟨rfl, bel0⟩
  have bel : Below W.heap.size W W' := bel0
  exact ⟨_, rfl, _, _, _, [], _, [], hW', trodAll_mk1 (shut_bool Try.underlying4 _), (trodAll_cons_mk (Below.trod laidOut (by kernel_rfl) (of_decide_eq_true (by kernel_rfl)) k0 bel lt0) (trodAll_cons_mk (shut_int Try.underlying3 w1) (trodAll_cons_mk (Below.trod laidOut (by kernel_rfl) (of_decide_eq_true (by kernel_rfl)) k2 bel lt2) (trodAll_cons_mk (shut_int Try.underlying3 w3) (trodAll_cons_mk (shut_int Try.underlying3 w4) (trodAll_cons_mk (Below.trod laidOut (by kernel_rfl) (of_decide_eq_true (by kernel_rfl)) k5 bel lt5) (trodAll_cons_mk (shut_int Try.underlying3 w6) trodAll_mk0))))))), rfl, bel.frame _, fun h => by cases h⟩
theorem over : Rows.policyPlansRow.holds Try.pinned (OpenSpec.ofChange Rows.policyPlansSpec) :=
  OpenClaim.holds_of_wide 18 Try.f18 rfl rfl rfl rfl rfl rfl rfl ⟨rfl, rfl, rfl, rfl, rfl⟩ rfl rfl rfl rfl rfl (by kernel_rfl) Try.func18 (Over.joined (by kernel_rfl) rfl rfl)
    (of_decide_eq_true (by kernel_rfl)) (by unfold Func.isWrapper; first | (rw [if_pos (by decide +kernel)]; kernel_rfl) | (rw [if_neg (by decide +kernel)]; exact ⟨rfl, rfl⟩))
    (fun os started H enc _ => lifted os started H enc)
theorem proved : Rows.PolicyPlansSaid := over
#print axioms proved
end Go.Proofs.Ytemnfnbjapobcaa.policyPlans
namespace Go.Proofs.Ytemnfnbjapobcaa
theorem policyPlans_holds : Rows.PolicyPlansSaid := policyPlans.proved
end Go.Proofs.Ytemnfnbjapobcaa
end
