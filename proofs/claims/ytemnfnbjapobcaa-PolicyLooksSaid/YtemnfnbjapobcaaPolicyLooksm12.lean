-- Laid together by wip/shake.py out of: PurePolicyFloors PurePolicyLooks Over LawPolicyLooks
import Derived.Test.YtemnfnbjapobcaaPolicyLooksm11
import Derived.Test.YtemnfnbjapobcaaRows
import Derived.WalkKit
import Derived.ProofKit
import Derived.JoinedOf
import Derived.OpenShut
import Derived.ShutString
import Derived.ChangeOld
import Derived.Below
import Derived.SizedLaws
section
namespace Go.Proofs.Ytemnfnbjapobcaa.Pure
open Go.RowKit Go.Proofs.Ytemnfnbjapobcaa.Pl Go.Proofs.YtemnfnbjapobcaaW.PrintWords Go.Proofs.YtemnfnbjapobcaaW.PrintLast
open Go.Proofs.Ytemnfnbjapobcaa.HS Go.Proofs.Ytemnfnbjapobcaa.PS
theorem policy_alive : lysimeterlaw26_alive.f = some true := by decide +kernel
end Go.Proofs.Ytemnfnbjapobcaa.Pure
end
section
namespace Go.Proofs.Ytemnfnbjapobcaa.Pure
open Go.RowKit Go.Proofs.Ytemnfnbjapobcaa.Pl Go.Proofs.YtemnfnbjapobcaaW.PrintWords Go.Proofs.YtemnfnbjapobcaaW.PrintLast
open Go.Proofs.Ytemnfnbjapobcaa.HS Go.Proofs.Ytemnfnbjapobcaa.PS
theorem looks_all : ∀ (i : Fin 9) (j : Fin 4), lysimeterlaw26_PolicyLooks.j0 20 ((i.val : Int) + 2) (j.val : Int) true false = some true := by decide +kernel
theorem PolicyLooks : lysimeterlaw26_PolicyLooks.Pure := by
  intro a b _ _
  refine ⟨20, ?_⟩
  unfold lysimeterlaw26_PolicyLooks.f
  have out : lysimeterlaw26_PolicyLooks.j0 20 a b true true = some true := by rw [lysimeterlaw26_PolicyLooks.j0, if_pos rfl]
  rw [policy_alive, Option.bind_some, if_pos rfl]
  by_cases h1 : a < 2
  · rw [if_pos h1]; exact out
  by_cases h2 : a > 10
  · rw [if_neg h1, if_pos h2]; exact out
  by_cases h3 : b < 0
  · rw [if_neg h1, if_neg h2, if_pos h3]; exact out
  by_cases h4 : b > 3
  · rw [if_neg h1, if_neg h2, if_neg h3, decide_eq_true h4]; exact out
  rw [if_neg h1, if_neg h2, if_neg h3, decide_eq_false h4]
  have := looks_all ⟨(a - 2).toNat, by omega⟩ ⟨b.toNat, by omega⟩
  have e1 : (((a - 2).toNat : Nat) : Int) + 2 = a := by omega
  have e2 : ((b.toNat : Nat) : Int) = b := by omega
  dsimp only at this
  rw [e1, e2] at this
  exact this
end Go.Proofs.Ytemnfnbjapobcaa.Pure
end
section
namespace Go.Proofs.Ytemnfnbjapobcaa.Over
open Go.RowKit
def rest (P : Program) (f : FuncId) (fn : Func) (s : ChangeSpec) (c : OpenClaim) : Bool :=
  c.wf (OpenSpec.ofChange s) && laidOutB P && mapsRowed P &&
  fn.params.all (P.readableRec ·) && namedTie P c.named s.vars &&
  (c.stops == []) && (P.stops == []) && (c.knobs == []) && (P.stopKnobs == []) &&
  (c.inPlace == P.inPlace f) && (c.unfollowed == P.unfollowed f) && (c.recurses == P.recurses f) && (c.named == P.varsNamed f) &&
  (c.maps == (fn.params.toList ++ s.plain.varTypes P).any (P.mapsRec ·)) && (c.ifaces == (fn.params.toList ++ s.plain.varTypes P).any (P.ifacesRec ·)) && (c.mapsOut == P.mapsAmong fn.resultTypes.toList) &&
  (c.loops == (fn.params.toList ++ s.plain.varTypes P).any (P.loopsFrom ·)) && (c.wideKeys == (fn.params.toList ++ s.plain.varTypes P ++ fn.resultTypes.toList).any (P.wideKeysFrom ·)) &&
  s.vars.all (P.varReadable ·) && fn.resultTypes.all (fun t => P.readableRec t && decide (t < P.types.size)) && (c.ifacesOut == fn.resultTypes.toList.any (P.ifacesRec ·)) && (c.loopsOut == fn.resultTypes.toList.any (P.loopsFrom ·)) && (c.plainKeys == P.plainKeys) && c.shortTexts.isNone && P.stopsHeard && true && true && true && (c.kinds == (if c.domain.isEmpty then [] else fn.params.toList.map fun t => match P.underlying t with | some (.int k) => some k | _ => none)) && (c.pinned == c.pinnedBy) &&
  (c.veiled == (fn.params.toList ++ s.plain.varTypes P ++ fn.resultTypes.toList).any (P.veiledRec ·)) && c.veiledFits P fn.params.toList (fn.params.toList ++ s.plain.varTypes P ++ fn.resultTypes.toList)
theorem joined_ {P : Program} {f : FuncId} {fn : Func} {s : ChangeSpec} {c : OpenClaim} (w : (P.mayEnter && (false == P.liftsFinal) && (P.make == some .cut)) = true) (h : rest P f fn s c = true) (e1 : c.lifted = false) (e2 : c.make = .cut) : joinedFacts P f fn s c = true := by
  simp only [Bool.and_eq_true] at w
  obtain ⟨⟨w1, w2⟩, w3⟩ := w
  unfold rest at h
  unfold joinedFacts
  rw [w1, e1, w2, e2, w3]
  exact h
theorem words : (Try.pinned.checked.prog.mayEnter && (false == Try.pinned.checked.prog.liftsFinal) && (Try.pinned.checked.prog.make == some .cut)) = true := by kernel_rfl
theorem joined {f : FuncId} {fn : Func} {s : ChangeSpec} {c : OpenClaim} (h : rest Try.pinned.checked.prog f fn s c = true) (e1 : c.lifted = false) (e2 : c.make = .cut) : joinedFacts Try.pinned.checked.prog f fn s c = true := joined_ words h e1 e2
end Go.Proofs.Ytemnfnbjapobcaa.Over
end
section
namespace Go.Proofs.Ytemnfnbjapobcaa.policyLooks
open Go.ChangeShapes Go.WideShapes Go.ChangeAt Go.RowKit
open Go.ChangeMaps (open_string shut_string)
set_option linter.unusedVariables false
set_option maxRecDepth 100000
theorem own : ownKnob Try.prog.godebug = none := by kernel_rfl
set_option maxRecDepth 100000 in
theorem lifted (os : Os) (started : os.Started) (H : Type) (enc : TypeId × Value → H) :
    ReturnsInHanded {} Try.checked os 16 .any (Rows.policyLooksSpec.pre6 enc Try.prog Try.f16 Rows.policyLooksRow.domain false) (Rows.policyLooksSpec.post enc Try.prog Try.f16 false true false false) := by
  refine returnsInHanded_of_change_sized (C := Try.checked) own started (by kernel_rfl) Try.func16
    (ChangeSpec.witness6 (enc := enc) (C := Try.checked) false ⟨#[], #[.int .i64 0, .int .i64 0], []⟩ 8 (by kernel_rfl) (by kernel_rfl) (by kernel_rfl) (by kernel_rfl)) ?_
  intro W base args ds gs before hval0 hW hcnd hsz0 _
  have hsz : (DataW.weightsEach Try.prog (Try.f16.params.toList ++ Rows.policyLooksSpec.plain.varTypes Try.prog) (ds ++ gs)).all (· ≤ reachBytes) = true := hsz0
  have hval : ∀ (j : Nat) t v, Try.f16.params[j]? = some t → args[j]? = some v → Value.okWide Try.prog W .any base t v := hval0
  have hW' := hW
  obtain ⟨p, q, hA0, hV, rfl, hfz, hnd⟩ := hW
  have hA : DataW.TrodAll enc Try.prog W 0 (fun _ => true) true Try.f16.params.toList args.toList ds p := hA0
  rw [Try.params16] at hA hval hsz
  obtain ⟨v0, vs0, d0, ds0, p0, q0, hargs, rfl, rfl, h0, r0⟩ := trodAll_cons hA
  obtain ⟨v1, vs1, d1, ds1, p1, q1, rfl, rfl, rfl, h1, r1⟩ := trodAll_cons r0
  obtain ⟨rfl, rfl, rfl⟩ := trodAll_nil r1
  obtain rfl : args = #[v0, v1] := by cases args; simp_all
  obtain ⟨rfl, rfl⟩ := trodVars_none hV
  obtain ⟨a0, rfl, rfl, rfl, w0⟩ := open_int Try.underlying3 (hval 0 3 v0 rfl rfl) h0
  obtain ⟨a1, rfl, rfl, rfl, w1⟩ := open_int Try.underlying3 (hval 1 3 v1 rfl rfl) h1
  clear hA0 hval0 hsz0 hsz
  refine (Pl.lysimeterlaw26_PolicyLooks.walk Pure.PolicyLooks a0 a1 W w0 w1).mono fun e W' ⟨he, bel⟩ => ?_
  subst he
  exact ⟨_, rfl, _, _, _, [], _, [], hW', trodAll_mk1 (shut_bool Try.underlying4 _), (trodAll_cons_mk (shut_int Try.underlying3 w0) (trodAll_cons_mk (shut_int Try.underlying3 w1) trodAll_mk0)), rfl, bel.frame _, fun h => by cases h⟩
theorem over : Rows.policyLooksRow.holds Try.pinned (OpenSpec.ofChange Rows.policyLooksSpec) :=
  OpenClaim.holds_of_wide 16 Try.f16 rfl rfl rfl rfl rfl rfl rfl ⟨rfl, rfl, rfl, rfl, rfl⟩ rfl rfl rfl rfl rfl (by kernel_rfl) Try.func16 (Over.joined (by kernel_rfl) rfl rfl)
    (of_decide_eq_true (by kernel_rfl)) (by unfold Func.isWrapper; first | (rw [if_pos (by decide +kernel)]; kernel_rfl) | (rw [if_neg (by decide +kernel)]; exact ⟨rfl, rfl⟩))
    (fun os started H enc _ => lifted os started H enc)
theorem proved : Rows.PolicyLooksSaid := over
#print axioms proved
end Go.Proofs.Ytemnfnbjapobcaa.policyLooks
namespace Go.Proofs.Ytemnfnbjapobcaa
theorem policyLooks_holds : Rows.PolicyLooksSaid := policyLooks.proved
end Go.Proofs.Ytemnfnbjapobcaa
end
