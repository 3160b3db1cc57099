/-
  No cell of these rows narrows 'for every input' (looked for: loops, veiled, ifaces, maps, wideKeys, modest, calm, conditions, laid).
  DERIVED. THE GIVEN ROWS OF THIS SEAT. 17 by the template 'for every input the law returns true; each argument reads behind the call as it read before'; 0 by the template 'total and deterministic' (their statements: YtemnfnbjapobcaaTotals.lean).
  GIVEN WITH THE SEED: the statements are not yours to turn. If you find one false, say at which input.
  Laid BY PROGRAM, IN A SANDBOX (cutbox-rows.mjs): the forced cells as the released guide's own fill.sh prints them over the translation 4baa2654b9f1e34f… (all of the seat's roots in one cut). By AI agents, Wed Nov 11 2026. No macro, syntax, notation, axiom, sorry.
-/
import Derived.Test.YtemnfnbjapobcaaChecked
import GoSem.Claim
import GoSem.ClaimJoined
import GoSem.ClaimMapViews
import Derived.JoinedTies
import Derived.KernelRfl
namespace Go.Proofs.Ytemnfnbjapobcaa
/- THE CELL 'sum', in the pinned program and in every row, IS THE sha256 OF THE DUMP (.gsa) THAT YtemnfnbjapobcaaProg.lean LOADS. Nothing in Lean hashes anything: it is a label: what it is worth is what the hold of that sum in a sandbox is worth. -/
noncomputable def Try.pinned : Pinned := { name := "ytemnfnbjapobcaa", sum := "4baa2654b9f1e34f5c812bc5e7abb132eea2f57db2083be49cc3313ea92e2ee0", checked := Try.checked }
namespace Rows
def none {H : Type} : Left H := { results := [], args := [] }

/-- 'lysimeterlaw23.HoltStill': WHATEVER THE INPUT: true; the input reads as it did. -/
def holtStillSpec : ChangeSpec := { name := "holtStill", fn := fun _ => fun
  | [d1, d2, d3, d4, d5] => { results := [.lit (.bool true)], args := [d1, d2, d3, d4, d5] }
  | _ => none }
def holtStillRow : OpenClaim := { program := "ytemnfnbjapobcaa", sum := "4baa2654b9f1e34f5c812bc5e7abb132eea2f57db2083be49cc3313ea92e2ee0", func := "lysimeter/lysimeterlaw23.HoltStill", spec := "holtStill", unfollowed := true, recurses := true, named := ["math/bits.divideError", "math/bits.overflowError"], apart := false }
def HoltStillSaid : Prop := holtStillRow.holds Try.pinned (OpenSpec.ofChange holtStillSpec)

/-- ITS FALSE NEIGHBOUR: 'it returns false'. Refute it at one input. -/
def holtStillWrong : ChangeSpec := { name := "holtStill", fn := fun _ => fun
  | [d1, d2, d3, d4, d5] => { results := [.lit (.bool false)], args := [d1, d2, d3, d4, d5] }
  | _ => none }
def HoltStillWrongFalsely : Prop := holtStillRow.holds Try.pinned (OpenSpec.ofChange holtStillWrong)

/-- 'lysimeterlaw23.HoltSteps': WHATEVER THE INPUT: true; the input reads as it did. -/
def holtStepsSpec : ChangeSpec := { name := "holtSteps", fn := fun _ => fun
  | [d1, d2, d3, d4] => { results := [.lit (.bool true)], args := [d1, d2, d3, d4] }
  | _ => none }
def holtStepsRow : OpenClaim := { program := "ytemnfnbjapobcaa", sum := "4baa2654b9f1e34f5c812bc5e7abb132eea2f57db2083be49cc3313ea92e2ee0", func := "lysimeter/lysimeterlaw23.HoltSteps", spec := "holtSteps", unfollowed := true, recurses := true, named := ["math/bits.divideError", "math/bits.overflowError"], apart := false }
def HoltStepsSaid : Prop := holtStepsRow.holds Try.pinned (OpenSpec.ofChange holtStepsSpec)

/-- ITS FALSE NEIGHBOUR: 'it returns false'. Refute it at one input. -/
def holtStepsWrong : ChangeSpec := { name := "holtSteps", fn := fun _ => fun
  | [d1, d2, d3, d4] => { results := [.lit (.bool false)], args := [d1, d2, d3, d4] }
  | _ => none }
def HoltStepsWrongFalsely : Prop := holtStepsRow.holds Try.pinned (OpenSpec.ofChange holtStepsWrong)

/-- 'lysimeterlaw23.HoltSame': WHATEVER THE INPUT: true; the input reads as it did. -/
def holtSameSpec : ChangeSpec := { name := "holtSame", fn := fun _ => fun
  | [d1, d2, d3] => { results := [.lit (.bool true)], args := [d1, d2, d3] }
  | _ => none }
def holtSameRow : OpenClaim := { program := "ytemnfnbjapobcaa", sum := "4baa2654b9f1e34f5c812bc5e7abb132eea2f57db2083be49cc3313ea92e2ee0", func := "lysimeter/lysimeterlaw23.HoltSame", spec := "holtSame", unfollowed := true, recurses := true, named := ["math/bits.divideError", "math/bits.overflowError"], apart := false }
def HoltSameSaid : Prop := holtSameRow.holds Try.pinned (OpenSpec.ofChange holtSameSpec)

/-- ITS FALSE NEIGHBOUR: 'it returns false'. Refute it at one input. -/
def holtSameWrong : ChangeSpec := { name := "holtSame", fn := fun _ => fun
  | [d1, d2, d3] => { results := [.lit (.bool false)], args := [d1, d2, d3] }
  | _ => none }
def HoltSameWrongFalsely : Prop := holtSameRow.holds Try.pinned (OpenSpec.ofChange holtSameWrong)

/-- 'lysimeterlaw23.HoltCasts': WHATEVER THE INPUT: true; the input reads as it did. -/
def holtCastsSpec : ChangeSpec := { name := "holtCasts", fn := fun _ => fun
  | [d1, d2, d3, d4] => { results := [.lit (.bool true)], args := [d1, d2, d3, d4] }
  | _ => none }
def holtCastsRow : OpenClaim := { program := "ytemnfnbjapobcaa", sum := "4baa2654b9f1e34f5c812bc5e7abb132eea2f57db2083be49cc3313ea92e2ee0", func := "lysimeter/lysimeterlaw23.HoltCasts", spec := "holtCasts", unfollowed := true, recurses := true, named := ["math/bits.divideError", "math/bits.overflowError"], apart := false }
def HoltCastsSaid : Prop := holtCastsRow.holds Try.pinned (OpenSpec.ofChange holtCastsSpec)

/-- ITS FALSE NEIGHBOUR: 'it returns false'. Refute it at one input. -/
def holtCastsWrong : ChangeSpec := { name := "holtCasts", fn := fun _ => fun
  | [d1, d2, d3, d4] => { results := [.lit (.bool false)], args := [d1, d2, d3, d4] }
  | _ => none }
def HoltCastsWrongFalsely : Prop := holtCastsRow.holds Try.pinned (OpenSpec.ofChange holtCastsWrong)

/-- 'lysimeterlaw24.ChooseBest': WHATEVER THE INPUT: true; the input reads as it did. -/
def chooseBestSpec : ChangeSpec := { name := "chooseBest", fn := fun _ => fun
  | [d1, d2] => { results := [.lit (.bool true)], args := [d1, d2] }
  | _ => none }
def chooseBestRow : OpenClaim := { program := "ytemnfnbjapobcaa", sum := "4baa2654b9f1e34f5c812bc5e7abb132eea2f57db2083be49cc3313ea92e2ee0", func := "lysimeter/lysimeterlaw24.ChooseBest", spec := "chooseBest", unfollowed := true, recurses := true, named := ["math/bits.divideError", "math/bits.overflowError"], apart := false }
def ChooseBestSaid : Prop := chooseBestRow.holds Try.pinned (OpenSpec.ofChange chooseBestSpec)

/-- ITS FALSE NEIGHBOUR: 'it returns false'. Refute it at one input. -/
def chooseBestWrong : ChangeSpec := { name := "chooseBest", fn := fun _ => fun
  | [d1, d2] => { results := [.lit (.bool false)], args := [d1, d2] }
  | _ => none }
def ChooseBestWrongFalsely : Prop := chooseBestRow.holds Try.pinned (OpenSpec.ofChange chooseBestWrong)

/-- 'lysimeterlaw24.ChooseModels': WHATEVER THE INPUT: true; the input reads as it did. -/
def chooseModelsSpec : ChangeSpec := { name := "chooseModels", fn := fun _ => fun
  | [d] => { results := [.lit (.bool true)], args := [d] }
  | _ => none }
def chooseModelsRow : OpenClaim := { program := "ytemnfnbjapobcaa", sum := "4baa2654b9f1e34f5c812bc5e7abb132eea2f57db2083be49cc3313ea92e2ee0", func := "lysimeter/lysimeterlaw24.ChooseModels", spec := "chooseModels", unfollowed := true, recurses := true, named := ["math/bits.divideError", "math/bits.overflowError"], apart := false }
def ChooseModelsSaid : Prop := chooseModelsRow.holds Try.pinned (OpenSpec.ofChange chooseModelsSpec)

/-- ITS FALSE NEIGHBOUR: 'it returns false'. Refute it at one input. -/
def chooseModelsWrong : ChangeSpec := { name := "chooseModels", fn := fun _ => fun
  | [d] => { results := [.lit (.bool false)], args := [d] }
  | _ => none }
def ChooseModelsWrongFalsely : Prop := chooseModelsRow.holds Try.pinned (OpenSpec.ofChange chooseModelsWrong)

/-- 'lysimeterlaw24.ChooseCasts': WHATEVER THE INPUT: true; the input reads as it did. -/
def chooseCastsSpec : ChangeSpec := { name := "chooseCasts", fn := fun _ => fun
  | [d1, d2, d3] => { results := [.lit (.bool true)], args := [d1, d2, d3] }
  | _ => none }
def chooseCastsRow : OpenClaim := { program := "ytemnfnbjapobcaa", sum := "4baa2654b9f1e34f5c812bc5e7abb132eea2f57db2083be49cc3313ea92e2ee0", func := "lysimeter/lysimeterlaw24.ChooseCasts", spec := "chooseCasts", unfollowed := true, recurses := true, named := ["math/bits.divideError", "math/bits.overflowError"], apart := false }
def ChooseCastsSaid : Prop := chooseCastsRow.holds Try.pinned (OpenSpec.ofChange chooseCastsSpec)

/-- ITS FALSE NEIGHBOUR: 'it returns false'. Refute it at one input. -/
def chooseCastsWrong : ChangeSpec := { name := "chooseCasts", fn := fun _ => fun
  | [d1, d2, d3] => { results := [.lit (.bool false)], args := [d1, d2, d3] }
  | _ => none }
def ChooseCastsWrongFalsely : Prop := chooseCastsRow.holds Try.pinned (OpenSpec.ofChange chooseCastsWrong)

/-- 'lysimeterlaw24.ChoosePeak': WHATEVER THE INPUT: true; the input reads as it did. -/
def choosePeakSpec : ChangeSpec := { name := "choosePeak", fn := fun _ => fun
  | [d1, d2, d3] => { results := [.lit (.bool true)], args := [d1, d2, d3] }
  | _ => none }
def choosePeakRow : OpenClaim := { program := "ytemnfnbjapobcaa", sum := "4baa2654b9f1e34f5c812bc5e7abb132eea2f57db2083be49cc3313ea92e2ee0", func := "lysimeter/lysimeterlaw24.ChoosePeak", spec := "choosePeak", unfollowed := true, recurses := true, named := ["math/bits.divideError", "math/bits.overflowError"], apart := false }
def ChoosePeakSaid : Prop := choosePeakRow.holds Try.pinned (OpenSpec.ofChange choosePeakSpec)

/-- ITS FALSE NEIGHBOUR: 'it returns false'. Refute it at one input. -/
def choosePeakWrong : ChangeSpec := { name := "choosePeak", fn := fun _ => fun
  | [d1, d2, d3] => { results := [.lit (.bool false)], args := [d1, d2, d3] }
  | _ => none }
def ChoosePeakWrongFalsely : Prop := choosePeakRow.holds Try.pinned (OpenSpec.ofChange choosePeakWrong)

/-- 'lysimeterlaw26.PolicyDecides': WHATEVER THE INPUT: true; the input reads as it did. -/
def policyDecidesSpec : ChangeSpec := { name := "policyDecides", fn := fun _ => fun
  | [d1, d2, d3, d4, d5, d6] => { results := [.lit (.bool true)], args := [d1, d2, d3, d4, d5, d6] }
  | _ => none }
def policyDecidesRow : OpenClaim := { program := "ytemnfnbjapobcaa", sum := "4baa2654b9f1e34f5c812bc5e7abb132eea2f57db2083be49cc3313ea92e2ee0", func := "lysimeter/lysimeterlaw26.PolicyDecides", spec := "policyDecides", unfollowed := true, recurses := true, named := ["math/bits.divideError", "math/bits.overflowError"], apart := false }
def PolicyDecidesSaid : Prop := policyDecidesRow.holds Try.pinned (OpenSpec.ofChange policyDecidesSpec)

/-- ITS FALSE NEIGHBOUR: 'it returns false'. Refute it at one input. -/
def policyDecidesWrong : ChangeSpec := { name := "policyDecides", fn := fun _ => fun
  | [d1, d2, d3, d4, d5, d6] => { results := [.lit (.bool false)], args := [d1, d2, d3, d4, d5, d6] }
  | _ => none }
def PolicyDecidesWrongFalsely : Prop := policyDecidesRow.holds Try.pinned (OpenSpec.ofChange policyDecidesWrong)

/-- 'lysimeterlaw26.PolicyFloors': WHATEVER THE INPUT: true; the input reads as it did. -/
def policyFloorsSpec : ChangeSpec := { name := "policyFloors", fn := fun _ => fun
  | [d1, d2] => { results := [.lit (.bool true)], args := [d1, d2] }
  | _ => none }
def policyFloorsRow : OpenClaim := { program := "ytemnfnbjapobcaa", sum := "4baa2654b9f1e34f5c812bc5e7abb132eea2f57db2083be49cc3313ea92e2ee0", func := "lysimeter/lysimeterlaw26.PolicyFloors", spec := "policyFloors", unfollowed := true, recurses := true, named := ["math/bits.divideError", "math/bits.overflowError"], apart := false }
def PolicyFloorsSaid : Prop := policyFloorsRow.holds Try.pinned (OpenSpec.ofChange policyFloorsSpec)

/-- ITS FALSE NEIGHBOUR: 'it returns false'. Refute it at one input. -/
def policyFloorsWrong : ChangeSpec := { name := "policyFloors", fn := fun _ => fun
  | [d1, d2] => { results := [.lit (.bool false)], args := [d1, d2] }
  | _ => none }
def PolicyFloorsWrongFalsely : Prop := policyFloorsRow.holds Try.pinned (OpenSpec.ofChange policyFloorsWrong)

/-- 'lysimeterlaw26.PolicyBounds': WHATEVER THE INPUT: true; the input reads as it did. -/
def policyBoundsSpec : ChangeSpec := { name := "policyBounds", fn := fun _ => fun
  | [d1, d2, d3, d4, d5, d6] => { results := [.lit (.bool true)], args := [d1, d2, d3, d4, d5, d6] }
  | _ => none }
def policyBoundsRow : OpenClaim := { program := "ytemnfnbjapobcaa", sum := "4baa2654b9f1e34f5c812bc5e7abb132eea2f57db2083be49cc3313ea92e2ee0", func := "lysimeter/lysimeterlaw26.PolicyBounds", spec := "policyBounds", unfollowed := true, recurses := true, named := ["math/bits.divideError", "math/bits.overflowError"], apart := false }
def PolicyBoundsSaid : Prop := policyBoundsRow.holds Try.pinned (OpenSpec.ofChange policyBoundsSpec)

/-- ITS FALSE NEIGHBOUR: 'it returns false'. Refute it at one input. -/
def policyBoundsWrong : ChangeSpec := { name := "policyBounds", fn := fun _ => fun
  | [d1, d2, d3, d4, d5, d6] => { results := [.lit (.bool false)], args := [d1, d2, d3, d4, d5, d6] }
  | _ => none }
def PolicyBoundsWrongFalsely : Prop := policyBoundsRow.holds Try.pinned (OpenSpec.ofChange policyBoundsWrong)

/-- 'lysimeterlaw26.PolicyStale': WHATEVER THE INPUT: true; the input reads as it did. -/
def policyStaleSpec : ChangeSpec := { name := "policyStale", fn := fun _ => fun
  | [d1, d2, d3, d4] => { results := [.lit (.bool true)], args := [d1, d2, d3, d4] }
  | _ => none }
def policyStaleRow : OpenClaim := { program := "ytemnfnbjapobcaa", sum := "4baa2654b9f1e34f5c812bc5e7abb132eea2f57db2083be49cc3313ea92e2ee0", func := "lysimeter/lysimeterlaw26.PolicyStale", spec := "policyStale", unfollowed := true, recurses := true, named := ["math/bits.divideError", "math/bits.overflowError"], apart := false }
def PolicyStaleSaid : Prop := policyStaleRow.holds Try.pinned (OpenSpec.ofChange policyStaleSpec)

/-- ITS FALSE NEIGHBOUR: 'it returns false'. Refute it at one input. -/
def policyStaleWrong : ChangeSpec := { name := "policyStale", fn := fun _ => fun
  | [d1, d2, d3, d4] => { results := [.lit (.bool false)], args := [d1, d2, d3, d4] }
  | _ => none }
def PolicyStaleWrongFalsely : Prop := policyStaleRow.holds Try.pinned (OpenSpec.ofChange policyStaleWrong)

/-- 'lysimeterlaw26.PolicyRests': WHATEVER THE INPUT: true; the input reads as it did. -/
def policyRestsSpec : ChangeSpec := { name := "policyRests", fn := fun _ => fun
  | [d1, d2, d3, d4] => { results := [.lit (.bool true)], args := [d1, d2, d3, d4] }
  | _ => none }
def policyRestsRow : OpenClaim := { program := "ytemnfnbjapobcaa", sum := "4baa2654b9f1e34f5c812bc5e7abb132eea2f57db2083be49cc3313ea92e2ee0", func := "lysimeter/lysimeterlaw26.PolicyRests", spec := "policyRests", unfollowed := true, recurses := true, named := ["math/bits.divideError", "math/bits.overflowError"], apart := false }
def PolicyRestsSaid : Prop := policyRestsRow.holds Try.pinned (OpenSpec.ofChange policyRestsSpec)

/-- ITS FALSE NEIGHBOUR: 'it returns false'. Refute it at one input. -/
def policyRestsWrong : ChangeSpec := { name := "policyRests", fn := fun _ => fun
  | [d1, d2, d3, d4] => { results := [.lit (.bool false)], args := [d1, d2, d3, d4] }
  | _ => none }
def PolicyRestsWrongFalsely : Prop := policyRestsRow.holds Try.pinned (OpenSpec.ofChange policyRestsWrong)

/-- 'lysimeterlaw26.PolicyLooks': WHATEVER THE INPUT: true; the input reads as it did. -/
def policyLooksSpec : ChangeSpec := { name := "policyLooks", fn := fun _ => fun
  | [d1, d2] => { results := [.lit (.bool true)], args := [d1, d2] }
  | _ => none }
def policyLooksRow : OpenClaim := { program := "ytemnfnbjapobcaa", sum := "4baa2654b9f1e34f5c812bc5e7abb132eea2f57db2083be49cc3313ea92e2ee0", func := "lysimeter/lysimeterlaw26.PolicyLooks", spec := "policyLooks", unfollowed := true, recurses := true, named := ["math/bits.divideError", "math/bits.overflowError"], apart := false }
def PolicyLooksSaid : Prop := policyLooksRow.holds Try.pinned (OpenSpec.ofChange policyLooksSpec)

/-- ITS FALSE NEIGHBOUR: 'it returns false'. Refute it at one input. -/
def policyLooksWrong : ChangeSpec := { name := "policyLooks", fn := fun _ => fun
  | [d1, d2] => { results := [.lit (.bool false)], args := [d1, d2] }
  | _ => none }
def PolicyLooksWrongFalsely : Prop := policyLooksRow.holds Try.pinned (OpenSpec.ofChange policyLooksWrong)

/-- 'lysimeterlaw26.PolicyRises': WHATEVER THE INPUT: true; the input reads as it did. -/
def policyRisesSpec : ChangeSpec := { name := "policyRises", fn := fun _ => fun
  | [d1, d2, d3, d4] => { results := [.lit (.bool true)], args := [d1, d2, d3, d4] }
  | _ => none }
def policyRisesRow : OpenClaim := { program := "ytemnfnbjapobcaa", sum := "4baa2654b9f1e34f5c812bc5e7abb132eea2f57db2083be49cc3313ea92e2ee0", func := "lysimeter/lysimeterlaw26.PolicyRises", spec := "policyRises", unfollowed := true, recurses := true, named := ["math/bits.divideError", "math/bits.overflowError"], apart := false }
def PolicyRisesSaid : Prop := policyRisesRow.holds Try.pinned (OpenSpec.ofChange policyRisesSpec)

/-- ITS FALSE NEIGHBOUR: 'it returns false'. Refute it at one input. -/
def policyRisesWrong : ChangeSpec := { name := "policyRises", fn := fun _ => fun
  | [d1, d2, d3, d4] => { results := [.lit (.bool false)], args := [d1, d2, d3, d4] }
  | _ => none }
def PolicyRisesWrongFalsely : Prop := policyRisesRow.holds Try.pinned (OpenSpec.ofChange policyRisesWrong)

/-- 'lysimeterlaw26.PolicyPlans': WHATEVER THE INPUT: true; the input reads as it did. -/
def policyPlansSpec : ChangeSpec := { name := "policyPlans", fn := fun _ => fun
  | [d1, d2, d3, d4, d5, d6, d7] => { results := [.lit (.bool true)], args := [d1, d2, d3, d4, d5, d6, d7] }
  | _ => none }
def policyPlansRow : OpenClaim := { program := "ytemnfnbjapobcaa", sum := "4baa2654b9f1e34f5c812bc5e7abb132eea2f57db2083be49cc3313ea92e2ee0", func := "lysimeter/lysimeterlaw26.PolicyPlans", spec := "policyPlans", unfollowed := true, recurses := true, named := ["math/bits.divideError", "math/bits.overflowError"], apart := false }
def PolicyPlansSaid : Prop := policyPlansRow.holds Try.pinned (OpenSpec.ofChange policyPlansSpec)

/-- ITS FALSE NEIGHBOUR: 'it returns false'. Refute it at one input. -/
def policyPlansWrong : ChangeSpec := { name := "policyPlans", fn := fun _ => fun
  | [d1, d2, d3, d4, d5, d6, d7] => { results := [.lit (.bool false)], args := [d1, d2, d3, d4, d5, d6, d7] }
  | _ => none }
def PolicyPlansWrongFalsely : Prop := policyPlansRow.holds Try.pinned (OpenSpec.ofChange policyPlansWrong)

/-- 'lysimeterlaw26.PolicyPacks': WHATEVER THE INPUT: true; the input reads as it did. -/
def policyPacksSpec : ChangeSpec := { name := "policyPacks", fn := fun _ => fun
  | [d1, d2] => { results := [.lit (.bool true)], args := [d1, d2] }
  | _ => none }
def policyPacksRow : OpenClaim := { program := "ytemnfnbjapobcaa", sum := "4baa2654b9f1e34f5c812bc5e7abb132eea2f57db2083be49cc3313ea92e2ee0", func := "lysimeter/lysimeterlaw26.PolicyPacks", spec := "policyPacks", unfollowed := true, recurses := true, named := ["math/bits.divideError", "math/bits.overflowError"], apart := false }
def PolicyPacksSaid : Prop := policyPacksRow.holds Try.pinned (OpenSpec.ofChange policyPacksSpec)

/-- ITS FALSE NEIGHBOUR: 'it returns false'. Refute it at one input. -/
def policyPacksWrong : ChangeSpec := { name := "policyPacks", fn := fun _ => fun
  | [d1, d2] => { results := [.lit (.bool false)], args := [d1, d2] }
  | _ => none }
def PolicyPacksWrongFalsely : Prop := policyPacksRow.holds Try.pinned (OpenSpec.ofChange policyPacksWrong)

/- THE SECOND FORM. 'bulk': how many values and letters a reading holds, each counted each time it is reached (what is shared counts as often as it is met; a slice's spare places count too). A statement '..UptoSaid' is the law's where the arguments, and the package variables that the reading takes, are together of bulk at most 1048576: NARROWER than '..Said'. Prove '..Said' where nothing that the law and all that it calls make is longer than what came in: it says more and counts as full. Else prove '..UptoSaid'. A law counts once. -/
mutual
def uptoBulk {H : Type} : DataW H → Nat
  | .lit (.string bytes) => bytes.length + 1
  | .lit _ => 1
  | .nil => 1
  | .ptr d => uptoBulk d + 1
  | .slice elems spare => uptoBulkAll elems + uptoBulkAll spare + 1
  | .agg parts => uptoBulkAll parts + 1
  | .iface _ d => uptoBulk d + 1
  | .map entries => uptoBulkEntries entries + 1
  | .held _ => 1
def uptoBulkAll {H : Type} : List (DataW H) → Nat
  | [] => 0
  | d :: r => uptoBulk d + uptoBulkAll r
def uptoBulkEntries {H : Type} : List (Lit × DataW H) → Nat
  | [] => 0
  | x :: r => uptoBulkEntry x + uptoBulkEntries r
def uptoBulkEntry {H : Type} : Lit × DataW H → Nat
  | (.string bytes, d) => bytes.length + uptoBulk d + 1
  | (_, d) => uptoBulk d + 1
 end
def uptoSmall : (H : Type) → List (DataW H) → Bool := fun _ ds => decide (uptoBulkAll ds ≤ 1048576)
def OpenSpec.upto (s : _root_.Go.ChangeSpec) : _root_.Go.OpenSpec := { _root_.Go.OpenSpec.ofChange s with cond := some uptoSmall }

/-- 'lysimeterlaw23.HoltStill', WHERE WHAT IT READS IS OF BULK AT MOST 1048576: true; the input reads as it did. -/
def holtStillUptoRow : OpenClaim := { program := "ytemnfnbjapobcaa", sum := "4baa2654b9f1e34f5c812bc5e7abb132eea2f57db2083be49cc3313ea92e2ee0", func := "lysimeter/lysimeterlaw23.HoltStill", spec := "holtStill", unfollowed := true, recurses := true, named := ["math/bits.divideError", "math/bits.overflowError"], apart := false, narrowed := true }
def HoltStillUptoSaid : Prop := holtStillUptoRow.holds Try.pinned (OpenSpec.upto holtStillSpec)

/-- 'lysimeterlaw23.HoltSteps', WHERE WHAT IT READS IS OF BULK AT MOST 1048576: true; the input reads as it did. -/
def holtStepsUptoRow : OpenClaim := { program := "ytemnfnbjapobcaa", sum := "4baa2654b9f1e34f5c812bc5e7abb132eea2f57db2083be49cc3313ea92e2ee0", func := "lysimeter/lysimeterlaw23.HoltSteps", spec := "holtSteps", unfollowed := true, recurses := true, named := ["math/bits.divideError", "math/bits.overflowError"], apart := false, narrowed := true }
def HoltStepsUptoSaid : Prop := holtStepsUptoRow.holds Try.pinned (OpenSpec.upto holtStepsSpec)

/-- 'lysimeterlaw23.HoltSame', WHERE WHAT IT READS IS OF BULK AT MOST 1048576: true; the input reads as it did. -/
def holtSameUptoRow : OpenClaim := { program := "ytemnfnbjapobcaa", sum := "4baa2654b9f1e34f5c812bc5e7abb132eea2f57db2083be49cc3313ea92e2ee0", func := "lysimeter/lysimeterlaw23.HoltSame", spec := "holtSame", unfollowed := true, recurses := true, named := ["math/bits.divideError", "math/bits.overflowError"], apart := false, narrowed := true }
def HoltSameUptoSaid : Prop := holtSameUptoRow.holds Try.pinned (OpenSpec.upto holtSameSpec)

/-- 'lysimeterlaw23.HoltCasts', WHERE WHAT IT READS IS OF BULK AT MOST 1048576: true; the input reads as it did. -/
def holtCastsUptoRow : OpenClaim := { program := "ytemnfnbjapobcaa", sum := "4baa2654b9f1e34f5c812bc5e7abb132eea2f57db2083be49cc3313ea92e2ee0", func := "lysimeter/lysimeterlaw23.HoltCasts", spec := "holtCasts", unfollowed := true, recurses := true, named := ["math/bits.divideError", "math/bits.overflowError"], apart := false, narrowed := true }
def HoltCastsUptoSaid : Prop := holtCastsUptoRow.holds Try.pinned (OpenSpec.upto holtCastsSpec)

/-- 'lysimeterlaw24.ChooseBest', WHERE WHAT IT READS IS OF BULK AT MOST 1048576: true; the input reads as it did. -/
def chooseBestUptoRow : OpenClaim := { program := "ytemnfnbjapobcaa", sum := "4baa2654b9f1e34f5c812bc5e7abb132eea2f57db2083be49cc3313ea92e2ee0", func := "lysimeter/lysimeterlaw24.ChooseBest", spec := "chooseBest", unfollowed := true, recurses := true, named := ["math/bits.divideError", "math/bits.overflowError"], apart := false, narrowed := true }
def ChooseBestUptoSaid : Prop := chooseBestUptoRow.holds Try.pinned (OpenSpec.upto chooseBestSpec)

/-- 'lysimeterlaw24.ChooseModels', WHERE WHAT IT READS IS OF BULK AT MOST 1048576: true; the input reads as it did. -/
def chooseModelsUptoRow : OpenClaim := { program := "ytemnfnbjapobcaa", sum := "4baa2654b9f1e34f5c812bc5e7abb132eea2f57db2083be49cc3313ea92e2ee0", func := "lysimeter/lysimeterlaw24.ChooseModels", spec := "chooseModels", unfollowed := true, recurses := true, named := ["math/bits.divideError", "math/bits.overflowError"], apart := false, narrowed := true }
def ChooseModelsUptoSaid : Prop := chooseModelsUptoRow.holds Try.pinned (OpenSpec.upto chooseModelsSpec)

/-- 'lysimeterlaw24.ChooseCasts', WHERE WHAT IT READS IS OF BULK AT MOST 1048576: true; the input reads as it did. -/
def chooseCastsUptoRow : OpenClaim := { program := "ytemnfnbjapobcaa", sum := "4baa2654b9f1e34f5c812bc5e7abb132eea2f57db2083be49cc3313ea92e2ee0", func := "lysimeter/lysimeterlaw24.ChooseCasts", spec := "chooseCasts", unfollowed := true, recurses := true, named := ["math/bits.divideError", "math/bits.overflowError"], apart := false, narrowed := true }
def ChooseCastsUptoSaid : Prop := chooseCastsUptoRow.holds Try.pinned (OpenSpec.upto chooseCastsSpec)

/-- 'lysimeterlaw24.ChoosePeak', WHERE WHAT IT READS IS OF BULK AT MOST 1048576: true; the input reads as it did. -/
def choosePeakUptoRow : OpenClaim := { program := "ytemnfnbjapobcaa", sum := "4baa2654b9f1e34f5c812bc5e7abb132eea2f57db2083be49cc3313ea92e2ee0", func := "lysimeter/lysimeterlaw24.ChoosePeak", spec := "choosePeak", unfollowed := true, recurses := true, named := ["math/bits.divideError", "math/bits.overflowError"], apart := false, narrowed := true }
def ChoosePeakUptoSaid : Prop := choosePeakUptoRow.holds Try.pinned (OpenSpec.upto choosePeakSpec)

/-- 'lysimeterlaw26.PolicyDecides', WHERE WHAT IT READS IS OF BULK AT MOST 1048576: true; the input reads as it did. -/
def policyDecidesUptoRow : OpenClaim := { program := "ytemnfnbjapobcaa", sum := "4baa2654b9f1e34f5c812bc5e7abb132eea2f57db2083be49cc3313ea92e2ee0", func := "lysimeter/lysimeterlaw26.PolicyDecides", spec := "policyDecides", unfollowed := true, recurses := true, named := ["math/bits.divideError", "math/bits.overflowError"], apart := false, narrowed := true }
def PolicyDecidesUptoSaid : Prop := policyDecidesUptoRow.holds Try.pinned (OpenSpec.upto policyDecidesSpec)

/-- 'lysimeterlaw26.PolicyFloors', WHERE WHAT IT READS IS OF BULK AT MOST 1048576: true; the input reads as it did. -/
def policyFloorsUptoRow : OpenClaim := { program := "ytemnfnbjapobcaa", sum := "4baa2654b9f1e34f5c812bc5e7abb132eea2f57db2083be49cc3313ea92e2ee0", func := "lysimeter/lysimeterlaw26.PolicyFloors", spec := "policyFloors", unfollowed := true, recurses := true, named := ["math/bits.divideError", "math/bits.overflowError"], apart := false, narrowed := true }
def PolicyFloorsUptoSaid : Prop := policyFloorsUptoRow.holds Try.pinned (OpenSpec.upto policyFloorsSpec)

/-- 'lysimeterlaw26.PolicyBounds', WHERE WHAT IT READS IS OF BULK AT MOST 1048576: true; the input reads as it did. -/
def policyBoundsUptoRow : OpenClaim := { program := "ytemnfnbjapobcaa", sum := "4baa2654b9f1e34f5c812bc5e7abb132eea2f57db2083be49cc3313ea92e2ee0", func := "lysimeter/lysimeterlaw26.PolicyBounds", spec := "policyBounds", unfollowed := true, recurses := true, named := ["math/bits.divideError", "math/bits.overflowError"], apart := false, narrowed := true }
def PolicyBoundsUptoSaid : Prop := policyBoundsUptoRow.holds Try.pinned (OpenSpec.upto policyBoundsSpec)

/-- 'lysimeterlaw26.PolicyStale', WHERE WHAT IT READS IS OF BULK AT MOST 1048576: true; the input reads as it did. -/
def policyStaleUptoRow : OpenClaim := { program := "ytemnfnbjapobcaa", sum := "4baa2654b9f1e34f5c812bc5e7abb132eea2f57db2083be49cc3313ea92e2ee0", func := "lysimeter/lysimeterlaw26.PolicyStale", spec := "policyStale", unfollowed := true, recurses := true, named := ["math/bits.divideError", "math/bits.overflowError"], apart := false, narrowed := true }
def PolicyStaleUptoSaid : Prop := policyStaleUptoRow.holds Try.pinned (OpenSpec.upto policyStaleSpec)

/-- 'lysimeterlaw26.PolicyRests', WHERE WHAT IT READS IS OF BULK AT MOST 1048576: true; the input reads as it did. -/
def policyRestsUptoRow : OpenClaim := { program := "ytemnfnbjapobcaa", sum := "4baa2654b9f1e34f5c812bc5e7abb132eea2f57db2083be49cc3313ea92e2ee0", func := "lysimeter/lysimeterlaw26.PolicyRests", spec := "policyRests", unfollowed := true, recurses := true, named := ["math/bits.divideError", "math/bits.overflowError"], apart := false, narrowed := true }
def PolicyRestsUptoSaid : Prop := policyRestsUptoRow.holds Try.pinned (OpenSpec.upto policyRestsSpec)

/-- 'lysimeterlaw26.PolicyLooks', WHERE WHAT IT READS IS OF BULK AT MOST 1048576: true; the input reads as it did. -/
def policyLooksUptoRow : OpenClaim := { program := "ytemnfnbjapobcaa", sum := "4baa2654b9f1e34f5c812bc5e7abb132eea2f57db2083be49cc3313ea92e2ee0", func := "lysimeter/lysimeterlaw26.PolicyLooks", spec := "policyLooks", unfollowed := true, recurses := true, named := ["math/bits.divideError", "math/bits.overflowError"], apart := false, narrowed := true }
def PolicyLooksUptoSaid : Prop := policyLooksUptoRow.holds Try.pinned (OpenSpec.upto policyLooksSpec)

/-- 'lysimeterlaw26.PolicyRises', WHERE WHAT IT READS IS OF BULK AT MOST 1048576: true; the input reads as it did. -/
def policyRisesUptoRow : OpenClaim := { program := "ytemnfnbjapobcaa", sum := "4baa2654b9f1e34f5c812bc5e7abb132eea2f57db2083be49cc3313ea92e2ee0", func := "lysimeter/lysimeterlaw26.PolicyRises", spec := "policyRises", unfollowed := true, recurses := true, named := ["math/bits.divideError", "math/bits.overflowError"], apart := false, narrowed := true }
def PolicyRisesUptoSaid : Prop := policyRisesUptoRow.holds Try.pinned (OpenSpec.upto policyRisesSpec)

/-- 'lysimeterlaw26.PolicyPlans', WHERE WHAT IT READS IS OF BULK AT MOST 1048576: true; the input reads as it did. -/
def policyPlansUptoRow : OpenClaim := { program := "ytemnfnbjapobcaa", sum := "4baa2654b9f1e34f5c812bc5e7abb132eea2f57db2083be49cc3313ea92e2ee0", func := "lysimeter/lysimeterlaw26.PolicyPlans", spec := "policyPlans", unfollowed := true, recurses := true, named := ["math/bits.divideError", "math/bits.overflowError"], apart := false, narrowed := true }
def PolicyPlansUptoSaid : Prop := policyPlansUptoRow.holds Try.pinned (OpenSpec.upto policyPlansSpec)

/-- 'lysimeterlaw26.PolicyPacks', WHERE WHAT IT READS IS OF BULK AT MOST 1048576: true; the input reads as it did. -/
def policyPacksUptoRow : OpenClaim := { program := "ytemnfnbjapobcaa", sum := "4baa2654b9f1e34f5c812bc5e7abb132eea2f57db2083be49cc3313ea92e2ee0", func := "lysimeter/lysimeterlaw26.PolicyPacks", spec := "policyPacks", unfollowed := true, recurses := true, named := ["math/bits.divideError", "math/bits.overflowError"], apart := false, narrowed := true }
def PolicyPacksUptoSaid : Prop := policyPacksUptoRow.holds Try.pinned (OpenSpec.upto policyPacksSpec)

end Rows
end Go.Proofs.Ytemnfnbjapobcaa
