/-
  No cell of these rows narrows 'for every input' (looked for: loops, veiled, ifaces, maps, wideKeys, modest, calm, conditions, laid).
  DERIVED. THE GIVEN ROWS OF THIS SEAT. 9 by the template 'for every input the law returns true; each argument reads behind the call as it read before'; 0 by the template 'total and deterministic' (their statements: YtdglifoakdkheaaTotals.lean).
  GIVEN WITH THE SEED: the statements are not yours to turn. If you find one false, say at which input.
  Laid BY PROGRAM, IN A SANDBOX (cutbox-rows.mjs): the forced cells as the released guide's own fill.sh prints them over the translation e50138769f17118f… (all of the seat's roots in one cut). By AI agents, Wed Nov 11 2026. No macro, syntax, notation, axiom, sorry.
-/
import Derived.Test.YtdglifoakdkheaaChecked
import GoSem.Claim
import GoSem.ClaimJoined
import GoSem.ClaimMapViews
import Derived.JoinedTies
import Derived.KernelRfl
namespace Go.Proofs.Ytdglifoakdkheaa
/- THE CELL 'sum', in the pinned program and in every row, IS THE sha256 OF THE DUMP (.gsa) THAT YtdglifoakdkheaaProg.lean LOADS. Nothing in Lean hashes anything: it is a label: what it is worth is what the hold of that sum in a sandbox is worth. -/
noncomputable def Try.pinned : Pinned := { name := "ytdglifoakdkheaa", sum := "e50138769f17118f6de2b647f2176a455a55fa40ab2173effa94abcb5cd2b3b1", checked := Try.checked }
namespace Rows
def none {H : Type} : Left H := { results := [], args := [] }

/-- 'lysimeterlaw22.SeasonCasts': WHATEVER THE INPUT: true; the input reads as it did. -/
def seasonCastsSpec : ChangeSpec := { name := "seasonCasts", fn := fun _ => fun
  | [d1, d2, d3, d4] => { results := [.lit (.bool true)], args := [d1, d2, d3, d4] }
  | _ => none }
def seasonCastsRow : OpenClaim := { program := "ytdglifoakdkheaa", sum := "e50138769f17118f6de2b647f2176a455a55fa40ab2173effa94abcb5cd2b3b1", func := "lysimeter/lysimeterlaw22.SeasonCasts", spec := "seasonCasts", unfollowed := true, recurses := true, apart := false }
def SeasonCastsSaid : Prop := seasonCastsRow.holds Try.pinned (OpenSpec.ofChange seasonCastsSpec)

/-- ITS FALSE NEIGHBOUR: 'it returns false'. Refute it at one input. -/
def seasonCastsWrong : ChangeSpec := { name := "seasonCasts", fn := fun _ => fun
  | [d1, d2, d3, d4] => { results := [.lit (.bool false)], args := [d1, d2, d3, d4] }
  | _ => none }
def SeasonCastsWrongFalsely : Prop := seasonCastsRow.holds Try.pinned (OpenSpec.ofChange seasonCastsWrong)

/-- 'lysimeterlaw22.SeasonRepeats': WHATEVER THE INPUT: true; the input reads as it did. -/
def seasonRepeatsSpec : ChangeSpec := { name := "seasonRepeats", fn := fun _ => fun
  | [d1, d2, d3] => { results := [.lit (.bool true)], args := [d1, d2, d3] }
  | _ => none }
def seasonRepeatsRow : OpenClaim := { program := "ytdglifoakdkheaa", sum := "e50138769f17118f6de2b647f2176a455a55fa40ab2173effa94abcb5cd2b3b1", func := "lysimeter/lysimeterlaw22.SeasonRepeats", spec := "seasonRepeats", unfollowed := true, recurses := true, apart := false }
def SeasonRepeatsSaid : Prop := seasonRepeatsRow.holds Try.pinned (OpenSpec.ofChange seasonRepeatsSpec)

/-- ITS FALSE NEIGHBOUR: 'it returns false'. Refute it at one input. -/
def seasonRepeatsWrong : ChangeSpec := { name := "seasonRepeats", fn := fun _ => fun
  | [d1, d2, d3] => { results := [.lit (.bool false)], args := [d1, d2, d3] }
  | _ => none }
def SeasonRepeatsWrongFalsely : Prop := seasonRepeatsRow.holds Try.pinned (OpenSpec.ofChange seasonRepeatsWrong)

/-- 'lysimeterlaw21.ResamplePoints': WHATEVER THE INPUT: true; the input reads as it did. -/
def resamplePointsSpec : ChangeSpec := { name := "resamplePoints", fn := fun _ => fun
  | [d1, d2, d3, d4] => { results := [.lit (.bool true)], args := [d1, d2, d3, d4] }
  | _ => none }
def resamplePointsRow : OpenClaim := { program := "ytdglifoakdkheaa", sum := "e50138769f17118f6de2b647f2176a455a55fa40ab2173effa94abcb5cd2b3b1", func := "lysimeter/lysimeterlaw21.ResamplePoints", spec := "resamplePoints", apart := false }
def ResamplePointsSaid : Prop := resamplePointsRow.holds Try.pinned (OpenSpec.ofChange resamplePointsSpec)

/-- ITS FALSE NEIGHBOUR: 'it returns false'. Refute it at one input. -/
def resamplePointsWrong : ChangeSpec := { name := "resamplePoints", fn := fun _ => fun
  | [d1, d2, d3, d4] => { results := [.lit (.bool false)], args := [d1, d2, d3, d4] }
  | _ => none }
def ResamplePointsWrongFalsely : Prop := resamplePointsRow.holds Try.pinned (OpenSpec.ofChange resamplePointsWrong)

/-- 'lysimeterlaw21.ResampleWhole': WHATEVER THE INPUT: true; the input reads as it did. -/
def resampleWholeSpec : ChangeSpec := { name := "resampleWhole", fn := fun _ => fun
  | [d1, d2, d3] => { results := [.lit (.bool true)], args := [d1, d2, d3] }
  | _ => none }
def resampleWholeRow : OpenClaim := { program := "ytdglifoakdkheaa", sum := "e50138769f17118f6de2b647f2176a455a55fa40ab2173effa94abcb5cd2b3b1", func := "lysimeter/lysimeterlaw21.ResampleWhole", spec := "resampleWhole", apart := false }
def ResampleWholeSaid : Prop := resampleWholeRow.holds Try.pinned (OpenSpec.ofChange resampleWholeSpec)

/-- ITS FALSE NEIGHBOUR: 'it returns false'. Refute it at one input. -/
def resampleWholeWrong : ChangeSpec := { name := "resampleWhole", fn := fun _ => fun
  | [d1, d2, d3] => { results := [.lit (.bool false)], args := [d1, d2, d3] }
  | _ => none }
def ResampleWholeWrongFalsely : Prop := resampleWholeRow.holds Try.pinned (OpenSpec.ofChange resampleWholeWrong)

/-- 'lysimeterlaw21.ResampleHolds': WHATEVER THE INPUT: true; the input reads as it did. -/
def resampleHoldsSpec : ChangeSpec := { name := "resampleHolds", fn := fun _ => fun
  | [d1, d2, d3, d4] => { results := [.lit (.bool true)], args := [d1, d2, d3, d4] }
  | _ => none }
def resampleHoldsRow : OpenClaim := { program := "ytdglifoakdkheaa", sum := "e50138769f17118f6de2b647f2176a455a55fa40ab2173effa94abcb5cd2b3b1", func := "lysimeter/lysimeterlaw21.ResampleHolds", spec := "resampleHolds", apart := false }
def ResampleHoldsSaid : Prop := resampleHoldsRow.holds Try.pinned (OpenSpec.ofChange resampleHoldsSpec)

/-- ITS FALSE NEIGHBOUR: 'it returns false'. Refute it at one input. -/
def resampleHoldsWrong : ChangeSpec := { name := "resampleHolds", fn := fun _ => fun
  | [d1, d2, d3, d4] => { results := [.lit (.bool false)], args := [d1, d2, d3, d4] }
  | _ => none }
def ResampleHoldsWrongFalsely : Prop := resampleHoldsRow.holds Try.pinned (OpenSpec.ofChange resampleHoldsWrong)

/-- 'lysimeterlaw19.RollupBuckets': WHATEVER THE INPUT: true; the input reads as it did. -/
def rollupBucketsSpec : ChangeSpec := { name := "rollupBuckets", fn := fun _ => fun
  | [d1, d2] => { results := [.lit (.bool true)], args := [d1, d2] }
  | _ => none }
def rollupBucketsRow : OpenClaim := { program := "ytdglifoakdkheaa", sum := "e50138769f17118f6de2b647f2176a455a55fa40ab2173effa94abcb5cd2b3b1", func := "lysimeter/lysimeterlaw19.RollupBuckets", spec := "rollupBuckets", unfollowed := true, recurses := true, apart := false }
def RollupBucketsSaid : Prop := rollupBucketsRow.holds Try.pinned (OpenSpec.ofChange rollupBucketsSpec)

/-- ITS FALSE NEIGHBOUR: 'it returns false'. Refute it at one input. -/
def rollupBucketsWrong : ChangeSpec := { name := "rollupBuckets", fn := fun _ => fun
  | [d1, d2] => { results := [.lit (.bool false)], args := [d1, d2] }
  | _ => none }
def RollupBucketsWrongFalsely : Prop := rollupBucketsRow.holds Try.pinned (OpenSpec.ofChange rollupBucketsWrong)

/-- 'lysimeterlaw19.RollupFloor': WHATEVER THE INPUT: true; the input reads as it did. -/
def rollupFloorSpec : ChangeSpec := { name := "rollupFloor", fn := fun _ => fun
  | [d1, d2] => { results := [.lit (.bool true)], args := [d1, d2] }
  | _ => none }
def rollupFloorRow : OpenClaim := { program := "ytdglifoakdkheaa", sum := "e50138769f17118f6de2b647f2176a455a55fa40ab2173effa94abcb5cd2b3b1", func := "lysimeter/lysimeterlaw19.RollupFloor", spec := "rollupFloor", unfollowed := true, recurses := true, apart := false }
def RollupFloorSaid : Prop := rollupFloorRow.holds Try.pinned (OpenSpec.ofChange rollupFloorSpec)

/-- ITS FALSE NEIGHBOUR: 'it returns false'. Refute it at one input. -/
def rollupFloorWrong : ChangeSpec := { name := "rollupFloor", fn := fun _ => fun
  | [d1, d2] => { results := [.lit (.bool false)], args := [d1, d2] }
  | _ => none }
def RollupFloorWrongFalsely : Prop := rollupFloorRow.holds Try.pinned (OpenSpec.ofChange rollupFloorWrong)

/-- 'lysimeterlaw19.RollupCounts': WHATEVER THE INPUT: true; the input reads as it did. -/
def rollupCountsSpec : ChangeSpec := { name := "rollupCounts", fn := fun _ => fun
  | [d1, d2] => { results := [.lit (.bool true)], args := [d1, d2] }
  | _ => none }
def rollupCountsRow : OpenClaim := { program := "ytdglifoakdkheaa", sum := "e50138769f17118f6de2b647f2176a455a55fa40ab2173effa94abcb5cd2b3b1", func := "lysimeter/lysimeterlaw19.RollupCounts", spec := "rollupCounts", unfollowed := true, recurses := true, apart := false }
def RollupCountsSaid : Prop := rollupCountsRow.holds Try.pinned (OpenSpec.ofChange rollupCountsSpec)

/-- ITS FALSE NEIGHBOUR: 'it returns false'. Refute it at one input. -/
def rollupCountsWrong : ChangeSpec := { name := "rollupCounts", fn := fun _ => fun
  | [d1, d2] => { results := [.lit (.bool false)], args := [d1, d2] }
  | _ => none }
def RollupCountsWrongFalsely : Prop := rollupCountsRow.holds Try.pinned (OpenSpec.ofChange rollupCountsWrong)

/-- 'lysimeterlaw19.RollupTwice': WHATEVER THE INPUT: true; the input reads as it did. -/
def rollupTwiceSpec : ChangeSpec := { name := "rollupTwice", fn := fun _ => fun
  | [d1, d2, d3] => { results := [.lit (.bool true)], args := [d1, d2, d3] }
  | _ => none }
def rollupTwiceRow : OpenClaim := { program := "ytdglifoakdkheaa", sum := "e50138769f17118f6de2b647f2176a455a55fa40ab2173effa94abcb5cd2b3b1", func := "lysimeter/lysimeterlaw19.RollupTwice", spec := "rollupTwice", unfollowed := true, recurses := true, apart := false }
def RollupTwiceSaid : Prop := rollupTwiceRow.holds Try.pinned (OpenSpec.ofChange rollupTwiceSpec)

/-- ITS FALSE NEIGHBOUR: 'it returns false'. Refute it at one input. -/
def rollupTwiceWrong : ChangeSpec := { name := "rollupTwice", fn := fun _ => fun
  | [d1, d2, d3] => { results := [.lit (.bool false)], args := [d1, d2, d3] }
  | _ => none }
def RollupTwiceWrongFalsely : Prop := rollupTwiceRow.holds Try.pinned (OpenSpec.ofChange rollupTwiceWrong)

/- THE SECOND FORM. 'bulk': how many values and letters a reading holds, each counted each time it is reached (what is shared counts as often as it is met; a slice's spare places count too). A statement '..UptoSaid' is the law's where the arguments, and the package variables that the reading takes, are together of bulk at most 1048576: NARROWER than '..Said'. Prove '..Said' where nothing that the law and all that it calls make is longer than what came in: it says more and counts as full. Else prove '..UptoSaid'. A law counts once. -/
mutual
def uptoBulk {H : Type} : DataW H → Nat
  | .lit (.string bytes) => bytes.length + 1
  | .lit _ => 1
  | .nil => 1
  | .ptr d => uptoBulk d + 1
  | .slice elems spare => uptoBulkAll elems + uptoBulkAll spare + 1
  | .agg parts => uptoBulkAll parts + 1
  | .iface _ d => uptoBulk d + 1
  | .map entries => uptoBulkEntries entries + 1
  | .held _ => 1
def uptoBulkAll {H : Type} : List (DataW H) → Nat
  | [] => 0
  | d :: r => uptoBulk d + uptoBulkAll r
def uptoBulkEntries {H : Type} : List (Lit × DataW H) → Nat
  | [] => 0
  | x :: r => uptoBulkEntry x + uptoBulkEntries r
def uptoBulkEntry {H : Type} : Lit × DataW H → Nat
  | (.string bytes, d) => bytes.length + uptoBulk d + 1
  | (_, d) => uptoBulk d + 1
 end
def uptoSmall : (H : Type) → List (DataW H) → Bool := fun _ ds => decide (uptoBulkAll ds ≤ 1048576)
def OpenSpec.upto (s : _root_.Go.ChangeSpec) : _root_.Go.OpenSpec := { _root_.Go.OpenSpec.ofChange s with cond := some uptoSmall }

/-- 'lysimeterlaw22.SeasonCasts', WHERE WHAT IT READS IS OF BULK AT MOST 1048576: true; the input reads as it did. -/
def seasonCastsUptoRow : OpenClaim := { program := "ytdglifoakdkheaa", sum := "e50138769f17118f6de2b647f2176a455a55fa40ab2173effa94abcb5cd2b3b1", func := "lysimeter/lysimeterlaw22.SeasonCasts", spec := "seasonCasts", unfollowed := true, recurses := true, apart := false, narrowed := true }
def SeasonCastsUptoSaid : Prop := seasonCastsUptoRow.holds Try.pinned (OpenSpec.upto seasonCastsSpec)

/-- 'lysimeterlaw22.SeasonRepeats', WHERE WHAT IT READS IS OF BULK AT MOST 1048576: true; the input reads as it did. -/
def seasonRepeatsUptoRow : OpenClaim := { program := "ytdglifoakdkheaa", sum := "e50138769f17118f6de2b647f2176a455a55fa40ab2173effa94abcb5cd2b3b1", func := "lysimeter/lysimeterlaw22.SeasonRepeats", spec := "seasonRepeats", unfollowed := true, recurses := true, apart := false, narrowed := true }
def SeasonRepeatsUptoSaid : Prop := seasonRepeatsUptoRow.holds Try.pinned (OpenSpec.upto seasonRepeatsSpec)

/-- 'lysimeterlaw21.ResamplePoints', WHERE WHAT IT READS IS OF BULK AT MOST 1048576: true; the input reads as it did. -/
def resamplePointsUptoRow : OpenClaim := { program := "ytdglifoakdkheaa", sum := "e50138769f17118f6de2b647f2176a455a55fa40ab2173effa94abcb5cd2b3b1", func := "lysimeter/lysimeterlaw21.ResamplePoints", spec := "resamplePoints", apart := false, narrowed := true }
def ResamplePointsUptoSaid : Prop := resamplePointsUptoRow.holds Try.pinned (OpenSpec.upto resamplePointsSpec)

/-- 'lysimeterlaw21.ResampleWhole', WHERE WHAT IT READS IS OF BULK AT MOST 1048576: true; the input reads as it did. -/
def resampleWholeUptoRow : OpenClaim := { program := "ytdglifoakdkheaa", sum := "e50138769f17118f6de2b647f2176a455a55fa40ab2173effa94abcb5cd2b3b1", func := "lysimeter/lysimeterlaw21.ResampleWhole", spec := "resampleWhole", apart := false, narrowed := true }
def ResampleWholeUptoSaid : Prop := resampleWholeUptoRow.holds Try.pinned (OpenSpec.upto resampleWholeSpec)

/-- 'lysimeterlaw21.ResampleHolds', WHERE WHAT IT READS IS OF BULK AT MOST 1048576: true; the input reads as it did. -/
def resampleHoldsUptoRow : OpenClaim := { program := "ytdglifoakdkheaa", sum := "e50138769f17118f6de2b647f2176a455a55fa40ab2173effa94abcb5cd2b3b1", func := "lysimeter/lysimeterlaw21.ResampleHolds", spec := "resampleHolds", apart := false, narrowed := true }
def ResampleHoldsUptoSaid : Prop := resampleHoldsUptoRow.holds Try.pinned (OpenSpec.upto resampleHoldsSpec)

/-- 'lysimeterlaw19.RollupBuckets', WHERE WHAT IT READS IS OF BULK AT MOST 1048576: true; the input reads as it did. -/
def rollupBucketsUptoRow : OpenClaim := { program := "ytdglifoakdkheaa", sum := "e50138769f17118f6de2b647f2176a455a55fa40ab2173effa94abcb5cd2b3b1", func := "lysimeter/lysimeterlaw19.RollupBuckets", spec := "rollupBuckets", unfollowed := true, recurses := true, apart := false, narrowed := true }
def RollupBucketsUptoSaid : Prop := rollupBucketsUptoRow.holds Try.pinned (OpenSpec.upto rollupBucketsSpec)

/-- 'lysimeterlaw19.RollupFloor', WHERE WHAT IT READS IS OF BULK AT MOST 1048576: true; the input reads as it did. -/
def rollupFloorUptoRow : OpenClaim := { program := "ytdglifoakdkheaa", sum := "e50138769f17118f6de2b647f2176a455a55fa40ab2173effa94abcb5cd2b3b1", func := "lysimeter/lysimeterlaw19.RollupFloor", spec := "rollupFloor", unfollowed := true, recurses := true, apart := false, narrowed := true }
def RollupFloorUptoSaid : Prop := rollupFloorUptoRow.holds Try.pinned (OpenSpec.upto rollupFloorSpec)

/-- 'lysimeterlaw19.RollupCounts', WHERE WHAT IT READS IS OF BULK AT MOST 1048576: true; the input reads as it did. -/
def rollupCountsUptoRow : OpenClaim := { program := "ytdglifoakdkheaa", sum := "e50138769f17118f6de2b647f2176a455a55fa40ab2173effa94abcb5cd2b3b1", func := "lysimeter/lysimeterlaw19.RollupCounts", spec := "rollupCounts", unfollowed := true, recurses := true, apart := false, narrowed := true }
def RollupCountsUptoSaid : Prop := rollupCountsUptoRow.holds Try.pinned (OpenSpec.upto rollupCountsSpec)

/-- 'lysimeterlaw19.RollupTwice', WHERE WHAT IT READS IS OF BULK AT MOST 1048576: true; the input reads as it did. -/
def rollupTwiceUptoRow : OpenClaim := { program := "ytdglifoakdkheaa", sum := "e50138769f17118f6de2b647f2176a455a55fa40ab2173effa94abcb5cd2b3b1", func := "lysimeter/lysimeterlaw19.RollupTwice", spec := "rollupTwice", unfollowed := true, recurses := true, apart := false, narrowed := true }
def RollupTwiceUptoSaid : Prop := rollupTwiceUptoRow.holds Try.pinned (OpenSpec.upto rollupTwiceSpec)

end Rows
end Go.Proofs.Ytdglifoakdkheaa
