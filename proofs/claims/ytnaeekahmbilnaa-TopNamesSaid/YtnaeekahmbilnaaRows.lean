/-
  No cell of these rows narrows 'for every input' (looked for: loops, veiled, ifaces, maps, wideKeys, modest, calm, conditions, laid).
  DERIVED. THE GIVEN ROWS OF THIS SEAT. 11 by the template 'for every input the law returns true; each argument reads behind the call as it read before'; 0 by the template 'total and deterministic' (their statements: YtnaeekahmbilnaaTotals.lean).
  GIVEN WITH THE SEED: the statements are not yours to turn. If you find one false, say at which input.
  Laid BY PROGRAM, IN A SANDBOX (cutbox-rows.mjs): the forced cells as the released guide's own fill.sh prints them over the translation 279d165c9dfd7941… (all of the seat's roots in one cut). By AI agents, Wed Nov 11 2026. No macro, syntax, notation, axiom, sorry.
-/
import Derived.Test.YtnaeekahmbilnaaChecked
import GoSem.Claim
import GoSem.ClaimJoined
import GoSem.ClaimMapViews
import Derived.JoinedTies
import Derived.KernelRfl
namespace Go.Proofs.Ytnaeekahmbilnaa
/- THE CELL 'sum', in the pinned program and in every row, IS THE sha256 OF THE DUMP (.gsa) THAT YtnaeekahmbilnaaProg.lean LOADS. Nothing in Lean hashes anything: it is a label: what it is worth is what the hold of that sum in a sandbox is worth. -/
noncomputable def Try.pinned : Pinned := { name := "ytnaeekahmbilnaa", sum := "279d165c9dfd79414ff4594b99e0ad1eedaefb92a4ef33356b8e89f67b62acfd", checked := Try.checked }
namespace Rows
def none {H : Type} : Left H := { results := [], args := [] }

/-- 'lysimeterlaw1.FixedMuls': WHATEVER THE INPUT: true; the input reads as it did. -/
def fixedMulsSpec : ChangeSpec := { name := "fixedMuls", fn := fun _ => fun
  | [d1, d2] => { results := [.lit (.bool true)], args := [d1, d2] }
  | _ => none }
def fixedMulsRow : OpenClaim := { program := "ytnaeekahmbilnaa", sum := "279d165c9dfd79414ff4594b99e0ad1eedaefb92a4ef33356b8e89f67b62acfd", func := "lysimeter/lysimeterlaw1.FixedMuls", spec := "fixedMuls", unfollowed := true, recurses := true, named := ["math/bits.divideError", "math/bits.overflowError"], apart := false }
def FixedMulsSaid : Prop := fixedMulsRow.holds Try.pinned (OpenSpec.ofChange fixedMulsSpec)

/-- ITS FALSE NEIGHBOUR: 'it returns false'. Refute it at one input. -/
def fixedMulsWrong : ChangeSpec := { name := "fixedMuls", fn := fun _ => fun
  | [d1, d2] => { results := [.lit (.bool false)], args := [d1, d2] }
  | _ => none }
def FixedMulsWrongFalsely : Prop := fixedMulsRow.holds Try.pinned (OpenSpec.ofChange fixedMulsWrong)

/-- 'lysimeterlaw1.FixedWholes': WHATEVER THE INPUT: true; the input reads as it did. -/
def fixedWholesSpec : ChangeSpec := { name := "fixedWholes", fn := fun _ => fun
  | [d] => { results := [.lit (.bool true)], args := [d] }
  | _ => none }
def fixedWholesRow : OpenClaim := { program := "ytnaeekahmbilnaa", sum := "279d165c9dfd79414ff4594b99e0ad1eedaefb92a4ef33356b8e89f67b62acfd", func := "lysimeter/lysimeterlaw1.FixedWholes", spec := "fixedWholes", unfollowed := true, recurses := true, named := ["math/bits.divideError", "math/bits.overflowError"], apart := false }
def FixedWholesSaid : Prop := fixedWholesRow.holds Try.pinned (OpenSpec.ofChange fixedWholesSpec)

/-- ITS FALSE NEIGHBOUR: 'it returns false'. Refute it at one input. -/
def fixedWholesWrong : ChangeSpec := { name := "fixedWholes", fn := fun _ => fun
  | [d] => { results := [.lit (.bool false)], args := [d] }
  | _ => none }
def FixedWholesWrongFalsely : Prop := fixedWholesRow.holds Try.pinned (OpenSpec.ofChange fixedWholesWrong)

/-- 'lysimetertop.TopNames': WHATEVER THE INPUT: true; the input reads as it did. -/
def topNamesSpec : ChangeSpec := { name := "topNames", fn := fun _ => fun
  | [] => { results := [.lit (.bool true)], args := [] }
  | _ => none }
def topNamesRow : OpenClaim := { program := "ytnaeekahmbilnaa", sum := "279d165c9dfd79414ff4594b99e0ad1eedaefb92a4ef33356b8e89f67b62acfd", func := "lysimeter/lysimetertop.TopNames", spec := "topNames", apart := false }
def TopNamesSaid : Prop := topNamesRow.holds Try.pinned (OpenSpec.ofChange topNamesSpec)

/-- ITS FALSE NEIGHBOUR: 'it returns false'. Refute it at one input. -/
def topNamesWrong : ChangeSpec := { name := "topNames", fn := fun _ => fun
  | [] => { results := [.lit (.bool false)], args := [] }
  | _ => none }
def TopNamesWrongFalsely : Prop := topNamesRow.holds Try.pinned (OpenSpec.ofChange topNamesWrong)

/-- 'lysimeterlaw1.FixedDivs': WHATEVER THE INPUT: true; the input reads as it did. -/
def fixedDivsSpec : ChangeSpec := { name := "fixedDivs", fn := fun _ => fun
  | [d1, d2] => { results := [.lit (.bool true)], args := [d1, d2] }
  | _ => none }
def fixedDivsRow : OpenClaim := { program := "ytnaeekahmbilnaa", sum := "279d165c9dfd79414ff4594b99e0ad1eedaefb92a4ef33356b8e89f67b62acfd", func := "lysimeter/lysimeterlaw1.FixedDivs", spec := "fixedDivs", unfollowed := true, recurses := true, named := ["math/bits.divideError", "math/bits.overflowError"], apart := false }
def FixedDivsSaid : Prop := fixedDivsRow.holds Try.pinned (OpenSpec.ofChange fixedDivsSpec)

/-- ITS FALSE NEIGHBOUR: 'it returns false'. Refute it at one input. -/
def fixedDivsWrong : ChangeSpec := { name := "fixedDivs", fn := fun _ => fun
  | [d1, d2] => { results := [.lit (.bool false)], args := [d1, d2] }
  | _ => none }
def FixedDivsWrongFalsely : Prop := fixedDivsRow.holds Try.pinned (OpenSpec.ofChange fixedDivsWrong)

/-- 'lysimeterlaw1.FixedCeils': WHATEVER THE INPUT: true; the input reads as it did. -/
def fixedCeilsSpec : ChangeSpec := { name := "fixedCeils", fn := fun _ => fun
  | [d1, d2] => { results := [.lit (.bool true)], args := [d1, d2] }
  | _ => none }
def fixedCeilsRow : OpenClaim := { program := "ytnaeekahmbilnaa", sum := "279d165c9dfd79414ff4594b99e0ad1eedaefb92a4ef33356b8e89f67b62acfd", func := "lysimeter/lysimeterlaw1.FixedCeils", spec := "fixedCeils", unfollowed := true, recurses := true, named := ["math/bits.divideError", "math/bits.overflowError"], apart := false }
def FixedCeilsSaid : Prop := fixedCeilsRow.holds Try.pinned (OpenSpec.ofChange fixedCeilsSpec)

/-- ITS FALSE NEIGHBOUR: 'it returns false'. Refute it at one input. -/
def fixedCeilsWrong : ChangeSpec := { name := "fixedCeils", fn := fun _ => fun
  | [d1, d2] => { results := [.lit (.bool false)], args := [d1, d2] }
  | _ => none }
def FixedCeilsWrongFalsely : Prop := fixedCeilsRow.holds Try.pinned (OpenSpec.ofChange fixedCeilsWrong)

/-- 'lysimeterlaw1.FixedClamps': WHATEVER THE INPUT: true; the input reads as it did. -/
def fixedClampsSpec : ChangeSpec := { name := "fixedClamps", fn := fun _ => fun
  | [d1, d2, d3] => { results := [.lit (.bool true)], args := [d1, d2, d3] }
  | _ => none }
def fixedClampsRow : OpenClaim := { program := "ytnaeekahmbilnaa", sum := "279d165c9dfd79414ff4594b99e0ad1eedaefb92a4ef33356b8e89f67b62acfd", func := "lysimeter/lysimeterlaw1.FixedClamps", spec := "fixedClamps", unfollowed := true, recurses := true, named := ["math/bits.divideError", "math/bits.overflowError"], apart := false }
def FixedClampsSaid : Prop := fixedClampsRow.holds Try.pinned (OpenSpec.ofChange fixedClampsSpec)

/-- ITS FALSE NEIGHBOUR: 'it returns false'. Refute it at one input. -/
def fixedClampsWrong : ChangeSpec := { name := "fixedClamps", fn := fun _ => fun
  | [d1, d2, d3] => { results := [.lit (.bool false)], args := [d1, d2, d3] }
  | _ => none }
def FixedClampsWrongFalsely : Prop := fixedClampsRow.holds Try.pinned (OpenSpec.ofChange fixedClampsWrong)

/-- 'lysimeterlaw1.FixedChains': WHATEVER THE INPUT: true; the input reads as it did. -/
def fixedChainsSpec : ChangeSpec := { name := "fixedChains", fn := fun _ => fun
  | [d1, d2] => { results := [.lit (.bool true)], args := [d1, d2] }
  | _ => none }
def fixedChainsRow : OpenClaim := { program := "ytnaeekahmbilnaa", sum := "279d165c9dfd79414ff4594b99e0ad1eedaefb92a4ef33356b8e89f67b62acfd", func := "lysimeter/lysimeterlaw1.FixedChains", spec := "fixedChains", unfollowed := true, recurses := true, named := ["math/bits.divideError", "math/bits.overflowError"], apart := false }
def FixedChainsSaid : Prop := fixedChainsRow.holds Try.pinned (OpenSpec.ofChange fixedChainsSpec)

/-- ITS FALSE NEIGHBOUR: 'it returns false'. Refute it at one input. -/
def fixedChainsWrong : ChangeSpec := { name := "fixedChains", fn := fun _ => fun
  | [d1, d2] => { results := [.lit (.bool false)], args := [d1, d2] }
  | _ => none }
def FixedChainsWrongFalsely : Prop := fixedChainsRow.holds Try.pinned (OpenSpec.ofChange fixedChainsWrong)

/-- 'lysimeterlaw1.FixedTurns': WHATEVER THE INPUT: true; the input reads as it did. -/
def fixedTurnsSpec : ChangeSpec := { name := "fixedTurns", fn := fun _ => fun
  | [d1, d2] => { results := [.lit (.bool true)], args := [d1, d2] }
  | _ => none }
def fixedTurnsRow : OpenClaim := { program := "ytnaeekahmbilnaa", sum := "279d165c9dfd79414ff4594b99e0ad1eedaefb92a4ef33356b8e89f67b62acfd", func := "lysimeter/lysimeterlaw1.FixedTurns", spec := "fixedTurns", unfollowed := true, recurses := true, named := ["math/bits.divideError", "math/bits.overflowError"], apart := false }
def FixedTurnsSaid : Prop := fixedTurnsRow.holds Try.pinned (OpenSpec.ofChange fixedTurnsSpec)

/-- ITS FALSE NEIGHBOUR: 'it returns false'. Refute it at one input. -/
def fixedTurnsWrong : ChangeSpec := { name := "fixedTurns", fn := fun _ => fun
  | [d1, d2] => { results := [.lit (.bool false)], args := [d1, d2] }
  | _ => none }
def FixedTurnsWrongFalsely : Prop := fixedTurnsRow.holds Try.pinned (OpenSpec.ofChange fixedTurnsWrong)

/-- 'lysimeterlaw1.FixedHalves': WHATEVER THE INPUT: true; the input reads as it did. -/
def fixedHalvesSpec : ChangeSpec := { name := "fixedHalves", fn := fun _ => fun
  | [d] => { results := [.lit (.bool true)], args := [d] }
  | _ => none }
def fixedHalvesRow : OpenClaim := { program := "ytnaeekahmbilnaa", sum := "279d165c9dfd79414ff4594b99e0ad1eedaefb92a4ef33356b8e89f67b62acfd", func := "lysimeter/lysimeterlaw1.FixedHalves", spec := "fixedHalves", unfollowed := true, recurses := true, named := ["math/bits.divideError", "math/bits.overflowError"], apart := false }
def FixedHalvesSaid : Prop := fixedHalvesRow.holds Try.pinned (OpenSpec.ofChange fixedHalvesSpec)

/-- ITS FALSE NEIGHBOUR: 'it returns false'. Refute it at one input. -/
def fixedHalvesWrong : ChangeSpec := { name := "fixedHalves", fn := fun _ => fun
  | [d] => { results := [.lit (.bool false)], args := [d] }
  | _ => none }
def FixedHalvesWrongFalsely : Prop := fixedHalvesRow.holds Try.pinned (OpenSpec.ofChange fixedHalvesWrong)

/-- 'lysimeterlaw1.FixedSums': WHATEVER THE INPUT: true; the input reads as it did. -/
def fixedSumsSpec : ChangeSpec := { name := "fixedSums", fn := fun _ => fun
  | [d1, d2] => { results := [.lit (.bool true)], args := [d1, d2] }
  | _ => none }
def fixedSumsRow : OpenClaim := { program := "ytnaeekahmbilnaa", sum := "279d165c9dfd79414ff4594b99e0ad1eedaefb92a4ef33356b8e89f67b62acfd", func := "lysimeter/lysimeterlaw1.FixedSums", spec := "fixedSums", unfollowed := true, recurses := true, named := ["math/bits.divideError", "math/bits.overflowError"], apart := false }
def FixedSumsSaid : Prop := fixedSumsRow.holds Try.pinned (OpenSpec.ofChange fixedSumsSpec)

/-- ITS FALSE NEIGHBOUR: 'it returns false'. Refute it at one input. -/
def fixedSumsWrong : ChangeSpec := { name := "fixedSums", fn := fun _ => fun
  | [d1, d2] => { results := [.lit (.bool false)], args := [d1, d2] }
  | _ => none }
def FixedSumsWrongFalsely : Prop := fixedSumsRow.holds Try.pinned (OpenSpec.ofChange fixedSumsWrong)

/-- 'lysimeterlaw1.FixedOrder': WHATEVER THE INPUT: true; the input reads as it did. -/
def fixedOrderSpec : ChangeSpec := { name := "fixedOrder", fn := fun _ => fun
  | [d1, d2, d3] => { results := [.lit (.bool true)], args := [d1, d2, d3] }
  | _ => none }
def fixedOrderRow : OpenClaim := { program := "ytnaeekahmbilnaa", sum := "279d165c9dfd79414ff4594b99e0ad1eedaefb92a4ef33356b8e89f67b62acfd", func := "lysimeter/lysimeterlaw1.FixedOrder", spec := "fixedOrder", unfollowed := true, recurses := true, named := ["math/bits.divideError", "math/bits.overflowError"], apart := false }
def FixedOrderSaid : Prop := fixedOrderRow.holds Try.pinned (OpenSpec.ofChange fixedOrderSpec)

/-- ITS FALSE NEIGHBOUR: 'it returns false'. Refute it at one input. -/
def fixedOrderWrong : ChangeSpec := { name := "fixedOrder", fn := fun _ => fun
  | [d1, d2, d3] => { results := [.lit (.bool false)], args := [d1, d2, d3] }
  | _ => none }
def FixedOrderWrongFalsely : Prop := fixedOrderRow.holds Try.pinned (OpenSpec.ofChange fixedOrderWrong)

/- THE SECOND FORM. 'bulk': how many values and letters a reading holds, each counted each time it is reached (what is shared counts as often as it is met; a slice's spare places count too). A statement '..UptoSaid' is the law's where the arguments, and the package variables that the reading takes, are together of bulk at most 1048576: NARROWER than '..Said'. Prove '..Said' where nothing that the law and all that it calls make is longer than what came in: it says more and counts as full. Else prove '..UptoSaid'. A law counts once. -/
mutual
def uptoBulk {H : Type} : DataW H → Nat
  | .lit (.string bytes) => bytes.length + 1
  | .lit _ => 1
  | .nil => 1
  | .ptr d => uptoBulk d + 1
  | .slice elems spare => uptoBulkAll elems + uptoBulkAll spare + 1
  | .agg parts => uptoBulkAll parts + 1
  | .iface _ d => uptoBulk d + 1
  | .map entries => uptoBulkEntries entries + 1
  | .held _ => 1
def uptoBulkAll {H : Type} : List (DataW H) → Nat
  | [] => 0
  | d :: r => uptoBulk d + uptoBulkAll r
def uptoBulkEntries {H : Type} : List (Lit × DataW H) → Nat
  | [] => 0
  | x :: r => uptoBulkEntry x + uptoBulkEntries r
def uptoBulkEntry {H : Type} : Lit × DataW H → Nat
  | (.string bytes, d) => bytes.length + uptoBulk d + 1
  | (_, d) => uptoBulk d + 1
 end
def uptoSmall : (H : Type) → List (DataW H) → Bool := fun _ ds => decide (uptoBulkAll ds ≤ 1048576)
def OpenSpec.upto (s : _root_.Go.ChangeSpec) : _root_.Go.OpenSpec := { _root_.Go.OpenSpec.ofChange s with cond := some uptoSmall }

/-- 'lysimeterlaw1.FixedMuls', WHERE WHAT IT READS IS OF BULK AT MOST 1048576: true; the input reads as it did. -/
def fixedMulsUptoRow : OpenClaim := { program := "ytnaeekahmbilnaa", sum := "279d165c9dfd79414ff4594b99e0ad1eedaefb92a4ef33356b8e89f67b62acfd", func := "lysimeter/lysimeterlaw1.FixedMuls", spec := "fixedMuls", unfollowed := true, recurses := true, named := ["math/bits.divideError", "math/bits.overflowError"], apart := false, narrowed := true }
def FixedMulsUptoSaid : Prop := fixedMulsUptoRow.holds Try.pinned (OpenSpec.upto fixedMulsSpec)

/-- 'lysimeterlaw1.FixedWholes', WHERE WHAT IT READS IS OF BULK AT MOST 1048576: true; the input reads as it did. -/
def fixedWholesUptoRow : OpenClaim := { program := "ytnaeekahmbilnaa", sum := "279d165c9dfd79414ff4594b99e0ad1eedaefb92a4ef33356b8e89f67b62acfd", func := "lysimeter/lysimeterlaw1.FixedWholes", spec := "fixedWholes", unfollowed := true, recurses := true, named := ["math/bits.divideError", "math/bits.overflowError"], apart := false, narrowed := true }
def FixedWholesUptoSaid : Prop := fixedWholesUptoRow.holds Try.pinned (OpenSpec.upto fixedWholesSpec)

/-- 'lysimetertop.TopNames', WHERE WHAT IT READS IS OF BULK AT MOST 1048576: true; the input reads as it did. -/
def topNamesUptoRow : OpenClaim := { program := "ytnaeekahmbilnaa", sum := "279d165c9dfd79414ff4594b99e0ad1eedaefb92a4ef33356b8e89f67b62acfd", func := "lysimeter/lysimetertop.TopNames", spec := "topNames", apart := false, narrowed := true }
def TopNamesUptoSaid : Prop := topNamesUptoRow.holds Try.pinned (OpenSpec.upto topNamesSpec)

/-- 'lysimeterlaw1.FixedDivs', WHERE WHAT IT READS IS OF BULK AT MOST 1048576: true; the input reads as it did. -/
def fixedDivsUptoRow : OpenClaim := { program := "ytnaeekahmbilnaa", sum := "279d165c9dfd79414ff4594b99e0ad1eedaefb92a4ef33356b8e89f67b62acfd", func := "lysimeter/lysimeterlaw1.FixedDivs", spec := "fixedDivs", unfollowed := true, recurses := true, named := ["math/bits.divideError", "math/bits.overflowError"], apart := false, narrowed := true }
def FixedDivsUptoSaid : Prop := fixedDivsUptoRow.holds Try.pinned (OpenSpec.upto fixedDivsSpec)

/-- 'lysimeterlaw1.FixedCeils', WHERE WHAT IT READS IS OF BULK AT MOST 1048576: true; the input reads as it did. -/
def fixedCeilsUptoRow : OpenClaim := { program := "ytnaeekahmbilnaa", sum := "279d165c9dfd79414ff4594b99e0ad1eedaefb92a4ef33356b8e89f67b62acfd", func := "lysimeter/lysimeterlaw1.FixedCeils", spec := "fixedCeils", unfollowed := true, recurses := true, named := ["math/bits.divideError", "math/bits.overflowError"], apart := false, narrowed := true }
def FixedCeilsUptoSaid : Prop := fixedCeilsUptoRow.holds Try.pinned (OpenSpec.upto fixedCeilsSpec)

/-- 'lysimeterlaw1.FixedClamps', WHERE WHAT IT READS IS OF BULK AT MOST 1048576: true; the input reads as it did. -/
def fixedClampsUptoRow : OpenClaim := { program := "ytnaeekahmbilnaa", sum := "279d165c9dfd79414ff4594b99e0ad1eedaefb92a4ef33356b8e89f67b62acfd", func := "lysimeter/lysimeterlaw1.FixedClamps", spec := "fixedClamps", unfollowed := true, recurses := true, named := ["math/bits.divideError", "math/bits.overflowError"], apart := false, narrowed := true }
def FixedClampsUptoSaid : Prop := fixedClampsUptoRow.holds Try.pinned (OpenSpec.upto fixedClampsSpec)

/-- 'lysimeterlaw1.FixedChains', WHERE WHAT IT READS IS OF BULK AT MOST 1048576: true; the input reads as it did. -/
def fixedChainsUptoRow : OpenClaim := { program := "ytnaeekahmbilnaa", sum := "279d165c9dfd79414ff4594b99e0ad1eedaefb92a4ef33356b8e89f67b62acfd", func := "lysimeter/lysimeterlaw1.FixedChains", spec := "fixedChains", unfollowed := true, recurses := true, named := ["math/bits.divideError", "math/bits.overflowError"], apart := false, narrowed := true }
def FixedChainsUptoSaid : Prop := fixedChainsUptoRow.holds Try.pinned (OpenSpec.upto fixedChainsSpec)

/-- 'lysimeterlaw1.FixedTurns', WHERE WHAT IT READS IS OF BULK AT MOST 1048576: true; the input reads as it did. -/
def fixedTurnsUptoRow : OpenClaim := { program := "ytnaeekahmbilnaa", sum := "279d165c9dfd79414ff4594b99e0ad1eedaefb92a4ef33356b8e89f67b62acfd", func := "lysimeter/lysimeterlaw1.FixedTurns", spec := "fixedTurns", unfollowed := true, recurses := true, named := ["math/bits.divideError", "math/bits.overflowError"], apart := false, narrowed := true }
def FixedTurnsUptoSaid : Prop := fixedTurnsUptoRow.holds Try.pinned (OpenSpec.upto fixedTurnsSpec)

/-- 'lysimeterlaw1.FixedHalves', WHERE WHAT IT READS IS OF BULK AT MOST 1048576: true; the input reads as it did. -/
def fixedHalvesUptoRow : OpenClaim := { program := "ytnaeekahmbilnaa", sum := "279d165c9dfd79414ff4594b99e0ad1eedaefb92a4ef33356b8e89f67b62acfd", func := "lysimeter/lysimeterlaw1.FixedHalves", spec := "fixedHalves", unfollowed := true, recurses := true, named := ["math/bits.divideError", "math/bits.overflowError"], apart := false, narrowed := true }
def FixedHalvesUptoSaid : Prop := fixedHalvesUptoRow.holds Try.pinned (OpenSpec.upto fixedHalvesSpec)

/-- 'lysimeterlaw1.FixedSums', WHERE WHAT IT READS IS OF BULK AT MOST 1048576: true; the input reads as it did. -/
def fixedSumsUptoRow : OpenClaim := { program := "ytnaeekahmbilnaa", sum := "279d165c9dfd79414ff4594b99e0ad1eedaefb92a4ef33356b8e89f67b62acfd", func := "lysimeter/lysimeterlaw1.FixedSums", spec := "fixedSums", unfollowed := true, recurses := true, named := ["math/bits.divideError", "math/bits.overflowError"], apart := false, narrowed := true }
def FixedSumsUptoSaid : Prop := fixedSumsUptoRow.holds Try.pinned (OpenSpec.upto fixedSumsSpec)

/-- 'lysimeterlaw1.FixedOrder', WHERE WHAT IT READS IS OF BULK AT MOST 1048576: true; the input reads as it did. -/
def fixedOrderUptoRow : OpenClaim := { program := "ytnaeekahmbilnaa", sum := "279d165c9dfd79414ff4594b99e0ad1eedaefb92a4ef33356b8e89f67b62acfd", func := "lysimeter/lysimeterlaw1.FixedOrder", spec := "fixedOrder", unfollowed := true, recurses := true, named := ["math/bits.divideError", "math/bits.overflowError"], apart := false, narrowed := true }
def FixedOrderUptoSaid : Prop := fixedOrderUptoRow.holds Try.pinned (OpenSpec.upto fixedOrderSpec)

end Rows
end Go.Proofs.Ytnaeekahmbilnaa
