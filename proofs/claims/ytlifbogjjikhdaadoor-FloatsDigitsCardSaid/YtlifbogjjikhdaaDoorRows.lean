/-
  NARROWER THAN 'FOR EVERY INPUT', by the rows' own cells (each row's printed sentence says how): FloatsOf: laid · FloatsEdges: laid · FloatsBits: laid · FloatsParse: laid · FloatsShow: laid · FloatsWhole: laid · FloatsOrder: laid · FloatsDigits: laid · FloatsBack: laid.
  DERIVED. THE GIVEN ROWS OF THIS SEAT. 9 by the template 'for every input the law returns true; each argument reads behind the call as it read before'; 0 by the template 'total and deterministic' (their statements: YtlifbogjjikhdaaDoorTotals.lean).
  GIVEN WITH THE SEED: the statements are not yours to turn. If you find one false, say at which input.
  Laid BY PROGRAM, IN A SANDBOX (cutbox-rows.mjs): the forced cells as the released guide's own fill.sh prints them over the translation d8b4aa90b3efeb70… (all of the seat's roots in one cut). By AI agents, Wed Nov 11 2026. No macro, syntax, notation, axiom, sorry.
-/
import Derived.Test.YtlifbogjjikhdaaDoorChecked
import GoSem.Claim
import GoSem.ClaimJoined
import GoSem.ClaimMapViews
import Derived.JoinedTies
import Derived.KernelRfl
namespace Go.Proofs.YtlifbogjjikhdaaDoor
/- THE CELL 'sum', in the pinned program and in every row, IS THE sha256 OF THE DUMP (.gsa) THAT YtlifbogjjikhdaaDoorProg.lean LOADS. Nothing in Lean hashes anything: it is a label: what it is worth is what the hold of that sum in a sandbox is worth. -/
noncomputable def Tryd.pinned : Pinned := { name := "ytlifbogjjikhdaadoor", sum := "d8b4aa90b3efeb70579c8893aaf217cd94b0541984ee98357658ce4a179ccd1a", checked := Tryd.checked }
namespace Rows
def none {H : Type} : Left H := { results := [], args := [] }

/- WHAT THE LISTED PACKAGE-LEVEL VARIABLES READ AS WHEN THE CALL BEGINS. Each datum BY PROGRAM (the guide's laid-datum.mjs) off the statement by which the dump's own 'gosem.cut.vars' lays the variable. In a bare row this is a premise. The card (YtlifbogjjikhdaaDoorCards.lean) ties it to the program's text. -/
def laid_math_bits_deBruijn32tab {H : Type} : DataW H := .agg [.lit (.int .u8 0), .lit (.int .u8 1), .lit (.int .u8 28), .lit (.int .u8 2), .lit (.int .u8 29), .lit (.int .u8 14), .lit (.int .u8 24), .lit (.int .u8 3), .lit (.int .u8 30), .lit (.int .u8 22), .lit (.int .u8 20), .lit (.int .u8 15), .lit (.int .u8 25), .lit (.int .u8 17), .lit (.int .u8 4), .lit (.int .u8 8), .lit (.int .u8 31), .lit (.int .u8 27), .lit (.int .u8 13), .lit (.int .u8 23), .lit (.int .u8 21), .lit (.int .u8 19), .lit (.int .u8 16), .lit (.int .u8 7), .lit (.int .u8 26), .lit (.int .u8 12), .lit (.int .u8 18), .lit (.int .u8 6), .lit (.int .u8 11), .lit (.int .u8 5), .lit (.int .u8 10), .lit (.int .u8 9)]
def laid_math_bits_deBruijn64tab {H : Type} : DataW H := .agg [.lit (.int .u8 0), .lit (.int .u8 1), .lit (.int .u8 56), .lit (.int .u8 2), .lit (.int .u8 57), .lit (.int .u8 49), .lit (.int .u8 28), .lit (.int .u8 3), .lit (.int .u8 61), .lit (.int .u8 58), .lit (.int .u8 42), .lit (.int .u8 50), .lit (.int .u8 38), .lit (.int .u8 29), .lit (.int .u8 17), .lit (.int .u8 4), .lit (.int .u8 62), .lit (.int .u8 47), .lit (.int .u8 59), .lit (.int .u8 36), .lit (.int .u8 45), .lit (.int .u8 43), .lit (.int .u8 51), .lit (.int .u8 22), .lit (.int .u8 53), .lit (.int .u8 39), .lit (.int .u8 33), .lit (.int .u8 30), .lit (.int .u8 24), .lit (.int .u8 18), .lit (.int .u8 12), .lit (.int .u8 5), .lit (.int .u8 63), .lit (.int .u8 55), .lit (.int .u8 48), .lit (.int .u8 27), .lit (.int .u8 60), .lit (.int .u8 41), .lit (.int .u8 37), .lit (.int .u8 16), .lit (.int .u8 46), .lit (.int .u8 35), .lit (.int .u8 44), .lit (.int .u8 21), .lit (.int .u8 52), .lit (.int .u8 32), .lit (.int .u8 23), .lit (.int .u8 11), .lit (.int .u8 54), .lit (.int .u8 26), .lit (.int .u8 40), .lit (.int .u8 15), .lit (.int .u8 34), .lit (.int .u8 20), .lit (.int .u8 31), .lit (.int .u8 10), .lit (.int .u8 25), .lit (.int .u8 14), .lit (.int .u8 19), .lit (.int .u8 9), .lit (.int .u8 13), .lit (.int .u8 8), .lit (.int .u8 7), .lit (.int .u8 6)]
def laid_internal_strconv_uint64pow10 {H : Type} : DataW H := .agg [.lit (.int .u64 1), .lit (.int .u64 10), .lit (.int .u64 100), .lit (.int .u64 1000), .lit (.int .u64 10000), .lit (.int .u64 100000), .lit (.int .u64 1000000), .lit (.int .u64 10000000), .lit (.int .u64 100000000), .lit (.int .u64 1000000000), .lit (.int .u64 10000000000), .lit (.int .u64 100000000000), .lit (.int .u64 1000000000000), .lit (.int .u64 10000000000000), .lit (.int .u64 100000000000000), .lit (.int .u64 1000000000000000), .lit (.int .u64 10000000000000000), .lit (.int .u64 100000000000000000), .lit (.int .u64 1000000000000000000), .lit (.int .u64 10000000000000000000)]

/-- 'lysimeterlaw2.FloatsOf': WHATEVER THE INPUT: true; the input reads as it did. -/
def floatsOfSpec : ChangeSpec := { name := "floatsOf", fn := fun _ => fun
  | [d] => { results := [.lit (.bool true)], args := [d] }
  | _ => none }
def floatsOfRow : OpenClaim := { program := "ytlifbogjjikhdaadoor", sum := "d8b4aa90b3efeb70579c8893aaf217cd94b0541984ee98357658ce4a179ccd1a", func := "lysimeter/lysimeterlaw2.FloatsOf", spec := "floatsOf", inPlace := ["math.Float64bits", "internal/bytealg.IndexByteString", "math.Float64frombits"], named := ["internal/strconv.uint64pow10", "math/bits.deBruijn32tab", "math/bits.deBruijn64tab"], apart := false, laid := [("math/bits.deBruijn32tab", laid_math_bits_deBruijn32tab), ("math/bits.deBruijn64tab", laid_math_bits_deBruijn64tab), ("internal/strconv.uint64pow10", laid_internal_strconv_uint64pow10)] }
def FloatsOfSaid : Prop := floatsOfRow.holds Tryd.pinned (OpenSpec.ofChange floatsOfSpec)

/-- ITS FALSE NEIGHBOUR: 'it returns false'. Refute it at one input. -/
def floatsOfWrong : ChangeSpec := { name := "floatsOf", fn := fun _ => fun
  | [d] => { results := [.lit (.bool false)], args := [d] }
  | _ => none }
def FloatsOfWrongFalsely : Prop := floatsOfRow.holds Tryd.pinned (OpenSpec.ofChange floatsOfWrong)

/-- 'lysimeterlaw2.FloatsEdges': WHATEVER THE INPUT: true; the input reads as it did. -/
def floatsEdgesSpec : ChangeSpec := { name := "floatsEdges", fn := fun _ => fun
  | [d1, d2] => { results := [.lit (.bool true)], args := [d1, d2] }
  | _ => none }
def floatsEdgesRow : OpenClaim := { program := "ytlifbogjjikhdaadoor", sum := "d8b4aa90b3efeb70579c8893aaf217cd94b0541984ee98357658ce4a179ccd1a", func := "lysimeter/lysimeterlaw2.FloatsEdges", spec := "floatsEdges", inPlace := ["math.Float64bits", "internal/bytealg.IndexByteString", "math.Float64frombits"], named := ["internal/strconv.uint64pow10", "math/bits.deBruijn32tab", "math/bits.deBruijn64tab"], apart := false, laid := [("math/bits.deBruijn32tab", laid_math_bits_deBruijn32tab), ("math/bits.deBruijn64tab", laid_math_bits_deBruijn64tab), ("internal/strconv.uint64pow10", laid_internal_strconv_uint64pow10)] }
def FloatsEdgesSaid : Prop := floatsEdgesRow.holds Tryd.pinned (OpenSpec.ofChange floatsEdgesSpec)

/-- ITS FALSE NEIGHBOUR: 'it returns false'. Refute it at one input. -/
def floatsEdgesWrong : ChangeSpec := { name := "floatsEdges", fn := fun _ => fun
  | [d1, d2] => { results := [.lit (.bool false)], args := [d1, d2] }
  | _ => none }
def FloatsEdgesWrongFalsely : Prop := floatsEdgesRow.holds Tryd.pinned (OpenSpec.ofChange floatsEdgesWrong)

/-- 'lysimeterlaw2.FloatsBits': WHATEVER THE INPUT: true; the input reads as it did. -/
def floatsBitsSpec : ChangeSpec := { name := "floatsBits", fn := fun _ => fun
  | [d1, d2] => { results := [.lit (.bool true)], args := [d1, d2] }
  | _ => none }
def floatsBitsRow : OpenClaim := { program := "ytlifbogjjikhdaadoor", sum := "d8b4aa90b3efeb70579c8893aaf217cd94b0541984ee98357658ce4a179ccd1a", func := "lysimeter/lysimeterlaw2.FloatsBits", spec := "floatsBits", inPlace := ["math.Float64bits", "internal/bytealg.IndexByteString", "math.Float64frombits"], named := ["internal/strconv.uint64pow10", "math/bits.deBruijn32tab", "math/bits.deBruijn64tab"], apart := false, laid := [("math/bits.deBruijn32tab", laid_math_bits_deBruijn32tab), ("math/bits.deBruijn64tab", laid_math_bits_deBruijn64tab), ("internal/strconv.uint64pow10", laid_internal_strconv_uint64pow10)] }
def FloatsBitsSaid : Prop := floatsBitsRow.holds Tryd.pinned (OpenSpec.ofChange floatsBitsSpec)

/-- ITS FALSE NEIGHBOUR: 'it returns false'. Refute it at one input. -/
def floatsBitsWrong : ChangeSpec := { name := "floatsBits", fn := fun _ => fun
  | [d1, d2] => { results := [.lit (.bool false)], args := [d1, d2] }
  | _ => none }
def FloatsBitsWrongFalsely : Prop := floatsBitsRow.holds Tryd.pinned (OpenSpec.ofChange floatsBitsWrong)

/-- 'lysimeterlaw2.FloatsParse': WHATEVER THE INPUT: true; the input reads as it did. -/
def floatsParseSpec : ChangeSpec := { name := "floatsParse", fn := fun _ => fun
  | [d] => { results := [.lit (.bool true)], args := [d] }
  | _ => none }
def floatsParseRow : OpenClaim := { program := "ytlifbogjjikhdaadoor", sum := "d8b4aa90b3efeb70579c8893aaf217cd94b0541984ee98357658ce4a179ccd1a", func := "lysimeter/lysimeterlaw2.FloatsParse", spec := "floatsParse", inPlace := ["math.Float64bits", "internal/bytealg.IndexByteString", "math.Float64frombits"], named := ["internal/strconv.uint64pow10", "math/bits.deBruijn32tab", "math/bits.deBruijn64tab"], apart := false, laid := [("math/bits.deBruijn32tab", laid_math_bits_deBruijn32tab), ("math/bits.deBruijn64tab", laid_math_bits_deBruijn64tab), ("internal/strconv.uint64pow10", laid_internal_strconv_uint64pow10)] }
def FloatsParseSaid : Prop := floatsParseRow.holds Tryd.pinned (OpenSpec.ofChange floatsParseSpec)

/-- ITS FALSE NEIGHBOUR: 'it returns false'. Refute it at one input. -/
def floatsParseWrong : ChangeSpec := { name := "floatsParse", fn := fun _ => fun
  | [d] => { results := [.lit (.bool false)], args := [d] }
  | _ => none }
def FloatsParseWrongFalsely : Prop := floatsParseRow.holds Tryd.pinned (OpenSpec.ofChange floatsParseWrong)

/-- 'lysimeterlaw2.FloatsShow': WHATEVER THE INPUT: true; the input reads as it did. -/
def floatsShowSpec : ChangeSpec := { name := "floatsShow", fn := fun _ => fun
  | [d] => { results := [.lit (.bool true)], args := [d] }
  | _ => none }
def floatsShowRow : OpenClaim := { program := "ytlifbogjjikhdaadoor", sum := "d8b4aa90b3efeb70579c8893aaf217cd94b0541984ee98357658ce4a179ccd1a", func := "lysimeter/lysimeterlaw2.FloatsShow", spec := "floatsShow", inPlace := ["math.Float64bits", "internal/bytealg.IndexByteString", "math.Float64frombits"], recurses := true, named := ["internal/strconv.uint64pow10", "math/bits.deBruijn32tab", "math/bits.deBruijn64tab"], apart := false, laid := [("math/bits.deBruijn32tab", laid_math_bits_deBruijn32tab), ("math/bits.deBruijn64tab", laid_math_bits_deBruijn64tab), ("internal/strconv.uint64pow10", laid_internal_strconv_uint64pow10)] }
def FloatsShowSaid : Prop := floatsShowRow.holds Tryd.pinned (OpenSpec.ofChange floatsShowSpec)

/-- ITS FALSE NEIGHBOUR: 'it returns false'. Refute it at one input. -/
def floatsShowWrong : ChangeSpec := { name := "floatsShow", fn := fun _ => fun
  | [d] => { results := [.lit (.bool false)], args := [d] }
  | _ => none }
def FloatsShowWrongFalsely : Prop := floatsShowRow.holds Tryd.pinned (OpenSpec.ofChange floatsShowWrong)

/-- 'lysimeterlaw2.FloatsWhole': WHATEVER THE INPUT: true; the input reads as it did. -/
def floatsWholeSpec : ChangeSpec := { name := "floatsWhole", fn := fun _ => fun
  | [d1, d2] => { results := [.lit (.bool true)], args := [d1, d2] }
  | _ => none }
def floatsWholeRow : OpenClaim := { program := "ytlifbogjjikhdaadoor", sum := "d8b4aa90b3efeb70579c8893aaf217cd94b0541984ee98357658ce4a179ccd1a", func := "lysimeter/lysimeterlaw2.FloatsWhole", spec := "floatsWhole", inPlace := ["math.Float64bits", "internal/bytealg.IndexByteString", "math.Float64frombits"], recurses := true, named := ["internal/strconv.uint64pow10", "math/bits.deBruijn32tab", "math/bits.deBruijn64tab"], apart := false, laid := [("math/bits.deBruijn32tab", laid_math_bits_deBruijn32tab), ("math/bits.deBruijn64tab", laid_math_bits_deBruijn64tab), ("internal/strconv.uint64pow10", laid_internal_strconv_uint64pow10)] }
def FloatsWholeSaid : Prop := floatsWholeRow.holds Tryd.pinned (OpenSpec.ofChange floatsWholeSpec)

/-- ITS FALSE NEIGHBOUR: 'it returns false'. Refute it at one input. -/
def floatsWholeWrong : ChangeSpec := { name := "floatsWhole", fn := fun _ => fun
  | [d1, d2] => { results := [.lit (.bool false)], args := [d1, d2] }
  | _ => none }
def FloatsWholeWrongFalsely : Prop := floatsWholeRow.holds Tryd.pinned (OpenSpec.ofChange floatsWholeWrong)

/-- 'lysimeterlaw2.FloatsOrder': WHATEVER THE INPUT: true; the input reads as it did. -/
def floatsOrderSpec : ChangeSpec := { name := "floatsOrder", fn := fun _ => fun
  | [d1, d2] => { results := [.lit (.bool true)], args := [d1, d2] }
  | _ => none }
def floatsOrderRow : OpenClaim := { program := "ytlifbogjjikhdaadoor", sum := "d8b4aa90b3efeb70579c8893aaf217cd94b0541984ee98357658ce4a179ccd1a", func := "lysimeter/lysimeterlaw2.FloatsOrder", spec := "floatsOrder", inPlace := ["math.Float64bits", "internal/bytealg.IndexByteString", "math.Float64frombits"], named := ["internal/strconv.uint64pow10", "math/bits.deBruijn32tab", "math/bits.deBruijn64tab"], apart := false, laid := [("math/bits.deBruijn32tab", laid_math_bits_deBruijn32tab), ("math/bits.deBruijn64tab", laid_math_bits_deBruijn64tab), ("internal/strconv.uint64pow10", laid_internal_strconv_uint64pow10)] }
def FloatsOrderSaid : Prop := floatsOrderRow.holds Tryd.pinned (OpenSpec.ofChange floatsOrderSpec)

/-- ITS FALSE NEIGHBOUR: 'it returns false'. Refute it at one input. -/
def floatsOrderWrong : ChangeSpec := { name := "floatsOrder", fn := fun _ => fun
  | [d1, d2] => { results := [.lit (.bool false)], args := [d1, d2] }
  | _ => none }
def FloatsOrderWrongFalsely : Prop := floatsOrderRow.holds Tryd.pinned (OpenSpec.ofChange floatsOrderWrong)

/-- 'lysimeterlaw2.FloatsDigits': WHATEVER THE INPUT: true; the input reads as it did. -/
def floatsDigitsSpec : ChangeSpec := { name := "floatsDigits", fn := fun _ => fun
  | [d1, d2, d3] => { results := [.lit (.bool true)], args := [d1, d2, d3] }
  | _ => none }
def floatsDigitsRow : OpenClaim := { program := "ytlifbogjjikhdaadoor", sum := "d8b4aa90b3efeb70579c8893aaf217cd94b0541984ee98357658ce4a179ccd1a", func := "lysimeter/lysimeterlaw2.FloatsDigits", spec := "floatsDigits", inPlace := ["math.Float64bits", "internal/bytealg.IndexByteString", "math.Float64frombits"], recurses := true, named := ["internal/strconv.uint64pow10", "math/bits.deBruijn32tab", "math/bits.deBruijn64tab"], apart := false, laid := [("math/bits.deBruijn32tab", laid_math_bits_deBruijn32tab), ("math/bits.deBruijn64tab", laid_math_bits_deBruijn64tab), ("internal/strconv.uint64pow10", laid_internal_strconv_uint64pow10)] }
def FloatsDigitsSaid : Prop := floatsDigitsRow.holds Tryd.pinned (OpenSpec.ofChange floatsDigitsSpec)

/-- ITS FALSE NEIGHBOUR: 'it returns false'. Refute it at one input. -/
def floatsDigitsWrong : ChangeSpec := { name := "floatsDigits", fn := fun _ => fun
  | [d1, d2, d3] => { results := [.lit (.bool false)], args := [d1, d2, d3] }
  | _ => none }
def FloatsDigitsWrongFalsely : Prop := floatsDigitsRow.holds Tryd.pinned (OpenSpec.ofChange floatsDigitsWrong)

/-- 'lysimeterlaw2.FloatsBack': WHATEVER THE INPUT: true; the input reads as it did. -/
def floatsBackSpec : ChangeSpec := { name := "floatsBack", fn := fun _ => fun
  | [d] => { results := [.lit (.bool true)], args := [d] }
  | _ => none }
def floatsBackRow : OpenClaim := { program := "ytlifbogjjikhdaadoor", sum := "d8b4aa90b3efeb70579c8893aaf217cd94b0541984ee98357658ce4a179ccd1a", func := "lysimeter/lysimeterlaw2.FloatsBack", spec := "floatsBack", inPlace := ["math.Float64bits", "internal/bytealg.IndexByteString", "math.Float64frombits"], named := ["internal/strconv.uint64pow10", "math/bits.deBruijn32tab", "math/bits.deBruijn64tab"], apart := false, laid := [("math/bits.deBruijn32tab", laid_math_bits_deBruijn32tab), ("math/bits.deBruijn64tab", laid_math_bits_deBruijn64tab), ("internal/strconv.uint64pow10", laid_internal_strconv_uint64pow10)] }
def FloatsBackSaid : Prop := floatsBackRow.holds Tryd.pinned (OpenSpec.ofChange floatsBackSpec)

/-- ITS FALSE NEIGHBOUR: 'it returns false'. Refute it at one input. -/
def floatsBackWrong : ChangeSpec := { name := "floatsBack", fn := fun _ => fun
  | [d] => { results := [.lit (.bool false)], args := [d] }
  | _ => none }
def FloatsBackWrongFalsely : Prop := floatsBackRow.holds Tryd.pinned (OpenSpec.ofChange floatsBackWrong)

/- THE SECOND FORM. 'bulk': how many values and letters a reading holds, each counted each time it is reached (what is shared counts as often as it is met; a slice's spare places count too). A statement '..UptoSaid' is the law's where the arguments, and the package variables that the reading takes, are together of bulk at most 1048576: NARROWER than '..Said'. Prove '..Said' where nothing that the law and all that it calls make is longer than what came in: it says more and counts as full. Else prove '..UptoSaid'. A law counts once. -/
mutual
def uptoBulk {H : Type} : DataW H → Nat
  | .lit (.string bytes) => bytes.length + 1
  | .lit _ => 1
  | .nil => 1
  | .ptr d => uptoBulk d + 1
  | .slice elems spare => uptoBulkAll elems + uptoBulkAll spare + 1
  | .agg parts => uptoBulkAll parts + 1
  | .iface _ d => uptoBulk d + 1
  | .map entries => uptoBulkEntries entries + 1
  | .held _ => 1
def uptoBulkAll {H : Type} : List (DataW H) → Nat
  | [] => 0
  | d :: r => uptoBulk d + uptoBulkAll r
def uptoBulkEntries {H : Type} : List (Lit × DataW H) → Nat
  | [] => 0
  | x :: r => uptoBulkEntry x + uptoBulkEntries r
def uptoBulkEntry {H : Type} : Lit × DataW H → Nat
  | (.string bytes, d) => bytes.length + uptoBulk d + 1
  | (_, d) => uptoBulk d + 1
 end
def uptoSmall : (H : Type) → List (DataW H) → Bool := fun _ ds => decide (uptoBulkAll ds ≤ 1048576)
def OpenSpec.upto (s : _root_.Go.ChangeSpec) : _root_.Go.OpenSpec := { _root_.Go.OpenSpec.ofChange s with cond := some uptoSmall }

/-- 'lysimeterlaw2.FloatsOf', WHERE WHAT IT READS IS OF BULK AT MOST 1048576: true; the input reads as it did. -/
def floatsOfUptoRow : OpenClaim := { program := "ytlifbogjjikhdaadoor", sum := "d8b4aa90b3efeb70579c8893aaf217cd94b0541984ee98357658ce4a179ccd1a", func := "lysimeter/lysimeterlaw2.FloatsOf", spec := "floatsOf", inPlace := ["math.Float64bits", "internal/bytealg.IndexByteString", "math.Float64frombits"], named := ["internal/strconv.uint64pow10", "math/bits.deBruijn32tab", "math/bits.deBruijn64tab"], apart := false, laid := [("math/bits.deBruijn32tab", laid_math_bits_deBruijn32tab), ("math/bits.deBruijn64tab", laid_math_bits_deBruijn64tab), ("internal/strconv.uint64pow10", laid_internal_strconv_uint64pow10)], narrowed := true }
def FloatsOfUptoSaid : Prop := floatsOfUptoRow.holds Tryd.pinned (OpenSpec.upto floatsOfSpec)

/-- 'lysimeterlaw2.FloatsEdges', WHERE WHAT IT READS IS OF BULK AT MOST 1048576: true; the input reads as it did. -/
def floatsEdgesUptoRow : OpenClaim := { program := "ytlifbogjjikhdaadoor", sum := "d8b4aa90b3efeb70579c8893aaf217cd94b0541984ee98357658ce4a179ccd1a", func := "lysimeter/lysimeterlaw2.FloatsEdges", spec := "floatsEdges", inPlace := ["math.Float64bits", "internal/bytealg.IndexByteString", "math.Float64frombits"], named := ["internal/strconv.uint64pow10", "math/bits.deBruijn32tab", "math/bits.deBruijn64tab"], apart := false, laid := [("math/bits.deBruijn32tab", laid_math_bits_deBruijn32tab), ("math/bits.deBruijn64tab", laid_math_bits_deBruijn64tab), ("internal/strconv.uint64pow10", laid_internal_strconv_uint64pow10)], narrowed := true }
def FloatsEdgesUptoSaid : Prop := floatsEdgesUptoRow.holds Tryd.pinned (OpenSpec.upto floatsEdgesSpec)

/-- 'lysimeterlaw2.FloatsBits', WHERE WHAT IT READS IS OF BULK AT MOST 1048576: true; the input reads as it did. -/
def floatsBitsUptoRow : OpenClaim := { program := "ytlifbogjjikhdaadoor", sum := "d8b4aa90b3efeb70579c8893aaf217cd94b0541984ee98357658ce4a179ccd1a", func := "lysimeter/lysimeterlaw2.FloatsBits", spec := "floatsBits", inPlace := ["math.Float64bits", "internal/bytealg.IndexByteString", "math.Float64frombits"], named := ["internal/strconv.uint64pow10", "math/bits.deBruijn32tab", "math/bits.deBruijn64tab"], apart := false, laid := [("math/bits.deBruijn32tab", laid_math_bits_deBruijn32tab), ("math/bits.deBruijn64tab", laid_math_bits_deBruijn64tab), ("internal/strconv.uint64pow10", laid_internal_strconv_uint64pow10)], narrowed := true }
def FloatsBitsUptoSaid : Prop := floatsBitsUptoRow.holds Tryd.pinned (OpenSpec.upto floatsBitsSpec)

/-- 'lysimeterlaw2.FloatsParse', WHERE WHAT IT READS IS OF BULK AT MOST 1048576: true; the input reads as it did. -/
def floatsParseUptoRow : OpenClaim := { program := "ytlifbogjjikhdaadoor", sum := "d8b4aa90b3efeb70579c8893aaf217cd94b0541984ee98357658ce4a179ccd1a", func := "lysimeter/lysimeterlaw2.FloatsParse", spec := "floatsParse", inPlace := ["math.Float64bits", "internal/bytealg.IndexByteString", "math.Float64frombits"], named := ["internal/strconv.uint64pow10", "math/bits.deBruijn32tab", "math/bits.deBruijn64tab"], apart := false, laid := [("math/bits.deBruijn32tab", laid_math_bits_deBruijn32tab), ("math/bits.deBruijn64tab", laid_math_bits_deBruijn64tab), ("internal/strconv.uint64pow10", laid_internal_strconv_uint64pow10)], narrowed := true }
def FloatsParseUptoSaid : Prop := floatsParseUptoRow.holds Tryd.pinned (OpenSpec.upto floatsParseSpec)

/-- 'lysimeterlaw2.FloatsShow', WHERE WHAT IT READS IS OF BULK AT MOST 1048576: true; the input reads as it did. -/
def floatsShowUptoRow : OpenClaim := { program := "ytlifbogjjikhdaadoor", sum := "d8b4aa90b3efeb70579c8893aaf217cd94b0541984ee98357658ce4a179ccd1a", func := "lysimeter/lysimeterlaw2.FloatsShow", spec := "floatsShow", inPlace := ["math.Float64bits", "internal/bytealg.IndexByteString", "math.Float64frombits"], recurses := true, named := ["internal/strconv.uint64pow10", "math/bits.deBruijn32tab", "math/bits.deBruijn64tab"], apart := false, laid := [("math/bits.deBruijn32tab", laid_math_bits_deBruijn32tab), ("math/bits.deBruijn64tab", laid_math_bits_deBruijn64tab), ("internal/strconv.uint64pow10", laid_internal_strconv_uint64pow10)], narrowed := true }
def FloatsShowUptoSaid : Prop := floatsShowUptoRow.holds Tryd.pinned (OpenSpec.upto floatsShowSpec)

/-- 'lysimeterlaw2.FloatsWhole', WHERE WHAT IT READS IS OF BULK AT MOST 1048576: true; the input reads as it did. -/
def floatsWholeUptoRow : OpenClaim := { program := "ytlifbogjjikhdaadoor", sum := "d8b4aa90b3efeb70579c8893aaf217cd94b0541984ee98357658ce4a179ccd1a", func := "lysimeter/lysimeterlaw2.FloatsWhole", spec := "floatsWhole", inPlace := ["math.Float64bits", "internal/bytealg.IndexByteString", "math.Float64frombits"], recurses := true, named := ["internal/strconv.uint64pow10", "math/bits.deBruijn32tab", "math/bits.deBruijn64tab"], apart := false, laid := [("math/bits.deBruijn32tab", laid_math_bits_deBruijn32tab), ("math/bits.deBruijn64tab", laid_math_bits_deBruijn64tab), ("internal/strconv.uint64pow10", laid_internal_strconv_uint64pow10)], narrowed := true }
def FloatsWholeUptoSaid : Prop := floatsWholeUptoRow.holds Tryd.pinned (OpenSpec.upto floatsWholeSpec)

/-- 'lysimeterlaw2.FloatsOrder', WHERE WHAT IT READS IS OF BULK AT MOST 1048576: true; the input reads as it did. -/
def floatsOrderUptoRow : OpenClaim := { program := "ytlifbogjjikhdaadoor", sum := "d8b4aa90b3efeb70579c8893aaf217cd94b0541984ee98357658ce4a179ccd1a", func := "lysimeter/lysimeterlaw2.FloatsOrder", spec := "floatsOrder", inPlace := ["math.Float64bits", "internal/bytealg.IndexByteString", "math.Float64frombits"], named := ["internal/strconv.uint64pow10", "math/bits.deBruijn32tab", "math/bits.deBruijn64tab"], apart := false, laid := [("math/bits.deBruijn32tab", laid_math_bits_deBruijn32tab), ("math/bits.deBruijn64tab", laid_math_bits_deBruijn64tab), ("internal/strconv.uint64pow10", laid_internal_strconv_uint64pow10)], narrowed := true }
def FloatsOrderUptoSaid : Prop := floatsOrderUptoRow.holds Tryd.pinned (OpenSpec.upto floatsOrderSpec)

/-- 'lysimeterlaw2.FloatsDigits', WHERE WHAT IT READS IS OF BULK AT MOST 1048576: true; the input reads as it did. -/
def floatsDigitsUptoRow : OpenClaim := { program := "ytlifbogjjikhdaadoor", sum := "d8b4aa90b3efeb70579c8893aaf217cd94b0541984ee98357658ce4a179ccd1a", func := "lysimeter/lysimeterlaw2.FloatsDigits", spec := "floatsDigits", inPlace := ["math.Float64bits", "internal/bytealg.IndexByteString", "math.Float64frombits"], recurses := true, named := ["internal/strconv.uint64pow10", "math/bits.deBruijn32tab", "math/bits.deBruijn64tab"], apart := false, laid := [("math/bits.deBruijn32tab", laid_math_bits_deBruijn32tab), ("math/bits.deBruijn64tab", laid_math_bits_deBruijn64tab), ("internal/strconv.uint64pow10", laid_internal_strconv_uint64pow10)], narrowed := true }
def FloatsDigitsUptoSaid : Prop := floatsDigitsUptoRow.holds Tryd.pinned (OpenSpec.upto floatsDigitsSpec)

/-- 'lysimeterlaw2.FloatsBack', WHERE WHAT IT READS IS OF BULK AT MOST 1048576: true; the input reads as it did. -/
def floatsBackUptoRow : OpenClaim := { program := "ytlifbogjjikhdaadoor", sum := "d8b4aa90b3efeb70579c8893aaf217cd94b0541984ee98357658ce4a179ccd1a", func := "lysimeter/lysimeterlaw2.FloatsBack", spec := "floatsBack", inPlace := ["math.Float64bits", "internal/bytealg.IndexByteString", "math.Float64frombits"], named := ["internal/strconv.uint64pow10", "math/bits.deBruijn32tab", "math/bits.deBruijn64tab"], apart := false, laid := [("math/bits.deBruijn32tab", laid_math_bits_deBruijn32tab), ("math/bits.deBruijn64tab", laid_math_bits_deBruijn64tab), ("internal/strconv.uint64pow10", laid_internal_strconv_uint64pow10)], narrowed := true }
def FloatsBackUptoSaid : Prop := floatsBackUptoRow.holds Tryd.pinned (OpenSpec.upto floatsBackSpec)

end Rows
end Go.Proofs.YtlifbogjjikhdaaDoor
