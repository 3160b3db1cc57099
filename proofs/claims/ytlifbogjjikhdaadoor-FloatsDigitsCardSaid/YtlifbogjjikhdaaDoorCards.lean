/-
  DERIVED. GIVEN WITH THE SEED: THE CARDS: each row of YtlifbogjjikhdaaDoorRows.lean that lists a variable, with what it lists TIED to the program's text (the seventh form; the later family's looks); each row that meets fmt, with fmt's text TOLD by the authors' own Lean function (tested against real Go, not proved from fmt's source: count such statements apart). THE CARD IS WHAT COUNTS. Prove the row's statement (the work); the ties are given (YtlifbogjjikhdaaDoorTie.lean); close each card by the builder's one call (the guide's Derived/Test/ToyasCard.lean, 'card_holds'). Laid BY PROGRAM, IN A SANDBOX (cutbox-door.mjs). By AI agents, Wed Nov 11 2026. No macro, syntax, notation, axiom, sorry.
-/
import Derived.Test.YtlifbogjjikhdaaDoorRows
import GoSem.ClaimSeven
namespace Go.Proofs.YtlifbogjjikhdaaDoor
namespace Rows

/-- THE TIED CARD OF 'lysimeterlaw2.FloatsOf'. -/
def floatsOfCard : Claim7 := { stood := { row := floatsOfRow, standIns := [], harness := (true, "d6d8c83535152071f5c39a6202c6aa14b76c6ab3078df765f5b24e7134d1c620"), looks := false }, kinds := [], alts := [], laidByText := true, laidKinds := [.data, .data, .data], laidTests := true, laidLooks := .later }
def FloatsOfCardSaid : Prop := Claim7.holds Tryd.pinned (.plain (OpenSpec.ofChange floatsOfSpec)) floatsOfCard

/-- THE TIED CARD OF 'lysimeterlaw2.FloatsEdges'. -/
def floatsEdgesCard : Claim7 := { stood := { row := floatsEdgesRow, standIns := [], harness := (true, "d6d8c83535152071f5c39a6202c6aa14b76c6ab3078df765f5b24e7134d1c620"), looks := false }, kinds := [], alts := [], laidByText := true, laidKinds := [.data, .data, .data], laidTests := true, laidLooks := .later }
def FloatsEdgesCardSaid : Prop := Claim7.holds Tryd.pinned (.plain (OpenSpec.ofChange floatsEdgesSpec)) floatsEdgesCard

/-- THE TIED CARD OF 'lysimeterlaw2.FloatsBits'. -/
def floatsBitsCard : Claim7 := { stood := { row := floatsBitsRow, standIns := [], harness := (true, "d6d8c83535152071f5c39a6202c6aa14b76c6ab3078df765f5b24e7134d1c620"), looks := false }, kinds := [], alts := [], laidByText := true, laidKinds := [.data, .data, .data], laidTests := true, laidLooks := .later }
def FloatsBitsCardSaid : Prop := Claim7.holds Tryd.pinned (.plain (OpenSpec.ofChange floatsBitsSpec)) floatsBitsCard

/-- THE TIED CARD OF 'lysimeterlaw2.FloatsParse'. -/
def floatsParseCard : Claim7 := { stood := { row := floatsParseRow, standIns := [], harness := (true, "d6d8c83535152071f5c39a6202c6aa14b76c6ab3078df765f5b24e7134d1c620"), looks := false }, kinds := [], alts := [], laidByText := true, laidKinds := [.data, .data, .data], laidTests := true, laidLooks := .later }
def FloatsParseCardSaid : Prop := Claim7.holds Tryd.pinned (.plain (OpenSpec.ofChange floatsParseSpec)) floatsParseCard

/-- THE TIED CARD OF 'lysimeterlaw2.FloatsShow'. -/
def floatsShowCard : Claim7 := { stood := { row := floatsShowRow, standIns := [], harness := (true, "d6d8c83535152071f5c39a6202c6aa14b76c6ab3078df765f5b24e7134d1c620"), looks := false }, kinds := [], alts := [], laidByText := true, laidKinds := [.data, .data, .data], laidTests := true, laidLooks := .later }
def FloatsShowCardSaid : Prop := Claim7.holds Tryd.pinned (.plain (OpenSpec.ofChange floatsShowSpec)) floatsShowCard

/-- THE TIED CARD OF 'lysimeterlaw2.FloatsWhole'. -/
def floatsWholeCard : Claim7 := { stood := { row := floatsWholeRow, standIns := [], harness := (true, "d6d8c83535152071f5c39a6202c6aa14b76c6ab3078df765f5b24e7134d1c620"), looks := false }, kinds := [], alts := [], laidByText := true, laidKinds := [.data, .data, .data], laidTests := true, laidLooks := .later }
def FloatsWholeCardSaid : Prop := Claim7.holds Tryd.pinned (.plain (OpenSpec.ofChange floatsWholeSpec)) floatsWholeCard

/-- THE TIED CARD OF 'lysimeterlaw2.FloatsOrder'. -/
def floatsOrderCard : Claim7 := { stood := { row := floatsOrderRow, standIns := [], harness := (true, "d6d8c83535152071f5c39a6202c6aa14b76c6ab3078df765f5b24e7134d1c620"), looks := false }, kinds := [], alts := [], laidByText := true, laidKinds := [.data, .data, .data], laidTests := true, laidLooks := .later }
def FloatsOrderCardSaid : Prop := Claim7.holds Tryd.pinned (.plain (OpenSpec.ofChange floatsOrderSpec)) floatsOrderCard

/-- THE TIED CARD OF 'lysimeterlaw2.FloatsDigits'. -/
def floatsDigitsCard : Claim7 := { stood := { row := floatsDigitsRow, standIns := [], harness := (true, "d6d8c83535152071f5c39a6202c6aa14b76c6ab3078df765f5b24e7134d1c620"), looks := false }, kinds := [], alts := [], laidByText := true, laidKinds := [.data, .data, .data], laidTests := true, laidLooks := .later }
def FloatsDigitsCardSaid : Prop := Claim7.holds Tryd.pinned (.plain (OpenSpec.ofChange floatsDigitsSpec)) floatsDigitsCard

/-- THE TIED CARD OF 'lysimeterlaw2.FloatsBack'. -/
def floatsBackCard : Claim7 := { stood := { row := floatsBackRow, standIns := [], harness := (true, "d6d8c83535152071f5c39a6202c6aa14b76c6ab3078df765f5b24e7134d1c620"), looks := false }, kinds := [], alts := [], laidByText := true, laidKinds := [.data, .data, .data], laidTests := true, laidLooks := .later }
def FloatsBackCardSaid : Prop := Claim7.holds Tryd.pinned (.plain (OpenSpec.ofChange floatsBackSpec)) floatsBackCard

/-- THE SECOND FORM's CARD OF 'lysimeterlaw2.FloatsOf'. -/
def floatsOfUptoCard : Claim7 := { stood := { row := floatsOfUptoRow, standIns := [], harness := (true, "d6d8c83535152071f5c39a6202c6aa14b76c6ab3078df765f5b24e7134d1c620"), looks := false }, kinds := [], alts := [], laidByText := true, laidKinds := [.data, .data, .data], laidTests := true, laidLooks := .later }
def FloatsOfUptoCardSaid : Prop := Claim7.holds Tryd.pinned (.plain (OpenSpec.upto floatsOfSpec)) floatsOfUptoCard

/-- THE SECOND FORM's CARD OF 'lysimeterlaw2.FloatsEdges'. -/
def floatsEdgesUptoCard : Claim7 := { stood := { row := floatsEdgesUptoRow, standIns := [], harness := (true, "d6d8c83535152071f5c39a6202c6aa14b76c6ab3078df765f5b24e7134d1c620"), looks := false }, kinds := [], alts := [], laidByText := true, laidKinds := [.data, .data, .data], laidTests := true, laidLooks := .later }
def FloatsEdgesUptoCardSaid : Prop := Claim7.holds Tryd.pinned (.plain (OpenSpec.upto floatsEdgesSpec)) floatsEdgesUptoCard

/-- THE SECOND FORM's CARD OF 'lysimeterlaw2.FloatsBits'. -/
def floatsBitsUptoCard : Claim7 := { stood := { row := floatsBitsUptoRow, standIns := [], harness := (true, "d6d8c83535152071f5c39a6202c6aa14b76c6ab3078df765f5b24e7134d1c620"), looks := false }, kinds := [], alts := [], laidByText := true, laidKinds := [.data, .data, .data], laidTests := true, laidLooks := .later }
def FloatsBitsUptoCardSaid : Prop := Claim7.holds Tryd.pinned (.plain (OpenSpec.upto floatsBitsSpec)) floatsBitsUptoCard

/-- THE SECOND FORM's CARD OF 'lysimeterlaw2.FloatsParse'. -/
def floatsParseUptoCard : Claim7 := { stood := { row := floatsParseUptoRow, standIns := [], harness := (true, "d6d8c83535152071f5c39a6202c6aa14b76c6ab3078df765f5b24e7134d1c620"), looks := false }, kinds := [], alts := [], laidByText := true, laidKinds := [.data, .data, .data], laidTests := true, laidLooks := .later }
def FloatsParseUptoCardSaid : Prop := Claim7.holds Tryd.pinned (.plain (OpenSpec.upto floatsParseSpec)) floatsParseUptoCard

/-- THE SECOND FORM's CARD OF 'lysimeterlaw2.FloatsShow'. -/
def floatsShowUptoCard : Claim7 := { stood := { row := floatsShowUptoRow, standIns := [], harness := (true, "d6d8c83535152071f5c39a6202c6aa14b76c6ab3078df765f5b24e7134d1c620"), looks := false }, kinds := [], alts := [], laidByText := true, laidKinds := [.data, .data, .data], laidTests := true, laidLooks := .later }
def FloatsShowUptoCardSaid : Prop := Claim7.holds Tryd.pinned (.plain (OpenSpec.upto floatsShowSpec)) floatsShowUptoCard

/-- THE SECOND FORM's CARD OF 'lysimeterlaw2.FloatsWhole'. -/
def floatsWholeUptoCard : Claim7 := { stood := { row := floatsWholeUptoRow, standIns := [], harness := (true, "d6d8c83535152071f5c39a6202c6aa14b76c6ab3078df765f5b24e7134d1c620"), looks := false }, kinds := [], alts := [], laidByText := true, laidKinds := [.data, .data, .data], laidTests := true, laidLooks := .later }
def FloatsWholeUptoCardSaid : Prop := Claim7.holds Tryd.pinned (.plain (OpenSpec.upto floatsWholeSpec)) floatsWholeUptoCard

/-- THE SECOND FORM's CARD OF 'lysimeterlaw2.FloatsOrder'. -/
def floatsOrderUptoCard : Claim7 := { stood := { row := floatsOrderUptoRow, standIns := [], harness := (true, "d6d8c83535152071f5c39a6202c6aa14b76c6ab3078df765f5b24e7134d1c620"), looks := false }, kinds := [], alts := [], laidByText := true, laidKinds := [.data, .data, .data], laidTests := true, laidLooks := .later }
def FloatsOrderUptoCardSaid : Prop := Claim7.holds Tryd.pinned (.plain (OpenSpec.upto floatsOrderSpec)) floatsOrderUptoCard

/-- THE SECOND FORM's CARD OF 'lysimeterlaw2.FloatsDigits'. -/
def floatsDigitsUptoCard : Claim7 := { stood := { row := floatsDigitsUptoRow, standIns := [], harness := (true, "d6d8c83535152071f5c39a6202c6aa14b76c6ab3078df765f5b24e7134d1c620"), looks := false }, kinds := [], alts := [], laidByText := true, laidKinds := [.data, .data, .data], laidTests := true, laidLooks := .later }
def FloatsDigitsUptoCardSaid : Prop := Claim7.holds Tryd.pinned (.plain (OpenSpec.upto floatsDigitsSpec)) floatsDigitsUptoCard

/-- THE SECOND FORM's CARD OF 'lysimeterlaw2.FloatsBack'. -/
def floatsBackUptoCard : Claim7 := { stood := { row := floatsBackUptoRow, standIns := [], harness := (true, "d6d8c83535152071f5c39a6202c6aa14b76c6ab3078df765f5b24e7134d1c620"), looks := false }, kinds := [], alts := [], laidByText := true, laidKinds := [.data, .data, .data], laidTests := true, laidLooks := .later }
def FloatsBackUptoCardSaid : Prop := Claim7.holds Tryd.pinned (.plain (OpenSpec.upto floatsBackSpec)) floatsBackUptoCard
end Rows
end Go.Proofs.YtlifbogjjikhdaaDoor
