/-
  DERIVED. GIVEN WITH THE SEED: THE CARDS: each row of YtkmhjgejficclaaDoorRows.lean that lists a variable, with what it lists TIED to the program's text (the seventh form; the later family's looks); each row that meets fmt, with fmt's text TOLD by the authors' own Lean function (tested against real Go, not proved from fmt's source: count such statements apart). THE CARD IS WHAT COUNTS. Prove the row's statement (the work); the ties are given (YtkmhjgejficclaaDoorTie.lean); close each card by the builder's one call (the guide's Derived/Test/ToyasCard.lean, 'card_holds'). Laid BY PROGRAM, IN A SANDBOX (cutbox-door.mjs). By AI agents, Wed Nov 11 2026. No macro, syntax, notation, axiom, sorry.
-/
import Derived.Test.YtkmhjgejficclaaDoorRows
import GoSem.ClaimSeven
namespace Go.Proofs.YtkmhjgejficclaaDoor
namespace Rows

/-- THE TIED CARD OF 'laws.FnExactParseBits'. -/
def fnExactParseBitsCard : Claim7 := { stood := { row := fnExactParseBitsRow, standIns := [], harness := (true, "166b71874a162eb4ff4a6cfadeadd6f7a56bebf98a166c33c6b3a17c63c3db58"), looks := false }, kinds := [], alts := [], laidByText := true, laidKinds := [.data, .pinned], laidTests := true, laidLooks := .later }
def FnExactParseBitsCardSaid : Prop := Claim7.holds Tryd.pinned (.plain (OpenSpec.ofChange fnExactParseBitsSpec)) fnExactParseBitsCard

/-- THE TIED CARD OF 'laws.FnBitTexts'. -/
def fnBitTextsCard : Claim7 := { stood := { row := fnBitTextsRow, standIns := [], harness := (true, "166b71874a162eb4ff4a6cfadeadd6f7a56bebf98a166c33c6b3a17c63c3db58"), looks := false }, kinds := [], alts := [], laidByText := true, laidKinds := [.data, .pinned], laidTests := true, laidLooks := .later }
def FnBitTextsCardSaid : Prop := Claim7.holds Tryd.pinned (.plain (OpenSpec.ofChange fnBitTextsSpec)) fnBitTextsCard

/-- THE SECOND FORM's CARD OF 'laws.FnExactParseBits'. -/
def fnExactParseBitsUptoCard : Claim7 := { stood := { row := fnExactParseBitsUptoRow, standIns := [], harness := (true, "166b71874a162eb4ff4a6cfadeadd6f7a56bebf98a166c33c6b3a17c63c3db58"), looks := false }, kinds := [], alts := [], laidByText := true, laidKinds := [.data, .pinned], laidTests := true, laidLooks := .later }
def FnExactParseBitsUptoCardSaid : Prop := Claim7.holds Tryd.pinned (.plain (OpenSpec.upto fnExactParseBitsSpec)) fnExactParseBitsUptoCard

/-- THE SECOND FORM's CARD OF 'laws.FnBitTexts'. -/
def fnBitTextsUptoCard : Claim7 := { stood := { row := fnBitTextsUptoRow, standIns := [], harness := (true, "166b71874a162eb4ff4a6cfadeadd6f7a56bebf98a166c33c6b3a17c63c3db58"), looks := false }, kinds := [], alts := [], laidByText := true, laidKinds := [.data, .pinned], laidTests := true, laidLooks := .later }
def FnBitTextsUptoCardSaid : Prop := Claim7.holds Tryd.pinned (.plain (OpenSpec.upto fnBitTextsSpec)) fnBitTextsUptoCard
end Rows
end Go.Proofs.YtkmhjgejficclaaDoor
