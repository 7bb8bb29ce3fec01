/-
  DERIVED. GIVEN WITH THE SEED: THE CARDS: each row of YtmppkcdphgelcaaDoorRows.lean that lists a variable, with what it lists TIED to the program's text (the seventh form; the later family's looks); each row that meets fmt, with fmt's text TOLD by the authors' own Lean function (tested against real Go, not proved from fmt's source: count such statements apart). THE CARD IS WHAT COUNTS. Prove the row's statement (the work); the ties are given (YtmppkcdphgelcaaDoorTie.lean); close each card by the builder's one call (the guide's Derived/Test/ToyasCard.lean, 'card_holds'). Laid BY PROGRAM, IN A SANDBOX (cutbox-door.mjs). By AI agents, Wed Nov 11 2026. No macro, syntax, notation, axiom, sorry.
-/
import Derived.Test.YtmppkcdphgelcaaDoorRows
import GoSem.ClaimSeven
namespace Go.Proofs.YtmppkcdphgelcaaDoor
namespace Rows

/-- THE TIED CARD OF 'siskinlaw44.ActTexts'. -/
def actTextsCard : Claim7 := { stood := { row := actTextsRow, standIns := [], harness := (true, "ff2e1d950d387f4b7d1a6f706b5adf1bb06264870c95f08252e79fe754272d7f"), looks := true }, kinds := [], alts := [], laidByText := true, laidKinds := [.data, .data, .data, .sentinel, .sentinel, .data], laidTests := true, laidLooks := .later }
def ActTextsCardSaid : Prop := Claim7.holds Tryd.pinned (.plain (OpenSpec.ofChange actTextsSpec)) actTextsCard

/-- THE TIED CARD OF 'siskinlaw14.ConfNumbers'. -/
def confNumbersCard : Claim7 := { stood := { row := confNumbersRow, standIns := [], harness := (true, "ff2e1d950d387f4b7d1a6f706b5adf1bb06264870c95f08252e79fe754272d7f"), looks := true }, kinds := [], alts := [], laidByText := true, laidKinds := [.data, .data, .data, .data, .sentinel, .sentinel, .pinned], laidTests := true, laidLooks := .later }
def ConfNumbersCardSaid : Prop := Claim7.holds Tryd.pinned (.plain (OpenSpec.ofChange confNumbersSpec)) confNumbersCard

/-- THE TIED CARD OF 'siskinlaw14.ConfBack'. -/
def confBackCard : Claim7 := { stood := { row := confBackRow, standIns := [], harness := (true, "ff2e1d950d387f4b7d1a6f706b5adf1bb06264870c95f08252e79fe754272d7f"), looks := true }, kinds := [], alts := [], laidByText := true, laidKinds := [.data, .data, .data, .data, .sentinel, .sentinel, .pinned], laidTests := true, laidLooks := .later }
def ConfBackCardSaid : Prop := Claim7.holds Tryd.pinned (.plain (OpenSpec.ofChange confBackSpec)) confBackCard

/-- THE SECOND FORM's CARD OF 'siskinlaw44.ActTexts'. -/
def actTextsUptoCard : Claim7 := { stood := { row := actTextsUptoRow, standIns := [], harness := (true, "ff2e1d950d387f4b7d1a6f706b5adf1bb06264870c95f08252e79fe754272d7f"), looks := true }, kinds := [], alts := [], laidByText := true, laidKinds := [.data, .data, .data, .sentinel, .sentinel, .data], laidTests := true, laidLooks := .later }
def ActTextsUptoCardSaid : Prop := Claim7.holds Tryd.pinned (.plain (OpenSpec.upto actTextsSpec)) actTextsUptoCard

/-- THE SECOND FORM's CARD OF 'siskinlaw14.ConfNumbers'. -/
def confNumbersUptoCard : Claim7 := { stood := { row := confNumbersUptoRow, standIns := [], harness := (true, "ff2e1d950d387f4b7d1a6f706b5adf1bb06264870c95f08252e79fe754272d7f"), looks := true }, kinds := [], alts := [], laidByText := true, laidKinds := [.data, .data, .data, .data, .sentinel, .sentinel, .pinned], laidTests := true, laidLooks := .later }
def ConfNumbersUptoCardSaid : Prop := Claim7.holds Tryd.pinned (.plain (OpenSpec.upto confNumbersSpec)) confNumbersUptoCard

/-- THE SECOND FORM's CARD OF 'siskinlaw14.ConfBack'. -/
def confBackUptoCard : Claim7 := { stood := { row := confBackUptoRow, standIns := [], harness := (true, "ff2e1d950d387f4b7d1a6f706b5adf1bb06264870c95f08252e79fe754272d7f"), looks := true }, kinds := [], alts := [], laidByText := true, laidKinds := [.data, .data, .data, .data, .sentinel, .sentinel, .pinned], laidTests := true, laidLooks := .later }
def ConfBackUptoCardSaid : Prop := Claim7.holds Tryd.pinned (.plain (OpenSpec.upto confBackSpec)) confBackUptoCard
end Rows
end Go.Proofs.YtmppkcdphgelcaaDoor
