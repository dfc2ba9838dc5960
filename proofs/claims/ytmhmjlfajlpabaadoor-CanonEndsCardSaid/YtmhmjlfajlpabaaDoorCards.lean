/-
  DERIVED. GIVEN WITH THE SEED: THE CARDS: each row of YtmhmjlfajlpabaaDoorRows.lean that lists a variable, with what it lists TIED to the program's text (the seventh form; the later family's looks); each row that meets fmt, with fmt's text TOLD by the authors' own Lean function (tested against real Go, not proved from fmt's source: count such statements apart). THE CARD IS WHAT COUNTS. Prove the row's statement (the work); the ties are given (YtmhmjlfajlpabaaDoorTie.lean); close each card by the builder's one call (the guide's Derived/Test/ToyasCard.lean, 'card_holds'). Laid BY PROGRAM, IN A SANDBOX (cutbox-door.mjs). By AI agents, Wed Nov 11 2026. No macro, syntax, notation, axiom, sorry.
-/
import Derived.Test.YtmhmjlfajlpabaaDoorRows
import GoSem.ClaimSeven
namespace Go.Proofs.YtmhmjlfajlpabaaDoor
namespace Rows

/-- THE TIED CARD OF 'agoralaw01.CanonOnce'. -/
def canonOnceCard : Claim7 := { stood := { row := canonOnceRow, standIns := [], harness := (true, "be7fad43d2f41848e495d6282419bb822c522f0fda0af8af5337c8518e52f2d7"), looks := true }, kinds := [], alts := [], laidByText := true, laidKinds := [.data, .data, .data, .data, .pinned], laidTests := true, laidLooks := .later }
def CanonOnceCardSaid : Prop := Claim7.holds Tryd.pinned (.plain (OpenSpec.ofChange canonOnceSpec)) canonOnceCard

/-- THE TIED CARD OF 'agoralaw01.CanonApart'. -/
def canonApartCard : Claim7 := { stood := { row := canonApartRow, standIns := [], harness := (true, "be7fad43d2f41848e495d6282419bb822c522f0fda0af8af5337c8518e52f2d7"), looks := true }, kinds := [], alts := [], laidByText := true, laidKinds := [.data, .data, .data, .data, .pinned], laidTests := true, laidLooks := .later }
def CanonApartCardSaid : Prop := Claim7.holds Tryd.pinned (.plain (OpenSpec.ofChange canonApartSpec)) canonApartCard

/-- THE TIED CARD OF 'agoralaw01.CanonBlanks'. -/
def canonBlanksCard : Claim7 := { stood := { row := canonBlanksRow, standIns := [], harness := (true, "be7fad43d2f41848e495d6282419bb822c522f0fda0af8af5337c8518e52f2d7"), looks := true }, kinds := [], alts := [], laidByText := true, laidKinds := [.data, .data, .data, .data, .pinned], laidTests := true, laidLooks := .later }
def CanonBlanksCardSaid : Prop := Claim7.holds Tryd.pinned (.plain (OpenSpec.ofChange canonBlanksSpec)) canonBlanksCard

/-- THE TIED CARD OF 'agoralaw01.CanonTexts'. -/
def canonTextsCard : Claim7 := { stood := { row := canonTextsRow, standIns := [], harness := (true, "be7fad43d2f41848e495d6282419bb822c522f0fda0af8af5337c8518e52f2d7"), looks := true }, kinds := [], alts := [], laidByText := true, laidKinds := [.data, .data, .data, .data, .pinned], laidTests := true, laidLooks := .later }
def CanonTextsCardSaid : Prop := Claim7.holds Tryd.pinned (.plain (OpenSpec.ofChange canonTextsSpec)) canonTextsCard

/-- THE TIED CARD OF 'agoralaw01.CanonEnds'. -/
def canonEndsCard : Claim7 := { stood := { row := canonEndsRow, standIns := [], harness := (true, "be7fad43d2f41848e495d6282419bb822c522f0fda0af8af5337c8518e52f2d7"), looks := true }, kinds := [], alts := [], laidByText := true, laidKinds := [.data, .data, .data, .data, .pinned], laidTests := true, laidLooks := .later }
def CanonEndsCardSaid : Prop := Claim7.holds Tryd.pinned (.plain (OpenSpec.ofChange canonEndsSpec)) canonEndsCard

/-- THE TIED CARD OF 'agoralaw01.CanonEncodes'. -/
def canonEncodesCard : Claim7 := { stood := { row := canonEncodesRow, standIns := [], harness := (true, "be7fad43d2f41848e495d6282419bb822c522f0fda0af8af5337c8518e52f2d7"), looks := true }, kinds := [], alts := [], laidByText := true, laidKinds := [.data, .data, .data, .data, .pinned], laidTests := true, laidLooks := .later }
def CanonEncodesCardSaid : Prop := Claim7.holds Tryd.pinned (.plain (OpenSpec.ofChange canonEncodesSpec)) canonEncodesCard

/-- THE TIED CARD OF 'agoralaw01.CanonBack'. -/
def canonBackCard : Claim7 := { stood := { row := canonBackRow, standIns := [], harness := (true, "be7fad43d2f41848e495d6282419bb822c522f0fda0af8af5337c8518e52f2d7"), looks := true }, kinds := [], alts := [], laidByText := true, laidKinds := [.data, .data, .data, .data, .pinned], laidTests := true, laidLooks := .later }
def CanonBackCardSaid : Prop := Claim7.holds Tryd.pinned (.plain (OpenSpec.ofChange canonBackSpec)) canonBackCard

/-- THE SECOND FORM's CARD OF 'agoralaw01.CanonOnce'. -/
def canonOnceUptoCard : Claim7 := { stood := { row := canonOnceUptoRow, standIns := [], harness := (true, "be7fad43d2f41848e495d6282419bb822c522f0fda0af8af5337c8518e52f2d7"), looks := true }, kinds := [], alts := [], laidByText := true, laidKinds := [.data, .data, .data, .data, .pinned], laidTests := true, laidLooks := .later }
def CanonOnceUptoCardSaid : Prop := Claim7.holds Tryd.pinned (.plain (OpenSpec.upto canonOnceSpec)) canonOnceUptoCard

/-- THE SECOND FORM's CARD OF 'agoralaw01.CanonApart'. -/
def canonApartUptoCard : Claim7 := { stood := { row := canonApartUptoRow, standIns := [], harness := (true, "be7fad43d2f41848e495d6282419bb822c522f0fda0af8af5337c8518e52f2d7"), looks := true }, kinds := [], alts := [], laidByText := true, laidKinds := [.data, .data, .data, .data, .pinned], laidTests := true, laidLooks := .later }
def CanonApartUptoCardSaid : Prop := Claim7.holds Tryd.pinned (.plain (OpenSpec.upto canonApartSpec)) canonApartUptoCard

/-- THE SECOND FORM's CARD OF 'agoralaw01.CanonBlanks'. -/
def canonBlanksUptoCard : Claim7 := { stood := { row := canonBlanksUptoRow, standIns := [], harness := (true, "be7fad43d2f41848e495d6282419bb822c522f0fda0af8af5337c8518e52f2d7"), looks := true }, kinds := [], alts := [], laidByText := true, laidKinds := [.data, .data, .data, .data, .pinned], laidTests := true, laidLooks := .later }
def CanonBlanksUptoCardSaid : Prop := Claim7.holds Tryd.pinned (.plain (OpenSpec.upto canonBlanksSpec)) canonBlanksUptoCard

/-- THE SECOND FORM's CARD OF 'agoralaw01.CanonTexts'. -/
def canonTextsUptoCard : Claim7 := { stood := { row := canonTextsUptoRow, standIns := [], harness := (true, "be7fad43d2f41848e495d6282419bb822c522f0fda0af8af5337c8518e52f2d7"), looks := true }, kinds := [], alts := [], laidByText := true, laidKinds := [.data, .data, .data, .data, .pinned], laidTests := true, laidLooks := .later }
def CanonTextsUptoCardSaid : Prop := Claim7.holds Tryd.pinned (.plain (OpenSpec.upto canonTextsSpec)) canonTextsUptoCard

/-- THE SECOND FORM's CARD OF 'agoralaw01.CanonEnds'. -/
def canonEndsUptoCard : Claim7 := { stood := { row := canonEndsUptoRow, standIns := [], harness := (true, "be7fad43d2f41848e495d6282419bb822c522f0fda0af8af5337c8518e52f2d7"), looks := true }, kinds := [], alts := [], laidByText := true, laidKinds := [.data, .data, .data, .data, .pinned], laidTests := true, laidLooks := .later }
def CanonEndsUptoCardSaid : Prop := Claim7.holds Tryd.pinned (.plain (OpenSpec.upto canonEndsSpec)) canonEndsUptoCard

/-- THE SECOND FORM's CARD OF 'agoralaw01.CanonEncodes'. -/
def canonEncodesUptoCard : Claim7 := { stood := { row := canonEncodesUptoRow, standIns := [], harness := (true, "be7fad43d2f41848e495d6282419bb822c522f0fda0af8af5337c8518e52f2d7"), looks := true }, kinds := [], alts := [], laidByText := true, laidKinds := [.data, .data, .data, .data, .pinned], laidTests := true, laidLooks := .later }
def CanonEncodesUptoCardSaid : Prop := Claim7.holds Tryd.pinned (.plain (OpenSpec.upto canonEncodesSpec)) canonEncodesUptoCard

/-- THE SECOND FORM's CARD OF 'agoralaw01.CanonBack'. -/
def canonBackUptoCard : Claim7 := { stood := { row := canonBackUptoRow, standIns := [], harness := (true, "be7fad43d2f41848e495d6282419bb822c522f0fda0af8af5337c8518e52f2d7"), looks := true }, kinds := [], alts := [], laidByText := true, laidKinds := [.data, .data, .data, .data, .pinned], laidTests := true, laidLooks := .later }
def CanonBackUptoCardSaid : Prop := Claim7.holds Tryd.pinned (.plain (OpenSpec.upto canonBackSpec)) canonBackUptoCard
end Rows
end Go.Proofs.YtmhmjlfajlpabaaDoor
