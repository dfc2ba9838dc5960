/-
  DERIVED. GIVEN WITH THE SEED: THE CARDS: each row of YtoimlfaiibadgaaDoorRows.lean that lists a variable, with what it lists TIED to the program's text (the seventh form; the later family's looks); each row that meets fmt, with fmt's text TOLD by the authors' own Lean function (tested against real Go, not proved from fmt's source: count such statements apart). THE CARD IS WHAT COUNTS. Prove the row's statement (the work); the ties are given (YtoimlfaiibadgaaDoorTie.lean); close each card by the builder's one call (the guide's Derived/Test/ToyasCard.lean, 'card_holds'). Laid BY PROGRAM, IN A SANDBOX (cutbox-door.mjs). By AI agents, Wed Nov 11 2026. No macro, syntax, notation, axiom, sorry.
-/
import Derived.Test.YtoimlfaiibadgaaDoorRows
import GoSem.ClaimSeven
namespace Go.Proofs.YtoimlfaiibadgaaDoor
namespace Rows

/-- THE TIED CARD OF 'agoralaw24.FilterParses'. -/
def filterParsesCard : Claim7 := { stood := { row := filterParsesRow, standIns := [], harness := (true, "8ab5c144e664c57e08b933514de874b2d35b381bb6a7f9c6051fb1ed485859f2"), looks := false }, kinds := [], alts := [], laidByText := true, laidKinds := [.data, .pinned], laidTests := true, laidLooks := .later }
def FilterParsesCardSaid : Prop := Claim7.holds Tryd.pinned (.plain (OpenSpec.ofChange filterParsesSpec)) filterParsesCard

/-- THE TIED CARD OF 'agoralaw24.FilterKeeps'. -/
def filterKeepsCard : Claim7 := { stood := { row := filterKeepsRow, standIns := [], harness := (true, "8ab5c144e664c57e08b933514de874b2d35b381bb6a7f9c6051fb1ed485859f2"), looks := false }, kinds := [], alts := [], laidByText := true, laidKinds := [.data, .pinned], laidTests := true, laidLooks := .later }
def FilterKeepsCardSaid : Prop := Claim7.holds Tryd.pinned (.plain (OpenSpec.ofChange filterKeepsSpec)) filterKeepsCard

/-- THE TIED CARD OF 'agoralaw24.FilterBack'. -/
def filterBackCard : Claim7 := { stood := { row := filterBackRow, standIns := [], harness := (true, "8ab5c144e664c57e08b933514de874b2d35b381bb6a7f9c6051fb1ed485859f2"), looks := false }, kinds := [], alts := [], laidByText := true, laidKinds := [.data, .pinned], laidTests := true, laidLooks := .later }
def FilterBackCardSaid : Prop := Claim7.holds Tryd.pinned (.plain (OpenSpec.ofChange filterBackSpec)) filterBackCard

/-- THE TIED CARD OF 'agoralaw24.FilterTwice'. -/
def filterTwiceCard : Claim7 := { stood := { row := filterTwiceRow, standIns := [], harness := (true, "8ab5c144e664c57e08b933514de874b2d35b381bb6a7f9c6051fb1ed485859f2"), looks := false }, kinds := [], alts := [], laidByText := true, laidKinds := [.data, .pinned], laidTests := true, laidLooks := .later }
def FilterTwiceCardSaid : Prop := Claim7.holds Tryd.pinned (.plain (OpenSpec.ofChange filterTwiceSpec)) filterTwiceCard

/-- THE TIED CARD OF 'agoralaw24.FilterBoth'. -/
def filterBothCard : Claim7 := { stood := { row := filterBothRow, standIns := [], harness := (true, "8ab5c144e664c57e08b933514de874b2d35b381bb6a7f9c6051fb1ed485859f2"), looks := false }, kinds := [], alts := [], laidByText := true, laidKinds := [.data, .pinned], laidTests := true, laidLooks := .later }
def FilterBothCardSaid : Prop := Claim7.holds Tryd.pinned (.plain (OpenSpec.ofChange filterBothSpec)) filterBothCard

/-- THE SECOND FORM's CARD OF 'agoralaw24.FilterParses'. -/
def filterParsesUptoCard : Claim7 := { stood := { row := filterParsesUptoRow, standIns := [], harness := (true, "8ab5c144e664c57e08b933514de874b2d35b381bb6a7f9c6051fb1ed485859f2"), looks := false }, kinds := [], alts := [], laidByText := true, laidKinds := [.data, .pinned], laidTests := true, laidLooks := .later }
def FilterParsesUptoCardSaid : Prop := Claim7.holds Tryd.pinned (.plain (OpenSpec.upto filterParsesSpec)) filterParsesUptoCard

/-- THE SECOND FORM's CARD OF 'agoralaw24.FilterKeeps'. -/
def filterKeepsUptoCard : Claim7 := { stood := { row := filterKeepsUptoRow, standIns := [], harness := (true, "8ab5c144e664c57e08b933514de874b2d35b381bb6a7f9c6051fb1ed485859f2"), looks := false }, kinds := [], alts := [], laidByText := true, laidKinds := [.data, .pinned], laidTests := true, laidLooks := .later }
def FilterKeepsUptoCardSaid : Prop := Claim7.holds Tryd.pinned (.plain (OpenSpec.upto filterKeepsSpec)) filterKeepsUptoCard

/-- THE SECOND FORM's CARD OF 'agoralaw24.FilterBack'. -/
def filterBackUptoCard : Claim7 := { stood := { row := filterBackUptoRow, standIns := [], harness := (true, "8ab5c144e664c57e08b933514de874b2d35b381bb6a7f9c6051fb1ed485859f2"), looks := false }, kinds := [], alts := [], laidByText := true, laidKinds := [.data, .pinned], laidTests := true, laidLooks := .later }
def FilterBackUptoCardSaid : Prop := Claim7.holds Tryd.pinned (.plain (OpenSpec.upto filterBackSpec)) filterBackUptoCard

/-- THE SECOND FORM's CARD OF 'agoralaw24.FilterTwice'. -/
def filterTwiceUptoCard : Claim7 := { stood := { row := filterTwiceUptoRow, standIns := [], harness := (true, "8ab5c144e664c57e08b933514de874b2d35b381bb6a7f9c6051fb1ed485859f2"), looks := false }, kinds := [], alts := [], laidByText := true, laidKinds := [.data, .pinned], laidTests := true, laidLooks := .later }
def FilterTwiceUptoCardSaid : Prop := Claim7.holds Tryd.pinned (.plain (OpenSpec.upto filterTwiceSpec)) filterTwiceUptoCard

/-- THE SECOND FORM's CARD OF 'agoralaw24.FilterBoth'. -/
def filterBothUptoCard : Claim7 := { stood := { row := filterBothUptoRow, standIns := [], harness := (true, "8ab5c144e664c57e08b933514de874b2d35b381bb6a7f9c6051fb1ed485859f2"), looks := false }, kinds := [], alts := [], laidByText := true, laidKinds := [.data, .pinned], laidTests := true, laidLooks := .later }
def FilterBothUptoCardSaid : Prop := Claim7.holds Tryd.pinned (.plain (OpenSpec.upto filterBothSpec)) filterBothUptoCard
end Rows
end Go.Proofs.YtoimlfaiibadgaaDoor
