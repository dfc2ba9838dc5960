/-
  DERIVED. GIVEN WITH THE SEED: THE CARDS: each row of YtcmbkehhpfbhiaaDoorRows.lean that lists a variable, with what it lists TIED to the program's text (the seventh form; the later family's looks); each row that meets fmt, with fmt's text TOLD by the authors' own Lean function (tested against real Go, not proved from fmt's source: count such statements apart). THE CARD IS WHAT COUNTS. Prove the row's statement (the work); the ties are given (YtcmbkehhpfbhiaaDoorTie.lean); close each card by the builder's one call (the guide's Derived/Test/ToyasCard.lean, 'card_holds'). Laid BY PROGRAM, IN A SANDBOX (cutbox-door.mjs). By AI agents, Wed Nov 11 2026. No macro, syntax, notation, axiom, sorry.
-/
import Derived.Test.YtcmbkehhpfbhiaaDoorRows
import GoSem.ClaimSeven
namespace Go.Proofs.YtcmbkehhpfbhiaaDoor
namespace Rows

/-- THE TIED CARD OF 'agoralaw23.GlobWords'. -/
def globWordsCard : Claim7 := { stood := { row := globWordsRow, standIns := [], harness := (true, "7f7acb7d8478b72b0729beb0bd060f1b6b7342ca8e08862c9ff05138893370fe"), looks := false }, kinds := [], alts := [], laidByText := true, laidKinds := [.data, .pinned], laidTests := true, laidLooks := .later }
def GlobWordsCardSaid : Prop := Claim7.holds Tryd.pinned (.plain (OpenSpec.ofChange globWordsSpec)) globWordsCard

/-- THE TIED CARD OF 'agoralaw23.GlobJoins'. -/
def globJoinsCard : Claim7 := { stood := { row := globJoinsRow, standIns := [], harness := (true, "7f7acb7d8478b72b0729beb0bd060f1b6b7342ca8e08862c9ff05138893370fe"), looks := false }, kinds := [], alts := [], laidByText := true, laidKinds := [.data, .pinned], laidTests := true, laidLooks := .later }
def GlobJoinsCardSaid : Prop := Claim7.holds Tryd.pinned (.plain (OpenSpec.ofChange globJoinsSpec)) globJoinsCard

/-- THE TIED CARD OF 'agoralaw23.GlobStars'. -/
def globStarsCard : Claim7 := { stood := { row := globStarsRow, standIns := [], harness := (true, "7f7acb7d8478b72b0729beb0bd060f1b6b7342ca8e08862c9ff05138893370fe"), looks := false }, kinds := [], alts := [], laidByText := true, laidKinds := [.data, .pinned], laidTests := true, laidLooks := .later }
def GlobStarsCardSaid : Prop := Claim7.holds Tryd.pinned (.plain (OpenSpec.ofChange globStarsSpec)) globStarsCard

/-- THE TIED CARD OF 'agoralaw23.GlobAsks'. -/
def globAsksCard : Claim7 := { stood := { row := globAsksRow, standIns := [], harness := (true, "7f7acb7d8478b72b0729beb0bd060f1b6b7342ca8e08862c9ff05138893370fe"), looks := false }, kinds := [], alts := [], laidByText := true, laidKinds := [.data, .pinned], laidTests := true, laidLooks := .later }
def GlobAsksCardSaid : Prop := Claim7.holds Tryd.pinned (.plain (OpenSpec.ofChange globAsksSpec)) globAsksCard

/-- THE TIED CARD OF 'agoralaw23.GlobPlain'. -/
def globPlainCard : Claim7 := { stood := { row := globPlainRow, standIns := [], harness := (true, "7f7acb7d8478b72b0729beb0bd060f1b6b7342ca8e08862c9ff05138893370fe"), looks := false }, kinds := [], alts := [], laidByText := true, laidKinds := [.data, .pinned], laidTests := true, laidLooks := .later }
def GlobPlainCardSaid : Prop := Claim7.holds Tryd.pinned (.plain (OpenSpec.ofChange globPlainSpec)) globPlainCard

/-- THE TIED CARD OF 'agoralaw23.GlobMatches'. -/
def globMatchesCard : Claim7 := { stood := { row := globMatchesRow, standIns := [], harness := (true, "7f7acb7d8478b72b0729beb0bd060f1b6b7342ca8e08862c9ff05138893370fe"), looks := false }, kinds := [], alts := [], laidByText := true, laidKinds := [.data, .pinned], laidTests := true, laidLooks := .later }
def GlobMatchesCardSaid : Prop := Claim7.holds Tryd.pinned (.plain (OpenSpec.ofChange globMatchesSpec)) globMatchesCard

/-- THE SECOND FORM's CARD OF 'agoralaw23.GlobWords'. -/
def globWordsUptoCard : Claim7 := { stood := { row := globWordsUptoRow, standIns := [], harness := (true, "7f7acb7d8478b72b0729beb0bd060f1b6b7342ca8e08862c9ff05138893370fe"), looks := false }, kinds := [], alts := [], laidByText := true, laidKinds := [.data, .pinned], laidTests := true, laidLooks := .later }
def GlobWordsUptoCardSaid : Prop := Claim7.holds Tryd.pinned (.plain (OpenSpec.upto globWordsSpec)) globWordsUptoCard

/-- THE SECOND FORM's CARD OF 'agoralaw23.GlobJoins'. -/
def globJoinsUptoCard : Claim7 := { stood := { row := globJoinsUptoRow, standIns := [], harness := (true, "7f7acb7d8478b72b0729beb0bd060f1b6b7342ca8e08862c9ff05138893370fe"), looks := false }, kinds := [], alts := [], laidByText := true, laidKinds := [.data, .pinned], laidTests := true, laidLooks := .later }
def GlobJoinsUptoCardSaid : Prop := Claim7.holds Tryd.pinned (.plain (OpenSpec.upto globJoinsSpec)) globJoinsUptoCard

/-- THE SECOND FORM's CARD OF 'agoralaw23.GlobStars'. -/
def globStarsUptoCard : Claim7 := { stood := { row := globStarsUptoRow, standIns := [], harness := (true, "7f7acb7d8478b72b0729beb0bd060f1b6b7342ca8e08862c9ff05138893370fe"), looks := false }, kinds := [], alts := [], laidByText := true, laidKinds := [.data, .pinned], laidTests := true, laidLooks := .later }
def GlobStarsUptoCardSaid : Prop := Claim7.holds Tryd.pinned (.plain (OpenSpec.upto globStarsSpec)) globStarsUptoCard

/-- THE SECOND FORM's CARD OF 'agoralaw23.GlobAsks'. -/
def globAsksUptoCard : Claim7 := { stood := { row := globAsksUptoRow, standIns := [], harness := (true, "7f7acb7d8478b72b0729beb0bd060f1b6b7342ca8e08862c9ff05138893370fe"), looks := false }, kinds := [], alts := [], laidByText := true, laidKinds := [.data, .pinned], laidTests := true, laidLooks := .later }
def GlobAsksUptoCardSaid : Prop := Claim7.holds Tryd.pinned (.plain (OpenSpec.upto globAsksSpec)) globAsksUptoCard

/-- THE SECOND FORM's CARD OF 'agoralaw23.GlobPlain'. -/
def globPlainUptoCard : Claim7 := { stood := { row := globPlainUptoRow, standIns := [], harness := (true, "7f7acb7d8478b72b0729beb0bd060f1b6b7342ca8e08862c9ff05138893370fe"), looks := false }, kinds := [], alts := [], laidByText := true, laidKinds := [.data, .pinned], laidTests := true, laidLooks := .later }
def GlobPlainUptoCardSaid : Prop := Claim7.holds Tryd.pinned (.plain (OpenSpec.upto globPlainSpec)) globPlainUptoCard

/-- THE SECOND FORM's CARD OF 'agoralaw23.GlobMatches'. -/
def globMatchesUptoCard : Claim7 := { stood := { row := globMatchesUptoRow, standIns := [], harness := (true, "7f7acb7d8478b72b0729beb0bd060f1b6b7342ca8e08862c9ff05138893370fe"), looks := false }, kinds := [], alts := [], laidByText := true, laidKinds := [.data, .pinned], laidTests := true, laidLooks := .later }
def GlobMatchesUptoCardSaid : Prop := Claim7.holds Tryd.pinned (.plain (OpenSpec.upto globMatchesSpec)) globMatchesUptoCard
end Rows
end Go.Proofs.YtcmbkehhpfbhiaaDoor
