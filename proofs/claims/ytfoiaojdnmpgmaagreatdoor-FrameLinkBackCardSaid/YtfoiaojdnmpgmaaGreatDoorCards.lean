/-
  DERIVED. GIVEN WITH THE SEED: THE CARDS: each row of YtfoiaojdnmpgmaaGreatDoorRows.lean that lists a variable, with what it lists TIED to the program's text (the seventh form; the later family's looks); each row that meets fmt, with fmt's text TOLD by the authors' own Lean function (tested against real Go, not proved from fmt's source: count such statements apart). THE CARD IS WHAT COUNTS. Prove the row's statement (the work); the ties are given (YtfoiaojdnmpgmaaGreatDoorTie.lean); close each card by the builder's one call (the guide's Derived/Test/ToyasCard.lean, 'card_holds'). Laid BY PROGRAM, IN A SANDBOX (cutbox-door.mjs). By AI agents, Wed Nov 11 2026. No macro, syntax, notation, axiom, sorry.
-/
import Derived.Test.YtfoiaojdnmpgmaaGreatDoorRows
import GoSem.ClaimSeven
namespace Go.Proofs.YtfoiaojdnmpgmaaGreatDoor
namespace Rows

/-- THE TIED CARD OF 'agoralaw05.EventReads'. -/
def eventReadsCard : Claim7 := { stood := { row := eventReadsRow, standIns := [], harness := (true, "23ed99c7dfff1c7be04843020f1e2bc0627421e83d9b841e5541369f44437d3d"), looks := true }, kinds := [], alts := [], laidByText := true, laidKinds := [.data, .data, .data, .data, .pinned], laidTests := true, laidLooks := .later }
def EventReadsCardSaid : Prop := Claim7.holds Tryz.pinned (.plain (OpenSpec.ofChange eventReadsSpec)) eventReadsCard

/-- THE TIED CARD OF 'agoralaw05.EventBytes'. -/
def eventBytesCard : Claim7 := { stood := { row := eventBytesRow, standIns := [], harness := (true, "23ed99c7dfff1c7be04843020f1e2bc0627421e83d9b841e5541369f44437d3d"), looks := true }, kinds := [], alts := [], laidByText := true, laidKinds := [.data, .data, .data, .data, .pinned], laidTests := true, laidLooks := .later }
def EventBytesCardSaid : Prop := Claim7.holds Tryz.pinned (.plain (OpenSpec.ofChange eventBytesSpec)) eventBytesCard

/-- THE TIED CARD OF 'agoralaw05.EventOnce'. -/
def eventOnceCard : Claim7 := { stood := { row := eventOnceRow, standIns := [], harness := (true, "23ed99c7dfff1c7be04843020f1e2bc0627421e83d9b841e5541369f44437d3d"), looks := true }, kinds := [], alts := [], laidByText := true, laidKinds := [.data, .data, .data, .data, .pinned], laidTests := true, laidLooks := .later }
def EventOnceCardSaid : Prop := Claim7.holds Tryz.pinned (.plain (OpenSpec.ofChange eventOnceSpec)) eventOnceCard

/-- THE TIED CARD OF 'agoralaw05.EventLimits'. -/
def eventLimitsCard : Claim7 := { stood := { row := eventLimitsRow, standIns := [], harness := (true, "23ed99c7dfff1c7be04843020f1e2bc0627421e83d9b841e5541369f44437d3d"), looks := true }, kinds := [], alts := [], laidByText := true, laidKinds := [.data, .data, .data, .data, .pinned], laidTests := true, laidLooks := .later }
def EventLimitsCardSaid : Prop := Claim7.holds Tryz.pinned (.plain (OpenSpec.ofChange eventLimitsSpec)) eventLimitsCard

/-- THE TIED CARD OF 'agoralaw05.EventShapes'. -/
def eventShapesCard : Claim7 := { stood := { row := eventShapesRow, standIns := [], harness := (true, "23ed99c7dfff1c7be04843020f1e2bc0627421e83d9b841e5541369f44437d3d"), looks := true }, kinds := [], alts := [], laidByText := true, laidKinds := [.data, .data, .data, .data, .pinned], laidTests := true, laidLooks := .later }
def EventShapesCardSaid : Prop := Claim7.holds Tryz.pinned (.plain (OpenSpec.ofChange eventShapesSpec)) eventShapesCard

/-- THE TIED CARD OF 'agoralaw05.EventBack'. -/
def eventBackCard : Claim7 := { stood := { row := eventBackRow, standIns := [], harness := (true, "23ed99c7dfff1c7be04843020f1e2bc0627421e83d9b841e5541369f44437d3d"), looks := true }, kinds := [], alts := [], laidByText := true, laidKinds := [.data, .data, .data, .data, .pinned], laidTests := true, laidLooks := .later }
def EventBackCardSaid : Prop := Claim7.holds Tryz.pinned (.plain (OpenSpec.ofChange eventBackSpec)) eventBackCard

/-- THE TIED CARD OF 'agoralaw05.EventNames'. -/
def eventNamesCard : Claim7 := { stood := { row := eventNamesRow, standIns := [], harness := (true, "23ed99c7dfff1c7be04843020f1e2bc0627421e83d9b841e5541369f44437d3d"), looks := true }, kinds := [], alts := [], laidByText := true, laidKinds := [.data, .data, .data, .data, .pinned], laidTests := true, laidLooks := .later }
def EventNamesCardSaid : Prop := Claim7.holds Tryz.pinned (.plain (OpenSpec.ofChange eventNamesSpec)) eventNamesCard

/-- THE TIED CARD OF 'agoralaw17.FrameEncodes'. -/
def frameEncodesCard : Claim7 := { stood := { row := frameEncodesRow, standIns := [], harness := (true, "23ed99c7dfff1c7be04843020f1e2bc0627421e83d9b841e5541369f44437d3d"), looks := true }, kinds := [], alts := [], laidByText := true, laidKinds := [.data, .data, .data, .data, .pinned], laidTests := true, laidLooks := .later }
def FrameEncodesCardSaid : Prop := Claim7.holds Tryz.pinned (.plain (OpenSpec.ofChange frameEncodesSpec)) frameEncodesCard

/-- THE TIED CARD OF 'agoralaw17.FrameBack'. -/
def frameBackCard : Claim7 := { stood := { row := frameBackRow, standIns := [], harness := (true, "23ed99c7dfff1c7be04843020f1e2bc0627421e83d9b841e5541369f44437d3d"), looks := true }, kinds := [], alts := [], laidByText := true, laidKinds := [.data, .data, .data, .data, .pinned], laidTests := true, laidLooks := .later }
def FrameBackCardSaid : Prop := Claim7.holds Tryz.pinned (.plain (OpenSpec.ofChange frameBackSpec)) frameBackCard

/-- THE TIED CARD OF 'agoralaw17.FrameOnce'. -/
def frameOnceCard : Claim7 := { stood := { row := frameOnceRow, standIns := [], harness := (true, "23ed99c7dfff1c7be04843020f1e2bc0627421e83d9b841e5541369f44437d3d"), looks := true }, kinds := [], alts := [], laidByText := true, laidKinds := [.data, .data, .data, .data, .pinned], laidTests := true, laidLooks := .later }
def FrameOnceCardSaid : Prop := Claim7.holds Tryz.pinned (.plain (OpenSpec.ofChange frameOnceSpec)) frameOnceCard

/-- THE TIED CARD OF 'agoralaw17.FrameCut'. -/
def frameCutCard : Claim7 := { stood := { row := frameCutRow, standIns := [], harness := (true, "23ed99c7dfff1c7be04843020f1e2bc0627421e83d9b841e5541369f44437d3d"), looks := true }, kinds := [], alts := [], laidByText := true, laidKinds := [.data, .data, .data, .data, .pinned], laidTests := true, laidLooks := .later }
def FrameCutCardSaid : Prop := Claim7.holds Tryz.pinned (.plain (OpenSpec.ofChange frameCutSpec)) frameCutCard

/-- THE TIED CARD OF 'agoralaw17.FrameLinks'. -/
def frameLinksCard : Claim7 := { stood := { row := frameLinksRow, standIns := [], harness := (true, "23ed99c7dfff1c7be04843020f1e2bc0627421e83d9b841e5541369f44437d3d"), looks := true }, kinds := [], alts := [], laidByText := true, laidKinds := [.data, .data, .data, .data, .pinned], laidTests := true, laidLooks := .later }
def FrameLinksCardSaid : Prop := Claim7.holds Tryz.pinned (.plain (OpenSpec.ofChange frameLinksSpec)) frameLinksCard

/-- THE TIED CARD OF 'agoralaw17.FrameLinkBack'. -/
def frameLinkBackCard : Claim7 := { stood := { row := frameLinkBackRow, standIns := [], harness := (true, "23ed99c7dfff1c7be04843020f1e2bc0627421e83d9b841e5541369f44437d3d"), looks := true }, kinds := [], alts := [], laidByText := true, laidKinds := [.data, .data, .data, .data, .pinned], laidTests := true, laidLooks := .later }
def FrameLinkBackCardSaid : Prop := Claim7.holds Tryz.pinned (.plain (OpenSpec.ofChange frameLinkBackSpec)) frameLinkBackCard

/-- THE SECOND FORM's CARD OF 'agoralaw05.EventReads'. -/
def eventReadsUptoCard : Claim7 := { stood := { row := eventReadsUptoRow, standIns := [], harness := (true, "23ed99c7dfff1c7be04843020f1e2bc0627421e83d9b841e5541369f44437d3d"), looks := true }, kinds := [], alts := [], laidByText := true, laidKinds := [.data, .data, .data, .data, .pinned], laidTests := true, laidLooks := .later }
def EventReadsUptoCardSaid : Prop := Claim7.holds Tryz.pinned (.plain (OpenSpec.upto eventReadsSpec)) eventReadsUptoCard

/-- THE SECOND FORM's CARD OF 'agoralaw05.EventBytes'. -/
def eventBytesUptoCard : Claim7 := { stood := { row := eventBytesUptoRow, standIns := [], harness := (true, "23ed99c7dfff1c7be04843020f1e2bc0627421e83d9b841e5541369f44437d3d"), looks := true }, kinds := [], alts := [], laidByText := true, laidKinds := [.data, .data, .data, .data, .pinned], laidTests := true, laidLooks := .later }
def EventBytesUptoCardSaid : Prop := Claim7.holds Tryz.pinned (.plain (OpenSpec.upto eventBytesSpec)) eventBytesUptoCard

/-- THE SECOND FORM's CARD OF 'agoralaw05.EventOnce'. -/
def eventOnceUptoCard : Claim7 := { stood := { row := eventOnceUptoRow, standIns := [], harness := (true, "23ed99c7dfff1c7be04843020f1e2bc0627421e83d9b841e5541369f44437d3d"), looks := true }, kinds := [], alts := [], laidByText := true, laidKinds := [.data, .data, .data, .data, .pinned], laidTests := true, laidLooks := .later }
def EventOnceUptoCardSaid : Prop := Claim7.holds Tryz.pinned (.plain (OpenSpec.upto eventOnceSpec)) eventOnceUptoCard

/-- THE SECOND FORM's CARD OF 'agoralaw05.EventLimits'. -/
def eventLimitsUptoCard : Claim7 := { stood := { row := eventLimitsUptoRow, standIns := [], harness := (true, "23ed99c7dfff1c7be04843020f1e2bc0627421e83d9b841e5541369f44437d3d"), looks := true }, kinds := [], alts := [], laidByText := true, laidKinds := [.data, .data, .data, .data, .pinned], laidTests := true, laidLooks := .later }
def EventLimitsUptoCardSaid : Prop := Claim7.holds Tryz.pinned (.plain (OpenSpec.upto eventLimitsSpec)) eventLimitsUptoCard

/-- THE SECOND FORM's CARD OF 'agoralaw05.EventShapes'. -/
def eventShapesUptoCard : Claim7 := { stood := { row := eventShapesUptoRow, standIns := [], harness := (true, "23ed99c7dfff1c7be04843020f1e2bc0627421e83d9b841e5541369f44437d3d"), looks := true }, kinds := [], alts := [], laidByText := true, laidKinds := [.data, .data, .data, .data, .pinned], laidTests := true, laidLooks := .later }
def EventShapesUptoCardSaid : Prop := Claim7.holds Tryz.pinned (.plain (OpenSpec.upto eventShapesSpec)) eventShapesUptoCard

/-- THE SECOND FORM's CARD OF 'agoralaw05.EventBack'. -/
def eventBackUptoCard : Claim7 := { stood := { row := eventBackUptoRow, standIns := [], harness := (true, "23ed99c7dfff1c7be04843020f1e2bc0627421e83d9b841e5541369f44437d3d"), looks := true }, kinds := [], alts := [], laidByText := true, laidKinds := [.data, .data, .data, .data, .pinned], laidTests := true, laidLooks := .later }
def EventBackUptoCardSaid : Prop := Claim7.holds Tryz.pinned (.plain (OpenSpec.upto eventBackSpec)) eventBackUptoCard

/-- THE SECOND FORM's CARD OF 'agoralaw05.EventNames'. -/
def eventNamesUptoCard : Claim7 := { stood := { row := eventNamesUptoRow, standIns := [], harness := (true, "23ed99c7dfff1c7be04843020f1e2bc0627421e83d9b841e5541369f44437d3d"), looks := true }, kinds := [], alts := [], laidByText := true, laidKinds := [.data, .data, .data, .data, .pinned], laidTests := true, laidLooks := .later }
def EventNamesUptoCardSaid : Prop := Claim7.holds Tryz.pinned (.plain (OpenSpec.upto eventNamesSpec)) eventNamesUptoCard

/-- THE SECOND FORM's CARD OF 'agoralaw17.FrameEncodes'. -/
def frameEncodesUptoCard : Claim7 := { stood := { row := frameEncodesUptoRow, standIns := [], harness := (true, "23ed99c7dfff1c7be04843020f1e2bc0627421e83d9b841e5541369f44437d3d"), looks := true }, kinds := [], alts := [], laidByText := true, laidKinds := [.data, .data, .data, .data, .pinned], laidTests := true, laidLooks := .later }
def FrameEncodesUptoCardSaid : Prop := Claim7.holds Tryz.pinned (.plain (OpenSpec.upto frameEncodesSpec)) frameEncodesUptoCard

/-- THE SECOND FORM's CARD OF 'agoralaw17.FrameBack'. -/
def frameBackUptoCard : Claim7 := { stood := { row := frameBackUptoRow, standIns := [], harness := (true, "23ed99c7dfff1c7be04843020f1e2bc0627421e83d9b841e5541369f44437d3d"), looks := true }, kinds := [], alts := [], laidByText := true, laidKinds := [.data, .data, .data, .data, .pinned], laidTests := true, laidLooks := .later }
def FrameBackUptoCardSaid : Prop := Claim7.holds Tryz.pinned (.plain (OpenSpec.upto frameBackSpec)) frameBackUptoCard

/-- THE SECOND FORM's CARD OF 'agoralaw17.FrameOnce'. -/
def frameOnceUptoCard : Claim7 := { stood := { row := frameOnceUptoRow, standIns := [], harness := (true, "23ed99c7dfff1c7be04843020f1e2bc0627421e83d9b841e5541369f44437d3d"), looks := true }, kinds := [], alts := [], laidByText := true, laidKinds := [.data, .data, .data, .data, .pinned], laidTests := true, laidLooks := .later }
def FrameOnceUptoCardSaid : Prop := Claim7.holds Tryz.pinned (.plain (OpenSpec.upto frameOnceSpec)) frameOnceUptoCard

/-- THE SECOND FORM's CARD OF 'agoralaw17.FrameCut'. -/
def frameCutUptoCard : Claim7 := { stood := { row := frameCutUptoRow, standIns := [], harness := (true, "23ed99c7dfff1c7be04843020f1e2bc0627421e83d9b841e5541369f44437d3d"), looks := true }, kinds := [], alts := [], laidByText := true, laidKinds := [.data, .data, .data, .data, .pinned], laidTests := true, laidLooks := .later }
def FrameCutUptoCardSaid : Prop := Claim7.holds Tryz.pinned (.plain (OpenSpec.upto frameCutSpec)) frameCutUptoCard

/-- THE SECOND FORM's CARD OF 'agoralaw17.FrameLinks'. -/
def frameLinksUptoCard : Claim7 := { stood := { row := frameLinksUptoRow, standIns := [], harness := (true, "23ed99c7dfff1c7be04843020f1e2bc0627421e83d9b841e5541369f44437d3d"), looks := true }, kinds := [], alts := [], laidByText := true, laidKinds := [.data, .data, .data, .data, .pinned], laidTests := true, laidLooks := .later }
def FrameLinksUptoCardSaid : Prop := Claim7.holds Tryz.pinned (.plain (OpenSpec.upto frameLinksSpec)) frameLinksUptoCard

/-- THE SECOND FORM's CARD OF 'agoralaw17.FrameLinkBack'. -/
def frameLinkBackUptoCard : Claim7 := { stood := { row := frameLinkBackUptoRow, standIns := [], harness := (true, "23ed99c7dfff1c7be04843020f1e2bc0627421e83d9b841e5541369f44437d3d"), looks := true }, kinds := [], alts := [], laidByText := true, laidKinds := [.data, .data, .data, .data, .pinned], laidTests := true, laidLooks := .later }
def FrameLinkBackUptoCardSaid : Prop := Claim7.holds Tryz.pinned (.plain (OpenSpec.upto frameLinkBackSpec)) frameLinkBackUptoCard
end Rows
end Go.Proofs.YtfoiaojdnmpgmaaGreatDoor
