/-
  No cell of these rows narrows 'for every input' (looked for: loops, veiled, ifaces, maps, wideKeys, modest, calm, conditions, laid).
  DERIVED. THE GIVEN ROWS OF THIS SEAT. 7 by the template 'for every input the law returns true; each argument reads behind the call as it read before'; 0 by the template 'total and deterministic' (their statements: YtfhfmgmpeapjfaaTotals.lean).
  GIVEN WITH THE SEED: the statements are not yours to turn. If you find one false, say at which input.
  Laid BY PROGRAM, IN A SANDBOX (cutbox-rows.mjs): the forced cells as the released guide's own fill.sh prints them over the translation 1600ae29ba77f28a… (all of the seat's roots in one cut). By AI agents, Wed Nov 11 2026. No macro, syntax, notation, axiom, sorry.
-/
import Derived.Test.YtfhfmgmpeapjfaaChecked
import GoSem.Claim
import GoSem.ClaimJoined
import GoSem.ClaimMapViews
import Derived.JoinedTies
import Derived.KernelRfl
namespace Go.Proofs.Ytfhfmgmpeapjfaa
/- THE CELL 'sum', in the pinned program and in every row, IS THE sha256 OF THE DUMP (.gsa) THAT YtfhfmgmpeapjfaaProg.lean LOADS. Nothing in Lean hashes anything: it is a label: what it is worth is what the hold of that sum in a sandbox is worth. -/
noncomputable def Try.pinned : Pinned := { name := "ytfhfmgmpeapjfaa", sum := "1600ae29ba77f28aabc8c83a731f985e33a5e06a4e635455e0e0dd1f2cd2012a", checked := Try.checked }
namespace Rows
def none {H : Type} : Left H := { results := [], args := [] }

/-- 'agoralaw16.WindowWild': WHATEVER THE INPUT: true; the input reads as it did. -/
def windowWildSpec : ChangeSpec := { name := "windowWild", fn := fun _ => fun
  | [d1, d2] => { results := [.lit (.bool true)], args := [d1, d2] }
  | _ => none }
def windowWildRow : OpenClaim := { program := "ytfhfmgmpeapjfaa", sum := "1600ae29ba77f28aabc8c83a731f985e33a5e06a4e635455e0e0dd1f2cd2012a", func := "agora/agoralaw16.WindowWild", spec := "windowWild", apart := false }
def WindowWildSaid : Prop := windowWildRow.holds Try.pinned (OpenSpec.ofChange windowWildSpec)

/-- ITS FALSE NEIGHBOUR: 'it returns false'. Refute it at one input. -/
def windowWildWrong : ChangeSpec := { name := "windowWild", fn := fun _ => fun
  | [d1, d2] => { results := [.lit (.bool false)], args := [d1, d2] }
  | _ => none }
def WindowWildWrongFalsely : Prop := windowWildRow.holds Try.pinned (OpenSpec.ofChange windowWildWrong)

/-- 'agoralaw16.WindowTakes': WHATEVER THE INPUT: true; the input reads as it did. -/
def windowTakesSpec : ChangeSpec := { name := "windowTakes", fn := fun _ => fun
  | [d1, d2] => { results := [.lit (.bool true)], args := [d1, d2] }
  | _ => none }
def windowTakesRow : OpenClaim := { program := "ytfhfmgmpeapjfaa", sum := "1600ae29ba77f28aabc8c83a731f985e33a5e06a4e635455e0e0dd1f2cd2012a", func := "agora/agoralaw16.WindowTakes", spec := "windowTakes", apart := false }
def WindowTakesSaid : Prop := windowTakesRow.holds Try.pinned (OpenSpec.ofChange windowTakesSpec)

/-- ITS FALSE NEIGHBOUR: 'it returns false'. Refute it at one input. -/
def windowTakesWrong : ChangeSpec := { name := "windowTakes", fn := fun _ => fun
  | [d1, d2] => { results := [.lit (.bool false)], args := [d1, d2] }
  | _ => none }
def WindowTakesWrongFalsely : Prop := windowTakesRow.holds Try.pinned (OpenSpec.ofChange windowTakesWrong)

/-- 'agoralaw16.WindowFifo': WHATEVER THE INPUT: true; the input reads as it did. -/
def windowFifoSpec : ChangeSpec := { name := "windowFifo", fn := fun _ => fun
  | [d1, d2, d3] => { results := [.lit (.bool true)], args := [d1, d2, d3] }
  | _ => none }
def windowFifoRow : OpenClaim := { program := "ytfhfmgmpeapjfaa", sum := "1600ae29ba77f28aabc8c83a731f985e33a5e06a4e635455e0e0dd1f2cd2012a", func := "agora/agoralaw16.WindowFifo", spec := "windowFifo", apart := false }
def WindowFifoSaid : Prop := windowFifoRow.holds Try.pinned (OpenSpec.ofChange windowFifoSpec)

/-- ITS FALSE NEIGHBOUR: 'it returns false'. Refute it at one input. -/
def windowFifoWrong : ChangeSpec := { name := "windowFifo", fn := fun _ => fun
  | [d1, d2, d3] => { results := [.lit (.bool false)], args := [d1, d2, d3] }
  | _ => none }
def WindowFifoWrongFalsely : Prop := windowFifoRow.holds Try.pinned (OpenSpec.ofChange windowFifoWrong)

/-- 'agoralaw16.WindowEnds': WHATEVER THE INPUT: true; the input reads as it did. -/
def windowEndsSpec : ChangeSpec := { name := "windowEnds", fn := fun _ => fun
  | [d1, d2, d3] => { results := [.lit (.bool true)], args := [d1, d2, d3] }
  | _ => none }
def windowEndsRow : OpenClaim := { program := "ytfhfmgmpeapjfaa", sum := "1600ae29ba77f28aabc8c83a731f985e33a5e06a4e635455e0e0dd1f2cd2012a", func := "agora/agoralaw16.WindowEnds", spec := "windowEnds", apart := false }
def WindowEndsSaid : Prop := windowEndsRow.holds Try.pinned (OpenSpec.ofChange windowEndsSpec)

/-- ITS FALSE NEIGHBOUR: 'it returns false'. Refute it at one input. -/
def windowEndsWrong : ChangeSpec := { name := "windowEnds", fn := fun _ => fun
  | [d1, d2, d3] => { results := [.lit (.bool false)], args := [d1, d2, d3] }
  | _ => none }
def WindowEndsWrongFalsely : Prop := windowEndsRow.holds Try.pinned (OpenSpec.ofChange windowEndsWrong)

/-- 'agoralaw16.WindowSends': WHATEVER THE INPUT: true; the input reads as it did. -/
def windowSendsSpec : ChangeSpec := { name := "windowSends", fn := fun _ => fun
  | [d1, d2, d3] => { results := [.lit (.bool true)], args := [d1, d2, d3] }
  | _ => none }
def windowSendsRow : OpenClaim := { program := "ytfhfmgmpeapjfaa", sum := "1600ae29ba77f28aabc8c83a731f985e33a5e06a4e635455e0e0dd1f2cd2012a", func := "agora/agoralaw16.WindowSends", spec := "windowSends", apart := false }
def WindowSendsSaid : Prop := windowSendsRow.holds Try.pinned (OpenSpec.ofChange windowSendsSpec)

/-- ITS FALSE NEIGHBOUR: 'it returns false'. Refute it at one input. -/
def windowSendsWrong : ChangeSpec := { name := "windowSends", fn := fun _ => fun
  | [d1, d2, d3] => { results := [.lit (.bool false)], args := [d1, d2, d3] }
  | _ => none }
def WindowSendsWrongFalsely : Prop := windowSendsRow.holds Try.pinned (OpenSpec.ofChange windowSendsWrong)

/-- 'agoralaw16.WindowSame': WHATEVER THE INPUT: true; the input reads as it did. -/
def windowSameSpec : ChangeSpec := { name := "windowSame", fn := fun _ => fun
  | [d1, d2, d3] => { results := [.lit (.bool true)], args := [d1, d2, d3] }
  | _ => none }
def windowSameRow : OpenClaim := { program := "ytfhfmgmpeapjfaa", sum := "1600ae29ba77f28aabc8c83a731f985e33a5e06a4e635455e0e0dd1f2cd2012a", func := "agora/agoralaw16.WindowSame", spec := "windowSame", apart := false }
def WindowSameSaid : Prop := windowSameRow.holds Try.pinned (OpenSpec.ofChange windowSameSpec)

/-- ITS FALSE NEIGHBOUR: 'it returns false'. Refute it at one input. -/
def windowSameWrong : ChangeSpec := { name := "windowSame", fn := fun _ => fun
  | [d1, d2, d3] => { results := [.lit (.bool false)], args := [d1, d2, d3] }
  | _ => none }
def WindowSameWrongFalsely : Prop := windowSameRow.holds Try.pinned (OpenSpec.ofChange windowSameWrong)

/-- 'agoralaw16.WindowNone': WHATEVER THE INPUT: true; the input reads as it did. -/
def windowNoneSpec : ChangeSpec := { name := "windowNone", fn := fun _ => fun
  | [d1, d2] => { results := [.lit (.bool true)], args := [d1, d2] }
  | _ => none }
def windowNoneRow : OpenClaim := { program := "ytfhfmgmpeapjfaa", sum := "1600ae29ba77f28aabc8c83a731f985e33a5e06a4e635455e0e0dd1f2cd2012a", func := "agora/agoralaw16.WindowNone", spec := "windowNone", apart := false }
def WindowNoneSaid : Prop := windowNoneRow.holds Try.pinned (OpenSpec.ofChange windowNoneSpec)

/-- ITS FALSE NEIGHBOUR: 'it returns false'. Refute it at one input. -/
def windowNoneWrong : ChangeSpec := { name := "windowNone", fn := fun _ => fun
  | [d1, d2] => { results := [.lit (.bool false)], args := [d1, d2] }
  | _ => none }
def WindowNoneWrongFalsely : Prop := windowNoneRow.holds Try.pinned (OpenSpec.ofChange windowNoneWrong)

/- THE SECOND FORM. 'bulk': how many values and letters a reading holds, each counted each time it is reached (what is shared counts as often as it is met; a slice's spare places count too). A statement '..UptoSaid' is the law's where the arguments, and the package variables that the reading takes, are together of bulk at most 1048576: NARROWER than '..Said'. Prove '..Said' where nothing that the law and all that it calls make is longer than what came in: it says more and counts as full. Else prove '..UptoSaid'. A law counts once. -/
mutual
def uptoBulk {H : Type} : DataW H → Nat
  | .lit (.string bytes) => bytes.length + 1
  | .lit _ => 1
  | .nil => 1
  | .ptr d => uptoBulk d + 1
  | .slice elems spare => uptoBulkAll elems + uptoBulkAll spare + 1
  | .agg parts => uptoBulkAll parts + 1
  | .iface _ d => uptoBulk d + 1
  | .map entries => uptoBulkEntries entries + 1
  | .held _ => 1
def uptoBulkAll {H : Type} : List (DataW H) → Nat
  | [] => 0
  | d :: r => uptoBulk d + uptoBulkAll r
def uptoBulkEntries {H : Type} : List (Lit × DataW H) → Nat
  | [] => 0
  | x :: r => uptoBulkEntry x + uptoBulkEntries r
def uptoBulkEntry {H : Type} : Lit × DataW H → Nat
  | (.string bytes, d) => bytes.length + uptoBulk d + 1
  | (_, d) => uptoBulk d + 1
 end
def uptoSmall : (H : Type) → List (DataW H) → Bool := fun _ ds => decide (uptoBulkAll ds ≤ 1048576)
def OpenSpec.upto (s : _root_.Go.ChangeSpec) : _root_.Go.OpenSpec := { _root_.Go.OpenSpec.ofChange s with cond := some uptoSmall }

/-- 'agoralaw16.WindowWild', WHERE WHAT IT READS IS OF BULK AT MOST 1048576: true; the input reads as it did. -/
def windowWildUptoRow : OpenClaim := { program := "ytfhfmgmpeapjfaa", sum := "1600ae29ba77f28aabc8c83a731f985e33a5e06a4e635455e0e0dd1f2cd2012a", func := "agora/agoralaw16.WindowWild", spec := "windowWild", apart := false, narrowed := true }
def WindowWildUptoSaid : Prop := windowWildUptoRow.holds Try.pinned (OpenSpec.upto windowWildSpec)

/-- 'agoralaw16.WindowTakes', WHERE WHAT IT READS IS OF BULK AT MOST 1048576: true; the input reads as it did. -/
def windowTakesUptoRow : OpenClaim := { program := "ytfhfmgmpeapjfaa", sum := "1600ae29ba77f28aabc8c83a731f985e33a5e06a4e635455e0e0dd1f2cd2012a", func := "agora/agoralaw16.WindowTakes", spec := "windowTakes", apart := false, narrowed := true }
def WindowTakesUptoSaid : Prop := windowTakesUptoRow.holds Try.pinned (OpenSpec.upto windowTakesSpec)

/-- 'agoralaw16.WindowFifo', WHERE WHAT IT READS IS OF BULK AT MOST 1048576: true; the input reads as it did. -/
def windowFifoUptoRow : OpenClaim := { program := "ytfhfmgmpeapjfaa", sum := "1600ae29ba77f28aabc8c83a731f985e33a5e06a4e635455e0e0dd1f2cd2012a", func := "agora/agoralaw16.WindowFifo", spec := "windowFifo", apart := false, narrowed := true }
def WindowFifoUptoSaid : Prop := windowFifoUptoRow.holds Try.pinned (OpenSpec.upto windowFifoSpec)

/-- 'agoralaw16.WindowEnds', WHERE WHAT IT READS IS OF BULK AT MOST 1048576: true; the input reads as it did. -/
def windowEndsUptoRow : OpenClaim := { program := "ytfhfmgmpeapjfaa", sum := "1600ae29ba77f28aabc8c83a731f985e33a5e06a4e635455e0e0dd1f2cd2012a", func := "agora/agoralaw16.WindowEnds", spec := "windowEnds", apart := false, narrowed := true }
def WindowEndsUptoSaid : Prop := windowEndsUptoRow.holds Try.pinned (OpenSpec.upto windowEndsSpec)

/-- 'agoralaw16.WindowSends', WHERE WHAT IT READS IS OF BULK AT MOST 1048576: true; the input reads as it did. -/
def windowSendsUptoRow : OpenClaim := { program := "ytfhfmgmpeapjfaa", sum := "1600ae29ba77f28aabc8c83a731f985e33a5e06a4e635455e0e0dd1f2cd2012a", func := "agora/agoralaw16.WindowSends", spec := "windowSends", apart := false, narrowed := true }
def WindowSendsUptoSaid : Prop := windowSendsUptoRow.holds Try.pinned (OpenSpec.upto windowSendsSpec)

/-- 'agoralaw16.WindowSame', WHERE WHAT IT READS IS OF BULK AT MOST 1048576: true; the input reads as it did. -/
def windowSameUptoRow : OpenClaim := { program := "ytfhfmgmpeapjfaa", sum := "1600ae29ba77f28aabc8c83a731f985e33a5e06a4e635455e0e0dd1f2cd2012a", func := "agora/agoralaw16.WindowSame", spec := "windowSame", apart := false, narrowed := true }
def WindowSameUptoSaid : Prop := windowSameUptoRow.holds Try.pinned (OpenSpec.upto windowSameSpec)

/-- 'agoralaw16.WindowNone', WHERE WHAT IT READS IS OF BULK AT MOST 1048576: true; the input reads as it did. -/
def windowNoneUptoRow : OpenClaim := { program := "ytfhfmgmpeapjfaa", sum := "1600ae29ba77f28aabc8c83a731f985e33a5e06a4e635455e0e0dd1f2cd2012a", func := "agora/agoralaw16.WindowNone", spec := "windowNone", apart := false, narrowed := true }
def WindowNoneUptoSaid : Prop := windowNoneUptoRow.holds Try.pinned (OpenSpec.upto windowNoneSpec)

end Rows
end Go.Proofs.Ytfhfmgmpeapjfaa
