/-
  No cell of these rows narrows 'for every input' (looked for: loops, veiled, ifaces, maps, wideKeys, modest, calm, conditions, laid).
  DERIVED. THE GIVEN ROWS OF THIS SEAT. 6 by the template 'for every input the law returns true; each argument reads behind the call as it read before'; 0 by the template 'total and deterministic' (their statements: YtiololafeihhmaaTotals.lean).
  GIVEN WITH THE SEED: the statements are not yours to turn. If you find one false, say at which input.
  Laid BY PROGRAM, IN A SANDBOX (cutbox-rows.mjs): the forced cells as the released guide's own fill.sh prints them over the translation ae406e122d0ebff2… (all of the seat's roots in one cut). By AI agents, Wed Nov 11 2026. No macro, syntax, notation, axiom, sorry.
-/
import Derived.Test.YtiololafeihhmaaChecked
import GoSem.Claim
import GoSem.ClaimJoined
import GoSem.ClaimMapViews
import Derived.JoinedTies
import Derived.KernelRfl
namespace Go.Proofs.Ytiololafeihhmaa
/- THE CELL 'sum', in the pinned program and in every row, IS THE sha256 OF THE DUMP (.gsa) THAT YtiololafeihhmaaProg.lean LOADS. Nothing in Lean hashes anything: it is a label: what it is worth is what the hold of that sum in a sandbox is worth. -/
noncomputable def Try.pinned : Pinned := { name := "ytiololafeihhmaa", sum := "ae406e122d0ebff25bac24402e865677ed0794f1ba842fd87581d12b5d36d15d", checked := Try.checked }
namespace Rows
def none {H : Type} : Left H := { results := [], args := [] }

/-- 'agoralaw18.ScoreTurns': WHATEVER THE INPUT: true; the input reads as it did. -/
def scoreTurnsSpec : ChangeSpec := { name := "scoreTurns", fn := fun _ => fun
  | [d1, d2, d3] => { results := [.lit (.bool true)], args := [d1, d2, d3] }
  | _ => none }
def scoreTurnsRow : OpenClaim := { program := "ytiololafeihhmaa", sum := "ae406e122d0ebff25bac24402e865677ed0794f1ba842fd87581d12b5d36d15d", func := "agora/agoralaw18.ScoreTurns", spec := "scoreTurns", apart := false }
def ScoreTurnsSaid : Prop := scoreTurnsRow.holds Try.pinned (OpenSpec.ofChange scoreTurnsSpec)

/-- ITS FALSE NEIGHBOUR: 'it returns false'. Refute it at one input. -/
def scoreTurnsWrong : ChangeSpec := { name := "scoreTurns", fn := fun _ => fun
  | [d1, d2, d3] => { results := [.lit (.bool false)], args := [d1, d2, d3] }
  | _ => none }
def ScoreTurnsWrongFalsely : Prop := scoreTurnsRow.holds Try.pinned (OpenSpec.ofChange scoreTurnsWrong)

/-- 'agoralaw18.ScoreApart': WHATEVER THE INPUT: true; the input reads as it did. -/
def scoreApartSpec : ChangeSpec := { name := "scoreApart", fn := fun _ => fun
  | [d1, d2, d3] => { results := [.lit (.bool true)], args := [d1, d2, d3] }
  | _ => none }
def scoreApartRow : OpenClaim := { program := "ytiololafeihhmaa", sum := "ae406e122d0ebff25bac24402e865677ed0794f1ba842fd87581d12b5d36d15d", func := "agora/agoralaw18.ScoreApart", spec := "scoreApart", apart := false }
def ScoreApartSaid : Prop := scoreApartRow.holds Try.pinned (OpenSpec.ofChange scoreApartSpec)

/-- ITS FALSE NEIGHBOUR: 'it returns false'. Refute it at one input. -/
def scoreApartWrong : ChangeSpec := { name := "scoreApart", fn := fun _ => fun
  | [d1, d2, d3] => { results := [.lit (.bool false)], args := [d1, d2, d3] }
  | _ => none }
def ScoreApartWrongFalsely : Prop := scoreApartRow.holds Try.pinned (OpenSpec.ofChange scoreApartWrong)

/-- 'agoralaw18.ScoreBounds': WHATEVER THE INPUT: true; the input reads as it did. -/
def scoreBoundsSpec : ChangeSpec := { name := "scoreBounds", fn := fun _ => fun
  | [d1, d2, d3] => { results := [.lit (.bool true)], args := [d1, d2, d3] }
  | _ => none }
def scoreBoundsRow : OpenClaim := { program := "ytiololafeihhmaa", sum := "ae406e122d0ebff25bac24402e865677ed0794f1ba842fd87581d12b5d36d15d", func := "agora/agoralaw18.ScoreBounds", spec := "scoreBounds", apart := false }
def ScoreBoundsSaid : Prop := scoreBoundsRow.holds Try.pinned (OpenSpec.ofChange scoreBoundsSpec)

/-- ITS FALSE NEIGHBOUR: 'it returns false'. Refute it at one input. -/
def scoreBoundsWrong : ChangeSpec := { name := "scoreBounds", fn := fun _ => fun
  | [d1, d2, d3] => { results := [.lit (.bool false)], args := [d1, d2, d3] }
  | _ => none }
def ScoreBoundsWrongFalsely : Prop := scoreBoundsRow.holds Try.pinned (OpenSpec.ofChange scoreBoundsWrong)

/-- 'agoralaw18.ScoreOrder': WHATEVER THE INPUT: true; the input reads as it did. -/
def scoreOrderSpec : ChangeSpec := { name := "scoreOrder", fn := fun _ => fun
  | [d1, d2] => { results := [.lit (.bool true)], args := [d1, d2] }
  | _ => none }
def scoreOrderRow : OpenClaim := { program := "ytiololafeihhmaa", sum := "ae406e122d0ebff25bac24402e865677ed0794f1ba842fd87581d12b5d36d15d", func := "agora/agoralaw18.ScoreOrder", spec := "scoreOrder", apart := false }
def ScoreOrderSaid : Prop := scoreOrderRow.holds Try.pinned (OpenSpec.ofChange scoreOrderSpec)

/-- ITS FALSE NEIGHBOUR: 'it returns false'. Refute it at one input. -/
def scoreOrderWrong : ChangeSpec := { name := "scoreOrder", fn := fun _ => fun
  | [d1, d2] => { results := [.lit (.bool false)], args := [d1, d2] }
  | _ => none }
def ScoreOrderWrongFalsely : Prop := scoreOrderRow.holds Try.pinned (OpenSpec.ofChange scoreOrderWrong)

/-- 'agoralaw18.ScorePlays': WHATEVER THE INPUT: true; the input reads as it did. -/
def scorePlaysSpec : ChangeSpec := { name := "scorePlays", fn := fun _ => fun
  | [d1, d2, d3] => { results := [.lit (.bool true)], args := [d1, d2, d3] }
  | _ => none }
def scorePlaysRow : OpenClaim := { program := "ytiololafeihhmaa", sum := "ae406e122d0ebff25bac24402e865677ed0794f1ba842fd87581d12b5d36d15d", func := "agora/agoralaw18.ScorePlays", spec := "scorePlays", apart := false }
def ScorePlaysSaid : Prop := scorePlaysRow.holds Try.pinned (OpenSpec.ofChange scorePlaysSpec)

/-- ITS FALSE NEIGHBOUR: 'it returns false'. Refute it at one input. -/
def scorePlaysWrong : ChangeSpec := { name := "scorePlays", fn := fun _ => fun
  | [d1, d2, d3] => { results := [.lit (.bool false)], args := [d1, d2, d3] }
  | _ => none }
def ScorePlaysWrongFalsely : Prop := scorePlaysRow.holds Try.pinned (OpenSpec.ofChange scorePlaysWrong)

/-- 'agoralaw18.ScoreNone': WHATEVER THE INPUT: true; the input reads as it did. -/
def scoreNoneSpec : ChangeSpec := { name := "scoreNone", fn := fun _ => fun
  | [d1, d2, d3] => { results := [.lit (.bool true)], args := [d1, d2, d3] }
  | _ => none }
def scoreNoneRow : OpenClaim := { program := "ytiololafeihhmaa", sum := "ae406e122d0ebff25bac24402e865677ed0794f1ba842fd87581d12b5d36d15d", func := "agora/agoralaw18.ScoreNone", spec := "scoreNone", apart := false }
def ScoreNoneSaid : Prop := scoreNoneRow.holds Try.pinned (OpenSpec.ofChange scoreNoneSpec)

/-- ITS FALSE NEIGHBOUR: 'it returns false'. Refute it at one input. -/
def scoreNoneWrong : ChangeSpec := { name := "scoreNone", fn := fun _ => fun
  | [d1, d2, d3] => { results := [.lit (.bool false)], args := [d1, d2, d3] }
  | _ => none }
def ScoreNoneWrongFalsely : Prop := scoreNoneRow.holds Try.pinned (OpenSpec.ofChange scoreNoneWrong)

/- THE SECOND FORM. 'bulk': how many values and letters a reading holds, each counted each time it is reached (what is shared counts as often as it is met; a slice's spare places count too). A statement '..UptoSaid' is the law's where the arguments, and the package variables that the reading takes, are together of bulk at most 1048576: NARROWER than '..Said'. Prove '..Said' where nothing that the law and all that it calls make is longer than what came in: it says more and counts as full. Else prove '..UptoSaid'. A law counts once. -/
mutual
def uptoBulk {H : Type} : DataW H → Nat
  | .lit (.string bytes) => bytes.length + 1
  | .lit _ => 1
  | .nil => 1
  | .ptr d => uptoBulk d + 1
  | .slice elems spare => uptoBulkAll elems + uptoBulkAll spare + 1
  | .agg parts => uptoBulkAll parts + 1
  | .iface _ d => uptoBulk d + 1
  | .map entries => uptoBulkEntries entries + 1
  | .held _ => 1
def uptoBulkAll {H : Type} : List (DataW H) → Nat
  | [] => 0
  | d :: r => uptoBulk d + uptoBulkAll r
def uptoBulkEntries {H : Type} : List (Lit × DataW H) → Nat
  | [] => 0
  | x :: r => uptoBulkEntry x + uptoBulkEntries r
def uptoBulkEntry {H : Type} : Lit × DataW H → Nat
  | (.string bytes, d) => bytes.length + uptoBulk d + 1
  | (_, d) => uptoBulk d + 1
 end
def uptoSmall : (H : Type) → List (DataW H) → Bool := fun _ ds => decide (uptoBulkAll ds ≤ 1048576)
def OpenSpec.upto (s : _root_.Go.ChangeSpec) : _root_.Go.OpenSpec := { _root_.Go.OpenSpec.ofChange s with cond := some uptoSmall }

/-- 'agoralaw18.ScoreTurns', WHERE WHAT IT READS IS OF BULK AT MOST 1048576: true; the input reads as it did. -/
def scoreTurnsUptoRow : OpenClaim := { program := "ytiololafeihhmaa", sum := "ae406e122d0ebff25bac24402e865677ed0794f1ba842fd87581d12b5d36d15d", func := "agora/agoralaw18.ScoreTurns", spec := "scoreTurns", apart := false, narrowed := true }
def ScoreTurnsUptoSaid : Prop := scoreTurnsUptoRow.holds Try.pinned (OpenSpec.upto scoreTurnsSpec)

/-- 'agoralaw18.ScoreApart', WHERE WHAT IT READS IS OF BULK AT MOST 1048576: true; the input reads as it did. -/
def scoreApartUptoRow : OpenClaim := { program := "ytiololafeihhmaa", sum := "ae406e122d0ebff25bac24402e865677ed0794f1ba842fd87581d12b5d36d15d", func := "agora/agoralaw18.ScoreApart", spec := "scoreApart", apart := false, narrowed := true }
def ScoreApartUptoSaid : Prop := scoreApartUptoRow.holds Try.pinned (OpenSpec.upto scoreApartSpec)

/-- 'agoralaw18.ScoreBounds', WHERE WHAT IT READS IS OF BULK AT MOST 1048576: true; the input reads as it did. -/
def scoreBoundsUptoRow : OpenClaim := { program := "ytiololafeihhmaa", sum := "ae406e122d0ebff25bac24402e865677ed0794f1ba842fd87581d12b5d36d15d", func := "agora/agoralaw18.ScoreBounds", spec := "scoreBounds", apart := false, narrowed := true }
def ScoreBoundsUptoSaid : Prop := scoreBoundsUptoRow.holds Try.pinned (OpenSpec.upto scoreBoundsSpec)

/-- 'agoralaw18.ScoreOrder', WHERE WHAT IT READS IS OF BULK AT MOST 1048576: true; the input reads as it did. -/
def scoreOrderUptoRow : OpenClaim := { program := "ytiololafeihhmaa", sum := "ae406e122d0ebff25bac24402e865677ed0794f1ba842fd87581d12b5d36d15d", func := "agora/agoralaw18.ScoreOrder", spec := "scoreOrder", apart := false, narrowed := true }
def ScoreOrderUptoSaid : Prop := scoreOrderUptoRow.holds Try.pinned (OpenSpec.upto scoreOrderSpec)

/-- 'agoralaw18.ScorePlays', WHERE WHAT IT READS IS OF BULK AT MOST 1048576: true; the input reads as it did. -/
def scorePlaysUptoRow : OpenClaim := { program := "ytiololafeihhmaa", sum := "ae406e122d0ebff25bac24402e865677ed0794f1ba842fd87581d12b5d36d15d", func := "agora/agoralaw18.ScorePlays", spec := "scorePlays", apart := false, narrowed := true }
def ScorePlaysUptoSaid : Prop := scorePlaysUptoRow.holds Try.pinned (OpenSpec.upto scorePlaysSpec)

/-- 'agoralaw18.ScoreNone', WHERE WHAT IT READS IS OF BULK AT MOST 1048576: true; the input reads as it did. -/
def scoreNoneUptoRow : OpenClaim := { program := "ytiololafeihhmaa", sum := "ae406e122d0ebff25bac24402e865677ed0794f1ba842fd87581d12b5d36d15d", func := "agora/agoralaw18.ScoreNone", spec := "scoreNone", apart := false, narrowed := true }
def ScoreNoneUptoSaid : Prop := scoreNoneUptoRow.holds Try.pinned (OpenSpec.upto scoreNoneSpec)

end Rows
end Go.Proofs.Ytiololafeihhmaa
