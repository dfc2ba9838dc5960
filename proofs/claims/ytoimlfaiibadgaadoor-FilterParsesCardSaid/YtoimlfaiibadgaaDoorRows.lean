/-
  NARROWER THAN 'FOR EVERY INPUT', by the rows' own cells (each row's printed sentence says how): FilterParses: loops, laid · FilterKeeps: laid · FilterBack: laid · FilterTwice: laid · FilterBoth: laid.
  DERIVED. THE GIVEN ROWS OF THIS SEAT. 5 by the template 'for every input the law returns true; each argument reads behind the call as it read before'; 0 by the template 'total and deterministic' (their statements: YtoimlfaiibadgaaDoorTotals.lean).
  GIVEN WITH THE SEED: the statements are not yours to turn. If you find one false, say at which input.
  Laid BY PROGRAM, IN A SANDBOX (cutbox-rows.mjs): the forced cells as the released guide's own fill.sh prints them over the translation 5fbc274b41807d09… (all of the seat's roots in one cut). By AI agents, Wed Nov 11 2026. No macro, syntax, notation, axiom, sorry.
-/
import Derived.Test.YtoimlfaiibadgaaDoorChecked
import GoSem.PinnedTables
import GoSem.Claim
import GoSem.ClaimJoined
import GoSem.ClaimMapViews
import Derived.JoinedTies
import Derived.KernelRfl
namespace Go.Proofs.YtoimlfaiibadgaaDoor
/- THE CELL 'sum', in the pinned program and in every row, IS THE sha256 OF THE DUMP (.gsa) THAT YtoimlfaiibadgaaDoorProg.lean LOADS. Nothing in Lean hashes anything: it is a label: what it is worth is what the hold of that sum in a sandbox is worth. -/
noncomputable def Tryd.pinned : Pinned := { name := "ytoimlfaiibadgaadoor", sum := "5fbc274b41807d092ca9d99dcaf03d74659ed798cc65b831640b5b057050891b", checked := Tryd.checked }
namespace Rows
def none {H : Type} : Left H := { results := [], args := [] }

/- WHAT THE LISTED PACKAGE-LEVEL VARIABLES READ AS WHEN THE CALL BEGINS. Each datum BY PROGRAM (the guide's laid-datum.mjs) off the statement by which the dump's own 'gosem.cut.vars' lays the variable. In a bare row this is a premise. The card (YtoimlfaiibadgaaDoorCards.lean) ties it to the program's text. -/
def laid_unicode_utf8_acceptRanges {H : Type} : DataW H := .agg [.agg [.lit (.int .u8 128), .lit (.int .u8 191)], .agg [.lit (.int .u8 160), .lit (.int .u8 191)], .agg [.lit (.int .u8 128), .lit (.int .u8 159)], .agg [.lit (.int .u8 144), .lit (.int .u8 191)], .agg [.lit (.int .u8 128), .lit (.int .u8 143)], .agg [.lit (.int .u8 0), .lit (.int .u8 0)], .agg [.lit (.int .u8 0), .lit (.int .u8 0)], .agg [.lit (.int .u8 0), .lit (.int .u8 0)], .agg [.lit (.int .u8 0), .lit (.int .u8 0)], .agg [.lit (.int .u8 0), .lit (.int .u8 0)], .agg [.lit (.int .u8 0), .lit (.int .u8 0)], .agg [.lit (.int .u8 0), .lit (.int .u8 0)], .agg [.lit (.int .u8 0), .lit (.int .u8 0)], .agg [.lit (.int .u8 0), .lit (.int .u8 0)], .agg [.lit (.int .u8 0), .lit (.int .u8 0)], .agg [.lit (.int .u8 0), .lit (.int .u8 0)]]
/-- One of Go's own tables, pinned by name: the form's constant. -/
def laid_unicode_utf8_first : DataW Unit := Go.Pinned.utf8First

/-- 'agoralaw24.FilterParses': WHATEVER THE INPUT: true; the input reads as it did. -/
def filterParsesSpec : ChangeSpec := { name := "filterParses", fn := fun _ => fun
  | [d1, d2] => { results := [.lit (.bool true)], args := [d1, d2] }
  | _ => none }
def filterParsesRow : OpenClaim := { program := "ytoimlfaiibadgaadoor", sum := "5fbc274b41807d092ca9d99dcaf03d74659ed798cc65b831640b5b057050891b", func := "agora/agoralaw24.FilterParses", spec := "filterParses", unfollowed := true, recurses := true, named := ["unicode/utf8.first", "unicode/utf8.acceptRanges"], loops := true, apart := false, laid := [("unicode/utf8.acceptRanges", laid_unicode_utf8_acceptRanges), ("unicode/utf8.first", laid_unicode_utf8_first)] }
def FilterParsesSaid : Prop := filterParsesRow.holds Tryd.pinned (OpenSpec.ofChange filterParsesSpec)

/-- ITS FALSE NEIGHBOUR: 'it returns false'. Refute it at one input. -/
def filterParsesWrong : ChangeSpec := { name := "filterParses", fn := fun _ => fun
  | [d1, d2] => { results := [.lit (.bool false)], args := [d1, d2] }
  | _ => none }
def FilterParsesWrongFalsely : Prop := filterParsesRow.holds Tryd.pinned (OpenSpec.ofChange filterParsesWrong)

/-- 'agoralaw24.FilterKeeps': WHATEVER THE INPUT: true; the input reads as it did. -/
def filterKeepsSpec : ChangeSpec := { name := "filterKeeps", fn := fun _ => fun
  | [d1, d2] => { results := [.lit (.bool true)], args := [d1, d2] }
  | _ => none }
def filterKeepsRow : OpenClaim := { program := "ytoimlfaiibadgaadoor", sum := "5fbc274b41807d092ca9d99dcaf03d74659ed798cc65b831640b5b057050891b", func := "agora/agoralaw24.FilterKeeps", spec := "filterKeeps", unfollowed := true, recurses := true, named := ["unicode/utf8.first", "unicode/utf8.acceptRanges"], apart := false, laid := [("unicode/utf8.acceptRanges", laid_unicode_utf8_acceptRanges), ("unicode/utf8.first", laid_unicode_utf8_first)] }
def FilterKeepsSaid : Prop := filterKeepsRow.holds Tryd.pinned (OpenSpec.ofChange filterKeepsSpec)

/-- ITS FALSE NEIGHBOUR: 'it returns false'. Refute it at one input. -/
def filterKeepsWrong : ChangeSpec := { name := "filterKeeps", fn := fun _ => fun
  | [d1, d2] => { results := [.lit (.bool false)], args := [d1, d2] }
  | _ => none }
def FilterKeepsWrongFalsely : Prop := filterKeepsRow.holds Tryd.pinned (OpenSpec.ofChange filterKeepsWrong)

/-- 'agoralaw24.FilterBack': WHATEVER THE INPUT: true; the input reads as it did. -/
def filterBackSpec : ChangeSpec := { name := "filterBack", fn := fun _ => fun
  | [d] => { results := [.lit (.bool true)], args := [d] }
  | _ => none }
def filterBackRow : OpenClaim := { program := "ytoimlfaiibadgaadoor", sum := "5fbc274b41807d092ca9d99dcaf03d74659ed798cc65b831640b5b057050891b", func := "agora/agoralaw24.FilterBack", spec := "filterBack", unfollowed := true, recurses := true, named := ["unicode/utf8.first", "unicode/utf8.acceptRanges"], apart := false, laid := [("unicode/utf8.acceptRanges", laid_unicode_utf8_acceptRanges), ("unicode/utf8.first", laid_unicode_utf8_first)] }
def FilterBackSaid : Prop := filterBackRow.holds Tryd.pinned (OpenSpec.ofChange filterBackSpec)

/-- ITS FALSE NEIGHBOUR: 'it returns false'. Refute it at one input. -/
def filterBackWrong : ChangeSpec := { name := "filterBack", fn := fun _ => fun
  | [d] => { results := [.lit (.bool false)], args := [d] }
  | _ => none }
def FilterBackWrongFalsely : Prop := filterBackRow.holds Tryd.pinned (OpenSpec.ofChange filterBackWrong)

/-- 'agoralaw24.FilterTwice': WHATEVER THE INPUT: true; the input reads as it did. -/
def filterTwiceSpec : ChangeSpec := { name := "filterTwice", fn := fun _ => fun
  | [d1, d2] => { results := [.lit (.bool true)], args := [d1, d2] }
  | _ => none }
def filterTwiceRow : OpenClaim := { program := "ytoimlfaiibadgaadoor", sum := "5fbc274b41807d092ca9d99dcaf03d74659ed798cc65b831640b5b057050891b", func := "agora/agoralaw24.FilterTwice", spec := "filterTwice", unfollowed := true, recurses := true, named := ["unicode/utf8.first", "unicode/utf8.acceptRanges"], apart := false, laid := [("unicode/utf8.acceptRanges", laid_unicode_utf8_acceptRanges), ("unicode/utf8.first", laid_unicode_utf8_first)] }
def FilterTwiceSaid : Prop := filterTwiceRow.holds Tryd.pinned (OpenSpec.ofChange filterTwiceSpec)

/-- ITS FALSE NEIGHBOUR: 'it returns false'. Refute it at one input. -/
def filterTwiceWrong : ChangeSpec := { name := "filterTwice", fn := fun _ => fun
  | [d1, d2] => { results := [.lit (.bool false)], args := [d1, d2] }
  | _ => none }
def FilterTwiceWrongFalsely : Prop := filterTwiceRow.holds Tryd.pinned (OpenSpec.ofChange filterTwiceWrong)

/-- 'agoralaw24.FilterBoth': WHATEVER THE INPUT: true; the input reads as it did. -/
def filterBothSpec : ChangeSpec := { name := "filterBoth", fn := fun _ => fun
  | [d1, d2, d3] => { results := [.lit (.bool true)], args := [d1, d2, d3] }
  | _ => none }
def filterBothRow : OpenClaim := { program := "ytoimlfaiibadgaadoor", sum := "5fbc274b41807d092ca9d99dcaf03d74659ed798cc65b831640b5b057050891b", func := "agora/agoralaw24.FilterBoth", spec := "filterBoth", unfollowed := true, recurses := true, named := ["unicode/utf8.first", "unicode/utf8.acceptRanges"], apart := false, laid := [("unicode/utf8.acceptRanges", laid_unicode_utf8_acceptRanges), ("unicode/utf8.first", laid_unicode_utf8_first)] }
def FilterBothSaid : Prop := filterBothRow.holds Tryd.pinned (OpenSpec.ofChange filterBothSpec)

/-- ITS FALSE NEIGHBOUR: 'it returns false'. Refute it at one input. -/
def filterBothWrong : ChangeSpec := { name := "filterBoth", fn := fun _ => fun
  | [d1, d2, d3] => { results := [.lit (.bool false)], args := [d1, d2, d3] }
  | _ => none }
def FilterBothWrongFalsely : Prop := filterBothRow.holds Tryd.pinned (OpenSpec.ofChange filterBothWrong)

/- THE SECOND FORM. 'bulk': how many values and letters a reading holds, each counted each time it is reached (what is shared counts as often as it is met; a slice's spare places count too). A statement '..UptoSaid' is the law's where the arguments, and the package variables that the reading takes, are together of bulk at most 1048576: NARROWER than '..Said'. Prove '..Said' where nothing that the law and all that it calls make is longer than what came in: it says more and counts as full. Else prove '..UptoSaid'. A law counts once. -/
mutual
def uptoBulk {H : Type} : DataW H → Nat
  | .lit (.string bytes) => bytes.length + 1
  | .lit _ => 1
  | .nil => 1
  | .ptr d => uptoBulk d + 1
  | .slice elems spare => uptoBulkAll elems + uptoBulkAll spare + 1
  | .agg parts => uptoBulkAll parts + 1
  | .iface _ d => uptoBulk d + 1
  | .map entries => uptoBulkEntries entries + 1
  | .held _ => 1
def uptoBulkAll {H : Type} : List (DataW H) → Nat
  | [] => 0
  | d :: r => uptoBulk d + uptoBulkAll r
def uptoBulkEntries {H : Type} : List (Lit × DataW H) → Nat
  | [] => 0
  | x :: r => uptoBulkEntry x + uptoBulkEntries r
def uptoBulkEntry {H : Type} : Lit × DataW H → Nat
  | (.string bytes, d) => bytes.length + uptoBulk d + 1
  | (_, d) => uptoBulk d + 1
 end
def uptoSmall : (H : Type) → List (DataW H) → Bool := fun _ ds => decide (uptoBulkAll ds ≤ 1048576)
def OpenSpec.upto (s : _root_.Go.ChangeSpec) : _root_.Go.OpenSpec := { _root_.Go.OpenSpec.ofChange s with cond := some uptoSmall }

/-- 'agoralaw24.FilterParses', WHERE WHAT IT READS IS OF BULK AT MOST 1048576: true; the input reads as it did. -/
def filterParsesUptoRow : OpenClaim := { program := "ytoimlfaiibadgaadoor", sum := "5fbc274b41807d092ca9d99dcaf03d74659ed798cc65b831640b5b057050891b", func := "agora/agoralaw24.FilterParses", spec := "filterParses", unfollowed := true, recurses := true, named := ["unicode/utf8.first", "unicode/utf8.acceptRanges"], loops := true, apart := false, laid := [("unicode/utf8.acceptRanges", laid_unicode_utf8_acceptRanges), ("unicode/utf8.first", laid_unicode_utf8_first)], narrowed := true }
def FilterParsesUptoSaid : Prop := filterParsesUptoRow.holds Tryd.pinned (OpenSpec.upto filterParsesSpec)

/-- 'agoralaw24.FilterKeeps', WHERE WHAT IT READS IS OF BULK AT MOST 1048576: true; the input reads as it did. -/
def filterKeepsUptoRow : OpenClaim := { program := "ytoimlfaiibadgaadoor", sum := "5fbc274b41807d092ca9d99dcaf03d74659ed798cc65b831640b5b057050891b", func := "agora/agoralaw24.FilterKeeps", spec := "filterKeeps", unfollowed := true, recurses := true, named := ["unicode/utf8.first", "unicode/utf8.acceptRanges"], apart := false, laid := [("unicode/utf8.acceptRanges", laid_unicode_utf8_acceptRanges), ("unicode/utf8.first", laid_unicode_utf8_first)], narrowed := true }
def FilterKeepsUptoSaid : Prop := filterKeepsUptoRow.holds Tryd.pinned (OpenSpec.upto filterKeepsSpec)

/-- 'agoralaw24.FilterBack', WHERE WHAT IT READS IS OF BULK AT MOST 1048576: true; the input reads as it did. -/
def filterBackUptoRow : OpenClaim := { program := "ytoimlfaiibadgaadoor", sum := "5fbc274b41807d092ca9d99dcaf03d74659ed798cc65b831640b5b057050891b", func := "agora/agoralaw24.FilterBack", spec := "filterBack", unfollowed := true, recurses := true, named := ["unicode/utf8.first", "unicode/utf8.acceptRanges"], apart := false, laid := [("unicode/utf8.acceptRanges", laid_unicode_utf8_acceptRanges), ("unicode/utf8.first", laid_unicode_utf8_first)], narrowed := true }
def FilterBackUptoSaid : Prop := filterBackUptoRow.holds Tryd.pinned (OpenSpec.upto filterBackSpec)

/-- 'agoralaw24.FilterTwice', WHERE WHAT IT READS IS OF BULK AT MOST 1048576: true; the input reads as it did. -/
def filterTwiceUptoRow : OpenClaim := { program := "ytoimlfaiibadgaadoor", sum := "5fbc274b41807d092ca9d99dcaf03d74659ed798cc65b831640b5b057050891b", func := "agora/agoralaw24.FilterTwice", spec := "filterTwice", unfollowed := true, recurses := true, named := ["unicode/utf8.first", "unicode/utf8.acceptRanges"], apart := false, laid := [("unicode/utf8.acceptRanges", laid_unicode_utf8_acceptRanges), ("unicode/utf8.first", laid_unicode_utf8_first)], narrowed := true }
def FilterTwiceUptoSaid : Prop := filterTwiceUptoRow.holds Tryd.pinned (OpenSpec.upto filterTwiceSpec)

/-- 'agoralaw24.FilterBoth', WHERE WHAT IT READS IS OF BULK AT MOST 1048576: true; the input reads as it did. -/
def filterBothUptoRow : OpenClaim := { program := "ytoimlfaiibadgaadoor", sum := "5fbc274b41807d092ca9d99dcaf03d74659ed798cc65b831640b5b057050891b", func := "agora/agoralaw24.FilterBoth", spec := "filterBoth", unfollowed := true, recurses := true, named := ["unicode/utf8.first", "unicode/utf8.acceptRanges"], apart := false, laid := [("unicode/utf8.acceptRanges", laid_unicode_utf8_acceptRanges), ("unicode/utf8.first", laid_unicode_utf8_first)], narrowed := true }
def FilterBothUptoSaid : Prop := filterBothUptoRow.holds Tryd.pinned (OpenSpec.upto filterBothSpec)

end Rows
end Go.Proofs.YtoimlfaiibadgaaDoor
