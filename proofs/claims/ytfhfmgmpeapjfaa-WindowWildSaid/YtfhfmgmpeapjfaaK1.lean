/- The kinds of the arguments of these laws, as plain data. -/
import Derived.Test.YtfhfmgmpeapjfaaProg
import Derived.Test.YtfhfmgmpeapjfaaAbsC
import Derived.Test.YtfhfmgmpeapjfaaM1
import Derived.KernelRfl
set_option linter.unusedSimpArgs false
set_option linter.unusedVariables false
set_option linter.all false
namespace Go.Proofs.Ytfhfmgmpeapjfaa
open Go Go.Abs Go.RowKit

theorem opens_piece (w : World) : Opens Try.prog w 31 fun ds => ∃ p : Pc, ds = [.int .i64 p.1, bD p.2] ∧ (-9223372036854775808 ≤ p.1 ∧ p.1 ≤ 9223372036854775807) := by
  have h := opens_struct (P := Try.prog) (w := w) (t := 31) (As := [_, _]) Try.underlying31 ⟨rfl, opens_i64 Try.underlying2, (by kernel_rfl), opens_bytes Try.underlying29 Try.underlying5 (by kernel_rfl), trivial⟩ (by kernel_rfl)
  refine h.mono fun ds hd => ?_
  obtain ⟨d1, d2, rfl, ⟨n, rfl, hn⟩, d3, d4, rfl, ⟨s, rfl, _⟩, h4⟩ := hd
  have h4 : d4 = [] := h4
  subst h4
  exact ⟨(n, s), rfl, hn⟩

theorem opens_pieces (w : World) : Opens Try.prog w 22 fun ds => ∃ l : List Pc, ds = [.slice (l.map pD)] ∧ l.length ≤ maxLen ∧ ∀ p ∈ l, -9223372036854775808 ≤ p.1 ∧ p.1 ≤ 9223372036854775807 :=
  opens_rows (sz := 2) Try.underlying22 (by kernel_rfl) (by decide) (opens_piece w) fun es ⟨p, h1, h2⟩ _ => ⟨p, h2, by subst h1; rfl⟩

end Go.Proofs.Ytfhfmgmpeapjfaa
