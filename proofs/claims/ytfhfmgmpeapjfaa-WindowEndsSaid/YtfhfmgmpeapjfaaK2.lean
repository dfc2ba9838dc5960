/- Deeds, as plain data. -/
import Derived.Test.YtfhfmgmpeapjfaaProg
import Derived.Test.YtfhfmgmpeapjfaaAbsC
import Derived.Test.YtfhfmgmpeapjfaaW7
import Derived.KernelRfl
set_option linter.unusedSimpArgs false
set_option linter.unusedVariables false
set_option linter.all false
namespace Go.Proofs.Ytfhfmgmpeapjfaa
open Go Go.Abs Go.RowKit

theorem opens_deed (w : World) : Opens Try.prog w 48 fun ds => ∃ p : Dd, ds = [.int .i64 p.1, .int .i64 p.2.1, .str p.2.2] ∧ (-9223372036854775808 ≤ p.2.1 ∧ p.2.1 ≤ 9223372036854775807) := by
  have h := opens_struct (P := Try.prog) (w := w) (t := 48) (As := [_, _, _]) Try.underlying48 ⟨rfl, opens_i64 Try.underlying3, (by kernel_rfl), opens_i64 Try.underlying2, (by kernel_rfl), opens_str Try.underlying9, trivial⟩ (by kernel_rfl)
  refine h.mono fun ds hd => ?_
  obtain ⟨d1, d2, rfl, ⟨n, rfl, _⟩, d3, d4, rfl, ⟨m, rfl, hm⟩, d5, d6, rfl, ⟨s, rfl, _⟩, h4⟩ := hd
  have h4 : d6 = [] := h4
  subst h4
  exact ⟨(n, m, s), rfl, hm⟩

theorem opens_deeds (w : World) : Opens Try.prog w 41 fun ds => ∃ l : List Dd, ds = [.slice (l.map dD)] ∧ l.length ≤ maxLen ∧ ∀ p ∈ l, -9223372036854775808 ≤ p.2.1 ∧ p.2.1 ≤ 9223372036854775807 :=
  opens_rows (sz := 3) Try.underlying41 (by kernel_rfl) (by decide) (opens_deed w) fun es ⟨p, h1, h2⟩ _ => ⟨p, h2, by subst h1; rfl⟩

end Go.Proofs.Ytfhfmgmpeapjfaa
