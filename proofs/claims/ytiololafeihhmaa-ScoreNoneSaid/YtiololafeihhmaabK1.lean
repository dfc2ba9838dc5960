/- Deeds, as plain data. -/
import Derived.Test.YtiololafeihhmaaProg
import Derived.Test.YtiololafeihhmaaAbsC
import Derived.Test.YtiololafeihhmaabW4
import Derived.KernelRfl
set_option linter.unusedSimpArgs false
set_option linter.unusedVariables false
set_option linter.all false
namespace Go.Proofs.Ytiololafeihhmaa
open Go Go.Abs Go.RowKit

theorem opens_deed (w : World) : Opens Try.prog w 31 fun ds => ∃ p : Dd, ds = [.int .i64 p.1, .int .i64 p.2.1, .int .i64 p.2.2.1, .str p.2.2.2] := by
  have h := opens_struct (P := Try.prog) (w := w) (t := 31) (As := [_, _, _, _]) Try.underlying31 ⟨rfl, opens_i64 Try.underlying3, (by kernel_rfl), opens_i64 Try.underlying3, (by kernel_rfl), opens_i64 Try.underlying3, (by kernel_rfl), opens_str Try.underlying9, trivial⟩ (by kernel_rfl)
  refine h.mono fun ds hd => ?_
  obtain ⟨d1, d2, rfl, ⟨n, rfl, _⟩, d3, d4, rfl, ⟨m, rfl, _⟩, d5, d6, rfl, ⟨k, rfl, _⟩, d7, d8, rfl, ⟨s, rfl, _⟩, h4⟩ := hd
  have h4 : d8 = [] := h4
  subst h4
  exact ⟨(n, m, k, s), rfl⟩

theorem opens_deeds (w : World) : Opens Try.prog w 22 fun ds => ∃ l : List Dd, ds = [.slice (l.map dD)] ∧ l.length ≤ maxLen ∧ ∀ p ∈ l, True :=
  opens_rows (sz := 4) Try.underlying22 (by kernel_rfl) (by decide) (opens_deed w) fun es ⟨p, h1⟩ _ => ⟨p, trivial, by subst h1; rfl⟩

end Go.Proofs.Ytiololafeihhmaa
