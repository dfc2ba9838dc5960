/- Filters and lines, as the row reads them. -/
import Derived.Test.YtoimlfaiibadgaaDoorProg
import Derived.Test.YtoimlfaiibadgaaDoorAbsC
import Derived.Test.YtoimlfaiibadgaaDoordM4
import Derived.Test.YtoimlfaiibadgaaDoordV1
import Derived.KernelRfl
set_option linter.unusedSimpArgs false
set_option linter.unusedVariables false
set_option linter.all false
namespace Go.Proofs.YtoimlfaiibadgaaDoor
open Go Go.Abs Go.RowKit

theorem opens_texts (w : World) : Opens Tryd.prog w 22 fun ds => ∃ l : List Tx, ds = [sD l] ∧ ∀ s ∈ l, s.length ≤ reachBytes :=
  (opens_rows (sz := 1) (f := D.str) (Q := fun s : Tx => s.length ≤ reachBytes) Tryd.underlying22 (by kernel_rfl) (by decide) (opens_str Tryd.underlying9) fun es ⟨l, h, hl⟩ _ => ⟨l, hl, by rw [h]; rfl⟩).mono
    fun ds ⟨l, h1, _, h3⟩ => ⟨l, h1, h3⟩

theorem opens_filter (w : World) : Opens Tryd.prog w 27 fun ds => ∃ f : Fl, ds = [sD f.ty, sD f.nty, sD f.sn, sD f.nsn, .int .i64 f.lim] ∧ Lim f :=
  (opens_struct Tryd.underlying27 (As := [_, _, _, _, _]) ⟨rfl, opens_texts w, by kernel_rfl, opens_texts w, by kernel_rfl, opens_texts w, by kernel_rfl, opens_texts w, by kernel_rfl, opens_i64 Tryd.underlying3, trivial⟩ (by kernel_rfl)).mono
    fun ds h => by
      obtain ⟨d1, r1, rfl, ⟨a, rfl, _⟩, d2, r2, rfl, ⟨b, rfl, _⟩, d3, r3, rfl, ⟨c, rfl, _⟩, d4, r4, rfl, ⟨d, rfl, _⟩, d5, r5, rfl, ⟨n, rfl, hn⟩, h6⟩ := h
      have : r5 = [] := h6
      subst this
      exact ⟨⟨a, b, c, d, n⟩, rfl, hn⟩

theorem opens_line (w : World) : Opens Tryd.prog w 45 fun ds => ∃ l : Ln, ds = [.str l.id, .str l.ty, .str l.sn, .str l.ky, .str l.bd] ∧ l.ty.length ≤ reachBytes ∧ l.sn.length ≤ reachBytes :=
  (opens_struct Tryd.underlying45 (As := [_, _, _, _, _]) ⟨rfl, opens_str Tryd.underlying9, by kernel_rfl, opens_str Tryd.underlying9, by kernel_rfl, opens_str Tryd.underlying9, by kernel_rfl, opens_str Tryd.underlying9, by kernel_rfl, opens_str Tryd.underlying9, trivial⟩ (by kernel_rfl)).mono
    fun ds h => by
      obtain ⟨d1, r1, rfl, ⟨a, rfl, _⟩, d2, r2, rfl, ⟨b, rfl, hb⟩, d3, r3, rfl, ⟨c, rfl, hc⟩, d4, r4, rfl, ⟨d, rfl, _⟩, d5, r5, rfl, ⟨e, rfl, _⟩, h6⟩ := h
      have : r5 = [] := h6
      subst this
      exact ⟨⟨a, b, c, d, e⟩, rfl, hb, hc⟩

theorem opens_lines (w : World) : Opens Tryd.prog w 39 fun ds => ∃ l : List Ln, ds = [lnsD l] ∧ ∀ x ∈ l, x.ty.length ≤ 4611686018427387903 ∧ x.sn.length ≤ 4611686018427387903 :=
  (opens_rows (sz := 5) (f := lnD) (Q := fun x : Ln => x.ty.length ≤ reachBytes ∧ x.sn.length ≤ reachBytes) Tryd.underlying39 (by kernel_rfl) (by decide) (opens_line w) fun es ⟨l, h, hl⟩ _ => ⟨l, hl, by rw [h]; rfl⟩).mono
    fun ds ⟨l, h1, _, h3⟩ => ⟨l, h1, fun x hx => by
      obtain ⟨q1, q2⟩ := h3 x hx
      have := reachBytes_lt
      omega⟩

end Go.Proofs.YtoimlfaiibadgaaDoor
