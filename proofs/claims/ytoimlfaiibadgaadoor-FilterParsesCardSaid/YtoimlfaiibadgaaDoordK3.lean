/- JSON, as the row reads it. -/
import Derived.Test.YtoimlfaiibadgaaDoordK2
import Derived.Test.YtoimlfaiibadgaaDoordM5
set_option linter.unusedSimpArgs false
set_option linter.unusedVariables false
set_option linter.all false
namespace Go.Proofs.YtoimlfaiibadgaaDoor
open Go Go.Abs Go.RowKit

def IsJ (ds : List D) : Prop := ∃ j : J, ds = [.int .i64 j.k, .int .i64 j.n, .str j.t, sD j.ks, jsD j.l]

theorem opens_json_at (w : World) : ∀ fuel, OpensAt Tryd.prog w 25 IsJ fuel := fun fuel => by
  induction fuel using Nat.strongRecOn with
  | _ fuel ih =>
    have h := opens_struct_at (P := Tryd.prog) (w := w) Tryd.underlying25 (As := [_, _, _, _, _]) (fuel := fuel)
      ⟨rfl, fun n _ => opens_i64 Tryd.underlying3 n, by kernel_rfl, fun n _ => opens_i64 Tryd.underlying2 n, by kernel_rfl, fun n _ => opens_str Tryd.underlying9 n, by kernel_rfl, fun n _ => opens_texts w n, by kernel_rfl,
        fun n hn => opens_slice_at (sz := 5) (A := IsJ) Tryd.underlying23 (by kernel_rfl) (by decide) fun m hm => ih m (by omega), trivial⟩ (by kernel_rfl)
    intro H enc base sp hd cs x hx hw
    obtain ⟨ds, h1, h2⟩ := h H enc base sp hd cs x hx hw
    refine ⟨ds, ?_, h2⟩
    obtain ⟨d1, r1, rfl, ⟨k, rfl, _⟩, d2, r2, rfl, ⟨n, rfl, _⟩, d3, r3, rfl, ⟨t, rfl, _⟩, d4, r4, rfl, ⟨ks, rfl, _⟩, d5, r5, rfl, ⟨xs, rfl, _, hxs⟩, h6⟩ := h1
    have : r5 = [] := h6
    subst this
    obtain ⟨l, _, h5⟩ := list_of (Q := fun _ : J => True) (f := J.d) (xs := xs) fun x hx => by
      obtain ⟨es, ⟨j, rfl⟩, _, rfl⟩ := hxs x hx
      exact ⟨j, trivial, by rw [jd]; rfl⟩
    subst h5
    exact ⟨.mk k n t ks l, rfl⟩

theorem opens_json (w : World) : Opens Tryd.prog w 25 IsJ := opens_json_at w

end Go.Proofs.YtoimlfaiibadgaaDoor
