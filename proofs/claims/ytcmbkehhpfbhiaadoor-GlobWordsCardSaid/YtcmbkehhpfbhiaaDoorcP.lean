/- The search for a byte means what it stands for. -/
import Derived.Test.YtcmbkehhpfbhiaaDoorcHeld
set_option linter.unusedSimpArgs false
set_option linter.unusedVariables false
set_option linter.all false
namespace Go.Proofs.YtcmbkehhpfbhiaaDoor
open Go Go.Abs

theorem prims_ok : ∀ f F, prims f = some F → FSound Tryd.prog f F := fun f F h => by
  unfold prims at h
  split at h
  · rename_i hf
    subst hf
    simp only [Option.some.injEq] at h; subst h
    exact idxByte_sound Tryd.func36 (by kernel_rfl) (by kernel_rfl) (by kernel_rfl) (by kernel_rfl)
  · cases h

end Go.Proofs.YtcmbkehhpfbhiaaDoor
