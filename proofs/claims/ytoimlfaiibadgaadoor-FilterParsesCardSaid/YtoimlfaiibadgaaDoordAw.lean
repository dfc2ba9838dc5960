/- The examples of chapter 23 hold: the kernel runs them. -/
import Derived.Test.YtoimlfaiibadgaaDoordCode
import Derived.KernelRfl
set_option linter.unusedSimpArgs false
set_option linter.unusedVariables false
set_option linter.all false
namespace Go.Proofs.YtoimlfaiibadgaaDoor
open Go Go.Abs
theorem code_closed : ClosedCode code := closed_of (by kernel_rfl)
theorem awake_runs : envN code prims 100 16 0 [] [] = some (boolD true, []) := by kernel_rfl
theorem awake_ev (lim : Nat) (H : AHeap) : Ev X 16 lim [] H (boolD true) H := ev_anyP prims_any code_closed rfl (show code 16 = some c16 from rfl) rfl awake_runs rfl rfl lim H
end Go.Proofs.YtoimlfaiibadgaaDoor
