/- The examples of chapter 23 hold: the kernel runs them. -/
import Derived.Test.YtcmbkehhpfbhiaaDoorcCode
import Derived.KernelRfl
set_option linter.unusedSimpArgs false
set_option linter.unusedVariables false
set_option linter.all false
namespace Go.Proofs.YtcmbkehhpfbhiaaDoor
open Go Go.Abs
theorem code_closed : ClosedCode code := closed_of (by kernel_rfl)
theorem awake_runs : envN code prims 20 11 0 [] [] = some (boolD true, []) := by kernel_rfl
theorem awake_ev (lim : Nat) (H : AHeap) : Ev X 11 lim [] H (boolD true) H := ev_anyP prims_any code_closed rfl (show code 11 = some c11 from rfl) rfl awake_runs rfl rfl lim H
end Go.Proofs.YtcmbkehhpfbhiaaDoor
