/- The abstract code is what the model's code is read as: the kernel says so, function by function. -/
import Derived.Test.YtfhfmgmpeapjfaaProg
import Derived.Test.YtfhfmgmpeapjfaaaCode
import Derived.KernelRfl
set_option linter.unusedSimpArgs false
set_option linter.unusedVariables false
set_option linter.all false
namespace Go.Proofs.Ytfhfmgmpeapjfaa
open Go Go.Abs
theorem k3 : (compileFn Try.prog mutTk false [16, 23, 28, 37, 59, 71, 77, 105, 4, 1, 5, 6, 7, 8, 9, 57, 58, 10, 11, 12, 13] 3).bind (slimFn [16, 23, 28, 37, 59, 71, 77, 105, 4, 1, 5, 6, 7, 8, 9, 57, 58, 10, 11, 12, 13] 27) = some c3 := by kernel_rfl
theorem k4 : (compileFn Try.prog noTk false [11, 28, 30, 42, 51, 90, 4, 1, 0, 5, 6, 7, 8] 4).bind (slimFn [11, 28, 30, 42, 51, 90, 4, 1, 0, 5, 6, 7, 8] 17) = some c4 := by kernel_rfl
theorem k5 : (compileFn Try.prog noTk false [12, 25, 96, 6, 2, 7, 8, 9] 5).bind (slimFn [12, 25, 96, 6, 2, 7, 8, 9] 14) = some c5 := by kernel_rfl
theorem k6 : (compileFn Try.prog noTk false [15, 23, 28, 42, 46, 56, 6, 2, 0, 7, 8, 9, 10, 11, 12] 6).bind (slimFn [15, 23, 28, 42, 46, 56, 6, 2, 0, 7, 8, 9, 10, 11, 12] 21) = some c6 := by kernel_rfl
theorem k7 : (compileFn Try.prog noTk false [13, 39, 41, 54, 62, 80, 81, 97, 127, 6, 2, 0, 1, 7, 8, 9, 10, 61] 7).bind (slimFn [13, 39, 41, 54, 62, 80, 81, 97, 127, 6, 2, 0, 1, 7, 8, 9, 10, 61] 22) = some c7 := by kernel_rfl
theorem k8 : (compileFn Try.prog noTk false [15, 28, 68, 72, 114, 6, 2, 0, 1, 7, 8, 9, 10, 11, 12] 8).bind (slimFn [15, 28, 68, 72, 114, 6, 2, 0, 1, 7, 8, 9, 10, 11, 12] 19) = some c8 := by kernel_rfl
theorem k9 : (compileFn Try.prog noTk false [19, 61, 68, 95, 100, 4, 5, 6, 0, 7, 8, 9, 11, 12] 9).bind (slimFn [19, 61, 68, 95, 100, 4, 5, 6, 0, 7, 8, 9, 11, 12] 18) = some c9 := by kernel_rfl
theorem k10 : (compileFn Try.prog noTk true [6, 2, 3, 0] 10).bind (slimFn [6, 2, 3, 0] 5) = some c10 := by kernel_rfl
theorem k11 : (compileFn Try.prog noTk false [62, 0, 1, 2, 3, 4, 5, 6, 7, 8, 9] 11).bind (slimFn [62, 0, 1, 2, 3, 4, 5, 6, 7, 8, 9] 15) = some c11 := by kernel_rfl
theorem k12 : (compileFn Try.prog noTk true [40, 52, 75, 4, 3, 0, 6, 7, 8, 9] 12).bind (slimFn [40, 52, 75, 4, 3, 0, 6, 7, 8, 9] 14) = some c12 := by kernel_rfl
theorem k13 : (compileFn Try.prog noTk false [4, 2, 0] 13).bind (slimFn [4, 2, 0] 4) = some c13 := by kernel_rfl
theorem k14 : (compileFn Try.prog noTk false [2] 14).bind (slimFn [2] 4) = some c14 := by kernel_rfl
theorem k15 : (compileFn Try.prog noTk false [10, 14, 27, 4, 0, 1, 5] 15).bind (slimFn [10, 14, 27, 4, 0, 1, 5] 9) = some c15 := by kernel_rfl
theorem k16 : (compileFn Try.prog noTk true [33, 38, 62, 4, 3, 0, 5, 6] 16).bind (slimFn [33, 38, 62, 4, 3, 0, 5, 6] 14) = some c16 := by kernel_rfl
theorem k17 : (compileFn Try.prog noTk false [4, 2, 0] 17).bind (slimFn [4, 2, 0] 4) = some c17 := by kernel_rfl
theorem k18 : (compileFn Try.prog noTk false [6, 10, 19, 2, 0, 3] 18).bind (slimFn [6, 10, 19, 2, 0, 3] 7) = some c18 := by kernel_rfl
theorem k19 : (compileFn Try.prog noTk true [4, 5, 0, 6, 7, 8, 9] 19).bind (slimFn [4, 5, 0, 6, 7, 8, 9] 11) = some c19 := by kernel_rfl
theorem k20 : (compileFn Try.prog noTk true [8, 18, 31, 46, 53, 86, 93, 118, 3, 7, 0, 4, 5] 20).bind (slimFn [8, 18, 31, 46, 53, 86, 93, 118, 3, 7, 0, 4, 5] 20) = some c20 := by kernel_rfl
theorem k21 : (compileFn Try.prog noTk false [5, 2, 0] 21).bind (slimFn [5, 2, 0] 4) = some c21 := by kernel_rfl
theorem k22 : (compileFn Try.prog noTk false [5, 2, 0] 22).bind (slimFn [5, 2, 0] 4) = some c22 := by kernel_rfl
theorem k23 : (compileFn Try.prog noTk true [8, 13, 2, 0, 3, 10, 11, 12, 4, 5] 23).bind (slimFn [8, 13, 2, 0, 3, 10, 11, 12, 4, 5] 13) = some c23 := by kernel_rfl
theorem k24 : (compileFn Try.prog noTk true [28, 4, 0, 1, 5] 24).bind (slimFn [28, 4, 0, 1, 5] 9) = some c24 := by kernel_rfl
theorem k25 : (compileFn Try.prog noTk true [16, 4, 5, 0, 1] 25).bind (slimFn [16, 4, 5, 0, 1] 7) = some c25 := by kernel_rfl
theorem k26 : (compileFn Try.prog noTk true [5, 9, 13, 4, 0, 1] 26).bind (slimFn [5, 9, 13, 4, 0, 1] 9) = some c26 := by kernel_rfl
theorem k27 : (compileFn Try.prog noTk true [7, 27, 4, 1, 0] 27).bind (slimFn [7, 27, 4, 1, 0] 9) = some c27 := by kernel_rfl
theorem k28 : (compileFn Try.prog noTk true [17, 4, 1, 0, 5] 28).bind (slimFn [17, 4, 1, 0, 5] 8) = some c28 := by kernel_rfl
theorem k29 : (compileFn Try.prog noTk false [10, 14, 42, 4, 0, 1, 5] 29).bind (slimFn [10, 14, 42, 4, 0, 1, 5] 11) = some c29 := by kernel_rfl
theorem k30 : (compileFn Try.prog noTk false [12, 2, 3, 0, 4] 30).bind (slimFn [12, 2, 3, 0, 4] 8) = some c30 := by kernel_rfl
theorem k31 : (compileFn Try.prog noTk false [2] 31).bind (slimFn [2] 4) = some c31 := by kernel_rfl
theorem k32 : (compileFn Try.prog noTk false [2, 0, 3] 32).bind (slimFn [2, 0, 3] 4) = some c32 := by kernel_rfl
theorem k33 : (compileFn Try.prog noTk false [12, 24, 4, 5, 0] 33).bind (slimFn [12, 24, 4, 5, 0] 7) = some c33 := by kernel_rfl
theorem k34 : (compileFn Try.prog noTk false [2] 34).bind (slimFn [2] 4) = some c34 := by kernel_rfl
theorem k35 : (compileFn Try.prog noTk false [2] 35).bind (slimFn [2] 5) = some c35 := by kernel_rfl
theorem k36 : (compileFn Try.prog noTk true [4, 2, 0] 36).bind (slimFn [4, 2, 0] 4) = some c36 := by kernel_rfl
theorem k37 : (compileFn Try.prog noTk false [2] 37).bind (slimFn [2] 5) = some c37 := by kernel_rfl
theorem codeAll : AllSlim Try.prog 0 codeL := ⟨⟨mutTk, false, [16, 23, 28, 37, 59, 71, 77, 105, 4, 1, 5, 6, 7, 8, 9, 57, 58, 10, 11, 12, 13], 27, k3⟩, ⟨⟨noTk, false, [11, 28, 30, 42, 51, 90, 4, 1, 0, 5, 6, 7, 8], 17, k4⟩, ⟨⟨noTk, false, [12, 25, 96, 6, 2, 7, 8, 9], 14, k5⟩, ⟨⟨noTk, false, [15, 23, 28, 42, 46, 56, 6, 2, 0, 7, 8, 9, 10, 11, 12], 21, k6⟩, ⟨⟨noTk, false, [13, 39, 41, 54, 62, 80, 81, 97, 127, 6, 2, 0, 1, 7, 8, 9, 10, 61], 22, k7⟩, ⟨⟨noTk, false, [15, 28, 68, 72, 114, 6, 2, 0, 1, 7, 8, 9, 10, 11, 12], 19, k8⟩, ⟨⟨noTk, false, [19, 61, 68, 95, 100, 4, 5, 6, 0, 7, 8, 9, 11, 12], 18, k9⟩, ⟨⟨noTk, true, [6, 2, 3, 0], 5, k10⟩, ⟨⟨noTk, false, [62, 0, 1, 2, 3, 4, 5, 6, 7, 8, 9], 15, k11⟩, ⟨⟨noTk, true, [40, 52, 75, 4, 3, 0, 6, 7, 8, 9], 14, k12⟩, ⟨⟨noTk, false, [4, 2, 0], 4, k13⟩, ⟨⟨noTk, false, [2], 4, k14⟩, ⟨⟨noTk, false, [10, 14, 27, 4, 0, 1, 5], 9, k15⟩, ⟨⟨noTk, true, [33, 38, 62, 4, 3, 0, 5, 6], 14, k16⟩, ⟨⟨noTk, false, [4, 2, 0], 4, k17⟩, ⟨⟨noTk, false, [6, 10, 19, 2, 0, 3], 7, k18⟩, ⟨⟨noTk, true, [4, 5, 0, 6, 7, 8, 9], 11, k19⟩, ⟨⟨noTk, true, [8, 18, 31, 46, 53, 86, 93, 118, 3, 7, 0, 4, 5], 20, k20⟩, ⟨⟨noTk, false, [5, 2, 0], 4, k21⟩, ⟨⟨noTk, false, [5, 2, 0], 4, k22⟩, ⟨⟨noTk, true, [8, 13, 2, 0, 3, 10, 11, 12, 4, 5], 13, k23⟩, ⟨⟨noTk, true, [28, 4, 0, 1, 5], 9, k24⟩, ⟨⟨noTk, true, [16, 4, 5, 0, 1], 7, k25⟩, ⟨⟨noTk, true, [5, 9, 13, 4, 0, 1], 9, k26⟩, ⟨⟨noTk, true, [7, 27, 4, 1, 0], 9, k27⟩, ⟨⟨noTk, true, [17, 4, 1, 0, 5], 8, k28⟩, ⟨⟨noTk, false, [10, 14, 42, 4, 0, 1, 5], 11, k29⟩, ⟨⟨noTk, false, [12, 2, 3, 0, 4], 8, k30⟩, ⟨⟨noTk, false, [2], 4, k31⟩, ⟨⟨noTk, false, [2, 0, 3], 4, k32⟩, ⟨⟨noTk, false, [12, 24, 4, 5, 0], 7, k33⟩, ⟨⟨noTk, false, [2], 4, k34⟩, ⟨⟨noTk, false, [2], 5, k35⟩, ⟨⟨noTk, true, [4, 2, 0], 4, k36⟩, ⟨⟨noTk, false, [2], 5, k37⟩, trivial⟩⟩⟩⟩⟩⟩⟩⟩⟩⟩⟩⟩⟩⟩⟩⟩⟩⟩⟩⟩⟩⟩⟩⟩⟩⟩⟩⟩⟩⟩⟩⟩⟩⟩⟩
end Go.Proofs.Ytfhfmgmpeapjfaa
