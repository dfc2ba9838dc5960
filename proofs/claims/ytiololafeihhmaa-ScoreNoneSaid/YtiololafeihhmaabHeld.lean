/- The abstract code is what the model's code is read as: the kernel says so, function by function. -/
import Derived.Test.YtiololafeihhmaaProg
import Derived.Test.YtiololafeihhmaabCode
import Derived.KernelRfl
set_option linter.unusedSimpArgs false
set_option linter.unusedVariables false
set_option linter.all false
namespace Go.Proofs.Ytiololafeihhmaa
open Go Go.Abs
theorem k3 : (compileFn Try.prog noTk false [28, 34, 40, 63, 78, 93, 6, 1, 2, 0, 7, 8, 9, 10, 11, 12] 3).bind (slimFn [28, 34, 40, 63, 78, 93, 6, 1, 2, 0, 7, 8, 9, 10, 11, 12] 19) = some c3 := by kernel_rfl
theorem k4 : (compileFn Try.prog noTk false [31, 49, 52, 76, 6, 5, 1, 0, 7, 8, 9] 4).bind (slimFn [31, 49, 52, 76, 6, 5, 1, 0, 7, 8, 9] 17) = some c4 := by kernel_rfl
theorem k5 : (compileFn Try.prog noTk false [31, 40, 46, 54, 69, 73, 89, 130, 6, 2, 0, 1, 7, 8, 9, 10, 53, 11, 12] 5).bind (slimFn [31, 40, 46, 54, 69, 73, 89, 130, 6, 2, 0, 1, 7, 8, 9, 10, 53, 11, 12] 23) = some c5 := by kernel_rfl
theorem k6 : (compileFn Try.prog noTk false [24, 32, 40, 64, 79, 107, 114, 155, 165, 193, 4, 1, 0, 5, 6, 7, 8, 9, 10, 11, 12, 13] 6).bind (slimFn [24, 32, 40, 64, 79, 107, 114, 155, 165, 193, 4, 1, 0, 5, 6, 7, 8, 9, 10, 11, 12, 13] 27) = some c6 := by kernel_rfl
theorem k7 : (compileFn Try.prog noTk false [25, 49, 51, 56, 64, 93, 124, 158, 6, 5, 7, 8, 0, 1, 9, 10, 11, 12, 13, 14, 63, 15, 16, 17, 18] 7).bind (slimFn [25, 49, 51, 56, 64, 93, 124, 158, 6, 5, 7, 8, 0, 1, 9, 10, 11, 12, 13, 14, 63, 15, 16, 17, 18] 31) = some c7 := by kernel_rfl
theorem k8 : (compileFn Try.prog noTk false [47, 65, 72, 129, 6, 0, 1, 2, 7, 8, 9, 10, 12] 8).bind (slimFn [47, 65, 72, 129, 6, 0, 1, 2, 7, 8, 9, 10, 12] 18) = some c8 := by kernel_rfl
theorem k9 : (compileFn Try.prog noTk false [6, 10, 19, 2, 0, 3] 9).bind (slimFn [6, 10, 19, 2, 0, 3] 7) = some c9 := by kernel_rfl
theorem k10 : (compileFn Try.prog noTk false [0, 1, 2, 3, 5, 7, 8, 9] 10).bind (slimFn [0, 1, 2, 3, 5, 7, 8, 9] 11) = some c10 := by kernel_rfl
theorem k11 : (compileFn Try.prog noTk true [20, 28, 43, 47, 4, 5, 7, 1, 27] 11).bind (slimFn [20, 28, 43, 47, 4, 5, 7, 1, 27] 12) = some c11 := by kernel_rfl
theorem k12 : (compileFn Try.prog noTk true [11, 14, 24, 34, 6, 0, 7, 2] 12).bind (slimFn [11, 14, 24, 34, 6, 0, 7, 2] 11) = some c12 := by kernel_rfl
theorem k13 : (compileFn Try.prog noTk true [13, 28, 2, 3, 0, 4] 13).bind (slimFn [13, 28, 2, 3, 0, 4] 9) = some c13 := by kernel_rfl
theorem k14 : (compileFn Try.prog noTk false [10, 4, 5] 14).bind (slimFn [10, 4, 5] 6) = some c14 := by kernel_rfl
theorem k15 : (compileFn Try.prog noTk false [10, 4, 5] 15).bind (slimFn [10, 4, 5] 6) = some c15 := by kernel_rfl
theorem k16 : (compileFn Try.prog noTk true [26, 33, 6, 7, 0, 1, 2, 8, 31, 32] 16).bind (slimFn [26, 33, 6, 7, 0, 1, 2, 8, 31, 32] 12) = some c16 := by kernel_rfl
theorem k17 : (compileFn Try.prog noTk true [12, 40, 6, 0, 7] 17).bind (slimFn [12, 40, 6, 0, 7] 11) = some c17 := by kernel_rfl
theorem k18 : (compileFn Try.prog noTk false [4, 0, 5] 18).bind (slimFn [4, 0, 5] 7) = some c18 := by kernel_rfl
theorem k19 : (compileFn Try.prog noTk false [4, 2, 0] 19).bind (slimFn [4, 2, 0] 4) = some c19 := by kernel_rfl
theorem k20 : (compileFn Try.prog noTk true [25, 6, 7, 0, 1, 2] 20).bind (slimFn [25, 6, 7, 0, 1, 2] 11) = some c20 := by kernel_rfl
theorem k21 : (compileFn Try.prog noTk true [8, 13, 17, 31, 6, 0, 1, 2, 7] 21).bind (slimFn [8, 13, 17, 31, 6, 0, 1, 2, 7] 14) = some c21 := by kernel_rfl
theorem k22 : (compileFn Try.prog noTk true [16, 35, 2, 3, 0, 4, 5, 6, 7, 8] 22).bind (slimFn [16, 35, 2, 3, 0, 4, 5, 6, 7, 8] 12) = some c22 := by kernel_rfl
theorem k23 : (compileFn Try.prog noTk true [12, 27, 45, 6, 0, 1, 7, 2, 8] 23).bind (slimFn [12, 27, 45, 6, 0, 1, 7, 2, 8] 11) = some c23 := by kernel_rfl
theorem k24 : (compileFn Try.prog noTk false [12, 18, 33, 67, 4, 5, 1, 0] 24).bind (slimFn [12, 18, 33, 67, 4, 5, 1, 0] 12) = some c24 := by kernel_rfl
theorem k25 : (compileFn Try.prog noTk true [19, 4, 0, 1] 25).bind (slimFn [19, 4, 0, 1] 7) = some c25 := by kernel_rfl
theorem k26 : (compileFn Try.prog noTk false [2] 26).bind (slimFn [2] 3) = some c26 := by kernel_rfl
theorem k27 : (compileFn Try.prog noTk true [] 27).bind (slimFn [] 4) = some c27 := by kernel_rfl
theorem k28 : (compileFn Try.prog noTk false [4, 2, 0] 28).bind (slimFn [4, 2, 0] 4) = some c28 := by kernel_rfl
theorem k29 : (compileFn Try.prog noTk true [2, 0, 3] 29).bind (slimFn [2, 0, 3] 5) = some c29 := by kernel_rfl
theorem k30 : (compileFn Try.prog noTk false [4] 30).bind (slimFn [4] 6) = some c30 := by kernel_rfl
theorem k31 : (compileFn Try.prog noTk false [4] 31).bind (slimFn [4] 6) = some c31 := by kernel_rfl
theorem k32 : (compileFn Try.prog noTk false [11, 2, 3, 4, 0] 32).bind (slimFn [11, 2, 3, 4, 0] 7) = some c32 := by kernel_rfl
theorem k33 : (compileFn Try.prog noTk false [4, 2, 0] 33).bind (slimFn [4, 2, 0] 4) = some c33 := by kernel_rfl
theorem codeAll : AllSlim Try.prog 0 codeL := ⟨⟨noTk, false, [28, 34, 40, 63, 78, 93, 6, 1, 2, 0, 7, 8, 9, 10, 11, 12], 19, k3⟩, ⟨⟨noTk, false, [31, 49, 52, 76, 6, 5, 1, 0, 7, 8, 9], 17, k4⟩, ⟨⟨noTk, false, [31, 40, 46, 54, 69, 73, 89, 130, 6, 2, 0, 1, 7, 8, 9, 10, 53, 11, 12], 23, k5⟩, ⟨⟨noTk, false, [24, 32, 40, 64, 79, 107, 114, 155, 165, 193, 4, 1, 0, 5, 6, 7, 8, 9, 10, 11, 12, 13], 27, k6⟩, ⟨⟨noTk, false, [25, 49, 51, 56, 64, 93, 124, 158, 6, 5, 7, 8, 0, 1, 9, 10, 11, 12, 13, 14, 63, 15, 16, 17, 18], 31, k7⟩, ⟨⟨noTk, false, [47, 65, 72, 129, 6, 0, 1, 2, 7, 8, 9, 10, 12], 18, k8⟩, ⟨⟨noTk, false, [6, 10, 19, 2, 0, 3], 7, k9⟩, ⟨⟨noTk, false, [0, 1, 2, 3, 5, 7, 8, 9], 11, k10⟩, ⟨⟨noTk, true, [20, 28, 43, 47, 4, 5, 7, 1, 27], 12, k11⟩, ⟨⟨noTk, true, [11, 14, 24, 34, 6, 0, 7, 2], 11, k12⟩, ⟨⟨noTk, true, [13, 28, 2, 3, 0, 4], 9, k13⟩, ⟨⟨noTk, false, [10, 4, 5], 6, k14⟩, ⟨⟨noTk, false, [10, 4, 5], 6, k15⟩, ⟨⟨noTk, true, [26, 33, 6, 7, 0, 1, 2, 8, 31, 32], 12, k16⟩, ⟨⟨noTk, true, [12, 40, 6, 0, 7], 11, k17⟩, ⟨⟨noTk, false, [4, 0, 5], 7, k18⟩, ⟨⟨noTk, false, [4, 2, 0], 4, k19⟩, ⟨⟨noTk, true, [25, 6, 7, 0, 1, 2], 11, k20⟩, ⟨⟨noTk, true, [8, 13, 17, 31, 6, 0, 1, 2, 7], 14, k21⟩, ⟨⟨noTk, true, [16, 35, 2, 3, 0, 4, 5, 6, 7, 8], 12, k22⟩, ⟨⟨noTk, true, [12, 27, 45, 6, 0, 1, 7, 2, 8], 11, k23⟩, ⟨⟨noTk, false, [12, 18, 33, 67, 4, 5, 1, 0], 12, k24⟩, ⟨⟨noTk, true, [19, 4, 0, 1], 7, k25⟩, ⟨⟨noTk, false, [2], 3, k26⟩, ⟨⟨noTk, true, [], 4, k27⟩, ⟨⟨noTk, false, [4, 2, 0], 4, k28⟩, ⟨⟨noTk, true, [2, 0, 3], 5, k29⟩, ⟨⟨noTk, false, [4], 6, k30⟩, ⟨⟨noTk, false, [4], 6, k31⟩, ⟨⟨noTk, false, [11, 2, 3, 4, 0], 7, k32⟩, ⟨⟨noTk, false, [4, 2, 0], 4, k33⟩, trivial⟩⟩⟩⟩⟩⟩⟩⟩⟩⟩⟩⟩⟩⟩⟩⟩⟩⟩⟩⟩⟩⟩⟩⟩⟩⟩⟩⟩⟩⟩⟩
end Go.Proofs.Ytiololafeihhmaa
