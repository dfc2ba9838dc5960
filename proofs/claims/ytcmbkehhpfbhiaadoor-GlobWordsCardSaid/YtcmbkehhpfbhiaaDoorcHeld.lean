/- The abstract code is what the model's code is read as: the kernel says so, function by function. -/
import Derived.Test.YtcmbkehhpfbhiaaDoorProg
import Derived.Test.YtcmbkehhpfbhiaaDoorcCode
import Derived.KernelRfl
set_option linter.unusedSimpArgs false
set_option linter.unusedVariables false
set_option linter.all false
namespace Go.Proofs.YtcmbkehhpfbhiaaDoor
open Go Go.Abs
theorem k3 : (compileFn Tryd.prog noTk false [12, 4, 0, 1] 3).bind (slimFn [12, 4, 0, 1] 6) = some c3 := by kernel_rfl
theorem k4 : (compileFn Tryd.prog noTk false [31, 45, 4, 2, 3] 4).bind (slimFn [31, 45, 4, 2, 3] 11) = some c4 := by kernel_rfl
theorem k5 : (compileFn Tryd.prog noTk false [19, 6, 0, 1, 2, 7] 5).bind (slimFn [19, 6, 0, 1, 2, 7] 11) = some c5 := by kernel_rfl
theorem k6 : (compileFn Tryd.prog noTk false [9, 15, 2, 0, 3, 4, 5] 6).bind (slimFn [9, 15, 2, 0, 3, 4, 5] 11) = some c6 := by kernel_rfl
theorem k7 : (compileFn Tryd.prog noTk false [11, 15, 4, 0, 1, 5, 6] 7).bind (slimFn [11, 15, 4, 0, 1, 5, 6] 12) = some c7 := by kernel_rfl
theorem k8 : (compileFn Tryd.prog noTk false [9, 4, 0, 1] 8).bind (slimFn [9, 4, 0, 1] 8) = some c8 := by kernel_rfl
theorem k9 : (compileFn Tryd.prog noTk false [11, 23, 35, 48, 4, 0, 6, 5, 7, 21, 22, 8, 9] 9).bind (slimFn [11, 23, 35, 48, 4, 0, 6, 5, 7, 21, 22, 8, 9] 19) = some c9 := by kernel_rfl
theorem k10 : (compileFn Tryd.prog noTk false [10, 20, 32, 37, 59, 4, 0, 5, 6, 7, 8] 10).bind (slimFn [10, 20, 32, 37, 59, 4, 0, 5, 6, 7, 8] 17) = some c10 := by kernel_rfl
theorem k11 : (compileFn Tryd.prog noTk false [0] 11).bind (slimFn [0] 3) = some c11 := by kernel_rfl
theorem k12 : (compileFn Tryd.prog noTk false [7, 15, 2, 3, 0] 12).bind (slimFn [7, 15, 2, 3, 0] 6) = some c12 := by kernel_rfl
theorem k13 : (compileFn Tryd.prog noTk false [4] 13).bind (slimFn [4] 6) = some c13 := by kernel_rfl
theorem k14 : (compileFn Tryd.prog noTk false [4] 14).bind (slimFn [4] 5) = some c14 := by kernel_rfl
theorem k15 : (compileFn Tryd.prog noTk false [10, 2, 3, 4, 0, 6] 15).bind (slimFn [10, 2, 3, 4, 0, 6] 8) = some c15 := by kernel_rfl
theorem k16 : (compileFn Tryd.prog noTk false [2] 16).bind (slimFn [2] 4) = some c16 := by kernel_rfl
theorem k17 : (compileFn Tryd.prog noTk false [4] 17).bind (slimFn [4] 5) = some c17 := by kernel_rfl
theorem k18 : (compileFn Tryd.prog noTk false [4] 18).bind (slimFn [4] 5) = some c18 := by kernel_rfl
theorem k19 : (compileFn Tryd.prog noTk false [4] 19).bind (slimFn [4] 5) = some c19 := by kernel_rfl
theorem k20 : (compileFn Tryd.prog noTk false [7, 19, 2, 3, 0] 20).bind (slimFn [7, 19, 2, 3, 0] 8) = some c20 := by kernel_rfl
theorem k21 : (compileFn Tryd.prog noTk true [8, 24, 2, 5, 0, 6, 7, 4, 3] 21).bind (slimFn [8, 24, 2, 5, 0, 6, 7, 4, 3] 11) = some c21 := by kernel_rfl
theorem k22 : (compileFn Tryd.prog mutTk true [11, 15, 24, 2, 3, 0, 9, 10, 4, 5, 7] 22).bind (slimFn [11, 15, 24, 2, 3, 0, 9, 10, 4, 5, 7] 13) = some c22 := by kernel_rfl
theorem k23 : (compileFn Tryd.prog noTk false [3] 23).bind (slimFn [3] 6) = some c23 := by kernel_rfl
theorem k24 : (compileFn Tryd.prog noTk false [2, 1, 3] 24).bind (slimFn [2, 1, 3] 8) = some c24 := by kernel_rfl
theorem k25 : (compileFn Tryd.prog noTk false [12, 13, 29, 56, 74, 4, 5, 6, 7, 8, 1, 0] 25).bind (slimFn [12, 13, 29, 56, 74, 4, 5, 6, 7, 8, 1, 0] 17) = some c25 := by kernel_rfl
theorem k26 : (compileFn Tryd.prog noTk false [9, 20, 2, 3, 4, 0, 5] 26).bind (slimFn [9, 20, 2, 3, 4, 0, 5] 9) = some c26 := by kernel_rfl
theorem k27 : (compileFn Tryd.prog noTk false [8, 2, 0, 3] 27).bind (slimFn [8, 2, 0, 3] 7) = some c27 := by kernel_rfl
theorem k28 : (compileFn Tryd.prog noTk false [18, 28, 31, 55, 4, 1, 5, 6, 0, 7, 8] 28).bind (slimFn [18, 28, 31, 55, 4, 1, 5, 6, 0, 7, 8] 16) = some c28 := by kernel_rfl
theorem k29 : (compileFn Tryd.prog noTk false [15, 17, 26, 35, 46, 63, 81, 4, 5, 0, 1, 6, 7, 8, 9] 29).bind (slimFn [15, 17, 26, 35, 46, 63, 81, 4, 5, 0, 1, 6, 7, 8, 9] 19) = some c29 := by kernel_rfl
theorem k30 : (compileFn Tryd.prog noTk false [4] 30).bind (slimFn [4] 4) = some c30 := by kernel_rfl
theorem k31 : (compileFn Tryd.prog noTk false [10, 2, 3, 0] 31).bind (slimFn [10, 2, 3, 0] 6) = some c31 := by kernel_rfl
theorem k32 : (compileFn Tryd.prog noTk false [4, 2] 32).bind (slimFn [4, 2] 7) = some c32 := by kernel_rfl
theorem k33 : (compileFn Tryd.prog noTk false [2] 33).bind (slimFn [2] 5) = some c33 := by kernel_rfl
theorem k34 : (compileFn Tryd.prog noTk false [4] 34).bind (slimFn [4] 4) = some c34 := by kernel_rfl
theorem k35 : (compileFn Tryd.prog noTk false [16, 23, 45, 57, 59, 75, 77, 98, 2, 3, 0, 4, 5, 6, 7, 8, 9, 10, 11, 12] 35).bind (slimFn [16, 23, 45, 57, 59, 75, 77, 98, 2, 3, 0, 4, 5, 6, 7, 8, 9, 10, 11, 12] 23) = some c35 := by kernel_rfl
theorem codeAll : AllSlim Tryd.prog 0 codeL := ⟨⟨noTk, false, [12, 4, 0, 1], 6, k3⟩, ⟨⟨noTk, false, [31, 45, 4, 2, 3], 11, k4⟩, ⟨⟨noTk, false, [19, 6, 0, 1, 2, 7], 11, k5⟩, ⟨⟨noTk, false, [9, 15, 2, 0, 3, 4, 5], 11, k6⟩, ⟨⟨noTk, false, [11, 15, 4, 0, 1, 5, 6], 12, k7⟩, ⟨⟨noTk, false, [9, 4, 0, 1], 8, k8⟩, ⟨⟨noTk, false, [11, 23, 35, 48, 4, 0, 6, 5, 7, 21, 22, 8, 9], 19, k9⟩, ⟨⟨noTk, false, [10, 20, 32, 37, 59, 4, 0, 5, 6, 7, 8], 17, k10⟩, ⟨⟨noTk, false, [0], 3, k11⟩, ⟨⟨noTk, false, [7, 15, 2, 3, 0], 6, k12⟩, ⟨⟨noTk, false, [4], 6, k13⟩, ⟨⟨noTk, false, [4], 5, k14⟩, ⟨⟨noTk, false, [10, 2, 3, 4, 0, 6], 8, k15⟩, ⟨⟨noTk, false, [2], 4, k16⟩, ⟨⟨noTk, false, [4], 5, k17⟩, ⟨⟨noTk, false, [4], 5, k18⟩, ⟨⟨noTk, false, [4], 5, k19⟩, ⟨⟨noTk, false, [7, 19, 2, 3, 0], 8, k20⟩, ⟨⟨noTk, true, [8, 24, 2, 5, 0, 6, 7, 4, 3], 11, k21⟩, ⟨⟨mutTk, true, [11, 15, 24, 2, 3, 0, 9, 10, 4, 5, 7], 13, k22⟩, ⟨⟨noTk, false, [3], 6, k23⟩, ⟨⟨noTk, false, [2, 1, 3], 8, k24⟩, ⟨⟨noTk, false, [12, 13, 29, 56, 74, 4, 5, 6, 7, 8, 1, 0], 17, k25⟩, ⟨⟨noTk, false, [9, 20, 2, 3, 4, 0, 5], 9, k26⟩, ⟨⟨noTk, false, [8, 2, 0, 3], 7, k27⟩, ⟨⟨noTk, false, [18, 28, 31, 55, 4, 1, 5, 6, 0, 7, 8], 16, k28⟩, ⟨⟨noTk, false, [15, 17, 26, 35, 46, 63, 81, 4, 5, 0, 1, 6, 7, 8, 9], 19, k29⟩, ⟨⟨noTk, false, [4], 4, k30⟩, ⟨⟨noTk, false, [10, 2, 3, 0], 6, k31⟩, ⟨⟨noTk, false, [4, 2], 7, k32⟩, ⟨⟨noTk, false, [2], 5, k33⟩, ⟨⟨noTk, false, [4], 4, k34⟩, ⟨⟨noTk, false, [16, 23, 45, 57, 59, 75, 77, 98, 2, 3, 0, 4, 5, 6, 7, 8, 9, 10, 11, 12], 23, k35⟩, trivial⟩⟩⟩⟩⟩⟩⟩⟩⟩⟩⟩⟩⟩⟩⟩⟩⟩⟩⟩⟩⟩⟩⟩⟩⟩⟩⟩⟩⟩⟩⟩⟩⟩
end Go.Proofs.YtcmbkehhpfbhiaaDoor
