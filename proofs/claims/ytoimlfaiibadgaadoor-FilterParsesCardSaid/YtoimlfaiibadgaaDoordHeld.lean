/- The abstract code is what the model's code is read as: the kernel says so, function by function. -/
import Derived.Test.YtoimlfaiibadgaaDoorProg
import Derived.Test.YtoimlfaiibadgaaDoordCode
import Derived.KernelRfl
set_option linter.unusedSimpArgs false
set_option linter.unusedVariables false
set_option linter.all false
namespace Go.Proofs.YtoimlfaiibadgaaDoor
open Go Go.Abs
theorem k3 : (compileFn Tryd.prog noTk false [20, 4, 2, 3, 5, 6, 7, 8, 9, 10, 11, 12] 3).bind (slimFn [20, 4, 2, 3, 5, 6, 7, 8, 9, 10, 11, 12] 17) = some c3 := by kernel_rfl
theorem k4 : (compileFn Tryd.prog noTk false [17, 33, 48, 4, 2, 1, 5, 6, 7, 8, 9] 4).bind (slimFn [17, 33, 48, 4, 2, 1, 5, 6, 7, 8, 9] 16) = some c4 := by kernel_rfl
theorem k5 : (compileFn Tryd.prog noTk false [9, 16, 2, 1, 3, 4, 5, 6] 5).bind (slimFn [9, 16, 2, 1, 3, 4, 5, 6] 12) = some c5 := by kernel_rfl
theorem k6 : (compileFn Tryd.prog noTk false [18, 40, 51, 4, 2, 1, 5, 7, 8, 9, 10] 6).bind (slimFn [18, 40, 51, 4, 2, 1, 5, 7, 8, 9, 10] 16) = some c6 := by kernel_rfl
theorem k7 : (compileFn Tryd.prog noTk false [34, 55, 57, 62, 85, 6, 3, 4, 2, 7, 8, 9, 10, 11] 7).bind (slimFn [34, 55, 57, 62, 85, 6, 3, 4, 2, 7, 8, 9, 10, 11] 21) = some c7 := by kernel_rfl
theorem k8 : (compileFn Tryd.prog noTk false [2, 1] 8).bind (slimFn [2, 1] 4) = some c8 := by kernel_rfl
theorem k9 : (compileFn Tryd.prog noTk false [2, 1] 9).bind (slimFn [2, 1] 5) = some c9 := by kernel_rfl
theorem k10 : (compileFn Tryd.prog noTk false [13, 32, 2, 3, 1, 4, 5] 10).bind (slimFn [13, 32, 2, 3, 1, 4, 5] 13) = some c10 := by kernel_rfl
theorem k11 : (compileFn Tryd.prog noTk false [18, 49, 84, 2, 3, 1, 4, 5, 6, 7, 8, 9, 10] 11).bind (slimFn [18, 49, 84, 2, 3, 1, 4, 5, 6, 7, 8, 9, 10] 18) = some c11 := by kernel_rfl
theorem k12 : (compileFn Tryd.prog noTk false [19, 23, 52, 64, 69, 75, 2, 3, 1, 4, 5, 49, 50, 51, 7, 8, 72, 73, 74, 10] 12).bind (slimFn [19, 23, 52, 64, 69, 75, 2, 3, 1, 4, 5, 49, 50, 51, 7, 8, 72, 73, 74, 10] 25) = some c12 := by kernel_rfl
theorem k13 : (compileFn Tryd.prog noTk false [10, 19, 28, 37, 46, 58, 2, 3, 1, 4, 6] 13).bind (slimFn [10, 19, 28, 37, 46, 58, 2, 3, 1, 4, 6] 15) = some c13 := by kernel_rfl
theorem k14 : (compileFn Tryd.prog noTk false [4, 2, 3] 14).bind (slimFn [4, 2, 3] 8) = some c14 := by kernel_rfl
theorem k15 : (compileFn Tryd.prog noTk false [43, 48, 61, 66, 80, 4, 2, 3, 5, 6] 15).bind (slimFn [43, 48, 61, 66, 80, 4, 2, 3, 5, 6] 15) = some c15 := by kernel_rfl
theorem k16 : (compileFn Tryd.prog noTk false [0, 1, 2, 3, 4, 5, 6, 7, 8] 16).bind (slimFn [0, 1, 2, 3, 4, 5, 6, 7, 8] 14) = some c16 := by kernel_rfl
theorem k17 : (compileFn Tryd.prog noTk false [6, 10, 26, 2, 0, 3] 17).bind (slimFn [6, 10, 26, 2, 0, 3] 8) = some c17 := by kernel_rfl
theorem k18 : (compileFn Tryd.prog noTk false [13, 18, 35, 4, 5, 2, 6, 10, 11, 12, 8, 9] 18).bind (slimFn [13, 18, 35, 4, 5, 2, 6, 10, 11, 12, 8, 9] 16) = some c18 := by kernel_rfl
theorem k19 : (compileFn Tryd.prog noTk false [11, 19, 36, 4, 5, 2, 6, 7, 1] 19).bind (slimFn [11, 19, 36, 4, 5, 2, 6, 7, 1] 13) = some c19 := by kernel_rfl
theorem k20 : (compileFn Tryd.prog noTk false [4, 2, 3, 5, 6] 20).bind (slimFn [4, 2, 3, 5, 6] 11) = some c20 := by kernel_rfl
theorem k21 : (compileFn Tryd.prog noTk false [4, 2, 3] 21).bind (slimFn [4, 2, 3] 9) = some c21 := by kernel_rfl
theorem k22 : (compileFn Tryd.prog noTk false [10, 14, 25, 4, 0, 1, 5] 22).bind (slimFn [10, 14, 25, 4, 0, 1, 5] 9) = some c22 := by kernel_rfl
theorem k23 : (compileFn Tryd.prog noTk false [2, 1] 23).bind (slimFn [2, 1] 4) = some c23 := by kernel_rfl
theorem k24 : (compileFn Tryd.prog noTk false [28, 42, 4, 5, 2, 3, 6] 24).bind (slimFn [28, 42, 4, 5, 2, 3, 6] 14) = some c24 := by kernel_rfl
theorem k25 : (compileFn Tryd.prog noTk false [28, 78, 4, 5, 2, 3, 6] 25).bind (slimFn [28, 78, 4, 5, 2, 3, 6] 13) = some c25 := by kernel_rfl
theorem k26 : (compileFn Tryd.prog noTk false [32, 39, 48, 57, 6, 3, 1, 2, 7, 8] 26).bind (slimFn [32, 39, 48, 57, 6, 3, 1, 2, 7, 8] 14) = some c26 := by kernel_rfl
theorem k27 : (compileFn Tryd.prog noTk false [6, 10, 18, 2, 0, 3] 27).bind (slimFn [6, 10, 18, 2, 0, 3] 7) = some c27 := by kernel_rfl
theorem k28 : (compileFn Tryd.prog noTk false [2, 1] 28).bind (slimFn [2, 1] 4) = some c28 := by kernel_rfl
theorem k29 : (compileFn Tryd.prog noTk true [18, 33, 41, 4, 0, 5, 6, 7, 8, 38, 39, 40, 10] 29).bind (slimFn [18, 33, 41, 4, 0, 5, 6, 7, 8, 38, 39, 40, 10] 17) = some c29 := by kernel_rfl
theorem k30 : (compileFn Tryd.prog noTk true [2, 0, 3, 4] 30).bind (slimFn [2, 0, 3, 4] 8) = some c30 := by kernel_rfl
theorem k31 : (compileFn Tryd.prog noTk false [17, 26, 31, 50, 4, 5, 2, 6, 7, 8, 9] 31).bind (slimFn [17, 26, 31, 50, 4, 5, 2, 6, 7, 8, 9] 16) = some c31 := by kernel_rfl
theorem k32 : (compileFn Tryd.prog noTk false [9, 22, 31, 4, 5, 2, 6] 32).bind (slimFn [9, 22, 31, 4, 5, 2, 6] 12) = some c32 := by kernel_rfl
theorem k33 : (compileFn Tryd.prog noTk false [2] 33).bind (slimFn [2] 4) = some c33 := by kernel_rfl
theorem k35 : (compileFn Tryd.prog noTk false [10, 15, 4, 7, 8, 9, 6] 35).bind (slimFn [10, 15, 4, 7, 8, 9, 6] 10) = some c35 := by kernel_rfl
theorem k36 : (compileFn Tryd.prog noTk false [6, 3, 5] 36).bind (slimFn [6, 3, 5] 9) = some c36 := by kernel_rfl
theorem k37 : (compileFn Tryd.prog noTk false [2] 37).bind (slimFn [2] 3) = some c37 := by kernel_rfl
theorem k38 : (compileFn Tryd.prog noTk false [9, 2, 3, 4, 0] 38).bind (slimFn [9, 2, 3, 4, 0] 8) = some c38 := by kernel_rfl
theorem k39 : (compileFn Tryd.prog noTk false [10, 14, 25, 4, 0, 1, 5] 39).bind (slimFn [10, 14, 25, 4, 0, 1, 5] 9) = some c39 := by kernel_rfl
theorem k40 : (compileFn Tryd.prog noTk false [3] 40).bind (slimFn [3] 4) = some c40 := by kernel_rfl
theorem k41 : (compileFn Tryd.prog noTk false [4] 41).bind (slimFn [4] 5) = some c41 := by kernel_rfl
theorem k42 : (compileFn Tryd.prog noTk false [3] 42).bind (slimFn [3] 4) = some c42 := by kernel_rfl
theorem k43 : (compileFn Tryd.prog noTk false [9, 17, 4, 5, 0] 43).bind (slimFn [9, 17, 4, 5, 0] 7) = some c43 := by kernel_rfl
theorem k44 : (compileFn Tryd.prog noTk false [9, 17, 4, 5, 1] 44).bind (slimFn [9, 17, 4, 5, 1] 7) = some c44 := by kernel_rfl
theorem k45 : (compileFn Tryd.prog noTk false [12, 17, 28, 4, 2, 1, 5] 45).bind (slimFn [12, 17, 28, 4, 2, 1, 5] 10) = some c45 := by kernel_rfl
theorem k46 : (compileFn Tryd.prog mutTk false [12, 20, 28, 2, 3, 9, 0, 10, 11, 5, 6, 25, 26, 27, 8] 46).bind (slimFn [12, 20, 28, 2, 3, 9, 0, 10, 11, 5, 6, 25, 26, 27, 8] 17) = some c46 := by kernel_rfl
theorem k47 : (compileFn Tryd.prog noTk false [4, 2, 3] 47).bind (slimFn [4, 2, 3] 8) = some c47 := by kernel_rfl
theorem k48 : (compileFn Tryd.prog noTk false [15, 4, 5, 0, 6] 48).bind (slimFn [15, 4, 5, 0, 6] 7) = some c48 := by kernel_rfl
theorem k49 : (compileFn Tryd.prog noTk false [2, 1] 49).bind (slimFn [2, 1] 5) = some c49 := by kernel_rfl
theorem k50 : (compileFn Tryd.prog noTk false [10, 15, 4, 7, 8, 9, 6] 50).bind (slimFn [10, 15, 4, 7, 8, 9, 6] 10) = some c50 := by kernel_rfl
theorem k52 : (compileFn Tryd.prog noTk false [2] 52).bind (slimFn [2] 3) = some c52 := by kernel_rfl
theorem k53 : (compileFn Tryd.prog noTk false [12, 13, 29, 56, 74, 4, 5, 6, 7, 8, 1, 0] 53).bind (slimFn [12, 13, 29, 56, 74, 4, 5, 6, 7, 8, 1, 0] 17) = some c53 := by kernel_rfl
theorem k54 : (compileFn Tryd.prog noTk false [11, 15, 24, 2, 3, 0, 9, 10, 4, 5, 7] 54).bind (slimFn [11, 15, 24, 2, 3, 0, 9, 10, 4, 5, 7] 13) = some c54 := by kernel_rfl
theorem k55 : (compileFn Tryd.prog noTk false [4] 55).bind (slimFn [4] 5) = some c55 := by kernel_rfl
theorem k56 : (compileFn Tryd.prog noTk false [14, 27, 45, 63, 77, 93, 2, 1, 3, 13] 56).bind (slimFn [14, 27, 45, 63, 77, 93, 2, 1, 3, 13] 13) = some c56 := by kernel_rfl
theorem k58 : (compileFn Tryd.prog noTk false [14, 27, 45, 63, 76, 92, 2, 1, 3, 13] 58).bind (slimFn [14, 27, 45, 63, 76, 92, 2, 1, 3, 13] 14) = some c58 := by kernel_rfl
theorem k59 : (compileFn Tryd.prog noTk false [4] 59).bind (slimFn [4] 4) = some c59 := by kernel_rfl
theorem k60 : (compileFn Tryd.prog noTk false [3, 2] 60).bind (slimFn [3, 2] 6) = some c60 := by kernel_rfl
theorem k61 : (compileFn Tryd.prog noTk false [9, 16, 4, 0, 7, 8, 5] 61).bind (slimFn [9, 16, 4, 0, 7, 8, 5] 9) = some c61 := by kernel_rfl
theorem k62 : (compileFn Tryd.prog noTk false [4, 2] 62).bind (slimFn [4, 2] 7) = some c62 := by kernel_rfl
theorem k63 : (compileFn Tryd.prog noTk false [10, 2, 3, 0] 63).bind (slimFn [10, 2, 3, 0] 6) = some c63 := by kernel_rfl
theorem k64 : (compileFn Tryd.prog noTk false [18, 28, 31, 55, 4, 1, 5, 6, 0, 7, 8] 64).bind (slimFn [18, 28, 31, 55, 4, 1, 5, 6, 0, 7, 8] 16) = some c64 := by kernel_rfl
theorem k65 : (compileFn Tryd.prog noTk false [10, 2, 3, 4, 0, 6] 65).bind (slimFn [10, 2, 3, 4, 0, 6] 8) = some c65 := by kernel_rfl
theorem k66 : (compileFn Tryd.prog noTk false [9, 17, 2, 3, 0, 5] 66).bind (slimFn [9, 17, 2, 3, 0, 5] 8) = some c66 := by kernel_rfl
theorem k67 : (compileFn Tryd.prog noTk false [8, 16, 19, 30, 2, 3, 0, 4] 67).bind (slimFn [8, 16, 19, 30, 2, 3, 0, 4] 10) = some c67 := by kernel_rfl
theorem k68 : (compileFn Tryd.prog noTk false [10, 20, 2, 3, 7, 8, 9, 5] 68).bind (slimFn [10, 20, 2, 3, 7, 8, 9, 5] 11) = some c68 := by kernel_rfl
theorem k69 : (compileFn Tryd.prog noTk false [9, 16, 4, 0, 7, 8, 5] 69).bind (slimFn [9, 16, 4, 0, 7, 8, 5] 9) = some c69 := by kernel_rfl
theorem k70 : (compileFn Tryd.prog noTk false [16, 23, 45, 57, 59, 75, 77, 98, 2, 3, 0, 4, 5, 6, 7, 8, 9, 10, 11, 12] 70).bind (slimFn [16, 23, 45, 57, 59, 75, 77, 98, 2, 3, 0, 4, 5, 6, 7, 8, 9, 10, 11, 12] 23) = some c70 := by kernel_rfl
theorem k71 : (compileFn Tryd.prog noTk false [15, 17, 26, 35, 46, 63, 81, 4, 5, 0, 1, 6, 7, 8, 9] 71).bind (slimFn [15, 17, 26, 35, 46, 63, 81, 4, 5, 0, 1, 6, 7, 8, 9] 19) = some c71 := by kernel_rfl
theorem k72 : (compileFn Tryd.prog noTk false [2] 72).bind (slimFn [2] 5) = some c72 := by kernel_rfl
theorem codeAll : AllSlim Tryd.prog 0 codeL := ⟨⟨noTk, false, [20, 4, 2, 3, 5, 6, 7, 8, 9, 10, 11, 12], 17, k3⟩, ⟨⟨noTk, false, [17, 33, 48, 4, 2, 1, 5, 6, 7, 8, 9], 16, k4⟩, ⟨⟨noTk, false, [9, 16, 2, 1, 3, 4, 5, 6], 12, k5⟩, ⟨⟨noTk, false, [18, 40, 51, 4, 2, 1, 5, 7, 8, 9, 10], 16, k6⟩, ⟨⟨noTk, false, [34, 55, 57, 62, 85, 6, 3, 4, 2, 7, 8, 9, 10, 11], 21, k7⟩, ⟨⟨noTk, false, [2, 1], 4, k8⟩, ⟨⟨noTk, false, [2, 1], 5, k9⟩, ⟨⟨noTk, false, [13, 32, 2, 3, 1, 4, 5], 13, k10⟩, ⟨⟨noTk, false, [18, 49, 84, 2, 3, 1, 4, 5, 6, 7, 8, 9, 10], 18, k11⟩, ⟨⟨noTk, false, [19, 23, 52, 64, 69, 75, 2, 3, 1, 4, 5, 49, 50, 51, 7, 8, 72, 73, 74, 10], 25, k12⟩, ⟨⟨noTk, false, [10, 19, 28, 37, 46, 58, 2, 3, 1, 4, 6], 15, k13⟩, ⟨⟨noTk, false, [4, 2, 3], 8, k14⟩, ⟨⟨noTk, false, [43, 48, 61, 66, 80, 4, 2, 3, 5, 6], 15, k15⟩, ⟨⟨noTk, false, [0, 1, 2, 3, 4, 5, 6, 7, 8], 14, k16⟩, ⟨⟨noTk, false, [6, 10, 26, 2, 0, 3], 8, k17⟩, ⟨⟨noTk, false, [13, 18, 35, 4, 5, 2, 6, 10, 11, 12, 8, 9], 16, k18⟩, ⟨⟨noTk, false, [11, 19, 36, 4, 5, 2, 6, 7, 1], 13, k19⟩, ⟨⟨noTk, false, [4, 2, 3, 5, 6], 11, k20⟩, ⟨⟨noTk, false, [4, 2, 3], 9, k21⟩, ⟨⟨noTk, false, [10, 14, 25, 4, 0, 1, 5], 9, k22⟩, ⟨⟨noTk, false, [2, 1], 4, k23⟩, ⟨⟨noTk, false, [28, 42, 4, 5, 2, 3, 6], 14, k24⟩, ⟨⟨noTk, false, [28, 78, 4, 5, 2, 3, 6], 13, k25⟩, ⟨⟨noTk, false, [32, 39, 48, 57, 6, 3, 1, 2, 7, 8], 14, k26⟩, ⟨⟨noTk, false, [6, 10, 18, 2, 0, 3], 7, k27⟩, ⟨⟨noTk, false, [2, 1], 4, k28⟩, ⟨⟨noTk, true, [18, 33, 41, 4, 0, 5, 6, 7, 8, 38, 39, 40, 10], 17, k29⟩, ⟨⟨noTk, true, [2, 0, 3, 4], 8, k30⟩, ⟨⟨noTk, false, [17, 26, 31, 50, 4, 5, 2, 6, 7, 8, 9], 16, k31⟩, ⟨⟨noTk, false, [9, 22, 31, 4, 5, 2, 6], 12, k32⟩, ⟨⟨noTk, false, [2], 4, k33⟩, ⟨⟨noTk, false, [10, 15, 4, 7, 8, 9, 6], 10, k35⟩, ⟨⟨noTk, false, [6, 3, 5], 9, k36⟩, ⟨⟨noTk, false, [2], 3, k37⟩, ⟨⟨noTk, false, [9, 2, 3, 4, 0], 8, k38⟩, ⟨⟨noTk, false, [10, 14, 25, 4, 0, 1, 5], 9, k39⟩, ⟨⟨noTk, false, [3], 4, k40⟩, ⟨⟨noTk, false, [4], 5, k41⟩, ⟨⟨noTk, false, [3], 4, k42⟩, ⟨⟨noTk, false, [9, 17, 4, 5, 0], 7, k43⟩, ⟨⟨noTk, false, [9, 17, 4, 5, 1], 7, k44⟩, ⟨⟨noTk, false, [12, 17, 28, 4, 2, 1, 5], 10, k45⟩, ⟨⟨mutTk, false, [12, 20, 28, 2, 3, 9, 0, 10, 11, 5, 6, 25, 26, 27, 8], 17, k46⟩, ⟨⟨noTk, false, [4, 2, 3], 8, k47⟩, ⟨⟨noTk, false, [15, 4, 5, 0, 6], 7, k48⟩, ⟨⟨noTk, false, [2, 1], 5, k49⟩, ⟨⟨noTk, false, [10, 15, 4, 7, 8, 9, 6], 10, k50⟩, ⟨⟨noTk, false, [2], 3, k52⟩, ⟨⟨noTk, false, [12, 13, 29, 56, 74, 4, 5, 6, 7, 8, 1, 0], 17, k53⟩, ⟨⟨noTk, false, [11, 15, 24, 2, 3, 0, 9, 10, 4, 5, 7], 13, k54⟩, ⟨⟨noTk, false, [4], 5, k55⟩, ⟨⟨noTk, false, [14, 27, 45, 63, 77, 93, 2, 1, 3, 13], 13, k56⟩, ⟨⟨noTk, false, [14, 27, 45, 63, 76, 92, 2, 1, 3, 13], 14, k58⟩, ⟨⟨noTk, false, [4], 4, k59⟩, ⟨⟨noTk, false, [3, 2], 6, k60⟩, ⟨⟨noTk, false, [9, 16, 4, 0, 7, 8, 5], 9, k61⟩, ⟨⟨noTk, false, [4, 2], 7, k62⟩, ⟨⟨noTk, false, [10, 2, 3, 0], 6, k63⟩, ⟨⟨noTk, false, [18, 28, 31, 55, 4, 1, 5, 6, 0, 7, 8], 16, k64⟩, ⟨⟨noTk, false, [10, 2, 3, 4, 0, 6], 8, k65⟩, ⟨⟨noTk, false, [9, 17, 2, 3, 0, 5], 8, k66⟩, ⟨⟨noTk, false, [8, 16, 19, 30, 2, 3, 0, 4], 10, k67⟩, ⟨⟨noTk, false, [10, 20, 2, 3, 7, 8, 9, 5], 11, k68⟩, ⟨⟨noTk, false, [9, 16, 4, 0, 7, 8, 5], 9, k69⟩, ⟨⟨noTk, false, [16, 23, 45, 57, 59, 75, 77, 98, 2, 3, 0, 4, 5, 6, 7, 8, 9, 10, 11, 12], 23, k70⟩, ⟨⟨noTk, false, [15, 17, 26, 35, 46, 63, 81, 4, 5, 0, 1, 6, 7, 8, 9], 19, k71⟩, ⟨⟨noTk, false, [2], 5, k72⟩, trivial⟩⟩⟩⟩⟩⟩⟩⟩⟩⟩⟩⟩⟩⟩⟩⟩⟩⟩⟩⟩⟩⟩⟩⟩⟩⟩⟩⟩⟩⟩⟩⟩⟩⟩⟩⟩⟩⟩⟩⟩⟩⟩⟩⟩⟩⟩⟩⟩⟩⟩⟩⟩⟩⟩⟩⟩⟩⟩⟩⟩⟩⟩⟩⟩⟩⟩⟩
end Go.Proofs.YtoimlfaiibadgaaDoor
