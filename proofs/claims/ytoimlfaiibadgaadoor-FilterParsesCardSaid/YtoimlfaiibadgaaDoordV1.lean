/- Letters of a text: the model's own reading; the table of first bytes. -/
import Derived.Test.YtoimlfaiibadgaaDoordCode
import Derived.Test.YtoimlfaiibadgaaDoorAbsC
import Derived.Test.YtoimlfaiibadgaaDoordM1
import Derived.KernelRfl
set_option linter.unusedSimpArgs false
set_option linter.unusedVariables false
set_option linter.all false
namespace Go.Proofs.YtoimlfaiibadgaaDoor
open Go Go.Abs Go.Lib

theorem dec_at (s : List UInt8) (i : Nat) : dec s i = decodeN (s.length - i) (by' s i) (by' s (i + 1)) (by' s (i + 2)) (by' s (i + 3)) := by
  have e : ∀ j, ((⟨s.toArray⟩ : ByteArray).get! j).toNat = by' s j := fun j => by
    unfold by'
    show (s.toArray[j]!).toNat = _
    rw [Array.getElem!_eq_getD]
    simp only [Array.getD_eq_getD_getElem?, List.getElem?_toArray]
    cases s[j]? <;> rfl
  unfold dec
  rw [decode_at]
  simp only [e]
  rfl

theorem dec_dc (s : List UInt8) (i : Nat) : dec s i = dc (s.drop i) := by
  rw [dec_at]; unfold dc; simp only [by_drop, List.length_drop, Nat.add_zero]

theorem tab0_eq : tab0 = (List.range 256).map fun b => .int .u8 (firstT b : Nat) := by kernel_rfl

theorem tab0_get {b : Nat} (h : b < 256) : (tab0.drop b)[0]? = some (.int .u8 (firstT b : Nat)) := by
  rw [tab0_eq, List.getElem?_drop, Nat.add_zero, List.getElem?_map, List.getElem?_range h]; rfl

end Go.Proofs.YtoimlfaiibadgaaDoor
