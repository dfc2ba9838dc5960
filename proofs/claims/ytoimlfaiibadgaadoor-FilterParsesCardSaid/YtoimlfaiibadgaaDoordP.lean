/- The kit's contract of utf8.ValidString, at this program: what stands for itself means that. -/
import Derived.Test.YtoimlfaiibadgaaDoordHeld
import Derived.Test.YtoimlfaiibadgaaDoordT
import Derived.Test.YtoimlfaiibadgaaDoorAbsC
import Derived.Test.YtoimlfaiibadgaaDoordG
import Derived.Shelf.Unicode.ValidAny
set_option linter.unusedSimpArgs false
set_option linter.unusedVariables false
set_option linter.all false
set_option maxRecDepth 100000
namespace Go.Proofs.YtoimlfaiibadgaaDoor
open Go Go.Abs Go.Lib

def ren2 : Go.Shelf.Ren := ⟨fun f => if f = 196 then 34 else if f = 259 then 51 else f, fun t => if t = 119 then 77 else if t = 138 then 79 else if t = 139 then 80 else if t = 46 then 81 else if t = 53 then 89 else t, fun g => g - 3⟩

theorem laysValid : Go.Proofs.Lays.n196 Tryd.prog ren2 := by
  constructor <;> first | kernel_rfl | exact fun w => by kernel_rfl

def ren3 : Go.Shelf.Ren := ⟨fun f => if f = 4 then 57 else f, fun t => if t = 25 then 9 else t, fun g => g⟩

theorem laysGrow : Go.Proofs.Lays8.n4 Tryd.prog ren3 := by
  constructor
  · kernel_rfl
  · exact ⟨Tryd.f57.name, by decide, by kernel_rfl⟩
  all_goals first | kernel_rfl | exact fun w => by kernel_rfl

noncomputable def strInfo : TypeInfo := (Tryd.prog.info? 9).getD default

theorem int_of {bd : Nat → Nat} {w : World} {k : IntKind} {n : Int} {v : Value} (h : DR bd w (.int k n) v) : v = .int k n := by cases h; rfl

theorem pref_cell {g : Gh} {w : World} {cs : List D} {b : Nat} (h : VR g w (.pref cs) (.pointer (some ⟨b, 0, none⟩))) {i : Nat} {k : IntKind} {n : Int} (hi : cs[i]? = some (.int k n)) : w.cell? ⟨b, i, none⟩ = some (.int k n) := by
  cases h with
  | pref _ _ _ vs hf hc hd =>
    have h1 := (hc i (List.getElem?_eq_some_iff.1 hi).1).2
    rw [Nat.zero_add] at h1
    have := int_of (hd i _ hi)
    rw [this] at h1
    exact h1

theorem tabs_of_heap {g : Gh} {H : AHeap} {w : World} (h : HeapOK g H w) : Lib.Utf8Tabs 0 1 w := by
  have g0 := h.glob 0 tab0 rfl
  have g1 := h.glob 1 tab1 rfl
  exact ⟨fun k hk => pref_cell g0 (tab0_at hk), fun k hk => ⟨pref_cell g1 (tab1_get k hk).1, pref_cell g1 (tab1_get k hk).2⟩⟩

theorem prims_ok : ∀ f F, prims f = some F → FSound Tryd.prog f F := fun f F h => by
  unfold prims at h
  split at h
  · rename_i hf
    subst hf
    simp only [Option.some.injEq] at h; subst h
    refine text_sound Tryd.func34 (by kernel_rfl) (by kernel_rfl) (ok := fun s => s.length ≤ 9223372036854775807) (out := fun s => .bool (Lib.validD s)) (res := fun s => .bool (Lib.validD s.data.toList)) (fun bd w s => .bool _) fun g H w hH s hs => ?_
    exact Any.utf8_ValidString laysValid s w (by simpa using hs) (tabs_of_heap hH)
  · split at h
    · rename_i hf
      subst hf
      simp only [Option.some.injEq] at h; subst h
      exact grow_sound laysGrow (f := 57) rfl Tryd.func57 (by kernel_rfl) (by kernel_rfl) (i0 := strInfo) (zv := .string ByteArray.empty) (by kernel_rfl) (by kernel_rfl) (by kernel_rfl) (by kernel_rfl) rfl (fun g w => ⟨.d _ _ (.str _ _ rfl), Triv.d _ _⟩) rfl
    · cases h

end Go.Proofs.YtoimlfaiibadgaaDoor
