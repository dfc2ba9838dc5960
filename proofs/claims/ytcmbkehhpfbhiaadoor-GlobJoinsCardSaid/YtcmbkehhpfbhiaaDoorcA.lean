/- An argument that is an array of two texts, read as data. -/
import Derived.Test.YtcmbkehhpfbhiaaDoorAbsC
import Derived.OpenShut
set_option linter.unusedSimpArgs false
set_option linter.unusedVariables false
set_option linter.all false
namespace Go.Abs
open Go

variable [Tab] {P : Program} {w : World} {t e : TypeId}

theorem opens_two (ht : P.underlying t = some (.array 2 e)) (he : P.underlying e = some .string) (hs : P.cellsOf e = 1) (hs2 : P.cellsOf t = 2) : Opens P w t fun ds => ∃ a b : List UInt8, ds = [.str a, .str b] := by
  intro H enc base sp hd fuel cs x h
  obtain ⟨xs, m, _, _, hl, hxl, hx⟩ := DataW.trod_array ht h
  rw [hs2] at hl
  rw [hs] at hx
  have h0 := hx 0 (by decide)
  have h1 := hx 1 (by decide)
  rw [List.getElem?_eq_getElem (by omega)] at h0 h1
  match cs, hl with
  | [u, v], _ =>
    obtain ⟨d0, ⟨a, rfl, _⟩, q0⟩ := opens_str he H enc base sp hd m _ _ h0
    obtain ⟨d1, ⟨b, rfl, _⟩, q1⟩ := opens_str he H enc base sp hd m _ _ h1
    refine ⟨[.str a, .str b], ⟨a, b, rfl⟩, ⟨rfl, ?_, ?_⟩⟩
    · intro x hx
      simp at hx
      rcases hx with rfl | rfl <;> rfl
    · intro i c y hc hy
      match i, hc, hy with
      | 0, hc, hy => exact q0.dr 0 c y hc hy
      | 1, hc, hy => exact q1.dr 0 c y hc hy

theorem arg_array {n : Nat} {H : Type} {enc : TypeId × Value → H} {r : Reach} {b0 base : Nat} {sp : Nat → Bool} {hd : Bool} {v : Value} {d : DataW H} {ps : List MemPlace} {A : List D → Prop} (ht : P.underlying t = some (.array n e)) (hval : Value.okWide P w r b0 t v) (ho : Opens P w t A) (h : DataW.Trod enc P w base sp hd t v d ps) :
    ∃ ds, A ds ∧ VR (Gh.still w) w (.d (.agg ds)) v ∧ Triv (.d (.agg ds)) v := by
  simp only [Value.okWide, ht] at hval
  obtain ⟨cs, rfl, _⟩ := hval
  obtain ⟨fuel, hf⟩ := h
  obtain ⟨ds, h1, h2⟩ := ho H enc base sp hd fuel _ _ hf
  have e : (Value.agg cs).cells.toList = cs.toList := by simp [Value.cells]
  rw [e] at h2
  exact ⟨ds, h1, .d _ _ (.agg ds cs (by simpa using h2.len) h2.cell fun i c u hc hu => h2.dr i c u hc (by simpa using hu)), Triv.d _ _⟩

end Go.Abs
