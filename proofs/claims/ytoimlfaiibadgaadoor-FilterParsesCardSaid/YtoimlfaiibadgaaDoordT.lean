/- What the two tables of Go's library read as, as the row lists them: the premise on tables that the laws' runs need. -/
import Derived.Test.YtoimlfaiibadgaaDoordV1
import Derived.Test.YtoimlfaiibadgaaDoorAbsC
import Derived.Test.YtoimlfaiibadgaaDoorRows
import Derived.Lib.LaidU8T
import Derived.KernelRfl
set_option linter.unusedSimpArgs false
set_option linter.unusedVariables false
set_option linter.all false
set_option maxRecDepth 100000
namespace Go.Proofs.YtoimlfaiibadgaaDoor
open Go Go.Abs Go.Lib

theorem tab0_at {k : Nat} (h : k < 256) : tab0[k]? = some (.int .u8 (firstT k : Nat)) := by
  have := tab0_get h
  rw [List.getElem?_drop, Nat.add_zero] at this; exact this

theorem tab1_eq : tab1 = (List.range 16).flatMap fun i => [.int .u8 (accLo i : Nat), .int .u8 (accHi i : Nat)] := by kernel_rfl

theorem pairs_at {f g : Nat → D} : ∀ (n i : Nat), i < n → ((List.range n).flatMap fun i => [f i, g i])[2 * i]? = some (f i) ∧ ((List.range n).flatMap fun i => [f i, g i])[2 * i + 1]? = some (g i) := by
  have hlen : ∀ n, ((List.range n).flatMap fun i => [f i, g i]).length = 2 * n := fun n => by
    induction n with
    | zero => rfl
    | succ n ih => rw [List.range_succ, List.flatMap_append, List.length_append, ih]; simp; omega
  intro n
  induction n with
  | zero => intro i hi; omega
  | succ n ih =>
    intro i hi
    rw [List.range_succ, List.flatMap_append]
    by_cases h : i < n
    · obtain ⟨a, b⟩ := ih i h
      rw [List.getElem?_append_left (by rw [hlen]; omega), List.getElem?_append_left (by rw [hlen]; omega)]
      exact ⟨a, b⟩
    · obtain rfl : i = n := by omega
      rw [List.getElem?_append_right (by rw [hlen]; omega), List.getElem?_append_right (by rw [hlen]; omega), hlen, Nat.sub_self, show 2 * i + 1 - 2 * i = 1 from by omega]
      exact ⟨rfl, rfl⟩

theorem tab1_get (i : Nat) (h : i < 16) : tab1[2 * i]? = some (.int .u8 (accLo i : Nat)) ∧ tab1[2 * i + 1]? = some (.int .u8 (accHi i : Nat)) := by
  rw [tab1_eq]; exact pairs_at 16 i h

theorem tabOK_of {w : World} (h : Lib.Utf8Tabs 0 1 w) : TabOK w := by
  intro n cs hn
  obtain ⟨h0, h1⟩ := h
  simp only [Tab.tab] at hn
  by_cases n0 : n = 0
  · subst n0
    rw [if_pos rfl] at hn
    cases hn
    have hl : tab0.length = 256 := by rw [tab0_eq]; simp
    refine VR.pref tab0 0 0 (fun k => .int .u8 (firstT k : Nat)) ?_ (fun k hk => ?_) (fun k c hk => ?_)
    · intro c hc
      rw [tab0_eq] at hc
      obtain ⟨_, _, rfl⟩ := List.mem_map.1 hc
      rfl
    · rw [Nat.zero_add]
      have := h0 k (by omega)
      exact ⟨cellAt_size this, this⟩
    · have hk2 : k < 256 := by have := (List.getElem?_eq_some_iff.1 hk).1; omega
      rw [tab0_at hk2] at hk
      cases hk
      exact .int _ _
  · rw [if_neg n0] at hn
    by_cases n1 : n = 1
    · subst n1
      rw [if_pos rfl] at hn
      cases hn
      have hl : tab1.length = 32 := rfl
      refine VR.pref tab1 1 0 (fun k => if k % 2 = 0 then .int .u8 (accLo (k / 2)) else .int .u8 (accHi (k / 2))) ?_ (fun k hk => ?_) (fun k c hk => ?_)
      · intro c hc
        have : tab1.all D.isCell = true := rfl
        exact List.all_eq_true.1 this c hc
      · rw [Nat.zero_add]
        have := h1 (k / 2) (by omega)
        by_cases e : k % 2 = 0
        · simp only [if_pos e]
          have e2 : 2 * (k / 2) = k := by omega
          rw [e2] at this
          exact ⟨cellAt_size this.1, this.1⟩
        · simp only [if_neg e]
          have e2 : 2 * (k / 2) + 1 = k := by omega
          rw [e2] at this
          exact ⟨cellAt_size this.2, this.2⟩
      · have hk2 : k < 32 := by have := (List.getElem?_eq_some_iff.1 hk).1; omega
        have := tab1_get (k / 2) (by omega)
        by_cases e : k % 2 = 0
        · simp only [if_pos e]
          have e2 : 2 * (k / 2) = k := by omega
          simp only [e2] at this
          rw [this.1] at hk; cases hk; exact .int _ _
        · simp only [if_neg e]
          have e2 : 2 * (k / 2) + 1 = k := by omega
          simp only [e2] at this
          rw [this.2] at hk; cases hk; exact .int _ _
    · rw [if_neg n1] at hn; cases hn

def ren : Go.Shelf.Ren := ⟨fun x => x, fun t => if t = 119 then 77 else if t = 138 then 79 else if t = 139 then 80 else t, fun g => g - 3⟩

theorem types : U8Types Tryd.prog ren := ⟨by kernel_rfl, by kernel_rfl, by kernel_rfl, by kernel_rfl⟩
theorem extra : U8Extra Tryd.prog ren := ⟨by kernel_rfl, by kernel_rfl, by kernel_rfl, by kernel_rfl, by kernel_rfl, by kernel_rfl, by kernel_rfl⟩
theorem first_eq : Go.Pinned.utf8First = firstData := by kernel_rfl
theorem accept_eq : (Rows.laid_unicode_utf8_acceptRanges : DataW Unit) = acceptData := by kernel_rfl

def laidT : List (String × DataW Unit) := [("unicode/utf8.acceptRanges", Rows.laid_unicode_utf8_acceptRanges), ("unicode/utf8.first", Rows.laid_unicode_utf8_first)]

theorem tabs_of_laid {w : World} (h : laidMet Tryd.prog laidT w) : TabOK w := by
  refine tabOK_of ?_
  have h3 := Lib.laidMet.reads h (n := "unicode/utf8.first") (d := Rows.laid_unicode_utf8_first) (by simp [laidT])
  have h4 := Lib.laidMet.reads h (n := "unicode/utf8.acceptRanges") (d := Rows.laid_unicode_utf8_acceptRanges) (by simp [laidT])
  have e : (Rows.laid_unicode_utf8_first : DataW Unit) = firstData := first_eq
  rw [e] at h3
  rw [accept_eq] at h4
  exact utf8Tabs_of_readsT types extra h3 h4

end Go.Proofs.YtoimlfaiibadgaaDoor
