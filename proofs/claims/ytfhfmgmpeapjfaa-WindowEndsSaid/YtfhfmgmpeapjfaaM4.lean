/- Whatever was taken is told or kept; a round takes all. -/
import Derived.Test.YtfhfmgmpeapjfaaM3
set_option linter.unusedSimpArgs false
set_option linter.unusedVariables false
set_option linter.all false
namespace Go.Proofs.Ytfhfmgmpeapjfaa
open Go Go.Abs

/-- Number i is told, or kept. -/
def seen (w : Int) (M : List Pc) (i : Int) : Prop := i < w ∨ (entry M i).isSome = true

theorem entry_drop1 {M : List Pc} {n i : Int} (h : i ≠ n) : entry (drop1 M n) i = entry M i := by
  induction M with
  | nil => rfl
  | cons p M ih =>
    simp only [drop1, entry]
    split
    · rename_i e; rw [if_neg (by omega)]
    · simp only [entry, ih]

theorem run_seen : ∀ (k : Nat) (w : Int) (M : List Pc) (i : Int), M.length ≤ k → 0 ≤ w → w + M.length ≤ 1000000 → seen w M i → seen (run w M).2.1 (run w M).2.2 i := by
  intro k
  induction k with
  | zero =>
    intro w M i hk h0 hl h
    have : M = [] := List.eq_nil_of_length_eq_zero (by omega)
    subst this
    rw [run_none (by rfl)]; exact h
  | succ k ih =>
    intro w M i hk h0 hl h
    cases he : entry M w with
    | none => rw [run_none he]; exact h
    | some b =>
      rw [run_some he]
      have hd := drop1_length he
      have hw1 : IntKind.i64.wrap (w + 1) = w + 1 := w64 (by omega) (by omega)
      rw [hw1]
      refine ih (w + 1) (drop1 M w) i (by omega) (by omega) (by omega) ?_
      rcases h with h | h
      · exact .inl (by omega)
      · by_cases e : i = w
        · exact .inl (by omega)
        · exact .inr (by rw [entry_drop1 e]; exact h)

theorem entry_append {M : List Pc} {p : Pc} {i : Int} (h : (entry M i).isSome = true) : (entry (M ++ [p]) i).isSome = true := by
  induction M with
  | nil => cases h
  | cons q M ih =>
    simp only [List.cons_append, entry] at h ⊢
    split
    · rfl
    · rename_i e; rw [if_neg e] at h; exact ih h

theorem entry_last {M : List Pc} {p : Pc} : (entry (M ++ [p]) p.1).isSome = true := by
  induction M with
  | nil => simp [entry]
  | cons q M ih =>
    simp only [List.cons_append, entry]
    split
    · rfl
    · exact ih

theorem keep1_seen {M : List Pc} {p : Pc} {i : Int} (h : (entry M i).isSome = true ∨ i = p.1) : (entry (keep1 M p) i).isSome = true := by
  simp only [keep1]
  split
  · rename_i e
    rcases h with h | rfl
    · exact h
    · exact e
  · rcases h with h | rfl
    · exact entry_append h
    · exact entry_last

/-- What was seen stays seen; what is taken is seen. -/
theorem take_seen {wide queue : Int} {s : Lk} {n : Nat} {p : Pc} {i : Int} (h : Lok wide queue s n) (hw : 1 ≤ wide ∧ wide ≤ 64) (hn : n ≤ 1000) (hp0 : 0 ≤ p.1) (hpL : s.L[p.1.toNat]? = some p.2) (hpd : p.1 < s.d + wide)
    (hi : seen s.w s.M i ∨ i = p.1) : seen (take2 wide s p).w (take2 wide s p).M i := by
  have h0 := h.w0
  have hk := h.keptL hw.1
  have hl := h.cnt
  have hwl := h.wl
  have hdw := h.dw
  have hpl := (List.getElem?_eq_some_iff.1 hpL).1
  have hkl := keep1_length s.M p
  have hsz : p.2.length ≤ 500 := h.sz _ (List.mem_of_getElem? hpL)
  simp only [take2, take]
  split
  · refine run_seen _ _ _ _ (Nat.le_refl _) h0 (by omega) ?_
    rcases hi with (hi | hi) | hi
    · exact .inl hi
    · exact .inr (keep1_seen (.inl hi))
    · exact .inr (keep1_seen (.inr hi))
  · rename_i hlt
    rcases hi with hi | hi
    · exact hi
    · left
      simp only [lets, Bool.and_eq_true, decide_eq_true_eq] at hlt
      simp only
      by_cases q : s.w ≤ p.1
      · rw [w64 (by omega) (by omega)] at hlt
        exact absurd ⟨q, by omega, by omega⟩ hlt
      · omega

/-- All of a round were seen: the wanted number is their end. -/
theorem round_end {wide queue : Int} {s : Lk} {n m : Nat} (h : Lok wide queue s n) (hm : m = min wide.toNat (s.L.length - s.d)) (hw : 1 ≤ wide) (ha : ∀ i : Int, s.d ≤ i → i < s.d + m → seen s.w s.M i) (hd : s.d ≤ s.L.length) : s.w = s.d + m := by
  have h1 := h.near
  have h2 := h.wl
  have h3 := h.dw
  have h4 : ¬ s.w < s.d + m := fun q => by
    rcases ha s.w h3 q with e | e
    · omega
    · rw [h.free] at e; cases e
  omega

theorem outP_at {L : List (List UInt8)} {d : Nat} {wide : Int} {j : Nat} (h : j < (outP d 0 (und wide (L.drop d))).length) : ∃ b, (outP d 0 (und wide (L.drop d)))[j]? = some (((d + j : Nat) : Int), b) ∧ L[d + j]? = some b := by
  rw [outP_length] at h
  have hb : (und wide (L.drop d))[j]? = some ((und wide (L.drop d))[j]) := List.getElem?_eq_getElem h
  generalize (und wide (L.drop d))[j] = b at hb
  refine ⟨b, ?_, ?_⟩
  · rw [outP_get, hb]; simp
  · simp only [und, List.getElem?_take, List.getElem?_drop] at hb
    split at hb
    · exact hb
    · cases hb

end Go.Proofs.Ytfhfmgmpeapjfaa
