/- What a receiver keeps lies in its window, and is less than the window is wide. -/
import Derived.Test.YtfhfmgmpeapjfaaM1
set_option linter.unusedSimpArgs false
set_option linter.unusedVariables false
set_option linter.all false
namespace Go.Proofs.Ytfhfmgmpeapjfaa
open Go Go.Abs

theorem nodup_count (a : Int) : ∀ L : List Int, L.Nodup → L.length ≤ (L.filter (fun x => x != a)).length + 1
  | [], _ => by simp
  | x :: xs, h => by
    rw [List.nodup_cons] at h
    by_cases hx : x = a
    · subst hx
      have : xs.filter (fun y => y != x) = xs := List.filter_eq_self.2 fun y hy => by
        have : y ≠ x := fun e => h.1 (e ▸ hy)
        simpa using this
      simp [this]
    · have := nodup_count a xs h.2
      simp [hx]; omega

theorem box : ∀ (n : Nat) (a : Int) (L : List Int), L.Nodup → (∀ x ∈ L, a ≤ x ∧ x < a + n) → L.length ≤ n
  | 0, a, L, _, h => by
    cases L with
    | nil => simp
    | cons x xs => have := h x (by simp); omega
  | n + 1, a, L, hn, h => by
    have h1 := nodup_count a L hn
    have h2 := box n (a + 1) (L.filter (fun x => x != a)) (hn.sublist List.filter_sublist) fun x hx => by
      simp only [List.mem_filter, bne_iff_ne] at hx
      have := h x hx.1
      omega
    omega

theorem entry_none {L : List Pc} {n : Int} : entry L n = none ↔ ∀ p ∈ L, p.1 ≠ n := by
  induction L with
  | nil => simp [entry]
  | cons p L ih =>
    simp only [entry, List.mem_cons, forall_eq_or_imp]
    split
    · rename_i h; simp [h]
    · rename_i h; rw [ih]; exact ⟨fun q => ⟨fun e => h e.symm, q⟩, fun q => q.2⟩

theorem drop1_sub {L : List Pc} {n : Int} : ∀ p ∈ drop1 L n, p ∈ L := by
  induction L with
  | nil => simp [drop1]
  | cons q L ih =>
    intro p hp
    simp only [drop1] at hp
    split at hp
    · simp [hp]
    · rcases List.mem_cons.1 hp with h | h
      · simp [h]
      · simp [ih p h]

theorem drop1_nodup {L : List Pc} {n : Int} (h : (L.map (·.1)).Nodup) : ((drop1 L n).map (·.1)).Nodup ∧ ∀ p ∈ drop1 L n, p.1 ≠ n := by
  induction L with
  | nil => simp [drop1]
  | cons q L ih =>
    simp only [List.map_cons, List.nodup_cons] at h
    simp only [drop1]
    split
    · rename_i hq
      refine ⟨h.2, fun p hp e => h.1 ?_⟩
      rw [← hq, ← e]
      exact List.mem_map_of_mem hp
    · rename_i hq
      obtain ⟨h1, h2⟩ := ih h.2
      refine ⟨?_, fun p hp => ?_⟩
      · simp only [List.map_cons, List.nodup_cons]
        refine ⟨fun hm => h.1 ?_, h1⟩
        obtain ⟨p, hp, e⟩ := List.mem_map.1 hm
        rw [← e]; exact List.mem_map_of_mem (drop1_sub p hp)
      · rcases List.mem_cons.1 hp with rfl | h
        · exact fun e => hq e.symm
        · exact h2 p h

/-- What is kept lies in the window. -/
structure In (wide w : Int) (L : List Pc) : Prop where
  nodup : (L.map (·.1)).Nodup
  rng : ∀ p ∈ L, w ≤ p.1 ∧ p.1 < w + wide

theorem runs_inn {wide : Int} : ∀ (k : Nat) (w : Int) (L : List Pc), L.length ≤ k → In wide w L → 0 ≤ w → w + L.length ≤ 1000000 →
    In wide (run w L).2.1 (run w L).2.2 ∧ entry (run w L).2.2 (run w L).2.1 = none ∧ (run w L).2.1 + (run w L).2.2.length = w + L.length ∧ 0 ≤ (run w L).2.1 ∧ (run w L).2.1 = w + (run w L).1.length := by
  intro k
  induction k with
  | zero =>
    intro w L hk hi h0 hl
    have : L = [] := List.eq_nil_of_length_eq_zero (by omega)
    subst this
    rw [run_none (by rfl)]
    exact ⟨hi, rfl, by simp, h0, by simp⟩
  | succ k ih =>
    intro w L hk hi h0 hl
    cases he : entry L w with
    | none => rw [run_none he]; exact ⟨hi, he, rfl, h0, by simp⟩
    | some d =>
      rw [run_some he]
      have hd := drop1_length he
      have hw : IntKind.i64.wrap (w + 1) = w + 1 := w64 (by omega) (by omega)
      rw [hw]
      obtain ⟨h1, h2⟩ := drop1_nodup (n := w) hi.nodup
      have := ih (w + 1) (drop1 L w) (by omega) ⟨h1, fun p hp => by
        have := hi.rng p (drop1_sub p hp)
        have := h2 p hp
        omega⟩ (by omega) (by omega)
      refine ⟨this.1, this.2.1, by simp only; omega, this.2.2.2.1, ?_⟩
      rw [this.2.2.2.2]; simp; omega

/-- Behind each piece. -/
structure Kept (wide w : Int) (L : List Pc) (n : Nat) : Prop where
  inn : In wide w L
  free : entry L w = none
  w0 : 0 ≤ w
  cnt : w + L.length ≤ n

theorem Kept.less {wide w : Int} {L : List Pc} {n : Nat} (h : Kept wide w L n) (hw : 1 ≤ wide) : (L.length : Int) < wide := by
  have h1 := box (wide - 1).toNat (w + 1) (L.map (·.1)) h.inn.nodup fun x hx => by
    obtain ⟨p, hp, rfl⟩ := List.mem_map.1 hx
    have h2 := h.inn.rng p hp
    have h3 := entry_none.1 h.free p hp
    omega
  simp at h1
  omega

theorem keep1_in {wide w : Int} {L : List Pc} {p : Pc} (h : In wide w L) (h1 : w ≤ p.1) (h2 : p.1 < w + wide) : In wide w (keep1 L p) := by
  simp only [keep1]
  split
  · exact h
  · rename_i hn
    have hn : entry L p.1 = none := by simpa using hn
    refine ⟨?_, fun q hq => ?_⟩
    · rw [List.map_append, List.map_cons, List.map_nil, List.nodup_append]
      refine ⟨h.nodup, by simp, fun a ha b hb => ?_⟩
      simp at hb; subst hb
      obtain ⟨q, hq, rfl⟩ := List.mem_map.1 ha
      exact entry_none.1 hn q hq
    · rcases List.mem_append.1 hq with hq | hq
      · exact h.rng q hq
      · simp at hq; subst hq; exact ⟨h1, h2⟩

theorem take_kept {wide w : Int} {L : List Pc} {n : Nat} {p : Pc} (h : Kept wide w L n) (hn : n ≤ 100000) (hp : p.1 ≤ 9223372036854775807) : Kept wide (take wide w L p).2.1 (take wide w L p).2.2 (n + 1) := by
  have h0 := h.w0
  have hc := h.cnt
  simp only [take]
  split
  · rename_i hl
    simp only [lets, Bool.and_eq_true, decide_eq_true_eq] at hl
    obtain ⟨h1, h2, h3⟩ := hl
    rw [w64 (by omega) (by omega)] at h2
    have hk := keep1_length L p
    obtain ⟨q1, q2, q3, q4, _⟩ := runs_inn _ w (keep1 L p) (Nat.le_refl _) (keep1_in h.inn h1 (by omega)) h0 (by omega)
    exact ⟨q1, q2, q4, by omega⟩
  · exact ⟨h.inn, h.free, h0, by simp only; omega⟩

end Go.Proofs.Ytfhfmgmpeapjfaa
