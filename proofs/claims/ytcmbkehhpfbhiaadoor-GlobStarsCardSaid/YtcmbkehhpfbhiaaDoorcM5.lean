/- Letters of two texts, one behind the other; stars and asks: rows alone. -/
import Derived.Test.YtcmbkehhpfbhiaaDoorcM3
set_option linter.unusedSimpArgs false
set_option linter.unusedVariables false
set_option linter.all false
set_option maxRecDepth 100000
namespace Go.Proofs.YtcmbkehhpfbhiaaDoor
open Go Go.Lib

theorem dc_cont {t : List UInt8} (h : by' t 0 / 64 = 2) : (dc t).2 = 1 := by
  unfold dc decodeN
  rw [if_neg (by omega), if_neg (by omega), if_neg (by omega), if_neg (by omega)]

theorem decodeN_more (N1 N2 y0 y1 y2 y3 : Nat) (h1 : 1 ≤ N1) (h2 : N1 ≤ N2) :
    (decodeN N2 y0 y1 y2 y3).2 = (decodeN N1 y0 (if 1 < N1 then y1 else 0) (if 2 < N1 then y2 else 0) (if 3 < N1 then y3 else 0)).2 ∨
    ((decodeN N1 y0 (if 1 < N1 then y1 else 0) (if 2 < N1 then y2 else 0) (if 3 < N1 then y3 else 0)).2 = 1 ∧ N1 < (decodeN N2 y0 y1 y2 y3).2 ∧ (decodeN N2 y0 y1 y2 y3).2 ≤ 4 ∧ ((decodeN N2 y0 y1 y2 y3).2 < 2 ∨ y1 / 64 = 2) ∧ ((decodeN N2 y0 y1 y2 y3).2 < 3 ∨ y2 / 64 = 2) ∧ ((decodeN N2 y0 y1 y2 y3).2 < 4 ∨ y3 / 64 = 2)) := by
  by_cases h4 : 4 ≤ N1
  · left
    rw [if_pos (by omega), if_pos (by omega), if_pos (by omega)]
    have a1 : (1 < N1) = (1 < N2) := propext ⟨fun _ => by omega, fun _ => by omega⟩
    have a2 : (2 < N1) = (2 < N2) := propext ⟨fun _ => by omega, fun _ => by omega⟩
    have a3 : (3 < N1) = (3 < N2) := propext ⟨fun _ => by omega, fun _ => by omega⟩
    unfold decodeN
    simp only [a1, a2, a3]
  · generalize e2 : decodeN N2 y0 y1 y2 y3 = d2
    generalize e1 : decodeN N1 y0 (if 1 < N1 then y1 else 0) (if 2 < N1 then y2 else 0) (if 3 < N1 then y3 else 0) = d1
    obtain rfl | rfl | rfl : N1 = 1 ∨ N1 = 2 ∨ N1 = 3 := by omega
    · simp only [Nat.lt_irrefl, Nat.reduceLT, if_true, if_false] at e1
      unfold decodeN at e1 e2
      simp only [Nat.lt_irrefl, Nat.reduceLT, false_and, and_false, if_false] at e1
      split at e1 <;> (subst e1; (repeat' split at e2) <;> (subst e2; first | exact Or.inl rfl | exact Or.inr ⟨rfl, by simp only; omega, by simp only; omega, by simp only; omega, by simp only; omega, by simp only; omega⟩ | (exfalso; omega)))
    · simp only [Nat.lt_irrefl, Nat.reduceLT, if_true, if_false] at e1
      unfold decodeN at e1 e2
      simp only [Nat.lt_irrefl, Nat.reduceLT, false_and, and_false, if_false, true_and] at e1
      (repeat' split at e1) <;> (subst e1; (repeat' split at e2) <;> (subst e2; first | exact Or.inl rfl | exact Or.inr ⟨rfl, by simp only; omega, by simp only; omega, by simp only; omega, by simp only; omega, by simp only; omega⟩ | (exfalso; omega)))
    · simp only [Nat.lt_irrefl, Nat.reduceLT, if_true, if_false] at e1
      unfold decodeN at e1 e2
      simp only [Nat.lt_irrefl, Nat.reduceLT, false_and, and_false, if_false, true_and] at e1
      (repeat' split at e1) <;> (subst e1; (repeat' split at e2) <;> (subst e2; first | exact Or.inl rfl | exact Or.inr ⟨rfl, by simp only; omega, by simp only; omega, by simp only; omega, by simp only; omega, by simp only; omega⟩ | (exfalso; omega)))

theorem by_app (a b : List UInt8) (j : Nat) : by' a j = if j < a.length then by' (a ++ b) j else 0 := by
  unfold by'
  by_cases h : j < a.length
  · rw [if_pos h, List.getElem?_append_left h]
  · rw [if_neg h, List.getElem?_eq_none (by omega)]

theorem dc_more {a : List UInt8} (ha : a ≠ []) (b : List UInt8) : (dc (a ++ b)).2 = (dc a).2 ∨ ((dc a).2 = 1 ∧ a.length < (dc (a ++ b)).2 ∧ ∀ j, 1 ≤ j → j < (dc (a ++ b)).2 → by' (a ++ b) j / 64 = 2) := by
  have hl := List.length_pos_iff.2 ha
  have key := decodeN_more a.length (a ++ b).length (by' (a ++ b) 0) (by' (a ++ b) 1) (by' (a ++ b) 2) (by' (a ++ b) 3) hl (by simp)
  have e : decodeN a.length (by' (a ++ b) 0) (if 1 < a.length then by' (a ++ b) 1 else 0) (if 2 < a.length then by' (a ++ b) 2 else 0) (if 3 < a.length then by' (a ++ b) 3 else 0) = dc a := by
    rw [← by_app, ← by_app, ← by_app]
    unfold dc
    have := by_app a b 0
    rw [if_pos hl] at this
    rw [← this]
  rw [e] at key
  rcases key with h | ⟨h1, h2, h3, h4, h5, h6⟩
  · exact .inl h
  · right
    refine ⟨h1, h2, fun j hj hj2 => ?_⟩
    have hm : (decodeN (a ++ b).length (by' (a ++ b) 0) (by' (a ++ b) 1) (by' (a ++ b) 2) (by' (a ++ b) 3)).2 = (dc (a ++ b)).2 := rfl
    rw [hm] at h3 h4 h5 h6
    obtain rfl | rfl | rfl : j = 1 ∨ j = 2 ∨ j = 3 := by omega
    · exact h4.resolve_left (by omega)
    · exact h5.resolve_left (by omega)
    · exact h6.resolve_left (by omega)

/-- Bytes that go on, one by one. -/
theorem lets_conts : ∀ (k : Nat) (t : List UInt8), k ≤ t.length → (∀ j, j < k → by' t j / 64 = 2) → (lets t).length = k + (lets (t.drop k)).length
  | 0, t, _, _ => by simp
  | k + 1, t, hk, h => by
    have hne : t ≠ [] := fun e => by subst e; simp at hk
    have h1 := dc_cont (h 0 (by omega))
    rw [lets_cons hne, h1, List.length_cons, lets_conts k (t.drop 1) (by simp; omega) (fun j hj => by rw [by_drop, Nat.add_comm]; exact h (j + 1) (by omega)), List.drop_drop, Nat.add_comm 1 k]
    omega

theorem lets_app (a b : List UInt8) : lets (a ++ b) = lets a ++ lets b ∨ ((lets (a ++ b)).length < (lets a).length + (lets b).length ∧ by' b 0 / 64 = 2) := by
  generalize hn : a.length = n
  induction n using Nat.strongRecOn generalizing a with
  | _ n ih =>
    by_cases ha : a = []
    · subst ha; left; rfl
    have hab : a ++ b ≠ [] := by simp [ha]
    have hl := List.length_pos_iff.2 ha
    have hle := dc_le ha
    have hpos := dc_pos a
    rcases dc_more ha b with h | ⟨h1, h2, h3⟩
    · rw [lets_cons hab, lets_cons ha, h, List.take_append_of_le_length hle, List.drop_append_of_le_length hle]
      rcases ih (a.drop (dc a).2).length (by simp; omega) (a.drop (dc a).2) rfl with k | ⟨k1, k2⟩
      · left; rw [k]; rfl
      · right
        refine ⟨?_, k2⟩
        simp only [List.length_cons] at k1 ⊢; omega
    · right
      have hm := dc_le hab
      rw [List.length_append] at hm
      have e1 : (lets a).length = a.length := by
        rw [lets_cons ha, h1, List.length_cons, lets_conts (a.length - 1) (a.drop 1) (by simp) (fun j hj => by
          rw [by_drop, by_app a b, if_pos (by omega)]; exact h3 (1 + j) (by omega) (by omega))]
        rw [List.drop_drop, show 1 + (a.length - 1) = a.length from by omega, List.drop_length]
        simp [lets_nil]; omega
      have e2 : (lets b).length = ((dc (a ++ b)).2 - a.length) + (lets (b.drop ((dc (a ++ b)).2 - a.length))).length := by
        refine lets_conts _ b (by omega) (fun j hj => ?_)
        have := h3 (a.length + j) (by omega) (by omega)
        rw [← by_drop] at this
        simpa using this
      have e3 : (lets (a ++ b)).length = 1 + (lets (b.drop ((dc (a ++ b)).2 - a.length))).length := by
        rw [lets_cons hab, List.length_cons, List.drop_append, List.drop_of_length_le (by omega), List.nil_append]; omega
      refine ⟨by omega, ?_⟩
      have := h3 a.length (by omega) h2
      have e0 : by' (a ++ b) a.length = by' b 0 := by
        have := by_drop (a ++ b) a.length 0
        simpa using this.symm
      rw [e0] at this; exact this

theorem lets_whole {a b : List UInt8} (h : (lets (a ++ b)).length = (lets a).length + (lets b).length) : lets (a ++ b) = lets a ++ lets b := by
  rcases lets_app a b with k | ⟨k, _⟩
  · exact k
  · omega
theorem lets_ascii (a b : List UInt8) (h : by' b 0 / 64 ≠ 2) : lets (a ++ b) = lets a ++ lets b := by
  rcases lets_app a b with k | ⟨_, k⟩
  · exact k
  · exact absurd k h

theorem lets_one (c : UInt8) (h : c.toNat < 128) (b : List UInt8) : lets (c :: b) = [c] :: lets b := by
  have hd : (dc (c :: b)).2 = 1 := by
    have : by' (c :: b) 0 = c.toNat := rfl
    unfold dc decodeN; rw [this, if_pos h]
  rw [lets_cons (by simp), hd]; rfl

theorem lt1_app {a b : List UInt8} (h : lets (a ++ b) = lets a ++ lets b) : lt1 (a ++ b) = lt1 a ++ lt1 b := by
  unfold lt1; rw [h, List.map_append]

theorem let1_star : let1 [42] = (42, false) := by decide
theorem let1_ask : let1 [63] = (63, false) := by decide

theorem lt1_star : lt1 [42] = [(42, false)] := by
  unfold lt1; rw [lets_one 42 (by decide), lets_nil]; simp [let1_star]
theorem lt1_stars : lt1 [42, 42] = [(42, false), (42, false)] := by
  unfold lt1; rw [lets_one 42 (by decide), lets_one 42 (by decide), lets_nil]; simp [let1_star]
theorem lt1_snoc_star (p : List UInt8) : lt1 (p ++ [42]) = lt1 p ++ [(42, false)] := by
  rw [lt1_app (lets_ascii p [42] (by decide)), lt1_star]
theorem lt1_snoc_stars (p : List UInt8) : lt1 (p ++ [42, 42]) = lt1 p ++ [(42, false), (42, false)] := by
  rw [lt1_app (lets_ascii p [42, 42] (by decide)), lt1_stars]

theorem lt1_asks : ∀ n, lt1 (List.replicate n 63) = List.replicate n (63, false)
  | 0 => rfl
  | n + 1 => by
    have := lt1_asks n
    unfold lt1 at this ⊢
    rw [List.replicate_succ, lets_one 63 (by decide), List.map_cons, this, let1_ask, List.replicate_succ]

theorem asks_iff : ∀ (n : Nat) (s : List (Int × Bool)), match1 (List.replicate n (63, false)) s = decide (s.length = n) := by
  have hst : st1 (63, false) = false := by decide
  have hok : ∀ c, ok1 (63, false) c = true := fun c => by simp [ok1]
  have key : ∀ (n : Nat) (s : List (Int × Bool)), Mt st1 ok1 (List.replicate n (63, false)) s ↔ s.length = n := by
    intro n
    induction n with
    | zero => intro s; rw [List.replicate_zero, Mt.nil_iff, List.length_eq_zero_iff]
    | succ n ih =>
      intro s
      rw [List.replicate_succ]
      constructor
      · intro h
        cases h with
        | one h1 h2 h3 => rw [List.length_cons, (ih _).1 h3]
        | star t h1 _ => rw [hst] at h1; cases h1
      · intro h
        cases s with
        | nil => simp at h
        | cons c s => exact .one hst (hok c) ((ih s).2 (by simpa using h))
  intro n s
  rw [Bool.eq_iff_iff, match1_iff, decide_eq_true_iff]
  exact key n s

theorem st1_star : st1 (42, false) = true := by decide

theorem star_all (s : List (Int × Bool)) : match1 [(42, false)] s = true := (match1_iff _ _).2 (Mt.star_any st1_star s)

theorem star_twice (p s : List (Int × Bool)) : match1 (p ++ [(42, false), (42, false)]) s = match1 (p ++ [(42, false)]) s := by
  rw [Bool.eq_iff_iff, match1_iff, match1_iff]
  constructor
  · intro h
    obtain ⟨a, b, rfl, h1, h2⟩ := h.split
    exact h1.append (Mt.star_any st1_star b)
  · intro h
    obtain ⟨a, b, rfl, h1, h2⟩ := h.split
    refine h1.append ?_
    have := Mt.star (ok := ok1) b st1_star (Mt.star_any st1_star [])
    rwa [List.append_nil] at this

theorem star_more {p s t : List (Int × Bool)} (h : match1 p s = true) : match1 (p ++ [(42, false)]) (s ++ t) = true :=
  (match1_iff _ _).2 (((match1_iff _ _).1 h).append (Mt.star_any st1_star t))

theorem joins {p s q t : List (Int × Bool)} (h : match1 p s = true) (k : match1 q t = true) : match1 (p ++ q) (s ++ t) = true :=
  (match1_iff _ _).2 (((match1_iff _ _).1 h).append ((match1_iff _ _).1 k))

end Go.Proofs.YtcmbkehhpfbhiaaDoor
