/- Letters of a text: numbers and rows alone. -/
import Derived.Lib.DecodeN
set_option linter.unusedSimpArgs false
set_option linter.unusedVariables false
set_option linter.all false
namespace Go.Proofs.YtoimlfaiibadgaaDoor
open Go Go.Lib

/-- The byte at a place, as a number; 0 behind the end. -/
def by' (s : List UInt8) (i : Nat) : Nat := match s[i]? with
  | some c => c.toNat
  | none => 0

theorem by_some {s : List UInt8} {i : Nat} {c : UInt8} (h : s[i]? = some c) : by' s i = c.toNat := by simp [by', h]
theorem by_lt (s : List UInt8) (i : Nat) : by' s i < 256 := by
  unfold by'; split
  · rename_i c _; exact c.toNat_lt
  · omega
theorem by_drop (s : List UInt8) (i j : Nat) : by' (s.drop i) j = by' s (i + j) := by simp [by', List.getElem?_drop]
theorem by_take (s : List UInt8) (n j : Nat) : by' (s.take n) j = if j < n then by' s j else 0 := by
  unfold by'
  rw [List.getElem?_take]
  by_cases h : j < n
  · simp [h]
  · simp [h]

/-- The first letter of a text, and how many bytes it has. -/
def dc (s : List UInt8) : Nat × Nat := decodeN s.length (by' s 0) (by' s 1) (by' s 2) (by' s 3)

theorem decodeN_pos (n a b c d : Nat) : 1 ≤ (decodeN n a b c d).2 := by
  unfold decodeN; (repeat' split) <;> simp
theorem decodeN_le (n a b c d : Nat) (h : 1 ≤ n) : (decodeN n a b c d).2 ≤ n := by
  unfold decodeN; (repeat' split) <;> simp only <;> omega
theorem dc_pos (s : List UInt8) : 1 ≤ (dc s).2 := decodeN_pos ..
theorem dc_le {s : List UInt8} (h : s ≠ []) : (dc s).2 ≤ s.length := decodeN_le _ _ _ _ _ (by have := List.length_pos_iff.2 h; omega)

/-- The letters of a text, each as its bytes. -/
def letsN : Nat → List UInt8 → List (List UInt8)
  | 0, _ => []
  | n + 1, s => if s = [] then [] else s.take (dc s).2 :: letsN n (s.drop (dc s).2)
def lets (s : List UInt8) : List (List UInt8) := letsN s.length s

theorem letsN_more : ∀ (n m : Nat) (s : List UInt8), s.length ≤ n → s.length ≤ m → letsN n s = letsN m s
  | 0, 0, _, _, _ => rfl
  | 0, m + 1, s, h, _ => by
    have : s = [] := List.length_eq_zero_iff.1 (by omega)
    subst this; simp [letsN]
  | n + 1, 0, s, _, h => by
    have : s = [] := List.length_eq_zero_iff.1 (by omega)
    subst this; simp [letsN]
  | n + 1, m + 1, s, h1, h2 => by
    unfold letsN
    have := dc_pos s
    rw [letsN_more n m (s.drop (dc s).2) (by simp; omega) (by simp; omega)]

theorem lets_nil : lets [] = [] := rfl
theorem lets_cons {s : List UInt8} (h : s ≠ []) : lets s = s.take (dc s).2 :: lets (s.drop (dc s).2) := by
  unfold lets
  have h1 := List.length_pos_iff.2 h
  have h2 := dc_pos s
  obtain ⟨n, hn⟩ : ∃ n, s.length = n + 1 := ⟨s.length - 1, by omega⟩
  rw [hn]
  show (if s = [] then [] else s.take (dc s).2 :: letsN n (s.drop (dc s).2)) = _
  rw [if_neg h, letsN_more n _ (s.drop (dc s).2) (by simp; omega) (Nat.le_refl _)]

/-- A letter as the program has it: its number, or a byte that is none's. -/
def let1 (t : List UInt8) : Int × Bool := if dc t = (65533, 1) then ((by' t 0 : Nat), true) else (((dc t).1 : Nat), false)

def Good (t : List UInt8) : Prop := t ≠ [] ∧ (dc t).2 = t.length

set_option maxRecDepth 100000 in
--
theorem decodeN_take (N a b c d : Nat) (h : 1 ≤ N) : decodeN (decodeN N a b c d).2 a (if 1 < (decodeN N a b c d).2 then b else 0) (if 2 < (decodeN N a b c d).2 then c else 0) (if 3 < (decodeN N a b c d).2 then d else 0) = decodeN N a b c d := by
  generalize e : decodeN N a b c d = r
  unfold decodeN at e
  (repeat' split at e) <;> subst e <;> simp only [Nat.lt_irrefl, Nat.reduceLT, if_true, if_false] <;> unfold decodeN <;> (repeat' split) <;> first | rfl | (exfalso; omega)

theorem dc_take {s : List UInt8} (h : s ≠ []) : dc (s.take (dc s).2) = dc s := by
  have h1 := dc_le h
  have h2 := dc_pos s
  have h3 := List.length_pos_iff.2 h
  have e : dc (s.take (dc s).2) = decodeN (dc s).2 (by' s 0) (if 1 < (dc s).2 then by' s 1 else 0) (if 2 < (dc s).2 then by' s 2 else 0) (if 3 < (dc s).2 then by' s 3 else 0) := by
    rw [show dc (s.take (dc s).2) = decodeN (s.take (dc s).2).length (by' (s.take (dc s).2) 0) (by' (s.take (dc s).2) 1) (by' (s.take (dc s).2) 2) (by' (s.take (dc s).2) 3) from rfl]
    rw [by_take, by_take, by_take, by_take, if_pos (show 0 < (dc s).2 from h2), List.length_take, Nat.min_eq_left h1]
  rw [e]
  exact decodeN_take _ _ _ _ _ h3

theorem good_take {s : List UInt8} (h : s ≠ []) : Good (s.take (dc s).2) := by
  have h1 := dc_le h
  have h2 := dc_pos s
  have hl : (s.take (dc s).2).length = (dc s).2 := by rw [List.length_take, Nat.min_eq_left h1]
  refine ⟨fun e => ?_, by rw [dc_take h, hl]⟩
  rw [e] at hl; simp at hl; omega

theorem lets_good (s : List UInt8) : ∀ t ∈ lets s, Good t := by
  generalize hn : s.length = n
  induction n using Nat.strongRecOn generalizing s with
  | _ n ih =>
    by_cases h : s = []
    · subst h; simp [lets_nil]
    · rw [lets_cons h]
      intro t ht
      rcases List.mem_cons.1 ht with rfl | ht
      · exact good_take h
      · have h2 := dc_pos s
        have h3 := List.length_pos_iff.2 h
        exact ih (s.drop (dc s).2).length (by simp; omega) _ rfl t ht

theorem lets_flat (s : List UInt8) : (lets s).flatten = s := by
  generalize hn : s.length = n
  induction n using Nat.strongRecOn generalizing s with
  | _ n ih =>
    by_cases h : s = []
    · subst h; simp [lets_nil]
    · rw [lets_cons h, List.flatten_cons]
      have h2 := dc_pos s
      have h3 := List.length_pos_iff.2 h
      rw [ih (s.drop (dc s).2).length (by simp; omega) _ rfl, List.take_append_drop]

theorem lets_len (s : List UInt8) : (lets s).length ≤ s.length := by
  generalize hn : s.length = n
  induction n using Nat.strongRecOn generalizing s with
  | _ n ih =>
    by_cases h : s = []
    · subst h; simp [lets_nil]
    · rw [lets_cons h]
      have h2 := dc_pos s
      have h3 := List.length_pos_iff.2 h
      have := ih (s.drop (dc s).2).length (by simp; omega) _ rfl
      simp at this ⊢; omega

/-- What a good row of bytes is. -/
theorem good_cases {t : List UInt8} (h : Good t) :
    (∃ a, t = [a] ∧ a.toNat < 128 ∧ let1 t = (((a.toNat : Nat) : Int), false)) ∨ (∃ a, t = [a] ∧ 128 ≤ a.toNat ∧ let1 t = (((a.toNat : Nat) : Int), true)) ∨
    (∃ a b, t = [a, b] ∧ a.toNat / 32 = 6 ∧ b.toNat / 64 = 2 ∧ 128 ≤ a.toNat % 32 * 64 + b.toNat % 64 ∧ let1 t = (((a.toNat % 32 * 64 + b.toNat % 64 : Nat) : Int), false)) ∨
    (∃ a b c, t = [a, b, c] ∧ a.toNat / 16 = 14 ∧ b.toNat / 64 = 2 ∧ c.toNat / 64 = 2 ∧ 2048 ≤ a.toNat % 16 * 4096 + b.toNat % 64 * 64 + c.toNat % 64 ∧ let1 t = (((a.toNat % 16 * 4096 + b.toNat % 64 * 64 + c.toNat % 64 : Nat) : Int), false)) ∨
    (∃ a b c d, t = [a, b, c, d] ∧ a.toNat / 8 = 30 ∧ b.toNat / 64 = 2 ∧ c.toNat / 64 = 2 ∧ d.toNat / 64 = 2 ∧ 65536 ≤ a.toNat % 8 * 262144 + b.toNat % 64 * 4096 + c.toNat % 64 * 64 + d.toNat % 64 ∧ let1 t = (((a.toNat % 8 * 262144 + b.toNat % 64 * 4096 + c.toNat % 64 * 64 + d.toNat % 64 : Nat) : Int), false)) := by
  obtain ⟨h0, h1⟩ := h
  have hd : dc t = decodeN t.length (by' t 0) (by' t 1) (by' t 2) (by' t 3) := rfl
  unfold let1
  unfold decodeN at hd
  rcases t with _ | ⟨a, t⟩
  · exact absurd rfl h0
  have e0 : by' (a :: t) 0 = a.toNat := rfl
  rw [e0] at hd ⊢
  have ha := a.toNat_lt
  by_cases k0 : a.toNat < 128
  · rw [if_pos k0] at hd
    rw [hd] at h1 ⊢
    have : t = [] := by simpa using h1
    subst this
    left
    refine ⟨a, rfl, k0, ?_⟩
    rw [if_neg (by simp; omega)]
  rw [if_neg k0] at hd
  have bad : dc (a :: t) = (65533, 1) → ∃ a', a :: t = [a'] ∧ 128 ≤ a'.toNat ∧ (if dc (a :: t) = (65533, 1) then (((a.toNat : Nat) : Int), true) else (((dc (a :: t)).1 : Nat), false)) = (((a'.toNat : Nat) : Int), true) := fun e => by
    rw [e] at h1
    have : t = [] := by simpa using h1
    subst this
    exact ⟨a, rfl, by omega, by rw [if_pos e]⟩
  by_cases k1 : a.toNat / 32 = 6 ∧ (1 < (a :: t).length ∧ by' (a :: t) 1 / 64 = 2)
  · rw [if_pos k1] at hd
    by_cases k2 : a.toNat % 32 * 64 + by' (a :: t) 1 % 64 ≥ 128
    · rw [if_pos k2] at hd
      rw [hd] at h1 ⊢
      rcases t with _ | ⟨b, t⟩
      · simp at h1
      have : t = [] := by simpa using h1
      subst this
      right; right; left
      exact ⟨a, b, rfl, k1.1, k1.2.2, k2, by rw [if_neg (by simp)]; rfl⟩
    · rw [if_neg k2] at hd
      exact .inr (.inl (bad hd))
  rw [if_neg k1] at hd
  by_cases k1 : a.toNat / 16 = 14 ∧ (1 < (a :: t).length ∧ by' (a :: t) 1 / 64 = 2) ∧ (2 < (a :: t).length ∧ by' (a :: t) 2 / 64 = 2)
  · rw [if_pos k1] at hd
    split at hd
    · rename_i k2
      rw [hd] at h1 ⊢
      rcases t with _ | ⟨b, _ | ⟨c, t⟩⟩
      · simp at h1
      · simp at h1
      have : t = [] := by simpa using h1
      subst this
      right; right; right; left
      exact ⟨a, b, c, rfl, k1.1, k1.2.1.2, k1.2.2.2, k2.1, by rw [if_neg (by simp)]; rfl⟩
    · exact .inr (.inl (bad hd))
  rw [if_neg k1] at hd
  by_cases k1 : a.toNat / 8 = 30 ∧ (1 < (a :: t).length ∧ by' (a :: t) 1 / 64 = 2) ∧ (2 < (a :: t).length ∧ by' (a :: t) 2 / 64 = 2) ∧ (3 < (a :: t).length ∧ by' (a :: t) 3 / 64 = 2)
  · rw [if_pos k1] at hd
    split at hd
    · rename_i k2
      rw [hd] at h1 ⊢
      rcases t with _ | ⟨b, _ | ⟨c, _ | ⟨d, t⟩⟩⟩
      · simp at h1
      · simp at h1
      · simp at h1
      have : t = [] := by simpa using h1
      subst this
      right; right; right; right
      exact ⟨a, b, c, d, rfl, k1.1, k1.2.1.2, k1.2.2.1.2, k1.2.2.2.2, k2.1, by rw [if_neg (by simp)]; rfl⟩
    · exact .inr (.inl (bad hd))
  rw [if_neg k1] at hd
  exact .inr (.inl (bad hd))

theorem u8_eq {a b : UInt8} (h : a.toNat = b.toNat) : a = b := UInt8.toNat_inj.1 h

theorem let1_inj {t u : List UInt8} (ht : Good t) (hu : Good u) (h : let1 t = let1 u) : t = u := by
  rcases good_cases ht with ⟨a, rfl, h1, e⟩ | ⟨a, rfl, h1, e⟩ | ⟨a, b, rfl, h1, h2, h3, e⟩ | ⟨a, b, c, rfl, h1, h2, h3, h4, e⟩ | ⟨a, b, c, d, rfl, h1, h2, h3, h4, h5, e⟩ <;>
  rcases good_cases hu with ⟨a', rfl, k1, e'⟩ | ⟨a', rfl, k1, e'⟩ | ⟨a', b', rfl, k1, k2, k3, e'⟩ | ⟨a', b', c', rfl, k1, k2, k3, k4, e'⟩ | ⟨a', b', c', d', rfl, k1, k2, k3, k4, k5, e'⟩ <;>
  rw [e, e'] at h <;> simp only [Prod.mk.injEq, Bool.false_eq_true, and_false, and_true, Bool.true_eq_false, reduceCtorEq] at h
  · rw [u8_eq (by omega : a.toNat = a'.toNat)]
  · exfalso; omega
  · exfalso; omega
  · exfalso; omega
  · rw [u8_eq (by omega : a.toNat = a'.toNat)]
  · exfalso; omega
  · rw [u8_eq (by omega : a.toNat = a'.toNat), u8_eq (by omega : b.toNat = b'.toNat)]
  · exfalso; omega
  · exfalso; omega
  · exfalso; omega
  · exfalso; omega
  · rw [u8_eq (by omega : a.toNat = a'.toNat), u8_eq (by omega : b.toNat = b'.toNat), u8_eq (by omega : c.toNat = c'.toNat)]
  · exfalso; omega
  · exfalso; omega
  · exfalso; omega
  · exfalso; omega
  · rw [u8_eq (by omega : a.toNat = a'.toNat), u8_eq (by omega : b.toNat = b'.toNat), u8_eq (by omega : c.toNat = c'.toNat), u8_eq (by omega : d.toNat = d'.toNat)]

theorem let1_ascii (t : List UInt8) (ht : Good t) (a : UInt8) (ha : a.toNat < 128) : let1 t = (((a.toNat : Nat) : Int), false) ↔ t = [a] := by
  have hg : Good [a] := ⟨by simp, by simp [dc, by', decodeN, ha]⟩
  have e : let1 [a] = (((a.toNat : Nat) : Int), false) := by
    have : dc [a] = (a.toNat, 1) := by simp [dc, by', decodeN, ha]
    unfold let1; rw [this, if_neg (by simp; omega)]
  exact ⟨fun h => let1_inj ht hg (h.trans e.symm), fun h => by rw [h, e]⟩

end Go.Proofs.YtoimlfaiibadgaaDoor
