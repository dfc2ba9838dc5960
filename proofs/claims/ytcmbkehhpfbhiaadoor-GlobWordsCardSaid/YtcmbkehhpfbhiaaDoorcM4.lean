/- Low letters, and words of a text: rows alone. -/
import Derived.Test.YtcmbkehhpfbhiaaDoorcW3
import Derived.Test.YtcmbkehhpfbhiaaDoorcW4
import Derived.Test.YtcmbkehhpfbhiaaDoorcW7
set_option linter.unusedSimpArgs false
set_option linter.unusedVariables false
set_option linter.all false
namespace Go.Proofs.YtcmbkehhpfbhiaaDoor
open Go Go.Lib

def lowN (n : Nat) : Nat := if 65 ≤ n ∧ n ≤ 90 then n + 32 else n

theorem by_low (s : List UInt8) (j : Nat) : by' (s.map lowB) j = lowN (by' s j) := by
  unfold by'
  rw [List.getElem?_map]
  cases s[j]? with
  | none => rfl
  | some c => exact low_nat c

theorem lowN_key (x : Nat) : lowN x = x ∨ (x / 64 ≠ 2 ∧ lowN x / 64 ≠ 2) := by
  unfold lowN; split
  · right; omega
  · exact .inl rfl

theorem decodeN_low (n a b c d : Nat) : (decodeN n (lowN a) (lowN b) (lowN c) (lowN d)).2 = (decodeN n a b c d).2 := by
  by_cases ha : a < 128
  · have : lowN a < 128 := by unfold lowN; split <;> omega
    unfold decodeN; rw [if_pos ha, if_pos this]
  · have : lowN a = a := by unfold lowN; rw [if_neg (by omega)]
    rw [this]
    rcases lowN_key b with hb | hb <;> rcases lowN_key c with hc | hc <;> rcases lowN_key d with hd | hd <;>
      simp only [decodeN, hb, hc, hd, ne_eq, not_false_eq_true, and_self, and_false, false_and, if_false]

theorem dc_low (s : List UInt8) : (dc (s.map lowB)).2 = (dc s).2 := by
  unfold dc
  rw [by_low, by_low, by_low, by_low, List.length_map]
  exact decodeN_low ..

theorem lets_low (s : List UInt8) : lets (s.map lowB) = (lets s).map (fun t => t.map lowB) := by
  generalize hn : s.length = n
  induction n using Nat.strongRecOn generalizing s with
  | _ n ih =>
    by_cases h : s = []
    · subst h; rfl
    · have h' : s.map lowB ≠ [] := by simpa using h
      rw [lets_cons h, lets_cons h', dc_low, List.map_cons, List.map_take, ← List.map_drop]
      have h2 := dc_pos s
      have h3 := List.length_pos_iff.2 h
      rw [ih (s.drop (dc s).2).length (by simp; omega) _ rfl]

theorem lowB_big {a : UInt8} (h : 128 ≤ a.toNat) : lowB a = a := by unfold lowB; rw [if_neg (by omega)]

theorem let1_low {t : List UInt8} (h : Good t) : let1 (t.map lowB) = low1 (let1 t) := by
  rcases good_cases h with ⟨a, rfl, h1, e⟩ | ⟨a, rfl, h1, e⟩ | ⟨a, b, rfl, h1, h2, h3, e⟩ | ⟨a, b, c, rfl, h1, h2, h3, h4, e⟩ | ⟨a, b, c, d, rfl, h1, h2, h3, h4, h5, e⟩
  · rw [e]
    have hl := low_nat a
    have hlt : (lowB a).toNat < 128 := by rw [hl]; split <;> omega
    have hg : Good [lowB a] := ⟨by simp, by simp [dc, by', decodeN, hlt]⟩
    rw [List.map_cons, List.map_nil, (let1_ascii _ hg (lowB a) hlt).2 rfl, hl]
    unfold low1
    by_cases k : 65 ≤ a.toNat ∧ a.toNat ≤ 90
    · rw [if_pos k, if_pos ⟨rfl, by simp only; omega, by simp only; omega⟩]; simp
    · rw [if_neg k, if_neg (fun q => k ⟨by have := q.2.1; simp only at this; omega, by have := q.2.2; simp only at this; omega⟩)]
  · have : [a].map lowB = [a] := by simp [lowB_big h1]
    rw [this, e]; simp [low1]
  · have : [a, b].map lowB = [a, b] := by simp [lowB_big (show 128 ≤ a.toNat by omega), lowB_big (show 128 ≤ b.toNat by omega)]
    rw [this, e]
    unfold low1; rw [if_neg (fun q => by have := q.2.2; simp only at this; omega)]
  · have : [a, b, c].map lowB = [a, b, c] := by simp [lowB_big (show 128 ≤ a.toNat by omega), lowB_big (show 128 ≤ b.toNat by omega), lowB_big (show 128 ≤ c.toNat by omega)]
    rw [this, e]
    unfold low1; rw [if_neg (fun q => by have := q.2.2; simp only at this; omega)]
  · have : [a, b, c, d].map lowB = [a, b, c, d] := by simp [lowB_big (show 128 ≤ a.toNat by omega), lowB_big (show 128 ≤ b.toNat by omega), lowB_big (show 128 ≤ c.toNat by omega), lowB_big (show 128 ≤ d.toNat by omega)]
    rw [this, e]
    unfold low1; rw [if_neg (fun q => by have := q.2.2; simp only at this; omega)]

/-- Low letters are the low text's letters. -/
theorem lt1_low (s : List UInt8) : (lt1 s).map low1 = lt1 (s.map lowB) := by
  unfold lt1
  rw [lets_low, List.map_map, List.map_map]
  apply List.map_congr_left
  intro t ht
  exact (let1_low (lets_good s t ht)).symm

theorem word_same {t : List UInt8} (h : Good t) : wordP (let1 t) = wordR t := by
  rw [Bool.eq_iff_iff]
  rcases good_cases h with ⟨a, rfl, h1, e⟩ | ⟨a, rfl, h1, e⟩ | ⟨a, b, rfl, h1, h2, h3, e⟩ | ⟨a, b, c, rfl, h1, h2, h3, h4, e⟩ | ⟨a, b, c, d, rfl, h1, h2, h3, h4, h5, e⟩ <;> rw [e]
  · have : by' [a] 0 = a.toNat := rfl
    simp only [wordP, wordR, alN, this, List.length_cons, List.length_nil, Nat.lt_irrefl, Nat.zero_add, decide_false, Bool.false_or, Bool.not_false, Bool.true_and, Bool.or_eq_true, decide_eq_true_eq]
    omega
  · have : by' [a] 0 = a.toNat := rfl
    simp only [wordP, wordR, alN, this, List.length_cons, List.length_nil, Nat.lt_irrefl, Nat.zero_add, decide_false, Bool.false_or, Bool.not_true, Bool.false_and, Bool.or_eq_true, decide_eq_true_eq, Bool.false_eq_true]
    constructor
    · intro h; exact h.elim
    · intro h; omega
  · simp only [wordP, wordR, List.length_cons, List.length_nil, Bool.not_false, Bool.true_and, Bool.or_eq_true, decide_eq_true_eq]
    constructor
    · intro _; left; omega
    · intro _; right; omega
  · simp only [wordP, wordR, List.length_cons, List.length_nil, Bool.not_false, Bool.true_and, Bool.or_eq_true, decide_eq_true_eq]
    constructor
    · intro _; left; omega
    · intro _; right; omega
  · simp only [wordP, wordR, List.length_cons, List.length_nil, Bool.not_false, Bool.true_and, Bool.or_eq_true, decide_eq_true_eq]
    constructor
    · intro _; left; omega
    · intro _; right; omega

/-- Words: some part that matches, with edges at both ends. -/
def lef {α : Type} (w : α → Bool) (l : List α) (a : Nat) : Bool := match a with
  | 0 => true
  | a + 1 => match l[a]? with
    | some t => !w t
    | none => true
def rig {α : Type} (w : α → Bool) (l : List α) (b : Nat) : Bool := match l[b]? with
  | some t => !w t
  | none => true
def WordIn {α : Type} (w : α → Bool) (mt : List α → Bool) (l : List α) : Prop := ∃ a b, a ≤ b ∧ b ≤ l.length ∧ lef w l a = true ∧ rig w l b = true ∧ mt ((l.take b).drop a) = true

theorem lef_map {α β : Type} {w : α → Bool} {w' : β → Bool} (f : α → β) {l : List α} (h : ∀ t ∈ l, w' (f t) = w t) (a : Nat) : lef w' (l.map f) a = lef w l a := by
  unfold lef
  cases a with
  | zero => rfl
  | succ a =>
    simp only [List.getElem?_map]
    cases e : l[a]? with
    | none => rfl
    | some t => simp only [Option.map_some]; rw [h t (List.mem_of_getElem? e)]
theorem rig_map {α β : Type} {w : α → Bool} {w' : β → Bool} (f : α → β) {l : List α} (h : ∀ t ∈ l, w' (f t) = w t) (b : Nat) : rig w' (l.map f) b = rig w l b := by
  unfold rig
  simp only [List.getElem?_map]
  cases e : l[b]? with
  | none => rfl
  | some t => simp only [Option.map_some]; rw [h t (List.mem_of_getElem? e)]

open Classical in
/-- What the program's Word answers of letters. -/
noncomputable def wordM (p s : List UInt8) : Bool := decide (p ≠ [] ∧ WordIn wordP (match1 (lt1 (p.map lowB))) (lt1 (s.map lowB)))
open Classical in
/-- What the document's Word answers. -/
noncomputable def wordD (p s : List UInt8) : Bool := decide (p ≠ [] ∧ WordIn wordR (matchR (lets (p.map lowB))) (lets (s.map lowB)))

theorem words_same (p s : List UInt8) : wordM p s = wordD p s := by
  unfold wordM wordD
  congr 1
  apply propext
  apply and_congr Iff.rfl
  unfold WordIn
  have hg := lets_good (s.map lowB)
  have hw : ∀ t ∈ lets (s.map lowB), wordP (let1 t) = wordR t := fun t ht => word_same (hg t ht)
  have hl : (lt1 (s.map lowB)).length = (lets (s.map lowB)).length := by simp [lt1]
  have hm : ∀ a b, match1 (lt1 (p.map lowB)) (((lt1 (s.map lowB)).take b).drop a) = matchR (lets (p.map lowB)) (((lets (s.map lowB)).take b).drop a) := fun a b => by
    have : ((lt1 (s.map lowB)).take b).drop a = (((lets (s.map lowB)).take b).drop a).map let1 := by simp [lt1, List.map_take, List.map_drop]
    rw [this]
    exact match_goods (lets_good _) fun t ht => hg t (List.mem_of_mem_take (List.mem_of_mem_drop ht))
  constructor <;> rintro ⟨a, b, h1, h2, h3, h4, h5⟩
  · exact ⟨a, b, h1, hl ▸ h2, by rw [← lef_map let1 hw]; exact h3, by rw [← rig_map let1 hw]; exact h4, by rw [← hm]; exact h5⟩
  · exact ⟨a, b, h1, hl ▸ h2, by unfold lt1; rw [lef_map let1 hw]; exact h3, by unfold lt1; rw [rig_map let1 hw]; exact h4, by rw [hm]; exact h5⟩

end Go.Proofs.YtcmbkehhpfbhiaaDoor
