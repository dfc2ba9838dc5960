/- Which texts a pattern with stars matches: rows alone. -/
import Derived.Test.YtoimlfaiibadgaaDoordM1
set_option linter.unusedSimpArgs false
set_option linter.unusedVariables false
set_option linter.all false
namespace Go.Proofs.YtoimlfaiibadgaaDoor

/-- A pattern matches a text: 'st' stars, 'ok' one letter. -/
inductive Mt {α β : Type} (st : α → Bool) (ok : α → β → Bool) : List α → List β → Prop
  | nil : Mt st ok [] []
  | one {p : α} {c : β} {ps : List α} {s : List β} : st p = false → ok p c = true → Mt st ok ps s → Mt st ok (p :: ps) (c :: s)
  | star {p : α} {ps : List α} {s : List β} (t : List β) : st p = true → Mt st ok ps s → Mt st ok (p :: ps) (t ++ s)

variable {α β : Type} {st : α → Bool} {ok : α → β → Bool}

theorem Mt.append {p q : List α} {s t : List β} (h : Mt st ok p s) (k : Mt st ok q t) : Mt st ok (p ++ q) (s ++ t) := by
  induction h with
  | nil => exact k
  | one h1 h2 _ ih => exact .one h1 h2 ih
  | star u h1 _ ih => rw [List.append_assoc]; exact .star u h1 ih

theorem Mt.split {p q : List α} {u : List β} (h : Mt st ok (p ++ q) u) : ∃ s t, u = s ++ t ∧ Mt st ok p s ∧ Mt st ok q t := by
  induction p generalizing u with
  | nil => exact ⟨[], u, rfl, .nil, h⟩
  | cons a p ih =>
    cases h with
    | one h1 h2 h3 =>
      obtain ⟨s, t, rfl, a1, a2⟩ := ih h3
      exact ⟨_ :: s, t, rfl, .one h1 h2 a1, a2⟩
    | star w h1 h3 =>
      obtain ⟨s, t, rfl, a1, a2⟩ := ih h3
      exact ⟨w ++ s, t, by rw [List.append_assoc], .star w h1 a1, a2⟩

theorem Mt.nil_iff {u : List β} : Mt st ok [] u ↔ u = [] := ⟨fun h => by cases h; rfl, fun h => h ▸ .nil⟩

theorem Mt.one_iff {p : α} {u : List β} (hp : st p = false) : Mt st ok [p] u ↔ ∃ c, u = [c] ∧ ok p c = true := by
  constructor
  · intro h
    cases h with
    | one h1 h2 h3 => cases h3; exact ⟨_, rfl, h2⟩
    | star w h1 _ => rw [hp] at h1; cases h1
  · rintro ⟨c, rfl, h⟩; exact .one hp h .nil

theorem Mt.star_any {p : α} (hp : st p = true) (u : List β) : Mt st ok [p] u := by
  have := Mt.star (ok := ok) (ps := []) (s := []) u hp .nil
  rwa [List.append_nil] at this

/-- A table's next row. -/
theorem Mt.snoc_star {p : α} {ps : List α} {u : List β} {c : β} (hp : st p = true) : Mt st ok (ps ++ [p]) (u ++ [c]) ↔ Mt st ok ps (u ++ [c]) ∨ Mt st ok (ps ++ [p]) u := by
  constructor
  · intro h
    obtain ⟨s, t, e, h1, h2⟩ := h.split
    rcases List.eq_nil_or_concat t with rfl | ⟨t', c', rfl⟩
    · rw [List.append_nil] at e; rw [e]; exact .inl h1
    · rw [List.concat_eq_append, ← List.append_assoc] at e
      obtain ⟨rfl, _⟩ := List.append_inj' e rfl
      exact .inr (h1.append (Mt.star_any hp _))
  · rintro (h | h)
    · have := h.append (Mt.star_any (st := st) (ok := ok) hp [])
      rwa [List.append_nil] at this
    · obtain ⟨s, t, rfl, h1, h2⟩ := h.split
      rw [List.append_assoc]
      exact h1.append (Mt.star_any hp _)

theorem Mt.snoc_star_nil {p : α} {ps : List α} (hp : st p = true) : Mt st ok (ps ++ [p]) [] ↔ Mt st ok ps [] := by
  constructor
  · intro h
    obtain ⟨s, t, e, h1, h2⟩ := h.split
    have := List.append_eq_nil_iff.1 e.symm
    rw [this.1] at h1; exact h1
  · intro h
    exact h.append (Mt.star_any (st := st) (ok := ok) hp [])

theorem Mt.snoc_one {p : α} {ps : List α} {u : List β} {c : β} (hp : st p = false) : Mt st ok (ps ++ [p]) (u ++ [c]) ↔ Mt st ok ps u ∧ ok p c = true := by
  constructor
  · intro h
    obtain ⟨s, t, e, h1, h2⟩ := h.split
    obtain ⟨c', rfl, h3⟩ := (Mt.one_iff hp).1 h2
    obtain ⟨rfl, e2⟩ := List.append_inj' e rfl
    cases e2
    exact ⟨h1, h3⟩
  · rintro ⟨h1, h2⟩; exact h1.append ((Mt.one_iff hp).2 ⟨c, rfl, h2⟩)

theorem Mt.snoc_one_nil {p : α} {ps : List α} (hp : st p = false) : ¬ Mt st ok (ps ++ [p]) [] := by
  intro h
  obtain ⟨s, t, e, h1, h2⟩ := h.split
  obtain ⟨c', rfl, h3⟩ := (Mt.one_iff hp).1 h2
  have := List.append_eq_nil_iff.1 e.symm
  cases this.2

/-- Letters one by one, without stars. -/
inductive Seg (st : α → Bool) (ok : α → β → Bool) : List α → List β → Prop
  | nil : Seg st ok [] []
  | one {p : α} {c : β} {ps : List α} {s : List β} : st p = false → ok p c = true → Seg st ok ps s → Seg st ok (p :: ps) (c :: s)

theorem Seg.mt {p : List α} {s : List β} (h : Seg st ok p s) : Mt st ok p s := by
  induction h with
  | nil => exact .nil
  | one h1 h2 _ ih => exact .one h1 h2 ih
theorem Seg.len {p : List α} {s : List β} (h : Seg st ok p s) : p.length = s.length := by
  induction h with
  | nil => rfl
  | one h1 h2 _ ih => simp [ih]
theorem Seg.snoc {p : List α} {s : List β} (h : Seg st ok p s) {a : α} {c : β} (h1 : st a = false) (h2 : ok a c = true) : Seg st ok (p ++ [a]) (s ++ [c]) := by
  induction h with
  | nil => exact .one h1 h2 .nil
  | one k1 k2 _ ih => exact .one k1 k2 ih
/-- Behind letters without stars. -/
theorem Seg.rest {p : List α} {s : List β} (h : Seg st ok p s) {q : List α} {u : List β} (k : Mt st ok (p ++ q) u) : ∃ w t, u = w ++ t ∧ w.length = p.length ∧ Mt st ok q t := by
  induction h generalizing u with
  | nil => exact ⟨[], u, rfl, rfl, k⟩
  | one h1 h2 _ ih =>
    cases k with
    | one k1 k2 k3 =>
      obtain ⟨w, t, rfl, e, a⟩ := ih k3
      exact ⟨_ :: w, t, rfl, by simp [e], a⟩
    | star w k1 _ => rw [h1] at k1; cases k1

theorem Mt.stars {q : List α} : Mt st ok q ([] : List β) ↔ ∀ x ∈ q, st x = true := by
  induction q with
  | nil => exact ⟨fun _ => by simp, fun _ => .nil⟩
  | cons a q ih =>
    constructor
    · intro h
      generalize e : ([] : List β) = u at h
      cases h with
      | one h1 h2 h3 => cases e
      | star w h1 h3 =>
        have := List.append_eq_nil_iff.1 e.symm
        rw [this.2] at h3
        intro x hx
        rcases List.mem_cons.1 hx with rfl | hx
        · exact h1
        · exact ih.1 h3 x hx
    · intro h
      have := Mt.star (ok := ok) ([] : List β) (h a (by simp)) (ih.2 fun x hx => h x (by simp [hx]))
      exact this

/-! ### Going along both, and back to the last star -/

/-- What is still asked: 'star' the last star's place + 1 (0: none), 'from' where its rest began. -/
def Asks (st : α → Bool) (ok : α → β → Bool) (p : List α) (s : List β) (star from' : Nat) : Prop :=
  if star = 0 then Mt st ok p s else ∃ j, from' ≤ j ∧ j ≤ s.length ∧ Mt st ok (p.drop star) (s.drop j)

structure Along (st : α → Bool) (ok : α → β → Bool) (p : List α) (s : List β) (star from' i k : Nat) : Prop where
  asks : Mt st ok p s ↔ Asks st ok p s star from'
  seg : Seg st ok ((p.take i).drop star) ((s.take k).drop from')
  hi : i ≤ p.length
  hk : k ≤ s.length
  si : star ≤ i
  fk : from' ≤ k
  f0 : star = 0 → from' = 0

theorem drop_take_append {γ : Type} (l : List γ) {a b : Nat} (h : a ≤ b) : l.drop a = (l.take b).drop a ++ l.drop b := by
  rw [List.drop_take]
  have : l.drop b = (l.drop a).drop (b - a) := by rw [List.drop_drop]; congr 1; omega
  rw [this, List.take_append_drop]

theorem Along.start (p : List α) (s : List β) : Along st ok p s 0 0 0 0 where
  asks := by simp [Asks]
  seg := by simp; exact .nil
  hi := Nat.zero_le _
  hk := Nat.zero_le _
  si := Nat.le_refl _
  fk := Nat.le_refl _
  f0 := fun _ => rfl

theorem seg_len {p : List α} {s : List β} {star from' i k : Nat} (h : Along st ok p s star from' i k) : i - star = k - from' := by
  have := h.seg.len
  have h1 := h.hi
  have h2 := h.hk
  simp at this; omega

theorem Along.star {p : List α} {s : List β} {star from' i k : Nat} (h : Along st ok p s star from' i k) {a : α} (ha : p[i]? = some a) (hs : st a = true) : Along st ok p s (i + 1) k (i + 1) k where
  asks := by
    rw [h.asks]
    have hil := (List.getElem?_eq_some_iff.1 ha).1
    have e1 : p.drop star = (p.take i).drop star ++ (a :: p.drop (i + 1)) := by
      rw [drop_take_append p h.si, List.drop_eq_getElem_cons hil, (List.getElem?_eq_some_iff.1 ha).2]
    have hl := seg_len h
    have hlen : ((p.take i).drop star).length = i - star := by simp; omega
    have key : ∀ j, j ≤ s.length → Mt st ok (p.drop star) (s.drop j) → from' ≤ j → ∃ j', k ≤ j' ∧ j' ≤ s.length ∧ Mt st ok (p.drop (i + 1)) (s.drop j') := by
      intro j hj hm hf
      rw [e1] at hm
      obtain ⟨w, t, e2, e3, hm⟩ := h.seg.rest hm
      have e5 : t = s.drop (j + (i - star)) := by
        have : t = (s.drop j).drop w.length := by rw [e2]; simp
        rw [this, List.drop_drop, e3, hlen]
      generalize e4 : t = t' at hm
      cases hm with
      | one q1 q2 q3 => rw [hs] at q1; cases q1
      | star w' q1 q3 =>
        rename_i s'
        have e6 : s' = s.drop (j + (i - star) + w'.length) := by
          have : s' = (s.drop (j + (i - star))).drop w'.length := by rw [← e5, e4]; simp
          rw [this, List.drop_drop]
        by_cases hb : j + (i - star) + w'.length ≤ s.length
        · exact ⟨_, by have := h.fk; omega, hb, e6 ▸ q3⟩
        · refine ⟨s.length, h.hk, Nat.le_refl _, ?_⟩
          rw [List.drop_of_length_le (by omega)] at e6
          rw [List.drop_length, ← e6]; exact q3
    have back : ∀ j', k ≤ j' → j' ≤ s.length → Mt st ok (p.drop (i + 1)) (s.drop j') → Mt st ok (p.drop star) (s.drop from') := by
      intro j' h1 h2 h3
      rw [e1, drop_take_append s h.fk]
      refine h.seg.mt.append ?_
      rw [drop_take_append s h1]
      exact .star _ hs h3
    unfold Asks
    rw [if_neg (show ¬ i + 1 = 0 by omega)]
    by_cases h0 : star = 0
    · rw [if_pos h0]
      have hf := h.f0 h0
      subst h0; subst hf
      constructor
      · intro hm; exact key 0 (Nat.zero_le _) (by simpa using hm) (Nat.le_refl _)
      · rintro ⟨j', h1, h2, h3⟩; simpa using back j' h1 h2 h3
    · rw [if_neg h0]
      constructor
      · rintro ⟨j, h1, h2, h3⟩; exact key j h2 h3 h1
      · rintro ⟨j', h1, h2, h3⟩; exact ⟨from', Nat.le_refl _, Nat.le_trans h.fk h.hk, back j' h1 h2 h3⟩
  seg := by rw [List.drop_take, List.drop_take]; simp; exact .nil
  hi := (List.getElem?_eq_some_iff.1 ha).1
  hk := h.hk
  si := Nat.le_refl _
  fk := Nat.le_refl _
  f0 := fun e => by omega

theorem Along.one {p : List α} {s : List β} {star from' i k : Nat} (h : Along st ok p s star from' i k) {a : α} {c : β} (ha : p[i]? = some a) (hc : s[k]? = some c) (hs : st a = false) (ho : ok a c = true) : Along st ok p s star from' (i + 1) (k + 1) where
  asks := h.asks
  seg := by
    have h1 := h.si
    have h2 := h.fk
    have h3 := h.hi
    have h4 := h.hk
    rw [List.take_add_one, List.take_add_one, ha, hc, List.drop_append_of_le_length (by simp; omega), List.drop_append_of_le_length (by simp; omega)]
    exact h.seg.snoc hs ho
  hi := (List.getElem?_eq_some_iff.1 ha).1
  hk := (List.getElem?_eq_some_iff.1 hc).1
  si := by have := h.si; omega
  fk := by have := h.fk; omega
  f0 := h.f0

/-- Neither: it fails from there. -/
theorem Along.fails {p : List α} {s : List β} {star from' i k : Nat} (h : Along st ok p s star from' i k) (hk : k < s.length) (hno : ∀ a c, p[i]? = some a → s[k]? = some c → st a = false ∧ ok a c = false) : ¬ Mt st ok (p.drop star) (s.drop from') := by
  intro hm
  have hl := seg_len h
  have h2 := h.fk
  have h1 := h.si
  have hi := h.hi
  have hlen : ((p.take i).drop star).length = i - star := by simp; omega
  rw [drop_take_append p h.si] at hm
  obtain ⟨w, t, e2, e3, hm⟩ := h.seg.rest hm
  have e5 : t = s.drop k := by
    have : t = (s.drop from').drop w.length := by rw [e2]; simp
    rw [this, List.drop_drop, e3, hlen]; congr 1; omega
  rw [List.drop_eq_getElem_cons hk] at e5
  subst e5
  by_cases hip : i < p.length
  · obtain ⟨q1, q2⟩ := hno p[i] s[k] (List.getElem?_eq_getElem hip) (List.getElem?_eq_getElem hk)
    rw [List.drop_eq_getElem_cons hip] at hm
    generalize e : s[k] :: s.drop (k + 1) = u at hm
    cases hm with
    | one r1 r2 r3 => cases e; rw [q2] at r2; cases r2
    | star _ r1 _ => rw [q1] at r1; cases r1
  · rw [List.drop_of_length_le (by omega)] at hm
    cases hm

theorem Along.none {p : List α} {s : List β} {from' i k : Nat} (h : Along st ok p s 0 from' i k) (hk : k < s.length) (hno : ∀ a c, p[i]? = some a → s[k]? = some c → st a = false ∧ ok a c = false) : ¬ Mt st ok p s := by
  have := h.fails hk hno
  rw [h.f0 rfl] at this
  simpa using this

theorem Along.back {p : List α} {s : List β} {star from' i k : Nat} (h : Along st ok p s star from' i k) (hs : star ≠ 0) (hk : k < s.length) (hno : ∀ a c, p[i]? = some a → s[k]? = some c → st a = false ∧ ok a c = false) : Along st ok p s star (from' + 1) star (from' + 1) where
  asks := by
    rw [h.asks]
    have hf := h.fails hk hno
    unfold Asks
    rw [if_neg hs, if_neg hs]
    constructor
    · rintro ⟨j, h1, h2, h3⟩
      refine ⟨j, ?_, h2, h3⟩
      rcases Nat.lt_or_ge from' j with h4 | h4
      · exact h4
      · exfalso; apply hf
        have : j = from' := by omega
        rw [← this]; exact h3
    · rintro ⟨j, h1, h2, h3⟩; exact ⟨j, by omega, h2, h3⟩
  seg := by rw [List.drop_take, List.drop_take]; simp; exact .nil
  hi := Nat.le_trans h.si h.hi
  hk := by have := h.fk; omega
  si := Nat.le_refl _
  fk := Nat.le_refl _
  f0 := fun e => absurd e hs

/-- At the text's end. -/
theorem Along.done {p : List α} {s : List β} {star from' i : Nat} (h : Along st ok p s star from' i s.length) : Mt st ok p s ↔ ∀ x ∈ p.drop i, st x = true := by
  have hl := seg_len h
  have h2 := h.fk
  have h1 := h.si
  have hi := h.hi
  have hlen : ((p.take i).drop star).length = i - star := by simp; omega
  have key : ∀ j, from' ≤ j → j ≤ s.length → Mt st ok (p.drop star) (s.drop j) → ∀ x ∈ p.drop i, st x = true := by
    intro j hj hjl hm
    rw [drop_take_append p h.si] at hm
    obtain ⟨w, t, e2, e3, hm⟩ := h.seg.rest hm
    have e4 := congrArg List.length e2
    simp at e4
    have : t = [] := List.length_eq_zero_iff.1 (by omega)
    subst this
    exact Mt.stars.1 hm
  have back : (∀ x ∈ p.drop i, st x = true) → Mt st ok (p.drop star) (s.drop from') := by
    intro hx
    rw [drop_take_append p h.si, drop_take_append s h2, List.drop_length]
    exact h.seg.mt.append (Mt.stars.2 hx)
  rw [h.asks]
  unfold Asks
  by_cases h0 : star = 0
  · rw [if_pos h0]
    have hf := h.f0 h0
    subst h0; subst hf
    exact ⟨fun hm => key 0 (Nat.le_refl _) (Nat.zero_le _) (by simpa using hm), fun hx => by simpa using back hx⟩
  · rw [if_neg h0]
    exact ⟨fun ⟨j, a, b, c⟩ => key j a b c, fun hx => ⟨from', Nat.le_refl _, h2, back hx⟩⟩

end Go.Proofs.YtoimlfaiibadgaaDoor
