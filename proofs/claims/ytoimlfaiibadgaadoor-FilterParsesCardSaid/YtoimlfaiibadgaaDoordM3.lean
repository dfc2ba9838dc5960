/- The document's table of what matches: rows alone. -/
import Derived.Test.YtoimlfaiibadgaaDoordM2
set_option linter.unusedSimpArgs false
set_option linter.unusedVariables false
set_option linter.all false
namespace Go.Proofs.YtoimlfaiibadgaaDoor

def stR (t : List UInt8) : Bool := t == [42]
def okR (p c : List UInt8) : Bool := p == [63] || p == c

/-- A table's next row. -/
def nxt (s : List (List UInt8)) (p : List UInt8) (prev : Nat → Bool) : Nat → Bool
  | 0 => stR p && prev 0
  | i + 1 => if stR p then prev (i + 1) || nxt s p prev i else prev i && (match s[i]? with
    | some c => okR p c
    | none => false)

def tab (s : List (List UInt8)) (p : List (List UInt8)) : Nat → Bool := p.foldl (fun prev q => nxt s q prev) (fun i => i == 0)

theorem tab_snoc (s p : List (List UInt8)) (q : List UInt8) : tab s (p ++ [q]) = nxt s q (tab s p) := by simp [tab]

theorem tab_iff (s : List (List UInt8)) : ∀ (n : Nat) (p : List (List UInt8)), p.length = n → ∀ i, i ≤ s.length → (tab s p i = true ↔ Mt stR okR p (s.take i)) := by
  intro n
  induction n with
  | zero =>
    intro p hp i hi
    obtain rfl := List.length_eq_zero_iff.1 hp
    rw [Mt.nil_iff]
    simp only [tab, List.foldl_nil, beq_iff_eq]
    constructor
    · rintro rfl; simp
    · intro h
      have := congrArg List.length h
      simp at this
      rcases this with h | h
      · exact h
      · subst h; simp at hi; exact hi
  | succ n ih =>
    intro p hp i hi
    rcases List.eq_nil_or_concat p with rfl | ⟨p', q, rfl⟩
    · simp at hp
    rw [List.concat_eq_append] at hp ⊢
    have hp' : p'.length = n := by simpa using hp
    rw [tab_snoc]
    induction i with
    | zero =>
      have h0 := ih p' hp' 0 (Nat.zero_le _)
      rw [List.take_zero] at h0 ⊢
      unfold nxt
      cases hq : stR q with
      | true => rw [Bool.true_and, h0]; exact (Mt.snoc_star_nil hq).symm
      | false =>
        rw [Bool.false_and]
        exact ⟨fun h => (by cases h), fun h => absurd h (Mt.snoc_one_nil hq)⟩
    | succ i ihi =>
      have hi' : i < s.length := hi
      have et : s.take (i + 1) = s.take i ++ [s[i]] := by rw [List.take_add_one, List.getElem?_eq_getElem hi']; rfl
      unfold nxt
      rw [List.getElem?_eq_getElem hi']
      cases hq : stR q with
      | true =>
        have e2 : nxt s q (tab s p') i = true ↔ Mt stR okR (p' ++ [q]) (s.take i) := ihi (Nat.le_of_lt hi')
        rw [if_pos rfl, Bool.or_eq_true, ih p' hp' (i + 1) hi, e2, et]
        exact (Mt.snoc_star hq).symm
      | false =>
        rw [if_neg (by simp), Bool.and_eq_true, ih p' hp' i (by omega), et]
        exact (Mt.snoc_one hq).symm

def matchR (p s : List (List UInt8)) : Bool := tab s p s.length

theorem matchR_iff (p s : List (List UInt8)) : matchR p s = true ↔ Mt stR okR p s := by
  unfold matchR
  rw [tab_iff s _ p rfl _ (Nat.le_refl _), List.take_length]

/-! ### Letters and rows of bytes -/

def st1 (t : Int × Bool) : Bool := decide (t = (42, false))
def ok1 (p c : Int × Bool) : Bool := decide (p = (63, false)) || decide (p = c)

theorem let1_eq (t : List UInt8) (ht : Good t) (a : UInt8) (ha : a.toNat < 128) : decide (let1 t = (((a.toNat : Nat) : Int), false)) = (t == [a]) := by
  rw [Bool.eq_iff_iff, decide_eq_true_iff, beq_iff_eq]
  exact let1_ascii t ht a ha
theorem st1_let (t : List UInt8) (ht : Good t) : st1 (let1 t) = stR t := let1_eq t ht 42 (by decide)
theorem ok1_let (t u : List UInt8) (ht : Good t) (hu : Good u) : ok1 (let1 t) (let1 u) = okR t u := by
  unfold ok1 okR
  rw [show decide (let1 t = (63, false)) = (t == [63]) from let1_eq t ht 63 (by decide)]
  congr 1
  rw [Bool.eq_iff_iff, decide_eq_true_iff, beq_iff_eq]
  exact ⟨fun h => let1_inj ht hu h, fun h => h ▸ rfl⟩

/-- Matching is alike, letter by letter. -/
theorem Mt.map {α β α' β' : Type} {st : α → Bool} {ok : α → β → Bool} {st' : α' → Bool} {ok' : α' → β' → Bool} (f : α → α') (g : β → β') {p : List α} {s : List β}
    (h1 : ∀ a ∈ p, st' (f a) = st a) (h2 : ∀ a ∈ p, ∀ c ∈ s, ok' (f a) (g c) = ok a c) : Mt st' ok' (p.map f) (s.map g) ↔ Mt st ok p s := by
  constructor
  · intro h
    generalize hP : p.map f = P at h
    generalize hS : s.map g = S at h
    induction h generalizing p s with
    | nil =>
      rw [List.map_eq_nil_iff] at hP hS
      subst hP; subst hS; exact .nil
    | one k1 k2 k3 ih =>
      obtain ⟨a, p', rfl, rfl, rfl⟩ := List.map_eq_cons_iff.1 hP
      obtain ⟨c, s', rfl, rfl, rfl⟩ := List.map_eq_cons_iff.1 hS
      exact .one (by rw [← h1 a (by simp)]; exact k1) (by rw [← h2 a (by simp) c (by simp)]; exact k2) (ih (fun x hx => h1 x (by simp [hx])) (fun x hx y hy => h2 x (by simp [hx]) y (by simp [hy])) rfl rfl)
    | star t k1 k3 ih =>
      obtain ⟨a, p', rfl, rfl, rfl⟩ := List.map_eq_cons_iff.1 hP
      obtain ⟨t', s', rfl, rfl, rfl⟩ := List.map_eq_append_iff.1 hS
      exact .star _ (by rw [← h1 a (by simp)]; exact k1) (ih (fun x hx => h1 x (by simp [hx])) (fun x hx y hy => h2 x (by simp [hx]) y (by simp [hy])) rfl rfl)
  · intro h
    induction h with
    | nil => exact .nil
    | one k1 k2 k3 ih => exact .one (by rw [h1 _ (by simp)]; exact k1) (by rw [h2 _ (by simp) _ (by simp)]; exact k2) (ih (fun x hx => h1 x (by simp [hx])) (fun x hx y hy => h2 x (by simp [hx]) y (by simp [hy])))
    | star t k1 k3 ih =>
      rw [List.map_append]
      exact .star _ (by rw [h1 _ (by simp)]; exact k1) (ih (fun x hx => h1 x (by simp [hx])) (fun x hx y hy => h2 x (by simp [hx]) y (by simp [hy])))

/-- A text's letters, as the program has them. -/
def lt1 (s : List UInt8) : List (Int × Bool) := (lets s).map let1

open Classical in
/-- What the program answers. -/
noncomputable def match1 (p s : List (Int × Bool)) : Bool := decide (Mt st1 ok1 p s)
theorem match1_iff (p s : List (Int × Bool)) : match1 p s = true ↔ Mt st1 ok1 p s := by simp [match1]

theorem match_goods {p s : List (List UInt8)} (hp : ∀ t ∈ p, Good t) (hs : ∀ t ∈ s, Good t) : match1 (p.map let1) (s.map let1) = matchR p s := by
  rw [Bool.eq_iff_iff, match1_iff, matchR_iff]
  exact Mt.map let1 let1 (fun a ha => st1_let a (hp a ha)) (fun a ha c hc => ok1_let a c (hp a ha) (hs c hc))

theorem match_same (p s : List UInt8) : match1 (lt1 p) (lt1 s) = matchR (lets p) (lets s) := match_goods (lets_good p) (lets_good s)

end Go.Proofs.YtoimlfaiibadgaaDoor
