/- Boards as plain data: what deeds make of them. -/
import Derived.Test.YtiololafeihhmaaAbsC
set_option linter.unusedSimpArgs false
set_option linter.unusedVariables false
set_option linter.all false
namespace Go.Proofs.Ytiololafeihhmaa
open Go Go.Abs

/-- A peer: its frames, its score. -/
abbrev Pe := List (List UInt8) × Int

structure Bd where
  room : Int
  limit : Int
  next : Nat
  total : Int
  ps : List Pe

/-- How many frames wait. -/
def sumQ : List Pe → Nat
  | [] => 0
  | p :: l => p.1.length + sumQ l

theorem sumQ_set : ∀ (l : List Pe) (i : Nat) (p q : Pe), l[i]? = some p → sumQ (l.set i q) + p.1.length = sumQ l + q.1.length
  | [], i, p, q, h => by simp at h
  | a :: l, 0, p, q, h => by simp at h; subst h; simp [sumQ]; omega
  | a :: l, i + 1, p, q, h => by
    have := sumQ_set l i p q (by simpa using h)
    simp only [List.set_cons_succ, sumQ]; omega

theorem sumQ_get : ∀ (l : List Pe) (i : Nat) (p : Pe), l[i]? = some p → p.1.length ≤ sumQ l
  | [], i, p, h => by simp at h
  | a :: l, 0, p, h => by simp at h; subst h; simp [sumQ]
  | a :: l, i + 1, p, h => by
    have := sumQ_get l i p (by simpa using h)
    simp only [sumQ]; omega

theorem sumQ_pos : ∀ (l : List Pe), sumQ l ≠ 0 → ∃ (i : Nat) (p : Pe), l[i]? = some p ∧ p.1 ≠ []
  | [], h => absurd rfl h
  | a :: l, h => by
    by_cases ha : a.1 = []
    · simp only [sumQ, ha, List.length_nil, Nat.zero_add] at h
      obtain ⟨i, p, h1, h2⟩ := sumQ_pos l h
      exact ⟨i + 1, p, by simpa using h1, h2⟩
    · exact ⟨0, a, rfl, ha⟩

theorem sumQ_le : ∀ (l : List Pe) (m : Nat), (∀ p ∈ l, p.1.length ≤ m) → sumQ l ≤ l.length * m
  | [], m, _ => by simp [sumQ]
  | a :: l, m, h => by
    have h1 := sumQ_le l m fun p hp => h p (by simp [hp])
    have h2 := h a (by simp)
    simp only [sumQ, List.length_cons, Nat.succ_mul]; omega

/-- What holds of a board. -/
structure Bok (B : Bd) : Prop where
  n1 : 1 ≤ B.ps.length
  n2 : B.ps.length ≤ 64
  r1 : 1 ≤ B.room
  r2 : B.room ≤ 4096
  l1 : 1 ≤ B.limit
  l2 : B.limit ≤ 9223372036854775807
  nx : B.next < B.ps.length
  tot : B.total = (sumQ B.ps : Int)
  pe : ∀ p ∈ B.ps, 0 ≤ p.2 ∧ p.2 ≤ B.limit ∧ (p.1.length : Int) ≤ B.room ∧ (p.2 = B.limit → p.1 = []) ∧ ∀ f ∈ p.1, f.length ≤ 1048576

theorem Bok.tot1 {B : Bd} (h : Bok B) : 0 ≤ B.total ∧ B.total ≤ 262144 := by
  have h1 := sumQ_le B.ps 4096 fun p hp => by have := (h.pe p hp).2.2.1; have := h.r2; omega
  have := h.tot; have := h.n2
  omega

def newB (n : Nat) (room limit : Int) : Bd := ⟨room, limit, 0, 0, List.replicate n ([], 0)⟩

theorem sumQ_rep : ∀ n : Nat, sumQ (List.replicate n (([], 0) : Pe)) = 0
  | 0 => rfl
  | n + 1 => by simp [List.replicate_succ, sumQ, sumQ_rep n]

/-- Which numbers a board may have. -/
def okN (n room limit : Int) : Bool := decide (1 ≤ n ∧ n ≤ 64 ∧ 1 ≤ room ∧ room ≤ 4096 ∧ 1 ≤ limit)

theorem new_ok {n : Nat} {room limit : Int} (h : okN n room limit = true) (hl : limit ≤ 9223372036854775807) : Bok (newB n room limit) := by
  simp [okN] at h
  refine ⟨by simp [newB]; omega, by simp [newB]; omega, h.2.2.1, h.2.2.2.1, h.2.2.2.2, hl, by simp [newB]; omega, by simp [newB, sumQ_rep], fun p hp => ?_⟩
  simp only [newB] at hp ⊢
  rw [List.eq_of_mem_replicate hp]
  simp; omega

/-- What an offer answers. -/
def offE (B : Bd) (i : Int) (f : List UInt8) : Int :=
  if i < 0 then 1 else match B.ps[i.toNat]? with
  | none => 1
  | some p => if p.2 ≥ B.limit then 110 else if (p.1.length : Int) ≥ B.room then 3 else if (f.length : Int) > 1048576 then 13 else 0

def putB (B : Bd) (i : Nat) (p : Pe) (f : List UInt8) : Bd := { B with ps := B.ps.set i (p.1 ++ [f], p.2), total := B.total + 1 }

def offB (B : Bd) (i : Int) (f : List UInt8) : Bd :=
  if offE B i f = 0 then match B.ps[i.toNat]? with
  | none => B
  | some p => putB B i.toNat p f
  else B

theorem put_ok {B : Bd} (h : Bok B) {i : Nat} {p : Pe} {f : List UInt8} (hp : B.ps[i]? = some p) (h1 : ¬ p.2 ≥ B.limit) (h2 : ¬ (p.1.length : Int) ≥ B.room) (h3 : ¬ (f.length : Int) > 1048576) : Bok (putB B i p f) := by
  have hs := sumQ_set B.ps i p (p.1 ++ [f], p.2) hp
  simp at hs
  have hm := h.pe p (List.mem_of_getElem? hp)
  refine ⟨by simpa [putB] using h.n1, by simpa [putB] using h.n2, h.r1, h.r2, h.l1, h.l2, by simpa [putB] using h.nx, ?_, fun q hq => ?_⟩
  · have := h.tot
    simp only [putB]; omega
  · simp only [putB] at hq ⊢
    rcases List.mem_or_eq_of_mem_set hq with hq | rfl
    · exact h.pe q hq
    · refine ⟨hm.1, hm.2.1, by simp; omega, fun e => by simp at e; omega, fun g hg => ?_⟩
      simp only [List.mem_append, List.mem_singleton] at hg
      rcases hg with hg | rfl
      · exact hm.2.2.2.2 g hg
      · omega

theorem off_ok {B : Bd} (h : Bok B) (i : Int) (f : List UInt8) : Bok (offB B i f) := by
  unfold offB
  split
  · rename_i he
    unfold offE at he
    split at he
    · cases he
    · split
      · exact h
      · rename_i p hp
        rw [hp] at he
        simp only at he
        split at he
        · cases he
        · split at he
          · cases he
          · split at he
            · cases he
            · exact put_ok h hp ‹_› ‹_› ‹_›
  · exact h

theorem off_len (B : Bd) (i : Int) (f : List UInt8) : (offB B i f).ps.length = B.ps.length := by
  unfold offB; split
  · split
    · rfl
    · simp [putB]
  · rfl

/-- A row's frames. -/
def qAt (B : Bd) (i : Nat) : List (List UInt8) := match B.ps[i]? with
  | some p => p.1
  | none => []

/-- The first place from t on, of so many. -/
def firstT (e : Nat → Bool) : Nat → Nat → Option Nat
  | 0, _ => none
  | f + 1, t => if e t then some t else firstT e f (t + 1)

theorem firstT_some {e : Nat → Bool} : ∀ {f t u : Nat}, firstT e f t = some u → t ≤ u ∧ u < t + f ∧ e u = true ∧ ∀ s, t ≤ s → s < u → e s = false
  | 0, t, u, h => by simp [firstT] at h
  | f + 1, t, u, h => by
    simp only [firstT] at h
    split at h
    · rename_i ht
      simp at h; subst h
      exact ⟨Nat.le_refl _, by omega, ht, fun s h1 h2 => by omega⟩
    · rename_i ht
      obtain ⟨h1, h2, h3, h4⟩ := firstT_some h
      refine ⟨by omega, by omega, h3, fun s h5 h6 => ?_⟩
      by_cases hs : s = t
      · subst hs; simpa using ht
      · exact h4 s (by omega) h6

theorem firstT_none {e : Nat → Bool} : ∀ {f t : Nat}, firstT e f t = none → ∀ s, t ≤ s → s < t + f → e s = false
  | 0, t, _ => fun s h1 h2 => by omega
  | f + 1, t, h => fun s h1 h2 => by
    simp only [firstT] at h
    split at h
    · simp at h
    · rename_i ht
      by_cases hs : s = t
      · subst hs; simpa using ht
      · exact firstT_none h s (by omega) (by omega)

/-- How far it is to the peer whose turn it is. -/
def turn (B : Bd) : Option Nat := firstT (fun t => decide (qAt B ((B.next + t) % B.ps.length) ≠ [])) B.ps.length 0

def takeB (B : Bd) (j : Nat) (p : Pe) : Bd := { B with ps := B.ps.set j (p.1.tail, p.2), total := B.total - 1, next := (j + 1) % B.ps.length }

def nextB (B : Bd) : Bd := match turn B with
  | none => B
  | some t => match B.ps[(B.next + t) % B.ps.length]? with
    | some p => takeB B ((B.next + t) % B.ps.length) p
    | none => B

theorem turn_none {B : Bd} (h : Bok B) : turn B = none ↔ B.total = 0 := by
  constructor
  · intro ht
    rw [h.tot]
    by_cases h0 : sumQ B.ps = 0
    · rw [h0]; rfl
    · obtain ⟨i, p, h1, h2⟩ := sumQ_pos _ h0
      have hi := (List.getElem?_eq_some_iff.1 h1).1
      have hn := h.nx
      have := firstT_none ht ((i + B.ps.length - B.next) % B.ps.length) (Nat.zero_le _) (by rw [Nat.zero_add]; exact Nat.mod_lt _ (by omega))
      have e : (B.next + (i + B.ps.length - B.next) % B.ps.length) % B.ps.length = i := by
        rw [Nat.add_mod_mod, show B.next + (i + B.ps.length - B.next) = i + B.ps.length by omega, Nat.add_mod_right, Nat.mod_eq_of_lt hi]
      simp only [decide_eq_false_iff_not, Decidable.not_not] at this
      rw [e] at this
      simp only [qAt, h1] at this
      exact absurd this h2
  · intro ht
    have h0 : sumQ B.ps = 0 := by have := h.tot; omega
    cases hc : turn B with
    | none => rfl
    | some t =>
      obtain ⟨_, h2, h3, _⟩ := firstT_some hc
      have h3 := of_decide_eq_true h3
      cases hp : B.ps[(B.next + t) % B.ps.length]? with
      | some p =>
        simp only [qAt, hp] at h3
        have := sumQ_get _ _ _ hp
        exact absurd (List.length_eq_zero_iff.1 (by omega)) h3
      | none => simp [qAt, hp] at h3

theorem turn_some {B : Bd} (h : Bok B) {t : Nat} (ht : turn B = some t) : t < B.ps.length ∧ (∃ p f r, B.ps[(B.next + t) % B.ps.length]? = some p ∧ p.1 = f :: r) ∧ ∀ s, s < t → qAt B ((B.next + s) % B.ps.length) = [] := by
  obtain ⟨_, h2, h3, h4⟩ := firstT_some ht
  refine ⟨by omega, ?_, fun s hs => by simpa using h4 s (Nat.zero_le _) hs⟩
  have h3 := of_decide_eq_true h3
  cases hp : B.ps[(B.next + t) % B.ps.length]? with
  | some p =>
    simp only [qAt, hp] at h3
    cases hq : p.1 with
    | nil => exact absurd hq h3
    | cons f r => exact ⟨p, f, r, rfl, hq⟩
  | none => simp [qAt, hp] at h3

theorem take_ok {B : Bd} (h : Bok B) {j : Nat} {p : Pe} {f : List UInt8} {r : List (List UInt8)} (hp : B.ps[j]? = some p) (hq : p.1 = f :: r) : Bok (takeB B j p) := by
  have hs := sumQ_set B.ps j p (p.1.tail, p.2) hp
  simp [hq] at hs
  have hm := h.pe p (List.mem_of_getElem? hp)
  have hn := h.n1
  refine ⟨by simpa [takeB] using h.n1, by simpa [takeB] using h.n2, h.r1, h.r2, h.l1, h.l2, by simp only [takeB, List.length_set]; exact Nat.mod_lt _ (by omega), ?_, fun q hq' => ?_⟩
  · have := h.tot
    simp only [takeB, hq, List.tail_cons]; omega
  · simp only [takeB] at hq' ⊢
    rcases List.mem_or_eq_of_mem_set hq' with hq' | rfl
    · exact h.pe q hq'
    · have hlen : p.1.length = r.length + 1 := by rw [hq]; rfl
      refine ⟨hm.1, hm.2.1, by simp; omega, fun e => ?_, fun g hg => hm.2.2.2.2 g (List.mem_of_mem_tail hg)⟩
      have := hm.2.2.2.1 e
      rw [hq] at this; cases this

theorem next_ok {B : Bd} (h : Bok B) : Bok (nextB B) := by
  unfold nextB
  split
  · exact h
  · rename_i t ht
    obtain ⟨_, ⟨p, f, r, h1, h2⟩, _⟩ := turn_some h ht
    rw [h1]
    exact take_ok h h1 h2

theorem next_len (B : Bd) : (nextB B).ps.length = B.ps.length := by
  unfold nextB; split
  · rfl
  · split
    · simp [takeB]
    · rfl

/-- A score, lifted. -/
def lift (B : Bd) (s by' : Int) : Int := s + min (max 0 by') (B.limit - s)

def blB (B : Bd) (i : Int) (by' : Int) : Bd :=
  if i < 0 then B else match B.ps[i.toNat]? with
  | none => B
  | some p => if lift B p.2 by' < B.limit then { B with ps := B.ps.set i.toNat (p.1, lift B p.2 by') } else { B with ps := B.ps.set i.toNat ([], lift B p.2 by'), total := B.total - p.1.length }

def blV (B : Bd) (i : Int) (by' : Int) : Bool :=
  if i < 0 then false else match B.ps[i.toNat]? with
  | none => false
  | some p => decide (¬ lift B p.2 by' < B.limit)

theorem bl_ok {B : Bd} (h : Bok B) (i by' : Int) : Bok (blB B i by') := by
  unfold blB
  split
  · exact h
  · split
    · exact h
    · rename_i p hp
      have hm := h.pe p (List.mem_of_getElem? hp)
      have hl : 0 ≤ lift B p.2 by' ∧ lift B p.2 by' ≤ B.limit := by unfold lift; omega
      split
      · rename_i hlt
        have hs := sumQ_set B.ps i.toNat p (p.1, lift B p.2 by') hp
        simp only at hs
        refine ⟨by simpa using h.n1, by simpa using h.n2, h.r1, h.r2, h.l1, h.l2, by simpa using h.nx, ?_, fun q hq => ?_⟩
        · have := h.tot
          simp only; omega
        · simp only at hq ⊢
          rcases List.mem_or_eq_of_mem_set hq with hq | rfl
          · exact h.pe q hq
          · exact ⟨hl.1, hl.2, hm.2.2.1, fun e => by simp only at e; omega, hm.2.2.2.2⟩
      · rename_i hlt
        have hs := sumQ_set B.ps i.toNat p ([], lift B p.2 by') hp
        simp only [List.length_nil] at hs
        refine ⟨by simpa using h.n1, by simpa using h.n2, h.r1, h.r2, h.l1, h.l2, by simpa using h.nx, ?_, fun q hq => ?_⟩
        · have := h.tot
          simp only; omega
        · simp only at hq ⊢
          rcases List.mem_or_eq_of_mem_set hq with hq | rfl
          · exact h.pe q hq
          · exact ⟨hl.1, hl.2, by have := h.r1; simp; omega, fun _ => rfl, fun g hg => by cases hg⟩

theorem bl_len (B : Bd) (i by' : Int) : (blB B i by').ps.length = B.ps.length := by
  unfold blB; split
  · rfl
  · split
    · rfl
    · split <;> simp

/-- A deed: what it is, whose, by how much, which frame. -/
abbrev Dd := Int × Int × Int × List UInt8

def stepB (B : Bd) (x : Dd) : Bd := if x.1 = 0 then offB B x.2.1 x.2.2.2 else if x.1 = 1 then nextB B else if x.1 = 2 then blB B x.2.1 x.2.2.1 else B

theorem step_ok {B : Bd} (h : Bok B) (x : Dd) : Bok (stepB B x) := by
  unfold stepB
  split
  · exact off_ok h _ _
  · split
    · exact next_ok h
    · split
      · exact bl_ok h _ _
      · exact h

theorem step_len (B : Bd) (x : Dd) : (stepB B x).ps.length = B.ps.length := by
  unfold stepB
  split
  · exact off_len _ _ _
  · split
    · exact next_len _
    · split
      · exact bl_len _ _ _
      · rfl

theorem step_same (B : Bd) (x : Dd) : (stepB B x).room = B.room ∧ (stepB B x).limit = B.limit := by
  unfold stepB offB nextB blB
  repeat' split
  all_goals exact ⟨rfl, rfl⟩

def runB (B : Bd) (l : List Dd) : Bd := l.foldl stepB B

theorem run_snoc (B : Bd) (l : List Dd) (x : Dd) : runB B (l ++ [x]) = stepB (runB B l) x := by simp [runB]

theorem run_ok {B : Bd} (h : Bok B) : ∀ l : List Dd, Bok (runB B l)
  | [] => h
  | x :: l => run_ok (step_ok h x) l

theorem run_same (B : Bd) : ∀ l : List Dd, (runB B l).room = B.room ∧ (runB B l).limit = B.limit
  | [] => ⟨rfl, rfl⟩
  | x :: l => ⟨(run_same (stepB B x) l).1.trans (step_same B x).1, (run_same (stepB B x) l).2.trans (step_same B x).2⟩

theorem run_len (B : Bd) : ∀ l : List Dd, (runB B l).ps.length = B.ps.length
  | [] => rfl
  | x :: l => (run_len (stepB B x) l).trans (step_len B x)

end Go.Proofs.Ytiololafeihhmaa
