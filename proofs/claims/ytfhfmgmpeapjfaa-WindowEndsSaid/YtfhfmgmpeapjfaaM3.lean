/- A sender, a net and a receiver, as plain lists. -/
import Derived.Test.YtfhfmgmpeapjfaaM2
import Derived.Test.YtfhfmgmpeapjfaaW7
set_option linter.unusedSimpArgs false
set_option linter.unusedVariables false
set_option linter.all false
namespace Go.Proofs.Ytfhfmgmpeapjfaa
open Go Go.Abs

/-- All that was pushed, how many are done, what is wanted, kept, what was sent, given back, told. -/
structure Lk where
  L : List (List UInt8)
  d : Nat
  w : Int
  M : List Pc
  sent : List Pc
  acks : List Int
  told : List (List UInt8)

/-- The N-th of n, counted round. -/
def idx (N : Int) (n : Nat) : Int := (N.tmod n + n).tmod n

theorem idx_in (N : Int) {n : Nat} (h : 0 < n) : 0 ≤ idx N n ∧ idx N n < n := by
  have h1 : -(n : Int) < N.tmod n := by
    have := Int.natAbs_tmod N n
    have h2 := Nat.mod_lt N.natAbs (show 0 < (n : Int).natAbs by omega)
    omega
  constructor
  · exact Int.tmod_nonneg _ (by omega)
  · exact Int.tmod_lt_of_pos _ (by omega)

def take2 (wide : Int) (s : Lk) (p : Pc) : Lk := { s with told := s.told ++ (take wide s.w s.M p).1, w := (take wide s.w s.M p).2.1, M := (take wide s.w s.M p).2.2 }

def stepM (wide queue : Int) (s : Lk) (x : Dd) : Lk :=
  if x.1 = 0 then (if pushE wide queue (s.L.drop s.d) x.2.2 = 0 then { s with L := s.L ++ [x.2.2] } else s)
  else if x.1 = 1 then { s with sent := s.sent ++ outP s.d 0 (und wide (s.L.drop s.d)) }
  else if x.1 = 2 then (match s.sent[(idx x.2.1 s.sent.length).toNat]? with
    | none => s
    | some p => take2 wide s p)
  else if x.1 = 3 then (match s.acks[(idx x.2.1 s.acks.length).toNat]? with
    | none => s
    | some a => { s with d := s.d + ackK wide s.d (s.L.drop s.d) a })
  else if x.1 = 4 then { s with acks := s.acks ++ [s.w] }
  else s

/-- What holds behind each deed. -/
structure Lok (wide queue : Int) (s : Lk) (n : Nat) : Prop where
  dw : (s.d : Int) ≤ s.w
  wl : s.w ≤ s.L.length
  tk : s.told = s.L.take s.w.toNat
  inn : In wide s.w s.M
  free : entry s.M s.w = none
  kept : ∀ p ∈ s.M, s.L[p.1.toNat]? = some p.2 ∧ p.1 < s.d + wide
  sent : ∀ p ∈ s.sent, 0 ≤ p.1 ∧ s.L[p.1.toNat]? = some p.2 ∧ p.1 < s.d + wide
  acks : ∀ a ∈ s.acks, 0 ≤ a ∧ a ≤ s.w
  near : s.w ≤ s.d + wide
  room : (s.L.length : Int) ≤ s.d + (wide + queue)
  cnt : s.L.length ≤ n
  cs : s.sent.length ≤ 64 * n
  ca : s.acks.length ≤ n
  sz : ∀ b ∈ s.L, b.length ≤ 500

theorem und_len {wide : Int} {L : List (List UInt8)} {d : Nat} : (und wide (L.drop d)).length = min wide.toNat (L.length - d) := by simp [und]

theorem outP_get (base : Int) : ∀ (u : List (List UInt8)) (i j : Nat), (outP base i u)[j]? = (u[j]?).map fun b => (base + (i + j : Nat), b)
  | [], i, j => by simp [outP]
  | c :: u, i, 0 => by simp [outP]
  | c :: u, i, j + 1 => by
    simp only [outP, List.getElem?_cons_succ, outP_get base u (i + 1) j]
    rw [show i + 1 + j = i + (j + 1) by omega]

theorem outP_mem {L : List (List UInt8)} {d : Nat} {wide : Int} {p : Pc} (h : p ∈ outP d 0 (und wide (L.drop d))) : (d : Int) ≤ p.1 ∧ p.1 < d + (und wide (L.drop d)).length ∧ L[p.1.toNat]? = some p.2 := by
  obtain ⟨j, hj⟩ := List.mem_iff_getElem?.1 h
  rw [outP_get] at hj
  simp only [Option.map_eq_some_iff] at hj
  obtain ⟨b, hb, rfl⟩ := hj
  have hl := (List.getElem?_eq_some_iff.1 hb).1
  refine ⟨by simp only; omega, by simp only; omega, ?_⟩
  simp only
  rw [show ((d : Int) + ((0 + j : Nat) : Int)).toNat = d + j by omega]
  simp only [und, List.getElem?_take, List.getElem?_drop] at hb
  split at hb
  · exact hb
  · cases hb

theorem take_snoc {L : List (List UInt8)} {w : Nat} {b : List UInt8} (h : L[w]? = some b) : L.take w ++ [b] = L.take (w + 1) := by
  obtain ⟨h1, h2⟩ := List.getElem?_eq_some_iff.1 h
  rw [List.take_succ_eq_append_getElem h1, h2]

theorem entry_mem {M : List Pc} {n : Int} {d : List UInt8} (h : entry M n = some d) : (n, d) ∈ M := by
  induction M with
  | nil => cases h
  | cons p M ih =>
    simp only [entry] at h
    split at h
    · rename_i e; cases h; simp [e]
    · simp [ih h]

/-- What is told goes on where it stood. -/
theorem run_told {L : List (List UInt8)} : ∀ (k : Nat) (w : Int) (M : List Pc), M.length ≤ k → 0 ≤ w → w + M.length ≤ 1000000 → w ≤ L.length → (∀ p ∈ M, L[p.1.toNat]? = some p.2) →
    L.take w.toNat ++ (run w M).1 = L.take (run w M).2.1.toNat ∧ (run w M).2.1 ≤ L.length ∧ (∀ p ∈ (run w M).2.2, p ∈ M) := by
  intro k
  induction k with
  | zero =>
    intro w M hk h0 hl hw hM
    have : M = [] := List.eq_nil_of_length_eq_zero (by omega)
    subst this
    rw [run_none (by rfl)]
    exact ⟨by simp, hw, by simp⟩
  | succ k ih =>
    intro w M hk h0 hl hw hM
    cases he : entry M w with
    | none => rw [run_none he]; exact ⟨by simp, hw, fun p h => h⟩
    | some b =>
      rw [run_some he]
      have hd := drop1_length he
      have hm := hM _ (entry_mem he)
      simp only at hm
      have hlt := (List.getElem?_eq_some_iff.1 hm).1
      have hw1 : IntKind.i64.wrap (w + 1) = w + 1 := w64 (by omega) (by omega)
      rw [hw1]
      obtain ⟨q1, q2, q3⟩ := ih (w + 1) (drop1 M w) (by omega) (by omega) (by omega) (by omega) fun p hp => hM p (drop1_sub p hp)
      refine ⟨?_, q2, fun p hp => drop1_sub p (q3 p hp)⟩
      rw [← q1, show (w + 1).toNat = w.toNat + 1 by omega, ← take_snoc hm]
      simp

theorem near_run {wide : Int} : ∀ (k : Nat) (w : Int) (M : List Pc) (top : Int), M.length ≤ k → 0 ≤ w → w + M.length ≤ 1000000 → w ≤ top → (∀ p ∈ M, p.1 < top) → (run w M).2.1 ≤ top := by
  intro k
  induction k with
  | zero =>
    intro w M top hk h0 hl hw hM
    have : M = [] := List.eq_nil_of_length_eq_zero (by omega)
    subst this
    rw [run_none (by rfl)]; exact hw
  | succ k ih =>
    intro w M top hk h0 hl hw hM
    cases he : entry M w with
    | none => rw [run_none he]; exact hw
    | some b =>
      rw [run_some he]
      have hd := drop1_length he
      have := hM _ (entry_mem he)
      simp only at this
      have hw1 : IntKind.i64.wrap (w + 1) = w + 1 := w64 (by omega) (by omega)
      rw [hw1]
      exact ih (w + 1) (drop1 M w) top (by omega) (by omega) (by omega) (by omega) fun p hp => hM p (drop1_sub p hp)

theorem keep1_mem {M : List Pc} {p q : Pc} (h : q ∈ keep1 M p) : q ∈ M ∨ q = p := by
  simp only [keep1] at h
  split at h
  · exact .inl h
  · simpa using h

theorem Lok.w0 {wide queue : Int} {s : Lk} {n : Nat} (h : Lok wide queue s n) : 0 ≤ s.w := by have := h.dw; omega

theorem Lok.keptL {wide queue : Int} {s : Lk} {n : Nat} (h : Lok wide queue s n) (hw : 1 ≤ wide) : (s.M.length : Int) < wide := by
  have h1 := box (wide - 1).toNat (s.w + 1) (s.M.map (·.1)) h.inn.nodup fun x hx => by
    obtain ⟨p, hp, rfl⟩ := List.mem_map.1 hx
    have h2 := h.inn.rng p hp
    have h3 := entry_none.1 h.free p hp
    omega
  simp at h1
  omega

/-- A piece that was sent arrives. -/
theorem take_lok {wide queue : Int} {s : Lk} {n : Nat} {p : Pc} (h : Lok wide queue s n) (hw : 1 ≤ wide ∧ wide ≤ 64) (hn : n ≤ 1000) (hp0 : 0 ≤ p.1) (hpL : s.L[p.1.toNat]? = some p.2) (hpd : p.1 < s.d + wide) : Lok wide queue (take2 wide s p) n := by
  have h0 := h.w0
  have hk := h.keptL hw.1
  have hl := h.cnt
  have hwl := h.wl
  have hpl := (List.getElem?_eq_some_iff.1 hpL).1
  have hkl := keep1_length s.M p
  simp only [take2, take]
  split
  · rename_i hlt
    simp only [lets, Bool.and_eq_true, decide_eq_true_eq] at hlt
    obtain ⟨h1, h2, _⟩ := hlt
    rw [w64 (by omega) (by omega)] at h2
    have hin := keep1_in h.inn h1 (by omega)
    obtain ⟨q1, q2, q3, q4, q5⟩ := runs_inn _ s.w (keep1 s.M p) (Nat.le_refl _) hin h0 (by omega)
    have hall : ∀ q ∈ keep1 s.M p, s.L[q.1.toNat]? = some q.2 ∧ q.1 < s.d + wide := fun q hq => by
      rcases keep1_mem hq with hq | rfl
      · exact h.kept q hq
      · exact ⟨hpL, hpd⟩
    obtain ⟨r1, r2, r3⟩ := run_told _ s.w (keep1 s.M p) (Nat.le_refl _) h0 (by omega) hwl fun q hq => (hall q hq).1
    have r4 := near_run (wide := wide) _ s.w (keep1 s.M p) (s.d + wide) (Nat.le_refl _) h0 (by omega) h.near fun q hq => (hall q hq).2
    have hdw := h.dw
    exact { dw := by simp only; omega, wl := r2, tk := by simp only; rw [h.tk, r1], inn := q1, free := q2, kept := fun q hq => hall q (r3 q hq), sent := h.sent,
            acks := fun a ha => by have := h.acks a ha; simp only; omega, near := r4, room := h.room, cnt := hl, cs := h.cs, ca := h.ca, sz := h.sz }
  · exact { h with tk := by simp only [List.append_nil]; exact h.tk }

theorem push_lok {wide queue : Int} {s : Lk} {n : Nat} {b : List UInt8} (h : Lok wide queue s n) (hb : b.length ≤ 500) (he : pushE wide queue (s.L.drop s.d) b = 0) : Lok wide queue { s with L := s.L ++ [b] } (n + 1) := by
  have hwl := h.wl
  have h0 := h.w0
  have hdw := h.dw
  have more : ∀ {i : Nat} {c : List UInt8}, s.L[i]? = some c → (s.L ++ [b])[i]? = some c := fun {i c} hc => by
    rw [List.getElem?_append_left (List.getElem?_eq_some_iff.1 hc).1]; exact hc
  have hr : ((s.L.drop s.d).length : Int) < wide + queue := by
    simp only [pushE] at he
    split at he
    · cases he
    · split at he
      · cases he
      · omega
  simp only [List.length_drop] at hr
  exact { dw := h.dw, wl := by simp; omega, tk := by simp only; rw [List.take_append_of_le_length (by omega)]; exact h.tk, inn := h.inn, free := h.free,
          kept := fun p hp => ⟨more (h.kept p hp).1, (h.kept p hp).2⟩, sent := fun p hp => ⟨(h.sent p hp).1, more (h.sent p hp).2.1, (h.sent p hp).2.2⟩, acks := h.acks, near := h.near,
          room := by simp; omega, cnt := by simp; exact h.cnt, cs := by have := h.cs; simp only; omega, ca := by have := h.ca; simp only; omega,
          sz := fun c hc => by rcases List.mem_append.1 hc with hc | hc; · exact h.sz c hc
                               · simp at hc; subst hc; exact hb }

theorem Lok.more {wide queue : Int} {s : Lk} {n m : Nat} (h : Lok wide queue s n) (hm : n ≤ m) : Lok wide queue s m :=
  { h with cnt := Nat.le_trans h.cnt hm, cs := by have := h.cs; omega, ca := Nat.le_trans h.ca hm }

theorem ack_lok {wide queue : Int} {s : Lk} {n : Nat} {a : Int} (h : Lok wide queue s n) (ha : a ≤ s.w) : Lok wide queue { s with d := s.d + ackK wide s.d (s.L.drop s.d) a } n := by
  have hk := ackK_le wide s.d (s.L.drop s.d) a
  have hul := und_len (wide := wide) (L := s.L) (d := s.d)
  have hdw := h.dw
  have hle : ((s.d + ackK wide s.d (s.L.drop s.d) a : Nat) : Int) ≤ s.w := by
    simp only [ackK] at hk ⊢
    split <;> omega
  have hge : s.d ≤ s.d + ackK wide s.d (s.L.drop s.d) a := Nat.le_add_right _ _
  generalize s.d + ackK wide s.d (s.L.drop s.d) a = d' at hle hge
  exact { dw := hle, wl := h.wl, tk := h.tk, inn := h.inn, free := h.free, kept := fun p hp => ⟨(h.kept p hp).1, by have := (h.kept p hp).2; simp only; omega⟩,
          sent := fun p hp => ⟨(h.sent p hp).1, (h.sent p hp).2.1, by have := (h.sent p hp).2.2; simp only; omega⟩, acks := h.acks, near := by have := h.near; simp only; omega,
          room := by have := h.room; simp only; omega, cnt := h.cnt, cs := h.cs, ca := h.ca, sz := h.sz }

theorem step_lok {wide queue : Int} {s : Lk} {n : Nat} {x : Dd} (h : Lok wide queue s n) (hw : 1 ≤ wide ∧ wide ≤ 64) (hn : n ≤ 300) (hx : x.2.2.length ≤ 500) : Lok wide queue (stepM wide queue s x) (n + 1) := by
  simp only [stepM]
  split
  · split
    · rename_i he; exact push_lok h hx he
    · exact h.more (Nat.le_succ n)
  split
  · have hul := und_len (wide := wide) (L := s.L) (d := s.d)
    have hol := outP_length s.d (und wide (s.L.drop s.d)) 0
    have := h.cs
    refine { h.more (Nat.le_succ n) with sent := fun p hp => ?_, cs := by simp only [List.length_append]; omega }
    rcases List.mem_append.1 hp with hp | hp
    · exact h.sent p hp
    · obtain ⟨h1, h2, h3⟩ := outP_mem hp
      exact ⟨by omega, h3, by simp only; have := hul; have := h1; have := h2; omega⟩
  split
  · split
    · exact h.more (Nat.le_succ n)
    · rename_i p hp
      obtain ⟨h1, h2, h3⟩ := h.sent p (List.mem_of_getElem? hp)
      exact take_lok (h.more (Nat.le_succ n)) hw (by omega) h1 h2 h3
  split
  · split
    · exact h.more (Nat.le_succ n)
    · rename_i a ha
      exact ack_lok (h.more (Nat.le_succ n)) (h.acks a (List.mem_of_getElem? ha)).2
  split
  · refine { h.more (Nat.le_succ n) with acks := fun a ha => ?_, ca := by have := h.ca; simp; omega }
    rcases List.mem_append.1 ha with ha | ha
    · exact h.acks a ha
    · simp at ha; subst ha; exact ⟨h.w0, Int.le_refl _⟩
  · exact h.more (Nat.le_succ n)

end Go.Proofs.Ytfhfmgmpeapjfaa
