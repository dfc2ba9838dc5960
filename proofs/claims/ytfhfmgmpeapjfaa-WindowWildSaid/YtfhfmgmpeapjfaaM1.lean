/- The window, as plain lists: what a receiver keeps and tells. No program stands here. -/
import Derived.Test.YtfhfmgmpeapjfaaAbsC
set_option linter.unusedSimpArgs false
set_option linter.unusedVariables false
set_option linter.all false
namespace Go.Proofs.Ytfhfmgmpeapjfaa
open Go Go.Abs

abbrev Pc := Int × List UInt8

/-- A piece, as data. -/
abbrev pD (p : Pc) : D := .agg [.int .i64 p.1, bD p.2]
/-- An entry of the map of what is kept. -/
abbrev ent (p : Pc) : D × AV := (.int .i64 p.1, .d (bD p.2))

def entry : List Pc → Int → Option (List UInt8)
  | [], _ => none
  | p :: L, n => if n = p.1 then some p.2 else entry L n

def drop1 : List Pc → Int → List Pc
  | [], _ => []
  | p :: L, n => if n = p.1 then L else p :: drop1 L n

def placeN : List Pc → Int → Option Nat
  | [], _ => none
  | p :: L, n => if n = p.1 then some 0 else (placeN L n).map (· + 1)

/-- Where a number's piece is kept; -1: nowhere. -/
def place (L : List Pc) (n : Int) : Int := match placeN L n with
  | some i => i
  | none => -1

theorem beq_int (k : IntKind) (n m : Int) : D.beq (.int k n) (.int k m) = decide (n = m) := by
  simp [D.beq]
  by_cases h : n = m <;> simp [h]

theorem findE_ent (L : List Pc) (n : Int) : findE (.int .i64 n) (L.map ent) = (entry L n).map fun d => .d (bD d) := by
  induction L with
  | nil => rfl
  | cons p L ih =>
    simp only [List.map_cons, ent, findE, beq_int, entry, decide_eq_true_eq]
    split
    · rfl
    · exact ih

theorem delE_ent (L : List Pc) (n : Int) : delE (.int .i64 n) (L.map ent) = (drop1 L n).map ent := by
  induction L with
  | nil => rfl
  | cons p L ih =>
    simp only [List.map_cons, drop1]
    rw [show ent p = (.int .i64 p.1, .d (bD p.2)) from rfl]
    simp only [delE, beq_int, decide_eq_true_eq]
    split
    · rfl
    · rw [ih]; rfl

theorem setE_ent (L : List Pc) (n : Int) (d : List UInt8) (h : entry L n = none) : setE (.int .i64 n) (.d (bD d)) (L.map ent) = (L ++ [(n, d)]).map ent := by
  induction L with
  | nil => rfl
  | cons p L ih =>
    simp only [entry] at h
    split at h
    · cases h
    · rename_i hne
      simp only [List.map_cons, List.cons_append]
      rw [show ent p = (.int .i64 p.1, .d (bD p.2)) from rfl]
      simp only [setE, beq_int, decide_eq_true_eq, if_neg hne, ih h]

theorem drop1_length {L : List Pc} {n : Int} {d : List UInt8} (h : entry L n = some d) : (drop1 L n).length + 1 = L.length := by
  induction L with
  | nil => cases h
  | cons p L ih =>
    simp only [entry] at h
    simp only [drop1]
    split
    · simp
    · rename_i hne
      rw [if_neg hne] at h
      simp only [List.length_cons, ih h]

theorem placeN_none {L : List Pc} {n : Int} : entry L n = none → placeN L n = none := by
  induction L with
  | nil => intro; rfl
  | cons p L ih =>
    simp only [entry, placeN]
    split
    · intro h; cases h
    · intro h; rw [ih h]; rfl

theorem placeN_some {L : List Pc} {n : Int} {d : List UInt8} (h : entry L n = some d) : ∃ i, placeN L n = some i ∧ L[i]? = some (n, d) ∧ drop1 L n = L.take i ++ L.drop (i + 1) := by
  induction L with
  | nil => cases h
  | cons p L ih =>
    simp only [entry] at h
    simp only [placeN, drop1]
    split
    · rename_i he
      rw [if_pos he] at h
      cases h
      exact ⟨0, rfl, by simp [he], by simp⟩
    · rename_i hne
      rw [if_neg hne] at h
      obtain ⟨i, h1, h2, h3⟩ := ih h
      exact ⟨i + 1, by rw [h1]; rfl, by simpa using h2, by simp [h3]⟩

theorem placeN_drop {L : List Pc} {n : Int} {i : Nat} (hi : i < L.length) : placeN (L.drop i) n = if n = (L[i]).1 then some 0 else (placeN (L.drop (i + 1)) n).map (· + 1) := by
  rw [List.drop_eq_getElem_cons hi, placeN]

/-- What is told from a wanted number on, and what is left. -/
def told : Nat → Int → List Pc → List (List UInt8) × Int × List Pc
  | 0, w, L => ([], w, L)
  | k + 1, w, L => match entry L w with
    | none => ([], w, L)
    | some d => (d :: (told k (IntKind.i64.wrap (w + 1)) (drop1 L w)).1, (told k (IntKind.i64.wrap (w + 1)) (drop1 L w)).2)

def run (w : Int) (L : List Pc) : List (List UInt8) × Int × List Pc := told (L.length + 1) w L

theorem run_none {w : Int} {L : List Pc} (h : entry L w = none) : run w L = ([], w, L) := by
  simp only [run, told, h]

theorem run_some {w : Int} {L : List Pc} {d : List UInt8} (h : entry L w = some d) : run w L = (d :: (run (IntKind.i64.wrap (w + 1)) (drop1 L w)).1, (run (IntKind.i64.wrap (w + 1)) (drop1 L w)).2) := by
  have := drop1_length h
  simp only [run]
  rw [told, h, this]

/-- What a receiver keeps when a piece comes. -/
def keep1 (L : List Pc) (p : Pc) : List Pc := if (entry L p.1).isSome = true then L else L ++ [p]

theorem keep1_length (L : List Pc) (p : Pc) : (keep1 L p).length ≤ L.length + 1 := by
  simp only [keep1]
  split
  · omega
  · simp

/-- Is a piece let in? -/
def lets (wide w : Int) (p : Pc) : Bool := decide (w ≤ p.1) && (decide (IntKind.i64.wrap (p.1 - w) < wide) && decide (p.2.length ≤ 1048576))

/-- What a receiver tells, wants then, keeps then. -/
def take (wide w : Int) (L : List Pc) (p : Pc) : List (List UInt8) × Int × List Pc :=
  if lets wide w p = true then run w (keep1 L p) else ([], w, L)

end Go.Proofs.Ytfhfmgmpeapjfaa
