/- Filters and lines, as plain data; what is kept: rows alone. -/
import Derived.Test.YtoimlfaiibadgaaDoordM3
import Derived.Test.YtoimlfaiibadgaaDoorAbsC
set_option linter.unusedSimpArgs false
set_option linter.unusedVariables false
set_option linter.all false
namespace Go.Proofs.YtoimlfaiibadgaaDoor
open Go Go.Abs Go.Lib

abbrev Tx := List UInt8
abbrev sD (l : List Tx) : D := .slice (l.map D.str)

structure Ln where
  id : Tx
  ty : Tx
  sn : Tx
  ky : Tx
  bd : Tx
  deriving DecidableEq, Inhabited

def lnD (l : Ln) : D := .agg [.str l.id, .str l.ty, .str l.sn, .str l.ky, .str l.bd]
abbrev lnsD (l : List Ln) : D := .slice (l.map lnD)

structure Fl where
  ty : List Tx
  nty : List Tx
  sn : List Tx
  nsn : List Tx
  lim : Int
  deriving DecidableEq, Inhabited

def flD (f : Fl) : D := .agg [sD f.ty, sD f.nty, sD f.sn, sD f.nsn, .int .i64 f.lim]
abbrev flC (f : Fl) : List AV := [.d (sD f.ty), .d (sD f.nty), .d (sD f.sn), .d (sD f.nsn), .d (.int .i64 f.lim)]
/-- A filter's limit is a number. -/
def Lim (f : Fl) : Prop := -9223372036854775808 ≤ f.lim ∧ f.lim ≤ 9223372036854775807

def shortB (l : List Tx) : Bool := decide (l.length ≤ 20) && l.all fun s => decide (s.length ≤ 100)
def fewB (f : Fl) : Bool := shortB f.ty && shortB f.nty && shortB f.sn && shortB f.nsn
def linesB (l : List Ln) : Bool := decide (l.length ≤ 50) && l.all fun x => decide (x.ty.length + x.sn.length ≤ 300)

/-- Does a pattern match? -/
noncomputable def fitB (p t : Tx) : Bool := match1 (lt1 p) (lt1 t)

noncomputable def keepB (f : Fl) (l : Ln) : Bool :=
  (f.ty.isEmpty || f.ty.any fun p => fitB p l.ty) && !(f.nty.any fun p => fitB p l.ty) && (f.sn.isEmpty || f.sn.any fun s => s == l.sn) && !(f.nsn.any fun s => s == l.sn)

noncomputable def outB (f : Fl) (l : List Ln) : List Ln := l.filter (keepB f)
noncomputable def moreB (f : Fl) (l : List Ln) : Bool := decide (0 < f.lim) && decide (f.lim < (outB f l).length)
noncomputable def applyB (f : Fl) (l : List Ln) : List Ln := if moreB f l = true then (outB f l).drop ((outB f l).length - f.lim.toNat) else outB f l

theorem short_all {l : List Tx} (h : shortB l = true) : l.length ≤ 20 ∧ ∀ s ∈ l, s.length ≤ 100 := by
  simp only [shortB, Bool.and_eq_true, decide_eq_true_eq, List.all_eq_true] at h
  exact h

theorem few_all {f : Fl} (h : fewB f = true) : shortB f.ty = true ∧ shortB f.nty = true ∧ shortB f.sn = true ∧ shortB f.nsn = true := by
  simp only [fewB, Bool.and_eq_true] at h
  exact ⟨h.1.1.1, h.1.1.2, h.1.2, h.2⟩

theorem lines_all {l : List Ln} (h : linesB l = true) : l.length ≤ 50 ∧ ∀ x ∈ l, x.ty.length + x.sn.length ≤ 300 := by
  simp only [linesB, Bool.and_eq_true, decide_eq_true_eq, List.all_eq_true] at h
  exact h

theorem out_sub (f : Fl) (l : List Ln) : (outB f l).Sublist l := List.filter_sublist
theorem apply_sub (f : Fl) (l : List Ln) : (applyB f l).Sublist l := by
  unfold applyB
  split
  · exact (List.drop_sublist _ _).trans (out_sub f l)
  · exact out_sub f l

theorem apply_keeps (f : Fl) (l : List Ln) : ∀ x ∈ applyB f l, keepB f x = true := fun x hx => by
  have : x ∈ outB f l := by
    unfold applyB at hx
    split at hx
    · exact List.mem_of_mem_drop hx
    · exact hx
  exact (List.mem_filter.1 this).2

theorem out_apply (f : Fl) (l : List Ln) : outB f (applyB f l) = applyB f l := List.filter_eq_self.2 (apply_keeps f l)

theorem apply_len (f : Fl) (l : List Ln) : f.lim ≤ 0 ∨ ((applyB f l).length : Int) ≤ f.lim := by
  by_cases h : 0 < f.lim
  · right
    unfold applyB
    split
    · rw [List.length_drop]; omega
    · rename_i hm
      simp only [moreB, h, decide_true, Bool.true_and, decide_eq_true_eq] at hm
      omega
  · left; omega

theorem more_apply (f : Fl) (l : List Ln) : moreB f (applyB f l) = false := by
  unfold moreB
  rw [out_apply]
  rcases apply_len f l with h | h
  · rw [decide_eq_false (by omega)]; rfl
  · rw [decide_eq_false (p := f.lim < _) (by omega)]; simp

theorem apply_twice (f : Fl) (l : List Ln) : applyB f (applyB f l) = applyB f l := by
  have e : applyB f (applyB f l) = if moreB f (applyB f l) = true then (outB f (applyB f l)).drop ((outB f (applyB f l)).length - f.lim.toNat) else outB f (applyB f l) := rfl
  rw [e, more_apply, out_apply]; simp

/-! Going along, for what is there in its order. -/
theorem sub_hit {α : Type} {x : α} {A L : List α} (h : (x :: A).Sublist (x :: L)) : A.Sublist L := by
  cases h with
  | cons _ h => exact (List.sublist_cons_self x A).trans h
  | cons_cons _ h => exact h
theorem sub_miss {α : Type} {x y : α} {A L : List α} (h : (x :: A).Sublist (y :: L)) (hn : x ≠ y) : (x :: A).Sublist L := by
  cases h with
  | cons _ h => exact h
  | cons_cons _ h => exact absurd rfl hn

end Go.Proofs.YtoimlfaiibadgaaDoor
