/- Patterns without stars: rows alone. -/
import Derived.Test.YtcmbkehhpfbhiaaDoorcM5
import Derived.Lib.Bytealg
set_option linter.unusedSimpArgs false
set_option linter.unusedVariables false
set_option linter.all false
namespace Go.Proofs.YtcmbkehhpfbhiaaDoor
open Go Go.Lib

/-- A byte that is no star. -/
def plain1 (b : UInt8) : Bool := ((b.toNat : Int) != 42) && ((b.toNat : Int) != 63)
def plainB (p : List UInt8) : Bool := p.all plain1

theorem int_neq (b c : UInt8) : ((b.toNat : Int) != (c.toNat : Int)) = !(b == c) := by
  by_cases h : b = c
  · subst h; simp
  · have h1 : (b.toNat : Int) ≠ (c.toNat : Int) := fun e => h (UInt8.toNat_inj.1 (by omega))
    have h2 : (b == c) = false := by simpa using h
    rw [h2]; simpa using h1

theorem index_neg (c : UInt8) : ∀ l : List UInt8, decide (indexByte l c < 0) = l.all fun b => (b.toNat : Int) != (c.toNat : Int)
  | [] => rfl
  | b :: l => by
    have ih := index_neg c l
    have hg := indexByte_ge l c
    have e : indexByte (b :: l) c = if b == c then 0 else if indexByte l c == -1 then -1 else indexByte l c + 1 := rfl
    rw [List.all_cons, int_neq, ← ih, e]
    cases hb : (b == c) with
    | true => simp
    | false =>
      simp only [Bool.false_eq_true, if_false, Bool.not_false, Bool.true_and]
      split
      · rename_i h
        have : indexByte l c = -1 := by simpa using h
        simp [this]
      · rename_i h
        have h1 : indexByte l c ≠ -1 := by simpa using h
        rw [decide_eq_decide]; omega

theorem index_plain (p : List UInt8) : (decide (indexByte p 42 < 0) && decide (indexByte p 63 < 0)) = plainB p := by
  rw [index_neg, index_neg]
  unfold plainB
  induction p with
  | nil => rfl
  | cons b l ih =>
    simp only [List.all_cons]
    rw [← ih]
    have e1 : (((42 : UInt8).toNat : Nat) : Int) = 42 := rfl
    have e2 : (((63 : UInt8).toNat : Nat) : Int) = 63 := rfl
    simp only [plain1, e1, e2]
    generalize ((b.toNat : Int) != 42) = x
    generalize ((b.toNat : Int) != 63) = y
    generalize (l.all fun b => (b.toNat : Int) != 42) = z
    generalize (l.all fun b => (b.toNat : Int) != 63) = u
    cases x <;> cases y <;> cases z <;> cases u <;> rfl

theorem plain_step {p : List UInt8} {i : Nat} {b : UInt8} (h : p[i]? = some b) : plainB (p.take (i + 1)) = (plainB (p.take i) && plain1 b) := by
  unfold plainB
  rw [List.take_add_one, h, List.all_append]
  simp

theorem plainB_false {p : List UInt8} {i : Nat} {b : UInt8} (h : p[i]? = some b) (hb : plain1 b = false) : plainB p = false := by
  cases e : plainB p with
  | false => rfl
  | true => rw [List.all_eq_true.1 e b (List.mem_of_getElem? h)] at hb; cases hb

theorem plain_all {p : List UInt8} (h : plainB p = true) : ∀ b ∈ p, b ≠ 42 ∧ b ≠ 63 := fun b hb => by
  have := List.all_eq_true.1 h b hb
  simp only [plain1, Bool.and_eq_true] at this
  refine ⟨fun e => ?_, fun e => ?_⟩ <;> subst e
  · exact absurd this.1 (by decide)
  · exact absurd this.2 (by decide)

theorem mt_same : ∀ (q u : List (List UInt8)), (∀ t ∈ q, t ≠ [42] ∧ t ≠ [63]) → (Mt stR okR q u ↔ q = u)
  | [], u, _ => by rw [Mt.nil_iff]; exact eq_comm
  | t :: q, u, h => by
    have ht := h t (by simp)
    have hs : stR t = false := by simpa [stR] using ht.1
    have ih := fun u => mt_same q u fun t ht => h t (by simp [ht])
    constructor
    · intro k
      cases k with
      | @one _ c _ _ h1 h2 h3 =>
        rw [(ih _).1 h3]
        have : t = c := by
          simp only [okR, Bool.or_eq_true, beq_iff_eq] at h2
          exact h2.resolve_left ht.2
        rw [this]
      | star w h1 h3 => rw [hs] at h1; cases h1
    · intro k
      subst k
      exact .one hs (by simp [okR]) ((ih q).2 rfl)

theorem plain_match {p : List UInt8} (h : plainB p = true) (s : List UInt8) : match1 (lt1 p) (lt1 s) = (p == s) := by
  rw [match_same, Bool.eq_iff_iff, matchR_iff, mt_same (lets p) (lets s) fun t ht => ?_, beq_iff_eq]
  · constructor
    · intro e; rw [← lets_flat p, e, lets_flat]
    · intro e; rw [e]
  · have mem : ∀ b ∈ t, b ∈ p := fun b hb => by
      rw [← lets_flat p]; exact List.mem_flatten.2 ⟨t, ht, hb⟩
    refine ⟨fun e => ?_, fun e => ?_⟩ <;> subst e
    · exact (plain_all h 42 (mem 42 (by simp))).1 rfl
    · exact (plain_all h 63 (mem 63 (by simp))).2 rfl

end Go.Proofs.YtcmbkehhpfbhiaaDoor
