/- Matching, as the document has it, walked. (NOBIN: the arithmetic of numbers is not unfolded.) -/
import Derived.Test.YtoimlfaiibadgaaDoordW3
import Derived.Test.YtoimlfaiibadgaaDoordM3
set_option linter.unusedSimpArgs false
set_option linter.unusedVariables false
set_option linter.all false
set_option maxRecDepth 100000
namespace Go.Proofs.YtoimlfaiibadgaaDoor
open Go Go.Abs Go.Lib

theorem get_row {β : Type} (f : β → D) (l : List β) {k : Nat} {x : β} (h : l[k]? = some x) : (l.map f)[k]? = some (f x) := by simp [h]
theorem get_rowA {β : Type} (f : β → AV) (l : List β) {k : Nat} {x : β} (h : l[k]? = some x) : (l.map f)[k]? = some (f x) := by simp [h]
theorem splice_row {β : Type} (f : β → AV) (l : List β) {k : Nat} (h : k < l.length) (v : β) : List.take k (l.map f) ++ f v :: List.drop (k + 1) (l.map f) = (l.set k v).map f := by
  rw [List.map_set, List.set_eq_take_append_cons_drop, if_pos (by simpa using h)]

def bA (b : Bool) : AV := .d (.bool b)

theorem row_upd {n j : Nat} {l : List Bool} {N : Nat → Bool} (h : ∀ i, i ≤ n → l[i]? = some (if i < j then N i else false)) (hl : l.length = n + 1) (hj : j ≤ n) {v : Bool} (hv : v = N j) :
    ∀ i, i ≤ n → (l.set j v)[i]? = some (if i < j + 1 then N i else false) := by
  intro i hi
  by_cases e : j = i
  · subst e
    rw [List.getElem?_set_self (by omega), if_pos (by omega), hv]
  · rw [List.getElem?_set_ne e, h i hi]
    by_cases h2 : i < j
    · rw [if_pos h2, if_pos (by omega)]
    · rw [if_neg h2, if_neg (by omega)]

theorem row_skip {n : Nat} {l : List Bool} {N : Nat → Bool} (h : ∀ i, i ≤ n → l[i]? = some (if i < 0 then N i else false)) (h0 : N 0 = false) :
    ∀ i, i ≤ n → l[i]? = some (if i < 0 + 1 then N i else false) := by
  intro i hi
  rw [h i hi, if_neg (by omega)]
  by_cases h2 : i < 0 + 1
  · rw [if_pos h2]
    have : i = 0 := by omega
    rw [this, h0]
  · rw [if_neg h2]

theorem match_ev (lim : Nat) (H : AHeap) (p s : List (List UInt8)) (hp : p.length ≤ 100000) (hs : s.length ≤ 100000) : Ev X 64 lim [.d (.slice (p.map D.str)), .d (.slice (s.map D.str))] H (boolD (matchR p s)) H := by
  refine Fn.ev ?_
  refine Fn_of rfl (show code 64 = some c64 from rfl) rfl ?_; simp only [List.length_cons, List.length_nil, Nat.reduceAdd, Nat.reduceSub, List.reduceReplicate, List.cons_append, List.nil_append, reduceIte, Bool.false_eq_true]
  have w0 : IntKind.i64.wrap ((s.length : Int) + 1) = ((s.length + 1 : Nat) : Int) := wsucc (by omega)
  have c0 : (0 : Int) ≤ ((s.length + 1 : Nat) : Int) ∧ ((s.length + 1 : Nat) : Int) ≤ ((s.length + 1 : Nat) : Int) ∧ ((s.length + 1 : Nat) : Int) * ((1 : Nat) : Int) ≤ 281474976710656 ∧ ((s.length + 1 : Nat) : Int) ≤ 281474976710656 := by omega
  have c1 : (0 : Int) < ((s.length + 1 : Nat) : Int) := by omega
  have c2 : 0 + 1 ≤ s.length + 1 := by omega
  (repeat ((first | refine W_sq ?_ | refine W_bk ?_ | refine W_ret ?_ | refine W_exit ?_ | refine W_skip ?_ | (apply W_rg; focus (intro _; simp only [z0,srcC,AV.growable,AV.owned,evalC,evalR,runOps,stepOp,wanted,aop,evx,put,unflag,binV,nilEq,isShift,binStr,unV,AV.elems,AV.unf,AV.int?,AV.toD,AV.toDs,AV.mkAgg,AV.pures,AV.cells,D.cells,AV.isCell,D.isCell,readCells,readD,optInt,fill,splice,srcOf,z1,List.contains,List.elem,z2,z3,z4,z5,z6,z7,z8,z9,z10,z11,z12,z13,z14,z15,z16,z17,z18,z19,z20,z21,z22,Option.map,intD,boolD,bD,reduceIte,z23,z24,forgetT,Nat.reduceAdd,Nat.reduceLeDiff,Nat.reduceMul,Nat.reduceSub,Nat.reduceEqDiff,Nat.reduceBEq,Nat.reduceBNe,z25,z26,z27,z28,z29,z30,z31,z32,z33,z34,z35,z36,z37,z38,z39,z40,z41,z42,z43,z44,z45,z46,z47,z48,z49,z50,z51,z52,Int.reduceToNat,z53,z54,z55,z56,z57,z58,Int.reduceBEq,Int.reduceBNe,Int.reduceLT,Int.reduceLE,Int.reduceGT,Int.reduceGE,Int.reduceEq,z59,z60,z61,z62,List.reduceReplicate,z63,z64,z65,z66,z67,chunks, List.length_map, b_add, w0, c0, c1, c2, List.flatten_replicate_singleton, List.length_replicate]; (first | done | exact rfl))) | (refine W_cT ?_ ?_; focus (simp only [evx,List.contains,List.elem,z2,z3,AV.unf,reduceIte,z23,boolD]; done)) | (refine W_cF ?_ ?_; focus (simp only [evx,List.contains,List.elem,z2,z3,AV.unf,reduceIte,z23,boolD]; done))) <;> (try simp only [seqK,blockK,loopK,onlyK,forgetT,put,unflag,z4,z5,z2,z3,AV.unf,reduceIte,Nat.reduceEqDiff,Nat.reduceAdd])))
  refine W_lp (fun k st => ∃ (i r : Nat) (l : List Bool) (J : AHeap), i ≤ p.length ∧ k = p.length - i ∧ H.length ≤ r ∧ J[r]? = some (.cells (l.map bA)) ∧ l.length = s.length + 1 ∧ H.length ≤ J.length ∧ (∀ j, j ≤ s.length → l[j]? = some (tab s (p.take i) j)) ∧
    ∃ x : Nat → AV, st = ⟨[.d (.slice (p.map D.str)), .d (.slice (s.map D.str)), x 2, x 3, x 4, x 5, boolD false, .oslice r 0 (s.length + 1) (s.length + 1) 1, intD i, x 9, x 10, x 11, x 12, x 13, x 14, x 15], J⟩) ?_ _ _ ⟨0, H.length, true :: List.replicate s.length false, _, Nat.zero_le _, rfl, Nat.le_refl _, ?_, by simp, ?_, ?_, ex_st _ _ _ rfl⟩
  rotate_left
  · rw [get_last]
    rw [List.map_cons, List.map_replicate, List.replicate_succ]
    rfl
  · simp
  · intro j hj
    rw [List.take_zero]
    cases j with
    | zero => rfl
    | succ j => rw [List.getElem?_cons_succ, List.getElem?_replicate, if_pos (by omega)]; rfl
  rintro k _ ⟨i, r, l, J, hi, rfl, hr, hJ, hl, hJl, htab, x, rfl⟩
  by_cases q0 : i < p.length
  · have f0 : ((i : Int) < (p.length : Int)) = True := eq_true (by omega)
    have w1 : IntKind.i64.wrap ((i : Int) + 1) = ((i + 1 : Nat) : Int) := wsucc (by omega)
    obtain ⟨t, ht⟩ : ∃ t, p[i]? = some t := ⟨_, List.getElem?_eq_getElem q0⟩
    have hti := get_row D.str p ht
    have htk : p.take (i + 1) = p.take i ++ [t] := by rw [List.take_add_one, ht]; rfl
    have hrJ : r < J.length := (List.getElem?_eq_some_iff.1 hJ).1
    (repeat ((first | refine W_sq ?_ | refine W_bk ?_ | refine W_ret ?_ | refine W_exit ?_ | refine W_skip ?_ | (apply W_rg; focus (intro _; simp only [z0,srcC,AV.growable,AV.owned,evalC,evalR,runOps,stepOp,wanted,aop,evx,put,unflag,binV,nilEq,isShift,binStr,unV,AV.elems,AV.unf,AV.int?,AV.toD,AV.toDs,AV.mkAgg,AV.pures,AV.cells,D.cells,AV.isCell,D.isCell,readCells,readD,optInt,fill,splice,srcOf,z1,List.contains,List.elem,z2,z3,z4,z5,z6,z7,z8,z9,z10,z11,z12,z13,z14,z15,z16,z17,z18,z19,z20,z21,z22,Option.map,intD,boolD,bD,reduceIte,z23,z24,forgetT,Nat.reduceAdd,Nat.reduceLeDiff,Nat.reduceMul,Nat.reduceSub,Nat.reduceEqDiff,Nat.reduceBEq,Nat.reduceBNe,z25,z26,z27,z28,z29,z30,z31,z32,z33,z34,z35,z36,z37,z38,z39,z40,z41,z42,z43,z44,z45,z46,z47,z48,z49,z50,z51,z52,Int.reduceToNat,z53,z54,z55,z56,z57,z58,Int.reduceBEq,Int.reduceBNe,Int.reduceLT,Int.reduceLE,Int.reduceGT,Int.reduceGE,Int.reduceEq,z59,z60,z61,z62,List.reduceReplicate,z63,z64,z65,z66,z67,chunks, List.length_map, b_add, b_lss, f0, w0, c0, List.flatten_replicate_singleton]; (first | done | exact rfl))) | (refine W_cT ?_ ?_; focus (simp only [evx,List.contains,List.elem,z2,z3,AV.unf,reduceIte,z23,boolD]; done)) | (refine W_cF ?_ ?_; focus (simp only [evx,List.contains,List.elem,z2,z3,AV.unf,reduceIte,z23,boolD]; done))) <;> (try simp only [seqK,blockK,loopK,onlyK,forgetT,put,unflag,z4,z5,z2,z3,AV.unf,reduceIte,Nat.reduceEqDiff,Nat.reduceAdd])))
    refine W_lp (fun k st => ∃ (j : Nat) (l2 : List Bool) (K : AHeap), j ≤ s.length + 1 ∧ k = s.length + 1 - j ∧ K[J.length]? = some (.cells (l2.map bA)) ∧ K[r]? = some (.cells (l.map bA)) ∧ l2.length = s.length + 1 ∧ J.length < K.length ∧ (∀ q, q ≤ s.length → l2[q]? = some (if q < j then nxt s t (tab s (p.take i)) q else false)) ∧
      ∃ x : Nat → AV, st = ⟨[.d (.slice (p.map D.str)), .d (.slice (s.map D.str)), x 2, x 3, x 4, x 5, boolD false, .oslice r 0 (s.length + 1) (s.length + 1) 1, intD i, .oslice J.length 0 (s.length + 1) (s.length + 1) 1, intD j, x 11, x 12, x 13, x 14, x 15], K⟩) ?_ _ _ ⟨0, List.replicate (s.length + 1) false, _, Nat.zero_le _, rfl, ?_, ?_, by simp, ?_, ?_, ex_st _ _ _ rfl⟩
    rotate_left
    · rw [get_last, List.map_replicate]; rfl
    · rw [List.getElem?_append_left hrJ]; exact hJ
    · simp
    · intro q hq
      rw [List.getElem?_replicate, if_pos (by omega)]; simp
    rintro k _ ⟨j, l2, K, hj, rfl, hK, hKr, hl2, hKl, hN, x, rfl⟩
    by_cases q1 : j ≤ s.length
    · have f1 : ((j : Int) ≤ (s.length : Int)) = True := eq_true (by omega)
      have c3 : (0 : Int) ≤ (j : Int) ∧ (j : Int) < ((s.length + 1 : Nat) : Int) := by omega
      have c4 : J.length ≠ r := by omega
      have c5 : j + 1 ≤ s.length + 1 := by omega
      have c6 : H.length ≤ J.length := hJl
      have w2 : IntKind.i64.wrap ((j : Int) + 1) = ((j + 1 : Nat) : Int) := wsucc (by omega)
      have hpv : (l.map bA)[j]? = some (.d (.bool (tab s (p.take i) j))) := get_rowA bA l (htab j q1)
      have hsp : ∀ v, List.take j (l2.map bA) ++ AV.d (.bool v) :: List.drop (j + 1) (l2.map bA) = (l2.set j v).map bA := fun v => splice_row bA l2 (by omega) v
      have hset : ∀ o : AObj, (K.set J.length o)[J.length]? = some o := fun o => List.getElem?_set_self hKl
      have hset2 : ∀ o : AObj, (K.set J.length o)[r]? = some (.cells (l.map bA)) := fun o => by rw [List.getElem?_set_ne c4]; exact hKr
      have ini : ∀ q, (0 : Int) ≤ (q : Nat) := fun q => Int.natCast_nonneg q
      have fin : ∃ k' j', k' < s.length + 1 - j ∧ j' = j + 1 ∧ j' ≤ s.length + 1 ∧ k' = s.length + 1 - j' := ⟨_, j + 1, by omega, rfl, by omega, rfl⟩
      obtain ⟨k', j', u1, u2, u3, u4⟩ := fin
      cases hst : stR t with
      | true =>
        have f2 : (t == [42]) = true := hst
        by_cases q2 : tab s (p.take i) j = true
        · have hv : true = nxt s t (tab s (p.take i)) j := by
            cases j with
            | zero => rw [nxt, hst, q2]; rfl
            | succ j => rw [nxt, if_pos hst, q2]; rfl
          rw [q2] at hpv
          generalize tab s (p.take i) = prev at *
          (repeat ((first | refine W_sq ?_ | refine W_bk ?_ | refine W_ret ?_ | refine W_exit ?_ | refine W_skip ?_ | (apply W_rg; focus (intro _; simp only [z0,srcC,AV.growable,AV.owned,evalC,evalR,runOps,stepOp,wanted,aop,evx,put,unflag,binV,nilEq,isShift,binStr,unV,AV.elems,AV.unf,AV.int?,AV.toD,AV.toDs,AV.mkAgg,AV.pures,AV.cells,D.cells,AV.isCell,D.isCell,readCells,readD,optInt,fill,splice,srcOf,z1,List.contains,List.elem,z2,z3,z4,z5,z6,z7,z8,z9,z10,z11,z12,z13,z14,z15,z16,z17,z18,z19,z20,z21,z22,Option.map,intD,boolD,bD,reduceIte,z23,z24,forgetT,Nat.reduceAdd,Nat.reduceLeDiff,Nat.reduceMul,Nat.reduceSub,Nat.reduceEqDiff,Nat.reduceBEq,Nat.reduceBNe,z25,z26,z27,z28,z29,z30,z31,z32,z33,z34,z35,z36,z37,z38,z39,z40,z41,z42,z43,z44,z45,z46,z47,z48,z49,z50,z51,z52,Int.reduceToNat,z53,z54,z55,z56,z57,z58,Int.reduceBEq,Int.reduceBNe,Int.reduceLT,Int.reduceLE,Int.reduceGT,Int.reduceGE,Int.reduceEq,z59,z60,z61,z62,List.reduceReplicate,z63,z64,z65,z66,z67,chunks, List.length_map, b_add, b_leq, b_sub, b_gtr, f1, f2, hti, c3, c5, c6, hpv, hK, hKr, hl2, hsp, w2, Nat.mul_one]; (first | done | exact rfl))) | (refine W_cT ?_ ?_; focus (simp only [evx,List.contains,List.elem,z2,z3,AV.unf,reduceIte,z23,boolD]; done)) | (refine W_cF ?_ ?_; focus (simp only [evx,List.contains,List.elem,z2,z3,AV.unf,reduceIte,z23,boolD]; done))) <;> (try simp only [seqK,blockK,loopK,onlyK,forgetT,put,unflag,z4,z5,z2,z3,AV.unf,reduceIte,Nat.reduceEqDiff,Nat.reduceAdd])))
          exact ⟨k', u1, j', _, _, u3, u4, hset _, hset2 _, by simpa using hl2, by simpa using hKl, u2 ▸ row_upd hN hl2 q1 hv, u2 ▸ ex_st _ _ _ rfl⟩
        · have q2' : tab s (p.take i) j = false := by simpa using q2
          rw [q2'] at hpv
          cases j with
          | zero =>
            have hv : false = nxt s t (tab s (p.take i)) 0 := by rw [nxt, hst, q2']; rfl
            have hsp0 : ∀ v, AV.d (.bool v) :: List.drop 1 (l2.map bA) = (l2.set 0 v).map bA := hsp
            have c50 : 1 ≤ s.length + 1 := by omega
            have hpv0 : (l.map bA)[0]? = some (.d (.bool false)) := hpv
            generalize tab s (p.take i) = prev at *
            (repeat ((first | refine W_sq ?_ | refine W_bk ?_ | refine W_ret ?_ | refine W_exit ?_ | refine W_skip ?_ | (apply W_rg; focus (intro _; simp only [z0,srcC,AV.growable,AV.owned,evalC,evalR,runOps,stepOp,wanted,aop,evx,put,unflag,binV,nilEq,isShift,binStr,unV,AV.elems,AV.unf,AV.int?,AV.toD,AV.toDs,AV.mkAgg,AV.pures,AV.cells,D.cells,AV.isCell,D.isCell,readCells,readD,optInt,fill,splice,srcOf,z1,List.contains,List.elem,z2,z3,z4,z5,z6,z7,z8,z9,z10,z11,z12,z13,z14,z15,z16,z17,z18,z19,z20,z21,z22,Option.map,intD,boolD,bD,reduceIte,z23,z24,forgetT,Nat.reduceAdd,Nat.reduceLeDiff,Nat.reduceMul,Nat.reduceSub,Nat.reduceEqDiff,Nat.reduceBEq,Nat.reduceBNe,z25,z26,z27,z28,z29,z30,z31,z32,z33,z34,z35,z36,z37,z38,z39,z40,z41,z42,z43,z44,z45,z46,z47,z48,z49,z50,z51,z52,Int.reduceToNat,z53,z54,z55,z56,z57,z58,Int.reduceBEq,Int.reduceBNe,Int.reduceLT,Int.reduceLE,Int.reduceGT,Int.reduceGE,Int.reduceEq,z59,z60,z61,z62,List.reduceReplicate,z63,z64,z65,z66,z67,chunks, List.length_map, b_add, b_leq, b_sub, b_gtr, f1, f2, hti, c1, c3, c50, c6, hpv0, hK, hKr, hl2, hsp0, w2, Nat.mul_one, Int.lt_irrefl, Int.natCast_zero]; (first | done | exact rfl))) | (refine W_cT ?_ ?_; focus (simp only [evx,List.contains,List.elem,z2,z3,AV.unf,reduceIte,z23,boolD]; done)) | (refine W_cF ?_ ?_; focus (simp only [evx,List.contains,List.elem,z2,z3,AV.unf,reduceIte,z23,boolD]; done))) <;> (try simp only [seqK,blockK,loopK,onlyK,forgetT,put,unflag,z4,z5,z2,z3,AV.unf,reduceIte,Nat.reduceEqDiff,Nat.reduceAdd])))
            exact ⟨k', u1, j', _, _, u3, u4, hset _, hset2 _, by simpa using hl2, by simpa using hKl, u2 ▸ row_upd hN hl2 q1 hv, u2 ▸ ex_st _ _ _ rfl⟩
          | succ j =>
            have hv : nxt s t (tab s (p.take i)) j = nxt s t (tab s (p.take i)) (j + 1) := by rw [nxt, if_pos hst, q2']; rfl
            have hn : (l2.map bA)[j]? = some (.d (.bool (nxt s t (tab s (p.take i)) j))) := get_rowA bA l2 (by rw [hN j (by omega), if_pos (by omega)])
            have f3 : (((j + 1 : Nat) : Int) > 0) = True := eq_true (by omega)
            have w3 : IntKind.i64.wrap (((j + 1 : Nat) : Int) - 1) = (j : Int) := by rw [w64 (by omega) (by omega)]; omega
            have c7 : (0 : Int) ≤ (j : Int) ∧ (j : Int) < ((s.length + 1 : Nat) : Int) := by omega
            generalize nxt s t (tab s (p.take i)) = N at *
            generalize tab s (p.take i) = prev at *
            generalize N j = v at *
            (repeat ((first | refine W_sq ?_ | refine W_bk ?_ | refine W_ret ?_ | refine W_exit ?_ | refine W_skip ?_ | (apply W_rg; focus (intro _; simp only [z0,srcC,AV.growable,AV.owned,evalC,evalR,runOps,stepOp,wanted,aop,evx,put,unflag,binV,nilEq,isShift,binStr,unV,AV.elems,AV.unf,AV.int?,AV.toD,AV.toDs,AV.mkAgg,AV.pures,AV.cells,D.cells,AV.isCell,D.isCell,readCells,readD,optInt,fill,splice,srcOf,z1,List.contains,List.elem,z2,z3,z4,z5,z6,z7,z8,z9,z10,z11,z12,z13,z14,z15,z16,z17,z18,z19,z20,z21,z22,Option.map,intD,boolD,bD,reduceIte,z23,z24,forgetT,Nat.reduceAdd,Nat.reduceLeDiff,Nat.reduceMul,Nat.reduceSub,Nat.reduceEqDiff,Nat.reduceBEq,Nat.reduceBNe,z25,z26,z27,z28,z29,z30,z31,z32,z33,z34,z35,z36,z37,z38,z39,z40,z41,z42,z43,z44,z45,z46,z47,z48,z49,z50,z51,z52,Int.reduceToNat,z53,z54,z55,z56,z57,z58,Int.reduceBEq,Int.reduceBNe,Int.reduceLT,Int.reduceLE,Int.reduceGT,Int.reduceGE,Int.reduceEq,z59,z60,z61,z62,List.reduceReplicate,z63,z64,z65,z66,z67,chunks, List.length_map, b_add, b_leq, b_sub, b_gtr, f1, f2, f3, w3, c7, hn, hti, c3, c5, c6, hpv, hK, hKr, hl2, hsp, w2, Nat.mul_one]; (first | done | exact rfl))) | (refine W_cT ?_ ?_; focus (simp only [evx,List.contains,List.elem,z2,z3,AV.unf,reduceIte,z23,boolD]; done)) | (refine W_cF ?_ ?_; focus (simp only [evx,List.contains,List.elem,z2,z3,AV.unf,reduceIte,z23,boolD]; done))) <;> (try simp only [seqK,blockK,loopK,onlyK,forgetT,put,unflag,z4,z5,z2,z3,AV.unf,reduceIte,Nat.reduceEqDiff,Nat.reduceAdd])))
            exact ⟨k', u1, j', _, _, u3, u4, hset _, hset2 _, by simpa using hl2, by simpa using hKl, u2 ▸ row_upd hN hl2 q1 hv, u2 ▸ ex_st _ _ _ rfl⟩
      | false =>
        have f2 : (t == [42]) = false := hst
        cases j with
        | zero =>
          have hv : nxt s t (tab s (p.take i)) 0 = false := by rw [nxt, hst]; rfl
          generalize nxt s t (tab s (p.take i)) = N at *
          (repeat ((first | refine W_sq ?_ | refine W_bk ?_ | refine W_ret ?_ | refine W_exit ?_ | refine W_skip ?_ | (apply W_rg; focus (intro _; simp only [z0,srcC,AV.growable,AV.owned,evalC,evalR,runOps,stepOp,wanted,aop,evx,put,unflag,binV,nilEq,isShift,binStr,unV,AV.elems,AV.unf,AV.int?,AV.toD,AV.toDs,AV.mkAgg,AV.pures,AV.cells,D.cells,AV.isCell,D.isCell,readCells,readD,optInt,fill,splice,srcOf,z1,List.contains,List.elem,z2,z3,z4,z5,z6,z7,z8,z9,z10,z11,z12,z13,z14,z15,z16,z17,z18,z19,z20,z21,z22,Option.map,intD,boolD,bD,reduceIte,z23,z24,forgetT,Nat.reduceAdd,Nat.reduceLeDiff,Nat.reduceMul,Nat.reduceSub,Nat.reduceEqDiff,Nat.reduceBEq,Nat.reduceBNe,z25,z26,z27,z28,z29,z30,z31,z32,z33,z34,z35,z36,z37,z38,z39,z40,z41,z42,z43,z44,z45,z46,z47,z48,z49,z50,z51,z52,Int.reduceToNat,z53,z54,z55,z56,z57,z58,Int.reduceBEq,Int.reduceBNe,Int.reduceLT,Int.reduceLE,Int.reduceGT,Int.reduceGE,Int.reduceEq,z59,z60,z61,z62,List.reduceReplicate,z63,z64,z65,z66,z67,chunks, List.length_map, b_add, b_leq, b_sub, b_gtr, f1, f2, hti, c3, w2, Nat.mul_one, Int.lt_irrefl, Int.natCast_zero]; (first | done | exact rfl))) | (refine W_cT ?_ ?_; focus (simp only [evx,List.contains,List.elem,z2,z3,AV.unf,reduceIte,z23,boolD]; done)) | (refine W_cF ?_ ?_; focus (simp only [evx,List.contains,List.elem,z2,z3,AV.unf,reduceIte,z23,boolD]; done))) <;> (try simp only [seqK,blockK,loopK,onlyK,forgetT,put,unflag,z4,z5,z2,z3,AV.unf,reduceIte,Nat.reduceEqDiff,Nat.reduceAdd])))
          exact ⟨k', u1, j', _, _, u3, u4, hK, hKr, hl2, hKl, u2 ▸ row_skip hN hv, u2 ▸ ex_st _ _ _ rfl⟩
        | succ j =>
          obtain ⟨c, hc⟩ : ∃ c, s[j]? = some c := ⟨_, List.getElem?_eq_getElem (by omega)⟩
          have hci := get_row D.str s hc
          have hpv2 : (l.map bA)[j]? = some (.d (.bool (tab s (p.take i) j))) := get_rowA bA l (htab j (by omega))
          have f3 : (((j + 1 : Nat) : Int) > 0) = True := eq_true (by omega)
          have w3 : IntKind.i64.wrap (((j + 1 : Nat) : Int) - 1) = (j : Int) := by rw [w64 (by omega) (by omega)]; omega
          have c7 : (0 : Int) ≤ (j : Int) ∧ (j : Int) < ((s.length + 1 : Nat) : Int) := by omega
          have c8 : (0 : Int) ≤ (j : Int) := by omega
          have hv0 : nxt s t (tab s (p.take i)) (j + 1) = (tab s (p.take i) j && okR t c) := by rw [nxt, if_neg (by rw [hst]; simp), hc]
          generalize nxt s t (tab s (p.take i)) = N at *
          generalize tab s (p.take i) = prev at *
          cases hpj : prev j with
          | false =>
            rw [hpj] at hpv2 hv0
            (repeat ((first | refine W_sq ?_ | refine W_bk ?_ | refine W_ret ?_ | refine W_exit ?_ | refine W_skip ?_ | (apply W_rg; focus (intro _; simp only [z0,srcC,AV.growable,AV.owned,evalC,evalR,runOps,stepOp,wanted,aop,evx,put,unflag,binV,nilEq,isShift,binStr,unV,AV.elems,AV.unf,AV.int?,AV.toD,AV.toDs,AV.mkAgg,AV.pures,AV.cells,D.cells,AV.isCell,D.isCell,readCells,readD,optInt,fill,splice,srcOf,z1,List.contains,List.elem,z2,z3,z4,z5,z6,z7,z8,z9,z10,z11,z12,z13,z14,z15,z16,z17,z18,z19,z20,z21,z22,Option.map,intD,boolD,bD,reduceIte,z23,z24,forgetT,Nat.reduceAdd,Nat.reduceLeDiff,Nat.reduceMul,Nat.reduceSub,Nat.reduceEqDiff,Nat.reduceBEq,Nat.reduceBNe,z25,z26,z27,z28,z29,z30,z31,z32,z33,z34,z35,z36,z37,z38,z39,z40,z41,z42,z43,z44,z45,z46,z47,z48,z49,z50,z51,z52,Int.reduceToNat,z53,z54,z55,z56,z57,z58,Int.reduceBEq,Int.reduceBNe,Int.reduceLT,Int.reduceLE,Int.reduceGT,Int.reduceGE,Int.reduceEq,z59,z60,z61,z62,List.reduceReplicate,z63,z64,z65,z66,z67,chunks, List.length_map, b_add, b_leq, b_sub, b_gtr, f1, f2, f3, w3, c7, c8, hpv2, hti, hci, c3, c5, c6, hK, hKr, hl2, hsp, w2, Nat.mul_one]; (first | done | exact rfl))) | (refine W_cT ?_ ?_; focus (simp only [evx,List.contains,List.elem,z2,z3,AV.unf,reduceIte,z23,boolD]; done)) | (refine W_cF ?_ ?_; focus (simp only [evx,List.contains,List.elem,z2,z3,AV.unf,reduceIte,z23,boolD]; done))) <;> (try simp only [seqK,blockK,loopK,onlyK,forgetT,put,unflag,z4,z5,z2,z3,AV.unf,reduceIte,Nat.reduceEqDiff,Nat.reduceAdd])))
            exact ⟨k', u1, j', _, _, u3, u4, hset _, hset2 _, by simpa using hl2, by simpa using hKl, u2 ▸ row_upd hN hl2 q1 hv0.symm, u2 ▸ ex_st _ _ _ rfl⟩
          | true =>
            rw [hpj] at hpv2 hv0
            cases ha : (t == [63]) with
            | true =>
              have hv : true = N (j + 1) := by rw [hv0]; unfold okR; rw [ha]; rfl
              (repeat ((first | refine W_sq ?_ | refine W_bk ?_ | refine W_ret ?_ | refine W_exit ?_ | refine W_skip ?_ | (apply W_rg; focus (intro _; simp only [z0,srcC,AV.growable,AV.owned,evalC,evalR,runOps,stepOp,wanted,aop,evx,put,unflag,binV,nilEq,isShift,binStr,unV,AV.elems,AV.unf,AV.int?,AV.toD,AV.toDs,AV.mkAgg,AV.pures,AV.cells,D.cells,AV.isCell,D.isCell,readCells,readD,optInt,fill,splice,srcOf,z1,List.contains,List.elem,z2,z3,z4,z5,z6,z7,z8,z9,z10,z11,z12,z13,z14,z15,z16,z17,z18,z19,z20,z21,z22,Option.map,intD,boolD,bD,reduceIte,z23,z24,forgetT,Nat.reduceAdd,Nat.reduceLeDiff,Nat.reduceMul,Nat.reduceSub,Nat.reduceEqDiff,Nat.reduceBEq,Nat.reduceBNe,z25,z26,z27,z28,z29,z30,z31,z32,z33,z34,z35,z36,z37,z38,z39,z40,z41,z42,z43,z44,z45,z46,z47,z48,z49,z50,z51,z52,Int.reduceToNat,z53,z54,z55,z56,z57,z58,Int.reduceBEq,Int.reduceBNe,Int.reduceLT,Int.reduceLE,Int.reduceGT,Int.reduceGE,Int.reduceEq,z59,z60,z61,z62,List.reduceReplicate,z63,z64,z65,z66,z67,chunks, List.length_map, b_add, b_leq, b_sub, b_gtr, f1, f2, f3, w3, c7, c8, hpv2, hti, hci, ha, c3, c5, c6, hK, hKr, hl2, hsp, w2, Nat.mul_one]; (first | done | exact rfl))) | (refine W_cT ?_ ?_; focus (simp only [evx,List.contains,List.elem,z2,z3,AV.unf,reduceIte,z23,boolD]; done)) | (refine W_cF ?_ ?_; focus (simp only [evx,List.contains,List.elem,z2,z3,AV.unf,reduceIte,z23,boolD]; done))) <;> (try simp only [seqK,blockK,loopK,onlyK,forgetT,put,unflag,z4,z5,z2,z3,AV.unf,reduceIte,Nat.reduceEqDiff,Nat.reduceAdd])))
              exact ⟨k', u1, j', _, _, u3, u4, hset _, hset2 _, by simpa using hl2, by simpa using hKl, u2 ▸ row_upd hN hl2 q1 hv, u2 ▸ ex_st _ _ _ rfl⟩
            | false =>
              have hv : (t == c) = N (j + 1) := by rw [hv0]; unfold okR; rw [ha]; rfl
              (repeat ((first | refine W_sq ?_ | refine W_bk ?_ | refine W_ret ?_ | refine W_exit ?_ | refine W_skip ?_ | (apply W_rg; focus (intro _; simp only [z0,srcC,AV.growable,AV.owned,evalC,evalR,runOps,stepOp,wanted,aop,evx,put,unflag,binV,nilEq,isShift,binStr,unV,AV.elems,AV.unf,AV.int?,AV.toD,AV.toDs,AV.mkAgg,AV.pures,AV.cells,D.cells,AV.isCell,D.isCell,readCells,readD,optInt,fill,splice,srcOf,z1,List.contains,List.elem,z2,z3,z4,z5,z6,z7,z8,z9,z10,z11,z12,z13,z14,z15,z16,z17,z18,z19,z20,z21,z22,Option.map,intD,boolD,bD,reduceIte,z23,z24,forgetT,Nat.reduceAdd,Nat.reduceLeDiff,Nat.reduceMul,Nat.reduceSub,Nat.reduceEqDiff,Nat.reduceBEq,Nat.reduceBNe,z25,z26,z27,z28,z29,z30,z31,z32,z33,z34,z35,z36,z37,z38,z39,z40,z41,z42,z43,z44,z45,z46,z47,z48,z49,z50,z51,z52,Int.reduceToNat,z53,z54,z55,z56,z57,z58,Int.reduceBEq,Int.reduceBNe,Int.reduceLT,Int.reduceLE,Int.reduceGT,Int.reduceGE,Int.reduceEq,z59,z60,z61,z62,List.reduceReplicate,z63,z64,z65,z66,z67,chunks, List.length_map, b_add, b_leq, b_sub, b_gtr, f1, f2, f3, w3, c7, c8, hpv2, hti, hci, ha, c3, c5, c6, hK, hKr, hl2, hsp, w2, Nat.mul_one]; (first | done | exact rfl))) | (refine W_cT ?_ ?_; focus (simp only [evx,List.contains,List.elem,z2,z3,AV.unf,reduceIte,z23,boolD]; done)) | (refine W_cF ?_ ?_; focus (simp only [evx,List.contains,List.elem,z2,z3,AV.unf,reduceIte,z23,boolD]; done))) <;> (try simp only [seqK,blockK,loopK,onlyK,forgetT,put,unflag,z4,z5,z2,z3,AV.unf,reduceIte,Nat.reduceEqDiff,Nat.reduceAdd])))
              exact ⟨k', u1, j', _, _, u3, u4, hset _, hset2 _, by simpa using hl2, by simpa using hKl, u2 ▸ row_upd hN hl2 q1 hv, u2 ▸ ex_st _ _ _ rfl⟩
    · obtain rfl : j = s.length + 1 := by omega
      have f1 : (((s.length + 1 : Nat) : Int) ≤ (s.length : Int)) = False := eq_false (by omega)
      (repeat ((first | refine W_sq ?_ | refine W_bk ?_ | refine W_ret ?_ | refine W_exit ?_ | refine W_skip ?_ | (apply W_rg; focus (intro _; simp only [z0,srcC,AV.growable,AV.owned,evalC,evalR,runOps,stepOp,wanted,aop,evx,put,unflag,binV,nilEq,isShift,binStr,unV,AV.elems,AV.unf,AV.int?,AV.toD,AV.toDs,AV.mkAgg,AV.pures,AV.cells,D.cells,AV.isCell,D.isCell,readCells,readD,optInt,fill,splice,srcOf,z1,List.contains,List.elem,z2,z3,z4,z5,z6,z7,z8,z9,z10,z11,z12,z13,z14,z15,z16,z17,z18,z19,z20,z21,z22,Option.map,intD,boolD,bD,reduceIte,z23,z24,forgetT,Nat.reduceAdd,Nat.reduceLeDiff,Nat.reduceMul,Nat.reduceSub,Nat.reduceEqDiff,Nat.reduceBEq,Nat.reduceBNe,z25,z26,z27,z28,z29,z30,z31,z32,z33,z34,z35,z36,z37,z38,z39,z40,z41,z42,z43,z44,z45,z46,z47,z48,z49,z50,z51,z52,Int.reduceToNat,z53,z54,z55,z56,z57,z58,Int.reduceBEq,Int.reduceBNe,Int.reduceLT,Int.reduceLE,Int.reduceGT,Int.reduceGE,Int.reduceEq,z59,z60,z61,z62,List.reduceReplicate,z63,z64,z65,z66,z67,chunks, List.length_map, b_leq, b_add, f1, w1]; (first | done | exact rfl))) | (refine W_cT ?_ ?_; focus (simp only [evx,List.contains,List.elem,z2,z3,AV.unf,reduceIte,z23,boolD]; done)) | (refine W_cF ?_ ?_; focus (simp only [evx,List.contains,List.elem,z2,z3,AV.unf,reduceIte,z23,boolD]; done))) <;> (try simp only [seqK,blockK,loopK,onlyK,forgetT,put,unflag,z4,z5,z2,z3,AV.unf,reduceIte,Nat.reduceEqDiff,Nat.reduceAdd])))
      refine ⟨p.length - (i + 1), by omega, i + 1, J.length, l2, K, by omega, rfl, hJl, hK, hl2, by omega, ?_, ex_st _ _ _ rfl⟩
      intro q hq
      rw [hN q hq, if_pos (by omega), htk, tab_snoc]
  · obtain rfl : i = p.length := by omega
    have f0 : ((p.length : Int) < (p.length : Int)) = False := eq_false (by omega)
    have c3 : (0 : Int) ≤ (s.length : Int) ∧ (s.length : Int) < ((s.length + 1 : Nat) : Int) := by omega
    have ht := htab s.length (Nat.le_refl _)
    rw [List.take_length] at ht
    have hpv : (l.map bA)[s.length]? = some (.d (.bool (matchR p s))) := get_rowA bA l ht
    generalize matchR p s = v at hpv
    (repeat ((first | refine W_sq ?_ | refine W_bk ?_ | refine W_ret ?_ | refine W_exit ?_ | refine W_skip ?_ | (apply W_rg; focus (intro _; simp only [z0,srcC,AV.growable,AV.owned,evalC,evalR,runOps,stepOp,wanted,aop,evx,put,unflag,binV,nilEq,isShift,binStr,unV,AV.elems,AV.unf,AV.int?,AV.toD,AV.toDs,AV.mkAgg,AV.pures,AV.cells,D.cells,AV.isCell,D.isCell,readCells,readD,optInt,fill,splice,srcOf,z1,List.contains,List.elem,z2,z3,z4,z5,z6,z7,z8,z9,z10,z11,z12,z13,z14,z15,z16,z17,z18,z19,z20,z21,z22,Option.map,intD,boolD,bD,reduceIte,z23,z24,forgetT,Nat.reduceAdd,Nat.reduceLeDiff,Nat.reduceMul,Nat.reduceSub,Nat.reduceEqDiff,Nat.reduceBEq,Nat.reduceBNe,z25,z26,z27,z28,z29,z30,z31,z32,z33,z34,z35,z36,z37,z38,z39,z40,z41,z42,z43,z44,z45,z46,z47,z48,z49,z50,z51,z52,Int.reduceToNat,z53,z54,z55,z56,z57,z58,Int.reduceBEq,Int.reduceBNe,Int.reduceLT,Int.reduceLE,Int.reduceGT,Int.reduceGE,Int.reduceEq,z59,z60,z61,z62,List.reduceReplicate,z63,z64,z65,z66,z67,chunks, List.length_map, b_lss, f0, c3, hJ, hpv, Nat.mul_one]; (first | done | exact rfl))) | (refine W_cT ?_ ?_; focus (simp only [evx,List.contains,List.elem,z2,z3,AV.unf,reduceIte,z23,boolD]; done)) | (refine W_cF ?_ ?_; focus (simp only [evx,List.contains,List.elem,z2,z3,AV.unf,reduceIte,z23,boolD]; done))) <;> (try simp only [seqK,blockK,loopK,onlyK,forgetT,put,unflag,z4,z5,z2,z3,AV.unf,reduceIte,Nat.reduceEqDiff,Nat.reduceAdd])))
    exact ans_cut rfl rfl ⟨rfl, rfl⟩

end Go.Proofs.YtoimlfaiibadgaaDoor
