/- Whose turn it is, walked. -/
import Derived.Test.YtiololafeihhmaabW2
set_option linter.unusedSimpArgs false
set_option linter.unusedVariables false
set_option linter.all false
namespace Go.Proofs.Ytiololafeihhmaa
open Go Go.Abs

theorem Keeps.high {b n : Nat} {H K : AHeap} (k : Keeps b n H K) {r : Nat} (o : AObj) (hr : H.length ≤ r) : Keeps b n H (K.set r o) :=
  ⟨by simpa using k.len, fun q h1 h2 => by rw [List.getElem?_set_ne (by omega)]; exact k.out q h1 h2⟩

theorem Keeps.more {b n : Nat} {H K : AHeap} (k : Keeps b n H K) (X : AHeap) : Keeps b n H (K ++ X) :=
  ⟨by have := k.len; simp; omega, fun q h1 h2 => by rw [List.getElem?_append_left (by have := k.len; omega)]; exact k.out q h1 h2⟩

theorem Keeps.mid {b n : Nat} {H K : AHeap} (k : Keeps b n H K) {r : Nat} (o : AObj) (h1 : b ≤ r) (h2 : r ≤ b + 3 * n) : Keeps b n H (K.set r o) :=
  ⟨by simpa using k.len, fun q h3 h4 => by rw [List.getElem?_set_ne (by omega)]; exact k.out q h3 h4⟩

abbrev noT : AV := .tuple [.d (.agg [.int .i64 0, .slice []]), boolD false]
abbrev turnV (j : Nat) (f : List UInt8) : AV := .tuple [.d (.agg [.int .i64 j, bD f]), boolD true]

theorem next_no (lim : Nat) (H : AHeap) (b : Nat) (B : Bd) (h : At H b B) (hB : B.total = 0) (hl : lim ≤ b) : Go.Abs.Fn X 13 lim [.ptr b 0] H fun v H' => v = noT ∧ At H' b B ∧ Keeps b B.ps.length H H' := by
  refine Fn_of rfl (show code 13 = some c13 from rfl) rfl ?_; simp only [List.length_cons, List.length_nil, Nat.reduceAdd, Nat.reduceSub, List.reduceReplicate, List.cons_append, List.nil_append, reduceIte, Bool.false_eq_true]
  have hA := h.app [.cells [intD 0, .fslice []]]
  have hA1 := hA.board
  simp only [bdC, hB] at hA1
  have hlt := h.lt
  have h1 : lim ≤ H.length := by omega
  (repeat ((first | refine W_sq ?_ | refine W_bk ?_ | refine W_ret ?_ | refine W_exit ?_ | refine W_skip ?_ | (apply W_rg; focus (intro _; simp only [z0, srcC, AV.growable, AV.owned, evalC, evalR, runOps, stepOp, wanted, aop, evx, put, unflag, binV, nilEq, isShift, binInt, binStr, unV, AV.elems, AV.unf, AV.int?, AV.toD, AV.toDs, AV.mkAgg, AV.pures, AV.cells, D.cells, AV.isCell, D.isCell, readCells, readD, optInt, fill, splice, srcOf, z1, List.contains, List.elem, z2, z3, z4, z5, z6, z7, z8, z9, z10, z11, z12, z13, z14, z15, z16, z17, z18, z19, z20, z21, z22, Option.map, intD, boolD, bD, reduceIte, z23, z24, forgetT, Nat.reduceAdd, Nat.reduceLeDiff, Nat.reduceMul, Nat.reduceSub, Nat.reduceEqDiff, Nat.reduceBEq, Nat.reduceBNe, z25, z26, z27, z28, z29, z30, z31, z32, z33, z34, z35, z36, z37, z38, z39, z40, z41, z42, z43, z44, z45, z46, z47, z48, z49, z50, z51, z52, Int.reduceToNat, z53, z54, z55, z56, z57, z58, Int.reduceBEq, Int.reduceBNe, Int.reduceLT, Int.reduceLE, Int.reduceGT, Int.reduceGE, Int.reduceEq, z59, z60, z61, z62, List.reduceReplicate, z63, z64, z65, z66, z67, chunks, hA1, h1]; (first | done | exact rfl))) | (refine W_cT ?_ ?_; focus (simp only [evx, List.contains, List.elem, List.getD_cons_succ, List.getD_cons_zero, AV.unf, reduceIte, Bool.false_eq_true, boolD]; done)) | (refine W_cF ?_ ?_; focus (simp only [evx, List.contains, List.elem, List.getD_cons_succ, List.getD_cons_zero, AV.unf, reduceIte, Bool.false_eq_true, boolD]; done))) <;> (try simp only [seqK, blockK, loopK, onlyK, forgetT, put, unflag, List.set_cons_succ, List.set_cons_zero, List.getD_cons_succ, List.getD_cons_zero, AV.unf, reduceIte, Nat.reduceEqDiff, Nat.reduceAdd])))
  refine ans_keep (vs := [.d (.agg [.int .i64 0, .slice []]), boolD false]) ?_ ⟨rfl, h.app _, Keeps.app _ _ _ _⟩
  simp [resV, readCells, AV.mkAgg, AV.pures, AV.unf]

theorem next_some (lim : Nat) (H : AHeap) (b : Nat) (B : Bd) (t : Nat) (p : Pe) (f : List UInt8) (r : List (List UInt8)) (h : At H b B) (hB : Bok B) (hl : lim ≤ b) (ht : t < B.ps.length)
    (hp : B.ps[(B.next + t) % B.ps.length]? = some p) (hq : p.1 = f :: r) (hs : ∀ s, s < t → qAt B ((B.next + s) % B.ps.length) = []) :
    Go.Abs.Fn X 13 lim [.ptr b 0] H fun v H' => v = turnV ((B.next + t) % B.ps.length) f ∧ At H' b (takeB B ((B.next + t) % B.ps.length) p) ∧ Keeps b B.ps.length H H' := by
  refine Fn_of rfl (show code 13 = some c13 from rfl) rfl ?_; simp only [List.length_cons, List.length_nil, Nat.reduceAdd, Nat.reduceSub, List.reduceReplicate, List.cons_append, List.nil_append, reduceIte, Bool.false_eq_true]
  have hlt := h.lt
  have hn1 := hB.n1
  have hn2 := hB.n2
  have hr2 := hB.r2
  have hnx := hB.nx
  have htot := hB.tot1
  have ht0 : (B.total = 0) = False := eq_false (by
    have h1 := hB.tot
    have h2 := sumQ_get _ _ _ hp
    rw [hq] at h2; simp at h2; omega)
  have hA := h.app [.cells [intD 0, .fslice []]]
  have hA1 := hA.board
  have h1 : lim ≤ H.length := by omega
  have ht0' : (B.total == 0) = false := by simpa using ht0
  (iterate 9 ((first | refine W_sq ?_ | refine W_bk ?_ | refine W_ret ?_ | refine W_exit ?_ | refine W_skip ?_ | (apply W_rg; focus (intro _; simp only [z0, srcC, AV.growable, AV.owned, evalC, evalR, runOps, stepOp, wanted, aop, evx, put, unflag, binV, nilEq, isShift, binInt, binStr, unV, AV.elems, AV.unf, AV.int?, AV.toD, AV.toDs, AV.mkAgg, AV.pures, AV.cells, D.cells, AV.isCell, D.isCell, readCells, readD, optInt, fill, splice, srcOf, z1, List.contains, List.elem, z2, z3, z4, z5, z6, z7, z8, z9, z10, z11, z12, z13, z14, z15, z16, z17, z18, z19, z20, z21, z22, Option.map, intD, boolD, bD, reduceIte, z23, z24, forgetT, Nat.reduceAdd, Nat.reduceLeDiff, Nat.reduceMul, Nat.reduceSub, Nat.reduceEqDiff, Nat.reduceBEq, Nat.reduceBNe, z25, z26, z27, z28, z29, z30, z31, z32, z33, z34, z35, z36, z37, z38, z39, z40, z41, z42, z43, z44, z45, z46, z47, z48, z49, z50, z51, z52, Int.reduceToNat, z53, z54, z55, z56, z57, z58, Int.reduceBEq, Int.reduceBNe, Int.reduceLT, Int.reduceLE, Int.reduceGT, Int.reduceGE, Int.reduceEq, z59, z60, z61, z62, List.reduceReplicate, z63, z64, z65, z66, z67, chunks, hA1, h1, ht0']; (first | done | exact rfl))) | (refine W_cT ?_ ?_; focus (simp only [evx, List.contains, List.elem, List.getD_cons_succ, List.getD_cons_zero, AV.unf, reduceIte, Bool.false_eq_true, boolD]; done)) | (refine W_cF ?_ ?_; focus (simp only [evx, List.contains, List.elem, List.getD_cons_succ, List.getD_cons_zero, AV.unf, reduceIte, Bool.false_eq_true, boolD]; done))) <;> (try simp only [seqK, blockK, loopK, onlyK, forgetT, put, unflag, List.set_cons_succ, List.set_cons_zero, List.getD_cons_succ, List.getD_cons_zero, AV.unf, reduceIte, Nat.reduceEqDiff, Nat.reduceAdd])))
  refine W_lp (fun k st => ∃ (s : Nat) (K : AHeap), s ≤ t ∧ k = t - s ∧ At K b { B with next := (B.next + s) % B.ps.length } ∧ Keeps b B.ps.length H K ∧ K.length = H.length + 1 ∧ K[H.length]? = some (.cells [intD 0, .fslice []]) ∧ ∃ x : Nat → AV, st = ⟨[.ptr b 0, x 1, x 2, .ptr H.length 0, boolD false, x 5, x 6, x 7, x 8], K⟩) ?_ _ _ ⟨0, _, Nat.zero_le _, rfl, ?_, Keeps.app _ _ _ _, by simp, by simp, ex_st _ _ _ rfl⟩
  rotate_left
  · rw [Nat.add_zero, Nat.mod_eq_of_lt hnx]; exact hA
  rintro k _ ⟨s, K, hst, rfl, hK, hkp, hkl, hkg, x, rfl⟩
  have hmod : (B.next + s) % B.ps.length < B.ps.length := Nat.mod_lt _ (by omega)
  obtain ⟨p', hp'⟩ : ∃ p', B.ps[(B.next + s) % B.ps.length]? = some p' := ⟨_, List.getElem?_eq_getElem hmod⟩
  have hK1 := hK.board
  have hK2 := hK.row
  have hK3 := hK.peer _ _ hp'
  have hrow := row_get b B.ps.length hmod
  have g1 : ((((B.next + s) % B.ps.length : Nat) : Int) < (B.ps.length : Int)) = True := eq_true (by omega)
  simp only [bdC] at hK1 hK2
  (repeat ((first | refine W_sq ?_ | refine W_bk ?_ | refine W_ret ?_ | refine W_exit ?_ | refine W_skip ?_ | (apply W_rg; focus (intro _; simp only [z0, srcC, AV.growable, AV.owned, evalC, evalR, runOps, stepOp, wanted, aop, evx, put, unflag, binV, nilEq, isShift, binInt, binStr, unV, AV.elems, AV.unf, AV.int?, AV.toD, AV.toDs, AV.mkAgg, AV.pures, AV.cells, D.cells, AV.isCell, D.isCell, readCells, readD, optInt, fill, splice, srcOf, z1, List.contains, List.elem, z2, z3, z4, z5, z6, z7, z8, z9, z10, z11, z12, z13, z14, z15, z16, z17, z18, z19, z20, z21, z22, Option.map, intD, boolD, bD, reduceIte, z23, z24, forgetT, Nat.reduceAdd, Nat.reduceLeDiff, Nat.reduceMul, Nat.reduceSub, Nat.reduceEqDiff, Nat.reduceBEq, Nat.reduceBNe, z25, z26, z27, z28, z29, z30, z31, z32, z33, z34, z35, z36, z37, z38, z39, z40, z41, z42, z43, z44, z45, z46, z47, z48, z49, z50, z51, z52, Int.reduceToNat, z53, z54, z55, z56, z57, z58, Int.reduceBEq, Int.reduceBNe, Int.reduceLT, Int.reduceLE, Int.reduceGT, Int.reduceGE, Int.reduceEq, z59, z60, z61, z62, List.reduceReplicate, z63, z64, z65, z66, z67, chunks]; (first | done | exact rfl))) | (refine W_cT ?_ ?_; focus (simp only [evx, List.contains, List.elem, List.getD_cons_succ, List.getD_cons_zero, AV.unf, reduceIte, Bool.false_eq_true, boolD]; done)) | (refine W_cF ?_ ?_; focus (simp only [evx, List.contains, List.elem, List.getD_cons_succ, List.getD_cons_zero, AV.unf, reduceIte, Bool.false_eq_true, boolD]; done))) <;> (try simp only [seqK, blockK, loopK, onlyK, forgetT, put, unflag, List.set_cons_succ, List.set_cons_zero, List.getD_cons_succ, List.getD_cons_zero, AV.unf, reduceIte, Nat.reduceEqDiff, Nat.reduceAdd])))
  refine W_region ?_; apply WO_take 10; (focus (intro _; simp only [z0, srcC, AV.growable, AV.owned, evalC, evalR, runOps, stepOp, wanted, aop, evx, put, unflag, binV, nilEq, isShift, binInt, binStr, unV, AV.elems, AV.unf, AV.int?, AV.toD, AV.toDs, AV.mkAgg, AV.pures, AV.cells, D.cells, AV.isCell, D.isCell, readCells, readD, optInt, fill, splice, srcOf, z1, List.contains, List.elem, z2, z3, z4, z5, z6, z7, z8, z9, z10, z11, z12, z13, z14, z15, z16, z17, z18, z19, z20, z21, z22, Option.map, intD, boolD, bD, reduceIte, z23, z24, forgetT, Nat.reduceAdd, Nat.reduceLeDiff, Nat.reduceMul, Nat.reduceSub, Nat.reduceEqDiff, Nat.reduceBEq, Nat.reduceBNe, z25, z26, z27, z28, z29, z30, z31, z32, z33, z34, z35, z36, z37, z38, z39, z40, z41, z42, z43, z44, z45, z46, z47, z48, z49, z50, z51, z52, Int.reduceToNat, z53, z54, z55, z56, z57, z58, Int.reduceBEq, Int.reduceBNe, Int.reduceLT, Int.reduceLE, Int.reduceGT, Int.reduceGE, Int.reduceEq, z59, z60, z61, z62, List.reduceReplicate, z63, z64, z65, z66, z67, chunks, hK1, hK2, hrow, g1, Nat.mul_one]; (first | done | exact rfl))); simp only [List.drop_succ_cons, List.drop_zero]; refine WO_call ?_; simp only [evx, List.map_cons, List.map_nil, List.contains, List.elem, List.getD_cons_succ, List.getD_cons_zero, reduceIte, Bool.false_eq_true, AV.unf, beq_self_eq_true, Nat.reduceBEq, intD, boolD]; refine Ev.fn (count_ev _ _ _ _ hK3) ?_
  by_cases hst' : s < t
  · have hq0 := hs s hst'
    have hp0 : p'.1 = [] := by simpa [qAt, hp'] using hq0
    have g2 : IntKind.i64.wrap ((((B.next + s) % B.ps.length : Nat) : Int) + 1) = (((B.next + s) % B.ps.length + 1 : Nat) : Int) := by rw [w64 (by omega) (by omega)]; omega
    have g3 : Int.tmod ((((B.next + s) % B.ps.length + 1 : Nat)) : Int) (B.ps.length : Int) = (((B.next + (s + 1)) % B.ps.length : Nat) : Int) := by
      rw [← Int.ofNat_tmod]
      congr 1
      rw [← Nat.add_assoc, Nat.mod_add_mod]
    have g4 : ((B.ps.length : Int) = 0) = False := eq_false (by omega)
    (apply WO_end; (focus (intro _; simp only [z0, srcC, AV.growable, AV.owned, evalC, evalR, runOps, stepOp, wanted, aop, evx, put, unflag, binV, nilEq, isShift, binInt, binStr, unV, AV.elems, AV.unf, AV.int?, AV.toD, AV.toDs, AV.mkAgg, AV.pures, AV.cells, D.cells, AV.isCell, D.isCell, readCells, readD, optInt, fill, splice, srcOf, z1, List.contains, List.elem, z2, z3, z4, z5, z6, z7, z8, z9, z10, z11, z12, z13, z14, z15, z16, z17, z18, z19, z20, z21, z22, Option.map, intD, boolD, bD, reduceIte, z23, z24, forgetT, Nat.reduceAdd, Nat.reduceLeDiff, Nat.reduceMul, Nat.reduceSub, Nat.reduceEqDiff, Nat.reduceBEq, Nat.reduceBNe, z25, z26, z27, z28, z29, z30, z31, z32, z33, z34, z35, z36, z37, z38, z39, z40, z41, z42, z43, z44, z45, z46, z47, z48, z49, z50, z51, z52, Int.reduceToNat, z53, z54, z55, z56, z57, z58, Int.reduceBEq, Int.reduceBNe, Int.reduceLT, Int.reduceLE, Int.reduceGT, Int.reduceGE, Int.reduceEq, z59, z60, z61, z62, List.reduceReplicate, z63, z64, z65, z66, z67, chunks, hp0, List.length_nil]; (first | done | exact rfl)))) <;> (try simp only [seqK, blockK, loopK, onlyK, forgetT, put, unflag, List.set_cons_succ, List.set_cons_zero, List.getD_cons_succ, List.getD_cons_zero, AV.unf, reduceIte, Nat.reduceEqDiff, Nat.reduceAdd])
    (repeat ((first | refine W_sq ?_ | refine W_bk ?_ | refine W_ret ?_ | refine W_exit ?_ | refine W_skip ?_ | (apply W_rg; focus (intro _; simp only [z0, srcC, AV.growable, AV.owned, evalC, evalR, runOps, stepOp, wanted, aop, evx, put, unflag, binV, nilEq, isShift, binInt, binStr, unV, AV.elems, AV.unf, AV.int?, AV.toD, AV.toDs, AV.mkAgg, AV.pures, AV.cells, D.cells, AV.isCell, D.isCell, readCells, readD, optInt, fill, splice, srcOf, z1, List.contains, List.elem, z2, z3, z4, z5, z6, z7, z8, z9, z10, z11, z12, z13, z14, z15, z16, z17, z18, z19, z20, z21, z22, Option.map, intD, boolD, bD, reduceIte, z23, z24, forgetT, Nat.reduceAdd, Nat.reduceLeDiff, Nat.reduceMul, Nat.reduceSub, Nat.reduceEqDiff, Nat.reduceBEq, Nat.reduceBNe, z25, z26, z27, z28, z29, z30, z31, z32, z33, z34, z35, z36, z37, z38, z39, z40, z41, z42, z43, z44, z45, z46, z47, z48, z49, z50, z51, z52, Int.reduceToNat, z53, z54, z55, z56, z57, z58, Int.reduceBEq, Int.reduceBNe, Int.reduceLT, Int.reduceLE, Int.reduceGT, Int.reduceGE, Int.reduceEq, z59, z60, z61, z62, List.reduceReplicate, z63, z64, z65, z66, z67, chunks, hK1, g2, g3, g4, hl]; (first | done | exact rfl))) | (refine W_cT ?_ ?_; focus (simp only [evx, List.contains, List.elem, List.getD_cons_succ, List.getD_cons_zero, AV.unf, reduceIte, Bool.false_eq_true, boolD]; done)) | (refine W_cF ?_ ?_; focus (simp only [evx, List.contains, List.elem, List.getD_cons_succ, List.getD_cons_zero, AV.unf, reduceIte, Bool.false_eq_true, boolD]; done))) <;> (try simp only [seqK, blockK, loopK, onlyK, forgetT, put, unflag, List.set_cons_succ, List.set_cons_zero, List.getD_cons_succ, List.getD_cons_zero, AV.unf, reduceIte, Nat.reduceEqDiff, Nat.reduceAdd])))
    exact ⟨t - (s + 1), by omega, s + 1, _, by omega, rfl, hK.setBoard ((B.next + (s + 1)) % B.ps.length) B.total rfl, hkp.mid _ (Nat.le_refl _) (by omega), by simpa using hkl, by rw [List.getElem?_set_ne (by omega)]; exact hkg, ex_st _ _ _ rfl⟩
  · have hst : s = t := by omega
    subst hst
    rw [hp] at hp'
    injection hp' with hp'
    subst hp'
    have hj : (B.next + s) % B.ps.length < B.ps.length := hmod
    have g5 : (((p.1.length : Nat) : Int) == 0) = false := by rw [hq]; simp; omega
    (apply WO_end; (focus (intro _; simp only [z0, srcC, AV.growable, AV.owned, evalC, evalR, runOps, stepOp, wanted, aop, evx, put, unflag, binV, nilEq, isShift, binInt, binStr, unV, AV.elems, AV.unf, AV.int?, AV.toD, AV.toDs, AV.mkAgg, AV.pures, AV.cells, D.cells, AV.isCell, D.isCell, readCells, readD, optInt, fill, splice, srcOf, z1, List.contains, List.elem, z2, z3, z4, z5, z6, z7, z8, z9, z10, z11, z12, z13, z14, z15, z16, z17, z18, z19, z20, z21, z22, Option.map, intD, boolD, bD, reduceIte, z23, z24, forgetT, Nat.reduceAdd, Nat.reduceLeDiff, Nat.reduceMul, Nat.reduceSub, Nat.reduceEqDiff, Nat.reduceBEq, Nat.reduceBNe, z25, z26, z27, z28, z29, z30, z31, z32, z33, z34, z35, z36, z37, z38, z39, z40, z41, z42, z43, z44, z45, z46, z47, z48, z49, z50, z51, z52, Int.reduceToNat, z53, z54, z55, z56, z57, z58, Int.reduceBEq, Int.reduceBNe, Int.reduceLT, Int.reduceLE, Int.reduceGT, Int.reduceGE, Int.reduceEq, z59, z60, z61, z62, List.reduceReplicate, z63, z64, z65, z66, z67, chunks, g5]; (first | done | exact rfl)))) <;> (try simp only [seqK, blockK, loopK, onlyK, forgetT, put, unflag, List.set_cons_succ, List.set_cons_zero, List.getD_cons_succ, List.getD_cons_zero, AV.unf, reduceIte, Nat.reduceEqDiff, Nat.reduceAdd])
    (iterate 3 ((first | refine W_sq ?_ | refine W_bk ?_ | refine W_ret ?_ | refine W_exit ?_ | refine W_skip ?_ | (apply W_rg; focus (intro _; simp only [z0, srcC, AV.growable, AV.owned, evalC, evalR, runOps, stepOp, wanted, aop, evx, put, unflag, binV, nilEq, isShift, binInt, binStr, unV, AV.elems, AV.unf, AV.int?, AV.toD, AV.toDs, AV.mkAgg, AV.pures, AV.cells, D.cells, AV.isCell, D.isCell, readCells, readD, optInt, fill, splice, srcOf, z1, List.contains, List.elem, z2, z3, z4, z5, z6, z7, z8, z9, z10, z11, z12, z13, z14, z15, z16, z17, z18, z19, z20, z21, z22, Option.map, intD, boolD, bD, reduceIte, z23, z24, forgetT, Nat.reduceAdd, Nat.reduceLeDiff, Nat.reduceMul, Nat.reduceSub, Nat.reduceEqDiff, Nat.reduceBEq, Nat.reduceBNe, z25, z26, z27, z28, z29, z30, z31, z32, z33, z34, z35, z36, z37, z38, z39, z40, z41, z42, z43, z44, z45, z46, z47, z48, z49, z50, z51, z52, Int.reduceToNat, z53, z54, z55, z56, z57, z58, Int.reduceBEq, Int.reduceBNe, Int.reduceLT, Int.reduceLE, Int.reduceGT, Int.reduceGE, Int.reduceEq, z59, z60, z61, z62, List.reduceReplicate, z63, z64, z65, z66, z67, chunks]; (first | done | exact rfl))) | (refine W_cT ?_ ?_; focus (simp only [evx, List.contains, List.elem, List.getD_cons_succ, List.getD_cons_zero, AV.unf, reduceIte, Bool.false_eq_true, boolD]; done)) | (refine W_cF ?_ ?_; focus (simp only [evx, List.contains, List.elem, List.getD_cons_succ, List.getD_cons_zero, AV.unf, reduceIte, Bool.false_eq_true, boolD]; done))) <;> (try simp only [seqK, blockK, loopK, onlyK, forgetT, put, unflag, List.set_cons_succ, List.set_cons_zero, List.getD_cons_succ, List.getD_cons_zero, AV.unf, reduceIte, Nat.reduceEqDiff, Nat.reduceAdd])))
    generalize hjj : (B.next + s) % B.ps.length = j at *
    have hpm := hB.pe p (List.mem_of_getElem? hp)
    have hpp : p = (f :: r, p.2) := by rw [← hq]
    have hlr : r.length ≤ 5000 := by have := hpm.2.2.1; rw [hq] at this; simp at this; omega
    rw [hpp] at hK3
    have hC := hK.setPeer (i := j) (r, p.2) hj rfl
    have hC1 := hC.board
    have hC2 := hC.row
    simp only [bdC, List.length_set] at hC1 hC2
    have hX := hK.app [.cells [intD 0, .fslice []]]
    have hX1 := hX.board
    have hX2 := hX.row
    have hX3 := hX.peer j p hp
    rw [hpp] at hX3
    simp only [bdC] at hX1 hX2
    have hY := hC.app [.cells [intD 0, .fslice []]]
    have hY1 := hY.board
    have hY2 := hY.row
    simp only [bdC, List.length_set] at hY1 hY2
    have hltK := hK.lt
    simp only at hltK
    have hset : (K ++ [AObj.cells [intD 0, .fslice []]]).set (b + 1 + 3 * j) (.cells (peC (r, p.2))) = K.set (b + 1 + 3 * j) (.cells (peC (r, p.2))) ++ [AObj.cells [intD 0, .fslice []]] := List.set_append_left _ _ (by omega)
    have hsl : ∀ y, (K.set (b + 1 + 3 * j) (.cells (peC (r, p.2))) ++ [AObj.cells [intD 0, .fslice []]]).set K.length y = K.set (b + 1 + 3 * j) (.cells (peC (r, p.2))) ++ [y] := fun y => by
      rw [List.set_append_right _ _ (by simp)]; simp
    have hgl : (K.set (b + 1 + 3 * j) (.cells (peC (r, p.2))) ++ [AObj.cells [intD 0, .fslice []]])[K.length]? = some (.cells [intD 0, .fslice []]) := by
      rw [List.getElem?_append_right (by simp)]; simp
    have h2 : lim ≤ K.length := by omega
    (apply W_drw; focus (refine Evl.call (take_ev lim K _ f r p.2 hK3 (by omega) hlr) (Evl.call (take_ev lim (K ++ [AObj.cells [intD 0, .fslice []]]) _ f r p.2 hX3 (by omega) hlr) (Evl.all fun k e2 e1 => ?_)); simp (maxSteps := 100000000) only [z0, srcC, AV.growable, AV.owned, evalC, evalR, runOps, stepOp, wanted, aop, evx, put, unflag, binV, nilEq, isShift, binInt, binStr, unV, AV.elems, AV.unf, AV.int?, AV.toD, AV.toDs, AV.mkAgg, AV.pures, AV.cells, D.cells, AV.isCell, D.isCell, readCells, readD, optInt, fill, splice, srcOf, z1, List.contains, List.elem, z2, z3, z4, z5, z6, z7, z8, z9, z10, z11, z12, z13, z14, z15, z16, z17, z18, z19, z20, z21, z22, Option.map, intD, boolD, bD, reduceIte, z23, z24, forgetT, Nat.reduceAdd, Nat.reduceLeDiff, Nat.reduceMul, Nat.reduceSub, Nat.reduceEqDiff, Nat.reduceBEq, Nat.reduceBNe, z25, z26, z27, z28, z29, z30, z31, z32, z33, z34, z35, z36, z37, z38, z39, z40, z41, z42, z43, z44, z45, z46, z47, z48, z49, z50, z51, z52, Int.reduceToNat, z53, z54, z55, z56, z57, z58, Int.reduceBEq, Int.reduceBNe, Int.reduceLT, Int.reduceLE, Int.reduceGT, Int.reduceGE, Int.reduceEq, z59, z60, z61, z62, List.reduceReplicate, z63, z64, z65, z66, z67, chunks, drawOK, chainOK, thin, inertAt, inertRec, z68, z69, traceOps, stepRec, explore, runAt, mayStand, z70, z71, z72, z18, z19, z73, z74, z75, Nat.reduceBEq, z76, hK1, hK2, hrow, g1, Nat.mul_one, hC1, hC2, hX1, hX2, hY1, hY2, hset, hsl, hgl, h2, e2, e1]; (first | done | exact rfl))) <;> (try simp only [seqK, blockK, loopK, onlyK, forgetT, put, unflag, List.set_cons_succ, List.set_cons_zero, List.getD_cons_succ, List.getD_cons_zero, AV.unf, reduceIte, Nat.reduceEqDiff, Nat.reduceAdd])
    have hZ := hC.app [.cells [intD j, .d (bD f)]]
    have hZk : (K.set (b + 1 + 3 * j) (.cells (peC (r, p.2))) ++ [AObj.cells [intD j, .d (bD f)]])[K.length]? = some (.cells [intD j, .d (bD f)]) := by
      rw [List.getElem?_append_right (by simp)]; simp
    have hZh : (K.set (b + 1 + 3 * j) (.cells (peC (r, p.2))) ++ [AObj.cells [intD j, .d (bD f)]])[H.length]? = some (.cells [intD 0, .fslice []]) := by
      rw [List.getElem?_append_left (by simp; omega), List.getElem?_set_ne (by omega)]; exact hkg
    have hZp : Keeps b B.ps.length H (K.set (b + 1 + 3 * j) (.cells (peC (r, p.2))) ++ [AObj.cells [intD j, .d (bD f)]]) := (hkp.mid _ (by omega) (by omega)).more _
    clear hset hsl hgl hY hY1 hY2 hX hX1 hX2 hX3 hC hC1 hC2
    generalize K.set (b + 1 + 3 * j) (.cells (peC (r, p.2))) ++ [AObj.cells [intD j, .d (bD f)]] = K2 at *
    have hZ1 := hZ.board
    have hS1 := (hZ.setBoard ((j + 1) % B.ps.length) B.total rfl).board
    have hS2 := hZ.setBoard ((j + 1) % B.ps.length) (B.total - 1) rfl
    simp only [bdC, List.length_set] at hZ1 hS1 hS2
    have hk2 : ∀ c, (K2.set b c)[K.length]? = some (.cells [intD j, .d (bD f)]) := fun c => by rw [List.getElem?_set_ne (by omega)]; exact hZk
    have hh2 : ∀ c, (K2.set b c)[H.length]? = some (.cells [intD 0, .fslice []]) := fun c => by rw [List.getElem?_set_ne (by omega)]; exact hZh
    have g2 : IntKind.i64.wrap ((j : Int) + 1) = ((j + 1 : Nat) : Int) := by rw [w64 (by omega) (by omega)]; omega
    have g3 : Int.tmod ((j + 1 : Nat) : Int) (B.ps.length : Int) = (((j + 1) % B.ps.length : Nat) : Int) := rfl
    have g4 : ((B.ps.length : Int) = 0) = False := eq_false (by omega)
    have g6 : IntKind.i64.wrap (B.total - 1) = B.total - 1 := w64 (by omega) (by omega)
    have hhl : H.length < (K2.set b (.cells [.oslice (b + 3 * B.ps.length) 0 B.ps.length B.ps.length 1, intD B.room, intD B.limit, intD ((j + 1) % B.ps.length : Nat), intD (B.total - 1)])).length := (List.getElem?_eq_some_iff.1 (hh2 _)).1
    (repeat ((first | refine W_sq ?_ | refine W_bk ?_ | refine W_ret ?_ | refine W_exit ?_ | refine W_skip ?_ | (apply W_rg; focus (intro _; simp only [z0, srcC, AV.growable, AV.owned, evalC, evalR, runOps, stepOp, wanted, aop, evx, put, unflag, binV, nilEq, isShift, binInt, binStr, unV, AV.elems, AV.unf, AV.int?, AV.toD, AV.toDs, AV.mkAgg, AV.pures, AV.cells, D.cells, AV.isCell, D.isCell, readCells, readD, optInt, fill, splice, srcOf, z1, List.contains, List.elem, z2, z3, z4, z5, z6, z7, z8, z9, z10, z11, z12, z13, z14, z15, z16, z17, z18, z19, z20, z21, z22, Option.map, intD, boolD, bD, reduceIte, z23, z24, forgetT, Nat.reduceAdd, Nat.reduceLeDiff, Nat.reduceMul, Nat.reduceSub, Nat.reduceEqDiff, Nat.reduceBEq, Nat.reduceBNe, z25, z26, z27, z28, z29, z30, z31, z32, z33, z34, z35, z36, z37, z38, z39, z40, z41, z42, z43, z44, z45, z46, z47, z48, z49, z50, z51, z52, Int.reduceToNat, z53, z54, z55, z56, z57, z58, Int.reduceBEq, Int.reduceBNe, Int.reduceLT, Int.reduceLE, Int.reduceGT, Int.reduceGE, Int.reduceEq, z59, z60, z61, z62, List.reduceReplicate, z63, z64, z65, z66, z67, chunks, hZ1, hS1, g2, g3, g4, g6, hk2, hh2, hl, h1, List.set_set]; (first | done | exact rfl))) | (refine W_cT ?_ ?_; focus (simp only [evx, List.contains, List.elem, List.getD_cons_succ, List.getD_cons_zero, AV.unf, reduceIte, Bool.false_eq_true, boolD]; done)) | (refine W_cF ?_ ?_; focus (simp only [evx, List.contains, List.elem, List.getD_cons_succ, List.getD_cons_zero, AV.unf, reduceIte, Bool.false_eq_true, boolD]; done))) <;> (try simp only [seqK, blockK, loopK, onlyK, forgetT, put, unflag, List.set_cons_succ, List.set_cons_zero, List.getD_cons_succ, List.getD_cons_zero, AV.unf, reduceIte, Nat.reduceEqDiff, Nat.reduceAdd])))
    refine ans_keep (vs := [.d (.agg [.int .i64 j, bD f]), boolD true]) ?_ ⟨rfl, ?_, (hZp.mid _ (Nat.le_refl _) (by omega)).high _ (Nat.le_refl _)⟩
    · simp only [resV, List.getD_cons_succ, List.getD_cons_zero]
      rw [List.getElem?_set_self hhl]
      rfl
    · have e : takeB B j p = { B with ps := B.ps.set j (r, p.2), total := B.total - 1, next := (j + 1) % B.ps.length } := by simp only [takeB, hq, List.tail_cons]
      rw [e]
      exact hS2.set _ (.inr (by simp only [List.length_set]; omega))

/-- What a turn answers. -/
def nextV (B : Bd) : AV := match turn B with
  | none => noT
  | some t => match B.ps[(B.next + t) % B.ps.length]? with
    | some p => turnV ((B.next + t) % B.ps.length) (p.1.headD [])
    | none => noT

theorem next_ev (lim : Nat) (H : AHeap) (b : Nat) (B : Bd) (h : At H b B) (hB : Bok B) (hl : lim ≤ b) : Go.Abs.Fn X 13 lim [.ptr b 0] H fun v H' => v = nextV B ∧ At H' b (nextB B) ∧ Keeps b B.ps.length H H' := by
  unfold nextV nextB
  cases ht : turn B with
  | none => exact next_no lim H b B h ((turn_none hB).1 ht) hl
  | some t =>
    obtain ⟨h1, ⟨p, f, r, h2, h3⟩, h4⟩ := turn_some hB ht
    simp only [h2]
    have := next_some lim H b B t p f r h hB hl h1 h2 h3 h4
    rw [h3]
    exact this

end Go.Proofs.Ytiololafeihhmaa
