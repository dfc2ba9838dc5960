/- Filters held against themselves, walked. (NOBIN: the arithmetic of numbers is not unfolded.) -/
import Derived.Test.YtoimlfaiibadgaaDoordV2
set_option linter.unusedSimpArgs false
set_option linter.unusedVariables false
set_option linter.all false
set_option maxRecDepth 100000
namespace Go.Proofs.YtoimlfaiibadgaaDoor
open Go Go.Abs Go.Lib

theorem rows_same_ev (lim : Nat) (H : AHeap) (a : List Tx) (ha : a.length ≤ 100000) : Ev X 39 lim [.d (sD a), .d (sD a)] H (boolD true) H := by
  refine Fn.ev ?_
  refine Fn_of rfl (show code 39 = some c39 from rfl) rfl ?_; simp only [List.length_cons, List.length_nil, Nat.reduceAdd, Nat.reduceSub, List.reduceReplicate, List.cons_append, List.nil_append, reduceIte, Bool.false_eq_true]
  have f0 : ((a.length : Int) != (a.length : Int)) = false := by simp
  (repeat ((first | refine W_sq ?_ | refine W_bk ?_ | refine W_ret ?_ | refine W_exit ?_ | refine W_skip ?_ | (apply W_rg; focus (intro _; simp only [evalR,runOps,stepOp,wanted,aop,evx,put,unflag,binV,isShift,AV.elems,AV.unf,List.contains,List.elem,z2,z3,z4,z5,Option.map,intD,reduceIte,z23,forgetT,z30,b_neq, List.length_map]; (first | done | exact rfl))) | (refine W_cT ?_ ?_; focus (simp only [evx,List.contains,List.elem,z2,z3,AV.unf,reduceIte,z23]; done)) | (refine W_cF ?_ ?_; focus (simp only [evx,List.contains,List.elem,z2,z3,AV.unf,reduceIte,z23]; done))) <;> (try simp only [seqK])))
  refine W_lp (fun k st => ∃ i : Nat, i ≤ a.length ∧ k = a.length - i ∧ ∃ x : Nat → AV, st = ⟨[.d (sD a), .d (sD a), x 2, x 3, x 4, boolD false, intD i, x 7, x 8], H⟩) ?_ _ _ ⟨0, Nat.zero_le _, rfl, ex_st _ _ _ rfl⟩
  rintro k _ ⟨i, hi, rfl, x, rfl⟩
  by_cases t0 : i < a.length
  · have f1 : ((i : Int) < (a.length : Int)) = True := eq_true (by omega)
    have w1 : IntKind.i64.wrap ((i : Int) + 1) = ((i + 1 : Nat) : Int) := wsucc (by omega)
    obtain ⟨s, hsx⟩ : ∃ s, a[i]? = some s := ⟨_, List.getElem?_eq_getElem t0⟩
    have hc : (D.str s).cells = [D.str s] := rfl
    have hb : (!(s == s)) = false := by simp
    (repeat ((first | refine W_sq ?_ | refine W_bk ?_ | refine W_ret ?_ | refine W_exit ?_ | refine W_skip ?_ | (apply W_rg; focus (intro _; simp only [evalR,runOps,stepOp,wanted,aop,evx,put,unflag,binV,isShift,binStr,AV.elems,AV.unf,AV.int?,D.cells,readD,List.contains,List.elem,z2,z3,z4,z5,z7,z10,z11,z14,z15,Option.map,intD,boolD,reduceIte,z23,forgetT,z26,z29,z32,z42,z51,z52,z55,z62,b_lss, b_add, f1, w1, hsx, List.length_map]; (first | done | exact rfl))) | (refine W_cT ?_ ?_; focus (simp only [evx,List.contains,List.elem,z2,z3,AV.unf,reduceIte,z23]; done)) | (refine W_cF ?_ ?_; focus (simp only [evx,List.contains,List.elem,z2,z3,AV.unf,reduceIte,z23]; done))) <;> (try simp only [seqK,blockK,loopK])))
    exact ⟨a.length - (i + 1), by omega, i + 1, t0, rfl, ex_st _ _ _ rfl⟩
  · obtain rfl : i = a.length := by omega
    have f1 : ((a.length : Int) < (a.length : Int)) = False := eq_false (by omega)
    (repeat ((first | refine W_sq ?_ | refine W_bk ?_ | refine W_ret ?_ | refine W_exit ?_ | refine W_skip ?_ | (apply W_rg; focus (intro _; simp only [evalR,runOps,stepOp,wanted,aop,evx,put,unflag,binV,isShift,AV.elems,AV.unf,List.contains,List.elem,z2,z3,z4,z5,Option.map,intD,boolD,reduceIte,z23,forgetT,z43,b_lss, f1, List.length_map]; (first | done | exact rfl))) | (refine W_cT ?_ ?_; focus (simp only [evx,List.contains,List.elem,z2,z3,AV.unf,reduceIte,z23]; done)) | (refine W_cF ?_ ?_; focus (simp only [evx,List.contains,List.elem,z2,z3,AV.unf,reduceIte,z23]; done))) <;> (try simp only [seqK,blockK,loopK,reduceIte])))
    exact ans_cut rfl rfl ⟨rfl, rfl⟩

theorem Same_ev (lim : Nat) (H : AHeap) (f : Fl) (h1 : f.ty.length ≤ 100000) (h2 : f.nty.length ≤ 100000) (h3 : f.sn.length ≤ 100000) (h4 : f.nsn.length ≤ 100000) : Ev X 14 lim [.d (flD f), .d (flD f)] H (boolD true) H := by
  refine Fn.ev ?_
  refine Fn_of rfl (show code 14 = some c14 from rfl) rfl ?_; simp only [List.length_cons, List.length_nil, Nat.reduceAdd, Nat.reduceSub, List.reduceReplicate, List.cons_append, List.nil_append, reduceIte, Bool.false_eq_true]
  obtain ⟨J, hJ⟩ : ∃ J, H ++ [AObj.cells (flC f)] = J := ⟨_, rfl⟩
  have gJ : J[H.length]? = some (.cells (flC f)) := by rw [← hJ]; exact get_last _ _
  obtain ⟨K, hK⟩ : ∃ K, J ++ [AObj.cells (flC f)] = K := ⟨_, rfl⟩
  have gK : K[H.length]? = some (.cells (flC f)) := by rw [← hK]; exact get_more _ gJ
  have gK2 : K[J.length]? = some (.cells (flC f)) := by rw [← hK]; exact get_last _ _
  have e1 := rows_same_ev H.length K f.ty h1
  have e2 := rows_same_ev H.length K f.nty h2
  have e3 := rows_same_ev H.length K f.sn h3
  have e4 := rows_same_ev H.length K f.nsn h4
  (iterate 2 ((first | refine W_sq ?_ | refine W_bk ?_ | refine W_ret ?_ | refine W_exit ?_ | refine W_skip ?_ | (apply W_rg; focus (intro _; simp only [evalR,runOps,stepOp,wanted,aop,evx,put,unflag,AV.unf,AV.cells,D.cells,AV.isCell,D.isCell,List.contains,List.elem,z2,z3,z4,z5,z8,z9,z18,z19,reduceIte,z23,forgetT,z34,flD, hJ, hK]; (first | done | exact rfl))) | (refine W_cT ?_ ?_; focus (simp only [evx,List.contains,List.elem,z2,z3,AV.unf,reduceIte,z23,boolD]; done)) | (refine W_cF ?_ ?_; focus (simp only [evx,List.contains,List.elem,z2,z3,AV.unf,reduceIte,z23,boolD]; done))) <;> (try simp only [seqK])))
  (iterate 1 ((first | refine W_sq ?_ | refine W_bk ?_ | refine W_ret ?_ | refine W_exit ?_ | refine W_skip ?_ | (apply W_rg; focus (intro _; simp only [z0,srcC,AV.growable,AV.owned,evalC,evalR,runOps,stepOp,wanted,aop,evx,put,unflag,binV,nilEq,isShift,binStr,unV,AV.elems,AV.unf,AV.int?,AV.toD,AV.toDs,AV.mkAgg,AV.pures,AV.cells,D.cells,AV.isCell,D.isCell,readCells,readD,optInt,fill,splice,srcOf,z1,List.contains,List.elem,z2,z3,z4,z5,z6,z7,z8,z9,z10,z11,z12,z13,z14,z15,z16,z17,z18,z19,z20,z21,z22,Option.map,intD,boolD,bD,reduceIte,z23,z24,forgetT,Nat.reduceAdd,Nat.reduceLeDiff,Nat.reduceMul,Nat.reduceSub,Nat.reduceEqDiff,Nat.reduceBEq,Nat.reduceBNe,z25,z26,z27,z28,z29,z30,z31,z32,z33,z34,z35,z36,z37,z38,z39,z40,z41,z42,z43,z44,z45,z46,z47,z48,z49,z50,z51,z52,Int.reduceToNat,z53,z54,z55,z56,z57,z58,Int.reduceBEq,Int.reduceBNe,Int.reduceLT,Int.reduceLE,Int.reduceGT,Int.reduceGE,Int.reduceEq,z59,z60,z61,z62,List.reduceReplicate,z63,z64,z65,z66,z67,chunks]; (first | done | exact rfl))) | (refine W_cT ?_ ?_; focus (simp only [evx,List.contains,List.elem,z2,z3,AV.unf,reduceIte,z23,boolD]; done)) | (refine W_cF ?_ ?_; focus (simp only [evx,List.contains,List.elem,z2,z3,AV.unf,reduceIte,z23,boolD]; done))) <;> (try simp only [seqK,blockK,loopK,onlyK,forgetT,put,unflag,z4,z5,z2,z3,AV.unf,reduceIte,Nat.reduceEqDiff,Nat.reduceAdd])))
  (apply W_drw; focus (refine Evl.call (e1) (Evl.call (e2) (Evl.call (e3) (Evl.call (e4) (Evl.all fun k e4 e3 e2 e1 => ?_)))); simp (maxSteps := 100000000) only [evalR,runOps,stepOp,wanted,aop,evx,put,unflag,binV,isShift,AV.unf,AV.mkAgg,AV.pures,readCells,List.contains,List.elem,z2,z3,z4,z5,z6,z7,z8,z9,z10,z11,z12,z13,z14,z15,Option.map,boolD,reduceIte,z23,forgetT,Nat.reduceAdd,Nat.reduceLeDiff,z25,z26,z29,z51,gK, gK2, b_eql, e4, e3, e2, e1]; (first | done | exact rfl))) <;> (try simp only [seqK])
  (repeat ((first | refine W_sq ?_ | refine W_bk ?_ | refine W_ret ?_ | refine W_exit ?_ | refine W_skip ?_ | (apply W_rg; focus (intro _; simp only [z0,srcC,AV.growable,AV.owned,evalC,evalR,runOps,stepOp,wanted,aop,evx,put,unflag,binV,nilEq,isShift,binStr,unV,AV.elems,AV.unf,AV.int?,AV.toD,AV.toDs,AV.mkAgg,AV.pures,AV.cells,D.cells,AV.isCell,D.isCell,readCells,readD,optInt,fill,splice,srcOf,z1,List.contains,List.elem,z2,z3,z4,z5,z6,z7,z8,z9,z10,z11,z12,z13,z14,z15,z16,z17,z18,z19,z20,z21,z22,Option.map,intD,boolD,bD,reduceIte,z23,z24,forgetT,Nat.reduceAdd,Nat.reduceLeDiff,Nat.reduceMul,Nat.reduceSub,Nat.reduceEqDiff,Nat.reduceBEq,Nat.reduceBNe,z25,z26,z27,z28,z29,z30,z31,z32,z33,z34,z35,z36,z37,z38,z39,z40,z41,z42,z43,z44,z45,z46,z47,z48,z49,z50,z51,z52,Int.reduceToNat,z53,z54,z55,z56,z57,z58,Int.reduceBEq,Int.reduceBNe,Int.reduceLT,Int.reduceLE,Int.reduceGT,Int.reduceGE,Int.reduceEq,z59,z60,z61,z62,List.reduceReplicate,z63,z64,z65,z66,z67,chunks]; (first | done | exact rfl))) | (refine W_cT ?_ ?_; focus (simp only [evx,List.contains,List.elem,z2,z3,AV.unf,reduceIte,z23,boolD]; done)) | (refine W_cF ?_ ?_; focus (simp only [evx,List.contains,List.elem,z2,z3,AV.unf,reduceIte,z23,boolD]; done))) <;> (try simp only [seqK,blockK,loopK,onlyK,forgetT,put,unflag,z4,z5,z2,z3,AV.unf,reduceIte,Nat.reduceEqDiff,Nat.reduceAdd])))
  exact ans_cut rfl rfl ⟨rfl, rfl⟩

end Go.Proofs.YtoimlfaiibadgaaDoor
