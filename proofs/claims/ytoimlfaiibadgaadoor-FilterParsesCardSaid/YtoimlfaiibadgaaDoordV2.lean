/- What a filter's rows are, walked. (NOBIN: the arithmetic of numbers is not unfolded.) -/
import Derived.Test.YtoimlfaiibadgaaDoordW3
import Derived.Test.YtoimlfaiibadgaaDoordM4
import Derived.Test.YtoimlfaiibadgaaDoordAw
set_option linter.unusedSimpArgs false
set_option linter.unusedVariables false
set_option linter.all false
set_option maxRecDepth 100000
namespace Go.Proofs.YtoimlfaiibadgaaDoor
open Go Go.Abs Go.Lib

theorem all_cut {α : Type} {l : List α} {i : Nat} {x : α} (h : l[i]? = some x) (f : α → Bool) : (l.take (i + 1)).all f = ((l.take i).all f && f x) := by
  rw [List.take_add_one, h, List.all_append]; simp
theorem any_cut {α : Type} {l : List α} {i : Nat} {x : α} (h : l[i]? = some x) (f : α → Bool) : (l.take (i + 1)).any f = ((l.take i).any f || f x) := by
  rw [List.take_add_one, h, List.any_append]; simp
theorem all_no {α : Type} {l : List α} {i : Nat} {x : α} (h : l[i]? = some x) {f : α → Bool} (hf : f x = false) : l.all f = false := by
  rw [List.all_eq_false]; exact ⟨x, List.mem_of_getElem? h, by simp [hf]⟩
theorem any_yes {α : Type} {l : List α} {i : Nat} {x : α} (h : l[i]? = some x) {f : α → Bool} (hf : f x = true) : l.any f = true := by
  rw [List.any_eq_true]; exact ⟨x, List.mem_of_getElem? h, hf⟩

theorem short_ev (lim : Nat) (H : AHeap) (l : List Tx) : Ev X 27 lim [.d (sD l)] H (boolD (shortB l)) H := by
  refine Fn.ev ?_
  refine Fn_of rfl (show code 27 = some c27 from rfl) rfl ?_; simp only [List.length_cons, List.length_nil, Nat.reduceAdd, Nat.reduceSub, List.reduceReplicate, List.cons_append, List.nil_append, reduceIte, Bool.false_eq_true]
  by_cases h0 : l.length ≤ 20
  · have f0 : ((l.length : Int) > 20) = False := eq_false (by omega)
    (repeat ((first | refine W_sq ?_ | refine W_bk ?_ | refine W_ret ?_ | refine W_exit ?_ | refine W_skip ?_ | (apply W_rg; focus (intro _; simp only [evalR,runOps,stepOp,wanted,aop,evx,put,unflag,binV,isShift,AV.elems,AV.unf,List.contains,List.elem,z2,z3,z4,z5,Option.map,intD,reduceIte,z23,forgetT,z43,b_gtr, f0, List.length_map]; (first | done | exact rfl))) | (refine W_cT ?_ ?_; focus (simp only [evx,List.contains,List.elem,z2,z3,AV.unf,reduceIte,z23]; done)) | (refine W_cF ?_ ?_; focus (simp only [evx,List.contains,List.elem,z2,z3,AV.unf,reduceIte,z23]; done))) <;> (try simp only [seqK])))
    refine W_lp (fun k st => ∃ i : Nat, i ≤ l.length ∧ k = l.length - i ∧ ((l.take i).all fun s => decide (s.length ≤ 100)) = true ∧ ∃ x : Nat → AV, st = ⟨[.d (sD l), x 1, x 2, x 3, boolD false, intD i, x 6], H⟩) ?_ _ _ ⟨0, Nat.zero_le _, rfl, rfl, ex_st _ _ _ rfl⟩
    rintro k _ ⟨i, hi, rfl, ha, x, rfl⟩
    by_cases t0 : i < l.length
    · have f1 : ((i : Int) < (l.length : Int)) = True := eq_true (by omega)
      have w1 : IntKind.i64.wrap ((i : Int) + 1) = ((i + 1 : Nat) : Int) := wsucc (by omega)
      obtain ⟨s, hs⟩ : ∃ s, l[i]? = some s := ⟨_, List.getElem?_eq_getElem t0⟩
      have hc : (D.str s).cells = [D.str s] := rfl
      have hst := all_cut hs fun s => decide (s.length ≤ 100)
      rw [ha, Bool.true_and] at hst
      by_cases h1 : s.length ≤ 100
      · have f2 : ((s.length : Int) > 100) = False := eq_false (by omega)
        rw [decide_eq_true h1] at hst
        (repeat ((first | refine W_sq ?_ | refine W_bk ?_ | refine W_ret ?_ | refine W_exit ?_ | refine W_skip ?_ | (apply W_rg; focus (intro _; simp only [evalR,runOps,stepOp,wanted,aop,evx,put,unflag,binV,isShift,AV.elems,AV.unf,AV.int?,D.cells,readD,List.contains,List.elem,z2,z3,z4,z5,z7,z10,z11,z14,z15,Option.map,intD,boolD,reduceIte,z23,forgetT,z26,z29,z42,z43,z51,z52,z55,z62,b_lss, b_gtr, b_add, f1, f2, hs, w1, List.length_map]; (first | done | exact rfl))) | (refine W_cT ?_ ?_; focus (simp only [evx,List.contains,List.elem,z2,z3,AV.unf,reduceIte,z23]; done)) | (refine W_cF ?_ ?_; focus (simp only [evx,List.contains,List.elem,z2,z3,AV.unf,reduceIte,z23]; done))) <;> (try simp only [seqK,blockK,loopK])))
        exact ⟨l.length - (i + 1), by omega, i + 1, t0, rfl, hst, ex_st _ _ _ rfl⟩
      · have f2 : ((s.length : Int) > 100) = True := eq_true (by omega)
        have hr : shortB l = false := by unfold shortB; rw [all_no hs (by simpa using h1), Bool.and_false]
        rw [hr]
        (repeat ((first | refine W_sq ?_ | refine W_bk ?_ | refine W_ret ?_ | refine W_exit ?_ | refine W_skip ?_ | (apply W_rg; focus (intro _; simp only [evalR,runOps,stepOp,wanted,aop,evx,put,unflag,binV,isShift,AV.elems,AV.unf,AV.int?,D.cells,readD,List.contains,List.elem,z2,z3,z4,z5,z7,z10,z11,z14,z15,Option.map,intD,boolD,reduceIte,z23,forgetT,z26,z42,z51,z52,z55,z62,b_lss, b_gtr, f1, f2, hs, List.length_map]; (first | done | exact rfl))) | (refine W_cT ?_ ?_; focus (simp only [evx,List.contains,List.elem,z2,z3,AV.unf,reduceIte,z23]; done)) | (refine W_cF ?_ ?_; focus (simp only [evx,List.contains,List.elem,z2,z3,AV.unf,reduceIte,z23,boolD]; done))) <;> (try simp only [seqK,blockK,loopK])))
        exact ans_cut rfl rfl ⟨rfl, rfl⟩
    · obtain rfl : i = l.length := by omega
      have f1 : ((l.length : Int) < (l.length : Int)) = False := eq_false (by omega)
      rw [List.take_length] at ha
      have hr : shortB l = true := by unfold shortB; rw [ha, decide_eq_true h0]; rfl
      rw [hr]
      (repeat ((first | refine W_sq ?_ | refine W_bk ?_ | refine W_ret ?_ | refine W_exit ?_ | refine W_skip ?_ | (apply W_rg; focus (intro _; simp only [evalR,runOps,stepOp,wanted,aop,evx,put,unflag,binV,isShift,AV.elems,AV.unf,List.contains,List.elem,z2,z3,z4,z5,Option.map,intD,boolD,reduceIte,z23,forgetT,z43,b_lss, f1, List.length_map]; (first | done | exact rfl))) | (refine W_cT ?_ ?_; focus (simp only [evx,List.contains,List.elem,z2,z3,AV.unf,reduceIte,z23]; done)) | (refine W_cF ?_ ?_; focus (simp only [evx,List.contains,List.elem,z2,z3,AV.unf,reduceIte,z23]; done))) <;> (try simp only [seqK,blockK,loopK,reduceIte])))
      exact ans_cut rfl rfl ⟨rfl, rfl⟩
  · have f0 : ((l.length : Int) > 20) = True := eq_true (by omega)
    have hr : shortB l = false := by unfold shortB; rw [decide_eq_false h0]; rfl
    rw [hr]
    (repeat ((first | refine W_sq ?_ | refine W_bk ?_ | refine W_ret ?_ | refine W_exit ?_ | refine W_skip ?_ | (apply W_rg; focus (intro _; simp only [evalR,runOps,stepOp,wanted,aop,evx,put,unflag,binV,isShift,AV.elems,AV.unf,List.contains,List.elem,z2,z3,z4,z5,Option.map,intD,reduceIte,z23,forgetT,z42,b_gtr, f0, List.length_map]; (first | done | exact rfl))) | (refine W_cT ?_ ?_; focus (simp only [evx,List.contains,List.elem,z2,z3,AV.unf,reduceIte,z23]; done)) | (refine W_cF ?_ ?_; focus (simp only [evx,List.contains,List.elem,z2,z3,AV.unf,reduceIte,z23,boolD]; done))) <;> (try simp only [seqK])))
    exact ans_cut rfl rfl ⟨rfl, rfl⟩

theorem few_ev (lim : Nat) (H : AHeap) (f : Fl) : Ev X 9 lim [.d (flD f)] H (boolD (fewB f)) H := by
  refine Fn.ev ?_
  refine Fn_of rfl (show code 9 = some c9 from rfl) rfl ?_; simp only [List.length_cons, List.length_nil, Nat.reduceAdd, Nat.reduceSub, List.reduceReplicate, List.cons_append, List.nil_append, reduceIte, Bool.false_eq_true]
  have e : ∀ a b c d n, (D.agg [sD a, sD b, sD c, sD d, .int .i64 n]).cells = [sD a, sD b, sD c, sD d, .int .i64 n] := fun _ _ _ _ _ => rfl
  generalize hK : H ++ [AObj.cells [.d (sD f.ty), .d (sD f.nty), .d (sD f.sn), .d (sD f.nsn), .d (.int .i64 f.lim)]] = K
  have gK : K[H.length]? = some (.cells [.d (sD f.ty), .d (sD f.nty), .d (sD f.sn), .d (sD f.nsn), .d (.int .i64 f.lim)]) := by rw [← hK]; exact get_last _ _
  have s1 := short_ev H.length K f.ty
  have s2 := short_ev H.length K f.nty
  have s3 := short_ev H.length K f.sn
  have s4 := short_ev H.length K f.nsn
  have hr : fewB f = (shortB f.ty && shortB f.nty && shortB f.sn && shortB f.nsn) := rfl
  rw [hr]
  (iterate 2 ((first | refine W_sq ?_ | refine W_bk ?_ | refine W_ret ?_ | refine W_exit ?_ | refine W_skip ?_ | (apply W_rg; focus (intro _; simp only [evalR,runOps,stepOp,wanted,aop,evx,put,unflag,AV.unf,AV.cells,D.cells,AV.isCell,D.isCell,List.contains,List.elem,z3,z4,z5,z8,z9,z18,z19,reduceIte,z23,forgetT,z34,flD]; (first | done | exact rfl))) | (refine W_cT ?_ ?_; focus (simp only [evx,List.contains,List.elem,z2,z3,AV.unf,reduceIte,z23,boolD]; done)) | (refine W_cF ?_ ?_; focus (simp only [evx,List.contains,List.elem,z2,z3,AV.unf,reduceIte,z23,boolD]; done))) <;> (try simp only [seqK])))
  rw [hK]
  (iterate 1 ((first | refine W_sq ?_ | refine W_bk ?_ | refine W_ret ?_ | refine W_exit ?_ | refine W_skip ?_ | (apply W_rg; focus (intro _; simp only [z0,srcC,AV.growable,AV.owned,evalC,evalR,runOps,stepOp,wanted,aop,evx,put,unflag,binV,nilEq,isShift,binStr,unV,AV.elems,AV.unf,AV.int?,AV.toD,AV.toDs,AV.mkAgg,AV.pures,AV.cells,D.cells,AV.isCell,D.isCell,readCells,readD,optInt,fill,splice,srcOf,z1,List.contains,List.elem,z2,z3,z4,z5,z6,z7,z8,z9,z10,z11,z12,z13,z14,z15,z16,z17,z18,z19,z20,z21,z22,Option.map,intD,boolD,bD,reduceIte,z23,z24,forgetT,Nat.reduceAdd,Nat.reduceLeDiff,Nat.reduceMul,Nat.reduceSub,Nat.reduceEqDiff,Nat.reduceBEq,Nat.reduceBNe,z25,z26,z27,z28,z29,z30,z31,z32,z33,z34,z35,z36,z37,z38,z39,z40,z41,z42,z43,z44,z45,z46,z47,z48,z49,z50,z51,z52,Int.reduceToNat,z53,z54,z55,z56,z57,z58,Int.reduceBEq,Int.reduceBNe,Int.reduceLT,Int.reduceLE,Int.reduceGT,Int.reduceGE,Int.reduceEq,z59,z60,z61,z62,List.reduceReplicate,z63,z64,z65,z66,z67,chunks]; (first | done | exact rfl))) | (refine W_cT ?_ ?_; focus (simp only [evx,List.contains,List.elem,z2,z3,AV.unf,reduceIte,z23,boolD]; done)) | (refine W_cF ?_ ?_; focus (simp only [evx,List.contains,List.elem,z2,z3,AV.unf,reduceIte,z23,boolD]; done))) <;> (try simp only [seqK,blockK,loopK,onlyK,forgetT,put,unflag,z4,z5,z2,z3,AV.unf,reduceIte,Nat.reduceEqDiff,Nat.reduceAdd])))
  cases h1 : shortB f.ty with
  | false =>
    rw [h1] at s1
    (apply W_drw; focus (refine Evl.call (s1) (Evl.all fun k e1 => ?_); simp (maxSteps := 100000000) only [evalR,runOps,stepOp,wanted,aop,evx,put,unflag,AV.unf,AV.mkAgg,AV.pures,readCells,List.contains,List.elem,z2,z3,z4,z5,z7,z8,z9,z10,z11,z13,z14,z15,Option.map,boolD,reduceIte,z23,forgetT,Nat.reduceAdd,Nat.reduceLeDiff,z25,z26,z29,z32,z45,gK, e1]; (first | done | exact rfl))) <;> (try simp only [seqK])
    (repeat ((first | refine W_sq ?_ | refine W_bk ?_ | refine W_ret ?_ | refine W_exit ?_ | refine W_skip ?_ | (apply W_rg; focus (intro _; simp only [z0,srcC,AV.growable,AV.owned,evalC,evalR,runOps,stepOp,wanted,aop,evx,put,unflag,binV,nilEq,isShift,binStr,unV,AV.elems,AV.unf,AV.int?,AV.toD,AV.toDs,AV.mkAgg,AV.pures,AV.cells,D.cells,AV.isCell,D.isCell,readCells,readD,optInt,fill,splice,srcOf,z1,List.contains,List.elem,z2,z3,z4,z5,z6,z7,z8,z9,z10,z11,z12,z13,z14,z15,z16,z17,z18,z19,z20,z21,z22,Option.map,intD,boolD,bD,reduceIte,z23,z24,forgetT,Nat.reduceAdd,Nat.reduceLeDiff,Nat.reduceMul,Nat.reduceSub,Nat.reduceEqDiff,Nat.reduceBEq,Nat.reduceBNe,z25,z26,z27,z28,z29,z30,z31,z32,z33,z34,z35,z36,z37,z38,z39,z40,z41,z42,z43,z44,z45,z46,z47,z48,z49,z50,z51,z52,Int.reduceToNat,z53,z54,z55,z56,z57,z58,Int.reduceBEq,Int.reduceBNe,Int.reduceLT,Int.reduceLE,Int.reduceGT,Int.reduceGE,Int.reduceEq,z59,z60,z61,z62,List.reduceReplicate,z63,z64,z65,z66,z67,chunks]; (first | done | exact rfl))) | (refine W_cT ?_ ?_; focus (simp only [evx,List.contains,List.elem,z2,z3,AV.unf,reduceIte,z23,boolD]; done)) | (refine W_cF ?_ ?_; focus (simp only [evx,List.contains,List.elem,z2,z3,AV.unf,reduceIte,z23,boolD]; done))) <;> (try simp only [seqK,blockK,loopK,onlyK,forgetT,put,unflag,z4,z5,z2,z3,AV.unf,reduceIte,Nat.reduceEqDiff,Nat.reduceAdd])))
    exact ans_cut rfl rfl ⟨rfl, rfl⟩
  | true =>
    rw [h1] at s1
    cases h2 : shortB f.nty with
    | false =>
      rw [h2] at s2
      (apply W_drw; focus (refine Evl.call (s1) (Evl.call (s2) (Evl.all fun k e2 e1 => ?_)); simp (maxSteps := 100000000) only [evalR,runOps,stepOp,wanted,aop,evx,put,unflag,AV.unf,AV.mkAgg,AV.pures,readCells,List.contains,List.elem,z2,z3,z4,z5,z6,z7,z8,z9,z10,z11,z12,z13,z14,z15,Option.map,boolD,reduceIte,z23,forgetT,Nat.reduceAdd,Nat.reduceLeDiff,z25,z26,z29,z32,z45,gK, e2, e1]; (first | done | exact rfl))) <;> (try simp only [seqK])
      (repeat ((first | refine W_sq ?_ | refine W_bk ?_ | refine W_ret ?_ | refine W_exit ?_ | refine W_skip ?_ | (apply W_rg; focus (intro _; simp only [z0,srcC,AV.growable,AV.owned,evalC,evalR,runOps,stepOp,wanted,aop,evx,put,unflag,binV,nilEq,isShift,binStr,unV,AV.elems,AV.unf,AV.int?,AV.toD,AV.toDs,AV.mkAgg,AV.pures,AV.cells,D.cells,AV.isCell,D.isCell,readCells,readD,optInt,fill,splice,srcOf,z1,List.contains,List.elem,z2,z3,z4,z5,z6,z7,z8,z9,z10,z11,z12,z13,z14,z15,z16,z17,z18,z19,z20,z21,z22,Option.map,intD,boolD,bD,reduceIte,z23,z24,forgetT,Nat.reduceAdd,Nat.reduceLeDiff,Nat.reduceMul,Nat.reduceSub,Nat.reduceEqDiff,Nat.reduceBEq,Nat.reduceBNe,z25,z26,z27,z28,z29,z30,z31,z32,z33,z34,z35,z36,z37,z38,z39,z40,z41,z42,z43,z44,z45,z46,z47,z48,z49,z50,z51,z52,Int.reduceToNat,z53,z54,z55,z56,z57,z58,Int.reduceBEq,Int.reduceBNe,Int.reduceLT,Int.reduceLE,Int.reduceGT,Int.reduceGE,Int.reduceEq,z59,z60,z61,z62,List.reduceReplicate,z63,z64,z65,z66,z67,chunks]; (first | done | exact rfl))) | (refine W_cT ?_ ?_; focus (simp only [evx,List.contains,List.elem,z2,z3,AV.unf,reduceIte,z23,boolD]; done)) | (refine W_cF ?_ ?_; focus (simp only [evx,List.contains,List.elem,z2,z3,AV.unf,reduceIte,z23,boolD]; done))) <;> (try simp only [seqK,blockK,loopK,onlyK,forgetT,put,unflag,z4,z5,z2,z3,AV.unf,reduceIte,Nat.reduceEqDiff,Nat.reduceAdd])))
      exact ans_cut rfl rfl ⟨rfl, rfl⟩
    | true =>
      rw [h2] at s2
      cases h3 : shortB f.sn with
      | false =>
        rw [h3] at s3
        (apply W_drw; focus (refine Evl.call (s1) (Evl.call (s2) (Evl.call (s3) (Evl.all fun k e3 e2 e1 => ?_))); simp (maxSteps := 100000000) only [evalR,runOps,stepOp,wanted,aop,evx,put,unflag,AV.unf,AV.mkAgg,AV.pures,readCells,List.contains,List.elem,z2,z3,z4,z5,z6,z7,z8,z9,z10,z11,z12,z13,z14,z15,Option.map,boolD,reduceIte,z23,forgetT,Nat.reduceAdd,Nat.reduceLeDiff,z25,z26,z29,z32,z45,gK, e3, e2, e1]; (first | done | exact rfl))) <;> (try simp only [seqK])
        (repeat ((first | refine W_sq ?_ | refine W_bk ?_ | refine W_ret ?_ | refine W_exit ?_ | refine W_skip ?_ | (apply W_rg; focus (intro _; simp only [z0,srcC,AV.growable,AV.owned,evalC,evalR,runOps,stepOp,wanted,aop,evx,put,unflag,binV,nilEq,isShift,binStr,unV,AV.elems,AV.unf,AV.int?,AV.toD,AV.toDs,AV.mkAgg,AV.pures,AV.cells,D.cells,AV.isCell,D.isCell,readCells,readD,optInt,fill,splice,srcOf,z1,List.contains,List.elem,z2,z3,z4,z5,z6,z7,z8,z9,z10,z11,z12,z13,z14,z15,z16,z17,z18,z19,z20,z21,z22,Option.map,intD,boolD,bD,reduceIte,z23,z24,forgetT,Nat.reduceAdd,Nat.reduceLeDiff,Nat.reduceMul,Nat.reduceSub,Nat.reduceEqDiff,Nat.reduceBEq,Nat.reduceBNe,z25,z26,z27,z28,z29,z30,z31,z32,z33,z34,z35,z36,z37,z38,z39,z40,z41,z42,z43,z44,z45,z46,z47,z48,z49,z50,z51,z52,Int.reduceToNat,z53,z54,z55,z56,z57,z58,Int.reduceBEq,Int.reduceBNe,Int.reduceLT,Int.reduceLE,Int.reduceGT,Int.reduceGE,Int.reduceEq,z59,z60,z61,z62,List.reduceReplicate,z63,z64,z65,z66,z67,chunks]; (first | done | exact rfl))) | (refine W_cT ?_ ?_; focus (simp only [evx,List.contains,List.elem,z2,z3,AV.unf,reduceIte,z23,boolD]; done)) | (refine W_cF ?_ ?_; focus (simp only [evx,List.contains,List.elem,z2,z3,AV.unf,reduceIte,z23,boolD]; done))) <;> (try simp only [seqK,blockK,loopK,onlyK,forgetT,put,unflag,z4,z5,z2,z3,AV.unf,reduceIte,Nat.reduceEqDiff,Nat.reduceAdd])))
        exact ans_cut rfl rfl ⟨rfl, rfl⟩
      | true =>
        rw [h3] at s3
        (apply W_drw; focus (refine Evl.call (s1) (Evl.call (s2) (Evl.call (s3) (Evl.call (s4) (Evl.all fun k e4 e3 e2 e1 => ?_)))); simp (maxSteps := 100000000) only [evalR,runOps,stepOp,wanted,aop,evx,put,unflag,AV.unf,AV.mkAgg,AV.pures,readCells,List.contains,List.elem,z2,z3,z4,z5,z6,z7,z8,z9,z10,z11,z12,z13,z14,z15,Option.map,boolD,reduceIte,z23,forgetT,Nat.reduceAdd,Nat.reduceLeDiff,z25,z26,z29,gK, e4, e3, e2, e1]; (first | done | exact rfl))) <;> (try simp only [seqK])
        (repeat ((first | refine W_sq ?_ | refine W_bk ?_ | refine W_ret ?_ | refine W_exit ?_ | refine W_skip ?_ | (apply W_rg; focus (intro _; simp only [z0,srcC,AV.growable,AV.owned,evalC,evalR,runOps,stepOp,wanted,aop,evx,put,unflag,binV,nilEq,isShift,binStr,unV,AV.elems,AV.unf,AV.int?,AV.toD,AV.toDs,AV.mkAgg,AV.pures,AV.cells,D.cells,AV.isCell,D.isCell,readCells,readD,optInt,fill,splice,srcOf,z1,List.contains,List.elem,z2,z3,z4,z5,z6,z7,z8,z9,z10,z11,z12,z13,z14,z15,z16,z17,z18,z19,z20,z21,z22,Option.map,intD,boolD,bD,reduceIte,z23,z24,forgetT,Nat.reduceAdd,Nat.reduceLeDiff,Nat.reduceMul,Nat.reduceSub,Nat.reduceEqDiff,Nat.reduceBEq,Nat.reduceBNe,z25,z26,z27,z28,z29,z30,z31,z32,z33,z34,z35,z36,z37,z38,z39,z40,z41,z42,z43,z44,z45,z46,z47,z48,z49,z50,z51,z52,Int.reduceToNat,z53,z54,z55,z56,z57,z58,Int.reduceBEq,Int.reduceBNe,Int.reduceLT,Int.reduceLE,Int.reduceGT,Int.reduceGE,Int.reduceEq,z59,z60,z61,z62,List.reduceReplicate,z63,z64,z65,z66,z67,chunks]; (first | done | exact rfl))) | (refine W_cT ?_ ?_; focus (simp only [evx,List.contains,List.elem,z2,z3,AV.unf,reduceIte,z23,boolD]; done)) | (refine W_cF ?_ ?_; focus (simp only [evx,List.contains,List.elem,z2,z3,AV.unf,reduceIte,z23,boolD]; done))) <;> (try simp only [seqK,blockK,loopK,onlyK,forgetT,put,unflag,z4,z5,z2,z3,AV.unf,reduceIte,Nat.reduceEqDiff,Nat.reduceAdd])))
        exact ans_cut rfl rfl ⟨by simp, rfl⟩

end Go.Proofs.YtoimlfaiibadgaaDoor
