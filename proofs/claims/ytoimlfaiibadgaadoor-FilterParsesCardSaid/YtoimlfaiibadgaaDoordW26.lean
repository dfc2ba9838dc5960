/- A content's reader, and which filter a content tells, of the program, walked. (NOBIN: the arithmetic of numbers is not unfolded.) -/
import Derived.Test.YtoimlfaiibadgaaDoordW22
import Derived.Test.YtoimlfaiibadgaaDoordW23
set_option linter.unusedSimpArgs false
set_option linter.unusedVariables false
set_option linter.all false
set_option maxRecDepth 100000
namespace Go.Proofs.YtoimlfaiibadgaaDoor
open Go Go.Abs Go.Lib

theorem fi_at {ks : List Tx} {key : Tx} {i : Nat} (h : ks[i]? = some key) (hno : ∀ q, q < i → ks[q]? ≠ some key) : ks.findIdx? (· == key) = some i := by
  rw [List.findIdx?_eq_some_iff_getElem]
  obtain ⟨hi, he⟩ := List.getElem?_eq_some_iff.1 h
  refine ⟨hi, by simpa using he, fun j hj => ?_⟩
  have hjl : j < ks.length := by omega
  have := hno j hj
  rw [List.getElem?_eq_getElem hjl] at this
  have h2 : ks[j] ≠ key := fun e => this (by rw [e])
  simpa using h2

theorem fi_no {ks : List Tx} {key : Tx} (hno : ∀ q, q < ks.length → ks[q]? ≠ some key) : ks.findIdx? (· == key) = none := by
  rw [List.findIdx?_eq_none_iff]
  intro x hx
  obtain ⟨q, hq, he⟩ := List.getElem_of_mem hx
  have := hno q hq
  rw [List.getElem?_eq_getElem hq, he] at this
  have h2 : x ≠ key := fun e => this (by rw [e])
  simpa using h2

def idxI (ks : List Tx) (key : Tx) : Int := match ks.findIdx? (· == key) with
  | some i => (i : Nat)
  | none => -1

theorem Index_ev (lim : Nat) (H : AHeap) (ks : List Tx) (key : Tx) (hk : ks.length ≤ 100000) : Ev X 61 lim [.d (sD ks), .d (.str key)] H (.d (.int .i64 (idxI ks key))) H := by
  refine Fn.ev ?_
  refine Fn_of rfl (show code 61 = some c61 from rfl) rfl ?_; simp only [List.length_cons, List.length_nil, Nat.reduceAdd, Nat.reduceSub, List.reduceReplicate, List.cons_append, List.nil_append, reduceIte, Bool.false_eq_true]
  (repeat ((first | refine W_sq ?_ | refine W_bk ?_ | refine W_ret ?_ | refine W_exit ?_ | refine W_skip ?_ | (apply W_rg; focus (intro _; simp only [evalR,runOps,stepOp,wanted,aop,evx,put,unflag,AV.elems,AV.unf,List.contains,List.elem,z3,z4,z5,Option.map,intD,reduceIte,z23,forgetT,List.length_map]; (first | done | exact rfl))) | (refine W_cT ?_ ?_; focus (simp only [evx,List.contains,List.elem,z2,z3,AV.unf,reduceIte,z23,boolD]; done)) | (refine W_cF ?_ ?_; focus (simp only [evx,List.contains,List.elem,z2,z3,AV.unf,reduceIte,z23,boolD]; done))) <;> (try simp only [seqK])))
  refine W_lp (fun k st => ∃ i : Nat, i ≤ ks.length ∧ k = ks.length - i ∧ (∀ q, q < i → ks[q]? ≠ some key) ∧ ∃ x : Nat → AV, st = ⟨[.d (sD ks), .d (.str key), x 2, x 3, intD 0, intD ks.length, intD i, x 7, x 8], H⟩) ?_ _ _ ⟨0, Nat.zero_le _, rfl, fun q hq => by omega, ex_st _ _ _ rfl⟩
  rintro k _ ⟨i, hi, rfl, hno, x, rfl⟩
  by_cases t0 : i < ks.length
  · have f1 : ((i : Int) < (ks.length : Int)) = True := eq_true (by omega)
    have w1 : IntKind.i64.wrap ((i : Int) + 1) = ((i + 1 : Nat) : Int) := wsucc (by omega)
    obtain ⟨s, hs⟩ : ∃ s, ks[i]? = some s := ⟨_, List.getElem?_eq_getElem t0⟩
    have hcl : (D.str s).cells = [D.str s] := rfl
    by_cases h1 : key = s
    · subst h1
      have f3 : (key == key) = true := by simp
      have hr : idxI ks key = (i : Nat) := by unfold idxI; rw [fi_at hs hno]
      rw [hr]
      (repeat ((first | refine W_sq ?_ | refine W_bk ?_ | refine W_ret ?_ | refine W_exit ?_ | refine W_skip ?_ | (apply W_rg; focus (intro _; simp only [evalR,runOps,stepOp,wanted,aop,evx,put,unflag,binV,isShift,binStr,AV.elems,AV.unf,AV.int?,D.cells,readD,List.contains,List.elem,z2,z3,z4,z5,z7,z10,z11,z14,z15,Option.map,intD,reduceIte,z23,forgetT,z26,z29,z42,z51,z52,z55,z62,b_lss, f1, hs]; (first | done | exact rfl))) | (refine W_cT ?_ ?_; focus (simp only [evx,List.contains,List.elem,z2,z3,AV.unf,reduceIte,z23]; done)) | (refine W_cF ?_ ?_; focus (simp only [evx,List.contains,List.elem,z2,z3,AV.unf,reduceIte,z23,boolD]; done))) <;> (try simp only [seqK,blockK,loopK])))
      exact ans_cut rfl rfl ⟨rfl, rfl⟩
    · have f3 : (key == s) = false := by simpa using h1
      (repeat ((first | refine W_sq ?_ | refine W_bk ?_ | refine W_ret ?_ | refine W_exit ?_ | refine W_skip ?_ | (apply W_rg; focus (intro _; simp only [evalR,runOps,stepOp,wanted,aop,evx,put,unflag,binV,isShift,binStr,AV.elems,AV.unf,AV.int?,D.cells,readD,List.contains,List.elem,z2,z3,z4,z5,z7,z10,z11,z14,z15,Option.map,intD,reduceIte,z23,forgetT,z26,z29,z42,z51,z52,z55,z62,b_lss, b_add, f1, f3, hs, w1]; (first | done | exact rfl))) | (refine W_cT ?_ ?_; focus (simp only [evx,List.contains,List.elem,z2,z3,AV.unf,reduceIte,z23]; done)) | (refine W_cF ?_ ?_; focus (simp only [evx,List.contains,List.elem,z2,z3,AV.unf,reduceIte,z23]; done))) <;> (try simp only [seqK,blockK,loopK])))
      refine ⟨ks.length - (i + 1), by omega, i + 1, t0, rfl, fun q hq => ?_, ex_st _ _ _ rfl⟩
      by_cases hqi : q < i
      · exact hno q hqi
      · obtain rfl : q = i := by omega
        rw [hs]; exact fun e => h1 (Option.some.inj e).symm
  · obtain rfl : i = ks.length := by omega
    have f1 : ((ks.length : Int) < (ks.length : Int)) = False := eq_false (by omega)
    have hr : idxI ks key = -1 := by unfold idxI; rw [fi_no hno]
    rw [hr]
    (repeat ((first | refine W_sq ?_ | refine W_bk ?_ | refine W_ret ?_ | refine W_exit ?_ | refine W_skip ?_ | (apply W_rg; focus (intro _; simp only [evalR,runOps,stepOp,wanted,aop,evx,put,unflag,binV,isShift,AV.unf,List.contains,List.elem,z2,z3,z4,z5,Option.map,intD,reduceIte,z23,forgetT,z43,b_lss, f1]; (first | done | exact rfl))) | (refine W_cT ?_ ?_; focus (simp only [evx,List.contains,List.elem,z2,z3,AV.unf,reduceIte,z23]; done)) | (refine W_cF ?_ ?_; focus (simp only [evx,List.contains,List.elem,z2,z3,AV.unf,reduceIte,z23]; done))) <;> (try simp only [seqK,blockK,loopK,reduceIte])))
    exact ans_cut rfl rfl ⟨rfl, rfl⟩

/-- A reader's cells. -/
abbrev rC (c : J) (b : Bool) : List AV := [.d (.int .i64 c.k), .d (.int .i64 c.n), .d (.str c.t), .d (sD c.ks), .d (jsD c.l), .d (.bool b)]

theorem value_ev (lim : Nat) (H : AHeap) (r : Nat) (c : J) (b : Bool) (key : Tx) (hc : Mp c) (hr : H[r]? = some (.cells (rC c b))) : Ev X 48 lim [.ptr r 0, .d (.str key)] H (getV c key) H := by
  refine Fn.ev ?_
  refine Fn_of rfl (show code 48 = some c48 from rfl) rfl ?_; simp only [List.length_cons, List.length_nil, Nat.reduceAdd, Nat.reduceSub, List.reduceReplicate, List.cons_append, List.nil_append, reduceIte, Bool.false_eq_true]
  obtain ⟨K, hK⟩ : ∃ K, H ++ [AObj.cells zC] = K := ⟨_, rfl⟩
  have gK : K[r]? = some (.cells (rC c b)) := by rw [← hK]; exact get_more _ hr
  have gK2 : K[H.length]? = some (.cells zC) := by rw [← hK]; exact get_last _ _
  have lK : H.length < K.length := by rw [← hK]; simp
  have gS : ∀ o : AObj, (K.set H.length o)[H.length]? = some o := fun o => List.getElem?_set_self lK
  have he := Index_ev H.length K c.ks key hc.sh.2.1
  have hle := hc.len
  (iterate 2 ((first | refine W_sq ?_ | refine W_bk ?_ | refine W_ret ?_ | refine W_exit ?_ | refine W_skip ?_ | (apply W_rg; focus (intro _; simp only [evalR,runOps,stepOp,wanted,aop,evx,put,unflag,z4,z5,forgetT,hK]; (first | done | exact rfl))) | (refine W_cT ?_ ?_; focus (simp only [evx,List.contains,List.elem,z2,z3,AV.unf,reduceIte,z23,boolD]; done)) | (refine W_cF ?_ ?_; focus (simp only [evx,List.contains,List.elem,z2,z3,AV.unf,reduceIte,z23,boolD]; done))) <;> (try simp only [seqK])))
  (iterate 1 ((first | refine W_sq ?_ | refine W_bk ?_ | refine W_ret ?_ | refine W_exit ?_ | refine W_skip ?_ | (apply W_rg; focus (intro _; simp only [z0,srcC,AV.growable,AV.owned,evalC,evalR,runOps,stepOp,wanted,aop,evx,put,unflag,binV,nilEq,isShift,binStr,unV,AV.elems,AV.unf,AV.int?,AV.toD,AV.toDs,AV.mkAgg,AV.pures,AV.cells,D.cells,AV.isCell,D.isCell,readCells,readD,optInt,fill,splice,srcOf,z1,List.contains,List.elem,z2,z3,z4,z5,z6,z7,z8,z9,z10,z11,z12,z13,z14,z15,z16,z17,z18,z19,z20,z21,z22,Option.map,intD,boolD,bD,reduceIte,z23,z24,forgetT,Nat.reduceAdd,Nat.reduceLeDiff,Nat.reduceMul,Nat.reduceSub,Nat.reduceEqDiff,Nat.reduceBEq,Nat.reduceBNe,z25,z26,z27,z28,z29,z30,z31,z32,z33,z34,z35,z36,z37,z38,z39,z40,z41,z42,z43,z44,z45,z46,z47,z48,z49,z50,z51,z52,Int.reduceToNat,z53,z54,z55,z56,z57,z58,Int.reduceBEq,Int.reduceBNe,Int.reduceLT,Int.reduceLE,Int.reduceGT,Int.reduceGE,Int.reduceEq,z59,z60,z61,z62,List.reduceReplicate,z63,z64,z65,z66,z67,chunks]; (first | done | exact rfl))) | (refine W_cT ?_ ?_; focus (simp only [evx,List.contains,List.elem,z2,z3,AV.unf,reduceIte,z23,boolD]; done)) | (refine W_cF ?_ ?_; focus (simp only [evx,List.contains,List.elem,z2,z3,AV.unf,reduceIte,z23,boolD]; done))) <;> (try simp only [seqK,blockK,loopK,onlyK,forgetT,put,unflag,z4,z5,z2,z3,AV.unf,reduceIte,Nat.reduceEqDiff,Nat.reduceAdd])))
  cases hfi : c.ks.findIdx? (· == key) with
  | none =>
    have hi : idxI c.ks key = -1 := by unfold idxI; rw [hfi]
    rw [hi] at he
    have hg : getV c key = .tuple [.d J.zero.d, boolD false] := by unfold getV getJ; rw [hfi]; rfl
    rw [hg, zero_d]
    (apply W_drw; focus (refine Evl.call (he) (Evl.all fun k e1 => ?_); simp (maxSteps := 100000000) only [evalR,runOps,stepOp,wanted,aop,evx,put,unflag,AV.unf,AV.mkAgg,AV.pures,readCells,List.contains,List.elem,z2,z3,z4,z5,z6,z7,z8,z9,z10,z11,z12,z13,z14,z15,Option.map,reduceIte,z23,forgetT,Nat.reduceAdd,Nat.reduceLeDiff,z25,z26,z29,gK, e1]; (first | done | exact rfl))) <;> (try simp only [seqK])
    (repeat ((first | refine W_sq ?_ | refine W_bk ?_ | refine W_ret ?_ | refine W_exit ?_ | refine W_skip ?_ | (apply W_rg; focus (intro _; simp only [evalR,runOps,stepOp,wanted,aop,evx,put,unflag,binV,isShift,AV.unf,AV.mkAgg,AV.pures,AV.cells,AV.isCell,D.isCell,fill,splice,List.contains,List.elem,z2,z3,z4,z5,z9,z11,z12,z13,z14,z15,z18,z19,z20,z22,Option.map,reduceIte,z23,forgetT,Nat.reduceAdd,Nat.reduceBEq,z26,z29,z34,z42,z48,z51,Int.reduceLT,gK2, b_lss]; (first | done | exact rfl))) | (refine W_cT ?_ ?_; focus (simp only [evx,List.contains,List.elem,z2,z3,AV.unf,reduceIte,z23]; done)) | (refine W_cF ?_ ?_; focus (simp only [evx,List.contains,List.elem,z2,z3,AV.unf,reduceIte,z23,boolD]; done))) <;> (try simp only [seqK])))
    exact ans_cut (v := .tuple [.d (.agg [.int .i64 0, .int .i64 0, .str [], .slice [], .slice []]), boolD false]) (by simp only [AV.unf,AV.mkAgg,AV.pures,readCells,z2,z3,z7,z8,z9,z10,z11,z13,z14,z15,Option.map,reduceIte,Nat.reduceAdd,z26,z51,resV, gS]; rfl) rfl ⟨rfl, rfl⟩
  | some i =>
    have hi : idxI c.ks key = (i : Nat) := by unfold idxI; rw [hfi]
    rw [hi] at he
    have hil : i < c.ks.length := by
      rw [List.findIdx?_eq_some_iff_getElem] at hfi
      exact hfi.1
    obtain ⟨v, hv⟩ : ∃ v, c.l[i]? = some v := ⟨_, List.getElem?_eq_getElem (by omega)⟩
    have hvd := jd v
    have hg : getV c key = .tuple [.d v.d, boolD true] := by unfold getV getJ; rw [hfi]; simp only [hv]; rfl
    rw [hg, hvd]
    have f1 : ((i : Int) < 0) = False := eq_false (by omega)
    (apply W_drw; focus (refine Evl.call (he) (Evl.all fun k e1 => ?_); simp (maxSteps := 100000000) only [evalR,runOps,stepOp,wanted,aop,evx,put,unflag,AV.unf,AV.mkAgg,AV.pures,readCells,List.contains,List.elem,z2,z3,z4,z5,z6,z7,z8,z9,z10,z11,z12,z13,z14,z15,Option.map,reduceIte,z23,forgetT,Nat.reduceAdd,Nat.reduceLeDiff,z25,z26,z29,gK, e1]; (first | done | exact rfl))) <;> (try simp only [seqK])
    (repeat ((first | refine W_sq ?_ | refine W_bk ?_ | refine W_ret ?_ | refine W_exit ?_ | refine W_skip ?_ | (apply W_rg; focus (intro _; simp only [evalR,runOps,stepOp,wanted,aop,evx,put,unflag,binV,isShift,AV.elems,AV.unf,AV.int?,AV.mkAgg,AV.pures,AV.cells,D.cells,AV.isCell,D.isCell,readCells,readD,splice,List.contains,List.elem,z2,z3,z4,z5,z6,z7,z8,z9,z10,z11,z12,z13,z14,z15,z18,z19,z20,z22,Option.map,reduceIte,z23,forgetT,Nat.reduceAdd,Nat.reduceLeDiff,Nat.reduceBEq,z25,z26,z29,z34,z43,z48,z51,z52,z55,z62,gK, gK2, b_lss, f1, hv, hvd]; (first | done | exact rfl))) | (refine W_cT ?_ ?_; focus (simp only [evx,List.contains,List.elem,z2,z3,AV.unf,reduceIte,z23]; done)) | (refine W_cF ?_ ?_; focus (simp only [evx,List.contains,List.elem,z2,z3,AV.unf,reduceIte,z23]; done))) <;> (try simp only [seqK])))
    exact ans_cut (v := .tuple [.d (.agg [.int .i64 v.k, .int .i64 v.n, .str v.t, sD v.ks, jsD v.l]), boolD true]) (by simp only [AV.unf,AV.mkAgg,AV.pures,readCells,z2,z3,z7,z8,z9,z10,z11,z13,z14,z15,Option.map,reduceIte,Nat.reduceAdd,z26,z51,resV, gS]; rfl) rfl ⟨rfl, rfl⟩

theorem wrong_ev (lim : Nat) (H : AHeap) (y : J) : Ev X 49 lim [.d y.d] H (boolD (!okJ y)) H := by
  refine Fn.ev ?_
  refine Fn_of rfl (show code 49 = some c49 from rfl) rfl ?_; simp only [List.length_cons, List.length_nil, Nat.reduceAdd, Nat.reduceSub, List.reduceReplicate, List.cons_append, List.nil_append, reduceIte, Bool.false_eq_true]
  have hyd := jd y
  by_cases h3 : y.k = 3
  · have f3 : (y.k != 3) = false := by rw [h3]; rfl
    by_cases h2 : y.t.length ≤ 256
    · have f2 : ((y.t.length : Int) > 256) = False := eq_false (by omega)
      have hok : okJ y = true := by simp [okJ, h3, h2]
      rw [hok]
      (repeat ((first | refine W_sq ?_ | refine W_bk ?_ | refine W_ret ?_ | refine W_exit ?_ | refine W_skip ?_ | (apply W_rg; focus (intro _; simp only [evalR,runOps,stepOp,wanted,aop,evx,put,unflag,binV,isShift,AV.unf,AV.mkAgg,AV.pures,AV.cells,D.cells,AV.isCell,D.isCell,readCells,List.contains,List.elem,z2,z3,z4,z5,z6,z7,z8,z9,z10,z11,z12,z13,z14,z15,z18,z19,Option.map,intD,reduceIte,z23,forgetT,Nat.reduceAdd,Nat.reduceLeDiff,z25,z26,z29,z34,z43,z46,hyd, b_neq, b_gtr, f2, f3]; (first | done | exact rfl))) | (refine W_cT ?_ ?_; focus (simp only [evx,List.contains,List.elem,z2,z3,AV.unf,reduceIte,z23,boolD]; done)) | (refine W_cF ?_ ?_; focus (simp only [evx,List.contains,List.elem,z2,z3,AV.unf,reduceIte,z23,boolD]; done))) <;> (try simp only [seqK])))
      exact ans_cut rfl rfl ⟨rfl, rfl⟩
    · have f2 : ((y.t.length : Int) > 256) = True := eq_true (by omega)
      have hok : okJ y = false := by simp [okJ, h2]
      rw [hok]
      (repeat ((first | refine W_sq ?_ | refine W_bk ?_ | refine W_ret ?_ | refine W_exit ?_ | refine W_skip ?_ | (apply W_rg; focus (intro _; simp only [evalR,runOps,stepOp,wanted,aop,evx,put,unflag,binV,isShift,AV.unf,AV.mkAgg,AV.pures,AV.cells,D.cells,AV.isCell,D.isCell,readCells,List.contains,List.elem,z2,z3,z4,z5,z6,z7,z8,z9,z10,z11,z12,z13,z14,z15,z18,z19,Option.map,intD,reduceIte,z23,forgetT,Nat.reduceAdd,Nat.reduceLeDiff,z25,z26,z29,z34,z42,z46,hyd, b_neq, b_gtr, f2, f3]; (first | done | exact rfl))) | (refine W_cT ?_ ?_; focus (simp only [evx,List.contains,List.elem,z2,z3,AV.unf,reduceIte,z23,boolD]; done)) | (refine W_cF ?_ ?_; focus (simp only [evx,List.contains,List.elem,z2,z3,AV.unf,reduceIte,z23,boolD]; done))) <;> (try simp only [seqK])))
      exact ans_cut rfl rfl ⟨rfl, rfl⟩
  · have f3 : (y.k != 3) = true := by simpa using h3
    have hok : okJ y = false := by simp [okJ, h3]
    rw [hok]
    (repeat ((first | refine W_sq ?_ | refine W_bk ?_ | refine W_ret ?_ | refine W_exit ?_ | refine W_skip ?_ | (apply W_rg; focus (intro _; simp only [evalR,runOps,stepOp,wanted,aop,evx,put,unflag,binV,isShift,AV.unf,AV.mkAgg,AV.pures,AV.cells,D.cells,AV.isCell,D.isCell,readCells,List.contains,List.elem,z2,z3,z4,z5,z7,z8,z9,z10,z11,z13,z14,z15,z18,z19,Option.map,reduceIte,z23,forgetT,Nat.reduceAdd,Nat.reduceLeDiff,z25,z26,z29,z34,z44,z46,hyd, b_neq, f3]; (first | done | exact rfl))) | (refine W_cT ?_ ?_; focus (simp only [evx,List.contains,List.elem,z2,z3,AV.unf,reduceIte,z23,boolD]; done)) | (refine W_cF ?_ ?_; focus (simp only [evx,List.contains,List.elem,z2,z3,AV.unf,reduceIte,z23,boolD]; done))) <;> (try simp only [seqK])))
    exact ans_cut rfl rfl ⟨rfl, rfl⟩

theorem oneJ_ev (lim : Nat) (H : AHeap) (l : List J) (hl : l.length ≤ 100000) : Ev X 50 lim [.d (jsD l), .func (.func 49) []] H (boolD (!(l.all okJ))) H := by
  refine Fn.ev ?_
  refine Fn_of rfl (show code 50 = some c50 from rfl) rfl ?_; simp only [List.length_cons, List.length_nil, Nat.reduceAdd, Nat.reduceSub, List.reduceReplicate, List.cons_append, List.nil_append, reduceIte, Bool.false_eq_true]
  (repeat ((first | refine W_sq ?_ | refine W_bk ?_ | refine W_ret ?_ | refine W_exit ?_ | refine W_skip ?_ | (apply W_rg; focus (intro _; simp only [evalR,runOps,stepOp,wanted,aop,evx,put,unflag,AV.elems,AV.unf,List.contains,List.elem,z2,z3,z4,z5,Option.map,intD,reduceIte,z23,forgetT,List.length_map]; (first | done | exact rfl))) | (refine W_cT ?_ ?_; focus (simp only [evx,List.contains,List.elem,z2,z3,AV.unf,reduceIte,z23,boolD]; done)) | (refine W_cF ?_ ?_; focus (simp only [evx,List.contains,List.elem,z2,z3,AV.unf,reduceIte,z23,boolD]; done))) <;> (try simp only [seqK])))
  refine W_lp (fun k st => ∃ (i : Nat) (K : AHeap), i ≤ l.length ∧ k = l.length - i ∧ (l.take i).all okJ = true ∧ H.length ≤ K.length ∧ ∃ x : Nat → AV, st = ⟨[x 0, .func (.func 49) [], x 2, x 3, boolD false, .d (jsD l), intD l.length, intD i, x 8, x 9], K⟩) ?_ _ _ ⟨0, _, Nat.zero_le _, rfl, rfl, Nat.le_refl _, ex_st _ _ _ rfl⟩
  rintro k _ ⟨i, K, hi, rfl, ha, hKl, x, rfl⟩
  by_cases t0 : i < l.length
  · have f1 : ((i : Int) < (l.length : Int)) = True := eq_true (by omega)
    have w1 : IntKind.i64.wrap ((i : Int) + 1) = ((i + 1 : Nat) : Int) := wsucc (by omega)
    obtain ⟨y, hy⟩ : ∃ y, l[i]? = some y := ⟨_, List.getElem?_eq_getElem t0⟩
    have hyd := jd y
    have hst := all_cut hy okJ
    rw [ha, Bool.true_and] at hst
    obtain ⟨K2, hK2⟩ : ∃ K2, K ++ [AObj.cells (jC y)] = K2 := ⟨_, rfl⟩
    have gK2 : K2[K.length]? = some (.cells (jC y)) := by rw [← hK2]; exact get_last _ _
    have lK2 : H.length ≤ K2.length := by rw [← hK2]; simp; omega
    have he := wrong_ev H.length K2 y
    simp only [hyd] at he
    (iterate 9 ((first | refine W_sq ?_ | refine W_bk ?_ | refine W_ret ?_ | refine W_exit ?_ | refine W_skip ?_ | (apply W_rg; focus (intro _; simp only [evalR,runOps,stepOp,wanted,aop,evx,put,unflag,binV,isShift,AV.elems,AV.unf,AV.int?,AV.cells,D.cells,AV.isCell,D.isCell,readD,splice,List.contains,List.elem,z2,z3,z4,z5,z7,z8,z9,z10,z11,z12,z13,z14,z15,z18,z19,z20,z22,Option.map,intD,boolD,reduceIte,z23,forgetT,Nat.reduceAdd,Nat.reduceBEq,z26,z29,z34,z42,z46,z47,z48,z51,z52,z55,z62,b_lss, f1, hy, hyd, hKl, hK2]; (first | done | exact rfl))) | (refine W_cT ?_ ?_; focus (simp only [evx,List.contains,List.elem,z2,z3,AV.unf,reduceIte,z23]; done)) | (refine W_cF ?_ ?_; focus (simp only [evx,List.contains,List.elem,z2,z3,AV.unf,reduceIte,z23,boolD]; done))) <;> (try simp only [seqK])))
    refine W_sq ?_
    refine W_region ?_
    apply WO_take 1; (focus (intro _; simp only [runOps,stepOp,wanted,aop,evx,put,unflag,AV.unf,AV.mkAgg,AV.pures,readCells,List.contains,List.elem,z2,z3,z4,z5,z7,z8,z9,z10,z11,z13,z14,z15,Option.map,reduceIte,z23,Nat.reduceAdd,z26,z51,gK2]; (first | done | exact rfl))); simp only [List.drop_succ_cons, List.drop_zero]
    refine WO_callV (f := 49) (caps := []) rfl ?_
    simp only [evx, List.map_cons, List.map_nil, List.contains, List.elem, List.getD_cons_succ, List.getD_cons_zero, reduceIte, Bool.false_eq_true, AV.unf, List.cons_append, List.nil_append]
    refine Ev.fn he ?_
    (apply WO_end; (focus (intro _; simp only [runOps,put,unflag,z4,z5,boolD]; (first | done | exact rfl)))) <;> (try simp only [seqK,forgetT,z4,z5])
    cases hv : okJ y with
    | true =>
      rw [hv] at hst
      simp only [Bool.not_true]
      (repeat ((first | refine W_sq ?_ | refine W_bk ?_ | refine W_ret ?_ | refine W_exit ?_ | refine W_skip ?_ | (apply W_rg; focus (intro _; simp only [evalR,runOps,stepOp,wanted,aop,evx,put,unflag,binV,isShift,AV.unf,List.contains,List.elem,z2,z3,z4,z5,Option.map,reduceIte,z23,forgetT,b_add, w1]; (first | done | exact rfl))) | (refine W_cT ?_ ?_; focus (simp only [evx,List.contains,List.elem,z2,z3,AV.unf,reduceIte,z23]; done)) | (refine W_cF ?_ ?_; focus (simp only [evx,List.contains,List.elem,z2,z3,AV.unf,reduceIte,z23]; done))) <;> (try simp only [seqK,blockK,loopK])))
      exact ⟨l.length - (i + 1), by omega, i + 1, K2, t0, rfl, hst, lK2, ex_st _ _ _ rfl⟩
    | false =>
      rw [all_no hy hv]
      simp only [Bool.not_false]
      (repeat ((first | refine W_sq ?_ | refine W_bk ?_ | refine W_ret ?_ | refine W_exit ?_ | refine W_skip ?_ | (apply W_rg; focus (intro _; simp only [evalR,runOps,stepOp,wanted,aop,evx,put,unflag,z4,z5,forgetT]; (first | done | exact rfl))) | (refine W_cT ?_ ?_; focus (simp only [evx,List.contains,List.elem,z2,z3,AV.unf,reduceIte,z23]; done)) | (refine W_cF ?_ ?_; focus (simp only [evx,List.contains,List.elem,z2,z3,AV.unf,reduceIte,z23,boolD]; done))) <;> (try simp only [seqK,blockK,loopK])))
      exact ans_cut rfl rfl ⟨rfl, rfl⟩
  · obtain rfl : i = l.length := by omega
    have f1 : ((l.length : Int) < (l.length : Int)) = False := eq_false (by omega)
    rw [List.take_length] at ha
    rw [ha]
    (repeat ((first | refine W_sq ?_ | refine W_bk ?_ | refine W_ret ?_ | refine W_exit ?_ | refine W_skip ?_ | (apply W_rg; focus (intro _; simp only [evalR,runOps,stepOp,wanted,aop,evx,put,unflag,binV,isShift,AV.unf,List.contains,List.elem,z2,z3,z4,z5,Option.map,intD,boolD,reduceIte,z23,forgetT,z43,b_lss, f1]; (first | done | exact rfl))) | (refine W_cT ?_ ?_; focus (simp only [evx,List.contains,List.elem,z2,z3,AV.unf,reduceIte,z23]; done)) | (refine W_cF ?_ ?_; focus (simp only [evx,List.contains,List.elem,z2,z3,AV.unf,reduceIte,z23]; done))) <;> (try simp only [seqK,blockK,loopK,reduceIte])))
    exact ans_cut rfl rfl ⟨rfl, rfl⟩

/-- What a reader's reading leaves: the reader, and all else as it was. -/
def Kept (H : AHeap) (r : Nat) (c : J) (b : Bool) (H' : AHeap) : Prop := H.length ≤ H'.length ∧ H'[r]? = some (.cells (rC c b)) ∧ ∀ q, q < H.length → q ≠ r → H'[q]? = H[q]?

theorem Kept.get {H H' : AHeap} {r : Nat} {c : J} {b : Bool} (h : Kept H r c b H') {q : Nat} {o : AObj} (hq : q ≠ r) (ho : H[q]? = some o) : H'[q]? = some o := by
  rw [h.2.2 q (List.getElem?_eq_some_iff.1 ho).1 hq]; exact ho

def TextsQ (H : AHeap) (r : Nat) (c : J) (b : Bool) (o : Option (List Tx)) (v : AV) (H' : AHeap) : Prop := v = .fslice ((o.getD []).map D.str) ∧ Kept H r c (b || o.isNone) H'

theorem textsP_ev (lim : Nat) (H : AHeap) (r : Nat) (c : J) (b : Bool) (key : Tx) (hc : Mp c) (hr : H[r]? = some (.cells (rC c b))) (hlr : lim ≤ r) (hll : lim ≤ H.length) :
    Go.Abs.Fn X 29 lim [.ptr r 0, .d (.str key)] H (TextsQ H r c b (textsJ (getJ c key))) := by
  refine Fn_of rfl (show code 29 = some c29 from rfl) rfl ?_; simp only [List.length_cons, List.length_nil, Nat.reduceAdd, Nat.reduceSub, List.reduceReplicate, List.cons_append, List.nil_append, reduceIte]
  have hrl := (List.getElem?_eq_some_iff.1 hr).1
  have he := value_ev lim H r c b key hc hr
  unfold getV at he
  (iterate 3 ((first | refine W_sq ?_ | refine W_bk ?_ | refine W_ret ?_ | refine W_exit ?_ | refine W_skip ?_ | (apply W_rg; focus (intro _; simp only [evalR,runOps,stepOp,wanted,aop,evx,put,unflag,z4,z5,forgetT]; (first | done | exact rfl))) | (refine W_cT ?_ ?_; focus (simp only [evx,List.contains,List.elem,z2,z3,AV.unf,reduceIte,z23,boolD]; done)) | (refine W_cF ?_ ?_; focus (simp only [evx,List.contains,List.elem,z2,z3,AV.unf,reduceIte,z23,boolD]; done))) <;> (try simp only [seqK])))
  cases hg : getJ c key with
  | none =>
    rw [hg] at he
    simp only [Option.getD_none, Option.isSome_none, zero_d] at he
    (apply W_drw; focus (refine Evl.call (he) (Evl.all fun k e1 => ?_); simp (maxSteps := 100000000) only [evalR,runOps,stepOp,wanted,aop,evx,put,unflag,AV.unf,AV.cells,D.cells,AV.isCell,D.isCell,splice,List.contains,List.elem,z2,z3,z4,z5,z6,z7,z8,z9,z11,z12,z13,z14,z15,z18,z19,z20,z22,Option.map,boolD,reduceIte,z23,forgetT,Nat.reduceAdd,Nat.reduceBEq,z26,z29,z34,z46,z47,z48,z51,z18,z19,Nat.reduceBEq,hll, e1]; (first | done | exact rfl))) <;> (try simp only [seqK])
    (repeat ((first | refine W_sq ?_ | refine W_bk ?_ | refine W_ret ?_ | refine W_exit ?_ | refine W_skip ?_ | (apply W_rg; focus (intro _; simp only [evalR,runOps,stepOp,wanted,aop,evx,put,unflag,unV,AV.unf,List.contains,List.elem,z2,z3,z4,z5,Option.map,boolD,reduceIte,z23,forgetT,z31]; (first | done | exact rfl))) | (refine W_cT ?_ ?_; focus (simp only [evx,List.contains,List.elem,z2,z3,AV.unf,reduceIte,z23]; done)) | (refine W_cF ?_ ?_; focus (simp only [evx,List.contains,List.elem,z2,z3,AV.unf,reduceIte,z23,boolD]; done))) <;> (try simp only [seqK])))
    refine ans_keep rfl ⟨rfl, ?_, ?_, fun q hq _ => ?_⟩
    · simp
    · have : (b || (textsJ none).isNone) = b := by cases b <;> rfl
      rw [this]; exact get_more _ hr
    · exact List.getElem?_append_left hq
  | some v =>
    rw [hg] at he
    have hvd := jd v
    simp only [Option.getD_some, Option.isSome_some, hvd] at he
    obtain ⟨K, hK⟩ : ∃ K, H ++ [AObj.cells (jC v)] = K := ⟨_, rfl⟩
    have gK : K[H.length]? = some (.cells (jC v)) := by rw [← hK]; exact get_last _ _
    have gKr : K[r]? = some (.cells (rC c b)) := by rw [← hK]; exact get_more _ hr
    have lK : K.length = H.length + 1 := by rw [← hK]; simp
    have gKo : ∀ q, q < H.length → K[q]? = H[q]? := fun q hq => by rw [← hK]; exact List.getElem?_append_left hq
    (apply W_drw; focus (refine Evl.call (he) (Evl.all fun k e1 => ?_); simp (maxSteps := 100000000) only [evalR,runOps,stepOp,wanted,aop,evx,put,unflag,AV.unf,AV.cells,D.cells,AV.isCell,D.isCell,splice,List.contains,List.elem,z2,z3,z4,z5,z6,z7,z8,z9,z11,z12,z13,z14,z15,z18,z19,z20,z22,Option.map,boolD,reduceIte,z23,forgetT,Nat.reduceAdd,Nat.reduceBEq,z26,z29,z34,z46,z47,z48,z51,z18,z19,Nat.reduceBEq,hll, e1]; (first | done | exact rfl))) <;> (try simp only [seqK])
    rw [hK]
    have badQ : ∀ o : Option (List Tx), o = none → TextsQ H r c b o (.fslice []) (K.set r (.cells (rC c true))) := fun o h => by
      rw [h]
      refine ⟨rfl, by simp; omega, ?_, fun q hq hqr => ?_⟩
      · have : (b || (none : Option (List Tx)).isNone) = true := by cases b <;> rfl
        rw [this]; exact List.getElem?_set_self (by omega)
      · rw [List.getElem?_set_ne (fun e => hqr e.symm)]; exact gKo q hq
    have goodQ : ∀ (o : Option (List Tx)) (l : List Tx) (M : AHeap), o = some l → K.length ≤ M.length → M[r]? = some (.cells (rC c b)) → (∀ q, q < K.length → M[q]? = K[q]?) → TextsQ H r c b o (.fslice (l.map D.str)) M := fun o l M h h1 h2 h3 => by
      rw [h]
      refine ⟨rfl, by omega, ?_, fun q hq hqr => ?_⟩
      · have : (b || (some l).isNone) = b := by cases b <;> rfl
        rw [this]; exact h2
      · rw [h3 q (by omega)]; exact gKo q hq
    have hone := oneJ_ev lim K v.l
    by_cases h4 : v.k = 4
    · have f4 : (v.k != 4) = false := by rw [h4]; rfl
      by_cases hl : v.l.length ≤ 100
      · have f5 : ((v.l.length : Int) > 100) = False := eq_false (by omega)
        have hone := hone (by omega)
        rw [texts_some h4 hl]
        (iterate 8 ((first | refine W_sq ?_ | refine W_bk ?_ | refine W_ret ?_ | refine W_exit ?_ | refine W_skip ?_ | (apply W_rg; focus (intro _; simp only [evalR,runOps,stepOp,wanted,aop,evx,put,unflag,unV,AV.unf,List.contains,List.elem,z2,z3,z4,z5,Option.map,boolD,reduceIte,z23,forgetT,z32]; (first | done | exact rfl))) | (refine W_cT ?_ ?_; focus (simp only [evx,List.contains,List.elem,z2,z3,AV.unf,reduceIte,z23]; done)) | (refine W_cF ?_ ?_; focus (simp only [evx,List.contains,List.elem,z2,z3,AV.unf,reduceIte,z23]; done))) <;> (try simp only [seqK])))
        cases ha : v.l.all okJ with
        | true =>
          rw [ha] at hone
          simp only [Bool.not_true] at hone
          rw [if_pos rfl]
          (apply W_drw; focus (refine Evl.call (hone) (Evl.all fun k e1 => ?_); simp (maxSteps := 100000000) only [evalR,runOps,stepOp,wanted,aop,evx,put,unflag,binV,isShift,AV.elems,AV.unf,AV.mkAgg,AV.pures,readCells,List.contains,List.elem,z2,z3,z4,z5,z6,z7,z8,z9,z10,z11,z12,z13,z14,z15,Option.map,intD,boolD,reduceIte,z23,forgetT,Nat.reduceAdd,Nat.reduceLeDiff,z25,z26,z29,z43,z51,gK, b_neq, b_gtr, f4, f5, List.length_map, e1]; (first | done | exact rfl))) <;> (try simp only [seqK])
          (repeat ((first | refine W_sq ?_ | refine W_bk ?_ | refine W_ret ?_ | refine W_exit ?_ | refine W_skip ?_ | (apply W_rg; focus (intro _; simp only [evalR,runOps,stepOp,wanted,aop,evx,put,unflag,AV.elems,AV.unf,AV.mkAgg,AV.pures,readCells,List.contains,List.elem,z2,z3,z4,z5,z6,z7,z8,z9,z10,z11,z12,z13,z14,z15,Option.map,intD,reduceIte,z23,forgetT,Nat.reduceAdd,z26,z51,gK, List.length_map]; (first | done | exact rfl))) | (refine W_cT ?_ ?_; focus (simp only [evx,List.contains,List.elem,z2,z3,AV.unf,reduceIte,z23]; done)) | (refine W_cF ?_ ?_; focus (simp only [evx,List.contains,List.elem,z2,z3,AV.unf,reduceIte,z23]; done))) <;> (try simp only [seqK])))
          refine W_lp (fun k st => ∃ (i : Nat) (M : AHeap), i ≤ v.l.length ∧ k = v.l.length - i ∧ K.length ≤ M.length ∧ M[r]? = some (.cells (rC c b)) ∧ (∀ q, q < K.length → M[q]? = K[q]?) ∧ ∃ x : Nat → AV, st = ⟨[x 0, x 1, x 2, x 3, x 4, .fslice [], x 6, x 7, x 8, .fslice (tS (v.l.take i)), .d (jsD v.l), intD v.l.length, intD i, x 13, x 14, x 15, x 16], M⟩) ?_ _ _ ⟨0, K, Nat.zero_le _, rfl, Nat.le_refl _, gKr, fun q _ => rfl, ex_st _ _ _ rfl⟩
          rintro k _ ⟨i, M, hi, rfl, hM1, hM2, hM3, x, rfl⟩
          by_cases t0 : i < v.l.length
          · have f1 : ((i : Int) < (v.l.length : Int)) = True := eq_true (by omega)
            have w1 : IntKind.i64.wrap ((i : Int) + 1) = ((i + 1 : Nat) : Int) := wsucc (by omega)
            obtain ⟨y, hy⟩ : ∃ y, v.l[i]? = some y := ⟨_, List.getElem?_eq_getElem t0⟩
            have hyd := jd y
            have hx := tS_step hy
            have hz : headSz 1 (tS (v.l.take i)) = true := headSz_map (sz := 1) (f := D.str) (fun x => rfl) _
            have hlen : (tS (v.l.take i)).length = i := by simp; omega
            have hb : (i + 1) * (16 + 1) ≤ 70368744177664 := by omega
            generalize tS (v.l.take i) = T at *
            obtain ⟨N, hN⟩ : ∃ N, M ++ [AObj.cells (jC y)] = N := ⟨_, rfl⟩
            have gN : N[M.length]? = some (.cells (jC y)) := by rw [← hN]; exact get_last _ _
            have lN : N.length = M.length + 1 := by rw [← hN]; simp
            have hlm : lim ≤ M.length := by omega
            (iterate 9 ((first | refine W_sq ?_ | refine W_bk ?_ | refine W_ret ?_ | refine W_exit ?_ | refine W_skip ?_ | (apply W_rg; focus (intro _; simp only [evalR,runOps,stepOp,wanted,aop,evx,put,unflag,binV,isShift,AV.elems,AV.unf,AV.int?,AV.cells,D.cells,AV.isCell,D.isCell,readD,splice,List.contains,List.elem,z2,z3,z4,z5,z7,z8,z9,z10,z11,z12,z13,z14,z15,z18,z19,z20,z22,Option.map,intD,reduceIte,z23,forgetT,Nat.reduceAdd,Nat.reduceBEq,z26,z29,z34,z42,z46,z47,z48,z51,z52,z55,z62,b_lss, f1, hy, hyd, hlm, hN]; (first | done | exact rfl))) | (refine W_cT ?_ ?_; focus (simp only [evx,List.contains,List.elem,z2,z3,AV.unf,reduceIte,z23]; done)) | (refine W_cF ?_ ?_; focus (simp only [evx,List.contains,List.elem,z2,z3,AV.unf,reduceIte,z23,boolD]; done))) <;> (try simp only [seqK])))
            (repeat ((first | refine W_sq ?_ | refine W_bk ?_ | refine W_ret ?_ | refine W_exit ?_ | refine W_skip ?_ | (apply W_rg; focus (intro _; simp only [evalR,runOps,stepOp,wanted,aop,evx,put,unflag,binV,isShift,AV.unf,AV.toD,AV.toDs,AV.mkAgg,AV.pures,AV.cells,D.cells,AV.isCell,D.isCell,readCells,fill,splice,srcOf,List.contains,List.elem,z2,z3,z4,z5,z6,z7,z8,z9,z10,z11,z12,z13,z14,z15,z18,z19,z20,z22,Option.map,reduceIte,z23,forgetT,Nat.reduceAdd,Nat.reduceLeDiff,Nat.reduceBEq,z26,z27,z29,z30,z34,z48,z51,List.reduceReplicate,z63,z64,z66,chunks, gN, hz, hlen, hb, hx, b_add, w1]; (first | done | exact rfl))) | (refine W_cT ?_ ?_; focus (simp only [evx,List.contains,List.elem,z2,z3,AV.unf,reduceIte,z23,boolD]; done)) | (refine W_cF ?_ ?_; focus (simp only [evx,List.contains,List.elem,z2,z3,AV.unf,reduceIte,z23,boolD]; done))) <;> (try simp only [seqK,blockK,loopK])))
            refine ⟨v.l.length - (i + 1), by omega, i + 1, N, t0, rfl, by omega, by rw [← hN]; exact get_more _ hM2, fun q hq => ?_, ex_st _ _ _ rfl⟩
            rw [← hN, List.getElem?_append_left (by omega)]; exact hM3 q hq
          · obtain rfl : i = v.l.length := by omega
            have f1 : ((v.l.length : Int) < (v.l.length : Int)) = False := eq_false (by omega)
            rw [List.take_length]
            (repeat ((first | refine W_sq ?_ | refine W_bk ?_ | refine W_ret ?_ | refine W_exit ?_ | refine W_skip ?_ | (apply W_rg; focus (intro _; simp only [evalR,runOps,stepOp,wanted,aop,evx,put,unflag,binV,isShift,AV.unf,List.contains,List.elem,z2,z3,z4,z5,Option.map,intD,reduceIte,z23,forgetT,z29,z43,b_lss, f1]; (first | done | exact rfl))) | (refine W_cT ?_ ?_; focus (simp only [evx,List.contains,List.elem,z2,z3,AV.unf,reduceIte,z23]; done)) | (refine W_cF ?_ ?_; focus (simp only [evx,List.contains,List.elem,z2,z3,AV.unf,reduceIte,z23]; done))) <;> (try simp only [seqK,blockK,loopK,reduceIte])))
            exact ans_keep rfl (goodQ _ _ _ rfl hM1 hM2 hM3)
        | false =>
          rw [ha] at hone
          simp only [Bool.not_false] at hone
          rw [if_neg (by simp)]
          (apply W_drw; focus (refine Evl.call (hone) (Evl.all fun k e1 => ?_); simp (maxSteps := 100000000) only [evalR,runOps,stepOp,wanted,aop,evx,put,unflag,binV,isShift,AV.elems,AV.unf,AV.mkAgg,AV.pures,readCells,List.contains,List.elem,z2,z3,z4,z5,z6,z7,z8,z9,z10,z11,z12,z13,z14,z15,Option.map,intD,boolD,reduceIte,z23,forgetT,Nat.reduceAdd,Nat.reduceLeDiff,z25,z26,z29,z43,z51,gK, b_neq, b_gtr, f4, f5, List.length_map, e1]; (first | done | exact rfl))) <;> (try simp only [seqK])
          (repeat ((first | refine W_sq ?_ | refine W_bk ?_ | refine W_ret ?_ | refine W_exit ?_ | refine W_skip ?_ | (apply W_rg; focus (intro _; simp only [evalR,runOps,stepOp,wanted,aop,evx,put,unflag,AV.unf,AV.cells,D.cells,AV.isCell,D.isCell,splice,List.contains,List.elem,z2,z3,z4,z5,z8,z9,z10,z11,z12,z13,z14,z15,z18,z19,z20,z21,z22,reduceIte,z23,forgetT,Nat.reduceAdd,z26,z34,z48,z51,gKr, hlr]; (first | done | exact rfl))) | (refine W_cT ?_ ?_; focus (simp only [evx,List.contains,List.elem,z2,z3,AV.unf,reduceIte,z23]; done)) | (refine W_cF ?_ ?_; focus (simp only [evx,List.contains,List.elem,z2,z3,AV.unf,reduceIte,z23,boolD]; done))) <;> (try simp only [seqK])))
          exact ans_keep rfl (badQ _ rfl)
      · have f5 : ((v.l.length : Int) > 100) = True := eq_true (by omega)
        (repeat ((first | refine W_sq ?_ | refine W_bk ?_ | refine W_ret ?_ | refine W_exit ?_ | refine W_skip ?_ | (apply W_rg; focus (intro _; simp only [evalR,runOps,stepOp,wanted,aop,evx,put,unflag,binV,isShift,unV,AV.elems,AV.unf,AV.mkAgg,AV.pures,AV.cells,D.cells,AV.isCell,D.isCell,readCells,splice,List.contains,List.elem,z2,z3,z4,z5,z6,z7,z8,z9,z10,z11,z12,z13,z14,z15,z18,z19,z20,z21,z22,Option.map,intD,boolD,reduceIte,z23,forgetT,Nat.reduceAdd,Nat.reduceLeDiff,z25,z26,z29,z32,z34,z42,z44,z48,z51,gK, gKr, hlr, b_neq, b_gtr, f4, f5, List.length_map]; (first | done | exact rfl))) | (refine W_cT ?_ ?_; focus (simp only [evx,List.contains,List.elem,z2,z3,AV.unf,reduceIte,z23]; done)) | (refine W_cF ?_ ?_; focus (simp only [evx,List.contains,List.elem,z2,z3,AV.unf,reduceIte,z23]; done))) <;> (try simp only [seqK])))
        exact ans_keep rfl (badQ _ (texts_none fun h => hl h.2))
    · have f4 : (v.k != 4) = true := by simpa using h4
      (repeat ((first | refine W_sq ?_ | refine W_bk ?_ | refine W_ret ?_ | refine W_exit ?_ | refine W_skip ?_ | (apply W_rg; focus (intro _; simp only [evalR,runOps,stepOp,wanted,aop,evx,put,unflag,binV,isShift,unV,AV.unf,AV.mkAgg,AV.pures,AV.cells,D.cells,AV.isCell,D.isCell,readCells,splice,List.contains,List.elem,z2,z3,z4,z5,z7,z8,z9,z10,z11,z12,z13,z14,z15,z18,z19,z20,z21,z22,Option.map,boolD,reduceIte,z23,forgetT,Nat.reduceAdd,Nat.reduceLeDiff,z25,z26,z32,z34,z44,z48,z51,gK, gKr, hlr, b_neq, f4]; (first | done | exact rfl))) | (refine W_cT ?_ ?_; focus (simp only [evx,List.contains,List.elem,z2,z3,AV.unf,reduceIte,z23]; done)) | (refine W_cF ?_ ?_; focus (simp only [evx,List.contains,List.elem,z2,z3,AV.unf,reduceIte,z23]; done))) <;> (try simp only [seqK])))
      exact ans_keep rfl (badQ _ (texts_none fun h => h4 h.1))

def LimQ (H : AHeap) (r : Nat) (c : J) (b : Bool) (o : Option J) (v : AV) (H' : AHeap) : Prop := v = .d (.int .i64 ((o.map J.n).getD 0)) ∧ Kept H r c (b || (limJ o).isNone) H'

theorem limit_ev (lim : Nat) (H : AHeap) (r : Nat) (c : J) (b : Bool) (hc : Mp c) (hr : H[r]? = some (.cells (rC c b))) (hlr : lim ≤ r) (hll : lim ≤ H.length) :
    Go.Abs.Fn X 30 lim [.ptr r 0] H (LimQ H r c b (getJ c kLim)) := by
  refine Fn_of rfl (show code 30 = some c30 from rfl) rfl ?_; simp only [List.length_cons, List.length_nil, Nat.reduceAdd, Nat.reduceSub, List.reduceReplicate, List.cons_append, List.nil_append, reduceIte]
  have hrl := (List.getElem?_eq_some_iff.1 hr).1
  have he := value_ev lim H r c b kLim hc hr
  unfold getV at he
  have fin : ∀ (M : AHeap) (b' : Bool), M.length = H.length + 1 → (∀ q, q < H.length → M[q]? = H[q]?) → Kept H r c b' (M.set r (.cells (rC c b'))) := fun M b' h1 h2 =>
    ⟨by simp; omega, List.getElem?_set_self (by omega), fun q hq hqr => by rw [List.getElem?_set_ne (fun e => hqr e.symm)]; exact h2 q hq⟩
  (iterate 3 ((first | refine W_sq ?_ | refine W_bk ?_ | refine W_ret ?_ | refine W_exit ?_ | refine W_skip ?_ | (apply W_rg; focus (intro _; simp only [evalR,runOps,stepOp,wanted,aop,evx,put,unflag,z4,z5,forgetT]; (first | done | exact rfl))) | (refine W_cT ?_ ?_; focus (simp only [evx,List.contains,List.elem,z2,z3,AV.unf,reduceIte,z23,boolD]; done)) | (refine W_cF ?_ ?_; focus (simp only [evx,List.contains,List.elem,z2,z3,AV.unf,reduceIte,z23,boolD]; done))) <;> (try simp only [seqK])))
  cases hg : getJ c kLim with
  | none =>
    rw [hg] at he
    simp only [Option.getD_none, Option.isSome_none, zero_d] at he
    obtain ⟨K, hK⟩ : ∃ K, H ++ [AObj.cells [.d (.int .i64 0), .d (.int .i64 0), .d (.str []), .d (.slice []), .d (.slice [])]] = K := ⟨_, rfl⟩
    have gK : K[H.length]? = some (.cells [.d (.int .i64 0), .d (.int .i64 0), .d (.str []), .d (.slice []), .d (.slice [])]) := by rw [← hK]; exact get_last _ _
    have gKr : K[r]? = some (.cells (rC c b)) := by rw [← hK]; exact get_more _ hr
    have lK : K.length = H.length + 1 := by rw [← hK]; simp
    have gKo : ∀ q, q < H.length → K[q]? = H[q]? := fun q hq => by rw [← hK]; exact List.getElem?_append_left hq
    have gS : ∀ o : AObj, (K.set r o)[H.length]? = some (.cells [.d (.int .i64 0), .d (.int .i64 0), .d (.str []), .d (.slice []), .d (.slice [])]) := fun o => by rw [List.getElem?_set_ne (by omega)]; exact gK
    (apply W_drw; focus (refine Evl.call (he) (Evl.all fun k e1 => ?_); simp (maxSteps := 100000000) only [evalR,runOps,stepOp,wanted,aop,evx,put,unflag,AV.unf,AV.cells,D.cells,AV.isCell,D.isCell,splice,List.contains,List.elem,z2,z3,z4,z5,z6,z7,z8,z9,z11,z12,z13,z14,z15,z18,z19,z20,z22,Option.map,boolD,reduceIte,z23,forgetT,Nat.reduceAdd,Nat.reduceBEq,z26,z29,z34,z46,z47,z48,z51,z18,z19,Nat.reduceBEq,hll, e1]; (first | done | exact rfl))) <;> (try simp only [seqK])
    rw [hK]
    cases b <;> ((repeat ((first | refine W_sq ?_ | refine W_bk ?_ | refine W_ret ?_ | refine W_exit ?_ | refine W_skip ?_ | (apply W_rg; focus (intro _; simp only [evalR,runOps,stepOp,wanted,aop,evx,put,unflag,AV.unf,AV.mkAgg,AV.pures,AV.cells,D.cells,AV.isCell,D.isCell,readCells,splice,List.contains,List.elem,z2,z3,z4,z5,z6,z7,z8,z9,z10,z11,z12,z13,z14,z15,z18,z19,z20,z21,z22,Option.map,reduceIte,z23,forgetT,Nat.reduceAdd,Nat.reduceLeDiff,Nat.reduceBEq,z26,z29,z32,z34,z44,z45,z48,z51,gKr, gS, hlr]; (first | done | exact rfl))) | (refine W_cT ?_ ?_; focus (simp only [evx,List.contains,List.elem,z2,z3,AV.unf,reduceIte,z23,boolD]; done)) | (refine W_cF ?_ ?_; focus (simp only [evx,List.contains,List.elem,z2,z3,AV.unf,reduceIte,z23,boolD]; done))) <;> (try simp only [seqK]))); exact ans_keep rfl ⟨rfl, fin _ _ lK gKo⟩)
  | some v =>
    rw [hg] at he
    have hvd := jd v
    simp only [Option.getD_some, Option.isSome_some, hvd] at he
    obtain ⟨K, hK⟩ : ∃ K, H ++ [AObj.cells (jC v)] = K := ⟨_, rfl⟩
    have gK : K[H.length]? = some (.cells (jC v)) := by rw [← hK]; exact get_last _ _
    have gKr : K[r]? = some (.cells (rC c b)) := by rw [← hK]; exact get_more _ hr
    have lK : K.length = H.length + 1 := by rw [← hK]; simp
    have gKo : ∀ q, q < H.length → K[q]? = H[q]? := fun q hq => by rw [← hK]; exact List.getElem?_append_left hq
    have gS : ∀ o : AObj, (K.set r o)[H.length]? = some (.cells (jC v)) := fun o => by rw [List.getElem?_set_ne (by omega)]; exact gK
    have hl : limJ (some v) = if v.k = 2 ∧ 0 ≤ v.n ∧ v.n ≤ 100 then some v.n else none := rfl
    have nok : ∀ (b' : Bool), ¬ (v.k = 2 ∧ 0 ≤ v.n ∧ v.n ≤ 100) → LimQ H r c b' (some v) (.d (.int .i64 v.n)) (K.set r (.cells (rC c true))) := fun b' h => by
      have : (b' || (limJ (some v)).isNone) = true := by rw [hl, if_neg h]; cases b' <;> rfl
      unfold LimQ; rw [this]
      exact ⟨rfl, fin _ _ lK gKo⟩
    (apply W_drw; focus (refine Evl.call (he) (Evl.all fun k e1 => ?_); simp (maxSteps := 100000000) only [evalR,runOps,stepOp,wanted,aop,evx,put,unflag,AV.unf,AV.cells,D.cells,AV.isCell,D.isCell,splice,List.contains,List.elem,z2,z3,z4,z5,z6,z7,z8,z9,z11,z12,z13,z14,z15,z18,z19,z20,z22,Option.map,boolD,reduceIte,z23,forgetT,Nat.reduceAdd,Nat.reduceBEq,z26,z29,z34,z46,z47,z48,z51,z18,z19,Nat.reduceBEq,hll, e1]; (first | done | exact rfl))) <;> (try simp only [seqK])
    rw [hK]
    cases b with
    | true =>
      (repeat ((first | refine W_sq ?_ | refine W_bk ?_ | refine W_ret ?_ | refine W_exit ?_ | refine W_skip ?_ | (apply W_rg; focus (intro _; simp only [evalR,runOps,stepOp,wanted,aop,evx,put,unflag,AV.unf,AV.mkAgg,AV.pures,AV.cells,D.cells,AV.isCell,D.isCell,readCells,splice,List.contains,List.elem,z2,z3,z4,z5,z6,z7,z8,z9,z10,z11,z12,z13,z14,z15,z18,z19,z20,z21,z22,Option.map,reduceIte,z23,forgetT,Nat.reduceAdd,Nat.reduceLeDiff,Nat.reduceBEq,z26,z29,z34,z44,z48,z51,gKr, gS, hlr]; (first | done | exact rfl))) | (refine W_cT ?_ ?_; focus (simp only [evx,List.contains,List.elem,z2,z3,AV.unf,reduceIte,z23,boolD]; done)) | (refine W_cF ?_ ?_; focus (simp only [evx,List.contains,List.elem,z2,z3,AV.unf,reduceIte,z23,boolD]; done))) <;> (try simp only [seqK])))
      exact ans_keep rfl ⟨rfl, fin _ _ lK gKo⟩
    | false =>
      by_cases h2 : v.k = 2
      · have f2 : (v.k != 2) = false := by rw [h2]; rfl
        by_cases h3 : v.n < 0
        · have f3 : (v.n < 0) = True := eq_true h3
          (repeat ((first | refine W_sq ?_ | refine W_bk ?_ | refine W_ret ?_ | refine W_exit ?_ | refine W_skip ?_ | (apply W_rg; focus (intro _; simp only [evalR,runOps,stepOp,wanted,aop,evx,put,unflag,binV,isShift,AV.unf,AV.mkAgg,AV.pures,AV.cells,D.cells,AV.isCell,D.isCell,readCells,splice,List.contains,List.elem,z2,z3,z4,z5,z6,z7,z8,z9,z10,z11,z12,z13,z14,z15,z18,z19,z20,z21,z22,Option.map,reduceIte,z23,forgetT,Nat.reduceAdd,Nat.reduceLeDiff,Nat.reduceBEq,z25,z26,z29,z34,z42,z44,z48,z51,gK, gKr, gS, hlr, b_neq, b_lss, f2, f3]; (first | done | exact rfl))) | (refine W_cT ?_ ?_; focus (simp only [evx,List.contains,List.elem,z2,z3,AV.unf,reduceIte,z23,boolD]; done)) | (refine W_cF ?_ ?_; focus (simp only [evx,List.contains,List.elem,z2,z3,AV.unf,reduceIte,z23,boolD]; done))) <;> (try simp only [seqK])))
          exact ans_keep rfl (nok _ (by omega))
        · have f3 : (v.n < 0) = False := eq_false h3
          by_cases h4 : v.n > 100
          · have f4 : (v.n > 100) = True := eq_true h4
            (repeat ((first | refine W_sq ?_ | refine W_bk ?_ | refine W_ret ?_ | refine W_exit ?_ | refine W_skip ?_ | (apply W_rg; focus (intro _; simp only [evalR,runOps,stepOp,wanted,aop,evx,put,unflag,binV,isShift,AV.unf,AV.mkAgg,AV.pures,AV.cells,D.cells,AV.isCell,D.isCell,readCells,splice,List.contains,List.elem,z2,z3,z4,z5,z6,z7,z8,z9,z10,z11,z12,z13,z14,z15,z18,z19,z20,z21,z22,Option.map,reduceIte,z23,forgetT,Nat.reduceAdd,Nat.reduceLeDiff,Nat.reduceBEq,z25,z26,z29,z34,z42,z43,z48,z51,gK, gKr, gS, hlr, b_neq, b_lss, b_gtr, f2, f3, f4]; (first | done | exact rfl))) | (refine W_cT ?_ ?_; focus (simp only [evx,List.contains,List.elem,z2,z3,AV.unf,reduceIte,z23,boolD]; done)) | (refine W_cF ?_ ?_; focus (simp only [evx,List.contains,List.elem,z2,z3,AV.unf,reduceIte,z23,boolD]; done))) <;> (try simp only [seqK])))
            exact ans_keep rfl (nok _ (by omega))
          · have f4 : (v.n > 100) = False := eq_false h4
            have hok : (limJ (some v)).isNone = false := by rw [hl, if_pos (by omega)]; rfl
            unfold LimQ
            rw [hok]
            (repeat ((first | refine W_sq ?_ | refine W_bk ?_ | refine W_ret ?_ | refine W_exit ?_ | refine W_skip ?_ | (apply W_rg; focus (intro _; simp only [evalR,runOps,stepOp,wanted,aop,evx,put,unflag,binV,isShift,AV.unf,AV.mkAgg,AV.pures,AV.cells,D.cells,AV.isCell,D.isCell,readCells,splice,List.contains,List.elem,z2,z3,z4,z5,z6,z7,z8,z9,z10,z11,z12,z13,z14,z15,z18,z19,z20,z21,z22,Option.map,reduceIte,z23,forgetT,Nat.reduceAdd,Nat.reduceLeDiff,Nat.reduceBEq,z25,z26,z29,z34,z43,z48,z51,gK, gKr, gS, hlr, b_neq, b_lss, b_gtr, f2, f3, f4]; (first | done | exact rfl))) | (refine W_cT ?_ ?_; focus (simp only [evx,List.contains,List.elem,z2,z3,AV.unf,reduceIte,z23,boolD]; done)) | (refine W_cF ?_ ?_; focus (simp only [evx,List.contains,List.elem,z2,z3,AV.unf,reduceIte,z23,boolD]; done))) <;> (try simp only [seqK])))
            exact ans_keep rfl ⟨rfl, fin _ _ lK gKo⟩
      · have f2 : (v.k != 2) = true := by simpa using h2
        (repeat ((first | refine W_sq ?_ | refine W_bk ?_ | refine W_ret ?_ | refine W_exit ?_ | refine W_skip ?_ | (apply W_rg; focus (intro _; simp only [evalR,runOps,stepOp,wanted,aop,evx,put,unflag,binV,isShift,AV.unf,AV.mkAgg,AV.pures,AV.cells,D.cells,AV.isCell,D.isCell,readCells,splice,List.contains,List.elem,z2,z3,z4,z5,z6,z7,z8,z9,z10,z11,z12,z13,z14,z15,z18,z19,z20,z21,z22,Option.map,reduceIte,z23,forgetT,Nat.reduceAdd,Nat.reduceLeDiff,Nat.reduceBEq,z25,z26,z29,z34,z44,z48,z51,gK, gKr, gS, hlr, b_neq, f2]; (first | done | exact rfl))) | (refine W_cT ?_ ?_; focus (simp only [evx,List.contains,List.elem,z2,z3,AV.unf,reduceIte,z23,boolD]; done)) | (refine W_cF ?_ ?_; focus (simp only [evx,List.contains,List.elem,z2,z3,AV.unf,reduceIte,z23,boolD]; done))) <;> (try simp only [seqK])))
        exact ans_keep rfl (nok _ (fun h => h2 h.1))

end Go.Proofs.YtoimlfaiibadgaaDoor
