/- Values made: numbers, texts, rows of texts, a map with one name more; as the document has it, walked. (NOBIN: the arithmetic of numbers is not unfolded.) -/
import Derived.Test.YtoimlfaiibadgaaDoordW23
set_option linter.unusedSimpArgs false
set_option linter.unusedVariables false
set_option linter.all false
set_option maxRecDepth 100000
namespace Go.Proofs.YtoimlfaiibadgaaDoor
open Go Go.Abs Go.Lib

theorem jmk (k n : Int) (t : Tx) (ks : List Tx) (l : List J) : (J.mk k n t ks l).d = .agg [.int .i64 k, .int .i64 n, .str t, sD ks, jsD l] := jd _

theorem Num_ev (lim : Nat) (H : AHeap) (n : Int) : Ev X 37 lim [.d (.int .i64 n)] H (.d (numJ n).d) H := by
  refine Fn.ev ?_
  refine Fn_of rfl (show code 37 = some c37 from rfl) rfl ?_; simp only [List.length_cons, List.length_nil, Nat.reduceAdd, Nat.reduceSub, List.reduceReplicate, List.cons_append, List.nil_append, reduceIte, Bool.false_eq_true]
  have hr : (numJ n).d = .agg [.int .i64 2, .int .i64 n, .str [], .slice [], .slice []] := jmk _ _ _ _ _
  rw [hr]
  (repeat ((first | refine W_sq ?_ | refine W_bk ?_ | refine W_ret ?_ | refine W_exit ?_ | refine W_skip ?_ | (apply W_rg; focus (intro _; simp only [evalR,runOps,stepOp,wanted,aop,evx,put,unflag,AV.unf,AV.mkAgg,AV.pures,AV.cells,D.cells,AV.isCell,D.isCell,fill,splice,List.contains,List.elem,z2,z3,z4,z5,z8,z9,z10,z11,z12,z13,z14,z15,z18,z19,z20,z21,z22,Option.map,reduceIte,z23,forgetT,Nat.reduceAdd,Nat.reduceLeDiff,Nat.reduceBEq,z26,z29,z34,z46,z47,z48,z51]; (first | done | exact rfl))) | (refine W_cT ?_ ?_; focus (simp only [evx,List.contains,List.elem,z2,z3,AV.unf,reduceIte,z23,boolD]; done)) | (refine W_cF ?_ ?_; focus (simp only [evx,List.contains,List.elem,z2,z3,AV.unf,reduceIte,z23,boolD]; done))) <;> (try simp only [seqK])))
  exact ans_cut (v := .d (.agg [.int .i64 2, .int .i64 n, .str [], .slice [], .slice []])) (by simp only [AV.unf,AV.mkAgg,AV.pures,readCells,z2,z3,z7,z8,z9,z10,z11,z13,z14,z15,Option.map,reduceIte,Nat.reduceAdd,z26,z46,z51,resV]; rfl) rfl ⟨rfl, rfl⟩

def txtJ (s : Tx) : J := .mk 3 0 s [] []

theorem Str_ev (lim : Nat) (H : AHeap) (s : Tx) : Ev X 52 lim [.d (.str s)] H (.d (txtJ s).d) H := by
  refine Fn.ev ?_
  refine Fn_of rfl (show code 52 = some c52 from rfl) rfl ?_; simp only [List.length_cons, List.length_nil, Nat.reduceAdd, Nat.reduceSub, List.reduceReplicate, List.cons_append, List.nil_append, reduceIte, Bool.false_eq_true]
  have hr : (txtJ s).d = .agg [.int .i64 3, .int .i64 0, .str s, .slice [], .slice []] := jmk _ _ _ _ _
  rw [hr]
  (repeat ((first | refine W_sq ?_ | refine W_bk ?_ | refine W_ret ?_ | refine W_exit ?_ | refine W_skip ?_ | (apply W_rg; focus (intro _; simp only [evalR,runOps,stepOp,wanted,aop,evx,put,unflag,AV.unf,AV.mkAgg,AV.pures,AV.cells,D.cells,AV.isCell,D.isCell,fill,splice,List.contains,List.elem,z2,z3,z4,z5,z8,z9,z10,z11,z12,z13,z14,z15,z18,z19,z20,z21,z22,Option.map,reduceIte,z23,forgetT,Nat.reduceAdd,Nat.reduceLeDiff,Nat.reduceBEq,z26,z29,z34,z46,z47,z48,z51]; (first | done | exact rfl))) | (refine W_cT ?_ ?_; focus (simp only [evx,List.contains,List.elem,z2,z3,AV.unf,reduceIte,z23,boolD]; done)) | (refine W_cF ?_ ?_; focus (simp only [evx,List.contains,List.elem,z2,z3,AV.unf,reduceIte,z23,boolD]; done))) <;> (try simp only [seqK])))
  exact ans_cut (v := .d (.agg [.int .i64 3, .int .i64 0, .str s, .slice [], .slice []])) (by simp only [AV.unf,AV.mkAgg,AV.pures,readCells,z2,z3,z7,z8,z9,z10,z11,z13,z14,z15,Option.map,reduceIte,Nat.reduceAdd,z26,z46,z51,resV]; rfl) rfl ⟨rfl, rfl⟩

theorem Strs_ev (lim : Nat) (H : AHeap) (l : List Tx) (hl : l.length ≤ 100000) : Ev X 38 lim [.d (sD l)] H (.d (rowJ l).d) H := by
  refine Fn.ev ?_
  refine Fn_of rfl (show code 38 = some c38 from rfl) rfl ?_; simp only [List.length_cons, List.length_nil, Nat.reduceAdd, Nat.reduceSub, List.reduceReplicate, List.cons_append, List.nil_append, reduceIte, Bool.false_eq_true]
  obtain ⟨J1, hJ1⟩ : ∃ J1, H ++ [AObj.cells zC] = J1 := ⟨_, rfl⟩
  have l1 : J1.length = H.length + 1 := by rw [← hJ1]; simp
  have ge1 : H.length ≤ J1.length := by omega
  have hrow : (rowJ l).d = .agg [.int .i64 4, .int .i64 0, .str [], .slice [], .slice ((l.map txtJ).map J.d)] := jmk _ _ _ _ _
  rw [hrow]
  have gR : ∀ o, (J1 ++ [o])[H.length]? = some (.cells zC) := fun o => get_more o (by rw [← hJ1]; exact get_last _ _)
  have gS : ∀ o o' : AObj, ((J1 ++ [o]).set H.length o')[H.length]? = some o' := fun o o' => List.getElem?_set_self (by simp; omega)
  (repeat ((first | refine W_sq ?_ | refine W_bk ?_ | refine W_ret ?_ | refine W_exit ?_ | refine W_skip ?_ | (apply W_rg; focus (intro _; simp only [evalR,runOps,stepOp,wanted,aop,evx,put,unflag,AV.unf,AV.mkAgg,AV.pures,AV.cells,D.cells,AV.isCell,D.isCell,fill,splice,List.contains,List.elem,z2,z3,z4,z5,z8,z9,z11,z12,z13,z14,z15,z18,z19,z20,z21,z22,Option.map,reduceIte,z23,forgetT,Nat.reduceAdd,Nat.reduceLeDiff,Nat.reduceBEq,z26,z29,z34,z46,z47,z48,z51,hJ1, ge1]; (first | done | exact rfl))) | (refine W_cT ?_ ?_; focus (simp only [evx,List.contains,List.elem,z2,z3,AV.unf,reduceIte,z23,boolD]; done)) | (refine W_cF ?_ ?_; focus (simp only [evx,List.contains,List.elem,z2,z3,AV.unf,reduceIte,z23,boolD]; done))) <;> (try simp only [seqK])))
  refine W_lp (fun k st => ∃ i : Nat, i ≤ l.length ∧ k = l.length - i ∧ ∃ x : Nat → AV, st = ⟨[.d (sD l), x 1, .ptr H.length 0, .ptr J1.length 0, intD i, x 5, x 6, x 7], J1 ++ [AObj.cells [.d (.int .i64 4), .d (.int .i64 0), .d (.str []), .fslice [], .fslice (((l.take i).map txtJ).map J.d)]]⟩) ?_ _ _ ⟨0, Nat.zero_le _, rfl, ex_st _ _ _ rfl⟩
  rintro k _ ⟨i, hi, rfl, x, rfl⟩
  by_cases t0 : i < l.length
  · have f1 : ((i : Int) < (l.length : Int)) = True := eq_true (by omega)
    have w1 : IntKind.i64.wrap ((i : Int) + 1) = ((i + 1 : Nat) : Int) := wsucc (by omega)
    obtain ⟨s, hs⟩ : ∃ s, l[i]? = some s := ⟨_, List.getElem?_eq_getElem t0⟩
    have hc : (D.str s).cells = [D.str s] := rfl
    have hsd : (txtJ s).d = .agg [.int .i64 3, .int .i64 0, .str s, .slice [], .slice []] := jmk _ _ _ _ _
    have hx : ((l.take i).map txtJ).map J.d ++ [.agg [.int .i64 3, .int .i64 0, .str s, .slice [], .slice []]] = ((l.take (i + 1)).map txtJ).map J.d := by
      rw [List.take_add_one, hs, ← hsd]; simp
    have hz : headSz 5 (((l.take i).map txtJ).map J.d) = true := headSz_map (sz := 5) (f := J.d) (fun x => by rw [jd]; rfl) _
    have hlen : (((l.take i).map txtJ).map J.d).length = i := by simp; omega
    have hb : (i + 1) * (80 + 5) ≤ 70368744177664 := by omega
    have he := fun M => Str_ev H.length M s
    simp only [hsd] at he
    generalize ((l.take i).map txtJ).map J.d = R at *
    (iterate 7 ((first | refine W_sq ?_ | refine W_bk ?_ | refine W_ret ?_ | refine W_exit ?_ | refine W_skip ?_ | (apply W_rg; focus (intro _; simp only [evalR,runOps,stepOp,wanted,aop,evx,put,unflag,binV,isShift,AV.elems,AV.unf,List.contains,List.elem,z2,z3,z4,z5,Option.map,intD,reduceIte,z23,forgetT,z42,b_lss, f1, List.length_map]; (first | done | exact rfl))) | (refine W_cT ?_ ?_; focus (simp only [evx,List.contains,List.elem,z2,z3,AV.unf,reduceIte,z23]; done)) | (refine W_cF ?_ ?_; focus (simp only [evx,List.contains,List.elem,z2,z3,AV.unf,reduceIte,z23,boolD]; done))) <;> (try simp only [seqK])))
    (apply W_drw; focus (refine Evl.call ((he (J1 ++ [AObj.cells [.d (.int .i64 4), .d (.int .i64 0), .d (.str []), .fslice [], .fslice R]]))) (Evl.call ((he (J1 ++ [AObj.cells [.d (.int .i64 4), .d (.int .i64 0), .d (.str []), .fslice [], .d (.slice R)]]))) (Evl.all fun k e2 e1 => ?_)); simp (maxSteps := 100000000) only [srcC,AV.growable,AV.owned,evalR,wanted,aop,evx,put,unflag,binV,nilEq,isShift,binStr,unV,AV.elems,AV.unf,AV.int?,AV.toD,AV.toDs,AV.mkAgg,AV.cells,D.cells,AV.isCell,D.isCell,readCells,readD,optInt,fill,splice,srcOf,List.contains,List.elem,z2,z3,z4,z5,z6,z7,z8,z9,z10,z11,z12,z13,z14,z15,z16,z18,z19,z20,z21,z22,Option.map,intD,boolD,reduceIte,z23,forgetT,Nat.reduceAdd,Nat.reduceBEq,Nat.reduceBNe,z26,z27,z29,z31,z32,z33,z34,z35,z36,z37,z38,z39,z40,z41,z46,z47,z48,z49,z50,z51,z52,z55,z56,z62,List.reduceReplicate,z63,z64,z66,chunks, drawOK,thin,inertAt,inertRec,z68,z69,traceOps,stepRec,explore,runAt,mayStand,z70,z71,z72,z18,z19,z73,Nat.reduceBEq,z76, hs, hz, hlen, hb, hx, ge1, e2, e1]; (first | done | exact rfl))) <;> (try simp only [seqK,blockK])
    (repeat ((first | refine W_sq ?_ | refine W_bk ?_ | refine W_ret ?_ | refine W_exit ?_ | refine W_skip ?_ | (apply W_rg; focus (intro _; simp only [evalR,runOps,stepOp,wanted,aop,evx,put,unflag,binV,isShift,AV.unf,List.contains,List.elem,z2,z3,z4,z5,Option.map,reduceIte,z23,forgetT,z29,b_add, w1]; (first | done | exact rfl))) | (refine W_cT ?_ ?_; focus (simp only [evx,List.contains,List.elem,z2,z3,AV.unf,reduceIte,z23,boolD]; done)) | (refine W_cF ?_ ?_; focus (simp only [evx,List.contains,List.elem,z2,z3,AV.unf,reduceIte,z23,boolD]; done))) <;> (try simp only [loopK])))
    exact ⟨l.length - (i + 1), by omega, i + 1, t0, rfl, ex_st _ _ _ rfl⟩
  · obtain rfl : i = l.length := by omega
    have f1 : ((l.length : Int) < (l.length : Int)) = False := eq_false (by omega)
    rw [List.take_length]
    (repeat ((first | refine W_sq ?_ | refine W_bk ?_ | refine W_ret ?_ | refine W_exit ?_ | refine W_skip ?_ | (apply W_rg; focus (intro _; simp only [evalR,runOps,stepOp,wanted,aop,evx,put,unflag,binV,isShift,AV.elems,AV.unf,AV.mkAgg,AV.pures,AV.cells,D.cells,AV.isCell,D.isCell,readCells,splice,List.contains,List.elem,z2,z3,z4,z5,z7,z8,z9,z10,z11,z12,z13,z14,z15,z18,z19,z20,z22,Option.map,intD,reduceIte,z23,forgetT,Nat.reduceAdd,Nat.reduceBEq,z26,z29,z34,z43,z46,z48,z51,b_lss, f1, gR, List.length_map]; (first | done | exact rfl))) | (refine W_cT ?_ ?_; focus (simp only [evx,List.contains,List.elem,z2,z3,AV.unf,reduceIte,z23]; done)) | (refine W_cF ?_ ?_; focus (simp only [evx,List.contains,List.elem,z2,z3,AV.unf,reduceIte,z23]; done))) <;> (try simp only [seqK,blockK,loopK,reduceIte])))
    exact ans_cut (v := .d (.agg [.int .i64 4, .int .i64 0, .str [], .slice [], .slice ((l.map txtJ).map J.d)])) (by simp only [AV.unf,AV.mkAgg,AV.pures,readCells,z2,z3,z7,z8,z9,z10,z11,z13,z14,z15,Option.map,reduceIte,Nat.reduceAdd,z26,z51,resV, gS]; rfl) rfl ⟨rfl, rfl⟩

theorem Put_ev (lim : Nat) (H : AHeap) (ps : List (Tx × J)) (key : Tx) (v : J) (hl : ps.length ≤ 100000) : Ev X 36 lim [.d (mapJ ps).d, .d (.str key), .d v.d] H (.d (mapJ (ps ++ [(key, v)])).d) H := by
  refine Fn.ev ?_
  refine Fn_of rfl (show code 36 = some c36 from rfl) rfl ?_; simp only [List.length_cons, List.length_nil, Nat.reduceAdd, Nat.reduceSub, List.reduceReplicate, List.cons_append, List.nil_append, reduceIte, Bool.false_eq_true]
  have hvd := jd v
  have hz1 : headSz 1 ((ps.map (·.1)).map D.str) = true := headSz_map (sz := 1) (f := D.str) (fun x => rfl) _
  have hz5 : headSz 5 ((ps.map (·.2)).map J.d) = true := headSz_map (sz := 5) (f := J.d) (fun x => by rw [jd]; rfl) _
  have hr : (mapJ (ps ++ [(key, v)])).d = .agg [.int .i64 5, .int .i64 0, .str [], .slice ((ps.map (·.1)).map D.str ++ [D.str key]), .slice ((ps.map (·.2)).map J.d ++ [v.d])] := by
    unfold mapJ; rw [jmk]; simp
  have ha : (mapJ ps).d = .agg [.int .i64 5, .int .i64 0, .str [], .slice ((ps.map (·.1)).map D.str), .slice ((ps.map (·.2)).map J.d)] := by unfold mapJ; rw [jmk]
  rw [hr, ha]
  have n1 : ((ps.map (·.1)).map D.str).length = ps.length := by simp
  have n2 : ((ps.map (·.2)).map J.d).length = ps.length := by simp
  generalize (ps.map (·.1)).map D.str = A at *
  generalize (ps.map (·.2)).map J.d = B at *
  obtain ⟨J1, hJ1⟩ : ∃ J1, H ++ [AObj.cells [.d (.int .i64 5), .d (.int .i64 0), .d (.str []), .d (.slice A), .d (.slice B)]] = J1 := ⟨_, rfl⟩
  obtain ⟨J2, hJ2⟩ : ∃ J2, J1 ++ [AObj.cells (jC v)] = J2 := ⟨_, rfl⟩
  obtain ⟨K, hK⟩ : ∃ K, J2 ++ [AObj.cells zC] = K := ⟨_, rfl⟩
  have l1 : J1.length = H.length + 1 := by rw [← hJ1]; simp
  have l2 : J2.length = H.length + 2 := by rw [← hJ2]; simp [l1]
  have gK1 : K[H.length]? = some (.cells [.d (.int .i64 5), .d (.int .i64 0), .d (.str []), .d (.slice A), .d (.slice B)]) := by rw [← hK, ← hJ2, ← hJ1]; exact get_more _ (get_more _ (get_last _ _))
  have gK2 : K[J1.length]? = some (.cells (jC v)) := by rw [← hK, ← hJ2]; exact get_more _ (get_last _ _)
  have gK3 : K[J2.length]? = some (.cells zC) := by rw [← hK]; exact get_last _ _
  have lK : J2.length < K.length := by rw [← hK]; simp
  have ge2 : H.length ≤ J2.length := by omega
  have gS : ∀ o : AObj, (K.set J2.length o)[J2.length]? = some o := fun o => List.getElem?_set_self lK
  have b1 : ps.length * (16 + 1) ≤ 70368744177664 := by omega
  have b2 : (ps.length + 1) * (16 + 1) ≤ 70368744177664 := by omega
  have b3 : ps.length * (80 + 5) ≤ 70368744177664 := by omega
  have b4 : (ps.length + 1) * (80 + 5) ≤ 70368744177664 := by omega
  rw [hvd]
  (iterate 3 ((first | refine W_sq ?_ | refine W_bk ?_ | refine W_ret ?_ | refine W_exit ?_ | refine W_skip ?_ | (apply W_rg; focus (intro _; simp only [evalR,runOps,stepOp,wanted,aop,evx,put,unflag,AV.unf,AV.cells,D.cells,AV.isCell,D.isCell,List.contains,List.elem,z2,z3,z4,z5,z8,z9,z18,z19,reduceIte,z23,forgetT,z34,hJ1, hJ2, hK]; (first | done | exact rfl))) | (refine W_cT ?_ ?_; focus (simp only [evx,List.contains,List.elem,z2,z3,AV.unf,reduceIte,z23,boolD]; done)) | (refine W_cF ?_ ?_; focus (simp only [evx,List.contains,List.elem,z2,z3,AV.unf,reduceIte,z23,boolD]; done))) <;> (try simp only [seqK])))
  (apply W_rg; focus (intro k; simp (maxSteps := 100000000) only [srcC,AV.growable,AV.owned,evalR,wanted,aop,evx,put,unflag,binV,nilEq,isShift,binStr,unV,AV.elems,AV.unf,AV.int?,AV.toD,AV.toDs,AV.mkAgg,AV.pures,AV.cells,D.cells,AV.isCell,D.isCell,readCells,readD,optInt,fill,splice,srcOf,List.contains,List.elem,z2,z3,z4,z5,z6,z7,z8,z9,z10,z11,z12,z13,z14,z15,z18,z19,z20,z21,z22,Option.map,intD,boolD,reduceIte,z23,forgetT,Nat.reduceAdd,Nat.reduceLeDiff,Nat.reduceBEq,Nat.reduceBNe,z26,z27,z29,z30,z31,z32,z33,z34,z35,z36,z37,z38,z39,z40,z41,z48,z49,z50,z51,z56,List.reduceReplicate,z63,z64,z65,z66,chunks, drawOK,thin,inertAt,inertRec,z68,z69,traceOps,stepRec,explore,runAt,mayStand,z70,z71,z72,z18,z19,z73,Nat.reduceBEq,z76, gK1, gK2, gK3, hz1, hz5, n1, n2, b1, b2, b3, b4, ge2]; (first | done | exact rfl))) <;> (try simp only [seqK])
  (repeat ((first | refine W_sq ?_ | refine W_bk ?_ | refine W_ret ?_ | refine W_exit ?_ | refine W_skip ?_ | (apply W_rg; focus (intro _; simp only [z0,srcC,AV.growable,AV.owned,evalC,evalR,runOps,stepOp,wanted,aop,evx,put,unflag,binV,nilEq,isShift,binStr,unV,AV.elems,AV.unf,AV.int?,AV.toD,AV.toDs,AV.mkAgg,AV.pures,AV.cells,D.cells,AV.isCell,D.isCell,readCells,readD,optInt,fill,splice,srcOf,z1,List.contains,List.elem,z2,z3,z4,z5,z6,z7,z8,z9,z10,z11,z12,z13,z14,z15,z16,z17,z18,z19,z20,z21,z22,Option.map,intD,boolD,bD,reduceIte,z23,z24,forgetT,Nat.reduceAdd,Nat.reduceLeDiff,Nat.reduceMul,Nat.reduceSub,Nat.reduceEqDiff,Nat.reduceBEq,Nat.reduceBNe,z25,z26,z27,z28,z29,z30,z31,z32,z33,z34,z35,z36,z37,z38,z39,z40,z41,z42,z43,z44,z45,z46,z47,z48,z49,z50,z51,z52,Int.reduceToNat,z53,z54,z55,z56,z57,z58,Int.reduceBEq,Int.reduceBNe,Int.reduceLT,Int.reduceLE,Int.reduceGT,Int.reduceGE,Int.reduceEq,z59,z60,z61,z62,List.reduceReplicate,z63,z64,z65,z66,z67,chunks]; (first | done | exact rfl))) | (refine W_cT ?_ ?_; focus (simp only [evx,List.contains,List.elem,z2,z3,AV.unf,reduceIte,z23,boolD]; done)) | (refine W_cF ?_ ?_; focus (simp only [evx,List.contains,List.elem,z2,z3,AV.unf,reduceIte,z23,boolD]; done))) <;> (try simp only [seqK,blockK,loopK,onlyK,forgetT,put,unflag,z4,z5,z2,z3,AV.unf,reduceIte,Nat.reduceEqDiff,Nat.reduceAdd])))
  exact ans_cut (v := .d (.agg [.int .i64 5, .int .i64 0, .str [], .slice (A ++ [.str key]), .slice (B ++ [.agg [.int .i64 v.k, .int .i64 v.n, .str v.t, sD v.ks, jsD v.l]])])) (by simp only [AV.unf,AV.mkAgg,AV.pures,readCells,z2,z3,z7,z8,z9,z10,z11,z13,z14,z15,Option.map,reduceIte,Nat.reduceAdd,z26,z51,resV, gS]; rfl) rfl ⟨rfl, rfl⟩

def kD (ps : List (Tx × J)) : List D := (ps.map (·.1)).map D.str
def vD (ps : List (Tx × J)) : List D := (ps.map (·.2)).map J.d
theorem map_d (ps : List (Tx × J)) : (mapJ ps).d = .agg [.int .i64 5, .int .i64 0, .str [], .slice (kD ps), .slice (vD ps)] := by unfold mapJ kD vD; rw [jmk]

theorem PutM_ev (lim : Nat) (H : AHeap) (ps : List (Tx × J)) (key : Tx) (v : J) (hl : ps.length ≤ 100000) :
    Ev X 36 lim [.d (.agg [.int .i64 5, .int .i64 0, .str [], .slice (kD ps), .slice (vD ps)]), .d (.str key), .d v.d] H (.d (.agg [.int .i64 5, .int .i64 0, .str [], .slice (kD (ps ++ [(key, v)])), .slice (vD (ps ++ [(key, v)]))])) H := by
  have := Put_ev lim H ps key v hl
  rw [map_d, map_d] at this
  exact this

theorem SameJ_ev : ∀ (d : Nat) (lim : Nat) (H : AHeap) (j : J), Bd d j → Ev X 15 lim [.d j.d, .d j.d] H (boolD true) H
  | 0, _, _, _, h => h.elim
  | d + 1, lim, H, j, hj => by
    refine Fn.ev ?_
    refine Fn_of rfl (show code 15 = some c15 from rfl) rfl ?_; simp only [List.length_cons, List.length_nil, Nat.reduceAdd, Nat.reduceSub, List.reduceReplicate, List.cons_append, List.nil_append, reduceIte, Bool.false_eq_true]
    have hjd := jd j
    obtain ⟨J', hJ⟩ : ∃ J', H ++ [AObj.cells (jC j)] = J' := ⟨_, rfl⟩
    obtain ⟨K, hK⟩ : ∃ K, J' ++ [AObj.cells (jC j)] = K := ⟨_, rfl⟩
    have gK : K[H.length]? = some (.cells (jC j)) := by rw [← hK, ← hJ]; exact get_more _ (get_last _ _)
    have gK2 : K[J'.length]? = some (.cells (jC j)) := by rw [← hK]; exact get_last _ _
    have ht : (!(j.t == j.t)) = false := by simp
    have hk2 := hj.2.1
    have hl2 := hj.2.2.1
    (iterate 2 ((first | refine W_sq ?_ | refine W_bk ?_ | refine W_ret ?_ | refine W_exit ?_ | refine W_skip ?_ | (apply W_rg; focus (intro _; simp only [evalR,runOps,stepOp,wanted,aop,evx,put,unflag,AV.unf,AV.cells,D.cells,AV.isCell,D.isCell,List.contains,List.elem,z2,z3,z4,z5,z8,z9,z18,z19,reduceIte,z23,forgetT,z34,hjd, hJ, hK]; (first | done | exact rfl))) | (refine W_cT ?_ ?_; focus (simp only [evx,List.contains,List.elem,z2,z3,AV.unf,reduceIte,z23,boolD]; done)) | (refine W_cF ?_ ?_; focus (simp only [evx,List.contains,List.elem,z2,z3,AV.unf,reduceIte,z23,boolD]; done))) <;> (try simp only [seqK])))
    (repeat ((first | refine W_sq ?_ | refine W_bk ?_ | refine W_ret ?_ | refine W_exit ?_ | refine W_skip ?_ | (apply W_rg; focus (intro _; simp only [evalR,runOps,stepOp,wanted,aop,evx,put,unflag,binV,isShift,binStr,AV.elems,AV.unf,AV.mkAgg,AV.pures,readCells,List.contains,List.elem,z2,z3,z4,z5,z6,z7,z8,z9,z10,z11,z12,z13,z14,z15,Option.map,intD,reduceIte,z23,forgetT,Nat.reduceAdd,Nat.reduceLeDiff,z25,z26,z29,z30,z32,z51,gK, gK2, b_neq, List.length_map]; (first | done | exact rfl))) | (refine W_cT ?_ ?_; focus (simp only [evx,List.contains,List.elem,z2,z3,AV.unf,reduceIte,z23]; done)) | (refine W_cF ?_ ?_; focus (simp only [evx,List.contains,List.elem,z2,z3,AV.unf,reduceIte,z23]; done))) <;> (try simp only [seqK])))
    refine W_lp (fun k st => ∃ i : Nat, i ≤ j.ks.length ∧ k = j.ks.length - i ∧ ∃ x : Nat → AV, st = ⟨[x 0, x 1, x 2, x 3, x 4, x 5, x 6, boolD false, .ptr H.length 0, .ptr J'.length 0, intD i, x 11, x 12, x 13, x 14], K⟩) ?_ _ _ ⟨0, Nat.zero_le _, rfl, ex_st _ _ _ rfl⟩
    rintro k _ ⟨i, hi, rfl, x, rfl⟩
    by_cases t0 : i < j.ks.length
    · have f1 : ((i : Int) < (j.ks.length : Int)) = True := eq_true (by omega)
      have w1 : IntKind.i64.wrap ((i : Int) + 1) = ((i + 1 : Nat) : Int) := wsucc (by omega)
      obtain ⟨s, hs⟩ : ∃ s, j.ks[i]? = some s := ⟨_, List.getElem?_eq_getElem t0⟩
      have hc : (D.str s).cells = [D.str s] := rfl
      have hb : (!(s == s)) = false := by simp
      (repeat ((first | refine W_sq ?_ | refine W_bk ?_ | refine W_ret ?_ | refine W_exit ?_ | refine W_skip ?_ | (apply W_rg; focus (intro _; simp only [evalR,runOps,stepOp,wanted,aop,evx,put,unflag,binV,isShift,binStr,AV.elems,AV.unf,AV.int?,AV.mkAgg,AV.pures,D.cells,readCells,readD,List.contains,List.elem,z2,z3,z4,z5,z6,z7,z8,z9,z10,z11,z12,z13,z14,z15,Option.map,intD,boolD,reduceIte,z23,forgetT,Nat.reduceAdd,Nat.reduceLeDiff,z26,z29,z32,z42,z51,z52,z55,z62,gK, gK2, b_lss, b_add, f1, w1, hs, List.length_map]; (first | done | exact rfl))) | (refine W_cT ?_ ?_; focus (simp only [evx,List.contains,List.elem,z2,z3,AV.unf,reduceIte,z23]; done)) | (refine W_cF ?_ ?_; focus (simp only [evx,List.contains,List.elem,z2,z3,AV.unf,reduceIte,z23]; done))) <;> (try simp only [seqK,blockK,loopK])))
      exact ⟨j.ks.length - (i + 1), by omega, i + 1, t0, rfl, ex_st _ _ _ rfl⟩
    · obtain rfl : i = j.ks.length := by omega
      have f1 : ((j.ks.length : Int) < (j.ks.length : Int)) = False := eq_false (by omega)
      (repeat ((first | refine W_sq ?_ | refine W_bk ?_ | refine W_ret ?_ | refine W_exit ?_ | refine W_skip ?_ | (apply W_rg; focus (intro _; simp only [evalR,runOps,stepOp,wanted,aop,evx,put,unflag,binV,isShift,AV.elems,AV.unf,AV.mkAgg,AV.pures,readCells,List.contains,List.elem,z2,z3,z4,z5,z6,z7,z8,z9,z10,z11,z12,z13,z14,z15,Option.map,intD,boolD,reduceIte,z23,forgetT,Nat.reduceAdd,Nat.reduceLeDiff,z26,z43,gK, b_lss, f1, List.length_map]; (first | done | exact rfl))) | (refine W_cT ?_ ?_; focus (simp only [evx,List.contains,List.elem,z2,z3,AV.unf,reduceIte,z23]; done)) | (refine W_cF ?_ ?_; focus (simp only [evx,List.contains,List.elem,z2,z3,AV.unf,reduceIte,z23]; done))) <;> (try simp only [seqK,blockK,loopK,reduceIte])))
      refine W_lp (fun k st => ∃ i : Nat, i ≤ j.l.length ∧ k = j.l.length - i ∧ ∃ x : Nat → AV, st = ⟨[x 0, x 1, x 2, x 3, x 4, x 5, x 6, boolD false, .ptr H.length 0, .ptr J'.length 0, x 10, intD i, x 12, x 13, x 14], K⟩) ?_ _ _ ⟨0, Nat.zero_le _, rfl, ex_st _ _ _ rfl⟩
      rintro k _ ⟨i, hi, rfl, x, rfl⟩
      by_cases t0 : i < j.l.length
      · have f1 : ((i : Int) < (j.l.length : Int)) = True := eq_true (by omega)
        have w1 : IntKind.i64.wrap ((i : Int) + 1) = ((i + 1 : Nat) : Int) := wsucc (by omega)
        obtain ⟨y, hy⟩ : ∃ y, j.l[i]? = some y := ⟨_, List.getElem?_eq_getElem t0⟩
        have hyd := jd y
        have he := SameJ_ev d H.length K y (hj.2.2.2.2 y (List.mem_of_getElem? hy))
        simp only [hyd] at he
        (repeat ((first | refine W_sq ?_ | refine W_bk ?_ | refine W_ret ?_ | refine W_exit ?_ | refine W_skip ?_ | (apply W_rg; focus (intro _; simp only [evalR,runOps,stepOp,wanted,aop,evx,put,unflag,binV,isShift,unV,AV.elems,AV.unf,AV.int?,AV.mkAgg,AV.pures,D.cells,readCells,readD,List.contains,List.elem,z2,z3,z4,z5,z6,z7,z8,z9,z10,z11,z12,z13,z14,z15,Option.map,intD,boolD,reduceIte,z23,forgetT,Nat.reduceAdd,z26,z42,z51,z52,z55,z62,gK, b_lss, f1, List.length_map]; (first | done | exact rfl))) | (refine W_cT ?_ ?_; focus (simp only [evx,List.contains,List.elem,z2,z3,AV.unf,reduceIte,z23]; done)) | (refine W_cF ?_ ?_; focus (simp only [evx,List.contains,List.elem,z2,z3,AV.unf,reduceIte,z23,boolD]; done))) <;> (try simp only [seqK])))
        refine W_region ?_; apply WO_take 8; (focus (intro _; simp only [runOps,stepOp,wanted,aop,evx,put,unflag,AV.elems,AV.unf,AV.int?,AV.mkAgg,AV.pures,D.cells,readCells,readD,List.contains,List.elem,z2,z3,z4,z5,z6,z7,z8,z9,z10,z11,z12,z13,z14,z15,Option.map,reduceIte,z23,Nat.reduceAdd,z26,z51,z52,z55,z62,gK, gK2, hy, hyd]; (first | done | exact rfl))); simp only [List.drop_succ_cons, List.drop_zero]; refine WO_call ?_; simp only [evx, List.map_cons, List.map_nil, List.contains, List.elem, List.getD_cons_succ, List.getD_cons_zero, reduceIte, Bool.false_eq_true, AV.unf, intD, boolD]; refine Ev.fn he ?_
        (apply WO_end; (focus (intro _; simp only [runOps,stepOp,wanted,aop,evx,put,unflag,unV,AV.unf,List.contains,List.elem,z2,z3,z4,z5,Option.map,boolD,reduceIte,z23,z32]; (first | done | exact rfl)))) <;> (try simp only [seqK,forgetT,z4,z5])
        (repeat ((first | refine W_sq ?_ | refine W_bk ?_ | refine W_ret ?_ | refine W_exit ?_ | refine W_skip ?_ | (apply W_rg; focus (intro _; simp only [evalR,runOps,stepOp,wanted,aop,evx,put,unflag,binV,isShift,AV.unf,List.contains,List.elem,z2,z3,z4,z5,Option.map,reduceIte,z23,forgetT,z29,b_add, w1]; (first | done | exact rfl))) | (refine W_cT ?_ ?_; focus (simp only [evx,List.contains,List.elem,z2,z3,AV.unf,reduceIte,z23]; done)) | (refine W_cF ?_ ?_; focus (simp only [evx,List.contains,List.elem,z2,z3,AV.unf,reduceIte,z23]; done))) <;> (try simp only [seqK,blockK,loopK])))
        exact ⟨j.l.length - (i + 1), by omega, i + 1, t0, rfl, ex_st _ _ _ rfl⟩
      · obtain rfl : i = j.l.length := by omega
        have f1 : ((j.l.length : Int) < (j.l.length : Int)) = False := eq_false (by omega)
        (repeat ((first | refine W_sq ?_ | refine W_bk ?_ | refine W_ret ?_ | refine W_exit ?_ | refine W_skip ?_ | (apply W_rg; focus (intro _; simp only [evalR,runOps,stepOp,wanted,aop,evx,put,unflag,binV,isShift,AV.elems,AV.unf,AV.mkAgg,AV.pures,readCells,List.contains,List.elem,z2,z3,z4,z5,z6,z7,z8,z9,z10,z11,z12,z13,z14,z15,Option.map,intD,boolD,reduceIte,z23,forgetT,Nat.reduceAdd,z26,z43,z51,gK, b_lss, f1, List.length_map]; (first | done | exact rfl))) | (refine W_cT ?_ ?_; focus (simp only [evx,List.contains,List.elem,z2,z3,AV.unf,reduceIte,z23]; done)) | (refine W_cF ?_ ?_; focus (simp only [evx,List.contains,List.elem,z2,z3,AV.unf,reduceIte,z23]; done))) <;> (try simp only [seqK,blockK,loopK,reduceIte])))
        exact ans_cut rfl rfl ⟨rfl, rfl⟩

end Go.Proofs.YtoimlfaiibadgaaDoor
