/- Which filter a content tells, of the program, walked. (NOBIN: the arithmetic of numbers is not unfolded.) -/
import Derived.Test.YtoimlfaiibadgaaDoordW26
set_option linter.unusedSimpArgs false
set_option linter.unusedVariables false
set_option linter.all false
set_option maxRecDepth 100000
namespace Go.Proofs.YtoimlfaiibadgaaDoor
open Go Go.Abs Go.Lib

abbrev fzC : List AV := [.fslice [], .fslice [], .fslice [], .fslice [], .d (.int .i64 0)]

theorem join_bad {t1 t2 t3 t4 : Option (List Tx)} {n : Option Int} (h : ((((((false || t1.isNone) || t2.isNone) || t3.isNone) || t4.isNone) || n.isNone)) = true) : joinP t1 t2 t3 t4 n = none := by
  cases t1 with
  | none => exact join_none (.inl rfl)
  | some a => cases t2 with
    | none => exact join_none (.inr (.inl rfl))
    | some b => cases t3 with
      | none => exact join_none (.inr (.inr (.inl rfl)))
      | some c => cases t4 with
        | none => exact join_none (.inr (.inr (.inr (.inl rfl))))
        | some d => cases n with
          | none => exact join_none (.inr (.inr (.inr (.inr rfl))))
          | some n => cases h

theorem lim_of {o : Option J} (h : (limJ o).isNone = false) : limJ o = some ((o.map J.n).getD 0) := by
  cases o with
  | none => rfl
  | some v =>
    have hl : limJ (some v) = if v.k = 2 ∧ 0 ≤ v.n ∧ v.n ≤ 100 then some v.n else none := rfl
    rw [hl] at h ⊢
    split at h
    · rename_i hc; rw [if_pos hc]; rfl
    · cases h

set_option maxHeartbeats 2000000 in
--
theorem Parse_ev (lim : Nat) (H : AHeap) (d : Nat) (c : J) (hd : Bd d c) : Ev X 10 lim [.d c.d] H (parseV (parseJ c)) H := by
  refine Fn.ev ?_
  refine Fn_of rfl (show code 10 = some c10 from rfl) rfl ?_; simp only [List.length_cons, List.length_nil, Nat.reduceAdd, Nat.reduceSub, List.reduceReplicate, List.cons_append, List.nil_append, reduceIte, Bool.false_eq_true]
  have hjd := jd c
  obtain ⟨J1, hJ1⟩ : ∃ J1, H ++ [AObj.cells (jC c)] = J1 := ⟨_, rfl⟩
  have l1 : J1.length = H.length + 1 := by rw [← hJ1]; simp
  obtain ⟨J2, hJ2⟩ : ∃ J2, J1 ++ [AObj.cells fzC] = J2 := ⟨_, rfl⟩
  have l2 : J2.length = H.length + 2 := by rw [← hJ2]; simp [l1]
  have g2 : J2[H.length]? = some (.cells (jC c)) := by rw [← hJ2, ← hJ1]; exact get_more _ (get_last _ _)
  have g2r : J2[J1.length]? = some (.cells fzC) := by rw [← hJ2]; exact get_last _ _
  obtain ⟨J3, hJ3⟩ : ∃ J3, J2 ++ [AObj.cells (rC c false)] = J3 := ⟨_, rfl⟩
  have l3 : J3.length = H.length + 3 := by rw [← hJ3]; simp [l2]
  have g3 : J3[J2.length]? = some (.cells (rC c false)) := by rw [← hJ3]; exact get_last _ _
  have g3r : J3[J1.length]? = some (.cells fzC) := by rw [← hJ3]; exact get_more _ g2r
  have ge1 : H.length ≤ J1.length := by omega
  have ge2 : H.length ≤ J2.length := by omega
  have gS2 : ∀ o : AObj, (J2.set J1.length o)[J1.length]? = some o := fun o => List.getElem?_set_self (by omega)
  have hgo := Good_ev H.length J2 d c hd
  simp only [hjd] at hgo
  have bad : parseV none = .tuple [.d (.agg [.slice [], .slice [], .slice [], .slice [], .int .i64 0]), intD 1] := rfl
  (iterate 2 ((first | refine W_sq ?_ | refine W_bk ?_ | refine W_ret ?_ | refine W_exit ?_ | refine W_skip ?_ | (apply W_rg; focus (intro _; simp only [evalR,runOps,stepOp,wanted,aop,evx,put,unflag,AV.unf,AV.cells,D.cells,AV.isCell,D.isCell,List.contains,List.elem,z3,z4,z5,z8,z9,z18,z19,reduceIte,z23,forgetT,z34,hjd, hJ1, hJ2]; (first | done | exact rfl))) | (refine W_cT ?_ ?_; focus (simp only [evx,List.contains,List.elem,z2,z3,AV.unf,reduceIte,z23,boolD]; done)) | (refine W_cF ?_ ?_; focus (simp only [evx,List.contains,List.elem,z2,z3,AV.unf,reduceIte,z23,boolD]; done))) <;> (try simp only [seqK])))
  by_cases h5 : c.k = 5
  · have f5 : (c.k != 5) = false := by rw [h5]; rfl
    cases hg : goodB 12 c with
    | false =>
      rw [hg] at hgo
      have hp : parseJ c = none := by unfold parseJ; rw [if_neg (by rw [hg]; simp)]
      rw [hp, bad]
      (iterate 1 ((first | refine W_sq ?_ | refine W_bk ?_ | refine W_ret ?_ | refine W_exit ?_ | refine W_skip ?_ | (apply W_rg; focus (intro _; simp only [z0,srcC,AV.growable,AV.owned,evalC,evalR,runOps,stepOp,wanted,aop,evx,put,unflag,binV,nilEq,isShift,binStr,unV,AV.elems,AV.unf,AV.int?,AV.toD,AV.toDs,AV.mkAgg,AV.pures,AV.cells,D.cells,AV.isCell,D.isCell,readCells,readD,optInt,fill,splice,srcOf,z1,List.contains,List.elem,z2,z3,z4,z5,z6,z7,z8,z9,z10,z11,z12,z13,z14,z15,z16,z17,z18,z19,z20,z21,z22,Option.map,intD,boolD,bD,reduceIte,z23,z24,forgetT,Nat.reduceAdd,Nat.reduceLeDiff,Nat.reduceMul,Nat.reduceSub,Nat.reduceEqDiff,Nat.reduceBEq,Nat.reduceBNe,z25,z26,z27,z28,z29,z30,z31,z32,z33,z34,z35,z36,z37,z38,z39,z40,z41,z42,z43,z44,z45,z46,z47,z48,z49,z50,z51,z52,Int.reduceToNat,z53,z54,z55,z56,z57,z58,Int.reduceBEq,Int.reduceBNe,Int.reduceLT,Int.reduceLE,Int.reduceGT,Int.reduceGE,Int.reduceEq,z59,z60,z61,z62,List.reduceReplicate,z63,z64,z65,z66,z67,chunks]; (first | done | exact rfl))) | (refine W_cT ?_ ?_; focus (simp only [evx,List.contains,List.elem,z2,z3,AV.unf,reduceIte,z23,boolD]; done)) | (refine W_cF ?_ ?_; focus (simp only [evx,List.contains,List.elem,z2,z3,AV.unf,reduceIte,z23,boolD]; done))) <;> (try simp only [seqK,blockK,loopK,onlyK,forgetT,put,unflag,z4,z5,z2,z3,AV.unf,reduceIte,Nat.reduceEqDiff,Nat.reduceAdd])))
      (apply W_drw; focus (refine Evl.call (hgo) (Evl.all fun k e1 => ?_); simp (maxSteps := 100000000) only [evalR,runOps,stepOp,wanted,aop,evx,put,unflag,binV,isShift,unV,AV.unf,AV.mkAgg,AV.pures,readCells,List.contains,List.elem,z2,z3,z4,z5,z7,z8,z9,z10,z11,z13,z14,z15,Option.map,boolD,reduceIte,z23,forgetT,Nat.reduceAdd,Nat.reduceLeDiff,z25,z26,z29,z31,z51,g2, b_neq, f5, e1]; (first | done | exact rfl))) <;> (try simp only [seqK])
      (repeat ((first | refine W_sq ?_ | refine W_bk ?_ | refine W_ret ?_ | refine W_exit ?_ | refine W_skip ?_ | (apply W_rg; focus (intro _; simp only [evalR,runOps,stepOp,wanted,aop,evx,put,unflag,AV.unf,AV.mkAgg,AV.pures,AV.cells,AV.isCell,D.isCell,fill,splice,List.contains,List.elem,z2,z3,z4,z5,z9,z11,z12,z13,z14,z15,z18,z19,z20,z22,Option.map,reduceIte,z23,forgetT,Nat.reduceAdd,Nat.reduceBEq,z26,z29,z34,z48,z51,g2r, ge1]; (first | done | exact rfl))) | (refine W_cT ?_ ?_; focus (simp only [evx,List.contains,List.elem,z2,z3,AV.unf,reduceIte,z23]; done)) | (refine W_cF ?_ ?_; focus (simp only [evx,List.contains,List.elem,z2,z3,AV.unf,reduceIte,z23,boolD]; done))) <;> (try simp only [seqK])))
      exact ans_cut (v := .tuple [.d (.agg [.slice [], .slice [], .slice [], .slice [], .int .i64 0]), intD 1]) (by simp only [AV.unf,AV.mkAgg,AV.pures,readCells,z2,z3,z7,z8,z9,z10,z11,z13,z14,z15,Option.map,reduceIte,Nat.reduceAdd,z26,z51,resV, gS2]; rfl) rfl ⟨rfl, rfl⟩
    | true =>
      rw [hg] at hgo
      have hm := good_mp hd h5 hg
      rw [parse_good h5 hg]
      obtain ⟨_, M1, e1, rfl, q1⟩ := fn_out (textsP_ev H.length J3 J2.length c false kT hm g3 ge2 (by omega))
      have r1 := q1.get (show J1.length ≠ J2.length by omega) g3r
      have m1 := q1.1
      obtain ⟨_, M2, e2, rfl, q2⟩ := fn_out (textsP_ev H.length M1 J2.length c _ kNt hm q1.2.1 ge2 (by omega))
      have r2 := q2.get (show J1.length ≠ J2.length by omega) r1
      have m2 := q2.1
      obtain ⟨_, M3, e3, rfl, q3⟩ := fn_out (textsP_ev H.length M2 J2.length c _ kS hm q2.2.1 ge2 (by omega))
      have r3 := q3.get (show J1.length ≠ J2.length by omega) r2
      have m3 := q3.1
      obtain ⟨_, M4, e4, rfl, q4⟩ := fn_out (textsP_ev H.length M3 J2.length c _ kNs hm q3.2.1 ge2 (by omega))
      have r4 := q4.get (show J1.length ≠ J2.length by omega) r3
      have m4 := q4.1
      obtain ⟨_, M5, e5, rfl, q5⟩ := fn_out (limit_ev H.length M4 J2.length c _ hm q4.2.1 ge2 (by omega))
      have r5 := q5.get (show J1.length ≠ J2.length by omega) r4
      have m5 := q5.1
      have p5 := q5.2.1
      have hlim := lim_of (o := getJ c kLim)
      generalize textsJ (getJ c kT) = t1 at *
      generalize textsJ (getJ c kNt) = t2 at *
      generalize textsJ (getJ c kS) = t3 at *
      generalize textsJ (getJ c kNs) = t4 at *
      generalize getJ c kLim = v at *
      generalize hn : (v.map J.n).getD 0 = n at *
      obtain ⟨N, hN⟩ : ∃ N, M5 ++ [AObj.cells (flA (t1.getD []) (t2.getD []) (t3.getD []) (t4.getD []) n)] = N := ⟨_, rfl⟩
      have gN : N[M5.length]? = some (.cells (flA (t1.getD []) (t2.getD []) (t3.getD []) (t4.getD []) n)) := by rw [← hN]; exact get_last _ _
      have gNr : N[J1.length]? = some (.cells fzC) := by rw [← hN]; exact get_more _ r5
      have gNp := get_more (AObj.cells (flA (t1.getD []) (t2.getD []) (t3.getD []) (t4.getD []) n)) p5
      rw [hN] at gNp
      have lN : N.length = M5.length + 1 := by rw [← hN]; simp
      have ge5 : H.length ≤ M5.length := by omega
      have gS : ∀ o : AObj, (N.set J1.length o)[J1.length]? = some o := fun o => List.getElem?_set_self (by omega)
      (iterate 1 ((first | refine W_sq ?_ | refine W_bk ?_ | refine W_ret ?_ | refine W_exit ?_ | refine W_skip ?_ | (apply W_rg; focus (intro _; simp only [z0,srcC,AV.growable,AV.owned,evalC,evalR,runOps,stepOp,wanted,aop,evx,put,unflag,binV,nilEq,isShift,binStr,unV,AV.elems,AV.unf,AV.int?,AV.toD,AV.toDs,AV.mkAgg,AV.pures,AV.cells,D.cells,AV.isCell,D.isCell,readCells,readD,optInt,fill,splice,srcOf,z1,List.contains,List.elem,z2,z3,z4,z5,z6,z7,z8,z9,z10,z11,z12,z13,z14,z15,z16,z17,z18,z19,z20,z21,z22,Option.map,intD,boolD,bD,reduceIte,z23,z24,forgetT,Nat.reduceAdd,Nat.reduceLeDiff,Nat.reduceMul,Nat.reduceSub,Nat.reduceEqDiff,Nat.reduceBEq,Nat.reduceBNe,z25,z26,z27,z28,z29,z30,z31,z32,z33,z34,z35,z36,z37,z38,z39,z40,z41,z42,z43,z44,z45,z46,z47,z48,z49,z50,z51,z52,Int.reduceToNat,z53,z54,z55,z56,z57,z58,Int.reduceBEq,Int.reduceBNe,Int.reduceLT,Int.reduceLE,Int.reduceGT,Int.reduceGE,Int.reduceEq,z59,z60,z61,z62,List.reduceReplicate,z63,z64,z65,z66,z67,chunks]; (first | done | exact rfl))) | (refine W_cT ?_ ?_; focus (simp only [evx,List.contains,List.elem,z2,z3,AV.unf,reduceIte,z23,boolD]; done)) | (refine W_cF ?_ ?_; focus (simp only [evx,List.contains,List.elem,z2,z3,AV.unf,reduceIte,z23,boolD]; done))) <;> (try simp only [seqK,blockK,loopK,onlyK,forgetT,put,unflag,z4,z5,z2,z3,AV.unf,reduceIte,Nat.reduceEqDiff,Nat.reduceAdd])))
      (apply W_drw; focus (refine Evl.call (hgo) (Evl.all fun k e1 => ?_); simp (maxSteps := 100000000) only [evalR,runOps,stepOp,wanted,aop,evx,put,unflag,binV,isShift,unV,AV.unf,AV.mkAgg,AV.pures,readCells,List.contains,List.elem,z2,z3,z4,z5,z7,z8,z9,z10,z11,z13,z14,z15,Option.map,boolD,reduceIte,z23,forgetT,Nat.reduceAdd,Nat.reduceLeDiff,z25,z26,z29,z32,z51,g2, b_neq, f5, e1]; (first | done | exact rfl))) <;> (try simp only [seqK])
      (iterate 6 ((first | refine W_sq ?_ | refine W_bk ?_ | refine W_ret ?_ | refine W_exit ?_ | refine W_skip ?_ | (apply W_rg; focus (intro _; simp only [evalR,runOps,stepOp,wanted,aop,evx,put,unflag,AV.unf,AV.mkAgg,AV.pures,AV.cells,D.cells,AV.isCell,D.isCell,readCells,fill,splice,List.contains,List.elem,z2,z3,z4,z5,z7,z8,z9,z10,z11,z12,z13,z14,z15,z18,z19,z20,z21,Option.map,reduceIte,z23,forgetT,Nat.reduceAdd,Nat.reduceLeDiff,z26,z29,z34,z48,z51,g2, hJ3]; (first | done | exact rfl))) | (refine W_cT ?_ ?_; focus (simp only [evx,List.contains,List.elem,z2,z3,AV.unf,reduceIte,z23]; done)) | (refine W_cF ?_ ?_; focus (simp only [evx,List.contains,List.elem,z2,z3,AV.unf,reduceIte,z23]; done))) <;> (try simp only [seqK])))
      refine W_region ?_; refine WO_call ?_; simp only [evx, List.map_cons, List.map_nil, List.contains, List.elem, List.getD_cons_succ, List.getD_cons_zero, reduceIte, Bool.false_eq_true, AV.unf]; refine Ev.fn e1 ?_
      refine WO_call ?_; simp only [evx, List.map_cons, List.map_nil, List.contains, List.elem, reduceIte, Bool.false_eq_true, AV.unf]; refine Ev.fn e2 ?_
      refine WO_call ?_; simp only [evx, List.map_cons, List.map_nil, List.contains, List.elem, reduceIte, Bool.false_eq_true, AV.unf]; refine Ev.fn e3 ?_
      refine WO_call ?_; simp only [evx, List.map_cons, List.map_nil, List.contains, List.elem, reduceIte, Bool.false_eq_true, AV.unf]; refine Ev.fn e4 ?_
      refine WO_call ?_; simp only [evx, List.map_cons, List.map_nil, List.contains, List.elem, reduceIte, Bool.false_eq_true, AV.unf]; refine Ev.fn e5 ?_
      (apply WO_end; (focus (intro _; simp only [runOps,stepOp,wanted,aop,evx,put,unflag,AV.unf,AV.mkAgg,AV.pures,AV.cells,D.cells,AV.isCell,D.isCell,fill,splice,List.contains,List.elem,z2,z3,z4,z5,z8,z9,z10,z11,z12,z13,z14,z15,z18,z19,z20,z21,z22,Option.map,reduceIte,z23,Nat.reduceAdd,Nat.reduceLeDiff,Nat.reduceBEq,z26,z29,z34,z46,z47,z48,z51,ge5, hN]; (first | done | exact rfl)))) <;> (try simp only [seqK,forgetT,z4,z5])
      cases hb : ((((((false || t1.isNone) || t2.isNone) || t3.isNone) || t4.isNone) || (limJ v).isNone)) with
      | true =>
        rw [hb] at gNp
        rw [join_bad hb, bad]
        (repeat ((first | refine W_sq ?_ | refine W_bk ?_ | refine W_ret ?_ | refine W_exit ?_ | refine W_skip ?_ | (apply W_rg; focus (intro _; simp only [evalR,runOps,stepOp,wanted,aop,evx,put,unflag,AV.unf,AV.mkAgg,AV.pures,AV.cells,AV.isCell,D.isCell,readCells,fill,splice,List.contains,List.elem,z2,z3,z4,z5,z6,z7,z8,z9,z10,z11,z12,z13,z14,z15,z18,z19,z20,z22,Option.map,reduceIte,z23,forgetT,Nat.reduceAdd,Nat.reduceBEq,z26,z29,z34,z48,z51,gNr, gNp, ge1]; (first | done | exact rfl))) | (refine W_cT ?_ ?_; focus (simp only [evx,List.contains,List.elem,z2,z3,AV.unf,reduceIte,z23]; done)) | (refine W_cF ?_ ?_; focus (simp only [evx,List.contains,List.elem,z2,z3,AV.unf,reduceIte,z23,boolD]; done))) <;> (try simp only [seqK])))
        exact ans_cut (v := .tuple [.d (.agg [.slice [], .slice [], .slice [], .slice [], .int .i64 0]), intD 1]) (by simp only [AV.unf,AV.mkAgg,AV.pures,readCells,z2,z3,z7,z8,z9,z10,z11,z13,z14,z15,Option.map,reduceIte,Nat.reduceAdd,z26,z51,resV, gS]; rfl) rfl ⟨rfl, rfl⟩
      | false =>
        rw [hb] at gNp
        simp only [Bool.or_eq_false_iff] at hb
        obtain ⟨⟨⟨⟨⟨_, b1⟩, b2⟩, b3⟩, b4⟩, b5⟩ := hb
        cases t1 with
        | none => cases b1
        | some a => cases t2 with
          | none => cases b2
          | some b => cases t3 with
            | none => cases b3
            | some e => cases t4 with
              | none => cases b4
              | some g =>
                rw [hlim b5]
                simp only [Option.getD_some] at gN
                have hp : parseV (joinP (some a) (some b) (some e) (some g) (some n)) = .tuple [.d (.agg [sD a, sD b, sD e, sD g, .int .i64 n]), intD 0] := rfl
                rw [hp]
                (repeat ((first | refine W_sq ?_ | refine W_bk ?_ | refine W_ret ?_ | refine W_exit ?_ | refine W_skip ?_ | (apply W_rg; focus (intro _; simp only [evalR,runOps,stepOp,wanted,aop,evx,put,unflag,AV.unf,AV.mkAgg,AV.pures,AV.cells,D.cells,AV.isCell,D.isCell,readCells,splice,List.contains,List.elem,z2,z3,z4,z5,z6,z7,z8,z9,z10,z11,z12,z13,z14,z15,z18,z19,z20,z22,Option.map,reduceIte,z23,forgetT,Nat.reduceAdd,Nat.reduceBEq,z26,z29,z34,z48,z51,gN, gNr, gNp, ge1]; (first | done | exact rfl))) | (refine W_cT ?_ ?_; focus (simp only [evx,List.contains,List.elem,z2,z3,AV.unf,reduceIte,z23]; done)) | (refine W_cF ?_ ?_; focus (simp only [evx,List.contains,List.elem,z2,z3,AV.unf,reduceIte,z23]; done))) <;> (try simp only [seqK])))
                exact ans_cut (v := .tuple [.d (.agg [sD a, sD b, sD e, sD g, .int .i64 n]), intD 0]) (by simp only [AV.unf,AV.mkAgg,AV.pures,readCells,z2,z3,z7,z8,z9,z10,z11,z13,z14,z15,Option.map,reduceIte,Nat.reduceAdd,z26,z51,resV, gS]; rfl) rfl ⟨rfl, rfl⟩
  · have f5 : (c.k != 5) = true := by simpa using h5
    have hp : parseJ c = none := by unfold parseJ; rw [if_neg (fun h => h5 h.1)]
    rw [hp, bad]
    (repeat ((first | refine W_sq ?_ | refine W_bk ?_ | refine W_ret ?_ | refine W_exit ?_ | refine W_skip ?_ | (apply W_rg; focus (intro _; simp only [evalR,runOps,stepOp,wanted,aop,evx,put,unflag,binV,isShift,AV.unf,AV.mkAgg,AV.pures,AV.cells,AV.isCell,D.isCell,readCells,fill,splice,List.contains,List.elem,z2,z3,z4,z5,z7,z8,z9,z10,z11,z12,z13,z14,z15,z18,z19,z20,z22,Option.map,reduceIte,z23,forgetT,Nat.reduceAdd,Nat.reduceLeDiff,Nat.reduceBEq,z25,z26,z29,z34,z44,z48,z51,g2, g2r, b_neq, f5, ge1]; (first | done | exact rfl))) | (refine W_cT ?_ ?_; focus (simp only [evx,List.contains,List.elem,z2,z3,AV.unf,reduceIte,z23]; done)) | (refine W_cF ?_ ?_; focus (simp only [evx,List.contains,List.elem,z2,z3,AV.unf,reduceIte,z23,boolD]; done))) <;> (try simp only [seqK])))
    exact ans_cut (v := .tuple [.d (.agg [.slice [], .slice [], .slice [], .slice [], .int .i64 0]), intD 1]) (by simp only [AV.unf,AV.mkAgg,AV.pures,readCells,z2,z3,z7,z8,z9,z10,z11,z13,z14,z15,Option.map,reduceIte,Nat.reduceAdd,z26,z51,resV, gS2]; rfl) rfl ⟨rfl, rfl⟩

end Go.Proofs.YtoimlfaiibadgaaDoor
