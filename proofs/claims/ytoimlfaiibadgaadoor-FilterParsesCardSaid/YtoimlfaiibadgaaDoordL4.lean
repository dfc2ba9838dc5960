/- FilterParses, walked. (NOBIN: the arithmetic of numbers is not unfolded.) -/
import Derived.Test.YtoimlfaiibadgaaDoordW27
import Derived.Test.YtoimlfaiibadgaaDoordW28
import Derived.Test.YtoimlfaiibadgaaDoordV4
set_option linter.unusedSimpArgs false
set_option linter.unusedVariables false
set_option linter.all false
set_option maxRecDepth 100000
namespace Go.Proofs.YtoimlfaiibadgaaDoor
open Go Go.Abs Go.Lib

theorem texts_le {o : Option J} {l : List Tx} (h : textsJ o = some l) : l.length ≤ 100 := by
  cases o with
  | none => obtain rfl := (Option.some.inj h).symm; simp
  | some v =>
    by_cases hc : v.k = 4 ∧ v.l.length ≤ 100 ∧ v.l.all okJ = true
    · have : textsJ (some v) = some (v.l.map J.t) := if_pos hc
      rw [this] at h
      obtain rfl := (Option.some.inj h).symm
      rw [List.length_map]; exact hc.2.1
    · have : textsJ (some v) = none := if_neg hc
      rw [this] at h; cases h

def nF : Fl := ⟨[], [], [], [], 0⟩

theorem parse_le {c : J} {g : Fl} (h : parseJ c = some g) : g.ty.length ≤ 100 ∧ g.nty.length ≤ 100 ∧ g.sn.length ≤ 100 ∧ g.nsn.length ≤ 100 := by
  unfold parseJ at h
  split at h
  · have h : joinP (textsJ (getJ c kT)) (textsJ (getJ c kNt)) (textsJ (getJ c kS)) (textsJ (getJ c kNs)) (limJ (getJ c kLim)) = some g := h
    cases h1 : textsJ (getJ c kT) with
    | none => rw [join_none (.inl h1)] at h; cases h
    | some a => cases h2 : textsJ (getJ c kNt) with
      | none => rw [join_none (.inr (.inl h2))] at h; cases h
      | some b => cases h3 : textsJ (getJ c kS) with
        | none => rw [join_none (.inr (.inr (.inl h3)))] at h; cases h
        | some d => cases h4 : textsJ (getJ c kNs) with
          | none => rw [join_none (.inr (.inr (.inr (.inl h4))))] at h; cases h
          | some e => cases h5 : limJ (getJ c kLim) with
            | none => rw [join_none (.inr (.inr (.inr (.inr h5))))] at h; cases h
            | some n =>
              rw [h1, h2, h3, h4, h5] at h
              obtain rfl := (Option.some.inj h).symm
              exact ⟨texts_le h1, texts_le h2, texts_le h3, texts_le h4⟩
  · cases h

theorem parse_out (c : J) : ∃ g e, parseV (parseJ c) = .tuple [.d (flD g), .d (.int .i64 e)] ∧ g.ty.length ≤ 100 ∧ g.nty.length ≤ 100 ∧ g.sn.length ≤ 100 ∧ g.nsn.length ≤ 100 := by
  cases h : parseJ c with
  | none => exact ⟨nF, 1, rfl, by simp [nF], by simp [nF], by simp [nF], by simp [nF]⟩
  | some g => exact ⟨g, 0, rfl, parse_le h⟩

theorem content_out {f : Fl} (hf : fewB f = true) : ∃ j e, contentV (contentJ f) = .tuple [.d j.d, .d (.int .i64 e)] ∧ Bd 3 j := by
  unfold contentJ
  by_cases h : limB f = true ∧ allV f = true
  · rw [if_pos h]; exact ⟨_, 0, rfl, raw_bd hf⟩
  · rw [if_neg h]; exact ⟨J.zero, 1, rfl, by simp [J.t], by simp [J.ks], by simp [J.l], by simp [J.ks], by simp [J.l]⟩

theorem parses_law (lim : Nat) (H : AHeap) (c : J) (f : Fl) (hm : Lim f) : Ev X 3 lim [.d c.d, .d (flD f)] H (boolD true) H := by
  refine Fn.ev ?_
  refine Fn_of rfl (show code 3 = some c3 from rfl) rfl ?_; simp only [List.length_cons, List.length_nil, Nat.reduceAdd, Nat.reduceSub, List.reduceReplicate, List.cons_append, List.nil_append, reduceIte, Bool.false_eq_true]
  have hjd := jd c
  obtain ⟨J1, hJ1⟩ : ∃ J1, H ++ [AObj.cells (jC c)] = J1 := ⟨_, rfl⟩
  have l1 : J1.length = H.length + 1 := by rw [← hJ1]; simp
  obtain ⟨K, hK⟩ : ∃ K, J1 ++ [AObj.cells (flC f)] = K := ⟨_, rfl⟩
  have lK : K.length = H.length + 2 := by rw [← hK]; simp [l1]
  have gK : K[H.length]? = some (.cells (jC c)) := by rw [← hK, ← hJ1]; exact get_more _ (get_last _ _)
  have gK2 : K[J1.length]? = some (.cells (flC f)) := by rw [← hK]; exact get_last _ _
  have hsm := small_ev H.length K c
  have hfew := few_ev H.length K f
  simp only [flD] at hfew
  simp only [hjd] at hsm
  (iterate 2 ((first | refine W_sq ?_ | refine W_bk ?_ | refine W_ret ?_ | refine W_exit ?_ | refine W_skip ?_ | (apply W_rg; focus (intro _; simp only [evalR,runOps,stepOp,wanted,aop,evx,put,unflag,AV.unf,AV.cells,D.cells,AV.isCell,D.isCell,List.contains,List.elem,z2,z3,z4,z5,z8,z9,z18,z19,reduceIte,z23,forgetT,z34,hjd, flD, hJ1, hK]; (first | done | exact rfl))) | (refine W_cT ?_ ?_; focus (simp only [evx,List.contains,List.elem,z2,z3,AV.unf,reduceIte,z23,boolD]; done)) | (refine W_cF ?_ ?_; focus (simp only [evx,List.contains,List.elem,z2,z3,AV.unf,reduceIte,z23,boolD]; done))) <;> (try simp only [seqK])))
  by_cases hs : 0 ≤ leftI 15 c 300
  · rw [decide_eq_true hs] at hsm
    cases hf : fewB f with
    | false =>
      rw [hf] at hfew
      (iterate 1 ((first | refine W_sq ?_ | refine W_bk ?_ | refine W_ret ?_ | refine W_exit ?_ | refine W_skip ?_ | (apply W_rg; focus (intro _; simp only [z0,srcC,AV.growable,AV.owned,evalC,evalR,runOps,stepOp,wanted,aop,evx,put,unflag,binV,nilEq,isShift,binStr,unV,AV.elems,AV.unf,AV.int?,AV.toD,AV.toDs,AV.mkAgg,AV.pures,AV.cells,D.cells,AV.isCell,D.isCell,readCells,readD,optInt,fill,splice,srcOf,z1,List.contains,List.elem,z2,z3,z4,z5,z6,z7,z8,z9,z10,z11,z12,z13,z14,z15,z16,z17,z18,z19,z20,z21,z22,Option.map,intD,boolD,bD,reduceIte,z23,z24,forgetT,Nat.reduceAdd,Nat.reduceLeDiff,Nat.reduceMul,Nat.reduceSub,Nat.reduceEqDiff,Nat.reduceBEq,Nat.reduceBNe,z25,z26,z27,z28,z29,z30,z31,z32,z33,z34,z35,z36,z37,z38,z39,z40,z41,z42,z43,z44,z45,z46,z47,z48,z49,z50,z51,z52,Int.reduceToNat,z53,z54,z55,z56,z57,z58,Int.reduceBEq,Int.reduceBNe,Int.reduceLT,Int.reduceLE,Int.reduceGT,Int.reduceGE,Int.reduceEq,z59,z60,z61,z62,List.reduceReplicate,z63,z64,z65,z66,z67,chunks]; (first | done | exact rfl))) | (refine W_cT ?_ ?_; focus (simp only [evx,List.contains,List.elem,z2,z3,AV.unf,reduceIte,z23,boolD]; done)) | (refine W_cF ?_ ?_; focus (simp only [evx,List.contains,List.elem,z2,z3,AV.unf,reduceIte,z23,boolD]; done))) <;> (try simp only [seqK,blockK,loopK,onlyK,forgetT,put,unflag,z4,z5,z2,z3,AV.unf,reduceIte,Nat.reduceEqDiff,Nat.reduceAdd])))
      (apply W_drw; focus (refine Evl.call (hsm) (Evl.call (hfew) (Evl.all fun k e2 e1 => ?_)); simp (maxSteps := 100000000) only [evalR,runOps,stepOp,wanted,aop,evx,put,unflag,unV,AV.unf,AV.mkAgg,AV.pures,readCells,List.contains,List.elem,z2,z3,z4,z5,z7,z8,z9,z10,z11,z13,z14,z15,Option.map,boolD,reduceIte,z23,forgetT,Nat.reduceAdd,z26,z29,z31,z32,z51,gK, gK2, e2, e1]; (first | done | exact rfl))) <;> (try simp only [seqK])
      (repeat ((first | refine W_sq ?_ | refine W_bk ?_ | refine W_ret ?_ | refine W_exit ?_ | refine W_skip ?_ | (apply W_rg; focus (intro _; simp only [evalR,runOps,stepOp,wanted,aop,evx,put,unflag,z4,z5,forgetT]; (first | done | exact rfl))) | (refine W_cT ?_ ?_; focus (simp only [evx,List.contains,List.elem,z2,z3,AV.unf,reduceIte,z23]; done)) | (refine W_cF ?_ ?_; focus (simp only [evx,List.contains,List.elem,z2,z3,AV.unf,reduceIte,z23,boolD]; done))) <;> (try simp only [seqK])))
      exact ans_cut rfl rfl ⟨rfl, rfl⟩
    | true =>
      rw [hf] at hfew
      have hbd := left_bd _ _ _ hs
      obtain ⟨g, e, hpo, p1, p2, p3, p4⟩ := parse_out c
      obtain ⟨j, e', hco, hjb⟩ := content_out hf
      have hcd := jd j
      have a1 := Parse_ev H.length K 15 c hbd
      obtain ⟨K1, hK1⟩ : ∃ K1, K ++ [AObj.cells (flC g)] = K1 := ⟨_, rfl⟩
      have lK1 : K1.length = H.length + 3 := by rw [← hK1]; simp [lK]
      have a2 := ParseR_ev H.length K1 15 c hbd
      rw [hpo] at a1 a2
      simp only [flD, hjd] at a1 a2
      obtain ⟨K2, hK2⟩ : ∃ K2, K1 ++ [AObj.cells (flC g)] = K2 := ⟨_, rfl⟩
      have lK2 : K2.length = H.length + 4 := by rw [← hK2]; simp [lK1]
      have a3 := Content_ev H.length K2 f hf hm
      obtain ⟨K3, hK3⟩ : ∃ K3, K2 ++ [AObj.cells (jC j)] = K3 := ⟨_, rfl⟩
      have lK3 : K3.length = H.length + 5 := by rw [← hK3]; simp [lK2]
      have a4 := ContentR_ev H.length K3 f hf
      rw [hco] at a3 a4
      simp only [flD, hcd] at a3 a4
      obtain ⟨K4, hK4⟩ : ∃ K4, K3 ++ [AObj.cells (jC j)] = K4 := ⟨_, rfl⟩
      have c1 : K1[H.length]? = some (.cells (jC c)) := by rw [← hK1]; exact get_more _ gK
      have c2 : K1[J1.length]? = some (.cells (flC f)) := by rw [← hK1]; exact get_more _ gK2
      have c3 : K1[K.length]? = some (.cells (flC g)) := by rw [← hK1]; exact get_last _ _
      have d2 : K2[J1.length]? = some (.cells (flC f)) := by rw [← hK2]; exact get_more _ c2
      have d3 : K2[K.length]? = some (.cells (flC g)) := by rw [← hK2]; exact get_more _ c3
      have d4 : K2[K1.length]? = some (.cells (flC g)) := by rw [← hK2]; exact get_last _ _
      have e2 : K3[J1.length]? = some (.cells (flC f)) := by rw [← hK3]; exact get_more _ d2
      have g3 : K4[K.length]? = some (.cells (flC g)) := by rw [← hK4, ← hK3]; exact get_more _ (get_more _ d3)
      have g4 : K4[K1.length]? = some (.cells (flC g)) := by rw [← hK4, ← hK3]; exact get_more _ (get_more _ d4)
      have g5 : K4[K2.length]? = some (.cells (jC j)) := by rw [← hK4, ← hK3]; exact get_more _ (get_last _ _)
      have g6 : K4[K3.length]? = some (.cells (jC j)) := by rw [← hK4]; exact get_last _ _
      have s1 := Same_ev H.length K4 g (by omega) (by omega) (by omega) (by omega)
      have s2 := SameJ_ev 3 H.length K4 j hjb
      have s3 := awake_ev H.length K4
      simp only [flD] at s1
      simp only [hcd] at s2
      have ge0 : H.length ≤ K.length := by omega
      have ge1 : H.length ≤ K1.length := by omega
      have ge2 : H.length ≤ K2.length := by omega
      have ge3 : H.length ≤ K3.length := by omega
      (iterate 1 ((first | refine W_sq ?_ | refine W_bk ?_ | refine W_ret ?_ | refine W_exit ?_ | refine W_skip ?_ | (apply W_rg; focus (intro _; simp only [z0,srcC,AV.growable,AV.owned,evalC,evalR,runOps,stepOp,wanted,aop,evx,put,unflag,binV,nilEq,isShift,binStr,unV,AV.elems,AV.unf,AV.int?,AV.toD,AV.toDs,AV.mkAgg,AV.pures,AV.cells,D.cells,AV.isCell,D.isCell,readCells,readD,optInt,fill,splice,srcOf,z1,List.contains,List.elem,z2,z3,z4,z5,z6,z7,z8,z9,z10,z11,z12,z13,z14,z15,z16,z17,z18,z19,z20,z21,z22,Option.map,intD,boolD,bD,reduceIte,z23,z24,forgetT,Nat.reduceAdd,Nat.reduceLeDiff,Nat.reduceMul,Nat.reduceSub,Nat.reduceEqDiff,Nat.reduceBEq,Nat.reduceBNe,z25,z26,z27,z28,z29,z30,z31,z32,z33,z34,z35,z36,z37,z38,z39,z40,z41,z42,z43,z44,z45,z46,z47,z48,z49,z50,z51,z52,Int.reduceToNat,z53,z54,z55,z56,z57,z58,Int.reduceBEq,Int.reduceBNe,Int.reduceLT,Int.reduceLE,Int.reduceGT,Int.reduceGE,Int.reduceEq,z59,z60,z61,z62,List.reduceReplicate,z63,z64,z65,z66,z67,chunks]; (first | done | exact rfl))) | (refine W_cT ?_ ?_; focus (simp only [evx,List.contains,List.elem,z2,z3,AV.unf,reduceIte,z23,boolD]; done)) | (refine W_cF ?_ ?_; focus (simp only [evx,List.contains,List.elem,z2,z3,AV.unf,reduceIte,z23,boolD]; done))) <;> (try simp only [seqK,blockK,loopK,onlyK,forgetT,put,unflag,z4,z5,z2,z3,AV.unf,reduceIte,Nat.reduceEqDiff,Nat.reduceAdd])))
      (apply W_drw; focus (refine Evl.call (hsm) (Evl.call (hfew) (Evl.all fun k e2 e1 => ?_)); simp (maxSteps := 100000000) only [evalR,runOps,stepOp,wanted,aop,evx,put,unflag,unV,AV.unf,AV.mkAgg,AV.pures,readCells,List.contains,List.elem,z2,z3,z4,z5,z7,z8,z9,z10,z11,z13,z14,z15,Option.map,boolD,reduceIte,z23,forgetT,Nat.reduceAdd,z26,z29,z32,z51,gK, gK2, e2, e1]; (first | done | exact rfl))) <;> (try simp only [seqK])
      (iterate 4 ((first | refine W_sq ?_ | refine W_bk ?_ | refine W_ret ?_ | refine W_exit ?_ | refine W_skip ?_ | (apply W_rg; focus (intro _; simp only [z0,srcC,AV.growable,AV.owned,evalC,evalR,runOps,stepOp,wanted,aop,evx,put,unflag,binV,nilEq,isShift,binStr,unV,AV.elems,AV.unf,AV.int?,AV.toD,AV.toDs,AV.mkAgg,AV.pures,AV.cells,D.cells,AV.isCell,D.isCell,readCells,readD,optInt,fill,splice,srcOf,z1,List.contains,List.elem,z2,z3,z4,z5,z6,z7,z8,z9,z10,z11,z12,z13,z14,z15,z16,z17,z18,z19,z20,z21,z22,Option.map,intD,boolD,bD,reduceIte,z23,z24,forgetT,Nat.reduceAdd,Nat.reduceLeDiff,Nat.reduceMul,Nat.reduceSub,Nat.reduceEqDiff,Nat.reduceBEq,Nat.reduceBNe,z25,z26,z27,z28,z29,z30,z31,z32,z33,z34,z35,z36,z37,z38,z39,z40,z41,z42,z43,z44,z45,z46,z47,z48,z49,z50,z51,z52,Int.reduceToNat,z53,z54,z55,z56,z57,z58,Int.reduceBEq,Int.reduceBNe,Int.reduceLT,Int.reduceLE,Int.reduceGT,Int.reduceGE,Int.reduceEq,z59,z60,z61,z62,List.reduceReplicate,z63,z64,z65,z66,z67,chunks]; (first | done | exact rfl))) | (refine W_cT ?_ ?_; focus (simp only [evx,List.contains,List.elem,z2,z3,AV.unf,reduceIte,z23]; done)) | (refine W_cF ?_ ?_; focus (simp only [evx,List.contains,List.elem,z2,z3,AV.unf,reduceIte,z23]; done))) <;> (try simp only [seqK])))
      refine W_region ?_; apply WO_take 1; (focus (intro _; simp only [runOps,stepOp,wanted,aop,evx,put,unflag,AV.unf,AV.mkAgg,AV.pures,readCells,List.contains,List.elem,z2,z3,z4,z5,z7,z8,z9,z10,z11,z13,z14,z15,Option.map,reduceIte,z23,Nat.reduceAdd,z26,z51,gK]; (first | done | exact rfl))); simp only [List.drop_succ_cons, List.drop_zero]; refine WO_call ?_; simp only [evx, List.map_cons, List.map_nil, List.contains, List.elem, List.getD_cons_succ, List.getD_cons_zero, reduceIte, Bool.false_eq_true, AV.unf, boolD]; refine Ev.fn a1 ?_
      (apply WO_end; (focus (intro _; simp only [runOps,stepOp,wanted,aop,evx,put,unflag,AV.unf,AV.cells,D.cells,AV.isCell,D.isCell,splice,List.contains,List.elem,z2,z3,z4,z5,z6,z7,z8,z9,z11,z12,z13,z14,z15,z18,z19,z20,z22,Option.map,reduceIte,z23,Nat.reduceAdd,Nat.reduceBEq,z26,z29,z34,z46,z47,z48,z51,ge0, hK1]; (first | done | exact rfl)))) <;> (try simp only [seqK,forgetT,z4,z5])
      (iterate 1 ((first | refine W_sq ?_ | refine W_bk ?_ | refine W_ret ?_ | refine W_exit ?_ | refine W_skip ?_ | (apply W_rg; focus (intro _; simp only [z0,srcC,AV.growable,AV.owned,evalC,evalR,runOps,stepOp,wanted,aop,evx,put,unflag,binV,nilEq,isShift,binStr,unV,AV.elems,AV.unf,AV.int?,AV.toD,AV.toDs,AV.mkAgg,AV.pures,AV.cells,D.cells,AV.isCell,D.isCell,readCells,readD,optInt,fill,splice,srcOf,z1,List.contains,List.elem,z2,z3,z4,z5,z6,z7,z8,z9,z10,z11,z12,z13,z14,z15,z16,z17,z18,z19,z20,z21,z22,Option.map,intD,boolD,bD,reduceIte,z23,z24,forgetT,Nat.reduceAdd,Nat.reduceLeDiff,Nat.reduceMul,Nat.reduceSub,Nat.reduceEqDiff,Nat.reduceBEq,Nat.reduceBNe,z25,z26,z27,z28,z29,z30,z31,z32,z33,z34,z35,z36,z37,z38,z39,z40,z41,z42,z43,z44,z45,z46,z47,z48,z49,z50,z51,z52,Int.reduceToNat,z53,z54,z55,z56,z57,z58,Int.reduceBEq,Int.reduceBNe,Int.reduceLT,Int.reduceLE,Int.reduceGT,Int.reduceGE,Int.reduceEq,z59,z60,z61,z62,List.reduceReplicate,z63,z64,z65,z66,z67,chunks]; (first | done | exact rfl))) | (refine W_cT ?_ ?_; focus (simp only [evx,List.contains,List.elem,z2,z3,AV.unf,reduceIte,z23,boolD]; done)) | (refine W_cF ?_ ?_; focus (simp only [evx,List.contains,List.elem,z2,z3,AV.unf,reduceIte,z23,boolD]; done))) <;> (try simp only [seqK,blockK,loopK,onlyK,forgetT,put,unflag,z4,z5,z2,z3,AV.unf,reduceIte,Nat.reduceEqDiff,Nat.reduceAdd])))
      refine W_region ?_; apply WO_take 1; (focus (intro _; simp only [runOps,stepOp,wanted,aop,evx,put,unflag,AV.unf,AV.mkAgg,AV.pures,readCells,List.contains,List.elem,z2,z3,z4,z5,z7,z8,z9,z10,z11,z13,z14,z15,Option.map,reduceIte,z23,Nat.reduceAdd,z26,z51,c1]; (first | done | exact rfl))); simp only [List.drop_succ_cons, List.drop_zero]; refine WO_call ?_; simp only [evx, List.map_cons, List.map_nil, List.contains, List.elem, List.getD_cons_succ, List.getD_cons_zero, reduceIte, Bool.false_eq_true, AV.unf]; refine Ev.fn a2 ?_
      (apply WO_end; (focus (intro _; simp only [runOps,stepOp,wanted,aop,evx,put,unflag,AV.unf,AV.cells,D.cells,AV.isCell,D.isCell,splice,List.contains,List.elem,z2,z3,z4,z5,z6,z7,z8,z9,z11,z12,z13,z14,z15,z18,z19,z20,z22,Option.map,reduceIte,z23,Nat.reduceAdd,Nat.reduceBEq,z26,z29,z34,z46,z47,z48,z51,ge1, hK2]; (first | done | exact rfl)))) <;> (try simp only [seqK,forgetT,z4,z5])
      (iterate 1 ((first | refine W_sq ?_ | refine W_bk ?_ | refine W_ret ?_ | refine W_exit ?_ | refine W_skip ?_ | (apply W_rg; focus (intro _; simp only [z0,srcC,AV.growable,AV.owned,evalC,evalR,runOps,stepOp,wanted,aop,evx,put,unflag,binV,nilEq,isShift,binStr,unV,AV.elems,AV.unf,AV.int?,AV.toD,AV.toDs,AV.mkAgg,AV.pures,AV.cells,D.cells,AV.isCell,D.isCell,readCells,readD,optInt,fill,splice,srcOf,z1,List.contains,List.elem,z2,z3,z4,z5,z6,z7,z8,z9,z10,z11,z12,z13,z14,z15,z16,z17,z18,z19,z20,z21,z22,Option.map,intD,boolD,bD,reduceIte,z23,z24,forgetT,Nat.reduceAdd,Nat.reduceLeDiff,Nat.reduceMul,Nat.reduceSub,Nat.reduceEqDiff,Nat.reduceBEq,Nat.reduceBNe,z25,z26,z27,z28,z29,z30,z31,z32,z33,z34,z35,z36,z37,z38,z39,z40,z41,z42,z43,z44,z45,z46,z47,z48,z49,z50,z51,z52,Int.reduceToNat,z53,z54,z55,z56,z57,z58,Int.reduceBEq,Int.reduceBNe,Int.reduceLT,Int.reduceLE,Int.reduceGT,Int.reduceGE,Int.reduceEq,z59,z60,z61,z62,List.reduceReplicate,z63,z64,z65,z66,z67,chunks]; (first | done | exact rfl))) | (refine W_cT ?_ ?_; focus (simp only [evx,List.contains,List.elem,z2,z3,AV.unf,reduceIte,z23,boolD]; done)) | (refine W_cF ?_ ?_; focus (simp only [evx,List.contains,List.elem,z2,z3,AV.unf,reduceIte,z23,boolD]; done))) <;> (try simp only [seqK,blockK,loopK,onlyK,forgetT,put,unflag,z4,z5,z2,z3,AV.unf,reduceIte,Nat.reduceEqDiff,Nat.reduceAdd])))
      refine W_region ?_; apply WO_take 1; (focus (intro _; simp only [runOps,stepOp,wanted,aop,evx,put,unflag,AV.unf,AV.mkAgg,AV.pures,readCells,List.contains,List.elem,z2,z3,z4,z5,z7,z8,z9,z10,z11,z13,z14,z15,Option.map,reduceIte,z23,Nat.reduceAdd,z26,z51,d2]; (first | done | exact rfl))); simp only [List.drop_succ_cons, List.drop_zero]; refine WO_call ?_; simp only [evx, List.map_cons, List.map_nil, List.contains, List.elem, List.getD_cons_succ, List.getD_cons_zero, reduceIte, Bool.false_eq_true, AV.unf]; refine Ev.fn a3 ?_
      (apply WO_end; (focus (intro _; simp only [runOps,stepOp,wanted,aop,evx,put,unflag,AV.unf,AV.cells,D.cells,AV.isCell,D.isCell,splice,List.contains,List.elem,z2,z3,z4,z5,z6,z7,z8,z9,z11,z12,z13,z14,z15,z18,z19,z20,z22,Option.map,reduceIte,z23,Nat.reduceAdd,Nat.reduceBEq,z26,z29,z34,z46,z47,z48,z51,ge2, hK3]; (first | done | exact rfl)))) <;> (try simp only [seqK,forgetT,z4,z5])
      (iterate 1 ((first | refine W_sq ?_ | refine W_bk ?_ | refine W_ret ?_ | refine W_exit ?_ | refine W_skip ?_ | (apply W_rg; focus (intro _; simp only [z0,srcC,AV.growable,AV.owned,evalC,evalR,runOps,stepOp,wanted,aop,evx,put,unflag,binV,nilEq,isShift,binStr,unV,AV.elems,AV.unf,AV.int?,AV.toD,AV.toDs,AV.mkAgg,AV.pures,AV.cells,D.cells,AV.isCell,D.isCell,readCells,readD,optInt,fill,splice,srcOf,z1,List.contains,List.elem,z2,z3,z4,z5,z6,z7,z8,z9,z10,z11,z12,z13,z14,z15,z16,z17,z18,z19,z20,z21,z22,Option.map,intD,boolD,bD,reduceIte,z23,z24,forgetT,Nat.reduceAdd,Nat.reduceLeDiff,Nat.reduceMul,Nat.reduceSub,Nat.reduceEqDiff,Nat.reduceBEq,Nat.reduceBNe,z25,z26,z27,z28,z29,z30,z31,z32,z33,z34,z35,z36,z37,z38,z39,z40,z41,z42,z43,z44,z45,z46,z47,z48,z49,z50,z51,z52,Int.reduceToNat,z53,z54,z55,z56,z57,z58,Int.reduceBEq,Int.reduceBNe,Int.reduceLT,Int.reduceLE,Int.reduceGT,Int.reduceGE,Int.reduceEq,z59,z60,z61,z62,List.reduceReplicate,z63,z64,z65,z66,z67,chunks]; (first | done | exact rfl))) | (refine W_cT ?_ ?_; focus (simp only [evx,List.contains,List.elem,z2,z3,AV.unf,reduceIte,z23,boolD]; done)) | (refine W_cF ?_ ?_; focus (simp only [evx,List.contains,List.elem,z2,z3,AV.unf,reduceIte,z23,boolD]; done))) <;> (try simp only [seqK,blockK,loopK,onlyK,forgetT,put,unflag,z4,z5,z2,z3,AV.unf,reduceIte,Nat.reduceEqDiff,Nat.reduceAdd])))
      refine W_region ?_; apply WO_take 1; (focus (intro _; simp only [runOps,stepOp,wanted,aop,evx,put,unflag,AV.unf,AV.mkAgg,AV.pures,readCells,List.contains,List.elem,z2,z3,z4,z5,z7,z8,z9,z10,z11,z13,z14,z15,Option.map,reduceIte,z23,Nat.reduceAdd,z26,z51,e2]; (first | done | exact rfl))); simp only [List.drop_succ_cons, List.drop_zero]; refine WO_call ?_; simp only [evx, List.map_cons, List.map_nil, List.contains, List.elem, List.getD_cons_succ, List.getD_cons_zero, reduceIte, Bool.false_eq_true, AV.unf]; refine Ev.fn a4 ?_
      (apply WO_end; (focus (intro _; simp only [runOps,stepOp,wanted,aop,evx,put,unflag,AV.unf,AV.cells,D.cells,AV.isCell,D.isCell,splice,List.contains,List.elem,z2,z3,z4,z5,z6,z7,z8,z9,z11,z12,z13,z14,z15,z18,z19,z20,z22,Option.map,reduceIte,z23,Nat.reduceAdd,Nat.reduceBEq,z26,z29,z34,z46,z47,z48,z51,ge3, hK4]; (first | done | exact rfl)))) <;> (try simp only [seqK,forgetT,z4,z5])
      (iterate 1 ((first | refine W_sq ?_ | refine W_bk ?_ | refine W_ret ?_ | refine W_exit ?_ | refine W_skip ?_ | (apply W_rg; focus (intro _; simp only [z0,srcC,AV.growable,AV.owned,evalC,evalR,runOps,stepOp,wanted,aop,evx,put,unflag,binV,nilEq,isShift,binStr,unV,AV.elems,AV.unf,AV.int?,AV.toD,AV.toDs,AV.mkAgg,AV.pures,AV.cells,D.cells,AV.isCell,D.isCell,readCells,readD,optInt,fill,splice,srcOf,z1,List.contains,List.elem,z2,z3,z4,z5,z6,z7,z8,z9,z10,z11,z12,z13,z14,z15,z16,z17,z18,z19,z20,z21,z22,Option.map,intD,boolD,bD,reduceIte,z23,z24,forgetT,Nat.reduceAdd,Nat.reduceLeDiff,Nat.reduceMul,Nat.reduceSub,Nat.reduceEqDiff,Nat.reduceBEq,Nat.reduceBNe,z25,z26,z27,z28,z29,z30,z31,z32,z33,z34,z35,z36,z37,z38,z39,z40,z41,z42,z43,z44,z45,z46,z47,z48,z49,z50,z51,z52,Int.reduceToNat,z53,z54,z55,z56,z57,z58,Int.reduceBEq,Int.reduceBNe,Int.reduceLT,Int.reduceLE,Int.reduceGT,Int.reduceGE,Int.reduceEq,z59,z60,z61,z62,List.reduceReplicate,z63,z64,z65,z66,z67,chunks]; (first | done | exact rfl))) | (refine W_cT ?_ ?_; focus (simp only [evx,List.contains,List.elem,z2,z3,AV.unf,reduceIte,z23,boolD]; done)) | (refine W_cF ?_ ?_; focus (simp only [evx,List.contains,List.elem,z2,z3,AV.unf,reduceIte,z23,boolD]; done))) <;> (try simp only [seqK,blockK,loopK,onlyK,forgetT,put,unflag,z4,z5,z2,z3,AV.unf,reduceIte,Nat.reduceEqDiff,Nat.reduceAdd])))
      (apply W_drw; focus (refine Evl.call (s1) (Evl.call (s2) (Evl.call (s3) (Evl.all fun k e3 e2 e1 => ?_))); simp (maxSteps := 100000000) only [evalR,runOps,stepOp,wanted,aop,evx,put,unflag,binV,isShift,AV.unf,AV.mkAgg,AV.pures,readCells,List.contains,List.elem,z2,z3,z4,z5,z7,z8,z9,z10,z11,z13,z14,z15,Option.map,boolD,reduceIte,z23,forgetT,Nat.reduceAdd,z26,z29,z51,g3, g4, g5, g6, b_eql, e3, e2, e1]; (first | done | exact rfl))) <;> (try simp only [seqK])
      (repeat ((first | refine W_sq ?_ | refine W_bk ?_ | refine W_ret ?_ | refine W_exit ?_ | refine W_skip ?_ | (apply W_rg; focus (intro _; simp only [z0,srcC,AV.growable,AV.owned,evalC,evalR,runOps,stepOp,wanted,aop,evx,put,unflag,binV,nilEq,isShift,binStr,unV,AV.elems,AV.unf,AV.int?,AV.toD,AV.toDs,AV.mkAgg,AV.pures,AV.cells,D.cells,AV.isCell,D.isCell,readCells,readD,optInt,fill,splice,srcOf,z1,List.contains,List.elem,z2,z3,z4,z5,z6,z7,z8,z9,z10,z11,z12,z13,z14,z15,z16,z17,z18,z19,z20,z21,z22,Option.map,intD,boolD,bD,reduceIte,z23,z24,forgetT,Nat.reduceAdd,Nat.reduceLeDiff,Nat.reduceMul,Nat.reduceSub,Nat.reduceEqDiff,Nat.reduceBEq,Nat.reduceBNe,z25,z26,z27,z28,z29,z30,z31,z32,z33,z34,z35,z36,z37,z38,z39,z40,z41,z42,z43,z44,z45,z46,z47,z48,z49,z50,z51,z52,Int.reduceToNat,z53,z54,z55,z56,z57,z58,Int.reduceBEq,Int.reduceBNe,Int.reduceLT,Int.reduceLE,Int.reduceGT,Int.reduceGE,Int.reduceEq,z59,z60,z61,z62,List.reduceReplicate,z63,z64,z65,z66,z67,chunks]; (first | done | exact rfl))) | (refine W_cT ?_ ?_; focus (simp only [evx,List.contains,List.elem,z2,z3,AV.unf,reduceIte,z23,boolD]; done)) | (refine W_cF ?_ ?_; focus (simp only [evx,List.contains,List.elem,z2,z3,AV.unf,reduceIte,z23,boolD]; done))) <;> (try simp only [seqK,blockK,loopK,onlyK,forgetT,put,unflag,z4,z5,z2,z3,AV.unf,reduceIte,Nat.reduceEqDiff,Nat.reduceAdd])))
      exact ans_cut rfl rfl ⟨rfl, rfl⟩
  · rw [decide_eq_false hs] at hsm
    (iterate 1 ((first | refine W_sq ?_ | refine W_bk ?_ | refine W_ret ?_ | refine W_exit ?_ | refine W_skip ?_ | (apply W_rg; focus (intro _; simp only [z0,srcC,AV.growable,AV.owned,evalC,evalR,runOps,stepOp,wanted,aop,evx,put,unflag,binV,nilEq,isShift,binStr,unV,AV.elems,AV.unf,AV.int?,AV.toD,AV.toDs,AV.mkAgg,AV.pures,AV.cells,D.cells,AV.isCell,D.isCell,readCells,readD,optInt,fill,splice,srcOf,z1,List.contains,List.elem,z2,z3,z4,z5,z6,z7,z8,z9,z10,z11,z12,z13,z14,z15,z16,z17,z18,z19,z20,z21,z22,Option.map,intD,boolD,bD,reduceIte,z23,z24,forgetT,Nat.reduceAdd,Nat.reduceLeDiff,Nat.reduceMul,Nat.reduceSub,Nat.reduceEqDiff,Nat.reduceBEq,Nat.reduceBNe,z25,z26,z27,z28,z29,z30,z31,z32,z33,z34,z35,z36,z37,z38,z39,z40,z41,z42,z43,z44,z45,z46,z47,z48,z49,z50,z51,z52,Int.reduceToNat,z53,z54,z55,z56,z57,z58,Int.reduceBEq,Int.reduceBNe,Int.reduceLT,Int.reduceLE,Int.reduceGT,Int.reduceGE,Int.reduceEq,z59,z60,z61,z62,List.reduceReplicate,z63,z64,z65,z66,z67,chunks]; (first | done | exact rfl))) | (refine W_cT ?_ ?_; focus (simp only [evx,List.contains,List.elem,z2,z3,AV.unf,reduceIte,z23,boolD]; done)) | (refine W_cF ?_ ?_; focus (simp only [evx,List.contains,List.elem,z2,z3,AV.unf,reduceIte,z23,boolD]; done))) <;> (try simp only [seqK,blockK,loopK,onlyK,forgetT,put,unflag,z4,z5,z2,z3,AV.unf,reduceIte,Nat.reduceEqDiff,Nat.reduceAdd])))
    (apply W_drw; focus (refine Evl.call (hsm) (Evl.all fun k e1 => ?_); simp (maxSteps := 100000000) only [evalR,runOps,stepOp,wanted,aop,evx,put,unflag,unV,AV.unf,AV.mkAgg,AV.pures,readCells,List.contains,List.elem,z2,z3,z4,z5,z7,z8,z9,z10,z11,z13,z14,z15,Option.map,boolD,reduceIte,z23,forgetT,Nat.reduceAdd,z26,z31,z44,z51,gK, e1]; (first | done | exact rfl))) <;> (try simp only [seqK])
    (repeat ((first | refine W_sq ?_ | refine W_bk ?_ | refine W_ret ?_ | refine W_exit ?_ | refine W_skip ?_ | (apply W_rg; focus (intro _; simp only [evalR,runOps,stepOp,wanted,aop,evx,put,unflag,z4,z5,forgetT]; (first | done | exact rfl))) | (refine W_cT ?_ ?_; focus (simp only [evx,List.contains,List.elem,z2,z3,AV.unf,reduceIte,z23]; done)) | (refine W_cF ?_ ?_; focus (simp only [evx,List.contains,List.elem,z2,z3,AV.unf,reduceIte,z23,boolD]; done))) <;> (try simp only [seqK])))
    exact ans_cut rfl rfl ⟨rfl, rfl⟩

theorem parses_law2 (lim : Nat) (H : AHeap) (c : J) (f : Fl) (hm : Lim f) : Ev X 3 lim [.d (.agg [.int .i64 c.k, .int .i64 c.n, .str c.t, sD c.ks, jsD c.l]), .d (flD f)] H (boolD true) H := by
  have := parses_law lim H c f hm
  rw [jd] at this
  exact this

end Go.Proofs.YtoimlfaiibadgaaDoor
