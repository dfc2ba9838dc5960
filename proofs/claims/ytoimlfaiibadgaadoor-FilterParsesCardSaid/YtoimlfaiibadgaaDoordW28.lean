/- A filter's content, of the program, walked. (NOBIN: the arithmetic of numbers is not unfolded.) -/
import Derived.Test.YtoimlfaiibadgaaDoordW21
import Derived.Test.YtoimlfaiibadgaaDoordW25
set_option linter.unusedSimpArgs false
set_option linter.unusedVariables false
set_option linter.all false
set_option maxRecDepth 100000
namespace Go.Proofs.YtoimlfaiibadgaaDoor
open Go Go.Abs Go.Lib

theorem one0_ev (lim : Nat) (K : AHeap) (xs : List Tx) (g : Nat) (h : Tx → Bool) (hl : xs.length ≤ 1000000) (hc : ∀ x ∈ xs, Ev X g K.length [.d (.str x)] K (boolD (h x)) K) :
    Ev X 35 lim [.d (sD xs), .func (.func g) []] K (boolD (xs.any h)) K := by
  refine Fn.ev ?_
  refine Fn_of rfl (show code 35 = some c35 from rfl) rfl ?_; simp only [List.length_cons, List.length_nil, Nat.reduceAdd, Nat.reduceSub, List.reduceReplicate, List.cons_append, List.nil_append, reduceIte, Bool.false_eq_true]
  (repeat ((first | refine W_sq ?_ | refine W_bk ?_ | refine W_ret ?_ | refine W_exit ?_ | refine W_skip ?_ | (apply W_rg; focus (intro _; simp only [evalR,runOps,stepOp,wanted,aop,evx,put,unflag,AV.elems,AV.unf,List.contains,List.elem,z2,z3,z4,z5,Option.map,intD,reduceIte,z23,forgetT,List.length_map]; (first | done | exact rfl))) | (refine W_cT ?_ ?_; focus (simp only [evx,List.contains,List.elem,z2,z3,AV.unf,reduceIte,z23,boolD]; done)) | (refine W_cF ?_ ?_; focus (simp only [evx,List.contains,List.elem,z2,z3,AV.unf,reduceIte,z23,boolD]; done))) <;> (try simp only [seqK])))
  refine W_lp (fun k st => ∃ i : Nat, i ≤ xs.length ∧ k = xs.length - i ∧ (xs.take i).any h = false ∧ ∃ x : Nat → AV, st = ⟨[.d (sD xs), .func (.func g) [], x 2, x 3, boolD false, .d (sD xs), intD xs.length, intD i, x 8, x 9], K⟩) ?_ _ _ ⟨0, Nat.zero_le _, rfl, rfl, ex_st _ _ _ rfl⟩
  rintro k _ ⟨i, hi, rfl, ha, x, rfl⟩
  by_cases t0 : i < xs.length
  · have f1 : ((i : Int) < (xs.length : Int)) = True := eq_true (by omega)
    have w1 : IntKind.i64.wrap ((i : Int) + 1) = ((i + 1 : Nat) : Int) := wsucc (by omega)
    obtain ⟨s, hs⟩ : ∃ s, xs[i]? = some s := ⟨_, List.getElem?_eq_getElem t0⟩
    have hcl : (D.str s).cells = [D.str s] := rfl
    have hst := any_cut hs h
    rw [ha, Bool.false_or] at hst
    have he := hc s (List.mem_of_getElem? hs)
    (repeat ((first | refine W_sq ?_ | refine W_bk ?_ | refine W_ret ?_ | refine W_exit ?_ | refine W_skip ?_ | (apply W_rg; focus (intro _; simp only [evalR,runOps,stepOp,wanted,aop,evx,put,unflag,binV,isShift,AV.elems,AV.unf,AV.int?,D.cells,readD,List.contains,List.elem,z2,z3,z4,z5,z7,z8,z9,z10,z11,z14,z15,z22,Option.map,intD,boolD,reduceIte,z23,forgetT,z26,z29,z42,z51,z52,z55,z62,b_lss, f1, hs]; (first | done | exact rfl))) | (refine W_cT ?_ ?_; focus (simp only [evx,List.contains,List.elem,z2,z3,AV.unf,reduceIte,z23]; done)) | (refine W_cF ?_ ?_; focus (simp only [evx,List.contains,List.elem,z2,z3,AV.unf,reduceIte,z23,boolD]; done))) <;> (try simp only [seqK])))
    refine W_region ?_
    refine WO_callV (f := g) (caps := []) rfl ?_
    simp only [evx, List.map_cons, List.map_nil, List.contains, List.elem, List.getD_cons_succ, List.getD_cons_zero, reduceIte, Bool.false_eq_true, AV.unf, List.cons_append, List.nil_append]
    refine Ev.fn he ?_
    (apply WO_end; (focus (intro _; simp only [runOps,put,unflag,z4,z5,boolD]; (first | done | exact rfl)))) <;> (try simp only [seqK,forgetT])
    cases hv : h s with
    | true =>
      rw [any_yes hs hv]
      (repeat ((first | refine W_sq ?_ | refine W_bk ?_ | refine W_ret ?_ | refine W_exit ?_ | refine W_skip ?_ | (apply W_rg; focus (intro _; simp only [evalR,runOps,stepOp,wanted,aop,evx,put,unflag,z4,z5,forgetT]; (first | done | exact rfl))) | (refine W_cT ?_ ?_; focus (simp only [evx,List.contains,List.elem,z2,z3,AV.unf,reduceIte,z23]; done)) | (refine W_cF ?_ ?_; focus (simp only [evx,List.contains,List.elem,z2,z3,AV.unf,reduceIte,z23,boolD]; done))) <;> (try simp only [seqK,blockK,loopK])))
      exact ans_cut rfl rfl ⟨rfl, rfl⟩
    | false =>
      rw [hv] at hst
      (repeat ((first | refine W_sq ?_ | refine W_bk ?_ | refine W_ret ?_ | refine W_exit ?_ | refine W_skip ?_ | (apply W_rg; focus (intro _; simp only [evalR,runOps,stepOp,wanted,aop,evx,put,unflag,binV,isShift,AV.unf,List.contains,List.elem,z2,z3,z4,z5,Option.map,reduceIte,z23,forgetT,b_add, w1]; (first | done | exact rfl))) | (refine W_cT ?_ ?_; focus (simp only [evx,List.contains,List.elem,z2,z3,AV.unf,reduceIte,z23]; done)) | (refine W_cF ?_ ?_; focus (simp only [evx,List.contains,List.elem,z2,z3,AV.unf,reduceIte,z23]; done))) <;> (try simp only [seqK,blockK,loopK])))
      exact ⟨xs.length - (i + 1), by omega, i + 1, t0, rfl, hst, ex_st _ _ _ rfl⟩
  · obtain rfl : i = xs.length := by omega
    have f1 : ((xs.length : Int) < (xs.length : Int)) = False := eq_false (by omega)
    rw [List.take_length] at ha
    rw [ha]
    (repeat ((first | refine W_sq ?_ | refine W_bk ?_ | refine W_ret ?_ | refine W_exit ?_ | refine W_skip ?_ | (apply W_rg; focus (intro _; simp only [evalR,runOps,stepOp,wanted,aop,evx,put,unflag,binV,isShift,AV.unf,List.contains,List.elem,z2,z3,z4,z5,Option.map,intD,boolD,reduceIte,z23,forgetT,z43,b_lss, f1]; (first | done | exact rfl))) | (refine W_cT ?_ ?_; focus (simp only [evx,List.contains,List.elem,z2,z3,AV.unf,reduceIte,z23]; done)) | (refine W_cF ?_ ?_; focus (simp only [evx,List.contains,List.elem,z2,z3,AV.unf,reduceIte,z23]; done))) <;> (try simp only [seqK,blockK,loopK,reduceIte])))
    exact ans_cut rfl rfl ⟨rfl, rfl⟩

theorem long_ev (lim : Nat) (K : AHeap) (s : Tx) (hs : s.length ≤ 100) : Ev X 33 lim [.d (.str s)] K (boolD (!vB s)) K := by
  refine Fn.ev ?_
  refine Fn_of rfl (show code 33 = some c33 from rfl) rfl ?_; simp only [List.length_cons, List.length_nil, Nat.reduceAdd, Nat.reduceSub, List.reduceReplicate, List.cons_append, List.nil_append, reduceIte, Bool.false_eq_true]
  have f1 : ((s.length : Int) > 256) = False := eq_false (by omega)
  have he := valid_ev K.length K s (by omega)
  (iterate 3 ((first | refine W_sq ?_ | refine W_bk ?_ | refine W_ret ?_ | refine W_exit ?_ | refine W_skip ?_ | (apply W_rg; focus (intro _; simp only [evalR,runOps,stepOp,wanted,aop,evx,put,unflag,z4,z5,forgetT]; (first | done | exact rfl))) | (refine W_cT ?_ ?_; focus (simp only [evx,List.contains,List.elem,z2,z3,AV.unf,reduceIte,z23,boolD]; done)) | (refine W_cF ?_ ?_; focus (simp only [evx,List.contains,List.elem,z2,z3,AV.unf,reduceIte,z23,boolD]; done))) <;> (try simp only [seqK])))
  generalize vB s = b at *
  cases b <;> ((apply W_drw; focus (refine Evl.call (he) (Evl.all fun k e1 => ?_); simp (maxSteps := 100000000) only [evalR,runOps,stepOp,wanted,aop,evx,put,unflag,binV,isShift,unV,AV.unf,List.contains,List.elem,z2,z3,z4,z5,z8,z9,Option.map,intD,boolD,reduceIte,z23,forgetT,z29,z31,z32,z43,b_gtr, f1, e1]; (first | done | exact rfl))) <;> (try simp only [seqK]); (repeat ((first | refine W_sq ?_ | refine W_bk ?_ | refine W_ret ?_ | refine W_exit ?_ | refine W_skip ?_ | (apply W_rg; focus (intro _; simp only [z0,srcC,AV.growable,AV.owned,evalC,evalR,runOps,stepOp,wanted,aop,evx,put,unflag,binV,nilEq,isShift,binStr,unV,AV.elems,AV.unf,AV.int?,AV.toD,AV.toDs,AV.mkAgg,AV.pures,AV.cells,D.cells,AV.isCell,D.isCell,readCells,readD,optInt,fill,splice,srcOf,z1,List.contains,List.elem,z2,z3,z4,z5,z6,z7,z8,z9,z10,z11,z12,z13,z14,z15,z16,z17,z18,z19,z20,z21,z22,Option.map,intD,boolD,bD,reduceIte,z23,z24,forgetT,Nat.reduceAdd,Nat.reduceLeDiff,Nat.reduceMul,Nat.reduceSub,Nat.reduceEqDiff,Nat.reduceBEq,Nat.reduceBNe,z25,z26,z27,z28,z29,z30,z31,z32,z33,z34,z35,z36,z37,z38,z39,z40,z41,z42,z43,z44,z45,z46,z47,z48,z49,z50,z51,z52,Int.reduceToNat,z53,z54,z55,z56,z57,z58,Int.reduceBEq,Int.reduceBNe,Int.reduceLT,Int.reduceLE,Int.reduceGT,Int.reduceGE,Int.reduceEq,z59,z60,z61,z62,List.reduceReplicate,z63,z64,z65,z66,z67,chunks]; (first | done | exact rfl))) | (refine W_cT ?_ ?_; focus (simp only [evx,List.contains,List.elem,z2,z3,AV.unf,reduceIte,z23,boolD]; done)) | (refine W_cF ?_ ?_; focus (simp only [evx,List.contains,List.elem,z2,z3,AV.unf,reduceIte,z23,boolD]; done))) <;> (try simp only [seqK,blockK,loopK,onlyK,forgetT,put,unflag,z4,z5,z2,z3,AV.unf,reduceIte,Nat.reduceEqDiff,Nat.reduceAdd]))); exact ans_cut rfl rfl ⟨rfl, rfl⟩)

theorem any_not (l : List Tx) : (l.any fun s => !vB s) = !(l.all vB) := by
  induction l with
  | nil => rfl
  | cons a l ih => rw [List.any_cons, List.all_cons, ih]; cases vB a <;> simp

def pD (p : Tx × List Tx) : D := .agg [.str p.1, sD p.2]
def plJ (f : Fl) : List (Tx × List Tx) := [(kNs, f.nsn), (kNt, f.nty), (kS, f.sn), (kT, f.ty)]
def psI (f : Fl) (i : Nat) : List (Tx × J) := (if f.lim = 0 then [] else [(kLim, numJ f.lim)]) ++ ((plJ f).take i).flatMap fun p => pairJ p.1 p.2

theorem psI_step {f : Fl} {i : Nat} {p : Tx × List Tx} (h : (plJ f)[i]? = some p) : psI f (i + 1) = psI f i ++ pairJ p.1 p.2 := by
  unfold psI
  rw [List.take_add_one, h, List.flatMap_append, List.append_assoc]
  simp

theorem psI_all (f : Fl) : psI f 4 = pairsJ f := by
  unfold psI plJ pairsJ
  simp [List.flatMap_cons]

theorem psI_len (f : Fl) (i : Nat) (hi : i ≤ 4) : (psI f i).length ≤ 1 + i := by
  induction i with
  | zero => unfold psI; have := lim_len f.lim; simpa using this
  | succ i ih =>
    obtain ⟨p, hp⟩ : ∃ p, (plJ f)[i]? = some p := ⟨_, List.getElem?_eq_getElem (show i < 4 by omega)⟩
    rw [psI_step hp, List.length_append]
    have := pair_len p.1 p.2
    have := ih (by omega)
    omega

theorem allV_pl (f : Fl) : (plJ f).all (fun p => p.2.all vB) = allV f := by
  unfold plJ allV
  simp only [List.all_cons, List.all_nil, Bool.and_true, Bool.and_assoc]

theorem pl_few {f : Fl} (hf : fewB f = true) : ∀ p ∈ plJ f, p.2.length ≤ 20 ∧ ∀ s ∈ p.2, s.length ≤ 100 := by
  obtain ⟨q1, q2, q3, q4⟩ := few_all hf
  have s1 := short_all q1
  have s2 := short_all q2
  have s3 := short_all q3
  have s4 := short_all q4
  intro p hp
  unfold plJ at hp
  simp only [List.mem_cons, List.not_mem_nil, or_false] at hp
  rcases hp with rfl | rfl | rfl | rfl <;> assumption

abbrev fC (ps : List (Tx × J)) : List AV := [.d (.int .i64 5), .d (.int .i64 0), .d (.str []), .fslice (kD ps), .fslice (vD ps)]
abbrev lC (R : List D) : List AV := [.d (.int .i64 4), .d (.int .i64 0), .d (.str []), .fslice [], .fslice R]

set_option maxHeartbeats 4000000 in
--
theorem Content_ev (lim : Nat) (H : AHeap) (f : Fl) (hf : fewB f = true) (hm : Lim f) : Ev X 12 lim [.d (flD f)] H (contentV (contentJ f)) H := by
  refine Fn.ev ?_
  refine Fn_of rfl (show code 12 = some c12 from rfl) rfl ?_; simp only [List.length_cons, List.length_nil, Nat.reduceAdd, Nat.reduceSub, List.reduceReplicate, List.cons_append, List.nil_append, reduceIte, Bool.false_eq_true]
  obtain ⟨J1, hJ1⟩ : ∃ J1, H ++ [AObj.cells (flC f)] = J1 := ⟨_, rfl⟩
  obtain ⟨J2, hJ2⟩ : ∃ J2, J1 ++ [AObj.cells zC] = J2 := ⟨_, rfl⟩
  have l1 : J1.length = H.length + 1 := by rw [← hJ1]; simp
  have l2 : J2.length = H.length + 2 := by rw [← hJ2]; simp [l1]
  have ge1 : H.length ≤ J1.length := by omega
  have ge2 : H.length ≤ J2.length := by omega
  have gF : ∀ o, (J2 ++ [o])[H.length]? = some (.cells (flC f)) := fun o => get_more o (by rw [← hJ2, ← hJ1]; exact get_more _ (get_last _ _))
  have gR : ∀ o, (J2 ++ [o])[J1.length]? = some (.cells zC) := fun o => get_more o (by rw [← hJ2]; exact get_last _ _)
  have gS0 : ∀ o o' : AObj, ((J2 ++ [o]).set J1.length o')[J1.length]? = some o' := fun o o' => List.getElem?_set_self (by simp; omega)
  have none_v : contentV none = .tuple [.d (.agg [.int .i64 0, .int .i64 0, .str [], .slice [], .slice []]), intD 1] := by show AV.tuple [.d J.zero.d, intD 1] = _; rw [zero_d]
  (iterate 2 ((first | refine W_sq ?_ | refine W_bk ?_ | refine W_ret ?_ | refine W_exit ?_ | refine W_skip ?_ | (apply W_rg; focus (intro _; simp only [evalR,runOps,stepOp,wanted,aop,evx,put,unflag,AV.unf,AV.cells,D.cells,AV.isCell,D.isCell,List.contains,List.elem,z3,z4,z5,z8,z9,z18,z19,reduceIte,z23,forgetT,z34,flD, hJ1, hJ2]; (first | done | exact rfl))) | (refine W_cT ?_ ?_; focus (simp only [evx,List.contains,List.elem,z2,z3,AV.unf,reduceIte,z23,boolD]; done)) | (refine W_cF ?_ ?_; focus (simp only [evx,List.contains,List.elem,z2,z3,AV.unf,reduceIte,z23,boolD]; done))) <;> (try simp only [seqK])))
  by_cases h1 : f.lim < 0
  · have f1 : (f.lim < 0) = True := eq_true h1
    have hc : contentJ f = none := by unfold contentJ; rw [if_neg (fun h => by have := h.1; simp only [limB, Bool.and_eq_true, decide_eq_true_eq] at this; omega)]
    rw [hc, none_v]
    (repeat ((first | refine W_sq ?_ | refine W_bk ?_ | refine W_ret ?_ | refine W_exit ?_ | refine W_skip ?_ | (apply W_rg; focus (intro _; simp only [evalR,runOps,stepOp,wanted,aop,evx,put,unflag,binV,isShift,AV.unf,AV.mkAgg,AV.pures,AV.cells,D.cells,AV.isCell,D.isCell,readCells,fill,splice,List.contains,List.elem,z2,z3,z4,z5,z6,z7,z8,z9,z10,z11,z12,z13,z14,z15,z18,z19,z20,z21,z22,Option.map,reduceIte,z23,forgetT,Nat.reduceAdd,Nat.reduceLeDiff,Nat.reduceBEq,z26,z29,z34,z42,z44,z46,z47,z48,z51,gF, gR, b_lss, f1, ge1, ge2]; (first | done | exact rfl))) | (refine W_cT ?_ ?_; focus (simp only [evx,List.contains,List.elem,z2,z3,AV.unf,reduceIte,z23]; done)) | (refine W_cF ?_ ?_; focus (simp only [evx,List.contains,List.elem,z2,z3,AV.unf,reduceIte,z23,boolD]; done))) <;> (try simp only [seqK])))
    exact ans_cut (v := .tuple [.d (.agg [.int .i64 0, .int .i64 0, .str [], .slice [], .slice []]), intD 1]) (by simp only [AV.unf,AV.mkAgg,AV.pures,readCells,z2,z3,z7,z8,z9,z10,z11,z13,z14,z15,Option.map,reduceIte,Nat.reduceAdd,z26,z51,resV, gS0]; rfl) rfl ⟨rfl, rfl⟩
  have f1 : (f.lim < 0) = False := eq_false h1
  by_cases h2 : f.lim > 100
  · have f2 : (f.lim > 100) = True := eq_true h2
    have hc : contentJ f = none := by unfold contentJ; rw [if_neg (fun h => by have := h.1; simp only [limB, Bool.and_eq_true, decide_eq_true_eq] at this; omega)]
    rw [hc, none_v]
    (repeat ((first | refine W_sq ?_ | refine W_bk ?_ | refine W_ret ?_ | refine W_exit ?_ | refine W_skip ?_ | (apply W_rg; focus (intro _; simp only [evalR,runOps,stepOp,wanted,aop,evx,put,unflag,binV,isShift,AV.unf,AV.mkAgg,AV.pures,AV.cells,D.cells,AV.isCell,D.isCell,readCells,fill,splice,List.contains,List.elem,z2,z3,z4,z5,z6,z7,z8,z9,z10,z11,z12,z13,z14,z15,z18,z19,z20,z21,z22,Option.map,reduceIte,z23,forgetT,Nat.reduceAdd,Nat.reduceLeDiff,Nat.reduceBEq,z26,z29,z34,z42,z43,z46,z47,z48,z51,gF, gR, b_lss, b_gtr, f1, f2, ge1, ge2]; (first | done | exact rfl))) | (refine W_cT ?_ ?_; focus (simp only [evx,List.contains,List.elem,z2,z3,AV.unf,reduceIte,z23]; done)) | (refine W_cF ?_ ?_; focus (simp only [evx,List.contains,List.elem,z2,z3,AV.unf,reduceIte,z23,boolD]; done))) <;> (try simp only [seqK])))
    exact ans_cut (v := .tuple [.d (.agg [.int .i64 0, .int .i64 0, .str [], .slice [], .slice []]), intD 1]) (by simp only [AV.unf,AV.mkAgg,AV.pures,readCells,z2,z3,z7,z8,z9,z10,z11,z13,z14,z15,Option.map,reduceIte,Nat.reduceAdd,z26,z51,resV, gS0]; rfl) rfl ⟨rfl, rfl⟩
  have f2 : (f.lim > 100) = False := eq_false h2
  have hlB : limB f = true := by simp only [limB, Bool.and_eq_true, decide_eq_true_eq]; omega
  have hco : contentJ f = if allV f = true then some (mapJ (pairsJ f)) else none := by
    unfold contentJ
    by_cases h : allV f = true
    · rw [if_pos ⟨hlB, h⟩, if_pos h]
    · rw [if_neg (fun k => h k.2), if_neg h]
  rw [hco]
  (iterate 7 ((first | refine W_sq ?_ | refine W_bk ?_ | refine W_ret ?_ | refine W_exit ?_ | refine W_skip ?_ | (apply W_rg; focus (intro _; simp only [evalR,runOps,stepOp,wanted,aop,evx,put,unflag,binV,isShift,AV.unf,AV.mkAgg,AV.pures,AV.cells,D.cells,AV.isCell,D.isCell,readCells,fill,splice,List.contains,List.elem,z2,z3,z4,z5,z6,z7,z8,z9,z10,z11,z12,z13,z14,z15,z18,z19,z20,z21,z22,Option.map,reduceIte,z23,forgetT,Nat.reduceAdd,Nat.reduceLeDiff,Nat.reduceBEq,z26,z29,z34,z43,z46,z47,z48,z51,gF, b_lss, b_gtr, f1, f2, ge2]; (first | done | exact rfl))) | (refine W_cT ?_ ?_; focus (simp only [evx,List.contains,List.elem,z2,z3,AV.unf,reduceIte,z23]; done)) | (refine W_cF ?_ ?_; focus (simp only [evx,List.contains,List.elem,z2,z3,AV.unf,reduceIte,z23]; done))) <;> (try simp only [seqK])))
  have hps0 : psI f 0 = if f.lim = 0 then [] else [(kLim, numJ f.lim)] := by unfold psI; simp
  refine W_mid (fun st => ∃ x : Nat → AV, st = ⟨[x 0, x 1, x 2, x 3, x 4, x 5, x 6, .ptr J1.length 0, intD 0, .ptr H.length 0, .ptr J2.length 0, x 11, x 12, x 13, x 14, x 15, x 16, x 17, x 18, x 19, x 20, x 21, x 22, x 23, x 24], J2 ++ [AObj.cells (fC (psI f 0))]⟩) ?_ ?_
  · by_cases h3 : f.lim = 0
    · have f3 : (f.lim > 0) = False := eq_false (by omega)
      have e0 : fC (psI f 0) = [.d (.int .i64 5), .d (.int .i64 0), .d (.str []), .fslice [], .fslice []] := by rw [hps0, if_pos h3]; rfl
      rw [e0]
      (repeat ((first | refine W_sq ?_ | refine W_bk ?_ | refine W_ret ?_ | refine W_exit ?_ | refine W_skip ?_ | (apply W_rg; focus (intro _; simp only [evalR,runOps,stepOp,wanted,aop,evx,put,unflag,binV,isShift,AV.unf,AV.mkAgg,AV.pures,readCells,List.contains,List.elem,z2,z3,z4,z5,z6,z7,z8,z9,z10,z11,z12,z13,z14,z15,Option.map,reduceIte,z23,forgetT,Nat.reduceAdd,z26,z43,z51,gF, b_gtr, f3]; (first | done | exact rfl))) | (refine W_cT ?_ ?_; focus (simp only [evx,List.contains,List.elem,z2,z3,AV.unf,reduceIte,z23]; done)) | (refine W_cF ?_ ?_; focus (simp only [evx,List.contains,List.elem,z2,z3,AV.unf,reduceIte,z23]; done))) <;> (try simp only [seqK,onlyK])))
      exact ex_st _ _ _ rfl
    · have f3 : (f.lim > 0) = True := eq_true (by omega)
      have hn : (numJ f.lim).d = .agg [.int .i64 2, .int .i64 f.lim, .str [], .slice [], .slice []] := jmk _ _ _ _ _
      have e0 : fC (psI f 0) = [.d (.int .i64 5), .d (.int .i64 0), .d (.str []), .fslice [.str kLim], .fslice [.agg [.int .i64 2, .int .i64 f.lim, .str [], .slice [], .slice []]]] := by
        rw [hps0, if_neg h3, ← hn]; rfl
      rw [e0]
      have hz : headSz 5 [D.agg [.int .i64 2, .int .i64 f.lim, .str [], .slice [], .slice []]] = true := rfl
      (iterate 3 ((first | refine W_sq ?_ | refine W_bk ?_ | refine W_ret ?_ | refine W_exit ?_ | refine W_skip ?_ | (apply W_rg; focus (intro _; simp only [evalR,runOps,stepOp,wanted,aop,evx,put,unflag,binV,isShift,AV.unf,AV.mkAgg,AV.pures,readCells,List.contains,List.elem,z2,z3,z4,z5,z6,z7,z8,z9,z10,z11,z12,z13,z14,z15,Option.map,reduceIte,z23,forgetT,Nat.reduceAdd,z26,z42,z51,gF, b_gtr, f3]; (first | done | exact rfl))) | (refine W_cT ?_ ?_; focus (simp only [evx,List.contains,List.elem,z2,z3,AV.unf,reduceIte,z23]; done)) | (refine W_cF ?_ ?_; focus (simp only [evx,List.contains,List.elem,z2,z3,AV.unf,reduceIte,z23,boolD]; done))) <;> (try simp only [seqK])))
      (apply W_rg; focus (intro k; simp (maxSteps := 100000000) only [srcC,AV.growable,AV.owned,evalR,wanted,aop,evx,put,unflag,binV,nilEq,isShift,binStr,unV,AV.elems,AV.unf,AV.int?,AV.toD,AV.toDs,AV.mkAgg,AV.pures,AV.cells,D.cells,AV.isCell,D.isCell,readCells,readD,optInt,fill,splice,srcOf,List.contains,List.elem,z2,z3,z4,z5,z6,z7,z8,z9,z10,z11,z12,z13,z14,z15,z16,z18,z19,z20,z21,z22,Option.map,intD,boolD,reduceIte,z23,forgetT,Nat.reduceAdd,Nat.reduceLeDiff,Nat.reduceMul,Nat.reduceBEq,Nat.reduceBNe,z26,z27,z29,z30,z31,z32,z33,z34,z35,z36,z37,z38,z39,z40,z41,z46,z47,z48,z49,z50,z51,z56,List.reduceReplicate,z63,z64,z65,z66,chunks, drawOK,thin,inertAt,inertRec,z68,z69,traceOps,stepRec,explore,runAt,mayStand,z70,z71,z72,z18,z19,z73,Nat.reduceBEq,z76, gF, ge2, hz]; (first | done | exact rfl))) <;> (try simp only [onlyK])
      exact ex_st _ _ _ rfl
  rintro _ ⟨x, rfl⟩
  (repeat ((first | refine W_sq ?_ | refine W_bk ?_ | refine W_ret ?_ | refine W_exit ?_ | refine W_skip ?_ | (apply W_rg; focus (intro _; simp only [evalR,runOps,stepOp,wanted,aop,evx,put,unflag,AV.elems,AV.unf,AV.toD,AV.toDs,AV.mkAgg,AV.pures,AV.cells,D.cells,AV.isCell,D.isCell,readCells,fill,splice,List.contains,List.elem,z2,z3,z4,z5,z6,z7,z8,z9,z10,z11,z12,z13,z14,z15,z18,z19,z20,z21,z22,Option.map,intD,reduceIte,z23,forgetT,Nat.reduceAdd,Nat.reduceLeDiff,Nat.reduceMul,Nat.reduceBNe,z25,z26,z27,z34,z48,z51,List.reduceReplicate,z63,z64,chunks, gF]; (first | done | exact rfl))) | (refine W_cT ?_ ?_; focus (simp only [evx,List.contains,List.elem,z2,z3,AV.unf,reduceIte,z23,boolD]; done)) | (refine W_cF ?_ ?_; focus (simp only [evx,List.contains,List.elem,z2,z3,AV.unf,reduceIte,z23,boolD]; done))) <;> (try simp only [seqK])))
  have hfew := pl_few hf
  have hall := allV_pl f
  have hplen : (plJ f).length = 4 := rfl
  refine W_lp (fun k st => ∃ (i : Nat) (M : AHeap), i ≤ 4 ∧ k = 4 - i ∧ ((plJ f).take i).all (fun p => p.2.all vB) = true ∧ M[J2.length]? = some (.cells (fC (psI f i))) ∧ M[J1.length]? = some (.cells zC) ∧
    ∃ x : Nat → AV, st = ⟨[x 0, x 1, x 2, x 3, x 4, x 5, x 6, .ptr J1.length 0, intD 0, x 9, .ptr J2.length 0, .func (.func 33) [], .fslice ((plJ f).map pD), intD (4 : Nat), intD i, x 15, x 16, x 17, x 18, x 19, x 20, x 21, x 22, x 23, x 24], M⟩) ?_ _ _ ⟨0, _, Nat.zero_le _, rfl, rfl, get_last _ _, gR _, ex_st _ _ _ rfl⟩
  rintro k _ ⟨i, M, hi, rfl, ha, gM, gMr, x, rfl⟩
  have lM : J2.length < M.length := (List.getElem?_eq_some_iff.1 gM).1
  by_cases t0 : i < 4
  · have f4 : ((i : Int) < ((4 : Nat) : Int)) = True := eq_true (by omega)
    have w1 : IntKind.i64.wrap ((i : Int) + 1) = ((i + 1 : Nat) : Int) := wsucc (by omega)
    obtain ⟨p, hp⟩ : ∃ p, (plJ f)[i]? = some p := ⟨_, List.getElem?_eq_getElem (by omega)⟩
    have hst := all_cut hp (fun p => p.2.all vB)
    rw [ha, Bool.true_and] at hst
    have hpm := List.mem_of_getElem? hp
    have hps := psI_step hp
    have hno : p.2.all vB = false → allV f = false := fun h => by rw [← hall]; exact all_no hp h
    obtain ⟨hp1, hp2⟩ := hfew p hpm
    have hpl := psI_len f i hi
    obtain ⟨key, l⟩ := p
    simp only at hp1 hp2 hps hst hno
    have hpd : pD (key, l) = .agg [.str key, sD l] := rfl
    obtain ⟨M1, hM1⟩ : ∃ M1, M ++ [AObj.cells [.d (.str key), .d (sD l)]] = M1 := ⟨_, rfl⟩
    have gP : M1[M.length]? = some (.cells [.d (.str key), .d (sD l)]) := by rw [← hM1]; exact get_last _ _
    have gM1 : M1[J2.length]? = some (.cells (fC (psI f i))) := by rw [← hM1]; exact get_more _ gM
    have gM1r : M1[J1.length]? = some (.cells zC) := by rw [← hM1]; exact get_more _ gMr
    have lM1 : M1.length = M.length + 1 := by rw [← hM1]; simp
    have geM : H.length ≤ M.length := by omega
    have geM1 : H.length ≤ M1.length := by omega
    have gS1 : ∀ o : AObj, (M1.set J1.length o)[J1.length]? = some o := fun o => List.getElem?_set_self (by omega)
    have f5 : ((l.length : Int) > 100) = False := eq_false (by omega)
    have hone := one0_ev H.length M1 l 33 (fun s => !vB s) (by omega) fun s hs => long_ev _ M1 s (hp2 s hs)
    rw [any_not] at hone
    (iterate 9 ((first | refine W_sq ?_ | refine W_bk ?_ | refine W_ret ?_ | refine W_exit ?_ | refine W_skip ?_ | (apply W_rg; focus (intro _; simp only [evalR,runOps,stepOp,wanted,aop,evx,put,unflag,binV,isShift,AV.elems,AV.unf,AV.int?,AV.cells,D.cells,AV.isCell,D.isCell,readD,splice,List.contains,List.elem,z2,z3,z4,z5,z7,z8,z9,z10,z11,z12,z13,z14,z15,z18,z19,z20,z22,Option.map,intD,reduceIte,z23,forgetT,Nat.reduceAdd,Nat.reduceBEq,z26,z29,z34,z42,z46,z47,z48,z51,z52,z55,z62,b_lss, f4, hp, hpd, geM, hM1]; (first | done | exact rfl))) | (refine W_cT ?_ ?_; focus (simp only [evx,List.contains,List.elem,z2,z3,AV.unf,reduceIte,z23]; done)) | (refine W_cF ?_ ?_; focus (simp only [evx,List.contains,List.elem,z2,z3,AV.unf,reduceIte,z23,boolD]; done))) <;> (try simp only [seqK])))
    cases hv : l.all vB with
    | false =>
      rw [hv] at hone
      simp only [Bool.not_false] at hone
      rw [if_neg (by rw [hno hv]; simp), none_v]
      (iterate 1 ((first | refine W_sq ?_ | refine W_bk ?_ | refine W_ret ?_ | refine W_exit ?_ | refine W_skip ?_ | (apply W_rg; focus (intro _; simp only [z0,srcC,AV.growable,AV.owned,evalC,evalR,runOps,stepOp,wanted,aop,evx,put,unflag,binV,nilEq,isShift,binStr,unV,AV.elems,AV.unf,AV.int?,AV.toD,AV.toDs,AV.mkAgg,AV.pures,AV.cells,D.cells,AV.isCell,D.isCell,readCells,readD,optInt,fill,splice,srcOf,z1,List.contains,List.elem,z2,z3,z4,z5,z6,z7,z8,z9,z10,z11,z12,z13,z14,z15,z16,z17,z18,z19,z20,z21,z22,Option.map,intD,boolD,bD,reduceIte,z23,z24,forgetT,Nat.reduceAdd,Nat.reduceLeDiff,Nat.reduceMul,Nat.reduceSub,Nat.reduceEqDiff,Nat.reduceBEq,Nat.reduceBNe,z25,z26,z27,z28,z29,z30,z31,z32,z33,z34,z35,z36,z37,z38,z39,z40,z41,z42,z43,z44,z45,z46,z47,z48,z49,z50,z51,z52,Int.reduceToNat,z53,z54,z55,z56,z57,z58,Int.reduceBEq,Int.reduceBNe,Int.reduceLT,Int.reduceLE,Int.reduceGT,Int.reduceGE,Int.reduceEq,z59,z60,z61,z62,List.reduceReplicate,z63,z64,z65,z66,z67,chunks]; (first | done | exact rfl))) | (refine W_cT ?_ ?_; focus (simp only [evx,List.contains,List.elem,z2,z3,AV.unf,reduceIte,z23,boolD]; done)) | (refine W_cF ?_ ?_; focus (simp only [evx,List.contains,List.elem,z2,z3,AV.unf,reduceIte,z23,boolD]; done))) <;> (try simp only [seqK,blockK,loopK,onlyK,forgetT,put,unflag,z4,z5,z2,z3,AV.unf,reduceIte,Nat.reduceEqDiff,Nat.reduceAdd])))
      (apply W_drw; focus (refine Evl.call (hone) (Evl.all fun k e1 => ?_); simp (maxSteps := 100000000) only [evalR,runOps,stepOp,wanted,aop,evx,put,unflag,binV,isShift,AV.elems,AV.unf,AV.mkAgg,AV.pures,readCells,List.contains,List.elem,z2,z3,z4,z5,z6,z7,z8,z9,z10,z11,z12,z13,z14,z15,Option.map,intD,boolD,reduceIte,z23,forgetT,Nat.reduceAdd,z26,z29,z43,z51,gP, b_gtr, f5, List.length_map, e1]; (first | done | exact rfl))) <;> (try simp only [seqK])
      (repeat ((first | refine W_sq ?_ | refine W_bk ?_ | refine W_ret ?_ | refine W_exit ?_ | refine W_skip ?_ | (apply W_rg; focus (intro _; simp only [evalR,runOps,stepOp,wanted,aop,evx,put,unflag,AV.unf,AV.mkAgg,AV.pures,AV.cells,AV.isCell,D.isCell,fill,splice,List.contains,List.elem,z2,z3,z4,z5,z9,z11,z12,z13,z14,z15,z18,z19,z20,z22,Option.map,reduceIte,z23,forgetT,Nat.reduceAdd,Nat.reduceBEq,z26,z29,z34,z48,z51,gM1r, ge1]; (first | done | exact rfl))) | (refine W_cT ?_ ?_; focus (simp only [evx,List.contains,List.elem,z2,z3,AV.unf,reduceIte,z23]; done)) | (refine W_cF ?_ ?_; focus (simp only [evx,List.contains,List.elem,z2,z3,AV.unf,reduceIte,z23,boolD]; done))) <;> (try simp only [seqK,blockK,loopK])))
      exact ans_cut (v := .tuple [.d (.agg [.int .i64 0, .int .i64 0, .str [], .slice [], .slice []]), intD 1]) (by simp only [AV.unf,AV.mkAgg,AV.pures,readCells,z2,z3,z7,z8,z9,z10,z11,z13,z14,z15,Option.map,reduceIte,Nat.reduceAdd,z26,z51,resV, gS1]; rfl) rfl ⟨rfl, rfl⟩
    | true =>
      rw [hv] at hone hst
      simp only [Bool.not_true] at hone
      (iterate 1 ((first | refine W_sq ?_ | refine W_bk ?_ | refine W_ret ?_ | refine W_exit ?_ | refine W_skip ?_ | (apply W_rg; focus (intro _; simp only [z0,srcC,AV.growable,AV.owned,evalC,evalR,runOps,stepOp,wanted,aop,evx,put,unflag,binV,nilEq,isShift,binStr,unV,AV.elems,AV.unf,AV.int?,AV.toD,AV.toDs,AV.mkAgg,AV.pures,AV.cells,D.cells,AV.isCell,D.isCell,readCells,readD,optInt,fill,splice,srcOf,z1,List.contains,List.elem,z2,z3,z4,z5,z6,z7,z8,z9,z10,z11,z12,z13,z14,z15,z16,z17,z18,z19,z20,z21,z22,Option.map,intD,boolD,bD,reduceIte,z23,z24,forgetT,Nat.reduceAdd,Nat.reduceLeDiff,Nat.reduceMul,Nat.reduceSub,Nat.reduceEqDiff,Nat.reduceBEq,Nat.reduceBNe,z25,z26,z27,z28,z29,z30,z31,z32,z33,z34,z35,z36,z37,z38,z39,z40,z41,z42,z43,z44,z45,z46,z47,z48,z49,z50,z51,z52,Int.reduceToNat,z53,z54,z55,z56,z57,z58,Int.reduceBEq,Int.reduceBNe,Int.reduceLT,Int.reduceLE,Int.reduceGT,Int.reduceGE,Int.reduceEq,z59,z60,z61,z62,List.reduceReplicate,z63,z64,z65,z66,z67,chunks]; (first | done | exact rfl))) | (refine W_cT ?_ ?_; focus (simp only [evx,List.contains,List.elem,z2,z3,AV.unf,reduceIte,z23,boolD]; done)) | (refine W_cF ?_ ?_; focus (simp only [evx,List.contains,List.elem,z2,z3,AV.unf,reduceIte,z23,boolD]; done))) <;> (try simp only [seqK,blockK,loopK,onlyK,forgetT,put,unflag,z4,z5,z2,z3,AV.unf,reduceIte,Nat.reduceEqDiff,Nat.reduceAdd])))
      (apply W_drw; focus (refine Evl.call (hone) (Evl.all fun k e1 => ?_); simp (maxSteps := 100000000) only [evalR,runOps,stepOp,wanted,aop,evx,put,unflag,binV,isShift,AV.elems,AV.unf,AV.mkAgg,AV.pures,readCells,List.contains,List.elem,z2,z3,z4,z5,z6,z7,z8,z9,z10,z11,z12,z13,z14,z15,Option.map,intD,boolD,reduceIte,z23,forgetT,Nat.reduceAdd,z26,z29,z43,z51,gP, b_gtr, f5, List.length_map, e1]; (first | done | exact rfl))) <;> (try simp only [seqK])
      by_cases h0 : l = []
      · have f6 : ((l.length : Int) == 0) = true := by rw [h0]; rfl
        have e0 : pairJ key l = [] := by unfold pairJ; rw [if_pos h0]
        rw [e0, List.append_nil] at hps
        (repeat ((first | refine W_sq ?_ | refine W_bk ?_ | refine W_ret ?_ | refine W_exit ?_ | refine W_skip ?_ | (apply W_rg; focus (intro _; simp only [evalR,runOps,stepOp,wanted,aop,evx,put,unflag,binV,isShift,AV.elems,AV.unf,AV.mkAgg,AV.pures,readCells,List.contains,List.elem,z2,z3,z4,z5,z6,z7,z8,z9,z10,z11,z12,z13,z14,z15,Option.map,intD,reduceIte,z23,forgetT,Nat.reduceAdd,z26,z51,gP, b_eql, b_add, f6, w1, List.length_map]; (first | done | exact rfl))) | (refine W_cT ?_ ?_; focus (simp only [evx,List.contains,List.elem,z2,z3,AV.unf,reduceIte,z23]; done)) | (refine W_cF ?_ ?_; focus (simp only [evx,List.contains,List.elem,z2,z3,AV.unf,reduceIte,z23]; done))) <;> (try simp only [seqK,blockK,loopK,reduceIte,Nat.reduceEqDiff])))
        exact ⟨4 - (i + 1), by omega, i + 1, M1, by omega, rfl, hst, by rw [hps]; exact gM1, gM1r, ex_st _ _ _ rfl⟩
      · have f6 : ((l.length : Int) == 0) = false := by
          have := List.length_pos_iff.2 h0
          rw [eq0]; exact decide_eq_false (by omega)
        have e0 : pairJ key l = [(key, rowJ l)] := by unfold pairJ; rw [if_neg h0]
        rw [e0] at hps
        have gP1 : ∀ o, (M1 ++ [o])[M.length]? = some (.cells [.d (.str key), .d (sD l)]) := fun o => get_more o gP
        have gM2 : ∀ o, (M1 ++ [o])[J2.length]? = some (.cells (fC (psI f i))) := fun o => get_more o gM1
        have gM2r : ∀ o, (M1 ++ [o])[J1.length]? = some (.cells zC) := fun o => get_more o gM1r
        (repeat ((first | refine W_sq ?_ | refine W_bk ?_ | refine W_ret ?_ | refine W_exit ?_ | refine W_skip ?_ | (apply W_rg; focus (intro _; simp only [evalR,runOps,stepOp,wanted,aop,evx,put,unflag,binV,isShift,AV.elems,AV.unf,AV.mkAgg,AV.pures,AV.cells,D.cells,AV.isCell,D.isCell,readCells,fill,splice,List.contains,List.elem,z2,z3,z4,z5,z6,z7,z8,z9,z10,z11,z12,z13,z14,z15,z18,z19,z20,z21,z22,Option.map,intD,reduceIte,z23,forgetT,Nat.reduceAdd,Nat.reduceLeDiff,Nat.reduceBEq,z26,z29,z34,z46,z47,z48,z51,gP, gP1, b_eql, f6, geM1, List.length_map]; (first | done | exact rfl))) | (refine W_cT ?_ ?_; focus (simp only [evx,List.contains,List.elem,z2,z3,AV.unf,reduceIte,z23]; done)) | (refine W_cF ?_ ?_; focus (simp only [evx,List.contains,List.elem,z2,z3,AV.unf,reduceIte,z23]; done))) <;> (try simp only [seqK])))
        refine W_lp (fun k st => ∃ j : Nat, j ≤ l.length ∧ k = l.length - j ∧ ∃ x : Nat → AV, st = ⟨[x 0, x 1, x 2, x 3, x 4, x 5, x 6, .ptr J1.length 0, intD 0, x 9, .ptr J2.length 0, .func (.func 33) [], .fslice ((plJ f).map pD), intD (4 : Nat), intD i, .ptr M.length 0, .ptr M1.length 0, .d (sD l), intD l.length, intD j, x 20, x 21, x 22, x 23, x 24], M1 ++ [AObj.cells (lC (((l.take j).map txtJ).map J.d))]⟩) ?_ _ _ ⟨0, Nat.zero_le _, rfl, ex_st _ _ _ rfl⟩
        rintro k _ ⟨j, hj, rfl, x, rfl⟩
        by_cases t1 : j < l.length
        · have f7 : ((j : Int) < (l.length : Int)) = True := eq_true (by omega)
          have w2 : IntKind.i64.wrap ((j : Int) + 1) = ((j + 1 : Nat) : Int) := wsucc (by omega)
          obtain ⟨s, hs⟩ : ∃ s, l[j]? = some s := ⟨_, List.getElem?_eq_getElem t1⟩
          have hc : (D.str s).cells = [D.str s] := rfl
          have hsd : (txtJ s).d = .agg [.int .i64 3, .int .i64 0, .str s, .slice [], .slice []] := jmk _ _ _ _ _
          have hx : ((l.take j).map txtJ).map J.d ++ [.agg [.int .i64 3, .int .i64 0, .str s, .slice [], .slice []]] = ((l.take (j + 1)).map txtJ).map J.d := by
            rw [List.take_add_one, hs, ← hsd]; simp
          have hz : headSz 5 (((l.take j).map txtJ).map J.d) = true := headSz_map (sz := 5) (f := J.d) (fun x => by rw [jd]; rfl) _
          have hlen : (((l.take j).map txtJ).map J.d).length = j := by simp; omega
          have hb : (j + 1) * (80 + 5) ≤ 70368744177664 := by omega
          generalize ((l.take j).map txtJ).map J.d = R at *
          (repeat ((first | refine W_sq ?_ | refine W_bk ?_ | refine W_ret ?_ | refine W_exit ?_ | refine W_skip ?_ | (apply W_rg; focus (intro _; simp only [evalR,runOps,stepOp,wanted,aop,evx,put,unflag,binV,isShift,AV.elems,AV.unf,AV.int?,AV.toD,AV.toDs,AV.mkAgg,AV.pures,AV.cells,D.cells,AV.isCell,D.isCell,readD,fill,splice,srcOf,List.contains,List.elem,z2,z3,z4,z5,z6,z7,z8,z9,z10,z11,z12,z13,z14,z15,z18,z19,z20,z21,z22,Option.map,intD,reduceIte,z23,forgetT,Nat.reduceAdd,Nat.reduceLeDiff,Nat.reduceBEq,Nat.reduceBNe,z26,z27,z29,z34,z42,z46,z47,z48,z51,z52,z55,z62,List.reduceReplicate,z63,z64,z66,chunks, b_lss, f7, hs, hz, hlen, hb, hx, geM1, b_add, w2]; (first | done | exact rfl))) | (refine W_cT ?_ ?_; focus (simp only [evx,List.contains,List.elem,z2,z3,AV.unf,reduceIte,z23]; done)) | (refine W_cF ?_ ?_; focus (simp only [evx,List.contains,List.elem,z2,z3,AV.unf,reduceIte,z23,boolD]; done))) <;> (try simp only [seqK,blockK,loopK])))
          exact ⟨l.length - (j + 1), by omega, j + 1, t1, rfl, ex_st _ _ _ rfl⟩
        · obtain rfl : j = l.length := by omega
          have f7 : ((l.length : Int) < (l.length : Int)) = False := eq_false (by omega)
          rw [List.take_length]
          have hrow : (rowJ l).d = .agg [.int .i64 4, .int .i64 0, .str [], .slice [], .slice ((l.map txtJ).map J.d)] := jmk _ _ _ _ _
          have hxk : kD (psI f i) ++ [.str key] = kD (psI f (i + 1)) := by rw [hps]; unfold kD; simp
          have hxv : vD (psI f i) ++ [.agg [.int .i64 4, .int .i64 0, .str [], .slice [], .slice ((l.map txtJ).map J.d)]] = vD (psI f (i + 1)) := by rw [hps, ← hrow]; unfold vD; simp
          have hzk : headSz 1 (kD (psI f i)) = true := headSz_map (sz := 1) (f := D.str) (fun x => rfl) _
          have hzv : headSz 5 (vD (psI f i)) = true := headSz_map (sz := 5) (f := J.d) (fun x => by rw [jd]; rfl) _
          have nk : (kD (psI f i)).length = (psI f i).length := by unfold kD; simp
          have nv : (vD (psI f i)).length = (psI f i).length := by unfold vD; simp
          have bk : ((psI f i).length + 1) * (16 + 1) ≤ 70368744177664 := by omega
          have bv : ((psI f i).length + 1) * (80 + 5) ≤ 70368744177664 := by omega
          generalize (l.map txtJ).map J.d = R at *
          obtain ⟨N, hN⟩ : ∃ N, M1 ++ [AObj.cells (lC R)] = N := ⟨_, rfl⟩
          have gN : N[M1.length]? = some (.cells (lC R)) := by rw [← hN]; exact get_last _ _
          have gNp : N[M.length]? = some (.cells [.d (.str key), .d (sD l)]) := by rw [← hN]; exact gP1 _
          have gNf : N[J2.length]? = some (.cells (fC (psI f i))) := by rw [← hN]; exact gM2 _
          have gNr : N[J1.length]? = some (.cells zC) := by rw [← hN]; exact gM2r _
          have lN : N.length = M1.length + 1 := by rw [← hN]; simp
          have s1 : ∀ o : AObj, (N.set J2.length o)[J2.length]? = some o := fun o => List.getElem?_set_self (by omega)
          have s2 : ∀ o : AObj, (N.set J2.length o)[M1.length]? = some (.cells (lC R)) := fun o => by rw [List.getElem?_set_ne (by omega)]; exact gN
          have s3 : ∀ o : AObj, (N.set J2.length o)[M.length]? = some (.cells [.d (.str key), .d (sD l)]) := fun o => by rw [List.getElem?_set_ne (by omega)]; exact gNp
          have s4 : ∀ o : AObj, (N.set J2.length o)[J1.length]? = some (.cells zC) := fun o => by rw [List.getElem?_set_ne (by omega)]; exact gNr
          have s5 : ∀ o o' : AObj, (N.set J2.length o).set J2.length o' = N.set J2.length o' := fun o o' => by simp
          rw [hN]
          (iterate 5 ((first | refine W_sq ?_ | refine W_bk ?_ | refine W_ret ?_ | refine W_exit ?_ | refine W_skip ?_ | (apply W_rg; focus (intro _; simp only [evalR,runOps,stepOp,wanted,aop,evx,put,unflag,binV,isShift,AV.unf,List.contains,List.elem,z2,z3,z4,z5,Option.map,intD,reduceIte,z23,forgetT,z43,b_lss, f7]; (first | done | exact rfl))) | (refine W_cT ?_ ?_; focus (simp only [evx,List.contains,List.elem,z2,z3,AV.unf,reduceIte,z23]; done)) | (refine W_cF ?_ ?_; focus (simp only [evx,List.contains,List.elem,z2,z3,AV.unf,reduceIte,z23]; done))) <;> (try simp only [seqK,blockK,loopK,reduceIte,Nat.reduceEqDiff])))
          (apply W_rg; focus (intro k; simp (maxSteps := 100000000) only [srcC,AV.growable,AV.owned,evalR,wanted,aop,evx,put,unflag,binV,nilEq,isShift,binStr,unV,AV.elems,AV.unf,AV.int?,AV.toD,AV.toDs,AV.mkAgg,AV.pures,AV.cells,D.cells,AV.isCell,D.isCell,readCells,readD,optInt,fill,splice,srcOf,List.contains,List.elem,z2,z3,z4,z5,z6,z7,z8,z9,z10,z11,z12,z13,z14,z15,z18,z19,z20,z21,z22,Option.map,intD,boolD,reduceIte,z23,forgetT,Nat.reduceAdd,Nat.reduceLeDiff,Nat.reduceBEq,Nat.reduceBNe,z25,z26,z27,z29,z30,z31,z32,z33,z34,z35,z36,z37,z38,z39,z40,z41,z48,z49,z50,z51,z56,List.reduceReplicate,z63,z64,z66,chunks, drawOK,thin,inertAt,inertRec,z68,z69,traceOps,stepRec,explore,runAt,mayStand,z70,z71,z72,z18,z19,z73,Nat.reduceBEq,z76, gN, gNp, gNf, s1, s2, s3, s5, hzk, hzv, nk, nv, bk, bv, hxk, hxv, ge2]; (first | done | exact rfl))) <;> (try simp only [seqK,blockK])
          (repeat ((first | refine W_sq ?_ | refine W_bk ?_ | refine W_ret ?_ | refine W_exit ?_ | refine W_skip ?_ | (apply W_rg; focus (intro _; simp only [evalR,runOps,stepOp,wanted,aop,evx,put,unflag,binV,isShift,AV.unf,List.contains,List.elem,z2,z3,z4,z5,Option.map,reduceIte,z23,forgetT,b_add, w1]; (first | done | exact rfl))) | (refine W_cT ?_ ?_; focus (simp only [evx,List.contains,List.elem,z2,z3,AV.unf,reduceIte,z23,boolD]; done)) | (refine W_cF ?_ ?_; focus (simp only [evx,List.contains,List.elem,z2,z3,AV.unf,reduceIte,z23,boolD]; done))) <;> (try simp only [loopK])))
          exact ⟨4 - (i + 1), by omega, i + 1, _, by omega, rfl, hst, s1 _, s4 _, ex_st _ _ _ rfl⟩
  · obtain rfl : i = 4 := by omega
    have f4 : (((4 : Nat) : Int) < ((4 : Nat) : Int)) = False := eq_false (by omega)
    have hav : allV f = true := by rw [← hall, ← ha]; rfl
    rw [if_pos hav, ← psI_all]
    have hv : contentV (some (mapJ (psI f 4))) = .tuple [.d (.agg [.int .i64 5, .int .i64 0, .str [], .slice (kD (psI f 4)), .slice (vD (psI f 4))]), intD 0] := by show AV.tuple [.d (mapJ (psI f 4)).d, intD 0] = _; rw [map_d]
    rw [hv]
    have gS1 : ∀ o : AObj, (M.set J1.length o)[J1.length]? = some o := fun o => List.getElem?_set_self (by omega)
    (repeat ((first | refine W_sq ?_ | refine W_bk ?_ | refine W_ret ?_ | refine W_exit ?_ | refine W_skip ?_ | (apply W_rg; focus (intro _; simp only [evalR,runOps,stepOp,wanted,aop,evx,put,unflag,binV,isShift,AV.unf,AV.mkAgg,AV.pures,AV.cells,D.cells,AV.isCell,D.isCell,readCells,splice,List.contains,List.elem,z2,z3,z4,z5,z7,z8,z9,z10,z11,z12,z13,z14,z15,z18,z19,z20,z22,Option.map,intD,reduceIte,z23,forgetT,Nat.reduceAdd,Nat.reduceBEq,z26,z29,z34,z43,z48,z51,b_lss, f4, gM, gMr, ge1]; (first | done | exact rfl))) | (refine W_cT ?_ ?_; focus (simp only [evx,List.contains,List.elem,z2,z3,AV.unf,reduceIte,z23]; done)) | (refine W_cF ?_ ?_; focus (simp only [evx,List.contains,List.elem,z2,z3,AV.unf,reduceIte,z23]; done))) <;> (try simp only [seqK,blockK,loopK,reduceIte])))
    exact ans_cut (v := .tuple [.d (.agg [.int .i64 5, .int .i64 0, .str [], .slice (kD (psI f 4)), .slice (vD (psI f 4))]), intD 0]) (by simp only [AV.unf,AV.mkAgg,AV.pures,readCells,z2,z3,z7,z8,z9,z10,z11,z13,z14,z15,Option.map,reduceIte,Nat.reduceAdd,z26,z51,resV, gS1]; rfl) rfl ⟨rfl, rfl⟩

end Go.Proofs.YtoimlfaiibadgaaDoor
