/- What a content has under a name, and which filter it tells, as the document has it, walked. (NOBIN: the arithmetic of numbers is not unfolded.) -/
import Derived.Test.YtoimlfaiibadgaaDoordW20
set_option linter.unusedSimpArgs false
set_option linter.unusedVariables false
set_option linter.all false
set_option maxRecDepth 100000
namespace Go.Proofs.YtoimlfaiibadgaaDoor
open Go Go.Abs Go.Lib

theorem zero_d : J.zero.d = .agg [.int .i64 0, .int .i64 0, .str [], .slice [], .slice []] := by rw [jd]; rfl

theorem get_at {c : J} {key : Tx} {i : Nat} (h : c.ks[i]? = some key) (hno : ∀ q, q < i → c.ks[q]? ≠ some key) : getJ c key = c.l[i]? := by
  have : c.ks.findIdx? (· == key) = some i := by
    rw [List.findIdx?_eq_some_iff_getElem]
    obtain ⟨hi, he⟩ := List.getElem?_eq_some_iff.1 h
    refine ⟨hi, by simpa using he, fun j hj => ?_⟩
    have hjl : j < c.ks.length := by omega
    have := hno j hj
    rw [List.getElem?_eq_getElem hjl] at this
    have h2 : c.ks[j] ≠ key := fun e => this (by rw [e])
    simpa using h2
  unfold getJ
  simp only [this]

theorem get_no {c : J} {key : Tx} (hno : ∀ q, q < c.ks.length → c.ks[q]? ≠ some key) : getJ c key = none := by
  have : c.ks.findIdx? (· == key) = none := by
    rw [List.findIdx?_eq_none_iff]
    intro x hx
    obtain ⟨q, hq, he⟩ := List.getElem_of_mem hx
    have := hno q hq
    rw [List.getElem?_eq_getElem hq, he] at this
    have h2 : x ≠ key := fun e => this (by rw [e])
    simpa using h2
  unfold getJ
  simp only [this]

theorem get_mem {c : J} {key : Tx} {v : J} (h : getJ c key = some v) : v ∈ c.l := by
  unfold getJ at h
  split at h
  · exact List.mem_of_getElem? h
  · cases h

/-- A map of as many names as values, that is short. -/
structure Mp (c : J) : Prop where
  k : c.k = 5
  len : c.ks.length = c.l.length
  sh : Sh c

abbrev zC : List AV := [.d (.int .i64 0), .d (.int .i64 0), .d (.str []), .fslice [], .fslice []]

def getV (c : J) (key : Tx) : AV := .tuple [.d ((getJ c key).getD J.zero).d, boolD (getJ c key).isSome]

theorem Get_ev (lim : Nat) (H : AHeap) (c : J) (key : Tx) (hc : Mp c) : Ev X 32 lim [.d c.d, .d (.str key)] H (getV c key) H := by
  refine Fn.ev ?_
  refine Fn_of rfl (show code 32 = some c32 from rfl) rfl ?_; simp only [List.length_cons, List.length_nil, Nat.reduceAdd, Nat.reduceSub, List.reduceReplicate, List.cons_append, List.nil_append, reduceIte, Bool.false_eq_true]
  have hjd := jd c
  obtain ⟨J', hJ⟩ : ∃ J', H ++ [AObj.cells (jC c)] = J' := ⟨_, rfl⟩
  have gJ : J'[H.length]? = some (.cells (jC c)) := by rw [← hJ]; exact get_last _ _
  have lJ : J'.length = H.length + 1 := by rw [← hJ]; simp
  have hlk : H.length ≤ J'.length := by omega
  have hle := hc.len
  have hs3 := hc.sh.2.2.1
  obtain ⟨K, hK⟩ : ∃ K, J' ++ [AObj.cells zC] = K := ⟨_, rfl⟩
  have gK : K[H.length]? = some (.cells (jC c)) := by rw [← hK]; exact get_more _ gJ
  have gK2 : K[J'.length]? = some (.cells zC) := by rw [← hK]; exact get_last _ _
  have lK : J'.length < K.length := by rw [← hK]; simp
  have gS : ∀ o : AObj, (K.set J'.length o)[J'.length]? = some o := fun o => List.getElem?_set_self lK
  have f0 : (c.k != 5) = false := by rw [hc.k]; rfl
  (iterate 2 ((first | refine W_sq ?_ | refine W_bk ?_ | refine W_ret ?_ | refine W_exit ?_ | refine W_skip ?_ | (apply W_rg; focus (intro _; simp only [evalR,runOps,stepOp,wanted,aop,evx,put,unflag,AV.unf,AV.cells,D.cells,AV.isCell,D.isCell,List.contains,List.elem,z3,z4,z5,z8,z9,z18,z19,reduceIte,z23,forgetT,z34,hjd, hJ, hK]; (first | done | exact rfl))) | (refine W_cT ?_ ?_; focus (simp only [evx,List.contains,List.elem,z2,z3,AV.unf,reduceIte,z23,boolD]; done)) | (refine W_cF ?_ ?_; focus (simp only [evx,List.contains,List.elem,z2,z3,AV.unf,reduceIte,z23,boolD]; done))) <;> (try simp only [seqK])))
  (repeat ((first | refine W_sq ?_ | refine W_bk ?_ | refine W_ret ?_ | refine W_exit ?_ | refine W_skip ?_ | (apply W_rg; focus (intro _; simp only [evalR,runOps,stepOp,wanted,aop,evx,put,unflag,binV,isShift,AV.unf,AV.mkAgg,AV.pures,readCells,List.contains,List.elem,z2,z3,z4,z5,z7,z8,z9,z10,z11,z13,z14,z15,Option.map,reduceIte,z23,forgetT,Nat.reduceAdd,Nat.reduceLeDiff,z25,z26,gK, b_neq, f0]; (first | done | exact rfl))) | (refine W_cT ?_ ?_; focus (simp only [evx,List.contains,List.elem,z2,z3,AV.unf,reduceIte,z23]; done)) | (refine W_cF ?_ ?_; focus (simp only [evx,List.contains,List.elem,z2,z3,AV.unf,reduceIte,z23]; done))) <;> (try simp only [seqK])))
  refine W_lp (fun k st => ∃ i : Nat, i ≤ c.ks.length ∧ k = c.ks.length - i ∧ (∀ q, q < i → c.ks[q]? ≠ some key) ∧ ∃ x : Nat → AV, st = ⟨[x 0, .d (.str key), x 2, x 3, x 4, .ptr J'.length 0, boolD false, .ptr H.length 0, intD i, x 9, x 10, x 11], K⟩) ?_ _ _ ⟨0, Nat.zero_le _, rfl, fun q hq => by omega, ex_st _ _ _ rfl⟩
  rintro k _ ⟨i, hi, rfl, hno, x, rfl⟩
  by_cases t0 : i < c.ks.length
  · have f1 : ((i : Int) < (c.ks.length : Int)) = True := eq_true (by omega)
    have f2 : ((i : Int) < (c.l.length : Int)) = True := eq_true (by omega)
    have w1 : IntKind.i64.wrap ((i : Int) + 1) = ((i + 1 : Nat) : Int) := wsucc (by omega)
    obtain ⟨s, hs⟩ : ∃ s, c.ks[i]? = some s := ⟨_, List.getElem?_eq_getElem t0⟩
    obtain ⟨v, hv⟩ : ∃ v, c.l[i]? = some v := ⟨_, List.getElem?_eq_getElem (by omega)⟩
    have hvd := jd v
    have hcl : (D.str s).cells = [D.str s] := rfl
    by_cases h1 : s = key
    · subst h1
      have f3 : (s == s) = true := by simp
      have hg : getV c s = .tuple [.d v.d, boolD true] := by unfold getV; rw [get_at hs hno, hv]; rfl
      rw [hg, hvd]
      (repeat ((first | refine W_sq ?_ | refine W_bk ?_ | refine W_ret ?_ | refine W_exit ?_ | refine W_skip ?_ | (apply W_rg; focus (intro _; simp only [evalR,runOps,stepOp,wanted,aop,evx,put,unflag,binV,isShift,binStr,AV.elems,AV.unf,AV.int?,AV.mkAgg,AV.pures,AV.cells,D.cells,AV.isCell,D.isCell,readCells,readD,splice,List.contains,List.elem,z2,z3,z4,z5,z6,z7,z8,z9,z10,z11,z12,z13,z14,z15,z18,z19,z20,z22,Option.map,intD,boolD,reduceIte,z23,forgetT,Nat.reduceAdd,Nat.reduceLeDiff,Nat.reduceBEq,z26,z29,z34,z42,z48,z51,z52,z55,z62,gK, gK2, b_lss, f1, f2, hs, hv, hvd, hlk, List.length_map]; (first | done | exact rfl))) | (refine W_cT ?_ ?_; focus (simp only [evx,List.contains,List.elem,z2,z3,AV.unf,reduceIte,z23]; done)) | (refine W_cF ?_ ?_; focus (simp only [evx,List.contains,List.elem,z2,z3,AV.unf,reduceIte,z23,boolD]; done))) <;> (try simp only [seqK,blockK,loopK])))
      exact ans_cut (v := .tuple [.d (.agg [.int .i64 v.k, .int .i64 v.n, .str v.t, sD v.ks, jsD v.l]), boolD true]) (by simp only [AV.unf,AV.mkAgg,AV.pures,readCells,z2,z3,z7,z8,z9,z10,z11,z13,z14,z15,Option.map,reduceIte,Nat.reduceAdd,z26,z51,resV, gS]; rfl) rfl ⟨rfl, rfl⟩
    · have f3 : (s == key) = false := by simpa using h1
      (repeat ((first | refine W_sq ?_ | refine W_bk ?_ | refine W_ret ?_ | refine W_exit ?_ | refine W_skip ?_ | (apply W_rg; focus (intro _; simp only [evalR,runOps,stepOp,wanted,aop,evx,put,unflag,binV,isShift,binStr,AV.elems,AV.unf,AV.int?,AV.mkAgg,AV.pures,D.cells,readCells,readD,List.contains,List.elem,z2,z3,z4,z5,z6,z7,z8,z9,z10,z11,z12,z13,z14,z15,Option.map,intD,boolD,reduceIte,z23,forgetT,Nat.reduceAdd,Nat.reduceLeDiff,z26,z29,z42,z51,z52,z55,z62,gK, b_lss, b_add, f1, f2, f3, hs, w1, List.length_map]; (first | done | exact rfl))) | (refine W_cT ?_ ?_; focus (simp only [evx,List.contains,List.elem,z2,z3,AV.unf,reduceIte,z23]; done)) | (refine W_cF ?_ ?_; focus (simp only [evx,List.contains,List.elem,z2,z3,AV.unf,reduceIte,z23]; done))) <;> (try simp only [seqK,blockK,loopK])))
      refine ⟨c.ks.length - (i + 1), by omega, i + 1, t0, rfl, fun q hq => ?_, ex_st _ _ _ rfl⟩
      by_cases hqi : q < i
      · exact hno q hqi
      · obtain rfl : q = i := by omega
        rw [hs]; exact fun e => h1 (Option.some.inj e)
  · obtain rfl : i = c.ks.length := by omega
    have f1 : ((c.ks.length : Int) < (c.ks.length : Int)) = False := eq_false (by omega)
    have hg : getV c key = .tuple [.d J.zero.d, boolD false] := by unfold getV; rw [get_no hno]; rfl
    rw [hg, zero_d]
    (repeat ((first | refine W_sq ?_ | refine W_bk ?_ | refine W_ret ?_ | refine W_exit ?_ | refine W_skip ?_ | (apply W_rg; focus (intro _; simp only [evalR,runOps,stepOp,wanted,aop,evx,put,unflag,binV,isShift,AV.elems,AV.unf,AV.mkAgg,AV.pures,AV.cells,AV.isCell,D.isCell,readCells,fill,splice,List.contains,List.elem,z2,z3,z4,z5,z6,z7,z8,z9,z10,z11,z12,z13,z14,z15,z18,z19,z20,z22,Option.map,intD,boolD,reduceIte,z23,forgetT,Nat.reduceAdd,Nat.reduceLeDiff,Nat.reduceBEq,z26,z29,z32,z34,z43,z45,z48,z51,gK, gK2, b_lss, f1, hlk, List.length_map]; (first | done | exact rfl))) | (refine W_cT ?_ ?_; focus (simp only [evx,List.contains,List.elem,z2,z3,AV.unf,reduceIte,z23]; done)) | (refine W_cF ?_ ?_; focus (simp only [evx,List.contains,List.elem,z2,z3,AV.unf,reduceIte,z23]; done))) <;> (try simp only [seqK,blockK,loopK,reduceIte])))
    exact ans_cut (v := .tuple [.d (.agg [.int .i64 0, .int .i64 0, .str [], .slice [], .slice []]), boolD false]) (by simp only [AV.unf,AV.mkAgg,AV.pures,readCells,z2,z3,z7,z8,z9,z10,z11,z13,z14,z15,Option.map,reduceIte,Nat.reduceAdd,z26,z51,resV, gS]; rfl) rfl ⟨rfl, rfl⟩

abbrev tS (l : List J) : List D := (l.map J.t).map D.str
abbrev okJ (x : J) : Bool := decide (x.k = 3) && decide (x.t.length ≤ 256)

theorem tS_step {l : List J} {i : Nat} {y : J} (h : l[i]? = some y) : tS (l.take i) ++ [D.str y.t] = tS (l.take (i + 1)) := by
  rw [List.take_add_one, h]; simp

def textsV (o : Option (List Tx)) : AV := .tuple [.d (sD (o.getD [])), boolD o.isSome]

theorem texts_some {v : J} (h4 : v.k = 4) (hl : v.l.length ≤ 100) : textsJ (some v) = if v.l.all okJ = true then some (v.l.map J.t) else none := by
  show (if v.k = 4 ∧ v.l.length ≤ 100 ∧ v.l.all okJ = true then some (v.l.map J.t) else none) = _
  by_cases h : v.l.all okJ = true
  · rw [if_pos ⟨h4, hl, h⟩, if_pos h]
  · rw [if_neg (fun k => h k.2.2), if_neg h]

theorem texts_none {v : J} (h : ¬ (v.k = 4 ∧ v.l.length ≤ 100)) : textsJ (some v) = none := by
  show (if v.k = 4 ∧ v.l.length ≤ 100 ∧ v.l.all okJ = true then some (v.l.map J.t) else none) = _
  rw [if_neg (fun k => h ⟨k.1, k.2.1⟩)]

theorem textsR_ev (lim : Nat) (H : AHeap) (c : J) (key : Tx) (hc : Mp c) : Ev X 31 lim [.d c.d, .d (.str key)] H (textsV (textsJ (getJ c key))) H := by
  refine Fn.ev ?_
  refine Fn_of rfl (show code 31 = some c31 from rfl) rfl ?_; simp only [List.length_cons, List.length_nil, Nat.reduceAdd, Nat.reduceSub, List.reduceReplicate, List.cons_append, List.nil_append, reduceIte, Bool.false_eq_true]
  have hjd := jd c
  obtain ⟨J', hJ⟩ : ∃ J', H ++ [AObj.cells (jC c)] = J' := ⟨_, rfl⟩
  have gJ : J'[H.length]? = some (.cells (jC c)) := by rw [← hJ]; exact get_last _ _
  have lJ : J'.length = H.length + 1 := by rw [← hJ]; simp
  have hlk : H.length ≤ J'.length := by omega
  have he := Get_ev H.length J' c key hc
  unfold getV at he
  simp only [hjd] at he
  (iterate 2 ((first | refine W_sq ?_ | refine W_bk ?_ | refine W_ret ?_ | refine W_exit ?_ | refine W_skip ?_ | (apply W_rg; focus (intro _; simp only [evalR,runOps,stepOp,wanted,aop,evx,put,unflag,AV.unf,AV.cells,D.cells,AV.isCell,D.isCell,List.contains,List.elem,z3,z4,z5,z8,z9,z18,z19,reduceIte,z23,forgetT,z34,hjd, hJ]; (first | done | exact rfl))) | (refine W_cT ?_ ?_; focus (simp only [evx,List.contains,List.elem,z2,z3,AV.unf,reduceIte,z23,boolD]; done)) | (refine W_cF ?_ ?_; focus (simp only [evx,List.contains,List.elem,z2,z3,AV.unf,reduceIte,z23,boolD]; done))) <;> (try simp only [seqK])))
  (iterate 1 ((first | refine W_sq ?_ | refine W_bk ?_ | refine W_ret ?_ | refine W_exit ?_ | refine W_skip ?_ | (apply W_rg; focus (intro _; simp only [z0,srcC,AV.growable,AV.owned,evalC,evalR,runOps,stepOp,wanted,aop,evx,put,unflag,binV,nilEq,isShift,binStr,unV,AV.elems,AV.unf,AV.int?,AV.toD,AV.toDs,AV.mkAgg,AV.pures,AV.cells,D.cells,AV.isCell,D.isCell,readCells,readD,optInt,fill,splice,srcOf,z1,List.contains,List.elem,z2,z3,z4,z5,z6,z7,z8,z9,z10,z11,z12,z13,z14,z15,z16,z17,z18,z19,z20,z21,z22,Option.map,intD,boolD,bD,reduceIte,z23,z24,forgetT,Nat.reduceAdd,Nat.reduceLeDiff,Nat.reduceMul,Nat.reduceSub,Nat.reduceEqDiff,Nat.reduceBEq,Nat.reduceBNe,z25,z26,z27,z28,z29,z30,z31,z32,z33,z34,z35,z36,z37,z38,z39,z40,z41,z42,z43,z44,z45,z46,z47,z48,z49,z50,z51,z52,Int.reduceToNat,z53,z54,z55,z56,z57,z58,Int.reduceBEq,Int.reduceBNe,Int.reduceLT,Int.reduceLE,Int.reduceGT,Int.reduceGE,Int.reduceEq,z59,z60,z61,z62,List.reduceReplicate,z63,z64,z65,z66,z67,chunks]; (first | done | exact rfl))) | (refine W_cT ?_ ?_; focus (simp only [evx,List.contains,List.elem,z2,z3,AV.unf,reduceIte,z23,boolD]; done)) | (refine W_cF ?_ ?_; focus (simp only [evx,List.contains,List.elem,z2,z3,AV.unf,reduceIte,z23,boolD]; done))) <;> (try simp only [seqK,blockK,loopK,onlyK,forgetT,put,unflag,z4,z5,z2,z3,AV.unf,reduceIte,Nat.reduceEqDiff,Nat.reduceAdd])))
  cases hg : getJ c key with
  | none =>
    rw [hg] at he
    simp only [Option.getD_none, Option.isSome_none, zero_d] at he
    have hr : textsV (textsJ none) = .tuple [.d (.slice []), boolD true] := rfl
    rw [hr]
    (apply W_drw; focus (refine Evl.call (he) (Evl.all fun k e1 => ?_); simp (maxSteps := 100000000) only [evalR,runOps,stepOp,wanted,aop,evx,put,unflag,AV.unf,AV.mkAgg,AV.pures,AV.cells,D.cells,AV.isCell,D.isCell,readCells,splice,List.contains,List.elem,z2,z3,z4,z5,z6,z7,z8,z9,z10,z11,z12,z13,z14,z15,z18,z19,z20,z22,Option.map,boolD,reduceIte,z23,forgetT,Nat.reduceAdd,Nat.reduceBEq,z26,z29,z34,z46,z47,z48,z51,z18,z19,Nat.reduceBEq,gJ, hlk, e1]; (first | done | exact rfl))) <;> (try simp only [seqK])
    (repeat ((first | refine W_sq ?_ | refine W_bk ?_ | refine W_ret ?_ | refine W_exit ?_ | refine W_skip ?_ | (apply W_rg; focus (intro _; simp only [evalR,runOps,stepOp,wanted,aop,evx,put,unflag,unV,AV.unf,List.contains,List.elem,z2,z3,z4,z5,Option.map,boolD,reduceIte,z23,forgetT,z31]; (first | done | exact rfl))) | (refine W_cT ?_ ?_; focus (simp only [evx,List.contains,List.elem,z2,z3,AV.unf,reduceIte,z23]; done)) | (refine W_cF ?_ ?_; focus (simp only [evx,List.contains,List.elem,z2,z3,AV.unf,reduceIte,z23,boolD]; done))) <;> (try simp only [seqK])))
    exact ans_cut rfl rfl ⟨rfl, rfl⟩
  | some v =>
    rw [hg] at he
    have hvd := jd v
    simp only [Option.getD_some, Option.isSome_some, hvd] at he
    obtain ⟨K, hK⟩ : ∃ K, J' ++ [AObj.cells (jC v)] = K := ⟨_, rfl⟩
    have gK : K[J'.length]? = some (.cells (jC v)) := by rw [← hK]; exact get_last _ _
    (apply W_drw; focus (refine Evl.call (he) (Evl.all fun k e1 => ?_); simp (maxSteps := 100000000) only [evalR,runOps,stepOp,wanted,aop,evx,put,unflag,AV.unf,AV.mkAgg,AV.pures,AV.cells,D.cells,AV.isCell,D.isCell,readCells,splice,List.contains,List.elem,z2,z3,z4,z5,z6,z7,z8,z9,z10,z11,z12,z13,z14,z15,z18,z19,z20,z22,Option.map,boolD,reduceIte,z23,forgetT,Nat.reduceAdd,Nat.reduceBEq,z26,z29,z34,z46,z47,z48,z51,z18,z19,Nat.reduceBEq,gJ, hlk, e1]; (first | done | exact rfl))) <;> (try simp only [seqK])
    rw [hK]
    have hn : ∀ o : Option (List Tx), o = none → textsV o = .tuple [.d (.slice []), boolD false] := fun o h => by rw [h]; rfl
    by_cases h4 : v.k = 4
    · have f4 : (v.k != 4) = false := by rw [h4]; rfl
      by_cases hl : v.l.length ≤ 100
      · have f5 : ((v.l.length : Int) > 100) = False := eq_false (by omega)
        rw [texts_some h4 hl]
        (repeat ((first | refine W_sq ?_ | refine W_bk ?_ | refine W_ret ?_ | refine W_exit ?_ | refine W_skip ?_ | (apply W_rg; focus (intro _; simp only [evalR,runOps,stepOp,wanted,aop,evx,put,unflag,binV,isShift,unV,AV.elems,AV.unf,AV.mkAgg,AV.pures,readCells,List.contains,List.elem,z2,z3,z4,z5,z6,z7,z8,z9,z10,z11,z12,z13,z14,z15,Option.map,intD,boolD,reduceIte,z23,forgetT,Nat.reduceAdd,Nat.reduceLeDiff,z25,z26,z29,z32,z43,z51,gK, b_neq, b_gtr, f4, f5, List.length_map]; (first | done | exact rfl))) | (refine W_cT ?_ ?_; focus (simp only [evx,List.contains,List.elem,z2,z3,AV.unf,reduceIte,z23]; done)) | (refine W_cF ?_ ?_; focus (simp only [evx,List.contains,List.elem,z2,z3,AV.unf,reduceIte,z23]; done))) <;> (try simp only [seqK])))
        refine W_lp (fun k st => ∃ i : Nat, i ≤ v.l.length ∧ k = v.l.length - i ∧ (v.l.take i).all okJ = true ∧ ∃ x : Nat → AV, st = ⟨[x 0, x 1, x 2, x 3, x 4, x 5, .fslice [], boolD false, x 8, .ptr J'.length 0, x 10, .fslice (tS (v.l.take i)), intD i, x 13, x 14, x 15], K⟩) ?_ _ _ ⟨0, Nat.zero_le _, rfl, rfl, ex_st _ _ _ rfl⟩
        rintro k _ ⟨i, hi, rfl, ha, x, rfl⟩
        by_cases t0 : i < v.l.length
        · have f1 : ((i : Int) < (v.l.length : Int)) = True := eq_true (by omega)
          have w1 : IntKind.i64.wrap ((i : Int) + 1) = ((i + 1 : Nat) : Int) := wsucc (by omega)
          obtain ⟨y, hy⟩ : ∃ y, v.l[i]? = some y := ⟨_, List.getElem?_eq_getElem t0⟩
          have hyd := jd y
          have hst := all_cut hy okJ
          rw [ha, Bool.true_and] at hst
          have hx := tS_step hy
          have hz : headSz 1 (tS (v.l.take i)) = true := headSz_map (sz := 1) (f := D.str) (fun x => rfl) _
          have hb : (min i v.l.length + 1) * (16 + 1) ≤ 70368744177664 := by omega
          have hlen : (tS (v.l.take i)).length = min i v.l.length := by simp
          generalize tS (v.l.take i) = T at *
          by_cases h3 : y.k = 3
          · have f3 : (y.k != 3) = false := by rw [h3]; rfl
            by_cases h2 : y.t.length ≤ 256
            · have f2 : ((y.t.length : Int) > 256) = False := eq_false (by omega)
              have hok : okJ y = true := by simp [okJ, h3, h2]
              rw [hok] at hst
              (repeat ((first | refine W_sq ?_ | refine W_bk ?_ | refine W_ret ?_ | refine W_exit ?_ | refine W_skip ?_ | (apply W_rg; focus (intro _; simp only [evalR,runOps,stepOp,wanted,aop,evx,put,unflag,binV,isShift,AV.elems,AV.unf,AV.int?,AV.toD,AV.toDs,AV.mkAgg,AV.pures,AV.cells,D.cells,AV.isCell,D.isCell,readCells,readD,fill,splice,srcOf,List.contains,List.elem,z2,z3,z4,z5,z6,z7,z8,z9,z10,z11,z12,z13,z14,z15,z18,z19,z20,z22,Option.map,intD,boolD,reduceIte,z23,forgetT,Nat.reduceAdd,Nat.reduceLeDiff,Nat.reduceBEq,z26,z27,z29,z30,z34,z42,z43,z48,z51,z52,z55,z62,List.reduceReplicate,z63,z64,z66,chunks, gK, b_lss, b_neq, b_gtr, b_add, f1, f2, f3, hy, hyd, w1, hz, hb, hlen, hx, List.length_map]; (first | done | exact rfl))) | (refine W_cT ?_ ?_; focus (simp only [evx,List.contains,List.elem,z2,z3,AV.unf,reduceIte,z23]; done)) | (refine W_cF ?_ ?_; focus (simp only [evx,List.contains,List.elem,z2,z3,AV.unf,reduceIte,z23]; done))) <;> (try simp only [seqK,blockK,loopK])))
              exact ⟨v.l.length - (i + 1), by omega, i + 1, t0, rfl, hst, ex_st _ _ _ rfl⟩
            · have f2 : ((y.t.length : Int) > 256) = True := eq_true (by omega)
              rw [if_neg (by rw [all_no hy (by simp [okJ, h2])]; simp)]
              rw [hn _ rfl]
              (repeat ((first | refine W_sq ?_ | refine W_bk ?_ | refine W_ret ?_ | refine W_exit ?_ | refine W_skip ?_ | (apply W_rg; focus (intro _; simp only [evalR,runOps,stepOp,wanted,aop,evx,put,unflag,binV,isShift,AV.elems,AV.unf,AV.int?,AV.mkAgg,AV.pures,D.cells,readCells,readD,List.contains,List.elem,z2,z3,z4,z5,z6,z7,z8,z9,z10,z11,z12,z13,z14,z15,Option.map,intD,boolD,reduceIte,z23,forgetT,Nat.reduceAdd,Nat.reduceLeDiff,z26,z29,z42,z51,z52,z55,z62,gK, b_lss, b_neq, b_gtr, f1, f2, f3, hy, hyd, List.length_map]; (first | done | exact rfl))) | (refine W_cT ?_ ?_; focus (simp only [evx,List.contains,List.elem,z2,z3,AV.unf,reduceIte,z23]; done)) | (refine W_cF ?_ ?_; focus (simp only [evx,List.contains,List.elem,z2,z3,AV.unf,reduceIte,z23,boolD]; done))) <;> (try simp only [seqK,blockK,loopK])))
              exact ans_cut rfl rfl ⟨rfl, rfl⟩
          · have f3 : (y.k != 3) = true := by simpa using h3
            rw [if_neg (by rw [all_no hy (by simp [okJ, h3])]; simp)]
            rw [hn _ rfl]
            (repeat ((first | refine W_sq ?_ | refine W_bk ?_ | refine W_ret ?_ | refine W_exit ?_ | refine W_skip ?_ | (apply W_rg; focus (intro _; simp only [evalR,runOps,stepOp,wanted,aop,evx,put,unflag,binV,isShift,AV.elems,AV.unf,AV.int?,AV.mkAgg,AV.pures,D.cells,readCells,readD,List.contains,List.elem,z2,z3,z4,z5,z6,z7,z8,z9,z10,z11,z12,z13,z14,z15,Option.map,intD,boolD,reduceIte,z23,forgetT,Nat.reduceAdd,Nat.reduceLeDiff,z26,z42,z44,z51,z52,z55,z62,gK, b_lss, b_neq, f1, f3, hy, hyd, List.length_map]; (first | done | exact rfl))) | (refine W_cT ?_ ?_; focus (simp only [evx,List.contains,List.elem,z2,z3,AV.unf,reduceIte,z23]; done)) | (refine W_cF ?_ ?_; focus (simp only [evx,List.contains,List.elem,z2,z3,AV.unf,reduceIte,z23,boolD]; done))) <;> (try simp only [seqK,blockK,loopK])))
            exact ans_cut rfl rfl ⟨rfl, rfl⟩
        · obtain rfl : i = v.l.length := by omega
          have f1 : ((v.l.length : Int) < (v.l.length : Int)) = False := eq_false (by omega)
          rw [List.take_length] at ha ⊢
          rw [if_pos ha]
          (repeat ((first | refine W_sq ?_ | refine W_bk ?_ | refine W_ret ?_ | refine W_exit ?_ | refine W_skip ?_ | (apply W_rg; focus (intro _; simp only [evalR,runOps,stepOp,wanted,aop,evx,put,unflag,binV,isShift,AV.elems,AV.unf,AV.mkAgg,AV.pures,readCells,List.contains,List.elem,z2,z3,z4,z5,z6,z7,z8,z9,z10,z11,z12,z13,z14,z15,Option.map,intD,boolD,reduceIte,z23,forgetT,Nat.reduceAdd,z26,z29,z43,z51,gK, b_lss, f1, List.length_map]; (first | done | exact rfl))) | (refine W_cT ?_ ?_; focus (simp only [evx,List.contains,List.elem,z2,z3,AV.unf,reduceIte,z23]; done)) | (refine W_cF ?_ ?_; focus (simp only [evx,List.contains,List.elem,z2,z3,AV.unf,reduceIte,z23]; done))) <;> (try simp only [seqK,blockK,loopK,reduceIte])))
          exact ans_cut rfl rfl ⟨rfl, rfl⟩
      · have f5 : ((v.l.length : Int) > 100) = True := eq_true (by omega)
        rw [hn _ (texts_none fun h => hl h.2)]
        (repeat ((first | refine W_sq ?_ | refine W_bk ?_ | refine W_ret ?_ | refine W_exit ?_ | refine W_skip ?_ | (apply W_rg; focus (intro _; simp only [evalR,runOps,stepOp,wanted,aop,evx,put,unflag,binV,isShift,unV,AV.elems,AV.unf,AV.mkAgg,AV.pures,readCells,List.contains,List.elem,z2,z3,z4,z5,z6,z7,z8,z9,z10,z11,z12,z13,z14,z15,Option.map,intD,boolD,reduceIte,z23,forgetT,Nat.reduceAdd,Nat.reduceLeDiff,z25,z26,z29,z32,z42,z51,gK, b_neq, b_gtr, f4, f5, List.length_map]; (first | done | exact rfl))) | (refine W_cT ?_ ?_; focus (simp only [evx,List.contains,List.elem,z2,z3,AV.unf,reduceIte,z23]; done)) | (refine W_cF ?_ ?_; focus (simp only [evx,List.contains,List.elem,z2,z3,AV.unf,reduceIte,z23]; done))) <;> (try simp only [seqK])))
        exact ans_cut rfl rfl ⟨rfl, rfl⟩
    · have f4 : (v.k != 4) = true := by simpa using h4
      rw [hn _ (texts_none fun h => h4 h.1)]
      (repeat ((first | refine W_sq ?_ | refine W_bk ?_ | refine W_ret ?_ | refine W_exit ?_ | refine W_skip ?_ | (apply W_rg; focus (intro _; simp only [evalR,runOps,stepOp,wanted,aop,evx,put,unflag,binV,isShift,unV,AV.unf,AV.mkAgg,AV.pures,readCells,List.contains,List.elem,z2,z3,z4,z5,z7,z8,z9,z10,z11,z13,z14,z15,Option.map,boolD,reduceIte,z23,forgetT,Nat.reduceAdd,Nat.reduceLeDiff,z25,z26,z32,z44,gK, b_neq, f4]; (first | done | exact rfl))) | (refine W_cT ?_ ?_; focus (simp only [evx,List.contains,List.elem,z2,z3,AV.unf,reduceIte,z23]; done)) | (refine W_cF ?_ ?_; focus (simp only [evx,List.contains,List.elem,z2,z3,AV.unf,reduceIte,z23]; done))) <;> (try simp only [seqK])))
      exact ans_cut rfl rfl ⟨rfl, rfl⟩

abbrev flA (a b c d : List Tx) (n : Int) : List AV := [.d (sD a), .d (sD b), .d (sD c), .d (sD d), .d (.int .i64 n)]
def parseV (o : Option Fl) : AV := match o with
  | some f => .tuple [.d (flD f), intD 0]
  | none => .tuple [.d (flD ⟨[], [], [], [], 0⟩), intD 1]

theorem good_mp {d : Nat} {c : J} (hd : Bd d c) (h5 : c.k = 5) (hg : goodB 12 c = true) : Mp c := by
  refine ⟨h5, ?_, hd.sh⟩
  have h : (shapedB c && c.l.all (goodB 11)) = true := hg
  have hs : shapedB c = true := (Bool.and_eq_true _ _ ▸ h).1
  unfold shapedB at hs
  rw [if_neg (by omega), if_neg (by omega), if_neg (by omega), if_neg (by omega), if_neg (by omega), if_pos h5] at hs
  simp only [Bool.and_eq_true, decide_eq_true_eq] at hs
  exact hs.1.1.1

def joinP (t1 t2 t3 t4 : Option (List Tx)) (n : Option Int) : Option Fl := match t1, t2, t3, t4, n with
  | some a, some b, some d, some e, some n => some ⟨a, b, d, e, n⟩
  | _, _, _, _, _ => none

theorem parse_good {c : J} (h5 : c.k = 5) (hg : goodB 12 c = true) : parseJ c = joinP (textsJ (getJ c kT)) (textsJ (getJ c kNt)) (textsJ (getJ c kS)) (textsJ (getJ c kNs)) (limJ (getJ c kLim)) := by
  unfold parseJ
  rw [if_pos ⟨h5, hg⟩]; rfl

theorem join_none {t1 t2 t3 t4 : Option (List Tx)} {n : Option Int} (h : t1 = none ∨ t2 = none ∨ t3 = none ∨ t4 = none ∨ n = none) : joinP t1 t2 t3 t4 n = none := by
  unfold joinP
  rcases h with rfl | rfl | rfl | rfl | rfl <;> (repeat' split) <;> first | rfl | simp_all

set_option maxHeartbeats 2000000 in
--
theorem ParseR_ev (lim : Nat) (H : AHeap) (d : Nat) (c : J) (hd : Bd d c) : Ev X 11 lim [.d c.d] H (parseV (parseJ c)) H := by
  refine Fn.ev ?_
  refine Fn_of rfl (show code 11 = some c11 from rfl) rfl ?_; simp only [List.length_cons, List.length_nil, Nat.reduceAdd, Nat.reduceSub, List.reduceReplicate, List.cons_append, List.nil_append, reduceIte, Bool.false_eq_true]
  have hjd := jd c
  obtain ⟨J1, hJ1⟩ : ∃ J1, H ++ [AObj.cells (jC c)] = J1 := ⟨_, rfl⟩
  have l1 : J1.length = H.length + 1 := by rw [← hJ1]; simp
  have g1 : J1[H.length]? = some (.cells (jC c)) := by rw [← hJ1]; exact get_last _ _
  obtain ⟨J2, hJ2⟩ : ∃ J2, J1 ++ [AObj.cells [.fslice [], .fslice [], .fslice [], .fslice [], intD 0]] = J2 := ⟨_, rfl⟩
  have l2 : J2.length = H.length + 2 := by rw [← hJ2]; simp [l1]
  have g2 : J2[H.length]? = some (.cells (jC c)) := by rw [← hJ2]; exact get_more _ g1
  have g2r : J2[J1.length]? = some (.cells [.fslice [], .fslice [], .fslice [], .fslice [], intD 0]) := by rw [← hJ2]; exact get_last _ _
  have g3 : ∀ o, (J2 ++ [o])[H.length]? = some (.cells (jC c)) := fun o => get_more o g2
  have g3r : ∀ o, (J2 ++ [o])[J1.length]? = some (.cells [.fslice [], .fslice [], .fslice [], .fslice [], intD 0]) := fun o => get_more o g2r
  have ge1 : H.length ≤ J1.length := by omega
  have ge2 : H.length ≤ J2.length := by omega
  have gS : ∀ (o o' : AObj), ((J2 ++ [o]).set J1.length o')[J1.length]? = some o' := fun o o' => List.getElem?_set_self (by simp; omega)
  have hgo := fun M => GoodR_ev H.length M d c hd
  simp only [hjd] at hgo
  have bad : parseV none = .tuple [.d (.agg [.slice [], .slice [], .slice [], .slice [], .int .i64 0]), intD 1] := rfl
  (iterate 2 ((first | refine W_sq ?_ | refine W_bk ?_ | refine W_ret ?_ | refine W_exit ?_ | refine W_skip ?_ | (apply W_rg; focus (intro _; simp only [evalR,runOps,stepOp,wanted,aop,evx,put,unflag,AV.unf,AV.cells,D.cells,AV.isCell,D.isCell,List.contains,List.elem,z3,z4,z5,z8,z9,z18,z19,reduceIte,z23,forgetT,z34,hjd, hJ1, hJ2]; (first | done | exact rfl))) | (refine W_cT ?_ ?_; focus (simp only [evx,List.contains,List.elem,z2,z3,AV.unf,reduceIte,z23,boolD]; done)) | (refine W_cF ?_ ?_; focus (simp only [evx,List.contains,List.elem,z2,z3,AV.unf,reduceIte,z23,boolD]; done))) <;> (try simp only [seqK])))
  by_cases h5 : c.k = 5
  · have f5 : (c.k != 5) = false := by rw [h5]; rfl
    cases hg : goodB 12 c with
    | false =>
      rw [hg] at hgo
      have hp : parseJ c = none := by unfold parseJ; rw [if_neg (by rw [hg]; simp)]
      rw [hp, bad]
      (iterate 3 ((first | refine W_sq ?_ | refine W_bk ?_ | refine W_ret ?_ | refine W_exit ?_ | refine W_skip ?_ | (apply W_rg; focus (intro _; simp only [evalR,runOps,stepOp,wanted,aop,put,unflag,z4,z5,forgetT]; (first | done | exact rfl))) | (refine W_cT ?_ ?_; focus (simp only [evx,List.contains,List.elem,z2,z3,AV.unf,reduceIte,z23,boolD]; done)) | (refine W_cF ?_ ?_; focus (simp only [evx,List.contains,List.elem,z2,z3,AV.unf,reduceIte,z23,boolD]; done))) <;> (try simp only [seqK])))
      (apply W_drw; focus (refine Evl.call ((hgo (J2 ++ [AObj.cells [.fslice [], .fslice [], .fslice [], .fslice [], .d (.int .i64 0)]]))) (Evl.all fun k e1 => ?_); simp (maxSteps := 100000000) only [evalR,runOps,stepOp,wanted,aop,evx,put,unflag,binV,isShift,unV,AV.unf,AV.mkAgg,AV.pures,readCells,List.contains,List.elem,z2,z3,z4,z5,z7,z8,z9,z10,z11,z13,z14,z15,Option.map,boolD,reduceIte,z23,forgetT,Nat.reduceAdd,Nat.reduceLeDiff,z25,z26,z29,z31,z51,g3, b_neq, f5, e1]; (first | done | exact rfl))) <;> (try simp only [seqK])
      (repeat ((first | refine W_sq ?_ | refine W_bk ?_ | refine W_ret ?_ | refine W_exit ?_ | refine W_skip ?_ | (apply W_rg; focus (intro _; simp only [evalR,runOps,stepOp,wanted,aop,evx,put,unflag,AV.unf,AV.mkAgg,AV.pures,AV.cells,D.cells,AV.isCell,D.isCell,readCells,splice,List.contains,List.elem,z2,z3,z4,z5,z7,z8,z9,z10,z11,z12,z13,z14,z15,z18,z19,z20,z22,Option.map,intD,reduceIte,z23,forgetT,Nat.reduceAdd,Nat.reduceBEq,z26,z29,z34,z46,z48,z51,g3r, ge1]; (first | done | exact rfl))) | (refine W_cT ?_ ?_; focus (simp only [evx,List.contains,List.elem,z2,z3,AV.unf,reduceIte,z23]; done)) | (refine W_cF ?_ ?_; focus (simp only [evx,List.contains,List.elem,z2,z3,AV.unf,reduceIte,z23,boolD]; done))) <;> (try simp only [seqK])))
      exact ans_cut (v := .tuple [.d (.agg [.slice [], .slice [], .slice [], .slice [], .int .i64 0]), intD 1]) (by simp only [AV.unf,AV.mkAgg,AV.pures,readCells,z2,z3,z7,z8,z9,z10,z11,z13,z14,z15,Option.map,reduceIte,Nat.reduceAdd,z26,z51,resV, gS]; rfl) rfl ⟨rfl, rfl⟩
    | true =>
      rw [hg] at hgo
      have hm := good_mp hd h5 hg
      rw [parse_good h5 hg]
      have e1 := fun M => textsR_ev H.length M c kT hm
      have e2 := fun M => textsR_ev H.length M c kNt hm
      have e3 := fun M => textsR_ev H.length M c kS hm
      have e4 := fun M => textsR_ev H.length M c kNs hm
      have e5 := fun M => Get_ev H.length M c kLim hm
      simp only [hjd, textsV] at e1 e2 e3 e4
      unfold getV at e5
      simp only [hjd] at e5
      generalize textsJ (getJ c kT) = t1 at *
      generalize textsJ (getJ c kNt) = t2 at *
      generalize textsJ (getJ c kS) = t3 at *
      generalize textsJ (getJ c kNs) = t4 at *
      generalize getJ c kLim = v at *
      (iterate 3 ((first | refine W_sq ?_ | refine W_bk ?_ | refine W_ret ?_ | refine W_exit ?_ | refine W_skip ?_ | (apply W_rg; focus (intro _; simp only [evalR,runOps,stepOp,wanted,aop,put,unflag,z4,z5,forgetT]; (first | done | exact rfl))) | (refine W_cT ?_ ?_; focus (simp only [evx,List.contains,List.elem,z2,z3,AV.unf,reduceIte,z23,boolD]; done)) | (refine W_cF ?_ ?_; focus (simp only [evx,List.contains,List.elem,z2,z3,AV.unf,reduceIte,z23,boolD]; done))) <;> (try simp only [seqK])))
      (apply W_drw; focus (refine Evl.call ((hgo (J2 ++ [AObj.cells [.fslice [], .fslice [], .fslice [], .fslice [], .d (.int .i64 0)]]))) (Evl.all fun k e1 => ?_); simp (maxSteps := 100000000) only [evalR,runOps,stepOp,wanted,aop,evx,put,unflag,binV,isShift,unV,AV.unf,AV.mkAgg,AV.pures,readCells,List.contains,List.elem,z2,z3,z4,z5,z7,z8,z9,z10,z11,z13,z14,z15,Option.map,boolD,reduceIte,z23,forgetT,Nat.reduceAdd,Nat.reduceLeDiff,z25,z26,z29,z32,z51,g3, b_neq, f5, e1]; (first | done | exact rfl))) <;> (try simp only [seqK])
      (iterate 6 ((first | refine W_sq ?_ | refine W_bk ?_ | refine W_ret ?_ | refine W_exit ?_ | refine W_skip ?_ | (apply W_rg; focus (intro _; simp only [evalR,runOps,stepOp,wanted,aop,evx,put,unflag,z4,z5,forgetT]; (first | done | exact rfl))) | (refine W_cT ?_ ?_; focus (simp only [evx,List.contains,List.elem,z2,z3,AV.unf,reduceIte,z23]; done)) | (refine W_cF ?_ ?_; focus (simp only [evx,List.contains,List.elem,z2,z3,AV.unf,reduceIte,z23]; done))) <;> (try simp only [seqK])))
      refine W_region ?_; apply WO_take 1; (focus (intro _; simp only [runOps,stepOp,wanted,aop,evx,put,unflag,AV.unf,AV.mkAgg,AV.pures,readCells,List.contains,List.elem,z2,z3,z4,z5,z7,z8,z9,z10,z11,z13,z14,z15,Option.map,reduceIte,z23,Nat.reduceAdd,z26,z51,g3]; (first | done | exact rfl))); simp only [List.drop_succ_cons, List.drop_zero]; refine WO_call ?_; simp only [evx, List.map_cons, List.map_nil, List.contains, List.elem, List.getD_cons_succ, List.getD_cons_zero, reduceIte, Bool.false_eq_true, AV.unf]; refine Ev.fn (e1 _) ?_
      (apply WO_end; (focus (intro _; simp only [runOps,stepOp,wanted,aop,evx,put,unflag,AV.unf,AV.cells,D.cells,AV.isCell,D.isCell,splice,List.contains,List.elem,z2,z3,z4,z5,z6,z7,z8,z9,z11,z12,z13,z14,z15,z18,z19,z20,z21,Option.map,boolD,reduceIte,z23,Nat.reduceAdd,Nat.reduceLeDiff,Nat.reduceBEq,z25,z26,z29,z34,z46,z47,z48,ge2]; (first | done | exact rfl)))) <;> (try simp only [seqK,forgetT,z4,z5])
      (iterate 1 ((first | refine W_sq ?_ | refine W_bk ?_ | refine W_ret ?_ | refine W_exit ?_ | refine W_skip ?_ | (apply W_rg; focus (intro _; simp only [z0,srcC,AV.growable,AV.owned,evalC,evalR,runOps,stepOp,wanted,aop,evx,put,unflag,binV,nilEq,isShift,binStr,unV,AV.elems,AV.unf,AV.int?,AV.toD,AV.toDs,AV.mkAgg,AV.pures,AV.cells,D.cells,AV.isCell,D.isCell,readCells,readD,optInt,fill,splice,srcOf,z1,List.contains,List.elem,z2,z3,z4,z5,z6,z7,z8,z9,z10,z11,z12,z13,z14,z15,z16,z17,z18,z19,z20,z21,z22,Option.map,intD,boolD,bD,reduceIte,z23,z24,forgetT,Nat.reduceAdd,Nat.reduceLeDiff,Nat.reduceMul,Nat.reduceSub,Nat.reduceEqDiff,Nat.reduceBEq,Nat.reduceBNe,z25,z26,z27,z28,z29,z30,z31,z32,z33,z34,z35,z36,z37,z38,z39,z40,z41,z42,z43,z44,z45,z46,z47,z48,z49,z50,z51,z52,Int.reduceToNat,z53,z54,z55,z56,z57,z58,Int.reduceBEq,Int.reduceBNe,Int.reduceLT,Int.reduceLE,Int.reduceGT,Int.reduceGE,Int.reduceEq,z59,z60,z61,z62,List.reduceReplicate,z63,z64,z65,z66,z67,chunks]; (first | done | exact rfl))) | (refine W_cT ?_ ?_; focus (simp only [evx,List.contains,List.elem,z2,z3,AV.unf,reduceIte,z23,boolD]; done)) | (refine W_cF ?_ ?_; focus (simp only [evx,List.contains,List.elem,z2,z3,AV.unf,reduceIte,z23,boolD]; done))) <;> (try simp only [seqK,blockK,loopK,onlyK,forgetT,put,unflag,z4,z5,z2,z3,AV.unf,reduceIte,Nat.reduceEqDiff,Nat.reduceAdd])))
      refine W_region ?_; apply WO_take 1; (focus (intro _; simp only [runOps,stepOp,wanted,aop,evx,put,unflag,AV.unf,AV.mkAgg,AV.pures,readCells,List.contains,List.elem,z2,z3,z4,z5,z7,z8,z9,z10,z11,z13,z14,z15,Option.map,reduceIte,z23,Nat.reduceAdd,z26,z51,g3]; (first | done | exact rfl))); simp only [List.drop_succ_cons, List.drop_zero]; refine WO_call ?_; simp only [evx, List.map_cons, List.map_nil, List.contains, List.elem, List.getD_cons_succ, List.getD_cons_zero, reduceIte, Bool.false_eq_true, AV.unf]; refine Ev.fn (e2 _) ?_
      (apply WO_end; (focus (intro _; simp only [runOps,stepOp,wanted,aop,evx,put,unflag,AV.unf,AV.cells,D.cells,AV.isCell,D.isCell,splice,List.contains,List.elem,z2,z3,z4,z5,z6,z7,z8,z9,z10,z11,z12,z13,z14,z15,z18,z19,z20,z21,Option.map,boolD,reduceIte,z23,Nat.reduceAdd,Nat.reduceLeDiff,Nat.reduceBEq,z26,z29,z34,z46,z47,z48,ge2]; (first | done | exact rfl)))) <;> (try simp only [seqK,forgetT,z4,z5])
      (iterate 1 ((first | refine W_sq ?_ | refine W_bk ?_ | refine W_ret ?_ | refine W_exit ?_ | refine W_skip ?_ | (apply W_rg; focus (intro _; simp only [z0,srcC,AV.growable,AV.owned,evalC,evalR,runOps,stepOp,wanted,aop,evx,put,unflag,binV,nilEq,isShift,binStr,unV,AV.elems,AV.unf,AV.int?,AV.toD,AV.toDs,AV.mkAgg,AV.pures,AV.cells,D.cells,AV.isCell,D.isCell,readCells,readD,optInt,fill,splice,srcOf,z1,List.contains,List.elem,z2,z3,z4,z5,z6,z7,z8,z9,z10,z11,z12,z13,z14,z15,z16,z17,z18,z19,z20,z21,z22,Option.map,intD,boolD,bD,reduceIte,z23,z24,forgetT,Nat.reduceAdd,Nat.reduceLeDiff,Nat.reduceMul,Nat.reduceSub,Nat.reduceEqDiff,Nat.reduceBEq,Nat.reduceBNe,z25,z26,z27,z28,z29,z30,z31,z32,z33,z34,z35,z36,z37,z38,z39,z40,z41,z42,z43,z44,z45,z46,z47,z48,z49,z50,z51,z52,Int.reduceToNat,z53,z54,z55,z56,z57,z58,Int.reduceBEq,Int.reduceBNe,Int.reduceLT,Int.reduceLE,Int.reduceGT,Int.reduceGE,Int.reduceEq,z59,z60,z61,z62,List.reduceReplicate,z63,z64,z65,z66,z67,chunks]; (first | done | exact rfl))) | (refine W_cT ?_ ?_; focus (simp only [evx,List.contains,List.elem,z2,z3,AV.unf,reduceIte,z23,boolD]; done)) | (refine W_cF ?_ ?_; focus (simp only [evx,List.contains,List.elem,z2,z3,AV.unf,reduceIte,z23,boolD]; done))) <;> (try simp only [seqK,blockK,loopK,onlyK,forgetT,put,unflag,z4,z5,z2,z3,AV.unf,reduceIte,Nat.reduceEqDiff,Nat.reduceAdd])))
      refine W_region ?_; apply WO_take 1; (focus (intro _; simp only [runOps,stepOp,wanted,aop,evx,put,unflag,AV.unf,AV.mkAgg,AV.pures,readCells,List.contains,List.elem,z2,z3,z4,z5,z7,z8,z9,z10,z11,z13,z14,z15,Option.map,reduceIte,z23,Nat.reduceAdd,z26,z51,g3]; (first | done | exact rfl))); simp only [List.drop_succ_cons, List.drop_zero]; refine WO_call ?_; simp only [evx, List.map_cons, List.map_nil, List.contains, List.elem, List.getD_cons_succ, List.getD_cons_zero, reduceIte, Bool.false_eq_true, AV.unf]; refine Ev.fn (e3 _) ?_
      (apply WO_end; (focus (intro _; simp only [runOps,stepOp,wanted,aop,evx,put,unflag,AV.unf,AV.cells,D.cells,AV.isCell,D.isCell,splice,List.contains,List.elem,z2,z3,z4,z5,z6,z7,z8,z9,z10,z11,z12,z13,z14,z15,z18,z19,z20,z21,Option.map,boolD,reduceIte,z23,Nat.reduceAdd,Nat.reduceLeDiff,Nat.reduceBEq,z26,z29,z34,z46,z47,z48,ge2]; (first | done | exact rfl)))) <;> (try simp only [seqK,forgetT,z4,z5])
      (iterate 1 ((first | refine W_sq ?_ | refine W_bk ?_ | refine W_ret ?_ | refine W_exit ?_ | refine W_skip ?_ | (apply W_rg; focus (intro _; simp only [z0,srcC,AV.growable,AV.owned,evalC,evalR,runOps,stepOp,wanted,aop,evx,put,unflag,binV,nilEq,isShift,binStr,unV,AV.elems,AV.unf,AV.int?,AV.toD,AV.toDs,AV.mkAgg,AV.pures,AV.cells,D.cells,AV.isCell,D.isCell,readCells,readD,optInt,fill,splice,srcOf,z1,List.contains,List.elem,z2,z3,z4,z5,z6,z7,z8,z9,z10,z11,z12,z13,z14,z15,z16,z17,z18,z19,z20,z21,z22,Option.map,intD,boolD,bD,reduceIte,z23,z24,forgetT,Nat.reduceAdd,Nat.reduceLeDiff,Nat.reduceMul,Nat.reduceSub,Nat.reduceEqDiff,Nat.reduceBEq,Nat.reduceBNe,z25,z26,z27,z28,z29,z30,z31,z32,z33,z34,z35,z36,z37,z38,z39,z40,z41,z42,z43,z44,z45,z46,z47,z48,z49,z50,z51,z52,Int.reduceToNat,z53,z54,z55,z56,z57,z58,Int.reduceBEq,Int.reduceBNe,Int.reduceLT,Int.reduceLE,Int.reduceGT,Int.reduceGE,Int.reduceEq,z59,z60,z61,z62,List.reduceReplicate,z63,z64,z65,z66,z67,chunks]; (first | done | exact rfl))) | (refine W_cT ?_ ?_; focus (simp only [evx,List.contains,List.elem,z2,z3,AV.unf,reduceIte,z23,boolD]; done)) | (refine W_cF ?_ ?_; focus (simp only [evx,List.contains,List.elem,z2,z3,AV.unf,reduceIte,z23,boolD]; done))) <;> (try simp only [seqK,blockK,loopK,onlyK,forgetT,put,unflag,z4,z5,z2,z3,AV.unf,reduceIte,Nat.reduceEqDiff,Nat.reduceAdd])))
      refine W_region ?_; apply WO_take 1; (focus (intro _; simp only [runOps,stepOp,wanted,aop,evx,put,unflag,AV.unf,AV.mkAgg,AV.pures,readCells,List.contains,List.elem,z2,z3,z4,z5,z7,z8,z9,z10,z11,z13,z14,z15,Option.map,reduceIte,z23,Nat.reduceAdd,z26,z51,g3]; (first | done | exact rfl))); simp only [List.drop_succ_cons, List.drop_zero]; refine WO_call ?_; simp only [evx, List.map_cons, List.map_nil, List.contains, List.elem, List.getD_cons_succ, List.getD_cons_zero, reduceIte, Bool.false_eq_true, AV.unf]; refine Ev.fn (e4 _) ?_
      (apply WO_end; (focus (intro _; simp only [runOps,stepOp,wanted,aop,evx,put,unflag,AV.unf,AV.cells,D.cells,AV.isCell,D.isCell,splice,List.contains,List.elem,z2,z3,z4,z5,z6,z7,z8,z9,z10,z11,z12,z13,z14,z15,z18,z19,z20,z21,Option.map,boolD,reduceIte,z23,Nat.reduceAdd,Nat.reduceLeDiff,Nat.reduceBEq,z26,z29,z34,z46,z47,z48,ge2]; (first | done | exact rfl)))) <;> (try simp only [seqK,forgetT,z4,z5])
      (iterate 1 ((first | refine W_sq ?_ | refine W_bk ?_ | refine W_ret ?_ | refine W_exit ?_ | refine W_skip ?_ | (apply W_rg; focus (intro _; simp only [z0,srcC,AV.growable,AV.owned,evalC,evalR,runOps,stepOp,wanted,aop,evx,put,unflag,binV,nilEq,isShift,binStr,unV,AV.elems,AV.unf,AV.int?,AV.toD,AV.toDs,AV.mkAgg,AV.pures,AV.cells,D.cells,AV.isCell,D.isCell,readCells,readD,optInt,fill,splice,srcOf,z1,List.contains,List.elem,z2,z3,z4,z5,z6,z7,z8,z9,z10,z11,z12,z13,z14,z15,z16,z17,z18,z19,z20,z21,z22,Option.map,intD,boolD,bD,reduceIte,z23,z24,forgetT,Nat.reduceAdd,Nat.reduceLeDiff,Nat.reduceMul,Nat.reduceSub,Nat.reduceEqDiff,Nat.reduceBEq,Nat.reduceBNe,z25,z26,z27,z28,z29,z30,z31,z32,z33,z34,z35,z36,z37,z38,z39,z40,z41,z42,z43,z44,z45,z46,z47,z48,z49,z50,z51,z52,Int.reduceToNat,z53,z54,z55,z56,z57,z58,Int.reduceBEq,Int.reduceBNe,Int.reduceLT,Int.reduceLE,Int.reduceGT,Int.reduceGE,Int.reduceEq,z59,z60,z61,z62,List.reduceReplicate,z63,z64,z65,z66,z67,chunks]; (first | done | exact rfl))) | (refine W_cT ?_ ?_; focus (simp only [evx,List.contains,List.elem,z2,z3,AV.unf,reduceIte,z23,boolD]; done)) | (refine W_cF ?_ ?_; focus (simp only [evx,List.contains,List.elem,z2,z3,AV.unf,reduceIte,z23,boolD]; done))) <;> (try simp only [seqK,blockK,loopK,onlyK,forgetT,put,unflag,z4,z5,z2,z3,AV.unf,reduceIte,Nat.reduceEqDiff,Nat.reduceAdd])))
      obtain ⟨M, hM⟩ : ∃ M, J2 ++ [AObj.cells (flA (t1.getD []) (t2.getD []) (t3.getD []) (t4.getD []) 0)] = M := ⟨_, rfl⟩
      have gM : M[H.length]? = some (.cells (jC c)) := by rw [← hM]; exact g3 _
      have gMr : M[J1.length]? = some (.cells [.fslice [], .fslice [], .fslice [], .fslice [], intD 0]) := by rw [← hM]; exact g3r _
      have gMf : M[J2.length]? = some (.cells (flA (t1.getD []) (t2.getD []) (t3.getD []) (t4.getD []) 0)) := by rw [← hM]; exact get_last _ _
      have lM : M.length = H.length + 3 := by rw [← hM]; simp [l2]
      have ge3 : H.length ≤ M.length := by omega
      have e5 := e5 M
      rw [hM]
      cases v with
      | none =>
        simp only [Option.getD_none, Option.isSome_none, zero_d] at e5
        obtain ⟨N, hN⟩ : ∃ N, M ++ [AObj.cells [.d (.int .i64 0), .d (.int .i64 0), .d (.str []), .d (.slice []), .d (.slice [])]] = N := ⟨_, rfl⟩
        have gN : N[M.length]? = some (.cells [.d (.int .i64 0), .d (.int .i64 0), .d (.str []), .d (.slice []), .d (.slice [])]) := by rw [← hN]; exact get_last _ _
        have gNr : N[J1.length]? = some (.cells [.fslice [], .fslice [], .fslice [], .fslice [], intD 0]) := by rw [← hN]; exact get_more _ gMr
        have gNf : N[J2.length]? = some (.cells (flA (t1.getD []) (t2.getD []) (t3.getD []) (t4.getD []) 0)) := by rw [← hN]; exact get_more _ gMf
        have lN : N.length = H.length + 4 := by rw [← hN]; simp [lM]
        have gS2 : ∀ o : AObj, (N.set J1.length o)[J1.length]? = some o := fun o => List.getElem?_set_self (by omega)
        have hl : limJ none = some 0 := rfl
        rw [hl]
        refine W_region ?_; apply WO_take 1; (focus (intro _; simp only [runOps,stepOp,wanted,aop,evx,put,unflag,AV.unf,AV.mkAgg,AV.pures,readCells,List.contains,List.elem,z2,z3,z4,z5,z7,z8,z9,z10,z11,z13,z14,z15,Option.map,reduceIte,z23,Nat.reduceAdd,z26,z51,gM]; (first | done | exact rfl))); simp only [List.drop_succ_cons, List.drop_zero]; refine WO_call ?_; simp only [evx, List.map_cons, List.map_nil, List.contains, List.elem, List.getD_cons_succ, List.getD_cons_zero, reduceIte, Bool.false_eq_true, AV.unf]; refine Ev.fn e5 ?_
        (apply WO_end; (focus (intro _; simp only [runOps,stepOp,wanted,aop,evx,put,unflag,AV.unf,AV.cells,D.cells,AV.isCell,D.isCell,splice,List.contains,List.elem,z2,z3,z4,z5,z6,z7,z8,z9,z11,z12,z13,z14,z15,z18,z19,z20,z22,Option.map,boolD,reduceIte,z23,Nat.reduceAdd,Nat.reduceBEq,z26,z29,z34,z46,z47,z48,z51,ge3, hN]; (first | done | exact rfl)))) <;> (try simp only [seqK,forgetT,z4,z5])
        (iterate 6 ((first | refine W_sq ?_ | refine W_bk ?_ | refine W_ret ?_ | refine W_exit ?_ | refine W_skip ?_ | (apply W_rg; focus (intro _; simp only [evalR,runOps,stepOp,wanted,aop,evx,put,unflag,AV.unf,List.contains,List.elem,z2,z3,z4,z5,reduceIte,z23,forgetT]; (first | done | exact rfl))) | (refine W_cT ?_ ?_; focus (simp only [evx,List.contains,List.elem,z2,z3,AV.unf,reduceIte,z23]; done)) | (refine W_cF ?_ ?_; focus (simp only [evx,List.contains,List.elem,z2,z3,AV.unf,reduceIte,z23]; done))) <;> (try simp only [seqK])))
        cases t1 with
        | none =>
          rw [join_none (.inl rfl), bad]
          (repeat ((first | refine W_sq ?_ | refine W_bk ?_ | refine W_ret ?_ | refine W_exit ?_ | refine W_skip ?_ | (apply W_rg; focus (intro _; simp only [evalR,runOps,stepOp,wanted,aop,evx,put,unflag,unV,AV.unf,AV.mkAgg,AV.pures,AV.cells,AV.isCell,D.isCell,fill,splice,List.contains,List.elem,z2,z3,z4,z5,z9,z11,z12,z13,z14,z15,z18,z19,z20,z22,Option.map,intD,boolD,reduceIte,z23,forgetT,Nat.reduceAdd,Nat.reduceBEq,z26,z29,z31,z34,z44,z48,z51,Option.isSome_none, gNr, ge1]; (first | done | exact rfl))) | (refine W_cT ?_ ?_; focus (simp only [evx,List.contains,List.elem,z2,z3,AV.unf,reduceIte,z23]; done)) | (refine W_cF ?_ ?_; focus (simp only [evx,List.contains,List.elem,z2,z3,AV.unf,reduceIte,z23,boolD]; done))) <;> (try simp only [seqK])))
          exact ans_cut (v := .tuple [.d (.agg [.slice [], .slice [], .slice [], .slice [], .int .i64 0]), intD 1]) (by simp only [AV.unf,AV.mkAgg,AV.pures,readCells,z2,z3,z7,z8,z9,z10,z11,z13,z14,z15,Option.map,reduceIte,Nat.reduceAdd,z26,z51,resV, gS2]; rfl) rfl ⟨rfl, rfl⟩
        | some a =>
          cases t2 with
          | none =>
            rw [join_none (.inr (.inl rfl)), bad]
            (repeat ((first | refine W_sq ?_ | refine W_bk ?_ | refine W_ret ?_ | refine W_exit ?_ | refine W_skip ?_ | (apply W_rg; focus (intro _; simp only [evalR,runOps,stepOp,wanted,aop,evx,put,unflag,unV,AV.unf,AV.mkAgg,AV.pures,AV.cells,AV.isCell,D.isCell,fill,splice,List.contains,List.elem,z2,z3,z4,z5,z9,z11,z12,z13,z14,z15,z18,z19,z20,z22,Option.map,intD,boolD,reduceIte,z23,forgetT,Nat.reduceAdd,Nat.reduceBEq,z26,z29,z31,z32,z34,z44,z48,z51,Option.isSome_none, Option.isSome_some, gNr, ge1]; (first | done | exact rfl))) | (refine W_cT ?_ ?_; focus (simp only [evx,List.contains,List.elem,z2,z3,AV.unf,reduceIte,z23]; done)) | (refine W_cF ?_ ?_; focus (simp only [evx,List.contains,List.elem,z2,z3,AV.unf,reduceIte,z23,boolD]; done))) <;> (try simp only [seqK])))
            exact ans_cut (v := .tuple [.d (.agg [.slice [], .slice [], .slice [], .slice [], .int .i64 0]), intD 1]) (by simp only [AV.unf,AV.mkAgg,AV.pures,readCells,z2,z3,z7,z8,z9,z10,z11,z13,z14,z15,Option.map,reduceIte,Nat.reduceAdd,z26,z51,resV, gS2]; rfl) rfl ⟨rfl, rfl⟩
          | some b =>
            cases t3 with
            | none =>
              rw [join_none (.inr (.inr (.inl rfl))), bad]
              (repeat ((first | refine W_sq ?_ | refine W_bk ?_ | refine W_ret ?_ | refine W_exit ?_ | refine W_skip ?_ | (apply W_rg; focus (intro _; simp only [evalR,runOps,stepOp,wanted,aop,evx,put,unflag,unV,AV.unf,AV.mkAgg,AV.pures,AV.cells,AV.isCell,D.isCell,fill,splice,List.contains,List.elem,z2,z3,z4,z5,z9,z11,z12,z13,z14,z15,z18,z19,z20,z22,Option.map,intD,boolD,reduceIte,z23,forgetT,Nat.reduceAdd,Nat.reduceBEq,z26,z29,z31,z32,z34,z44,z48,z51,Option.isSome_none, Option.isSome_some, gNr, ge1]; (first | done | exact rfl))) | (refine W_cT ?_ ?_; focus (simp only [evx,List.contains,List.elem,z2,z3,AV.unf,reduceIte,z23]; done)) | (refine W_cF ?_ ?_; focus (simp only [evx,List.contains,List.elem,z2,z3,AV.unf,reduceIte,z23,boolD]; done))) <;> (try simp only [seqK])))
              exact ans_cut (v := .tuple [.d (.agg [.slice [], .slice [], .slice [], .slice [], .int .i64 0]), intD 1]) (by simp only [AV.unf,AV.mkAgg,AV.pures,readCells,z2,z3,z7,z8,z9,z10,z11,z13,z14,z15,Option.map,reduceIte,Nat.reduceAdd,z26,z51,resV, gS2]; rfl) rfl ⟨rfl, rfl⟩
            | some e =>
              cases t4 with
              | none =>
                rw [join_none (.inr (.inr (.inr (.inl rfl)))), bad]
                (repeat ((first | refine W_sq ?_ | refine W_bk ?_ | refine W_ret ?_ | refine W_exit ?_ | refine W_skip ?_ | (apply W_rg; focus (intro _; simp only [evalR,runOps,stepOp,wanted,aop,evx,put,unflag,unV,AV.unf,AV.mkAgg,AV.pures,AV.cells,AV.isCell,D.isCell,fill,splice,List.contains,List.elem,z2,z3,z4,z5,z9,z11,z12,z13,z14,z15,z18,z19,z20,z22,Option.map,intD,boolD,reduceIte,z23,forgetT,Nat.reduceAdd,Nat.reduceBEq,z26,z29,z31,z32,z34,z44,z48,z51,Option.isSome_none, Option.isSome_some, gNr, ge1]; (first | done | exact rfl))) | (refine W_cT ?_ ?_; focus (simp only [evx,List.contains,List.elem,z2,z3,AV.unf,reduceIte,z23]; done)) | (refine W_cF ?_ ?_; focus (simp only [evx,List.contains,List.elem,z2,z3,AV.unf,reduceIte,z23,boolD]; done))) <;> (try simp only [seqK])))
                exact ans_cut (v := .tuple [.d (.agg [.slice [], .slice [], .slice [], .slice [], .int .i64 0]), intD 1]) (by simp only [AV.unf,AV.mkAgg,AV.pures,readCells,z2,z3,z7,z8,z9,z10,z11,z13,z14,z15,Option.map,reduceIte,Nat.reduceAdd,z26,z51,resV, gS2]; rfl) rfl ⟨rfl, rfl⟩
              | some g =>
                have hp : parseV (joinP (some a) (some b) (some e) (some g) (some 0)) = .tuple [.d (.agg [sD a, sD b, sD e, sD g, .int .i64 0]), intD 0] := rfl
                rw [hp]
                simp only [Option.getD_some] at gNf
                (repeat ((first | refine W_sq ?_ | refine W_bk ?_ | refine W_ret ?_ | refine W_exit ?_ | refine W_skip ?_ | (apply W_rg; focus (intro _; simp only [evalR,runOps,stepOp,wanted,aop,evx,put,unflag,unV,AV.unf,AV.mkAgg,AV.pures,AV.cells,D.cells,AV.isCell,D.isCell,readCells,splice,List.contains,List.elem,z2,z3,z4,z5,z7,z8,z9,z10,z11,z12,z13,z14,z15,z18,z19,z20,z22,Option.map,intD,boolD,reduceIte,z23,forgetT,Nat.reduceAdd,Nat.reduceBEq,z26,z29,z32,z34,z45,z48,z51,Option.isSome_some, gNr, gNf, ge1]; (first | done | exact rfl))) | (refine W_cT ?_ ?_; focus (simp only [evx,List.contains,List.elem,z2,z3,AV.unf,reduceIte,z23]; done)) | (refine W_cF ?_ ?_; focus (simp only [evx,List.contains,List.elem,z2,z3,AV.unf,reduceIte,z23]; done))) <;> (try simp only [seqK])))
                exact ans_cut (v := .tuple [.d (.agg [sD a, sD b, sD e, sD g, .int .i64 0]), intD 0]) (by simp only [AV.unf,AV.mkAgg,AV.pures,readCells,z2,z3,z7,z8,z9,z10,z11,z13,z14,z15,Option.map,reduceIte,Nat.reduceAdd,z26,z51,resV, gS2]; rfl) rfl ⟨rfl, rfl⟩
      | some v =>
        have hvd := jd v
        simp only [Option.getD_some, Option.isSome_some, hvd] at e5
        obtain ⟨N, hN⟩ : ∃ N, M ++ [AObj.cells (jC v)] = N := ⟨_, rfl⟩
        have gN : N[M.length]? = some (.cells (jC v)) := by rw [← hN]; exact get_last _ _
        have gNr : N[J1.length]? = some (.cells [.fslice [], .fslice [], .fslice [], .fslice [], intD 0]) := by rw [← hN]; exact get_more _ gMr
        have gNf : N[J2.length]? = some (.cells (flA (t1.getD []) (t2.getD []) (t3.getD []) (t4.getD []) 0)) := by rw [← hN]; exact get_more _ gMf
        have lN : N.length = H.length + 4 := by rw [← hN]; simp [lM]
        obtain ⟨O, hO⟩ : ∃ O, N.set J2.length (AObj.cells (flA (t1.getD []) (t2.getD []) (t3.getD []) (t4.getD []) v.n)) = O := ⟨_, rfl⟩
        have gO : O[M.length]? = some (.cells (jC v)) := by rw [← hO, List.getElem?_set_ne (by omega)]; exact gN
        have gOr : O[J1.length]? = some (.cells [.fslice [], .fslice [], .fslice [], .fslice [], intD 0]) := by rw [← hO, List.getElem?_set_ne (by omega)]; exact gNr
        have gOf : O[J2.length]? = some (.cells (flA (t1.getD []) (t2.getD []) (t3.getD []) (t4.getD []) v.n)) := by rw [← hO]; exact List.getElem?_set_self (by omega)
        have lO : O.length = H.length + 4 := by rw [← hO]; simp [lN]
        have gS2 : ∀ o : AObj, (O.set J1.length o)[J1.length]? = some o := fun o => List.getElem?_set_self (by omega)
        have hl : limJ (some v) = if v.k = 2 ∧ 0 ≤ v.n ∧ v.n ≤ 100 then some v.n else none := rfl
        rw [hl]
        refine W_region ?_; apply WO_take 1; (focus (intro _; simp only [runOps,stepOp,wanted,aop,evx,put,unflag,AV.unf,AV.mkAgg,AV.pures,readCells,List.contains,List.elem,z2,z3,z4,z5,z7,z8,z9,z10,z11,z13,z14,z15,Option.map,reduceIte,z23,Nat.reduceAdd,z26,z51,gM]; (first | done | exact rfl))); simp only [List.drop_succ_cons, List.drop_zero]; refine WO_call ?_; simp only [evx, List.map_cons, List.map_nil, List.contains, List.elem, List.getD_cons_succ, List.getD_cons_zero, reduceIte, Bool.false_eq_true, AV.unf]; refine Ev.fn e5 ?_
        (apply WO_end; (focus (intro _; simp only [runOps,stepOp,wanted,aop,evx,put,unflag,AV.unf,AV.cells,D.cells,AV.isCell,D.isCell,splice,List.contains,List.elem,z2,z3,z4,z5,z6,z7,z8,z9,z11,z12,z13,z14,z15,z18,z19,z20,z22,Option.map,boolD,reduceIte,z23,Nat.reduceAdd,Nat.reduceBEq,z26,z29,z34,z46,z47,z48,z51,ge3, hN]; (first | done | exact rfl)))) <;> (try simp only [seqK,forgetT,z4,z5])
        (iterate 6 ((first | refine W_sq ?_ | refine W_bk ?_ | refine W_ret ?_ | refine W_exit ?_ | refine W_skip ?_ | (apply W_rg; focus (intro _; simp only [evalR,runOps,stepOp,wanted,aop,evx,put,unflag,AV.unf,AV.mkAgg,AV.pures,AV.cells,D.cells,AV.isCell,D.isCell,readCells,splice,List.contains,List.elem,z2,z3,z4,z5,z6,z7,z8,z9,z10,z11,z12,z13,z14,z15,z18,z19,z20,z21,z22,Option.map,reduceIte,z23,forgetT,Nat.reduceAdd,Nat.reduceLeDiff,Nat.reduceBEq,z26,z29,z34,z48,z51,gN, gNf, ge2, hO]; (first | done | exact rfl))) | (refine W_cT ?_ ?_; focus (simp only [evx,List.contains,List.elem,z2,z3,AV.unf,reduceIte,z23]; done)) | (refine W_cF ?_ ?_; focus (simp only [evx,List.contains,List.elem,z2,z3,AV.unf,reduceIte,z23,boolD]; done))) <;> (try simp only [seqK])))
        cases t1 with
        | none =>
          rw [join_none (.inl rfl), bad]
          (repeat ((first | refine W_sq ?_ | refine W_bk ?_ | refine W_ret ?_ | refine W_exit ?_ | refine W_skip ?_ | (apply W_rg; focus (intro _; simp only [evalR,runOps,stepOp,wanted,aop,evx,put,unflag,unV,AV.unf,AV.mkAgg,AV.pures,AV.cells,AV.isCell,D.isCell,fill,splice,List.contains,List.elem,z2,z3,z4,z5,z9,z11,z12,z13,z14,z15,z18,z19,z20,z22,Option.map,intD,boolD,reduceIte,z23,forgetT,Nat.reduceAdd,Nat.reduceBEq,z26,z29,z31,z34,z44,z48,z51,Option.isSome_none, gOr, ge1]; (first | done | exact rfl))) | (refine W_cT ?_ ?_; focus (simp only [evx,List.contains,List.elem,z2,z3,AV.unf,reduceIte,z23]; done)) | (refine W_cF ?_ ?_; focus (simp only [evx,List.contains,List.elem,z2,z3,AV.unf,reduceIte,z23,boolD]; done))) <;> (try simp only [seqK])))
          exact ans_cut (v := .tuple [.d (.agg [.slice [], .slice [], .slice [], .slice [], .int .i64 0]), intD 1]) (by simp only [AV.unf,AV.mkAgg,AV.pures,readCells,z2,z3,z7,z8,z9,z10,z11,z13,z14,z15,Option.map,reduceIte,Nat.reduceAdd,z26,z51,resV, gS2]; rfl) rfl ⟨rfl, rfl⟩
        | some a =>
          cases t2 with
          | none =>
            rw [join_none (.inr (.inl rfl)), bad]
            (repeat ((first | refine W_sq ?_ | refine W_bk ?_ | refine W_ret ?_ | refine W_exit ?_ | refine W_skip ?_ | (apply W_rg; focus (intro _; simp only [evalR,runOps,stepOp,wanted,aop,evx,put,unflag,unV,AV.unf,AV.mkAgg,AV.pures,AV.cells,AV.isCell,D.isCell,fill,splice,List.contains,List.elem,z2,z3,z4,z5,z9,z11,z12,z13,z14,z15,z18,z19,z20,z22,Option.map,intD,boolD,reduceIte,z23,forgetT,Nat.reduceAdd,Nat.reduceBEq,z26,z29,z31,z32,z34,z44,z48,z51,Option.isSome_none, Option.isSome_some, gOr, ge1]; (first | done | exact rfl))) | (refine W_cT ?_ ?_; focus (simp only [evx,List.contains,List.elem,z2,z3,AV.unf,reduceIte,z23]; done)) | (refine W_cF ?_ ?_; focus (simp only [evx,List.contains,List.elem,z2,z3,AV.unf,reduceIte,z23,boolD]; done))) <;> (try simp only [seqK])))
            exact ans_cut (v := .tuple [.d (.agg [.slice [], .slice [], .slice [], .slice [], .int .i64 0]), intD 1]) (by simp only [AV.unf,AV.mkAgg,AV.pures,readCells,z2,z3,z7,z8,z9,z10,z11,z13,z14,z15,Option.map,reduceIte,Nat.reduceAdd,z26,z51,resV, gS2]; rfl) rfl ⟨rfl, rfl⟩
          | some b =>
            cases t3 with
            | none =>
              rw [join_none (.inr (.inr (.inl rfl))), bad]
              (repeat ((first | refine W_sq ?_ | refine W_bk ?_ | refine W_ret ?_ | refine W_exit ?_ | refine W_skip ?_ | (apply W_rg; focus (intro _; simp only [evalR,runOps,stepOp,wanted,aop,evx,put,unflag,unV,AV.unf,AV.mkAgg,AV.pures,AV.cells,AV.isCell,D.isCell,fill,splice,List.contains,List.elem,z2,z3,z4,z5,z9,z11,z12,z13,z14,z15,z18,z19,z20,z22,Option.map,intD,boolD,reduceIte,z23,forgetT,Nat.reduceAdd,Nat.reduceBEq,z26,z29,z31,z32,z34,z44,z48,z51,Option.isSome_none, Option.isSome_some, gOr, ge1]; (first | done | exact rfl))) | (refine W_cT ?_ ?_; focus (simp only [evx,List.contains,List.elem,z2,z3,AV.unf,reduceIte,z23]; done)) | (refine W_cF ?_ ?_; focus (simp only [evx,List.contains,List.elem,z2,z3,AV.unf,reduceIte,z23,boolD]; done))) <;> (try simp only [seqK])))
              exact ans_cut (v := .tuple [.d (.agg [.slice [], .slice [], .slice [], .slice [], .int .i64 0]), intD 1]) (by simp only [AV.unf,AV.mkAgg,AV.pures,readCells,z2,z3,z7,z8,z9,z10,z11,z13,z14,z15,Option.map,reduceIte,Nat.reduceAdd,z26,z51,resV, gS2]; rfl) rfl ⟨rfl, rfl⟩
            | some e =>
              cases t4 with
              | none =>
                rw [join_none (.inr (.inr (.inr (.inl rfl)))), bad]
                (repeat ((first | refine W_sq ?_ | refine W_bk ?_ | refine W_ret ?_ | refine W_exit ?_ | refine W_skip ?_ | (apply W_rg; focus (intro _; simp only [evalR,runOps,stepOp,wanted,aop,evx,put,unflag,unV,AV.unf,AV.mkAgg,AV.pures,AV.cells,AV.isCell,D.isCell,fill,splice,List.contains,List.elem,z2,z3,z4,z5,z9,z11,z12,z13,z14,z15,z18,z19,z20,z22,Option.map,intD,boolD,reduceIte,z23,forgetT,Nat.reduceAdd,Nat.reduceBEq,z26,z29,z31,z32,z34,z44,z48,z51,Option.isSome_none, Option.isSome_some, gOr, ge1]; (first | done | exact rfl))) | (refine W_cT ?_ ?_; focus (simp only [evx,List.contains,List.elem,z2,z3,AV.unf,reduceIte,z23]; done)) | (refine W_cF ?_ ?_; focus (simp only [evx,List.contains,List.elem,z2,z3,AV.unf,reduceIte,z23,boolD]; done))) <;> (try simp only [seqK])))
                exact ans_cut (v := .tuple [.d (.agg [.slice [], .slice [], .slice [], .slice [], .int .i64 0]), intD 1]) (by simp only [AV.unf,AV.mkAgg,AV.pures,readCells,z2,z3,z7,z8,z9,z10,z11,z13,z14,z15,Option.map,reduceIte,Nat.reduceAdd,z26,z51,resV, gS2]; rfl) rfl ⟨rfl, rfl⟩
              | some g =>
                simp only [Option.getD_some] at gOf
                by_cases h2 : v.k = 2
                · have f2 : (v.k != 2) = false := by rw [h2]; rfl
                  by_cases h3 : v.n < 0
                  · have f3 : (v.n < 0) = True := eq_true h3
                    rw [if_neg (by omega), join_none (.inr (.inr (.inr (.inr rfl)))), bad]
                    (repeat ((first | refine W_sq ?_ | refine W_bk ?_ | refine W_ret ?_ | refine W_exit ?_ | refine W_skip ?_ | (apply W_rg; focus (intro _; simp only [evalR,runOps,stepOp,wanted,aop,evx,put,unflag,binV,isShift,unV,AV.unf,AV.mkAgg,AV.pures,AV.cells,AV.isCell,D.isCell,readCells,fill,splice,List.contains,List.elem,z2,z3,z4,z5,z6,z7,z8,z9,z10,z11,z12,z13,z14,z15,z18,z19,z20,z22,Option.map,intD,boolD,reduceIte,z23,forgetT,Nat.reduceAdd,Nat.reduceLeDiff,Nat.reduceBEq,z25,z26,z29,z32,z34,z42,z44,z48,z51,Option.isSome_some, gO, gOr, ge1, b_neq, b_lss, f2, f3]; (first | done | exact rfl))) | (refine W_cT ?_ ?_; focus (simp only [evx,List.contains,List.elem,z2,z3,AV.unf,reduceIte,z23]; done)) | (refine W_cF ?_ ?_; focus (simp only [evx,List.contains,List.elem,z2,z3,AV.unf,reduceIte,z23,boolD]; done))) <;> (try simp only [seqK])))
                    exact ans_cut (v := .tuple [.d (.agg [.slice [], .slice [], .slice [], .slice [], .int .i64 0]), intD 1]) (by simp only [AV.unf,AV.mkAgg,AV.pures,readCells,z2,z3,z7,z8,z9,z10,z11,z13,z14,z15,Option.map,reduceIte,Nat.reduceAdd,z26,z51,resV, gS2]; rfl) rfl ⟨rfl, rfl⟩
                  · have f3 : (v.n < 0) = False := eq_false h3
                    by_cases h4 : v.n > 100
                    · have f4 : (v.n > 100) = True := eq_true h4
                      rw [if_neg (by omega), join_none (.inr (.inr (.inr (.inr rfl)))), bad]
                      (repeat ((first | refine W_sq ?_ | refine W_bk ?_ | refine W_ret ?_ | refine W_exit ?_ | refine W_skip ?_ | (apply W_rg; focus (intro _; simp only [evalR,runOps,stepOp,wanted,aop,evx,put,unflag,binV,isShift,unV,AV.unf,AV.mkAgg,AV.pures,AV.cells,AV.isCell,D.isCell,readCells,fill,splice,List.contains,List.elem,z2,z3,z4,z5,z6,z7,z8,z9,z10,z11,z12,z13,z14,z15,z18,z19,z20,z22,Option.map,intD,boolD,reduceIte,z23,forgetT,Nat.reduceAdd,Nat.reduceLeDiff,Nat.reduceBEq,z25,z26,z29,z32,z34,z42,z43,z48,z51,Option.isSome_some, gO, gOr, ge1, b_neq, b_lss, b_gtr, f2, f3, f4]; (first | done | exact rfl))) | (refine W_cT ?_ ?_; focus (simp only [evx,List.contains,List.elem,z2,z3,AV.unf,reduceIte,z23]; done)) | (refine W_cF ?_ ?_; focus (simp only [evx,List.contains,List.elem,z2,z3,AV.unf,reduceIte,z23,boolD]; done))) <;> (try simp only [seqK])))
                      exact ans_cut (v := .tuple [.d (.agg [.slice [], .slice [], .slice [], .slice [], .int .i64 0]), intD 1]) (by simp only [AV.unf,AV.mkAgg,AV.pures,readCells,z2,z3,z7,z8,z9,z10,z11,z13,z14,z15,Option.map,reduceIte,Nat.reduceAdd,z26,z51,resV, gS2]; rfl) rfl ⟨rfl, rfl⟩
                    · have f4 : (v.n > 100) = False := eq_false h4
                      rw [if_pos (by omega)]
                      have hp : parseV (joinP (some a) (some b) (some e) (some g) (some v.n)) = .tuple [.d (.agg [sD a, sD b, sD e, sD g, .int .i64 v.n]), intD 0] := rfl
                      rw [hp]
                      (repeat ((first | refine W_sq ?_ | refine W_bk ?_ | refine W_ret ?_ | refine W_exit ?_ | refine W_skip ?_ | (apply W_rg; focus (intro _; simp only [evalR,runOps,stepOp,wanted,aop,evx,put,unflag,binV,isShift,unV,AV.unf,AV.mkAgg,AV.pures,AV.cells,D.cells,AV.isCell,D.isCell,readCells,splice,List.contains,List.elem,z2,z3,z4,z5,z6,z7,z8,z9,z10,z11,z12,z13,z14,z15,z18,z19,z20,z22,Option.map,intD,boolD,reduceIte,z23,forgetT,Nat.reduceAdd,Nat.reduceLeDiff,Nat.reduceBEq,z25,z26,z29,z32,z34,z43,z48,z51,Option.isSome_some, gO, gOr, gOf, ge1, b_neq, b_lss, b_gtr, f2, f3, f4]; (first | done | exact rfl))) | (refine W_cT ?_ ?_; focus (simp only [evx,List.contains,List.elem,z2,z3,AV.unf,reduceIte,z23]; done)) | (refine W_cF ?_ ?_; focus (simp only [evx,List.contains,List.elem,z2,z3,AV.unf,reduceIte,z23]; done))) <;> (try simp only [seqK])))
                      exact ans_cut (v := .tuple [.d (.agg [sD a, sD b, sD e, sD g, .int .i64 v.n]), intD 0]) (by simp only [AV.unf,AV.mkAgg,AV.pures,readCells,z2,z3,z7,z8,z9,z10,z11,z13,z14,z15,Option.map,reduceIte,Nat.reduceAdd,z26,z51,resV, gS2]; rfl) rfl ⟨rfl, rfl⟩
                · have f2 : (v.k != 2) = true := by simpa using h2
                  rw [if_neg (fun h => h2 h.1), join_none (.inr (.inr (.inr (.inr rfl)))), bad]
                  (repeat ((first | refine W_sq ?_ | refine W_bk ?_ | refine W_ret ?_ | refine W_exit ?_ | refine W_skip ?_ | (apply W_rg; focus (intro _; simp only [evalR,runOps,stepOp,wanted,aop,evx,put,unflag,binV,isShift,unV,AV.unf,AV.mkAgg,AV.pures,AV.cells,AV.isCell,D.isCell,readCells,fill,splice,List.contains,List.elem,z2,z3,z4,z5,z7,z8,z9,z10,z11,z12,z13,z14,z15,z18,z19,z20,z22,Option.map,intD,boolD,reduceIte,z23,forgetT,Nat.reduceAdd,Nat.reduceLeDiff,Nat.reduceBEq,z25,z26,z29,z32,z34,z44,z48,z51,Option.isSome_some, gO, gOr, ge1, b_neq, f2]; (first | done | exact rfl))) | (refine W_cT ?_ ?_; focus (simp only [evx,List.contains,List.elem,z2,z3,AV.unf,reduceIte,z23]; done)) | (refine W_cF ?_ ?_; focus (simp only [evx,List.contains,List.elem,z2,z3,AV.unf,reduceIte,z23,boolD]; done))) <;> (try simp only [seqK])))
                  exact ans_cut (v := .tuple [.d (.agg [.slice [], .slice [], .slice [], .slice [], .int .i64 0]), intD 1]) (by simp only [AV.unf,AV.mkAgg,AV.pures,readCells,z2,z3,z7,z8,z9,z10,z11,z13,z14,z15,Option.map,reduceIte,Nat.reduceAdd,z26,z51,resV, gS2]; rfl) rfl ⟨rfl, rfl⟩
  · have f5 : (c.k != 5) = true := by simpa using h5
    have hp : parseJ c = none := by unfold parseJ; rw [if_neg (fun h => h5 h.1)]
    rw [hp, bad]
    (repeat ((first | refine W_sq ?_ | refine W_bk ?_ | refine W_ret ?_ | refine W_exit ?_ | refine W_skip ?_ | (apply W_rg; focus (intro _; simp only [evalR,runOps,stepOp,wanted,aop,evx,put,unflag,binV,isShift,AV.unf,AV.mkAgg,AV.pures,AV.cells,D.cells,AV.isCell,D.isCell,readCells,splice,List.contains,List.elem,z2,z3,z4,z5,z7,z8,z9,z10,z11,z12,z13,z14,z15,z18,z19,z20,z22,Option.map,intD,reduceIte,z23,forgetT,Nat.reduceAdd,Nat.reduceLeDiff,Nat.reduceBEq,z25,z26,z29,z34,z44,z46,z48,z51,g3, g3r, b_neq, f5, ge1]; (first | done | exact rfl))) | (refine W_cT ?_ ?_; focus (simp only [evx,List.contains,List.elem,z2,z3,AV.unf,reduceIte,z23]; done)) | (refine W_cF ?_ ?_; focus (simp only [evx,List.contains,List.elem,z2,z3,AV.unf,reduceIte,z23,boolD]; done))) <;> (try simp only [seqK])))
    exact ans_cut (v := .tuple [.d (.agg [.slice [], .slice [], .slice [], .slice [], .int .i64 0]), intD 1]) (by simp only [AV.unf,AV.mkAgg,AV.pures,readCells,z2,z3,z7,z8,z9,z10,z11,z13,z14,z15,Option.map,reduceIte,Nat.reduceAdd,z26,z51,resV, gS]; rfl) rfl ⟨rfl, rfl⟩

end Go.Proofs.YtoimlfaiibadgaaDoor
