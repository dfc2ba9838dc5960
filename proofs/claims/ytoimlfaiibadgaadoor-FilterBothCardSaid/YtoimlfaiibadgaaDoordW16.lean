/- Rows put one behind another, as Go's library does it, walked. (NOBIN: the arithmetic of numbers is not unfolded.) -/
import Derived.Test.YtoimlfaiibadgaaDoordCode
import Derived.Test.YtoimlfaiibadgaaDoordK1
import Derived.Test.YtoimlfaiibadgaaDoordM4
set_option linter.unusedSimpArgs false
set_option linter.unusedVariables false
set_option linter.all false
set_option maxRecDepth 100000
namespace Go.Proofs.YtoimlfaiibadgaaDoor
open Go Go.Abs Go.Lib

theorem grow_ev (lim : Nat) (H : AHeap) (n : Nat) (hn : n ≤ 1000000) : Ev X 57 lim [.fslice [], intD n] H (if n = 0 then .fslice [] else .oslice H.length 0 0 n 1) (if n = 0 then H else H ++ [.cells (List.replicate n (.d (.str [])))]) :=
  Fn.ev (ev_mk (k0 := 1) fun k hk => by
    obtain ⟨k, rfl⟩ : ∃ p, k = p + 1 := ⟨k - 1, by omega⟩
    show growF 16 (.d (.str [])) lim [.fslice [], intD n] H = _
    unfold growF
    simp only
    rw [if_pos (by omega)]
    by_cases h : n = 0
    · subst h; simp
    · rw [if_neg (by omega), if_neg h, if_neg h]; simp)

abbrev ssD (l : List (List Tx)) : D := .slice (l.map sD)

/-- A row under way: none yet, or in memory. -/
def RowV (J : AHeap) (lo : Nat) (v : AV) (l : List Tx) : Prop :=
  (v = .fslice [] ∧ l = []) ∨ ∃ r c cs, lo ≤ r ∧ v = .oslice r 0 l.length c 1 ∧ J[r]? = some (.cells cs) ∧ l.length ≤ cs.length ∧ (cs.take l.length).map AV.unf = l.map fun s => .d (.str s)

theorem cells_row (l : List Tx) : (l.map D.str).flatMap D.cells = l.map D.str := by
  induction l with
  | nil => rfl
  | cons a l ih => rw [List.map_cons, List.flatMap_cons, ih]; rfl

theorem sum_take {xss : List (List Tx)} {i : Nat} {x : List Tx} (h : xss[i]? = some x) : (xss.take (i + 1)).flatten = (xss.take i).flatten ++ x := by
  rw [List.take_add_one, h, List.flatten_append]; simp

theorem flat_le {xss : List (List Tx)} (i : Nat) : (xss.take i).flatten.length ≤ xss.flatten.length := by
  conv => rhs; rw [← List.take_append_drop i xss, List.flatten_append, List.length_append]
  omega

theorem rows_chunks (l : List Tx) (rest : List AV) : ∀ cs : List AV, (cs.take l.length).map AV.unf = l.map (fun s => AV.d (.str s)) → chunks 1 false l.length cs = some (l.map D.str) := by
  induction l with
  | nil => intro cs _; rfl
  | cons a l ih =>
    intro cs h
    cases cs with
    | nil => simp at h
    | cons c cs =>
      simp only [List.length_cons, List.take_succ_cons, List.map_cons, List.cons.injEq] at h
      obtain ⟨h1, h2⟩ := h
      have h3 : AV.toD c = some (.str a) := by rw [← toD_unf, h1]; rfl
      simp only [List.length_cons, chunks, List.take_succ_cons, List.take_zero, List.drop_succ_cons, List.drop_zero, AV.toDs, h3, ih cs h2, List.map_cons]
      rfl

theorem row_freeze {J : AHeap} {lo : Nat} {v : AV} {l : List Tx} (h : RowV J lo v l) : ∃ u, Abs.freeze J lo v = some u ∧ u.unf = .d (sD l) := by
  rcases h with ⟨rfl, rfl⟩ | ⟨r, c, cs, h1, rfl, h2, h3, h4⟩
  · exact ⟨_, rfl, rfl⟩
  · refine ⟨.d (sD l), ?_, rfl⟩
    simp only [Abs.freeze, h2, h1, true_and, if_pos (show 0 < 1 from by decide), Nat.zero_add, Nat.mul_one, if_pos h3, List.drop_zero, bne_self_eq_false, rows_chunks l [] cs h4, Option.map_some]

theorem concat_ev (lim : Nat) (H : AHeap) (xss : List (List Tx)) (hx : xss.length ≤ 1000) (ht : xss.flatten.length ≤ 1000000) : ∃ v, Ev X 46 lim [.d (ssD xss)] H v H ∧ v.unf = .d (sD xss.flatten) := by
  suffices h : Go.Abs.Fn X 46 lim [.d (ssD xss)] H fun v H' => v.unf = .d (sD xss.flatten) ∧ H' = H by
    unfold Go.Abs.Fn at h
    obtain ⟨v, H', h1, h2, rfl⟩ := h
    exact ⟨v, h1, h2⟩
  refine Fn_of rfl (show code 46 = some c46 from rfl) rfl ?_; simp only [List.length_cons, List.length_nil, Nat.reduceAdd, Nat.reduceSub, List.reduceReplicate, List.cons_append, List.nil_append, reduceIte, Bool.false_eq_true]
  (repeat ((first | refine W_sq ?_ | refine W_bk ?_ | refine W_ret ?_ | refine W_exit ?_ | refine W_skip ?_ | (apply W_rg; focus (intro _; simp only [z0,srcC,AV.growable,AV.owned,evalC,evalR,runOps,stepOp,wanted,aop,evx,put,unflag,binV,nilEq,isShift,binStr,unV,AV.elems,AV.unf,AV.int?,AV.toD,AV.toDs,AV.mkAgg,AV.pures,AV.cells,D.cells,AV.isCell,D.isCell,readCells,readD,optInt,fill,splice,srcOf,z1,List.contains,List.elem,z2,z3,z4,z5,z6,z7,z8,z9,z10,z11,z12,z13,z14,z15,z16,z17,z18,z19,z20,z21,z22,Option.map,intD,boolD,bD,reduceIte,z23,z24,forgetT,Nat.reduceAdd,Nat.reduceLeDiff,Nat.reduceMul,Nat.reduceSub,Nat.reduceEqDiff,Nat.reduceBEq,Nat.reduceBNe,z25,z26,z27,z28,z29,z30,z31,z32,z33,z34,z35,z36,z37,z38,z39,z40,z41,z42,z43,z44,z45,z46,z47,z48,z49,z50,z51,z52,Int.reduceToNat,z53,z54,z55,z56,z57,z58,Int.reduceBEq,Int.reduceBNe,Int.reduceLT,Int.reduceLE,Int.reduceGT,Int.reduceGE,Int.reduceEq,z59,z60,z61,z62,List.reduceReplicate,z63,z64,z65,z66,z67,chunks, List.length_map]; (first | done | exact rfl))) | (refine W_cT ?_ ?_; focus (simp only [evx,List.contains,List.elem,z2,z3,AV.unf,reduceIte,z23,boolD]; done)) | (refine W_cF ?_ ?_; focus (simp only [evx,List.contains,List.elem,z2,z3,AV.unf,reduceIte,z23,boolD]; done))) <;> (try simp only [seqK,blockK,loopK,onlyK,forgetT,put,unflag,z4,z5,z2,z3,AV.unf,reduceIte,Nat.reduceEqDiff,Nat.reduceAdd])))
  refine W_lp (fun k st => ∃ i : Nat, i ≤ xss.length ∧ k = xss.length - i ∧ ∃ x : Nat → AV, st = ⟨[.d (ssD xss), x 1, x 2, x 3, .fslice [], intD (xss.take i).flatten.length, .d (ssD xss), intD xss.length, intD i, x 9, x 10, x 11, x 12, x 13, x 14, x 15, x 16], H⟩) ?_ _ _ ⟨0, Nat.zero_le _, rfl, ex_st _ _ _ rfl⟩
  rintro k _ ⟨i, hi, rfl, x, rfl⟩
  have hfl := flat_le (xss := xss) i
  by_cases t0 : i < xss.length
  · have f1 : ((i : Int) < (xss.length : Int)) = True := eq_true (by omega)
    have w1 : IntKind.i64.wrap ((i : Int) + 1) = ((i + 1 : Nat) : Int) := wsucc (by omega)
    obtain ⟨s, hs⟩ : ∃ s, xss[i]? = some s := ⟨_, List.getElem?_eq_getElem t0⟩
    have hst := sum_take hs
    have hfl2 := flat_le (xss := xss) (i + 1)
    have hlen : (xss.take (i + 1)).flatten.length = (xss.take i).flatten.length + s.length := by rw [hst, List.length_append]
    have w2 : IntKind.i64.wrap (((xss.take i).flatten.length : Int) + (s.length : Int)) = (((xss.take (i + 1)).flatten.length : Nat) : Int) := by rw [w64 (by omega) (by omega)]; omega
    have f2 : ((((xss.take (i + 1)).flatten.length : Nat) : Int) < 0) = False := eq_false (by omega)
    have hc : (sD s).cells = [sD s] := rfl
    (repeat ((first | refine W_sq ?_ | refine W_bk ?_ | refine W_ret ?_ | refine W_exit ?_ | refine W_skip ?_ | (apply W_rg; focus (intro _; simp only [z0,srcC,AV.growable,AV.owned,evalC,evalR,runOps,stepOp,wanted,aop,evx,put,unflag,binV,nilEq,isShift,binStr,unV,AV.elems,AV.unf,AV.int?,AV.toD,AV.toDs,AV.mkAgg,AV.pures,AV.cells,D.cells,AV.isCell,D.isCell,readCells,readD,optInt,fill,splice,srcOf,z1,List.contains,List.elem,z2,z3,z4,z5,z6,z7,z8,z9,z10,z11,z12,z13,z14,z15,z16,z17,z18,z19,z20,z21,z22,Option.map,intD,boolD,bD,reduceIte,z23,z24,forgetT,Nat.reduceAdd,Nat.reduceLeDiff,Nat.reduceMul,Nat.reduceSub,Nat.reduceEqDiff,Nat.reduceBEq,Nat.reduceBNe,z25,z26,z27,z28,z29,z30,z31,z32,z33,z34,z35,z36,z37,z38,z39,z40,z41,z42,z43,z44,z45,z46,z47,z48,z49,z50,z51,z52,Int.reduceToNat,z53,z54,z55,z56,z57,z58,Int.reduceBEq,Int.reduceBNe,Int.reduceLT,Int.reduceLE,Int.reduceGT,Int.reduceGE,Int.reduceEq,z59,z60,z61,z62,List.reduceReplicate,z63,z64,z65,z66,z67,chunks, b_lss, b_add, f1, f2, w1, w2, hs, hc, List.length_map]; (first | done | exact rfl))) | (refine W_cT ?_ ?_; focus (simp only [evx,List.contains,List.elem,z2,z3,AV.unf,reduceIte,z23,boolD]; done)) | (refine W_cF ?_ ?_; focus (simp only [evx,List.contains,List.elem,z2,z3,AV.unf,reduceIte,z23,boolD]; done))) <;> (try simp only [seqK,blockK,loopK,onlyK,forgetT,put,unflag,z4,z5,z2,z3,AV.unf,reduceIte,Nat.reduceEqDiff,Nat.reduceAdd])))
    exact ⟨xss.length - (i + 1), by omega, i + 1, t0, rfl, ex_st _ _ _ rfl⟩
  · obtain rfl : i = xss.length := by omega
    have f1 : ((xss.length : Int) < (xss.length : Int)) = False := eq_false (by omega)
    rw [List.take_length]
    obtain ⟨v0, J0, hg, hr0, hl0⟩ : ∃ v0 J0, Ev X 57 H.length [.fslice [], intD xss.flatten.length] H v0 J0 ∧ RowV J0 H.length v0 [] ∧ H.length ≤ J0.length := by
      have hg := grow_ev H.length H xss.flatten.length (by omega)
      by_cases h0 : xss.flatten.length = 0
      · rw [if_pos h0, if_pos h0] at hg
        exact ⟨_, _, hg, .inl ⟨rfl, rfl⟩, Nat.le_refl _⟩
      · rw [if_neg h0, if_neg h0] at hg
        exact ⟨_, _, hg, .inr ⟨_, _, _, Nat.le_refl _, rfl, get_last _ _, Nat.zero_le _, rfl⟩, by simp⟩
    (repeat ((first | refine W_sq ?_ | refine W_bk ?_ | refine W_ret ?_ | refine W_exit ?_ | refine W_skip ?_ | (apply W_rg; focus (intro _; simp only [z0,srcC,AV.growable,AV.owned,evalC,evalR,runOps,stepOp,wanted,aop,evx,put,unflag,binV,nilEq,isShift,binStr,unV,AV.elems,AV.unf,AV.int?,AV.toD,AV.toDs,AV.mkAgg,AV.pures,AV.cells,D.cells,AV.isCell,D.isCell,readCells,readD,optInt,fill,splice,srcOf,z1,List.contains,List.elem,z2,z3,z4,z5,z6,z7,z8,z9,z10,z11,z12,z13,z14,z15,z16,z17,z18,z19,z20,z21,z22,Option.map,intD,boolD,bD,reduceIte,z23,z24,forgetT,Nat.reduceAdd,Nat.reduceLeDiff,Nat.reduceMul,Nat.reduceSub,Nat.reduceEqDiff,Nat.reduceBEq,Nat.reduceBNe,z25,z26,z27,z28,z29,z30,z31,z32,z33,z34,z35,z36,z37,z38,z39,z40,z41,z42,z43,z44,z45,z46,z47,z48,z49,z50,z51,z52,Int.reduceToNat,z53,z54,z55,z56,z57,z58,Int.reduceBEq,Int.reduceBNe,Int.reduceLT,Int.reduceLE,Int.reduceGT,Int.reduceGE,Int.reduceEq,z59,z60,z61,z62,List.reduceReplicate,z63,z64,z65,z66,z67,chunks, b_lss, f1]; (first | done | exact rfl))) | (refine W_cT ?_ ?_; focus (simp only [evx,List.contains,List.elem,z2,z3,AV.unf,reduceIte,z23,boolD]; done)) | (refine W_cF ?_ ?_; focus (simp only [evx,List.contains,List.elem,z2,z3,AV.unf,reduceIte,z23,boolD]; done))) <;> (try simp only [seqK,blockK,loopK,onlyK,forgetT,put,unflag,z4,z5,z2,z3,AV.unf,reduceIte,Nat.reduceEqDiff,Nat.reduceAdd])))
    refine W_region ?_; refine WO_call ?_; simp only [evx, List.map_cons, List.map_nil, List.contains, List.elem, List.getD_cons_succ, List.getD_cons_zero, reduceIte, Bool.false_eq_true, AV.unf, beq_self_eq_true, Nat.reduceBEq, intD, boolD]; refine Ev.fn hg ?_
    (apply WO_end; (focus (intro _; simp only [z0,srcC,AV.growable,AV.owned,evalC,evalR,runOps,stepOp,wanted,aop,evx,put,unflag,binV,nilEq,isShift,binStr,unV,AV.elems,AV.unf,AV.int?,AV.toD,AV.toDs,AV.mkAgg,AV.pures,AV.cells,D.cells,AV.isCell,D.isCell,readCells,readD,optInt,fill,splice,srcOf,z1,List.contains,List.elem,z2,z3,z4,z5,z6,z7,z8,z9,z10,z11,z12,z13,z14,z15,z16,z17,z18,z19,z20,z21,z22,Option.map,intD,boolD,bD,reduceIte,z23,z24,forgetT,Nat.reduceAdd,Nat.reduceLeDiff,Nat.reduceMul,Nat.reduceSub,Nat.reduceEqDiff,Nat.reduceBEq,Nat.reduceBNe,z25,z26,z27,z28,z29,z30,z31,z32,z33,z34,z35,z36,z37,z38,z39,z40,z41,z42,z43,z44,z45,z46,z47,z48,z49,z50,z51,z52,Int.reduceToNat,z53,z54,z55,z56,z57,z58,Int.reduceBEq,Int.reduceBNe,Int.reduceLT,Int.reduceLE,Int.reduceGT,Int.reduceGE,Int.reduceEq,z59,z60,z61,z62,List.reduceReplicate,z63,z64,z65,z66,z67,chunks]; (first | done | exact rfl)))) <;> (try simp only [seqK,blockK,loopK,onlyK,forgetT,put,unflag,z4,z5,z2,z3,AV.unf,reduceIte,Nat.reduceEqDiff,Nat.reduceAdd])
    (repeat ((first | refine W_sq ?_ | refine W_bk ?_ | refine W_ret ?_ | refine W_exit ?_ | refine W_skip ?_ | (apply W_rg; focus (intro _; simp only [z0,srcC,AV.growable,AV.owned,evalC,evalR,runOps,stepOp,wanted,aop,evx,put,unflag,binV,nilEq,isShift,binStr,unV,AV.elems,AV.unf,AV.int?,AV.toD,AV.toDs,AV.mkAgg,AV.pures,AV.cells,D.cells,AV.isCell,D.isCell,readCells,readD,optInt,fill,splice,srcOf,z1,List.contains,List.elem,z2,z3,z4,z5,z6,z7,z8,z9,z10,z11,z12,z13,z14,z15,z16,z17,z18,z19,z20,z21,z22,Option.map,intD,boolD,bD,reduceIte,z23,z24,forgetT,Nat.reduceAdd,Nat.reduceLeDiff,Nat.reduceMul,Nat.reduceSub,Nat.reduceEqDiff,Nat.reduceBEq,Nat.reduceBNe,z25,z26,z27,z28,z29,z30,z31,z32,z33,z34,z35,z36,z37,z38,z39,z40,z41,z42,z43,z44,z45,z46,z47,z48,z49,z50,z51,z52,Int.reduceToNat,z53,z54,z55,z56,z57,z58,Int.reduceBEq,Int.reduceBNe,Int.reduceLT,Int.reduceLE,Int.reduceGT,Int.reduceGE,Int.reduceEq,z59,z60,z61,z62,List.reduceReplicate,z63,z64,z65,z66,z67,chunks, List.length_map]; (first | done | exact rfl))) | (refine W_cT ?_ ?_; focus (simp only [evx,List.contains,List.elem,z2,z3,AV.unf,reduceIte,z23,boolD]; done)) | (refine W_cF ?_ ?_; focus (simp only [evx,List.contains,List.elem,z2,z3,AV.unf,reduceIte,z23,boolD]; done))) <;> (try simp only [seqK,blockK,loopK,onlyK,forgetT,put,unflag,z4,z5,z2,z3,AV.unf,reduceIte,Nat.reduceEqDiff,Nat.reduceAdd])))
    refine W_lp (fun k st => ∃ (i : Nat) (J : AHeap) (v : AV), i ≤ xss.length ∧ k = xss.length - i ∧ RowV J H.length v (xss.take i).flatten ∧ H.length ≤ J.length ∧ ∃ x : Nat → AV, st = ⟨[x 0, x 1, x 2, x 3, .fslice [], x 5, x 6, x 7, x 8, x 9, v, .d (ssD xss), intD xss.length, intD i, x 14, x 15, x 16], J⟩) ?_ _ _ ⟨0, J0, v0, Nat.zero_le _, rfl, by simpa using hr0, hl0, ex_st _ _ _ rfl⟩
    rintro k _ ⟨i, J, v, hi, rfl, hv, hJl, x, rfl⟩
    by_cases t0 : i < xss.length
    · have f1 : ((i : Int) < (xss.length : Int)) = True := eq_true (by omega)
      have w1 : IntKind.i64.wrap ((i : Int) + 1) = ((i + 1 : Nat) : Int) := wsucc (by omega)
      obtain ⟨s, hs⟩ : ∃ s, xss[i]? = some s := ⟨_, List.getElem?_eq_getElem t0⟩
      have hst := sum_take hs
      have hc : (sD s).cells = [sD s] := rfl
      have hfl2 := flat_le (xss := xss) (i + 1)
      rw [hst, List.length_append] at hfl2
      generalize (xss.take i).flatten = done at hv hst hfl2
      rcases hv with ⟨rfl, rfl⟩ | ⟨r, c, cs, hr1, rfl, hr2, hr3, hr4⟩
      · cases s with
        | nil =>
          have hz : headSz 1 ([] : List D) = true := rfl
          (repeat ((first | refine W_sq ?_ | refine W_bk ?_ | refine W_ret ?_ | refine W_exit ?_ | refine W_skip ?_ | (apply W_rg; focus (intro _; simp only [z0,srcC,AV.growable,AV.owned,evalC,evalR,runOps,stepOp,wanted,aop,evx,put,unflag,binV,nilEq,isShift,binStr,unV,AV.elems,AV.unf,AV.int?,AV.toD,AV.toDs,AV.mkAgg,AV.pures,AV.cells,D.cells,AV.isCell,D.isCell,readCells,readD,optInt,fill,splice,srcOf,z1,List.contains,List.elem,z2,z3,z4,z5,z6,z7,z8,z9,z10,z11,z12,z13,z14,z15,z16,z17,z18,z19,z20,z21,z22,Option.map,intD,boolD,bD,reduceIte,z23,z24,forgetT,Nat.reduceAdd,Nat.reduceLeDiff,Nat.reduceMul,Nat.reduceSub,Nat.reduceEqDiff,Nat.reduceBEq,Nat.reduceBNe,z25,z26,z27,z28,z29,z30,z31,z32,z33,z34,z35,z36,z37,z38,z39,z40,z41,z42,z43,z44,z45,z46,z47,z48,z49,z50,z51,z52,Int.reduceToNat,z53,z54,z55,z56,z57,z58,Int.reduceBEq,Int.reduceBNe,Int.reduceLT,Int.reduceLE,Int.reduceGT,Int.reduceGE,Int.reduceEq,z59,z60,z61,z62,List.reduceReplicate,z63,z64,z65,z66,z67,chunks, b_add, w1, b_lss, f1, hs, hc, hz, List.flatMap_nil]; (first | done | exact rfl))) | (refine W_cT ?_ ?_; focus (simp only [evx,List.contains,List.elem,z2,z3,AV.unf,reduceIte,z23,boolD]; done)) | (refine W_cF ?_ ?_; focus (simp only [evx,List.contains,List.elem,z2,z3,AV.unf,reduceIte,z23,boolD]; done))) <;> (try simp only [seqK,blockK,loopK,onlyK,forgetT,put,unflag,z4,z5,z2,z3,AV.unf,reduceIte,Nat.reduceEqDiff,Nat.reduceAdd])))
          exact ⟨xss.length - (i + 1), by omega, i + 1, J, _, t0, rfl, .inl ⟨rfl, by rw [hst]; rfl⟩, hJl, ex_st _ _ _ rfl⟩
        | cons a s =>
          have hz : headSz 1 (D.str a :: s.map D.str) = true := rfl
          have hcr : List.flatMap D.cells (D.str a :: s.map D.str) = D.str a :: s.map D.str := cells_row (a :: s)
          have hk : (s.length + 1 = 0) = False := by simp
          have hb : (s.length + 1) * (16 + 1) ≤ 70368744177664 := by simp only [List.length_cons, List.length_nil, Nat.zero_add] at hfl2; omega
          (repeat ((first | refine W_sq ?_ | refine W_bk ?_ | refine W_ret ?_ | refine W_exit ?_ | refine W_skip ?_ | (apply W_rg; focus (intro _; simp only [z0,srcC,AV.growable,AV.owned,evalC,evalR,runOps,stepOp,wanted,aop,evx,put,unflag,binV,nilEq,isShift,binStr,unV,AV.elems,AV.unf,AV.int?,AV.toD,AV.toDs,AV.mkAgg,AV.pures,AV.cells,D.cells,AV.isCell,D.isCell,readCells,readD,optInt,fill,splice,srcOf,z1,List.contains,List.elem,z2,z3,z4,z5,z6,z7,z8,z9,z10,z11,z12,z13,z14,z15,z16,z17,z18,z19,z20,z21,z22,Option.map,intD,boolD,bD,reduceIte,z23,z24,forgetT,Nat.reduceAdd,Nat.reduceLeDiff,Nat.reduceMul,Nat.reduceSub,Nat.reduceEqDiff,Nat.reduceBEq,Nat.reduceBNe,z25,z26,z27,z28,z29,z30,z31,z32,z33,z34,z35,z36,z37,z38,z39,z40,z41,z42,z43,z44,z45,z46,z47,z48,z49,z50,z51,z52,Int.reduceToNat,z53,z54,z55,z56,z57,z58,Int.reduceBEq,Int.reduceBNe,Int.reduceLT,Int.reduceLE,Int.reduceGT,Int.reduceGE,Int.reduceEq,z59,z60,z61,z62,List.reduceReplicate,z63,z64,z65,z66,z67,chunks, b_add, w1, b_lss, f1, hs, hc, hz, hcr, hk, hb, List.length_map]; (first | done | exact rfl))) | (refine W_cT ?_ ?_; focus (simp only [evx,List.contains,List.elem,z2,z3,AV.unf,reduceIte,z23,boolD]; done)) | (refine W_cF ?_ ?_; focus (simp only [evx,List.contains,List.elem,z2,z3,AV.unf,reduceIte,z23,boolD]; done))) <;> (try simp only [seqK,blockK,loopK,onlyK,forgetT,put,unflag,z4,z5,z2,z3,AV.unf,reduceIte,Nat.reduceEqDiff,Nat.reduceAdd])))
          refine ⟨xss.length - (i + 1), by omega, i + 1, _, _, t0, rfl, .inr ⟨J.length, s.length + 1, _, hJl, ?_, get_last _ _, ?_, ?_⟩, ?_, ex_st _ _ _ rfl⟩
          · rw [hst]; simp
          · rw [hst]; simp
          · rw [hst]
            simp only [List.nil_append]
            rw [List.take_of_length_le (by simp)]
            simp [AV.unf, Function.comp_def]
          · simp; omega
      · cases s with
        | nil =>
          have hz : headSz 1 ([] : List D) = true := rfl
          (repeat ((first | refine W_sq ?_ | refine W_bk ?_ | refine W_ret ?_ | refine W_exit ?_ | refine W_skip ?_ | (apply W_rg; focus (intro _; simp only [z0,srcC,AV.growable,AV.owned,evalC,evalR,runOps,stepOp,wanted,aop,evx,put,unflag,binV,nilEq,isShift,binStr,unV,AV.elems,AV.unf,AV.int?,AV.toD,AV.toDs,AV.mkAgg,AV.pures,AV.cells,D.cells,AV.isCell,D.isCell,readCells,readD,optInt,fill,splice,srcOf,z1,List.contains,List.elem,z2,z3,z4,z5,z6,z7,z8,z9,z10,z11,z12,z13,z14,z15,z16,z17,z18,z19,z20,z21,z22,Option.map,intD,boolD,bD,reduceIte,z23,z24,forgetT,Nat.reduceAdd,Nat.reduceLeDiff,Nat.reduceMul,Nat.reduceSub,Nat.reduceEqDiff,Nat.reduceBEq,Nat.reduceBNe,z25,z26,z27,z28,z29,z30,z31,z32,z33,z34,z35,z36,z37,z38,z39,z40,z41,z42,z43,z44,z45,z46,z47,z48,z49,z50,z51,z52,Int.reduceToNat,z53,z54,z55,z56,z57,z58,Int.reduceBEq,Int.reduceBNe,Int.reduceLT,Int.reduceLE,Int.reduceGT,Int.reduceGE,Int.reduceEq,z59,z60,z61,z62,List.reduceReplicate,z63,z64,z65,z66,z67,chunks, b_add, w1, b_lss, f1, hs, hc, hz, List.flatMap_nil]; (first | done | exact rfl))) | (refine W_cT ?_ ?_; focus (simp only [evx,List.contains,List.elem,z2,z3,AV.unf,reduceIte,z23,boolD]; done)) | (refine W_cF ?_ ?_; focus (simp only [evx,List.contains,List.elem,z2,z3,AV.unf,reduceIte,z23,boolD]; done))) <;> (try simp only [seqK,blockK,loopK,onlyK,forgetT,put,unflag,z4,z5,z2,z3,AV.unf,reduceIte,Nat.reduceEqDiff,Nat.reduceAdd])))
          refine ⟨xss.length - (i + 1), by omega, i + 1, J, _, t0, rfl, .inr ⟨r, c, cs, hr1, ?_, hr2, ?_, ?_⟩, hJl, ex_st _ _ _ rfl⟩
          · rw [hst]; simp
          · rw [hst]; simpa using hr3
          · rw [hst]; simpa using hr4
        | cons a s =>
          have hz : headSz 1 (D.str a :: s.map D.str) = true := rfl
          have hcr : List.flatMap D.cells (D.str a :: s.map D.str) = D.str a :: s.map D.str := cells_row (a :: s)
          have hk : (s.length + 1 = 0) = False := by simp
          have hb : (done.length + (s.length + 1)) * (16 + 1) ≤ 70368744177664 := by simp only [List.length_cons, List.length_nil, Nat.zero_add] at hfl2; omega
          have h1 : done.length * 1 ≤ cs.length := by omega
          (repeat ((first | refine W_sq ?_ | refine W_bk ?_ | refine W_ret ?_ | refine W_exit ?_ | refine W_skip ?_ | (apply W_rg; focus (intro _; simp only [z0,srcC,AV.growable,AV.owned,evalC,evalR,runOps,stepOp,wanted,aop,evx,put,unflag,binV,nilEq,isShift,binStr,unV,AV.elems,AV.unf,AV.int?,AV.toD,AV.toDs,AV.mkAgg,AV.pures,AV.cells,D.cells,AV.isCell,D.isCell,readCells,readD,optInt,fill,splice,srcOf,z1,List.contains,List.elem,z2,z3,z4,z5,z6,z7,z8,z9,z10,z11,z12,z13,z14,z15,z16,z17,z18,z19,z20,z21,z22,Option.map,intD,boolD,bD,reduceIte,z23,z24,forgetT,Nat.reduceAdd,Nat.reduceLeDiff,Nat.reduceMul,Nat.reduceSub,Nat.reduceEqDiff,Nat.reduceBEq,Nat.reduceBNe,z25,z26,z27,z28,z29,z30,z31,z32,z33,z34,z35,z36,z37,z38,z39,z40,z41,z42,z43,z44,z45,z46,z47,z48,z49,z50,z51,z52,Int.reduceToNat,z53,z54,z55,z56,z57,z58,Int.reduceBEq,Int.reduceBNe,Int.reduceLT,Int.reduceLE,Int.reduceGT,Int.reduceGE,Int.reduceEq,z59,z60,z61,z62,List.reduceReplicate,z63,z64,z65,z66,z67,chunks, b_add, w1, b_lss, f1, hs, hc, hz, hcr, hk, hb, hr1, hr2, h1, List.length_map]; (first | done | exact rfl))) | (refine W_cT ?_ ?_; focus (simp only [evx,List.contains,List.elem,z2,z3,AV.unf,reduceIte,z23,boolD]; done)) | (refine W_cF ?_ ?_; focus (simp only [evx,List.contains,List.elem,z2,z3,AV.unf,reduceIte,z23,boolD]; done))) <;> (try simp only [seqK,blockK,loopK,onlyK,forgetT,put,unflag,z4,z5,z2,z3,AV.unf,reduceIte,Nat.reduceEqDiff,Nat.reduceAdd])))
          refine ⟨xss.length - (i + 1), by omega, i + 1, _, _, t0, rfl, .inr ⟨J.length, done.length + (s.length + 1), _, hJl, ?_, by rw [List.getElem?_append_right (by simp), List.length_set, Nat.sub_self]; rfl, ?_, ?_⟩, ?_, ex_st _ _ _ rfl⟩
          · rw [hst]; simp
          · rw [hst]; simp; omega
          · rw [hst]
            rw [List.take_of_length_le (by simp; omega)]
            rw [List.map_append, List.map_append, Nat.mul_one, List.map_map]
            have e : (AV.unf ∘ AV.unf) = AV.unf := by funext z; cases z <;> rfl
            rw [e, hr4]
            simp [AV.unf, Function.comp_def]
          · simp; omega
    · obtain rfl : i = xss.length := by omega
      have f1 : ((xss.length : Int) < (xss.length : Int)) = False := eq_false (by omega)
      rw [List.take_length] at hv
      obtain ⟨u, hu1, hu2⟩ := row_freeze hv
      (repeat ((first | refine W_sq ?_ | refine W_bk ?_ | refine W_ret ?_ | refine W_exit ?_ | refine W_skip ?_ | (apply W_rg; focus (intro _; simp only [z0,srcC,AV.growable,AV.owned,evalC,evalR,runOps,stepOp,wanted,aop,evx,put,unflag,binV,nilEq,isShift,binStr,unV,AV.elems,AV.unf,AV.int?,AV.toD,AV.toDs,AV.mkAgg,AV.pures,AV.cells,D.cells,AV.isCell,D.isCell,readCells,readD,optInt,fill,splice,srcOf,z1,List.contains,List.elem,z2,z3,z4,z5,z6,z7,z8,z9,z10,z11,z12,z13,z14,z15,z16,z17,z18,z19,z20,z21,z22,Option.map,intD,boolD,bD,reduceIte,z23,z24,forgetT,Nat.reduceAdd,Nat.reduceLeDiff,Nat.reduceMul,Nat.reduceSub,Nat.reduceEqDiff,Nat.reduceBEq,Nat.reduceBNe,z25,z26,z27,z28,z29,z30,z31,z32,z33,z34,z35,z36,z37,z38,z39,z40,z41,z42,z43,z44,z45,z46,z47,z48,z49,z50,z51,z52,Int.reduceToNat,z53,z54,z55,z56,z57,z58,Int.reduceBEq,Int.reduceBNe,Int.reduceLT,Int.reduceLE,Int.reduceGT,Int.reduceGE,Int.reduceEq,z59,z60,z61,z62,List.reduceReplicate,z63,z64,z65,z66,z67,chunks, b_lss, f1]; (first | done | exact rfl))) | (refine W_cT ?_ ?_; focus (simp only [evx,List.contains,List.elem,z2,z3,AV.unf,reduceIte,z23,boolD]; done)) | (refine W_cF ?_ ?_; focus (simp only [evx,List.contains,List.elem,z2,z3,AV.unf,reduceIte,z23,boolD]; done))) <;> (try simp only [seqK,blockK,loopK,onlyK,forgetT,put,unflag,z4,z5,z2,z3,AV.unf,reduceIte,Nat.reduceEqDiff,Nat.reduceAdd])))
      exact ans_cut rfl hu1 ⟨hu2, rfl⟩

end Go.Proofs.YtoimlfaiibadgaaDoor
