/- Letters of a text, as Go's library reads them, walked. (NOBIN: the arithmetic of numbers is not unfolded.) -/
import Derived.Test.YtoimlfaiibadgaaDoordCode
import Derived.Test.YtoimlfaiibadgaaDoorAbsC
import Derived.Test.YtoimlfaiibadgaaDoordM1
import Derived.KernelRfl
set_option linter.unusedSimpArgs false
set_option linter.unusedVariables false
set_option linter.all false
namespace Go.Proofs.YtoimlfaiibadgaaDoor
open Go Go.Abs Go.Lib

theorem dec_at (s : List UInt8) (i : Nat) : dec s i = decodeN (s.length - i) (by' s i) (by' s (i + 1)) (by' s (i + 2)) (by' s (i + 3)) := by
  have e : ∀ j, ((⟨s.toArray⟩ : ByteArray).get! j).toNat = by' s j := fun j => by
    unfold by'
    show (s.toArray[j]!).toNat = _
    rw [Array.getElem!_eq_getD]
    simp only [Array.getD_eq_getD_getElem?, List.getElem?_toArray]
    cases s[j]? <;> rfl
  unfold dec
  rw [decode_at]
  simp only [e]
  rfl

theorem dec_dc (s : List UInt8) (i : Nat) : dec s i = dc (s.drop i) := by
  rw [dec_at]; unfold dc; simp only [by_drop, List.length_drop, Nat.add_zero]

theorem tab0_eq : tab0 = (List.range 256).map fun b => .int .u8 (firstT b : Nat) := by kernel_rfl

theorem tab0_get {b : Nat} (h : b < 256) : (tab0.drop b)[0]? = some (.int .u8 (firstT b : Nat)) := by
  rw [tab0_eq, List.getElem?_drop, Nat.add_zero, List.getElem?_map, List.getElem?_range h]; rfl

theorem b_lss (k : IntKind) (a b : Int) : binInt .lss k a b = some (.bool (decide (a < b))) := rfl
theorem b_leq (k : IntKind) (a b : Int) : binInt .leq k a b = some (.bool (decide (a ≤ b))) := rfl
theorem b_geq (k : IntKind) (a b : Int) : binInt .geq k a b = some (.bool (decide (a ≥ b))) := rfl
theorem b_some (op : BinOp) (k : IntKind) (h : op = .and ∨ op = .or ∨ op = .andNot) : ∃ g : Int → Int → Int, ∀ a b, binInt op k a b = some (.int k (g a b)) := by
  rcases h with rfl | rfl | rfl <;> exact ⟨_, fun a b => rfl⟩
theorem shl_some (b : Int) (hb : ¬ b < 0) : ∃ g : Int → Int, ∀ a, shiftInt .shl .i32 a b = some (.int .i32 (g a)) := ⟨fun a => IntKind.i32.wrap (a * 2 ^ (min b.toNat IntKind.i32.bits)), fun a => by unfold shiftInt; rw [if_neg hb]⟩
theorem shr_some (b : Int) (hb : ¬ b < 0) : ∃ g : Int → Int, ∀ a, shiftInt .shr .i32 a b = some (.int .i32 (g a)) := ⟨fun a => a.fdiv (2 ^ (min b.toNat IntKind.i32.bits)), fun a => by unfold shiftInt; rw [if_neg hb]⟩

set_option maxHeartbeats 4000000 in
/-- Behind the table, for one class of first bytes. -/
theorem slow_ev (lim : Nat) (s : List UInt8) (H : AHeap) (c0 : UInt8) (x sz ri lo hi : Nat) (h0 : s[0]? = some c0) (hx : firstT c0.toNat = x) (hx2 : x < 240) (sz' : Int) (hsz0 : binInt .and .u8 (x : Int) 7 = some (.int .u8 sz')) (hsz : IntKind.i64.wrap sz' = sz)
    (hri : shiftInt .shr .u8 (x : Int) 4 = some (.int .u8 (ri : Int))) (hri2 : ri < 16) (hacc : List.take 2 (tab1.drop (ri * 2)) = [.int .u8 lo, .int .u8 hi]) (hlen : 2 ≤ (tab1.drop (ri * 2)).length) (h2 : 2 ≤ sz) (h4 : sz ≤ 4) (k : Nat) (hk : (slowN s.length (by' s 0) (by' s 1) (by' s 2) (by' s 3) sz lo hi).2 = k) :
    Go.Abs.Fn X 70 lim [.d (.str s)] H fun v H' => (∃ r : Int, v = .tuple [.d (.int .i32 r), intD k]) ∧ H' = H := by
  refine Fn_of rfl (show code 70 = some c70 from rfl) rfl ?_; simp only [List.length_cons, List.length_nil, Nat.reduceAdd, Nat.reduceSub, List.reduceReplicate, List.cons_append, List.nil_append, reduceIte, Bool.false_eq_true]
  have hpos : 0 < s.length := (List.getElem?_eq_some_iff.1 h0).1
  have f1 : ((s.length : Int) < 1) = False := eq_false (by omega)
  have hb0 : c0.toNat < 256 := c0.toNat_lt
  have ht := tab0_get hb0
  rw [hx] at ht
  have f2 : ((c0.toNat : Int) < ((256 : Nat) : Int)) = True := eq_true (by omega)
  have f3 : ((x : Int) ≥ 240) = False := eq_false (by omega)
  have f4 : ((ri : Int) < ((16 : Nat) : Int)) = True := eq_true (by omega)
  obtain ⟨o1, hor⟩ := b_some .or .i32 (by simp)
  obtain ⟨o2, hand⟩ := b_some .and .u8 (by simp)
  obtain ⟨s6, g6⟩ := shl_some 6 (by decide)
  obtain ⟨s12, g12⟩ := shl_some 12 (by decide)
  obtain ⟨s18, g18⟩ := shl_some 18 (by decide)
  have hn1 : by' s 0 = c0.toNat := by_some h0
  by_cases q1 : s.length < sz
  · have e1 : ((s.length : Int) < (sz : Int)) = True := eq_true (by omega)
    have e2 : (slowN s.length (by' s 0) (by' s 1) (by' s 2) (by' s 3) sz lo hi).2 = 1 := by unfold slowN; rw [if_pos q1]
    (repeat ((first | refine W_sq ?_ | refine W_bk ?_ | refine W_ret ?_ | refine W_exit ?_ | refine W_skip ?_ | (apply W_rg; focus (intro _; simp only [z0,srcC,AV.growable,AV.owned,evalC,evalR,runOps,stepOp,wanted,aop,evx,put,unflag,binV,nilEq,isShift,binStr,unV,AV.elems,AV.unf,AV.int?,AV.toD,AV.toDs,AV.mkAgg,AV.pures,AV.cells,D.cells,AV.isCell,D.isCell,readCells,readD,optInt,fill,splice,srcOf,z1,List.contains,List.elem,z2,z3,z4,z5,z6,z7,z8,z9,z10,z11,z12,z13,z14,z15,z16,z17,z18,z19,z20,z21,z22,Option.map,intD,boolD,bD,reduceIte,z23,z24,forgetT,Nat.reduceAdd,Nat.reduceLeDiff,Nat.reduceMul,Nat.reduceSub,Nat.reduceEqDiff,Nat.reduceBEq,Nat.reduceBNe,z25,z26,z27,z28,z29,z30,z31,z32,z33,z34,z35,z36,z37,z38,z39,z40,z41,z42,z43,z44,z45,z46,z47,z48,z49,z50,z51,z52,Int.reduceToNat,z53,z54,z55,z56,z57,z58,Int.reduceBEq,Int.reduceBNe,Int.reduceLT,Int.reduceLE,Int.reduceGT,Int.reduceGE,Int.reduceEq,z59,z60,z61,z62,List.reduceReplicate,z63,z64,z65,z66,z67,chunks, f1, f2, f3, f4, h0, ht, hsz, hri, hacc, hlen, Nat.mul_one, g6, g12, g18, byteD, b_lss, b_leq, b_geq, hsz0, hor, hand, e1, decide_true]; (first | done | exact rfl))) | (refine W_cT ?_ ?_; focus (simp only [evx,List.contains,List.elem,z2,z3,AV.unf,reduceIte,z23,boolD]; done)) | (refine W_cF ?_ ?_; focus (simp only [evx,List.contains,List.elem,z2,z3,AV.unf,reduceIte,z23,boolD]; done))) <;> (try simp only [seqK,blockK,loopK,onlyK,forgetT,put,unflag,z4,z5,z2,z3,AV.unf,reduceIte,Nat.reduceEqDiff,Nat.reduceAdd])))
    (rw [e2] at hk; subst hk; exact ans_cut rfl rfl ⟨⟨_, rfl⟩, rfl⟩)
  have e1 : ((s.length : Int) < (sz : Int)) = False := eq_false (by omega)
  obtain ⟨c1, h1⟩ : ∃ c1, s[1]? = some c1 := ⟨_, List.getElem?_eq_getElem (by omega)⟩
  have hn2 : by' s 1 = c1.toNat := by_some h1
  by_cases q2 : c1.toNat < lo ∨ hi < c1.toNat
  · have e2 : (slowN s.length (by' s 0) (by' s 1) (by' s 2) (by' s 3) sz lo hi).2 = 1 := by unfold slowN; rw [if_neg q1, hn2, if_pos q2]
    by_cases q3 : c1.toNat < lo
    · have e3 : ((c1.toNat : Int) < (lo : Int)) = True := eq_true (by omega)
      (repeat ((first | refine W_sq ?_ | refine W_bk ?_ | refine W_ret ?_ | refine W_exit ?_ | refine W_skip ?_ | (apply W_rg; focus (intro _; simp only [z0,srcC,AV.growable,AV.owned,evalC,evalR,runOps,stepOp,wanted,aop,evx,put,unflag,binV,nilEq,isShift,binStr,unV,AV.elems,AV.unf,AV.int?,AV.toD,AV.toDs,AV.mkAgg,AV.pures,AV.cells,D.cells,AV.isCell,D.isCell,readCells,readD,optInt,fill,splice,srcOf,z1,List.contains,List.elem,z2,z3,z4,z5,z6,z7,z8,z9,z10,z11,z12,z13,z14,z15,z16,z17,z18,z19,z20,z21,z22,Option.map,intD,boolD,bD,reduceIte,z23,z24,forgetT,Nat.reduceAdd,Nat.reduceLeDiff,Nat.reduceMul,Nat.reduceSub,Nat.reduceEqDiff,Nat.reduceBEq,Nat.reduceBNe,z25,z26,z27,z28,z29,z30,z31,z32,z33,z34,z35,z36,z37,z38,z39,z40,z41,z42,z43,z44,z45,z46,z47,z48,z49,z50,z51,z52,Int.reduceToNat,z53,z54,z55,z56,z57,z58,Int.reduceBEq,Int.reduceBNe,Int.reduceLT,Int.reduceLE,Int.reduceGT,Int.reduceGE,Int.reduceEq,z59,z60,z61,z62,List.reduceReplicate,z63,z64,z65,z66,z67,chunks, f1, f2, f3, f4, h0, ht, hsz, hri, hacc, hlen, Nat.mul_one, g6, g12, g18, byteD, b_lss, b_leq, b_geq, hsz0, hor, hand, e1, e3, h1, decide_true]; (first | done | exact rfl))) | (refine W_cT ?_ ?_; focus (simp only [evx,List.contains,List.elem,z2,z3,AV.unf,reduceIte,z23,boolD]; done)) | (refine W_cF ?_ ?_; focus (simp only [evx,List.contains,List.elem,z2,z3,AV.unf,reduceIte,z23,boolD]; done))) <;> (try simp only [seqK,blockK,loopK,onlyK,forgetT,put,unflag,z4,z5,z2,z3,AV.unf,reduceIte,Nat.reduceEqDiff,Nat.reduceAdd])))
      (rw [e2] at hk; subst hk; exact ans_cut rfl rfl ⟨⟨_, rfl⟩, rfl⟩)
    · have e3 : ((c1.toNat : Int) < (lo : Int)) = False := eq_false (by omega)
      have e4 : ((hi : Int) < (c1.toNat : Int)) = True := eq_true (by omega)
      (repeat ((first | refine W_sq ?_ | refine W_bk ?_ | refine W_ret ?_ | refine W_exit ?_ | refine W_skip ?_ | (apply W_rg; focus (intro _; simp only [z0,srcC,AV.growable,AV.owned,evalC,evalR,runOps,stepOp,wanted,aop,evx,put,unflag,binV,nilEq,isShift,binStr,unV,AV.elems,AV.unf,AV.int?,AV.toD,AV.toDs,AV.mkAgg,AV.pures,AV.cells,D.cells,AV.isCell,D.isCell,readCells,readD,optInt,fill,splice,srcOf,z1,List.contains,List.elem,z2,z3,z4,z5,z6,z7,z8,z9,z10,z11,z12,z13,z14,z15,z16,z17,z18,z19,z20,z21,z22,Option.map,intD,boolD,bD,reduceIte,z23,z24,forgetT,Nat.reduceAdd,Nat.reduceLeDiff,Nat.reduceMul,Nat.reduceSub,Nat.reduceEqDiff,Nat.reduceBEq,Nat.reduceBNe,z25,z26,z27,z28,z29,z30,z31,z32,z33,z34,z35,z36,z37,z38,z39,z40,z41,z42,z43,z44,z45,z46,z47,z48,z49,z50,z51,z52,Int.reduceToNat,z53,z54,z55,z56,z57,z58,Int.reduceBEq,Int.reduceBNe,Int.reduceLT,Int.reduceLE,Int.reduceGT,Int.reduceGE,Int.reduceEq,z59,z60,z61,z62,List.reduceReplicate,z63,z64,z65,z66,z67,chunks, f1, f2, f3, f4, h0, ht, hsz, hri, hacc, hlen, Nat.mul_one, g6, g12, g18, byteD, b_lss, b_leq, b_geq, hsz0, hor, hand, e1, e3, e4, h1, decide_true]; (first | done | exact rfl))) | (refine W_cT ?_ ?_; focus (simp only [evx,List.contains,List.elem,z2,z3,AV.unf,reduceIte,z23,boolD]; done)) | (refine W_cF ?_ ?_; focus (simp only [evx,List.contains,List.elem,z2,z3,AV.unf,reduceIte,z23,boolD]; done))) <;> (try simp only [seqK,blockK,loopK,onlyK,forgetT,put,unflag,z4,z5,z2,z3,AV.unf,reduceIte,Nat.reduceEqDiff,Nat.reduceAdd])))
      (rw [e2] at hk; subst hk; exact ans_cut rfl rfl ⟨⟨_, rfl⟩, rfl⟩)
  have e3 : ((c1.toNat : Int) < (lo : Int)) = False := eq_false (by omega)
  have e4 : ((hi : Int) < (c1.toNat : Int)) = False := eq_false (by omega)
  by_cases q3 : sz ≤ 2
  · have e5 : ((sz : Int) ≤ 2) = True := eq_true (by omega)
    have e2 : (slowN s.length (by' s 0) (by' s 1) (by' s 2) (by' s 3) sz lo hi).2 = 2 := by unfold slowN; rw [if_neg q1, hn2, if_neg q2, if_pos q3]
    (repeat ((first | refine W_sq ?_ | refine W_bk ?_ | refine W_ret ?_ | refine W_exit ?_ | refine W_skip ?_ | (apply W_rg; focus (intro _; simp only [z0,srcC,AV.growable,AV.owned,evalC,evalR,runOps,stepOp,wanted,aop,evx,put,unflag,binV,nilEq,isShift,binStr,unV,AV.elems,AV.unf,AV.int?,AV.toD,AV.toDs,AV.mkAgg,AV.pures,AV.cells,D.cells,AV.isCell,D.isCell,readCells,readD,optInt,fill,splice,srcOf,z1,List.contains,List.elem,z2,z3,z4,z5,z6,z7,z8,z9,z10,z11,z12,z13,z14,z15,z16,z17,z18,z19,z20,z21,z22,Option.map,intD,boolD,bD,reduceIte,z23,z24,forgetT,Nat.reduceAdd,Nat.reduceLeDiff,Nat.reduceMul,Nat.reduceSub,Nat.reduceEqDiff,Nat.reduceBEq,Nat.reduceBNe,z25,z26,z27,z28,z29,z30,z31,z32,z33,z34,z35,z36,z37,z38,z39,z40,z41,z42,z43,z44,z45,z46,z47,z48,z49,z50,z51,z52,Int.reduceToNat,z53,z54,z55,z56,z57,z58,Int.reduceBEq,Int.reduceBNe,Int.reduceLT,Int.reduceLE,Int.reduceGT,Int.reduceGE,Int.reduceEq,z59,z60,z61,z62,List.reduceReplicate,z63,z64,z65,z66,z67,chunks, f1, f2, f3, f4, h0, ht, hsz, hri, hacc, hlen, Nat.mul_one, g6, g12, g18, byteD, b_lss, b_leq, b_geq, hsz0, hor, hand, e1, e3, e4, e5, h1, decide_true]; (first | done | exact rfl))) | (refine W_cT ?_ ?_; focus (simp only [evx,List.contains,List.elem,z2,z3,AV.unf,reduceIte,z23,boolD]; done)) | (refine W_cF ?_ ?_; focus (simp only [evx,List.contains,List.elem,z2,z3,AV.unf,reduceIte,z23,boolD]; done))) <;> (try simp only [seqK,blockK,loopK,onlyK,forgetT,put,unflag,z4,z5,z2,z3,AV.unf,reduceIte,Nat.reduceEqDiff,Nat.reduceAdd])))
    (rw [e2] at hk; subst hk; exact ans_cut rfl rfl ⟨⟨_, rfl⟩, rfl⟩)
  have e5 : ((sz : Int) ≤ 2) = False := eq_false (by omega)
  obtain ⟨c2, h2'⟩ : ∃ c2, s[2]? = some c2 := ⟨_, List.getElem?_eq_getElem (by omega)⟩
  have hn3 : by' s 2 = c2.toNat := by_some h2'
  by_cases q4 : c2.toNat < 128 ∨ 191 < c2.toNat
  · have e2 : (slowN s.length (by' s 0) (by' s 1) (by' s 2) (by' s 3) sz lo hi).2 = 1 := by unfold slowN; rw [if_neg q1, hn2, if_neg q2, if_neg q3, hn3, if_pos q4]
    by_cases q5 : c2.toNat < 128
    · have e6 : ((c2.toNat : Int) < 128) = True := eq_true (by omega)
      (repeat ((first | refine W_sq ?_ | refine W_bk ?_ | refine W_ret ?_ | refine W_exit ?_ | refine W_skip ?_ | (apply W_rg; focus (intro _; simp only [z0,srcC,AV.growable,AV.owned,evalC,evalR,runOps,stepOp,wanted,aop,evx,put,unflag,binV,nilEq,isShift,binStr,unV,AV.elems,AV.unf,AV.int?,AV.toD,AV.toDs,AV.mkAgg,AV.pures,AV.cells,D.cells,AV.isCell,D.isCell,readCells,readD,optInt,fill,splice,srcOf,z1,List.contains,List.elem,z2,z3,z4,z5,z6,z7,z8,z9,z10,z11,z12,z13,z14,z15,z16,z17,z18,z19,z20,z21,z22,Option.map,intD,boolD,bD,reduceIte,z23,z24,forgetT,Nat.reduceAdd,Nat.reduceLeDiff,Nat.reduceMul,Nat.reduceSub,Nat.reduceEqDiff,Nat.reduceBEq,Nat.reduceBNe,z25,z26,z27,z28,z29,z30,z31,z32,z33,z34,z35,z36,z37,z38,z39,z40,z41,z42,z43,z44,z45,z46,z47,z48,z49,z50,z51,z52,Int.reduceToNat,z53,z54,z55,z56,z57,z58,Int.reduceBEq,Int.reduceBNe,Int.reduceLT,Int.reduceLE,Int.reduceGT,Int.reduceGE,Int.reduceEq,z59,z60,z61,z62,List.reduceReplicate,z63,z64,z65,z66,z67,chunks, f1, f2, f3, f4, h0, ht, hsz, hri, hacc, hlen, Nat.mul_one, g6, g12, g18, byteD, b_lss, b_leq, b_geq, hsz0, hor, hand, e1, e3, e4, e5, e6, h1, h2', decide_true]; (first | done | exact rfl))) | (refine W_cT ?_ ?_; focus (simp only [evx,List.contains,List.elem,z2,z3,AV.unf,reduceIte,z23,boolD]; done)) | (refine W_cF ?_ ?_; focus (simp only [evx,List.contains,List.elem,z2,z3,AV.unf,reduceIte,z23,boolD]; done))) <;> (try simp only [seqK,blockK,loopK,onlyK,forgetT,put,unflag,z4,z5,z2,z3,AV.unf,reduceIte,Nat.reduceEqDiff,Nat.reduceAdd])))
      (rw [e2] at hk; subst hk; exact ans_cut rfl rfl ⟨⟨_, rfl⟩, rfl⟩)
    · have e6 : ((c2.toNat : Int) < 128) = False := eq_false (by omega)
      have e7 : (191 < (c2.toNat : Int)) = True := eq_true (by omega)
      (repeat ((first | refine W_sq ?_ | refine W_bk ?_ | refine W_ret ?_ | refine W_exit ?_ | refine W_skip ?_ | (apply W_rg; focus (intro _; simp only [z0,srcC,AV.growable,AV.owned,evalC,evalR,runOps,stepOp,wanted,aop,evx,put,unflag,binV,nilEq,isShift,binStr,unV,AV.elems,AV.unf,AV.int?,AV.toD,AV.toDs,AV.mkAgg,AV.pures,AV.cells,D.cells,AV.isCell,D.isCell,readCells,readD,optInt,fill,splice,srcOf,z1,List.contains,List.elem,z2,z3,z4,z5,z6,z7,z8,z9,z10,z11,z12,z13,z14,z15,z16,z17,z18,z19,z20,z21,z22,Option.map,intD,boolD,bD,reduceIte,z23,z24,forgetT,Nat.reduceAdd,Nat.reduceLeDiff,Nat.reduceMul,Nat.reduceSub,Nat.reduceEqDiff,Nat.reduceBEq,Nat.reduceBNe,z25,z26,z27,z28,z29,z30,z31,z32,z33,z34,z35,z36,z37,z38,z39,z40,z41,z42,z43,z44,z45,z46,z47,z48,z49,z50,z51,z52,Int.reduceToNat,z53,z54,z55,z56,z57,z58,Int.reduceBEq,Int.reduceBNe,Int.reduceLT,Int.reduceLE,Int.reduceGT,Int.reduceGE,Int.reduceEq,z59,z60,z61,z62,List.reduceReplicate,z63,z64,z65,z66,z67,chunks, f1, f2, f3, f4, h0, ht, hsz, hri, hacc, hlen, Nat.mul_one, g6, g12, g18, byteD, b_lss, b_leq, b_geq, hsz0, hor, hand, e1, e3, e4, e5, e6, e7, h1, h2', decide_true]; (first | done | exact rfl))) | (refine W_cT ?_ ?_; focus (simp only [evx,List.contains,List.elem,z2,z3,AV.unf,reduceIte,z23,boolD]; done)) | (refine W_cF ?_ ?_; focus (simp only [evx,List.contains,List.elem,z2,z3,AV.unf,reduceIte,z23,boolD]; done))) <;> (try simp only [seqK,blockK,loopK,onlyK,forgetT,put,unflag,z4,z5,z2,z3,AV.unf,reduceIte,Nat.reduceEqDiff,Nat.reduceAdd])))
      (rw [e2] at hk; subst hk; exact ans_cut rfl rfl ⟨⟨_, rfl⟩, rfl⟩)
  have e6 : ((c2.toNat : Int) < 128) = False := eq_false (by omega)
  have e7 : (191 < (c2.toNat : Int)) = False := eq_false (by omega)
  by_cases q5 : sz ≤ 3
  · have e8 : ((sz : Int) ≤ 3) = True := eq_true (by omega)
    have e2 : (slowN s.length (by' s 0) (by' s 1) (by' s 2) (by' s 3) sz lo hi).2 = 3 := by unfold slowN; rw [if_neg q1, hn2, if_neg q2, if_neg q3, hn3, if_neg q4, if_pos q5]
    (repeat ((first | refine W_sq ?_ | refine W_bk ?_ | refine W_ret ?_ | refine W_exit ?_ | refine W_skip ?_ | (apply W_rg; focus (intro _; simp only [z0,srcC,AV.growable,AV.owned,evalC,evalR,runOps,stepOp,wanted,aop,evx,put,unflag,binV,nilEq,isShift,binStr,unV,AV.elems,AV.unf,AV.int?,AV.toD,AV.toDs,AV.mkAgg,AV.pures,AV.cells,D.cells,AV.isCell,D.isCell,readCells,readD,optInt,fill,splice,srcOf,z1,List.contains,List.elem,z2,z3,z4,z5,z6,z7,z8,z9,z10,z11,z12,z13,z14,z15,z16,z17,z18,z19,z20,z21,z22,Option.map,intD,boolD,bD,reduceIte,z23,z24,forgetT,Nat.reduceAdd,Nat.reduceLeDiff,Nat.reduceMul,Nat.reduceSub,Nat.reduceEqDiff,Nat.reduceBEq,Nat.reduceBNe,z25,z26,z27,z28,z29,z30,z31,z32,z33,z34,z35,z36,z37,z38,z39,z40,z41,z42,z43,z44,z45,z46,z47,z48,z49,z50,z51,z52,Int.reduceToNat,z53,z54,z55,z56,z57,z58,Int.reduceBEq,Int.reduceBNe,Int.reduceLT,Int.reduceLE,Int.reduceGT,Int.reduceGE,Int.reduceEq,z59,z60,z61,z62,List.reduceReplicate,z63,z64,z65,z66,z67,chunks, f1, f2, f3, f4, h0, ht, hsz, hri, hacc, hlen, Nat.mul_one, g6, g12, g18, byteD, b_lss, b_leq, b_geq, hsz0, hor, hand, e1, e3, e4, e5, e6, e7, e8, h1, h2', decide_true]; (first | done | exact rfl))) | (refine W_cT ?_ ?_; focus (simp only [evx,List.contains,List.elem,z2,z3,AV.unf,reduceIte,z23,boolD]; done)) | (refine W_cF ?_ ?_; focus (simp only [evx,List.contains,List.elem,z2,z3,AV.unf,reduceIte,z23,boolD]; done))) <;> (try simp only [seqK,blockK,loopK,onlyK,forgetT,put,unflag,z4,z5,z2,z3,AV.unf,reduceIte,Nat.reduceEqDiff,Nat.reduceAdd])))
    (rw [e2] at hk; subst hk; exact ans_cut rfl rfl ⟨⟨_, rfl⟩, rfl⟩)
  have e8 : ((sz : Int) ≤ 3) = False := eq_false (by omega)
  obtain ⟨c3, h3⟩ : ∃ c3, s[3]? = some c3 := ⟨_, List.getElem?_eq_getElem (by omega)⟩
  have hn4 : by' s 3 = c3.toNat := by_some h3
  by_cases q6 : c3.toNat < 128 ∨ 191 < c3.toNat
  · have e2 : (slowN s.length (by' s 0) (by' s 1) (by' s 2) (by' s 3) sz lo hi).2 = 1 := by unfold slowN; rw [if_neg q1, hn2, if_neg q2, if_neg q3, hn3, if_neg q4, if_neg q5, hn4, if_pos q6]
    by_cases q7 : c3.toNat < 128
    · have e9 : ((c3.toNat : Int) < 128) = True := eq_true (by omega)
      (repeat ((first | refine W_sq ?_ | refine W_bk ?_ | refine W_ret ?_ | refine W_exit ?_ | refine W_skip ?_ | (apply W_rg; focus (intro _; simp only [z0,srcC,AV.growable,AV.owned,evalC,evalR,runOps,stepOp,wanted,aop,evx,put,unflag,binV,nilEq,isShift,binStr,unV,AV.elems,AV.unf,AV.int?,AV.toD,AV.toDs,AV.mkAgg,AV.pures,AV.cells,D.cells,AV.isCell,D.isCell,readCells,readD,optInt,fill,splice,srcOf,z1,List.contains,List.elem,z2,z3,z4,z5,z6,z7,z8,z9,z10,z11,z12,z13,z14,z15,z16,z17,z18,z19,z20,z21,z22,Option.map,intD,boolD,bD,reduceIte,z23,z24,forgetT,Nat.reduceAdd,Nat.reduceLeDiff,Nat.reduceMul,Nat.reduceSub,Nat.reduceEqDiff,Nat.reduceBEq,Nat.reduceBNe,z25,z26,z27,z28,z29,z30,z31,z32,z33,z34,z35,z36,z37,z38,z39,z40,z41,z42,z43,z44,z45,z46,z47,z48,z49,z50,z51,z52,Int.reduceToNat,z53,z54,z55,z56,z57,z58,Int.reduceBEq,Int.reduceBNe,Int.reduceLT,Int.reduceLE,Int.reduceGT,Int.reduceGE,Int.reduceEq,z59,z60,z61,z62,List.reduceReplicate,z63,z64,z65,z66,z67,chunks, f1, f2, f3, f4, h0, ht, hsz, hri, hacc, hlen, Nat.mul_one, g6, g12, g18, byteD, b_lss, b_leq, b_geq, hsz0, hor, hand, e1, e3, e4, e5, e6, e7, e8, e9, h1, h2', h3, decide_true]; (first | done | exact rfl))) | (refine W_cT ?_ ?_; focus (simp only [evx,List.contains,List.elem,z2,z3,AV.unf,reduceIte,z23,boolD]; done)) | (refine W_cF ?_ ?_; focus (simp only [evx,List.contains,List.elem,z2,z3,AV.unf,reduceIte,z23,boolD]; done))) <;> (try simp only [seqK,blockK,loopK,onlyK,forgetT,put,unflag,z4,z5,z2,z3,AV.unf,reduceIte,Nat.reduceEqDiff,Nat.reduceAdd])))
      (rw [e2] at hk; subst hk; exact ans_cut rfl rfl ⟨⟨_, rfl⟩, rfl⟩)
    · have e9 : ((c3.toNat : Int) < 128) = False := eq_false (by omega)
      have e10 : (191 < (c3.toNat : Int)) = True := eq_true (by omega)
      (repeat ((first | refine W_sq ?_ | refine W_bk ?_ | refine W_ret ?_ | refine W_exit ?_ | refine W_skip ?_ | (apply W_rg; focus (intro _; simp only [z0,srcC,AV.growable,AV.owned,evalC,evalR,runOps,stepOp,wanted,aop,evx,put,unflag,binV,nilEq,isShift,binStr,unV,AV.elems,AV.unf,AV.int?,AV.toD,AV.toDs,AV.mkAgg,AV.pures,AV.cells,D.cells,AV.isCell,D.isCell,readCells,readD,optInt,fill,splice,srcOf,z1,List.contains,List.elem,z2,z3,z4,z5,z6,z7,z8,z9,z10,z11,z12,z13,z14,z15,z16,z17,z18,z19,z20,z21,z22,Option.map,intD,boolD,bD,reduceIte,z23,z24,forgetT,Nat.reduceAdd,Nat.reduceLeDiff,Nat.reduceMul,Nat.reduceSub,Nat.reduceEqDiff,Nat.reduceBEq,Nat.reduceBNe,z25,z26,z27,z28,z29,z30,z31,z32,z33,z34,z35,z36,z37,z38,z39,z40,z41,z42,z43,z44,z45,z46,z47,z48,z49,z50,z51,z52,Int.reduceToNat,z53,z54,z55,z56,z57,z58,Int.reduceBEq,Int.reduceBNe,Int.reduceLT,Int.reduceLE,Int.reduceGT,Int.reduceGE,Int.reduceEq,z59,z60,z61,z62,List.reduceReplicate,z63,z64,z65,z66,z67,chunks, f1, f2, f3, f4, h0, ht, hsz, hri, hacc, hlen, Nat.mul_one, g6, g12, g18, byteD, b_lss, b_leq, b_geq, hsz0, hor, hand, e1, e3, e4, e5, e6, e7, e8, e9, e10, h1, h2', h3, decide_true]; (first | done | exact rfl))) | (refine W_cT ?_ ?_; focus (simp only [evx,List.contains,List.elem,z2,z3,AV.unf,reduceIte,z23,boolD]; done)) | (refine W_cF ?_ ?_; focus (simp only [evx,List.contains,List.elem,z2,z3,AV.unf,reduceIte,z23,boolD]; done))) <;> (try simp only [seqK,blockK,loopK,onlyK,forgetT,put,unflag,z4,z5,z2,z3,AV.unf,reduceIte,Nat.reduceEqDiff,Nat.reduceAdd])))
      (rw [e2] at hk; subst hk; exact ans_cut rfl rfl ⟨⟨_, rfl⟩, rfl⟩)
  have e9 : ((c3.toNat : Int) < 128) = False := eq_false (by omega)
  have e10 : (191 < (c3.toNat : Int)) = False := eq_false (by omega)
  have e2 : (slowN s.length (by' s 0) (by' s 1) (by' s 2) (by' s 3) sz lo hi).2 = 4 := by unfold slowN; rw [if_neg q1, hn2, if_neg q2, if_neg q3, hn3, if_neg q4, if_neg q5, hn4, if_neg q6]
  (repeat ((first | refine W_sq ?_ | refine W_bk ?_ | refine W_ret ?_ | refine W_exit ?_ | refine W_skip ?_ | (apply W_rg; focus (intro _; simp only [z0,srcC,AV.growable,AV.owned,evalC,evalR,runOps,stepOp,wanted,aop,evx,put,unflag,binV,nilEq,isShift,binStr,unV,AV.elems,AV.unf,AV.int?,AV.toD,AV.toDs,AV.mkAgg,AV.pures,AV.cells,D.cells,AV.isCell,D.isCell,readCells,readD,optInt,fill,splice,srcOf,z1,List.contains,List.elem,z2,z3,z4,z5,z6,z7,z8,z9,z10,z11,z12,z13,z14,z15,z16,z17,z18,z19,z20,z21,z22,Option.map,intD,boolD,bD,reduceIte,z23,z24,forgetT,Nat.reduceAdd,Nat.reduceLeDiff,Nat.reduceMul,Nat.reduceSub,Nat.reduceEqDiff,Nat.reduceBEq,Nat.reduceBNe,z25,z26,z27,z28,z29,z30,z31,z32,z33,z34,z35,z36,z37,z38,z39,z40,z41,z42,z43,z44,z45,z46,z47,z48,z49,z50,z51,z52,Int.reduceToNat,z53,z54,z55,z56,z57,z58,Int.reduceBEq,Int.reduceBNe,Int.reduceLT,Int.reduceLE,Int.reduceGT,Int.reduceGE,Int.reduceEq,z59,z60,z61,z62,List.reduceReplicate,z63,z64,z65,z66,z67,chunks, f1, f2, f3, f4, h0, ht, hsz, hri, hacc, hlen, Nat.mul_one, g6, g12, g18, byteD, b_lss, b_leq, b_geq, hsz0, hor, hand, e1, e3, e4, e5, e6, e7, e8, e9, e10, h1, h2', h3, decide_true]; (first | done | exact rfl))) | (refine W_cT ?_ ?_; focus (simp only [evx,List.contains,List.elem,z2,z3,AV.unf,reduceIte,z23,boolD]; done)) | (refine W_cF ?_ ?_; focus (simp only [evx,List.contains,List.elem,z2,z3,AV.unf,reduceIte,z23,boolD]; done))) <;> (try simp only [seqK,blockK,loopK,onlyK,forgetT,put,unflag,z4,z5,z2,z3,AV.unf,reduceIte,Nat.reduceEqDiff,Nat.reduceAdd])))
  (rw [e2] at hk; subst hk; exact ans_cut rfl rfl ⟨⟨_, rfl⟩, rfl⟩)

/-- A first byte that begins no letter. -/
theorem slow_none (lim : Nat) (s : List UInt8) (H : AHeap) (c0 : UInt8) (h0 : s[0]? = some c0) (hx : firstT c0.toNat = 241) :
    Go.Abs.Fn X 70 lim [.d (.str s)] H fun v H' => (∃ r : Int, v = .tuple [.d (.int .i32 r), intD 1]) ∧ H' = H := by
  refine Fn_of rfl (show code 70 = some c70 from rfl) rfl ?_; simp only [List.length_cons, List.length_nil, Nat.reduceAdd, Nat.reduceSub, List.reduceReplicate, List.cons_append, List.nil_append, reduceIte, Bool.false_eq_true]
  have hpos : 0 < s.length := (List.getElem?_eq_some_iff.1 h0).1
  have f1 : ((s.length : Int) < 1) = False := eq_false (by omega)
  have hb0 : c0.toNat < 256 := c0.toNat_lt
  have ht : (tab0.drop c0.toNat)[0]? = some (.int .u8 241) := by
    have := tab0_get hb0
    rw [hx] at this; exact this
  have f2 : ((c0.toNat : Int) < ((256 : Nat) : Int)) = True := eq_true (by omega)
  have f3 : ((241 : Int) ≥ 240) = True := eq_true (by decide)
  have g1 : IntKind.i32.wrap 241 = 241 := by decide
  have g2 : shiftInt .shl .i32 241 31 = some (.int .i32 (-2147483648)) := by rfl
  have g3 : shiftInt .shr .i32 (-2147483648) 31 = some (.int .i32 (-1)) := by rfl
  obtain ⟨o2, g4⟩ := b_some .and .i32 (by simp)
  obtain ⟨w, hw⟩ : ∃ w, IntKind.i32.wrap (c0.toNat : Int) = w := ⟨_, rfl⟩
  obtain ⟨o1, hor⟩ := b_some .or .i32 (by simp)
  obtain ⟨o3, hnot⟩ := b_some .andNot .i32 (by simp)
  (repeat ((first | refine W_sq ?_ | refine W_bk ?_ | refine W_ret ?_ | refine W_exit ?_ | refine W_skip ?_ | (apply W_rg; focus (intro _; simp only [z0,srcC,AV.growable,AV.owned,evalC,evalR,runOps,stepOp,wanted,aop,evx,put,unflag,binV,nilEq,isShift,binStr,unV,AV.elems,AV.unf,AV.int?,AV.toD,AV.toDs,AV.mkAgg,AV.pures,AV.cells,D.cells,AV.isCell,D.isCell,readCells,readD,optInt,fill,splice,srcOf,z1,List.contains,List.elem,z2,z3,z4,z5,z6,z7,z8,z9,z10,z11,z12,z13,z14,z15,z16,z17,z18,z19,z20,z21,z22,Option.map,intD,boolD,bD,reduceIte,z23,z24,forgetT,Nat.reduceAdd,Nat.reduceLeDiff,Nat.reduceMul,Nat.reduceSub,Nat.reduceEqDiff,Nat.reduceBEq,Nat.reduceBNe,z25,z26,z27,z28,z29,z30,z31,z32,z33,z34,z35,z36,z37,z38,z39,z40,z41,z42,z43,z44,z45,z46,z47,z48,z49,z50,z51,z52,Int.reduceToNat,z53,z54,z55,z56,z57,z58,Int.reduceBEq,Int.reduceBNe,Int.reduceLT,Int.reduceLE,Int.reduceGT,Int.reduceGE,Int.reduceEq,z59,z60,z61,z62,List.reduceReplicate,z63,z64,z65,z66,z67,chunks, hw, f1, f2, f3, h0, ht, byteD, g1, g2, g3, g4, b_lss, b_leq, b_geq, hor, hnot, decide_true, Nat.mul_one]; (first | done | exact rfl))) | (refine W_cT ?_ ?_; focus (simp only [evx,List.contains,List.elem,z2,z3,AV.unf,reduceIte,z23,boolD]; done)) | (refine W_cF ?_ ?_; focus (simp only [evx,List.contains,List.elem,z2,z3,AV.unf,reduceIte,z23,boolD]; done))) <;> (try simp only [seqK,blockK,loopK,onlyK,forgetT,put,unflag,z4,z5,z2,z3,AV.unf,reduceIte,Nat.reduceEqDiff,Nat.reduceAdd])))
  exact ans_cut rfl rfl ⟨⟨_, rfl⟩, rfl⟩

/-- How many bytes the first letter has. -/
theorem slowSize (lim : Nat) (s : List UInt8) (H : AHeap) (c0 : UInt8) (h0 : s[0]? = some c0) (hbig : 128 ≤ c0.toNat) :
    Go.Abs.Fn X 70 lim [.d (.str s)] H fun v H' => (∃ r : Int, v = .tuple [.d (.int .i32 r), intD (dec s 0).2]) ∧ H' = H := by
  have hpos : 1 ≤ s.length := (List.getElem?_eq_some_iff.1 h0).1
  have hd := dec_at s 0
  rw [Nat.sub_zero, Nat.zero_add, by_some h0] at hd
  have hb0 : c0.toNat < 256 := c0.toNat_lt
  have l1 := by_lt s 1
  have l2 := by_lt s 2
  have l3 := by_lt s 3
  have hn1 : by' s 0 = c0.toNat := by_some h0
  have go : ∀ (x sz ri lo hi : Nat) (sz' : Int), firstT c0.toNat = x → x < 240 → binInt .and .u8 (x : Int) 7 = some (.int .u8 sz') → IntKind.i64.wrap sz' = sz → shiftInt .shr .u8 (x : Int) 4 = some (.int .u8 (ri : Int)) → ri < 16 →
      List.take 2 (tab1.drop (ri * 2)) = [.int .u8 lo, .int .u8 hi] → 2 ≤ (tab1.drop (ri * 2)).length → 2 ≤ sz → sz ≤ 4 → slowN s.length c0.toNat (by' s 1) (by' s 2) (by' s 3) sz lo hi = decodeN s.length c0.toNat (by' s 1) (by' s 2) (by' s 3) →
      Go.Abs.Fn X 70 lim [.d (.str s)] H fun v H' => (∃ r : Int, v = .tuple [.d (.int .i32 r), intD (dec s 0).2]) ∧ H' = H := by
    intro x sz ri lo hi sz' a1 a2 a3' a3 a4 a5 a6 a7 a8 a9 a10
    exact slow_ev lim s H c0 x sz ri lo hi h0 a1 a2 sz' a3' a3 a4 a5 a6 a7 a8 a9 _ (by rw [hn1, a10, ← hd])
  by_cases k1 : c0.toNat < 194
  · have := slow_none lim s H c0 h0 (by unfold firstT; (repeat' split) <;> first | rfl | (exfalso; omega))
    have e : (dec s 0).2 = 1 := by
      rw [hd]; unfold decodeN
      rw [if_neg (by omega)]
      repeat' split
      all_goals first | rfl | (exfalso; omega)
    rw [e]; exact this
  by_cases k2 : c0.toNat < 224
  · exact go 2 2 0 128 191 2 (by unfold firstT; (repeat' split) <;> first | rfl | (exfalso; omega)) (by decide) rfl (by decide) rfl (by decide) rfl (by decide) (by decide) (by decide) (slow_C2 _ _ _ _ _ hpos l1 l2 l3 ⟨by omega, k2⟩)
  by_cases k3 : c0.toNat = 224
  · exact go 19 3 1 160 191 3 (by unfold firstT; (repeat' split) <;> first | rfl | (exfalso; omega)) (by decide) rfl (by decide) rfl (by decide) rfl (by decide) (by decide) (by decide) (slow_E0 _ _ _ _ _ hpos l1 l2 l3 k3)
  by_cases k4 : (225 ≤ c0.toNat ∧ c0.toNat < 237) ∨ (238 ≤ c0.toNat ∧ c0.toNat < 240)
  · exact go 3 3 0 128 191 3 (by unfold firstT; (repeat' split) <;> first | rfl | (exfalso; omega)) (by decide) rfl (by decide) rfl (by decide) rfl (by decide) (by decide) (by decide) (slow_E1 _ _ _ _ _ hpos l1 l2 l3 k4)
  by_cases k5 : c0.toNat = 237
  · exact go 35 3 2 128 159 3 (by unfold firstT; (repeat' split) <;> first | rfl | (exfalso; omega)) (by decide) rfl (by decide) rfl (by decide) rfl (by decide) (by decide) (by decide) (slow_ED _ _ _ _ _ hpos l1 l2 l3 k5)
  by_cases k6 : c0.toNat = 240
  · exact go 52 4 3 144 191 4 (by unfold firstT; (repeat' split) <;> first | rfl | (exfalso; omega)) (by decide) rfl (by decide) rfl (by decide) rfl (by decide) (by decide) (by decide) (slow_F0 _ _ _ _ _ hpos l1 l2 l3 k6)
  by_cases k7 : 241 ≤ c0.toNat ∧ c0.toNat < 244
  · exact go 4 4 0 128 191 4 (by unfold firstT; (repeat' split) <;> first | rfl | (exfalso; omega)) (by decide) rfl (by decide) rfl (by decide) rfl (by decide) (by decide) (by decide) (slow_F1 _ _ _ _ _ hpos l1 l2 l3 k7)
  by_cases k8 : c0.toNat = 244
  · exact go 68 4 4 128 143 4 (by unfold firstT; (repeat' split) <;> first | rfl | (exfalso; omega)) (by decide) rfl (by decide) rfl (by decide) rfl (by decide) (by decide) (by decide) (slow_F4 _ _ _ _ _ hpos l1 l2 l3 k8)
  · have := slow_none lim s H c0 h0 (by unfold firstT; (repeat' split) <;> first | rfl | (exfalso; omega))
    have e : (dec s 0).2 = 1 := by
      rw [hd]; unfold decodeN
      rw [if_neg (by omega)]
      repeat' split
      all_goals first | rfl | (exfalso; omega)
    rw [e]; exact this
end Go.Proofs.YtoimlfaiibadgaaDoor
