/- What a letter is, low letters and word letters, as the program has them, walked. (NOBIN: the arithmetic of numbers is not unfolded.) -/
import Derived.Test.YtcmbkehhpfbhiaaDoorcW6
import Derived.Test.YtcmbkehhpfbhiaaDoorcW4
set_option linter.unusedSimpArgs false
set_option linter.unusedVariables false
set_option linter.all false
set_option maxRecDepth 100000
namespace Go.Proofs.YtcmbkehhpfbhiaaDoor
open Go Go.Abs Go.Lib

def lD (t : Int × Bool) : D := .agg [.int .i32 t.1, .bool t.2]
def isB (t : Int × Bool) (n : Int) : Bool := !t.2 && t.1 == n

theorem isB_iff (t : Int × Bool) (n : Int) : isB t n = decide (t = (n, false)) := by
  obtain ⟨c, r⟩ := t
  rw [Bool.eq_iff_iff, decide_eq_true_iff]
  cases r <;> simp [isB]
theorem isB_st (t : Int × Bool) : isB t 42 = st1 t := isB_iff t 42

theorem is_ev (lim : Nat) (H : AHeap) (t : Int × Bool) (n : Int) : Ev X 32 lim [.d (lD t), .d (.int .i32 n)] H (boolD (isB t n)) H := by
  refine Fn.ev ?_
  refine Fn_of rfl (show code 32 = some c32 from rfl) rfl ?_; simp only [List.length_cons, List.length_nil, Nat.reduceAdd, Nat.reduceSub, List.reduceReplicate, List.cons_append, List.nil_append, reduceIte, Bool.false_eq_true]
  obtain ⟨c, r⟩ := t
  have e : ([D.int .i32 c, D.bool r].map AV.d).all AV.isCell = true := rfl
  cases r with
  | true =>
    (repeat ((first | refine W_sq ?_ | refine W_bk ?_ | refine W_ret ?_ | refine W_exit ?_ | refine W_skip ?_ | (apply W_rg; focus (intro _; simp only [z0,srcC,AV.growable,AV.owned,evalC,evalR,runOps,stepOp,wanted,aop,evx,put,unflag,binV,nilEq,isShift,binStr,unV,AV.elems,AV.unf,AV.int?,AV.toD,AV.toDs,AV.mkAgg,AV.pures,AV.cells,D.cells,AV.isCell,D.isCell,readCells,readD,optInt,fill,splice,srcOf,z1,List.contains,List.elem,z2,z3,z4,z5,z6,z7,z8,z9,z10,z11,z12,z13,z14,z15,z16,z17,z18,z19,z20,z21,z22,Option.map,intD,boolD,bD,reduceIte,z23,z24,forgetT,Nat.reduceAdd,Nat.reduceLeDiff,Nat.reduceMul,Nat.reduceSub,Nat.reduceEqDiff,Nat.reduceBEq,Nat.reduceBNe,z25,z26,z27,z28,z29,z30,z31,z32,z33,z34,z35,z36,z37,z38,z39,z40,z41,z42,z43,z44,z45,z46,z47,z48,z49,z50,z51,z52,Int.reduceToNat,z53,z54,z55,z56,z57,z58,Int.reduceBEq,Int.reduceBNe,Int.reduceLT,Int.reduceLE,Int.reduceGT,Int.reduceGE,Int.reduceEq,z59,z60,z61,z62,List.reduceReplicate,z63,z64,z65,z66,z67,chunks, lD]; (first | done | exact rfl))) | (refine W_cT ?_ ?_; focus (simp only [evx,List.contains,List.elem,z2,z3,AV.unf,reduceIte,z23,boolD]; done)) | (refine W_cF ?_ ?_; focus (simp only [evx,List.contains,List.elem,z2,z3,AV.unf,reduceIte,z23,boolD]; done))) <;> (try simp only [seqK,blockK,loopK,onlyK,forgetT,put,unflag,z4,z5,z2,z3,AV.unf,reduceIte,Nat.reduceEqDiff,Nat.reduceAdd])))
    exact ans_cut rfl rfl ⟨rfl, rfl⟩
  | false =>
    have e2 : isB (c, false) n = (c == n) := rfl
    rw [e2]
    (repeat ((first | refine W_sq ?_ | refine W_bk ?_ | refine W_ret ?_ | refine W_exit ?_ | refine W_skip ?_ | (apply W_rg; focus (intro _; simp only [z0,srcC,AV.growable,AV.owned,evalC,evalR,runOps,stepOp,wanted,aop,evx,put,unflag,binV,nilEq,isShift,binStr,unV,AV.elems,AV.unf,AV.int?,AV.toD,AV.toDs,AV.mkAgg,AV.pures,AV.cells,D.cells,AV.isCell,D.isCell,readCells,readD,optInt,fill,splice,srcOf,z1,List.contains,List.elem,z2,z3,z4,z5,z6,z7,z8,z9,z10,z11,z12,z13,z14,z15,z16,z17,z18,z19,z20,z21,z22,Option.map,intD,boolD,bD,reduceIte,z23,z24,forgetT,Nat.reduceAdd,Nat.reduceLeDiff,Nat.reduceMul,Nat.reduceSub,Nat.reduceEqDiff,Nat.reduceBEq,Nat.reduceBNe,z25,z26,z27,z28,z29,z30,z31,z32,z33,z34,z35,z36,z37,z38,z39,z40,z41,z42,z43,z44,z45,z46,z47,z48,z49,z50,z51,z52,Int.reduceToNat,z53,z54,z55,z56,z57,z58,Int.reduceBEq,Int.reduceBNe,Int.reduceLT,Int.reduceLE,Int.reduceGT,Int.reduceGE,Int.reduceEq,z59,z60,z61,z62,List.reduceReplicate,z63,z64,z65,z66,z67,chunks, lD, b_eql]; (first | done | exact rfl))) | (refine W_cT ?_ ?_; focus (simp only [evx,List.contains,List.elem,z2,z3,AV.unf,reduceIte,z23,boolD]; done)) | (refine W_cF ?_ ?_; focus (simp only [evx,List.contains,List.elem,z2,z3,AV.unf,reduceIte,z23,boolD]; done))) <;> (try simp only [seqK,blockK,loopK,onlyK,forgetT,put,unflag,z4,z5,z2,z3,AV.unf,reduceIte,Nat.reduceEqDiff,Nat.reduceAdd])))
    exact ans_cut rfl rfl ⟨rfl, rfl⟩

/-- A row of letters, at a place. -/
theorem cel_cons (a : Int × Bool) (l : List (Int × Bool)) : cel (a :: l) = .d (.int .i32 a.1) :: .d (.bool a.2) :: cel l := by simp [cel]
theorem cel_drop (l : List (Int × Bool)) : ∀ i, (cel l).drop (i * 2) = cel (l.drop i) := by
  induction l with
  | nil => intro i; simp [cel]
  | cons a l ih =>
    intro i
    cases i with
    | zero => simp
    | succ i =>
      rw [cel_cons, List.drop_succ_cons, show (i + 1) * 2 = i * 2 + 1 + 1 from by omega, List.drop_succ_cons, List.drop_succ_cons, ih]
theorem cel_at {l : List (Int × Bool)} {i : Nat} {t : Int × Bool} (h : l[i]? = some t) : ((cel l).drop (i * 2)).take 2 = [.d (.int .i32 t.1), .d (.bool t.2)] := by
  have hi := (List.getElem?_eq_some_iff.1 h).1
  rw [cel_drop, List.drop_eq_getElem_cons hi, (List.getElem?_eq_some_iff.1 h).2, cel_cons]; rfl
theorem cel_get {l : List (Int × Bool)} {i : Nat} {t : Int × Bool} (h : l[i]? = some t) : (cel l)[i * 2]? = some (.d (.int .i32 t.1)) := by
  have := congrArg (fun l => l[0]?) (cel_at h)
  simpa using this
theorem cel_take2 (l : List (Int × Bool)) : ∀ i, (cel l).take (i * 2) = cel (l.take i) := by
  induction l with
  | nil => intro i; simp [cel]
  | cons a l ih =>
    intro i
    cases i with
    | zero => simp [cel]
    | succ i =>
      rw [cel_cons, List.take_succ_cons, show (i + 1) * 2 = i * 2 + 1 + 1 from by omega, List.take_succ_cons, List.take_succ_cons, ih, cel_cons]
theorem cel_splice {l : List (Int × Bool)} {i : Nat} {c : Int} {r : Bool} (h : l[i]? = some (c, r)) (n : Int) : List.take (i * 2) (cel l) ++ AV.d (.int .i32 n) :: List.drop (i * 2 + 1) (cel l) = cel (l.set i (n, r)) := by
  have hi := (List.getElem?_eq_some_iff.1 h).1
  have e1 : (cel l).drop (i * 2 + 1) = .d (.bool r) :: cel (l.drop (i + 1)) := by
    rw [← List.drop_drop, cel_drop, List.drop_eq_getElem_cons hi, (List.getElem?_eq_some_iff.1 h).2, cel_cons]; rfl
  have ea : ∀ a b, cel (a ++ b) = cel a ++ cel b := fun a b => by simp [cel]
  rw [e1, cel_take2, List.set_eq_take_append_cons_drop, if_pos hi, ea, cel_cons]

def low1 (t : Int × Bool) : Int × Bool := if t.2 = false ∧ 65 ≤ t.1 ∧ t.1 ≤ 90 then (t.1 + 32, t.2) else t

/-- Low letters, in place. -/
theorem lows_ev (lim : Nat) (K : AHeap) (v : AV) (l : List (Int × Bool)) (lo : Nat) (hv : RV K lo v l) (hlo : lim ≤ lo) (hl : l.length ≤ 100000) :
    Go.Abs.Fn X 21 lim [v] K fun v' K' => v' = v ∧ RV K' lo v (l.map low1) ∧ K.length ≤ K'.length ∧ ∀ q, q < K.length → (∀ r a b c d, v = .oslice r a b c d → q ≠ r) → K'[q]? = K[q]? := by
  rcases hv with ⟨rfl, rfl⟩ | ⟨r, hr, rfl, hne, hK⟩
  · refine Fn_of rfl (show code 21 = some c21 from rfl) rfl ?_; simp only [List.length_cons, List.length_nil, Nat.reduceAdd, Nat.reduceSub, List.reduceReplicate, List.cons_append, List.nil_append, reduceIte, Bool.false_eq_true]
    (repeat ((first | refine W_sq ?_ | refine W_bk ?_ | refine W_ret ?_ | refine W_exit ?_ | refine W_skip ?_ | (apply W_rg; focus (intro _; simp only [z0,srcC,AV.growable,AV.owned,evalC,evalR,runOps,stepOp,wanted,aop,evx,put,unflag,binV,nilEq,isShift,binStr,unV,AV.elems,AV.unf,AV.int?,AV.toD,AV.toDs,AV.mkAgg,AV.pures,AV.cells,D.cells,AV.isCell,D.isCell,readCells,readD,optInt,fill,splice,srcOf,z1,List.contains,List.elem,z2,z3,z4,z5,z6,z7,z8,z9,z10,z11,z12,z13,z14,z15,z16,z17,z18,z19,z20,z21,z22,Option.map,intD,boolD,bD,reduceIte,z23,z24,forgetT,Nat.reduceAdd,Nat.reduceLeDiff,Nat.reduceMul,Nat.reduceSub,Nat.reduceEqDiff,Nat.reduceBEq,Nat.reduceBNe,z25,z26,z27,z28,z29,z30,z31,z32,z33,z34,z35,z36,z37,z38,z39,z40,z41,z42,z43,z44,z45,z46,z47,z48,z49,z50,z51,z52,Int.reduceToNat,z53,z54,z55,z56,z57,z58,Int.reduceBEq,Int.reduceBNe,Int.reduceLT,Int.reduceLE,Int.reduceGT,Int.reduceGE,Int.reduceEq,z59,z60,z61,z62,List.reduceReplicate,z63,z64,z65,z66,z67,chunks]; (first | done | exact rfl))) | (refine W_cT ?_ ?_; focus (simp only [evx,List.contains,List.elem,z2,z3,AV.unf,reduceIte,z23,boolD]; done)) | (refine W_cF ?_ ?_; focus (simp only [evx,List.contains,List.elem,z2,z3,AV.unf,reduceIte,z23,boolD]; done))) <;> (try simp only [seqK,blockK,loopK,onlyK,forgetT,put,unflag,z4,z5,z2,z3,AV.unf,reduceIte,Nat.reduceEqDiff,Nat.reduceAdd])))
    refine W_lp (fun k st => ∃ x : Nat → AV, st = ⟨[.fslice [], x 1, x 2, .fslice [], .d (.slice []), intD 0, intD 0, x 7, x 8, x 9, x 10], K⟩) ?_ 0 _ (ex_st _ _ _ rfl)
    rintro k _ ⟨x, rfl⟩
    (repeat ((first | refine W_sq ?_ | refine W_bk ?_ | refine W_ret ?_ | refine W_exit ?_ | refine W_skip ?_ | (apply W_rg; focus (intro _; simp only [z0,srcC,AV.growable,AV.owned,evalC,evalR,runOps,stepOp,wanted,aop,evx,put,unflag,binV,nilEq,isShift,binStr,unV,AV.elems,AV.unf,AV.int?,AV.toD,AV.toDs,AV.mkAgg,AV.pures,AV.cells,D.cells,AV.isCell,D.isCell,readCells,readD,optInt,fill,splice,srcOf,z1,List.contains,List.elem,z2,z3,z4,z5,z6,z7,z8,z9,z10,z11,z12,z13,z14,z15,z16,z17,z18,z19,z20,z21,z22,Option.map,intD,boolD,bD,reduceIte,z23,z24,forgetT,Nat.reduceAdd,Nat.reduceLeDiff,Nat.reduceMul,Nat.reduceSub,Nat.reduceEqDiff,Nat.reduceBEq,Nat.reduceBNe,z25,z26,z27,z28,z29,z30,z31,z32,z33,z34,z35,z36,z37,z38,z39,z40,z41,z42,z43,z44,z45,z46,z47,z48,z49,z50,z51,z52,Int.reduceToNat,z53,z54,z55,z56,z57,z58,Int.reduceBEq,Int.reduceBNe,Int.reduceLT,Int.reduceLE,Int.reduceGT,Int.reduceGE,Int.reduceEq,z59,z60,z61,z62,List.reduceReplicate,z63,z64,z65,z66,z67,chunks, b_lss, Int.lt_irrefl]; (first | done | exact rfl))) | (refine W_cT ?_ ?_; focus (simp only [evx,List.contains,List.elem,z2,z3,AV.unf,reduceIte,z23,boolD]; done)) | (refine W_cF ?_ ?_; focus (simp only [evx,List.contains,List.elem,z2,z3,AV.unf,reduceIte,z23,boolD]; done))) <;> (try simp only [seqK,blockK,loopK,onlyK,forgetT,put,unflag,z4,z5,z2,z3,AV.unf,reduceIte,Nat.reduceEqDiff,Nat.reduceAdd])))
    exact ans_keep rfl ⟨rfl, .inl ⟨rfl, rfl⟩, Nat.le_refl _, fun q _ _ => rfl⟩
  · refine Fn_of rfl (show code 21 = some c21 from rfl) rfl ?_; simp only [List.length_cons, List.length_nil, Nat.reduceAdd, Nat.reduceSub, List.reduceReplicate, List.cons_append, List.nil_append, reduceIte, Bool.false_eq_true]
    have hrK := (List.getElem?_eq_some_iff.1 hK).1
    have hlr : lim ≤ r := by omega
    (repeat ((first | refine W_sq ?_ | refine W_bk ?_ | refine W_ret ?_ | refine W_exit ?_ | refine W_skip ?_ | (apply W_rg; focus (intro _; simp only [z0,srcC,AV.growable,AV.owned,evalC,evalR,runOps,stepOp,wanted,aop,evx,put,unflag,binV,nilEq,isShift,binStr,unV,AV.elems,AV.unf,AV.int?,AV.toD,AV.toDs,AV.mkAgg,AV.pures,AV.cells,D.cells,AV.isCell,D.isCell,readCells,readD,optInt,fill,splice,srcOf,z1,List.contains,List.elem,z2,z3,z4,z5,z6,z7,z8,z9,z10,z11,z12,z13,z14,z15,z16,z17,z18,z19,z20,z21,z22,Option.map,intD,boolD,bD,reduceIte,z23,z24,forgetT,Nat.reduceAdd,Nat.reduceLeDiff,Nat.reduceMul,Nat.reduceSub,Nat.reduceEqDiff,Nat.reduceBEq,Nat.reduceBNe,z25,z26,z27,z28,z29,z30,z31,z32,z33,z34,z35,z36,z37,z38,z39,z40,z41,z42,z43,z44,z45,z46,z47,z48,z49,z50,z51,z52,Int.reduceToNat,z53,z54,z55,z56,z57,z58,Int.reduceBEq,Int.reduceBNe,Int.reduceLT,Int.reduceLE,Int.reduceGT,Int.reduceGE,Int.reduceEq,z59,z60,z61,z62,List.reduceReplicate,z63,z64,z65,z66,z67,chunks]; (first | done | exact rfl))) | (refine W_cT ?_ ?_; focus (simp only [evx,List.contains,List.elem,z2,z3,AV.unf,reduceIte,z23,boolD]; done)) | (refine W_cF ?_ ?_; focus (simp only [evx,List.contains,List.elem,z2,z3,AV.unf,reduceIte,z23,boolD]; done))) <;> (try simp only [seqK,blockK,loopK,onlyK,forgetT,put,unflag,z4,z5,z2,z3,AV.unf,reduceIte,Nat.reduceEqDiff,Nat.reduceAdd])))
    refine W_lp (fun k st => ∃ (i : Nat) (J : AHeap), i ≤ l.length ∧ k = l.length - i ∧ J[r]? = some (.cells (cel ((l.take i).map low1 ++ l.drop i))) ∧ K.length ≤ J.length ∧ (∀ q, q < K.length → q ≠ r → J[q]? = K[q]?) ∧
      ∃ x : Nat → AV, st = ⟨[.oslice r 0 l.length l.length 2, x 1, x 2, .fslice [], .oslice r 0 l.length l.length 2, intD l.length, intD i, x 7, x 8, x 9, x 10], J⟩) ?_ _ _ ⟨0, K, Nat.zero_le _, rfl, by simpa using hK, Nat.le_refl _, fun _ _ _ => rfl, ex_st _ _ _ rfl⟩
    rintro k _ ⟨i, J, hi, rfl, hJ, hJl, hJq, x, rfl⟩
    by_cases q0 : i < l.length
    · have f0 : ((i : Int) < (l.length : Int)) = True := eq_true (by omega)
      have c1 : (0 : Int) ≤ (i : Int) ∧ (i : Int) < (l.length : Int) := by omega
      have w1 : IntKind.i64.wrap ((i : Int) + 1) = ((i + 1 : Nat) : Int) := wsucc (by omega)
      obtain ⟨⟨c, b⟩, ht⟩ : ∃ t, l[i]? = some t := ⟨_, List.getElem?_eq_getElem q0⟩
      have hLi : ((l.take i).map low1 ++ l.drop i)[i]? = some (c, b) := by
        rw [List.getElem?_append_right (by simp; omega)]
        simp [Nat.min_eq_left (Nat.le_of_lt q0), ht]
      have hLl : ((l.take i).map low1 ++ l.drop i).length = l.length := by simp; omega
      have hnx : (l.take (i + 1)).map low1 ++ l.drop (i + 1) = ((l.take i).map low1 ++ l.drop i).set i (low1 (c, b)) := by
        have em : ((l.take i).map low1).length = i := by simp; omega
        rw [List.take_add_one, ht, List.set_append_right _ _ (by omega), em, Nat.sub_self, List.drop_eq_getElem_cons q0, List.set_cons_zero]
        simp
      generalize (l.take i).map low1 ++ l.drop i = L at hJ hLi hLl hnx
      have ha := cel_at hLi
      have hg := cel_get hLi
      have hc2 : i * 2 + 2 ≤ (cel L).length := by rw [cel_len]; omega
      have hc3 : i * 2 + 1 ≤ (cel L).length := by rw [cel_len]; omega
      have hsp := cel_splice hLi (c + 32)
      have hlJ : lim ≤ J.length := by omega
      have hcl : (D.agg [D.int .i32 c, D.bool b]).cells = [D.int .i32 c, D.bool b] := rfl
      have hrJ : r < J.length := (List.getElem?_eq_some_iff.1 hJ).1
      have hJm : ∀ o : AObj, (J ++ [o])[r]? = some (.cells (cel L)) := fun o => get_more o hJ
      have fin : ∀ J' : AHeap, K.length ≤ J'.length → (∀ q, q < K.length → q ≠ r → J'[q]? = K[q]?) → J'[r]? = some (.cells (cel (L.set i (low1 (c, b))))) → ∃ (k' i' : Nat), k' < l.length - i ∧ i' = i + 1 ∧ i' ≤ l.length ∧ k' = l.length - i' ∧ J'[r]? = some (.cells (cel ((l.take i').map low1 ++ l.drop i'))) ∧ K.length ≤ J'.length ∧ (∀ q, q < K.length → q ≠ r → J'[q]? = K[q]?) :=
        fun J' a b c => ⟨_, i + 1, by omega, rfl, by omega, rfl, by rw [hnx]; exact c, a, b⟩
      have fin0 : low1 (c, b) = (c, b) → ∀ o : AObj, ∃ (k' i' : Nat), k' < l.length - i ∧ i' = i + 1 ∧ i' ≤ l.length ∧ k' = l.length - i' ∧ (J ++ [o])[r]? = some (.cells (cel ((l.take i').map low1 ++ l.drop i'))) ∧ K.length ≤ (J ++ [o]).length ∧ (∀ q, q < K.length → q ≠ r → (J ++ [o])[q]? = K[q]?) := fun e o =>
        fin _ (by simp; omega) (fun q h1 h2 => by rw [List.getElem?_append_left (by omega)]; exact hJq q h1 h2) (by
          rw [e, hJm]
          have : L.set i (c, b) = L := by
            apply List.ext_getElem?
            intro q
            by_cases e : i = q
            · subst e; rw [List.getElem?_set_self (by omega)]; exact hLi.symm
            · rw [List.getElem?_set_ne e]
          rw [this])
      cases b with
      | true =>
        obtain ⟨k', i', y1, y2, y3, y4, y5, y6, y7⟩ := fin0 (by simp [low1]) (.cells [.d (.int .i32 c), .d (.bool true)])
        (repeat ((first | refine W_sq ?_ | refine W_bk ?_ | refine W_ret ?_ | refine W_exit ?_ | refine W_skip ?_ | (apply W_rg; focus (intro _; simp only [z0,srcC,AV.growable,AV.owned,evalC,evalR,runOps,stepOp,wanted,aop,evx,put,unflag,binV,nilEq,isShift,binStr,unV,AV.elems,AV.unf,AV.int?,AV.toD,AV.toDs,AV.mkAgg,AV.pures,AV.cells,D.cells,AV.isCell,D.isCell,readCells,readD,optInt,fill,splice,srcOf,z1,List.contains,List.elem,z2,z3,z4,z5,z6,z7,z8,z9,z10,z11,z12,z13,z14,z15,z16,z17,z18,z19,z20,z21,z22,Option.map,intD,boolD,bD,reduceIte,z23,z24,forgetT,Nat.reduceAdd,Nat.reduceLeDiff,Nat.reduceMul,Nat.reduceSub,Nat.reduceEqDiff,Nat.reduceBEq,Nat.reduceBNe,z25,z26,z27,z28,z29,z30,z31,z32,z33,z34,z35,z36,z37,z38,z39,z40,z41,z42,z43,z44,z45,z46,z47,z48,z49,z50,z51,z52,Int.reduceToNat,z53,z54,z55,z56,z57,z58,Int.reduceBEq,Int.reduceBNe,Int.reduceLT,Int.reduceLE,Int.reduceGT,Int.reduceGE,Int.reduceEq,z59,z60,z61,z62,List.reduceReplicate,z63,z64,z65,z66,z67,chunks, hlJ, hcl, b_lss, b_add, b_geq, b_leq, f0, c1, w1, hJ, hc2, ha, Nat.zero_add, Nat.add_zero]; (first | done | exact rfl))) | (refine W_cT ?_ ?_; focus (simp only [evx,List.contains,List.elem,z2,z3,AV.unf,reduceIte,z23,boolD]; done)) | (refine W_cF ?_ ?_; focus (simp only [evx,List.contains,List.elem,z2,z3,AV.unf,reduceIte,z23,boolD]; done))) <;> (try simp only [seqK,blockK,loopK,onlyK,forgetT,put,unflag,z4,z5,z2,z3,AV.unf,reduceIte,Nat.reduceEqDiff,Nat.reduceAdd])))
        exact ⟨k', y1, i', _, y3, y4, y5, y6, y7, y2 ▸ ex_st _ _ _ rfl⟩
      | false =>
        by_cases h1 : 65 ≤ c
        · have f1 : (c ≥ 65) = True := eq_true h1
          by_cases h2 : c ≤ 90
          · have f2 : (c ≤ 90) = True := eq_true h2
            have el : low1 (c, false) = (c + 32, false) := by simp [low1, h1, h2]
            have w2 : IntKind.i32.wrap (c + 32) = c + 32 := by
              have e1 : ((c + 32) % 2 ^ 32) = c + 32 := Int.emod_eq_of_lt (by omega) (by omega)
              have e2 : ¬ ((c + 32) ≥ 2 ^ (32 - 1)) := by omega
              simp only [IntKind.wrap, IntKind.signed, IntKind.bits, e1, e2, decide_false, Bool.and_false, Bool.false_eq_true, if_false]
            rw [el] at fin
            (repeat ((first | refine W_sq ?_ | refine W_bk ?_ | refine W_ret ?_ | refine W_exit ?_ | refine W_skip ?_ | (apply W_rg; focus (intro _; simp only [z0,srcC,AV.growable,AV.owned,evalC,evalR,runOps,stepOp,wanted,aop,evx,put,unflag,binV,nilEq,isShift,binStr,unV,AV.elems,AV.unf,AV.int?,AV.toD,AV.toDs,AV.mkAgg,AV.pures,AV.cells,D.cells,AV.isCell,D.isCell,readCells,readD,optInt,fill,splice,srcOf,z1,List.contains,List.elem,z2,z3,z4,z5,z6,z7,z8,z9,z10,z11,z12,z13,z14,z15,z16,z17,z18,z19,z20,z21,z22,Option.map,intD,boolD,bD,reduceIte,z23,z24,forgetT,Nat.reduceAdd,Nat.reduceLeDiff,Nat.reduceMul,Nat.reduceSub,Nat.reduceEqDiff,Nat.reduceBEq,Nat.reduceBNe,z25,z26,z27,z28,z29,z30,z31,z32,z33,z34,z35,z36,z37,z38,z39,z40,z41,z42,z43,z44,z45,z46,z47,z48,z49,z50,z51,z52,Int.reduceToNat,z53,z54,z55,z56,z57,z58,Int.reduceBEq,Int.reduceBNe,Int.reduceLT,Int.reduceLE,Int.reduceGT,Int.reduceGE,Int.reduceEq,z59,z60,z61,z62,List.reduceReplicate,z63,z64,z65,z66,z67,chunks, hlJ, hcl, b_lss, b_add, b_geq, b_leq, f0, f1, f2, c1, w1, w2, hlr, hJ, hJm, hc2, hc3, ha, hg, hsp, Nat.zero_add, Nat.add_zero]; (first | done | exact rfl))) | (refine W_cT ?_ ?_; focus (simp only [evx,List.contains,List.elem,z2,z3,AV.unf,reduceIte,z23,boolD]; done)) | (refine W_cF ?_ ?_; focus (simp only [evx,List.contains,List.elem,z2,z3,AV.unf,reduceIte,z23,boolD]; done))) <;> (try simp only [seqK,blockK,loopK,onlyK,forgetT,put,unflag,z4,z5,z2,z3,AV.unf,reduceIte,Nat.reduceEqDiff,Nat.reduceAdd])))
            obtain ⟨k', i', y1, y2, y3, y4, y5, y6, y7⟩ := fin ((J ++ [AObj.cells [.d (.int .i32 c), .d (.bool false)]]).set r (.cells (cel (L.set i (c + 32, false))))) (by simp; omega) (fun q h1 h2 => by rw [List.getElem?_set_ne (Ne.symm h2), List.getElem?_append_left (by omega)]; exact hJq q h1 h2) (List.getElem?_set_self (by simp; omega))
            exact ⟨k', y1, i', _, y3, y4, y5, y6, y7, y2 ▸ ex_st _ _ _ rfl⟩
          · have f2 : (c ≤ 90) = False := eq_false h2
            obtain ⟨k', i', y1, y2, y3, y4, y5, y6, y7⟩ := fin0 (by simp [low1, h2]) (.cells [.d (.int .i32 c), .d (.bool false)])
            (repeat ((first | refine W_sq ?_ | refine W_bk ?_ | refine W_ret ?_ | refine W_exit ?_ | refine W_skip ?_ | (apply W_rg; focus (intro _; simp only [z0,srcC,AV.growable,AV.owned,evalC,evalR,runOps,stepOp,wanted,aop,evx,put,unflag,binV,nilEq,isShift,binStr,unV,AV.elems,AV.unf,AV.int?,AV.toD,AV.toDs,AV.mkAgg,AV.pures,AV.cells,D.cells,AV.isCell,D.isCell,readCells,readD,optInt,fill,splice,srcOf,z1,List.contains,List.elem,z2,z3,z4,z5,z6,z7,z8,z9,z10,z11,z12,z13,z14,z15,z16,z17,z18,z19,z20,z21,z22,Option.map,intD,boolD,bD,reduceIte,z23,z24,forgetT,Nat.reduceAdd,Nat.reduceLeDiff,Nat.reduceMul,Nat.reduceSub,Nat.reduceEqDiff,Nat.reduceBEq,Nat.reduceBNe,z25,z26,z27,z28,z29,z30,z31,z32,z33,z34,z35,z36,z37,z38,z39,z40,z41,z42,z43,z44,z45,z46,z47,z48,z49,z50,z51,z52,Int.reduceToNat,z53,z54,z55,z56,z57,z58,Int.reduceBEq,Int.reduceBNe,Int.reduceLT,Int.reduceLE,Int.reduceGT,Int.reduceGE,Int.reduceEq,z59,z60,z61,z62,List.reduceReplicate,z63,z64,z65,z66,z67,chunks, hlJ, hcl, b_lss, b_add, b_geq, b_leq, f0, f1, f2, c1, w1, hJ, hc2, ha, Nat.zero_add, Nat.add_zero]; (first | done | exact rfl))) | (refine W_cT ?_ ?_; focus (simp only [evx,List.contains,List.elem,z2,z3,AV.unf,reduceIte,z23,boolD]; done)) | (refine W_cF ?_ ?_; focus (simp only [evx,List.contains,List.elem,z2,z3,AV.unf,reduceIte,z23,boolD]; done))) <;> (try simp only [seqK,blockK,loopK,onlyK,forgetT,put,unflag,z4,z5,z2,z3,AV.unf,reduceIte,Nat.reduceEqDiff,Nat.reduceAdd])))
            exact ⟨k', y1, i', _, y3, y4, y5, y6, y7, y2 ▸ ex_st _ _ _ rfl⟩
        · have f1 : (c ≥ 65) = False := eq_false h1
          obtain ⟨k', i', y1, y2, y3, y4, y5, y6, y7⟩ := fin0 (by simp [low1, h1]) (.cells [.d (.int .i32 c), .d (.bool false)])
          (repeat ((first | refine W_sq ?_ | refine W_bk ?_ | refine W_ret ?_ | refine W_exit ?_ | refine W_skip ?_ | (apply W_rg; focus (intro _; simp only [z0,srcC,AV.growable,AV.owned,evalC,evalR,runOps,stepOp,wanted,aop,evx,put,unflag,binV,nilEq,isShift,binStr,unV,AV.elems,AV.unf,AV.int?,AV.toD,AV.toDs,AV.mkAgg,AV.pures,AV.cells,D.cells,AV.isCell,D.isCell,readCells,readD,optInt,fill,splice,srcOf,z1,List.contains,List.elem,z2,z3,z4,z5,z6,z7,z8,z9,z10,z11,z12,z13,z14,z15,z16,z17,z18,z19,z20,z21,z22,Option.map,intD,boolD,bD,reduceIte,z23,z24,forgetT,Nat.reduceAdd,Nat.reduceLeDiff,Nat.reduceMul,Nat.reduceSub,Nat.reduceEqDiff,Nat.reduceBEq,Nat.reduceBNe,z25,z26,z27,z28,z29,z30,z31,z32,z33,z34,z35,z36,z37,z38,z39,z40,z41,z42,z43,z44,z45,z46,z47,z48,z49,z50,z51,z52,Int.reduceToNat,z53,z54,z55,z56,z57,z58,Int.reduceBEq,Int.reduceBNe,Int.reduceLT,Int.reduceLE,Int.reduceGT,Int.reduceGE,Int.reduceEq,z59,z60,z61,z62,List.reduceReplicate,z63,z64,z65,z66,z67,chunks, hlJ, hcl, b_lss, b_add, b_geq, b_leq, f0, f1, c1, w1, hJ, hc2, ha, Nat.zero_add, Nat.add_zero]; (first | done | exact rfl))) | (refine W_cT ?_ ?_; focus (simp only [evx,List.contains,List.elem,z2,z3,AV.unf,reduceIte,z23,boolD]; done)) | (refine W_cF ?_ ?_; focus (simp only [evx,List.contains,List.elem,z2,z3,AV.unf,reduceIte,z23,boolD]; done))) <;> (try simp only [seqK,blockK,loopK,onlyK,forgetT,put,unflag,z4,z5,z2,z3,AV.unf,reduceIte,Nat.reduceEqDiff,Nat.reduceAdd])))
          exact ⟨k', y1, i', _, y3, y4, y5, y6, y7, y2 ▸ ex_st _ _ _ rfl⟩
    · obtain rfl : i = l.length := by omega
      have f0 : ((l.length : Int) < (l.length : Int)) = False := eq_false (by omega)
      rw [List.take_length, List.drop_length, List.append_nil] at hJ
      (repeat ((first | refine W_sq ?_ | refine W_bk ?_ | refine W_ret ?_ | refine W_exit ?_ | refine W_skip ?_ | (apply W_rg; focus (intro _; simp only [z0,srcC,AV.growable,AV.owned,evalC,evalR,runOps,stepOp,wanted,aop,evx,put,unflag,binV,nilEq,isShift,binStr,unV,AV.elems,AV.unf,AV.int?,AV.toD,AV.toDs,AV.mkAgg,AV.pures,AV.cells,D.cells,AV.isCell,D.isCell,readCells,readD,optInt,fill,splice,srcOf,z1,List.contains,List.elem,z2,z3,z4,z5,z6,z7,z8,z9,z10,z11,z12,z13,z14,z15,z16,z17,z18,z19,z20,z21,z22,Option.map,intD,boolD,bD,reduceIte,z23,z24,forgetT,Nat.reduceAdd,Nat.reduceLeDiff,Nat.reduceMul,Nat.reduceSub,Nat.reduceEqDiff,Nat.reduceBEq,Nat.reduceBNe,z25,z26,z27,z28,z29,z30,z31,z32,z33,z34,z35,z36,z37,z38,z39,z40,z41,z42,z43,z44,z45,z46,z47,z48,z49,z50,z51,z52,Int.reduceToNat,z53,z54,z55,z56,z57,z58,Int.reduceBEq,Int.reduceBNe,Int.reduceLT,Int.reduceLE,Int.reduceGT,Int.reduceGE,Int.reduceEq,z59,z60,z61,z62,List.reduceReplicate,z63,z64,z65,z66,z67,chunks, b_lss, f0]; (first | done | exact rfl))) | (refine W_cT ?_ ?_; focus (simp only [evx,List.contains,List.elem,z2,z3,AV.unf,reduceIte,z23,boolD]; done)) | (refine W_cF ?_ ?_; focus (simp only [evx,List.contains,List.elem,z2,z3,AV.unf,reduceIte,z23,boolD]; done))) <;> (try simp only [seqK,blockK,loopK,onlyK,forgetT,put,unflag,z4,z5,z2,z3,AV.unf,reduceIte,Nat.reduceEqDiff,Nat.reduceAdd])))
      exact ans_keep rfl ⟨rfl, .inr ⟨r, hr, by rw [List.length_map], by simpa using hne, hJ⟩, hJl, fun q h1 h2 => hJq q h1 (h2 r _ _ _ _ rfl)⟩

def wordP (t : Int × Bool) : Bool := !t.2 && (decide (97 ≤ t.1 ∧ t.1 ≤ 122) || decide (65 ≤ t.1 ∧ t.1 ≤ 90) || decide (48 ≤ t.1 ∧ t.1 ≤ 57) || decide (t.1 = 95) || decide (128 ≤ t.1))
theorem wordP_yes {n : Int} (h : (97 ≤ n ∧ n ≤ 122) ∨ (65 ≤ n ∧ n ≤ 90) ∨ (48 ≤ n ∧ n ≤ 57) ∨ n = 95 ∨ 128 ≤ n) : wordP (n, false) = true := by simp only [wordP, Bool.not_false, Bool.true_and, Bool.or_eq_true, decide_eq_true_eq]; omega
theorem wordP_no {n : Int} (h : ¬ ((97 ≤ n ∧ n ≤ 122) ∨ (65 ≤ n ∧ n ≤ 90) ∨ (48 ≤ n ∧ n ≤ 57) ∨ n = 95 ∨ 128 ≤ n)) : wordP (n, false) = false := by
  rw [← Bool.not_eq_true]
  simp only [wordP, Bool.not_false, Bool.true_and, Bool.or_eq_true, decide_eq_true_eq]; omega

theorem wordP_ev (lim : Nat) (H : AHeap) (t : Int × Bool) : Ev X 24 lim [.d (lD t)] H (boolD (wordP t)) H := by
  refine Fn.ev ?_
  refine Fn_of rfl (show code 24 = some c24 from rfl) rfl ?_; simp only [List.length_cons, List.length_nil, Nat.reduceAdd, Nat.reduceSub, List.reduceReplicate, List.cons_append, List.nil_append, reduceIte, Bool.false_eq_true]
  obtain ⟨n, b⟩ := t
  cases b with
  | true =>
    (repeat ((first | refine W_sq ?_ | refine W_bk ?_ | refine W_ret ?_ | refine W_exit ?_ | refine W_skip ?_ | (apply W_rg; focus (intro _; simp only [z0,srcC,AV.growable,AV.owned,evalC,evalR,runOps,stepOp,wanted,aop,evx,put,unflag,binV,nilEq,isShift,binStr,unV,AV.elems,AV.unf,AV.int?,AV.toD,AV.toDs,AV.mkAgg,AV.pures,AV.cells,D.cells,AV.isCell,D.isCell,readCells,readD,optInt,fill,splice,srcOf,z1,List.contains,List.elem,z2,z3,z4,z5,z6,z7,z8,z9,z10,z11,z12,z13,z14,z15,z16,z17,z18,z19,z20,z21,z22,Option.map,intD,boolD,bD,reduceIte,z23,z24,forgetT,Nat.reduceAdd,Nat.reduceLeDiff,Nat.reduceMul,Nat.reduceSub,Nat.reduceEqDiff,Nat.reduceBEq,Nat.reduceBNe,z25,z26,z27,z28,z29,z30,z31,z32,z33,z34,z35,z36,z37,z38,z39,z40,z41,z42,z43,z44,z45,z46,z47,z48,z49,z50,z51,z52,Int.reduceToNat,z53,z54,z55,z56,z57,z58,Int.reduceBEq,Int.reduceBNe,Int.reduceLT,Int.reduceLE,Int.reduceGT,Int.reduceGE,Int.reduceEq,z59,z60,z61,z62,List.reduceReplicate,z63,z64,z65,z66,z67,chunks, lD]; (first | done | exact rfl))) | (refine W_cT ?_ ?_; focus (simp only [evx,List.contains,List.elem,z2,z3,AV.unf,reduceIte,z23,boolD]; done)) | (refine W_cF ?_ ?_; focus (simp only [evx,List.contains,List.elem,z2,z3,AV.unf,reduceIte,z23,boolD]; done))) <;> (try simp only [seqK,blockK,loopK,onlyK,forgetT,put,unflag,z4,z5,z2,z3,AV.unf,reduceIte,Nat.reduceEqDiff,Nat.reduceAdd])))
    exact ans_cut rfl rfl ⟨rfl, rfl⟩
  | false =>
    rcases (by omega : (n < 48) ∨ (48 ≤ n ∧ n ≤ 57) ∨ (58 ≤ n ∧ n ≤ 64) ∨ (65 ≤ n ∧ n ≤ 90) ∨ (91 ≤ n ∧ n ≤ 94) ∨ (n = 95) ∨ (n = 96) ∨ (97 ≤ n ∧ n ≤ 122) ∨ (122 < n ∧ n < 128) ∨ (128 ≤ n)) with h | h | h | h | h | h | h | h | h | h
    · have g0 : (n ≥ 97) = False := eq_false (by omega)
      have g1 : (n ≤ 122) = True := eq_true (by omega)
      have g2 : (n ≥ 65) = False := eq_false (by omega)
      have g3 : (n ≤ 90) = True := eq_true (by omega)
      have g4 : (n ≥ 48) = False := eq_false (by omega)
      have g5 : (n ≤ 57) = True := eq_true (by omega)
      have g6 : (n == 95) = false := by simp; omega
      have g7 : (n ≥ 128) = False := eq_false (by omega)
      rw [wordP_no (by omega)]
      (repeat ((first | refine W_sq ?_ | refine W_bk ?_ | refine W_ret ?_ | refine W_exit ?_ | refine W_skip ?_ | (apply W_rg; focus (intro _; simp only [z0,srcC,AV.growable,AV.owned,evalC,evalR,runOps,stepOp,wanted,aop,evx,put,unflag,binV,nilEq,isShift,binStr,unV,AV.elems,AV.unf,AV.int?,AV.toD,AV.toDs,AV.mkAgg,AV.pures,AV.cells,D.cells,AV.isCell,D.isCell,readCells,readD,optInt,fill,splice,srcOf,z1,List.contains,List.elem,z2,z3,z4,z5,z6,z7,z8,z9,z10,z11,z12,z13,z14,z15,z16,z17,z18,z19,z20,z21,z22,Option.map,intD,boolD,bD,reduceIte,z23,z24,forgetT,Nat.reduceAdd,Nat.reduceLeDiff,Nat.reduceMul,Nat.reduceSub,Nat.reduceEqDiff,Nat.reduceBEq,Nat.reduceBNe,z25,z26,z27,z28,z29,z30,z31,z32,z33,z34,z35,z36,z37,z38,z39,z40,z41,z42,z43,z44,z45,z46,z47,z48,z49,z50,z51,z52,Int.reduceToNat,z53,z54,z55,z56,z57,z58,Int.reduceBEq,Int.reduceBNe,Int.reduceLT,Int.reduceLE,Int.reduceGT,Int.reduceGE,Int.reduceEq,z59,z60,z61,z62,List.reduceReplicate,z63,z64,z65,z66,z67,chunks, lD, b_gtr, b_geq, b_leq, b_eql, g0, g1, g2, g3, g4, g5, g6, g7]; (first | done | exact rfl))) | (refine W_cT ?_ ?_; focus (simp only [evx,List.contains,List.elem,z2,z3,AV.unf,reduceIte,z23,boolD]; done)) | (refine W_cF ?_ ?_; focus (simp only [evx,List.contains,List.elem,z2,z3,AV.unf,reduceIte,z23,boolD]; done))) <;> (try simp only [seqK,blockK,loopK,onlyK,forgetT,put,unflag,z4,z5,z2,z3,AV.unf,reduceIte,Nat.reduceEqDiff,Nat.reduceAdd])))
      exact ans_cut rfl rfl ⟨rfl, rfl⟩
    · have g0 : (n ≥ 97) = False := eq_false (by omega)
      have g1 : (n ≤ 122) = True := eq_true (by omega)
      have g2 : (n ≥ 65) = False := eq_false (by omega)
      have g3 : (n ≤ 90) = True := eq_true (by omega)
      have g4 : (n ≥ 48) = True := eq_true (by omega)
      have g5 : (n ≤ 57) = True := eq_true (by omega)
      have g6 : (n == 95) = false := by simp; omega
      have g7 : (n ≥ 128) = False := eq_false (by omega)
      rw [wordP_yes (by omega)]
      (repeat ((first | refine W_sq ?_ | refine W_bk ?_ | refine W_ret ?_ | refine W_exit ?_ | refine W_skip ?_ | (apply W_rg; focus (intro _; simp only [z0,srcC,AV.growable,AV.owned,evalC,evalR,runOps,stepOp,wanted,aop,evx,put,unflag,binV,nilEq,isShift,binStr,unV,AV.elems,AV.unf,AV.int?,AV.toD,AV.toDs,AV.mkAgg,AV.pures,AV.cells,D.cells,AV.isCell,D.isCell,readCells,readD,optInt,fill,splice,srcOf,z1,List.contains,List.elem,z2,z3,z4,z5,z6,z7,z8,z9,z10,z11,z12,z13,z14,z15,z16,z17,z18,z19,z20,z21,z22,Option.map,intD,boolD,bD,reduceIte,z23,z24,forgetT,Nat.reduceAdd,Nat.reduceLeDiff,Nat.reduceMul,Nat.reduceSub,Nat.reduceEqDiff,Nat.reduceBEq,Nat.reduceBNe,z25,z26,z27,z28,z29,z30,z31,z32,z33,z34,z35,z36,z37,z38,z39,z40,z41,z42,z43,z44,z45,z46,z47,z48,z49,z50,z51,z52,Int.reduceToNat,z53,z54,z55,z56,z57,z58,Int.reduceBEq,Int.reduceBNe,Int.reduceLT,Int.reduceLE,Int.reduceGT,Int.reduceGE,Int.reduceEq,z59,z60,z61,z62,List.reduceReplicate,z63,z64,z65,z66,z67,chunks, lD, b_gtr, b_geq, b_leq, b_eql, g0, g1, g2, g3, g4, g5, g6, g7]; (first | done | exact rfl))) | (refine W_cT ?_ ?_; focus (simp only [evx,List.contains,List.elem,z2,z3,AV.unf,reduceIte,z23,boolD]; done)) | (refine W_cF ?_ ?_; focus (simp only [evx,List.contains,List.elem,z2,z3,AV.unf,reduceIte,z23,boolD]; done))) <;> (try simp only [seqK,blockK,loopK,onlyK,forgetT,put,unflag,z4,z5,z2,z3,AV.unf,reduceIte,Nat.reduceEqDiff,Nat.reduceAdd])))
      exact ans_cut rfl rfl ⟨rfl, rfl⟩
    · have g0 : (n ≥ 97) = False := eq_false (by omega)
      have g1 : (n ≤ 122) = True := eq_true (by omega)
      have g2 : (n ≥ 65) = False := eq_false (by omega)
      have g3 : (n ≤ 90) = True := eq_true (by omega)
      have g4 : (n ≥ 48) = True := eq_true (by omega)
      have g5 : (n ≤ 57) = False := eq_false (by omega)
      have g6 : (n == 95) = false := by simp; omega
      have g7 : (n ≥ 128) = False := eq_false (by omega)
      rw [wordP_no (by omega)]
      (repeat ((first | refine W_sq ?_ | refine W_bk ?_ | refine W_ret ?_ | refine W_exit ?_ | refine W_skip ?_ | (apply W_rg; focus (intro _; simp only [z0,srcC,AV.growable,AV.owned,evalC,evalR,runOps,stepOp,wanted,aop,evx,put,unflag,binV,nilEq,isShift,binStr,unV,AV.elems,AV.unf,AV.int?,AV.toD,AV.toDs,AV.mkAgg,AV.pures,AV.cells,D.cells,AV.isCell,D.isCell,readCells,readD,optInt,fill,splice,srcOf,z1,List.contains,List.elem,z2,z3,z4,z5,z6,z7,z8,z9,z10,z11,z12,z13,z14,z15,z16,z17,z18,z19,z20,z21,z22,Option.map,intD,boolD,bD,reduceIte,z23,z24,forgetT,Nat.reduceAdd,Nat.reduceLeDiff,Nat.reduceMul,Nat.reduceSub,Nat.reduceEqDiff,Nat.reduceBEq,Nat.reduceBNe,z25,z26,z27,z28,z29,z30,z31,z32,z33,z34,z35,z36,z37,z38,z39,z40,z41,z42,z43,z44,z45,z46,z47,z48,z49,z50,z51,z52,Int.reduceToNat,z53,z54,z55,z56,z57,z58,Int.reduceBEq,Int.reduceBNe,Int.reduceLT,Int.reduceLE,Int.reduceGT,Int.reduceGE,Int.reduceEq,z59,z60,z61,z62,List.reduceReplicate,z63,z64,z65,z66,z67,chunks, lD, b_gtr, b_geq, b_leq, b_eql, g0, g1, g2, g3, g4, g5, g6, g7]; (first | done | exact rfl))) | (refine W_cT ?_ ?_; focus (simp only [evx,List.contains,List.elem,z2,z3,AV.unf,reduceIte,z23,boolD]; done)) | (refine W_cF ?_ ?_; focus (simp only [evx,List.contains,List.elem,z2,z3,AV.unf,reduceIte,z23,boolD]; done))) <;> (try simp only [seqK,blockK,loopK,onlyK,forgetT,put,unflag,z4,z5,z2,z3,AV.unf,reduceIte,Nat.reduceEqDiff,Nat.reduceAdd])))
      exact ans_cut rfl rfl ⟨rfl, rfl⟩
    · have g0 : (n ≥ 97) = False := eq_false (by omega)
      have g1 : (n ≤ 122) = True := eq_true (by omega)
      have g2 : (n ≥ 65) = True := eq_true (by omega)
      have g3 : (n ≤ 90) = True := eq_true (by omega)
      have g4 : (n ≥ 48) = True := eq_true (by omega)
      have g5 : (n ≤ 57) = False := eq_false (by omega)
      have g6 : (n == 95) = false := by simp; omega
      have g7 : (n ≥ 128) = False := eq_false (by omega)
      rw [wordP_yes (by omega)]
      (repeat ((first | refine W_sq ?_ | refine W_bk ?_ | refine W_ret ?_ | refine W_exit ?_ | refine W_skip ?_ | (apply W_rg; focus (intro _; simp only [z0,srcC,AV.growable,AV.owned,evalC,evalR,runOps,stepOp,wanted,aop,evx,put,unflag,binV,nilEq,isShift,binStr,unV,AV.elems,AV.unf,AV.int?,AV.toD,AV.toDs,AV.mkAgg,AV.pures,AV.cells,D.cells,AV.isCell,D.isCell,readCells,readD,optInt,fill,splice,srcOf,z1,List.contains,List.elem,z2,z3,z4,z5,z6,z7,z8,z9,z10,z11,z12,z13,z14,z15,z16,z17,z18,z19,z20,z21,z22,Option.map,intD,boolD,bD,reduceIte,z23,z24,forgetT,Nat.reduceAdd,Nat.reduceLeDiff,Nat.reduceMul,Nat.reduceSub,Nat.reduceEqDiff,Nat.reduceBEq,Nat.reduceBNe,z25,z26,z27,z28,z29,z30,z31,z32,z33,z34,z35,z36,z37,z38,z39,z40,z41,z42,z43,z44,z45,z46,z47,z48,z49,z50,z51,z52,Int.reduceToNat,z53,z54,z55,z56,z57,z58,Int.reduceBEq,Int.reduceBNe,Int.reduceLT,Int.reduceLE,Int.reduceGT,Int.reduceGE,Int.reduceEq,z59,z60,z61,z62,List.reduceReplicate,z63,z64,z65,z66,z67,chunks, lD, b_gtr, b_geq, b_leq, b_eql, g0, g1, g2, g3, g4, g5, g6, g7]; (first | done | exact rfl))) | (refine W_cT ?_ ?_; focus (simp only [evx,List.contains,List.elem,z2,z3,AV.unf,reduceIte,z23,boolD]; done)) | (refine W_cF ?_ ?_; focus (simp only [evx,List.contains,List.elem,z2,z3,AV.unf,reduceIte,z23,boolD]; done))) <;> (try simp only [seqK,blockK,loopK,onlyK,forgetT,put,unflag,z4,z5,z2,z3,AV.unf,reduceIte,Nat.reduceEqDiff,Nat.reduceAdd])))
      exact ans_cut rfl rfl ⟨rfl, rfl⟩
    · have g0 : (n ≥ 97) = False := eq_false (by omega)
      have g1 : (n ≤ 122) = True := eq_true (by omega)
      have g2 : (n ≥ 65) = True := eq_true (by omega)
      have g3 : (n ≤ 90) = False := eq_false (by omega)
      have g4 : (n ≥ 48) = True := eq_true (by omega)
      have g5 : (n ≤ 57) = False := eq_false (by omega)
      have g6 : (n == 95) = false := by simp; omega
      have g7 : (n ≥ 128) = False := eq_false (by omega)
      rw [wordP_no (by omega)]
      (repeat ((first | refine W_sq ?_ | refine W_bk ?_ | refine W_ret ?_ | refine W_exit ?_ | refine W_skip ?_ | (apply W_rg; focus (intro _; simp only [z0,srcC,AV.growable,AV.owned,evalC,evalR,runOps,stepOp,wanted,aop,evx,put,unflag,binV,nilEq,isShift,binStr,unV,AV.elems,AV.unf,AV.int?,AV.toD,AV.toDs,AV.mkAgg,AV.pures,AV.cells,D.cells,AV.isCell,D.isCell,readCells,readD,optInt,fill,splice,srcOf,z1,List.contains,List.elem,z2,z3,z4,z5,z6,z7,z8,z9,z10,z11,z12,z13,z14,z15,z16,z17,z18,z19,z20,z21,z22,Option.map,intD,boolD,bD,reduceIte,z23,z24,forgetT,Nat.reduceAdd,Nat.reduceLeDiff,Nat.reduceMul,Nat.reduceSub,Nat.reduceEqDiff,Nat.reduceBEq,Nat.reduceBNe,z25,z26,z27,z28,z29,z30,z31,z32,z33,z34,z35,z36,z37,z38,z39,z40,z41,z42,z43,z44,z45,z46,z47,z48,z49,z50,z51,z52,Int.reduceToNat,z53,z54,z55,z56,z57,z58,Int.reduceBEq,Int.reduceBNe,Int.reduceLT,Int.reduceLE,Int.reduceGT,Int.reduceGE,Int.reduceEq,z59,z60,z61,z62,List.reduceReplicate,z63,z64,z65,z66,z67,chunks, lD, b_gtr, b_geq, b_leq, b_eql, g0, g1, g2, g3, g4, g5, g6, g7]; (first | done | exact rfl))) | (refine W_cT ?_ ?_; focus (simp only [evx,List.contains,List.elem,z2,z3,AV.unf,reduceIte,z23,boolD]; done)) | (refine W_cF ?_ ?_; focus (simp only [evx,List.contains,List.elem,z2,z3,AV.unf,reduceIte,z23,boolD]; done))) <;> (try simp only [seqK,blockK,loopK,onlyK,forgetT,put,unflag,z4,z5,z2,z3,AV.unf,reduceIte,Nat.reduceEqDiff,Nat.reduceAdd])))
      exact ans_cut rfl rfl ⟨rfl, rfl⟩
    · have g0 : (n ≥ 97) = False := eq_false (by omega)
      have g1 : (n ≤ 122) = True := eq_true (by omega)
      have g2 : (n ≥ 65) = True := eq_true (by omega)
      have g3 : (n ≤ 90) = False := eq_false (by omega)
      have g4 : (n ≥ 48) = True := eq_true (by omega)
      have g5 : (n ≤ 57) = False := eq_false (by omega)
      have g6 : (n == 95) = true := by rw [h]; rfl
      have g7 : (n ≥ 128) = False := eq_false (by omega)
      rw [wordP_yes (by omega)]
      (repeat ((first | refine W_sq ?_ | refine W_bk ?_ | refine W_ret ?_ | refine W_exit ?_ | refine W_skip ?_ | (apply W_rg; focus (intro _; simp only [z0,srcC,AV.growable,AV.owned,evalC,evalR,runOps,stepOp,wanted,aop,evx,put,unflag,binV,nilEq,isShift,binStr,unV,AV.elems,AV.unf,AV.int?,AV.toD,AV.toDs,AV.mkAgg,AV.pures,AV.cells,D.cells,AV.isCell,D.isCell,readCells,readD,optInt,fill,splice,srcOf,z1,List.contains,List.elem,z2,z3,z4,z5,z6,z7,z8,z9,z10,z11,z12,z13,z14,z15,z16,z17,z18,z19,z20,z21,z22,Option.map,intD,boolD,bD,reduceIte,z23,z24,forgetT,Nat.reduceAdd,Nat.reduceLeDiff,Nat.reduceMul,Nat.reduceSub,Nat.reduceEqDiff,Nat.reduceBEq,Nat.reduceBNe,z25,z26,z27,z28,z29,z30,z31,z32,z33,z34,z35,z36,z37,z38,z39,z40,z41,z42,z43,z44,z45,z46,z47,z48,z49,z50,z51,z52,Int.reduceToNat,z53,z54,z55,z56,z57,z58,Int.reduceBEq,Int.reduceBNe,Int.reduceLT,Int.reduceLE,Int.reduceGT,Int.reduceGE,Int.reduceEq,z59,z60,z61,z62,List.reduceReplicate,z63,z64,z65,z66,z67,chunks, lD, b_gtr, b_geq, b_leq, b_eql, g0, g1, g2, g3, g4, g5, g6, g7]; (first | done | exact rfl))) | (refine W_cT ?_ ?_; focus (simp only [evx,List.contains,List.elem,z2,z3,AV.unf,reduceIte,z23,boolD]; done)) | (refine W_cF ?_ ?_; focus (simp only [evx,List.contains,List.elem,z2,z3,AV.unf,reduceIte,z23,boolD]; done))) <;> (try simp only [seqK,blockK,loopK,onlyK,forgetT,put,unflag,z4,z5,z2,z3,AV.unf,reduceIte,Nat.reduceEqDiff,Nat.reduceAdd])))
      exact ans_cut rfl rfl ⟨rfl, rfl⟩
    · have g0 : (n ≥ 97) = False := eq_false (by omega)
      have g1 : (n ≤ 122) = True := eq_true (by omega)
      have g2 : (n ≥ 65) = True := eq_true (by omega)
      have g3 : (n ≤ 90) = False := eq_false (by omega)
      have g4 : (n ≥ 48) = True := eq_true (by omega)
      have g5 : (n ≤ 57) = False := eq_false (by omega)
      have g6 : (n == 95) = false := by simp; omega
      have g7 : (n ≥ 128) = False := eq_false (by omega)
      rw [wordP_no (by omega)]
      (repeat ((first | refine W_sq ?_ | refine W_bk ?_ | refine W_ret ?_ | refine W_exit ?_ | refine W_skip ?_ | (apply W_rg; focus (intro _; simp only [z0,srcC,AV.growable,AV.owned,evalC,evalR,runOps,stepOp,wanted,aop,evx,put,unflag,binV,nilEq,isShift,binStr,unV,AV.elems,AV.unf,AV.int?,AV.toD,AV.toDs,AV.mkAgg,AV.pures,AV.cells,D.cells,AV.isCell,D.isCell,readCells,readD,optInt,fill,splice,srcOf,z1,List.contains,List.elem,z2,z3,z4,z5,z6,z7,z8,z9,z10,z11,z12,z13,z14,z15,z16,z17,z18,z19,z20,z21,z22,Option.map,intD,boolD,bD,reduceIte,z23,z24,forgetT,Nat.reduceAdd,Nat.reduceLeDiff,Nat.reduceMul,Nat.reduceSub,Nat.reduceEqDiff,Nat.reduceBEq,Nat.reduceBNe,z25,z26,z27,z28,z29,z30,z31,z32,z33,z34,z35,z36,z37,z38,z39,z40,z41,z42,z43,z44,z45,z46,z47,z48,z49,z50,z51,z52,Int.reduceToNat,z53,z54,z55,z56,z57,z58,Int.reduceBEq,Int.reduceBNe,Int.reduceLT,Int.reduceLE,Int.reduceGT,Int.reduceGE,Int.reduceEq,z59,z60,z61,z62,List.reduceReplicate,z63,z64,z65,z66,z67,chunks, lD, b_gtr, b_geq, b_leq, b_eql, g0, g1, g2, g3, g4, g5, g6, g7]; (first | done | exact rfl))) | (refine W_cT ?_ ?_; focus (simp only [evx,List.contains,List.elem,z2,z3,AV.unf,reduceIte,z23,boolD]; done)) | (refine W_cF ?_ ?_; focus (simp only [evx,List.contains,List.elem,z2,z3,AV.unf,reduceIte,z23,boolD]; done))) <;> (try simp only [seqK,blockK,loopK,onlyK,forgetT,put,unflag,z4,z5,z2,z3,AV.unf,reduceIte,Nat.reduceEqDiff,Nat.reduceAdd])))
      exact ans_cut rfl rfl ⟨rfl, rfl⟩
    · have g0 : (n ≥ 97) = True := eq_true (by omega)
      have g1 : (n ≤ 122) = True := eq_true (by omega)
      have g2 : (n ≥ 65) = True := eq_true (by omega)
      have g3 : (n ≤ 90) = False := eq_false (by omega)
      have g4 : (n ≥ 48) = True := eq_true (by omega)
      have g5 : (n ≤ 57) = False := eq_false (by omega)
      have g6 : (n == 95) = false := by simp; omega
      have g7 : (n ≥ 128) = False := eq_false (by omega)
      rw [wordP_yes (by omega)]
      (repeat ((first | refine W_sq ?_ | refine W_bk ?_ | refine W_ret ?_ | refine W_exit ?_ | refine W_skip ?_ | (apply W_rg; focus (intro _; simp only [z0,srcC,AV.growable,AV.owned,evalC,evalR,runOps,stepOp,wanted,aop,evx,put,unflag,binV,nilEq,isShift,binStr,unV,AV.elems,AV.unf,AV.int?,AV.toD,AV.toDs,AV.mkAgg,AV.pures,AV.cells,D.cells,AV.isCell,D.isCell,readCells,readD,optInt,fill,splice,srcOf,z1,List.contains,List.elem,z2,z3,z4,z5,z6,z7,z8,z9,z10,z11,z12,z13,z14,z15,z16,z17,z18,z19,z20,z21,z22,Option.map,intD,boolD,bD,reduceIte,z23,z24,forgetT,Nat.reduceAdd,Nat.reduceLeDiff,Nat.reduceMul,Nat.reduceSub,Nat.reduceEqDiff,Nat.reduceBEq,Nat.reduceBNe,z25,z26,z27,z28,z29,z30,z31,z32,z33,z34,z35,z36,z37,z38,z39,z40,z41,z42,z43,z44,z45,z46,z47,z48,z49,z50,z51,z52,Int.reduceToNat,z53,z54,z55,z56,z57,z58,Int.reduceBEq,Int.reduceBNe,Int.reduceLT,Int.reduceLE,Int.reduceGT,Int.reduceGE,Int.reduceEq,z59,z60,z61,z62,List.reduceReplicate,z63,z64,z65,z66,z67,chunks, lD, b_gtr, b_geq, b_leq, b_eql, g0, g1, g2, g3, g4, g5, g6, g7]; (first | done | exact rfl))) | (refine W_cT ?_ ?_; focus (simp only [evx,List.contains,List.elem,z2,z3,AV.unf,reduceIte,z23,boolD]; done)) | (refine W_cF ?_ ?_; focus (simp only [evx,List.contains,List.elem,z2,z3,AV.unf,reduceIte,z23,boolD]; done))) <;> (try simp only [seqK,blockK,loopK,onlyK,forgetT,put,unflag,z4,z5,z2,z3,AV.unf,reduceIte,Nat.reduceEqDiff,Nat.reduceAdd])))
      exact ans_cut rfl rfl ⟨rfl, rfl⟩
    · have g0 : (n ≥ 97) = True := eq_true (by omega)
      have g1 : (n ≤ 122) = False := eq_false (by omega)
      have g2 : (n ≥ 65) = True := eq_true (by omega)
      have g3 : (n ≤ 90) = False := eq_false (by omega)
      have g4 : (n ≥ 48) = True := eq_true (by omega)
      have g5 : (n ≤ 57) = False := eq_false (by omega)
      have g6 : (n == 95) = false := by simp; omega
      have g7 : (n ≥ 128) = False := eq_false (by omega)
      rw [wordP_no (by omega)]
      (repeat ((first | refine W_sq ?_ | refine W_bk ?_ | refine W_ret ?_ | refine W_exit ?_ | refine W_skip ?_ | (apply W_rg; focus (intro _; simp only [z0,srcC,AV.growable,AV.owned,evalC,evalR,runOps,stepOp,wanted,aop,evx,put,unflag,binV,nilEq,isShift,binStr,unV,AV.elems,AV.unf,AV.int?,AV.toD,AV.toDs,AV.mkAgg,AV.pures,AV.cells,D.cells,AV.isCell,D.isCell,readCells,readD,optInt,fill,splice,srcOf,z1,List.contains,List.elem,z2,z3,z4,z5,z6,z7,z8,z9,z10,z11,z12,z13,z14,z15,z16,z17,z18,z19,z20,z21,z22,Option.map,intD,boolD,bD,reduceIte,z23,z24,forgetT,Nat.reduceAdd,Nat.reduceLeDiff,Nat.reduceMul,Nat.reduceSub,Nat.reduceEqDiff,Nat.reduceBEq,Nat.reduceBNe,z25,z26,z27,z28,z29,z30,z31,z32,z33,z34,z35,z36,z37,z38,z39,z40,z41,z42,z43,z44,z45,z46,z47,z48,z49,z50,z51,z52,Int.reduceToNat,z53,z54,z55,z56,z57,z58,Int.reduceBEq,Int.reduceBNe,Int.reduceLT,Int.reduceLE,Int.reduceGT,Int.reduceGE,Int.reduceEq,z59,z60,z61,z62,List.reduceReplicate,z63,z64,z65,z66,z67,chunks, lD, b_gtr, b_geq, b_leq, b_eql, g0, g1, g2, g3, g4, g5, g6, g7]; (first | done | exact rfl))) | (refine W_cT ?_ ?_; focus (simp only [evx,List.contains,List.elem,z2,z3,AV.unf,reduceIte,z23,boolD]; done)) | (refine W_cF ?_ ?_; focus (simp only [evx,List.contains,List.elem,z2,z3,AV.unf,reduceIte,z23,boolD]; done))) <;> (try simp only [seqK,blockK,loopK,onlyK,forgetT,put,unflag,z4,z5,z2,z3,AV.unf,reduceIte,Nat.reduceEqDiff,Nat.reduceAdd])))
      exact ans_cut rfl rfl ⟨rfl, rfl⟩
    · have g0 : (n ≥ 97) = True := eq_true (by omega)
      have g1 : (n ≤ 122) = False := eq_false (by omega)
      have g2 : (n ≥ 65) = True := eq_true (by omega)
      have g3 : (n ≤ 90) = False := eq_false (by omega)
      have g4 : (n ≥ 48) = True := eq_true (by omega)
      have g5 : (n ≤ 57) = False := eq_false (by omega)
      have g6 : (n == 95) = false := by simp; omega
      have g7 : (n ≥ 128) = True := eq_true (by omega)
      rw [wordP_yes (by omega)]
      (repeat ((first | refine W_sq ?_ | refine W_bk ?_ | refine W_ret ?_ | refine W_exit ?_ | refine W_skip ?_ | (apply W_rg; focus (intro _; simp only [z0,srcC,AV.growable,AV.owned,evalC,evalR,runOps,stepOp,wanted,aop,evx,put,unflag,binV,nilEq,isShift,binStr,unV,AV.elems,AV.unf,AV.int?,AV.toD,AV.toDs,AV.mkAgg,AV.pures,AV.cells,D.cells,AV.isCell,D.isCell,readCells,readD,optInt,fill,splice,srcOf,z1,List.contains,List.elem,z2,z3,z4,z5,z6,z7,z8,z9,z10,z11,z12,z13,z14,z15,z16,z17,z18,z19,z20,z21,z22,Option.map,intD,boolD,bD,reduceIte,z23,z24,forgetT,Nat.reduceAdd,Nat.reduceLeDiff,Nat.reduceMul,Nat.reduceSub,Nat.reduceEqDiff,Nat.reduceBEq,Nat.reduceBNe,z25,z26,z27,z28,z29,z30,z31,z32,z33,z34,z35,z36,z37,z38,z39,z40,z41,z42,z43,z44,z45,z46,z47,z48,z49,z50,z51,z52,Int.reduceToNat,z53,z54,z55,z56,z57,z58,Int.reduceBEq,Int.reduceBNe,Int.reduceLT,Int.reduceLE,Int.reduceGT,Int.reduceGE,Int.reduceEq,z59,z60,z61,z62,List.reduceReplicate,z63,z64,z65,z66,z67,chunks, lD, b_gtr, b_geq, b_leq, b_eql, g0, g1, g2, g3, g4, g5, g6, g7]; (first | done | exact rfl))) | (refine W_cT ?_ ?_; focus (simp only [evx,List.contains,List.elem,z2,z3,AV.unf,reduceIte,z23,boolD]; done)) | (refine W_cF ?_ ?_; focus (simp only [evx,List.contains,List.elem,z2,z3,AV.unf,reduceIte,z23,boolD]; done))) <;> (try simp only [seqK,blockK,loopK,onlyK,forgetT,put,unflag,z4,z5,z2,z3,AV.unf,reduceIte,Nat.reduceEqDiff,Nat.reduceAdd])))
      exact ans_cut rfl rfl ⟨rfl, rfl⟩

end Go.Proofs.YtcmbkehhpfbhiaaDoor
