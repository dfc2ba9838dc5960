/- Letters, low letters and word letters, as the document has them, walked. (NOBIN: the arithmetic of numbers is not unfolded.) -/
import Derived.Test.YtoimlfaiibadgaaDoordW2
set_option linter.unusedSimpArgs false
set_option linter.unusedVariables false
set_option linter.all false
set_option maxRecDepth 100000
namespace Go.Proofs.YtoimlfaiibadgaaDoor
open Go Go.Abs Go.Lib

theorem fn_out {f : FuncId} {lim : Nat} {a : List AV} {H : AHeap} {Q : AV → AHeap → Prop} (h : Go.Abs.Fn X f lim a H Q) : ∃ v H', Ev X f lim a H v H' ∧ Q v H' := by
  unfold Go.Abs.Fn at h; exact h

theorem headSz_strs (l : List (List UInt8)) : headSz 1 (l.map D.str) = true := headSz_map (sz := 1) (f := D.str) (fun x => rfl) l
theorem cells_str (t : List UInt8) : (D.str t).cells = [D.str t] := rfl

theorem letters_ev (lim : Nat) (H : AHeap) (s : List UInt8) (hs : s.length ≤ 1000000) : Ev X 65 lim [.d (.str s)] H (.fslice ((lets s).map D.str)) H := by
  refine Fn.ev ?_
  refine Fn_of rfl (show code 65 = some c65 from rfl) rfl ?_; simp only [List.length_cons, List.length_nil, Nat.reduceAdd, Nat.reduceSub, List.reduceReplicate, List.cons_append, List.nil_append, reduceIte, Bool.false_eq_true]
  (repeat ((first | refine W_sq ?_ | refine W_bk ?_ | refine W_ret ?_ | refine W_exit ?_ | refine W_skip ?_ | (apply W_rg; focus (intro _; simp only [evalR,runOps,stepOp,wanted,aop,evx,put,unflag,z4,z5,forgetT]; (first | done | exact rfl))) | (refine W_cT ?_ ?_; focus (simp only [evx,List.contains,List.elem,z2,z3,AV.unf,reduceIte,z23,boolD]; done)) | (refine W_cF ?_ ?_; focus (simp only [evx,List.contains,List.elem,z2,z3,AV.unf,reduceIte,z23,boolD]; done))) <;> (try simp only [seqK])))
  refine W_lp (fun k st => ∃ (a : Nat) (done : List (List UInt8)), a ≤ s.length ∧ k = s.length - a ∧ lets s = done ++ lets (s.drop a) ∧ done.length ≤ a ∧ ∃ x : Nat → AV, st = ⟨[.d (.str s), x 1, .fslice [], .fslice (done.map D.str), intD a, x 5, x 6, x 7], H⟩) ?_ _ _ ⟨0, [], Nat.zero_le _, rfl, by simp, by simp, ex_st _ _ _ rfl⟩
  rintro k _ ⟨a, done, ha, rfl, hd, hdl, x, rfl⟩
  by_cases q0 : a < s.length
  · have f0 : ((a : Int) < (s.length : Int)) = True := eq_true (by omega)
    obtain ⟨_, _, he, ⟨r, n, rfl, hn, hn4, _⟩, rfl⟩ := fn_out (rune_ev H.length H s a q0 hs)
    have hne : s.drop a ≠ [] := fun e => by have := congrArg List.length e; simp at this; omega
    have hle := dc_le hne
    have hpos := dc_pos (s.drop a)
    rw [lets_cons hne] at hd
    rw [List.length_drop] at hle
    rw [List.drop_drop] at hd
    generalize (dc (s.drop a)).2 = m at hn hd hle hpos
    have w1 : IntKind.i64.wrap ((a : Int) + (m : Int)) = ((a + m : Nat) : Int) := by rw [w64 (by omega) (by omega)]; omega
    have c1 : (0 : Int) ≤ (a : Int) ∧ (a : Int) ≤ ((a + m : Nat) : Int) ∧ ((a + m : Nat) : Int) ≤ (s.length : Int) := by omega
    have c2 : (done.length + 1) * (16 + 1) ≤ 70368744177664 := by omega
    have e1 : (s.take (a + m)).drop a = (s.drop a).take m := by rw [List.drop_take]; congr 1; omega
    have e2 : done.map D.str ++ [D.str ((s.drop a).take m)] = (done ++ [(s.drop a).take m]).map D.str := by simp
    have fin : ∃ k', k' < s.length - a ∧ ∃ (a' : Nat) (done' : List (List UInt8)), a' ≤ s.length ∧ k' = s.length - a' ∧ lets s = done' ++ lets (s.drop a') ∧ done'.length ≤ a' ∧ a' = a + m ∧ done' = done ++ [(s.drop a).take m] :=
      ⟨s.length - (a + m), by omega, a + m, _, by omega, rfl, by rw [hd]; simp, by simp; omega, rfl, rfl⟩
    obtain ⟨k', q1, a', done', q2, q3, q4, q5, q6, q7⟩ := fin
    by_cases h1 : 1 < n
    · obtain rfl : n = m := by omega
      have f1 : ((n : Int) > 1) = True := eq_true (by omega)
      (repeat ((first | refine W_sq ?_ | refine W_bk ?_ | refine W_ret ?_ | refine W_exit ?_ | refine W_skip ?_ | (apply W_rg; focus (intro _; simp only [evalR,runOps,stepOp,wanted,aop,evx,put,unflag,binV,isShift,AV.unf,List.contains,List.elem,z2,z3,z4,z5,z8,z9,Option.map,intD,reduceIte,z23,forgetT,z29,z42,b_lss, f0]; (first | done | exact rfl))) | (refine W_cT ?_ ?_; focus (simp only [evx,List.contains,List.elem,z2,z3,AV.unf,reduceIte,z23]; done)) | (refine W_cF ?_ ?_; focus (simp only [evx,List.contains,List.elem,z2,z3,AV.unf,reduceIte,z23,boolD]; done))) <;> (try simp only [seqK])))
      refine W_region ?_; refine WO_call ?_; simp only [evx, List.map_cons, List.map_nil, List.contains, List.elem, List.getD_cons_succ, List.getD_cons_zero, reduceIte, Bool.false_eq_true, AV.unf, intD]; refine Ev.fn he ?_
      (apply WO_end; (focus (intro _; simp only [runOps,stepOp,wanted,aop,evx,put,unflag,AV.unf,List.contains,List.elem,z2,z3,z4,z5,z6,z7,Option.map,intD,reduceIte,z23,z29]; (first | done | exact rfl)))) <;> (try simp only [seqK,forgetT,z4,z5])
      (repeat ((first | refine W_sq ?_ | refine W_bk ?_ | refine W_ret ?_ | refine W_exit ?_ | refine W_skip ?_ | (apply W_rg; focus (intro _; simp only [evalR,runOps,stepOp,wanted,aop,evx,put,unflag,binV,isShift,AV.unf,AV.int?,AV.toD,AV.toDs,AV.cells,D.cells,AV.isCell,D.isCell,optInt,fill,splice,srcOf,List.contains,List.elem,z2,z3,z4,z5,z8,z9,z10,z11,z12,z13,z14,z15,z18,z19,z20,z22,Option.map,reduceIte,z23,forgetT,Nat.reduceAdd,Nat.reduceBEq,z26,z27,z29,z30,z34,z48,z51,z52,List.reduceReplicate,z63,z64,z66,chunks, foldInt, List.foldl_cons, List.foldl_nil, f1, b_add, w1, c1, c2, e1, e2, headSz_strs, List.length_map]; (first | done | exact rfl))) | (refine W_cT ?_ ?_; focus (simp only [evx,List.contains,List.elem,z2,z3,AV.unf,reduceIte,z23,boolD]; done)) | (refine W_cF ?_ ?_; focus (simp only [evx,List.contains,List.elem,z2,z3,AV.unf,reduceIte,z23,boolD]; done))) <;> (try simp only [seqK,blockK,loopK])))
      exact ⟨k', q1, a', done', q2, q3, q4, q5, q6 ▸ q7 ▸ ex_st _ _ _ rfl⟩
    · have f1 : ((n : Int) > 1) = False := eq_false (by omega)
      have hm : (1 : Int) = (m : Int) := by omega
      have w1' : IntKind.i64.wrap ((a : Int) + 1) = ((a + m : Nat) : Int) := hm ▸ w1
      (repeat ((first | refine W_sq ?_ | refine W_bk ?_ | refine W_ret ?_ | refine W_exit ?_ | refine W_skip ?_ | (apply W_rg; focus (intro _; simp only [evalR,runOps,stepOp,wanted,aop,evx,put,unflag,binV,isShift,AV.unf,List.contains,List.elem,z2,z3,z4,z5,z8,z9,Option.map,intD,reduceIte,z23,forgetT,z29,z42,b_lss, f0]; (first | done | exact rfl))) | (refine W_cT ?_ ?_; focus (simp only [evx,List.contains,List.elem,z2,z3,AV.unf,reduceIte,z23]; done)) | (refine W_cF ?_ ?_; focus (simp only [evx,List.contains,List.elem,z2,z3,AV.unf,reduceIte,z23,boolD]; done))) <;> (try simp only [seqK])))
      refine W_region ?_; refine WO_call ?_; simp only [evx, List.map_cons, List.map_nil, List.contains, List.elem, List.getD_cons_succ, List.getD_cons_zero, reduceIte, Bool.false_eq_true, AV.unf, intD]; refine Ev.fn he ?_
      (apply WO_end; (focus (intro _; simp only [runOps,stepOp,wanted,aop,evx,put,unflag,AV.unf,List.contains,List.elem,z2,z3,z4,z5,z6,z7,Option.map,intD,reduceIte,z23,z29]; (first | done | exact rfl)))) <;> (try simp only [seqK,forgetT,z4,z5])
      (repeat ((first | refine W_sq ?_ | refine W_bk ?_ | refine W_ret ?_ | refine W_exit ?_ | refine W_skip ?_ | (apply W_rg; focus (intro _; simp only [evalR,runOps,stepOp,wanted,aop,evx,put,unflag,binV,isShift,AV.unf,AV.int?,AV.toD,AV.toDs,AV.cells,D.cells,AV.isCell,D.isCell,optInt,fill,splice,srcOf,List.contains,List.elem,z2,z3,z4,z5,z8,z9,z10,z11,z12,z13,z14,z15,z18,z19,z20,z22,Option.map,reduceIte,z23,forgetT,Nat.reduceAdd,Nat.reduceBEq,z26,z27,z29,z30,z34,z48,z51,z52,List.reduceReplicate,z63,z64,z66,chunks, foldInt, List.foldl_cons, List.foldl_nil, f1, b_add, w1', c1, c2, e1, e2, headSz_strs, List.length_map]; (first | done | exact rfl))) | (refine W_cT ?_ ?_; focus (simp only [evx,List.contains,List.elem,z2,z3,AV.unf,reduceIte,z23,boolD]; done)) | (refine W_cF ?_ ?_; focus (simp only [evx,List.contains,List.elem,z2,z3,AV.unf,reduceIte,z23,boolD]; done))) <;> (try simp only [seqK,blockK,loopK])))
      exact ⟨k', q1, a', done', q2, q3, q4, q5, q6 ▸ q7 ▸ ex_st _ _ _ rfl⟩
  · have f0 : ((a : Int) < (s.length : Int)) = False := eq_false (by omega)
    have : lets (s.drop a) = [] := by rw [List.drop_of_length_le (by omega)]; rfl
    rw [this, List.append_nil] at hd
    rw [hd]
    (repeat ((first | refine W_sq ?_ | refine W_bk ?_ | refine W_ret ?_ | refine W_exit ?_ | refine W_skip ?_ | (apply W_rg; focus (intro _; simp only [evalR,runOps,stepOp,wanted,aop,evx,put,unflag,binV,isShift,AV.unf,List.contains,List.elem,z2,z3,z4,z5,Option.map,intD,reduceIte,z23,forgetT,z29,z43,b_lss, f0]; (first | done | exact rfl))) | (refine W_cT ?_ ?_; focus (simp only [evx,List.contains,List.elem,z2,z3,AV.unf,reduceIte,z23]; done)) | (refine W_cF ?_ ?_; focus (simp only [evx,List.contains,List.elem,z2,z3,AV.unf,reduceIte,z23]; done))) <;> (try simp only [seqK,blockK,loopK,reduceIte])))
    exact ans_cut rfl rfl ⟨rfl, rfl⟩

end Go.Proofs.YtoimlfaiibadgaaDoor
