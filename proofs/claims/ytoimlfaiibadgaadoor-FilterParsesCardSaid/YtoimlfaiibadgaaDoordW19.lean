/- Texts of letters, names, shapes and what is good, as the document has them, walked. (NOBIN: the arithmetic of numbers is not unfolded.) -/
import Derived.Test.YtoimlfaiibadgaaDoordW3
import Derived.Test.YtoimlfaiibadgaaDoordV1
import Derived.Test.YtoimlfaiibadgaaDoordV2
import Derived.Test.YtoimlfaiibadgaaDoordM5
set_option linter.unusedSimpArgs false
set_option linter.unusedVariables false
set_option linter.all false
set_option maxRecDepth 100000
namespace Go.Proofs.YtoimlfaiibadgaaDoor
open Go Go.Abs Go.Lib

theorem decodeL_dc (l : List UInt8) : decodeL l = dc l := by
  have := dec_dc l 0
  rw [List.drop_zero] at this
  exact this

theorem valid_more : ∀ (n m : Nat) (s : List UInt8), s.length ≤ n → s.length ≤ m → validGoD n s = validGoD m s
  | 0, 0, _, _, _ => rfl
  | 0, m + 1, s, h, _ => by
    have : s = [] := List.length_eq_zero_iff.1 (by omega)
    subst this; simp [validGoD]
  | n + 1, 0, s, _, h => by
    have : s = [] := List.length_eq_zero_iff.1 (by omega)
    subst this; simp [validGoD]
  | n + 1, m + 1, s, h1, h2 => by
    unfold validGoD
    have := dc_pos s
    rw [decodeL_dc, valid_more n m (s.drop (dc s).2) (by simp; omega) (by simp; omega)]

theorem valid_cons {s : List UInt8} (h : s ≠ []) : vB s = if dc s = (65533, 1) then false else vB (s.drop (dc s).2) := by
  show validGoD s.length s = if dc s = (65533, 1) then false else validGoD (s.drop (dc s).2).length (s.drop (dc s).2)
  have h1 := List.length_pos_iff.2 h
  have h2 := dc_pos s
  obtain ⟨n, hn⟩ : ∃ n, s.length = n + 1 := ⟨s.length - 1, by omega⟩
  rw [hn]
  show (if s = [] then true else if (decodeL s).1 = 65533 ∧ (decodeL s).2 = 1 then false else validGoD n (s.drop (decodeL s).2)) = _
  rw [if_neg h, decodeL_dc]
  by_cases hd : dc s = (65533, 1)
  · rw [if_pos hd, if_pos (by rw [hd]; exact ⟨rfl, rfl⟩)]
  · rw [if_neg hd, if_neg (fun k => hd (Prod.ext k.1 k.2))]
    exact valid_more _ _ _ (by simp; omega) (Nat.le_refl _)

/-- The place of the first byte that is none of a letter's; below 0: there is none. -/
def BadQ (s : List UInt8) (H : AHeap) (v : AV) (H' : AHeap) : Prop := (∃ r : Int, v = intD r ∧ decide (r < 0) = vB s) ∧ H' = H

theorem bad_ev (lim : Nat) (H : AHeap) (s : List UInt8) (hs : s.length ≤ 1000000) : Go.Abs.Fn X 66 lim [.d (.str s)] H (BadQ s H) := by
  refine Fn_of rfl (show code 66 = some c66 from rfl) rfl ?_; simp only [List.length_cons, List.length_nil, Nat.reduceAdd, Nat.reduceSub, List.reduceReplicate, List.cons_append, List.nil_append, reduceIte, Bool.false_eq_true]
  (repeat ((first | refine W_sq ?_ | refine W_bk ?_ | refine W_ret ?_ | refine W_exit ?_ | refine W_skip ?_ | (apply W_rg; focus (intro _; simp only [evalR,runOps,stepOp,wanted,aop,evx,put,unflag,z4,z5,forgetT]; (first | done | exact rfl))) | (refine W_cT ?_ ?_; focus (simp only [evx,List.contains,List.elem,z2,z3,AV.unf,reduceIte,z23,boolD]; done)) | (refine W_cF ?_ ?_; focus (simp only [evx,List.contains,List.elem,z2,z3,AV.unf,reduceIte,z23,boolD]; done))) <;> (try simp only [seqK])))
  refine W_lp (fun k st => ∃ a : Nat, a ≤ s.length ∧ k = s.length - a ∧ vB s = vB (s.drop a) ∧ ∃ x : Nat → AV, st = ⟨[.d (.str s), x 1, x 2, intD 0, intD a, x 5, x 6, x 7], H⟩) ?_ _ _ ⟨0, Nat.zero_le _, rfl, rfl, ex_st _ _ _ rfl⟩
  rintro k _ ⟨a, ha, rfl, hv, x, rfl⟩
  by_cases q0 : a < s.length
  · have f0 : ((a : Int) < (s.length : Int)) = True := eq_true (by omega)
    obtain ⟨_, _, he, ⟨r, n, rfl, hn, hn4, hn0⟩, rfl⟩ := fn_out (rune_ev H.length H s a q0 hs)
    have hne : s.drop a ≠ [] := fun e => by have := congrArg List.length e; simp at this; omega
    have hle := dc_le hne
    have hpos := dc_pos (s.drop a)
    rw [valid_cons hne] at hv
    rw [List.length_drop] at hle
    by_cases h0 : n = 0
    · subst h0
      have hd : dc (s.drop a) = (65533, 1) := by simpa using hn0.symm
      rw [if_pos hd] at hv
      have f1 : (((0 : Nat) : Int) == 0) = true := rfl
      (repeat ((first | refine W_sq ?_ | refine W_bk ?_ | refine W_ret ?_ | refine W_exit ?_ | refine W_skip ?_ | (apply W_rg; focus (intro _; simp only [evalR,runOps,stepOp,wanted,aop,evx,put,unflag,binV,isShift,AV.unf,List.contains,List.elem,z2,z3,z4,z5,z8,z9,Option.map,intD,reduceIte,z23,forgetT,z29,z42,b_lss, f0]; (first | done | exact rfl))) | (refine W_cT ?_ ?_; focus (simp only [evx,List.contains,List.elem,z2,z3,AV.unf,reduceIte,z23]; done)) | (refine W_cF ?_ ?_; focus (simp only [evx,List.contains,List.elem,z2,z3,AV.unf,reduceIte,z23,boolD]; done))) <;> (try simp only [seqK])))
      refine W_region ?_; refine WO_call ?_; simp only [evx, List.map_cons, List.map_nil, List.contains, List.elem, List.getD_cons_succ, List.getD_cons_zero, reduceIte, Bool.false_eq_true, AV.unf, intD]; refine Ev.fn he ?_
      (apply WO_end; (focus (intro _; simp only [runOps,stepOp,wanted,aop,evx,put,unflag,AV.unf,List.contains,List.elem,z2,z3,z4,z5,z6,z7,Option.map,intD,reduceIte,z23,z29,z56]; (first | done | exact rfl)))) <;> (try simp only [seqK,forgetT,z4,z5])
      (repeat ((first | refine W_sq ?_ | refine W_bk ?_ | refine W_ret ?_ | refine W_exit ?_ | refine W_skip ?_ | (apply W_rg; focus (intro _; simp only [evalR,runOps,stepOp,wanted,aop,evx,put,unflag,binV,isShift,AV.unf,List.contains,List.elem,z2,z3,z4,z5,Option.map,reduceIte,z23,forgetT,z29,b_eql]; (first | done | exact rfl))) | (refine W_cT ?_ ?_; focus (simp only [evx,List.contains,List.elem,z2,z3,AV.unf,reduceIte,z23]; done)) | (refine W_cF ?_ ?_; focus (simp only [evx,List.contains,List.elem,z2,z3,AV.unf,reduceIte,z23,boolD]; done))) <;> (try simp only [seqK,blockK,loopK])))
      exact ans_cut rfl rfl ⟨⟨_, rfl, by rw [hv]; exact decide_eq_false (by omega)⟩, rfl⟩
    · have hd : dc (s.drop a) ≠ (65533, 1) := by
        rw [decide_eq_false h0] at hn0
        exact of_decide_eq_false hn0.symm
      rw [if_neg hd, List.drop_drop] at hv
      have hm : (dc (s.drop a)).2 = n := by omega
      rw [hm] at hv hle
      have f1 : ((n : Int) == 0) = false := by simp; omega
      have w1 : IntKind.i64.wrap ((a : Int) + (n : Int)) = ((a + n : Nat) : Int) := by rw [w64 (by omega) (by omega)]; omega
      (repeat ((first | refine W_sq ?_ | refine W_bk ?_ | refine W_ret ?_ | refine W_exit ?_ | refine W_skip ?_ | (apply W_rg; focus (intro _; simp only [evalR,runOps,stepOp,wanted,aop,evx,put,unflag,binV,isShift,AV.unf,List.contains,List.elem,z2,z3,z4,z5,z8,z9,Option.map,intD,reduceIte,z23,forgetT,z29,z42,b_lss, f0]; (first | done | exact rfl))) | (refine W_cT ?_ ?_; focus (simp only [evx,List.contains,List.elem,z2,z3,AV.unf,reduceIte,z23]; done)) | (refine W_cF ?_ ?_; focus (simp only [evx,List.contains,List.elem,z2,z3,AV.unf,reduceIte,z23,boolD]; done))) <;> (try simp only [seqK])))
      refine W_region ?_; refine WO_call ?_; simp only [evx, List.map_cons, List.map_nil, List.contains, List.elem, List.getD_cons_succ, List.getD_cons_zero, reduceIte, Bool.false_eq_true, AV.unf, intD]; refine Ev.fn he ?_
      (apply WO_end; (focus (intro _; simp only [runOps,stepOp,wanted,aop,evx,put,unflag,AV.unf,List.contains,List.elem,z2,z3,z4,z5,z6,z7,Option.map,intD,reduceIte,z23,z29]; (first | done | exact rfl)))) <;> (try simp only [seqK,forgetT,z4,z5])
      (repeat ((first | refine W_sq ?_ | refine W_bk ?_ | refine W_ret ?_ | refine W_exit ?_ | refine W_skip ?_ | (apply W_rg; focus (intro _; simp only [evalR,runOps,stepOp,wanted,aop,evx,put,unflag,binV,isShift,AV.unf,List.contains,List.elem,z2,z3,z4,z5,Option.map,reduceIte,z23,forgetT,z29,b_eql, b_add, f1, w1]; (first | done | exact rfl))) | (refine W_cT ?_ ?_; focus (simp only [evx,List.contains,List.elem,z2,z3,AV.unf,reduceIte,z23]; done)) | (refine W_cF ?_ ?_; focus (simp only [evx,List.contains,List.elem,z2,z3,AV.unf,reduceIte,z23]; done))) <;> (try simp only [seqK,blockK,loopK])))
      exact ⟨s.length - (a + n), by omega, a + n, by omega, rfl, hv, ex_st _ _ _ rfl⟩
  · obtain rfl : a = s.length := by omega
    have f0 : ((s.length : Int) < (s.length : Int)) = False := eq_false (by omega)
    rw [List.drop_length] at hv
    (repeat ((first | refine W_sq ?_ | refine W_bk ?_ | refine W_ret ?_ | refine W_exit ?_ | refine W_skip ?_ | (apply W_rg; focus (intro _; simp only [evalR,runOps,stepOp,wanted,aop,evx,put,unflag,binV,isShift,AV.unf,List.contains,List.elem,z2,z3,z4,z5,Option.map,intD,reduceIte,z23,forgetT,z43,b_lss, f0]; (first | done | exact rfl))) | (refine W_cT ?_ ?_; focus (simp only [evx,List.contains,List.elem,z2,z3,AV.unf,reduceIte,z23]; done)) | (refine W_cF ?_ ?_; focus (simp only [evx,List.contains,List.elem,z2,z3,AV.unf,reduceIte,z23]; done))) <;> (try simp only [seqK,blockK,loopK,reduceIte])))
    exact ans_cut rfl rfl ⟨⟨_, rfl, by rw [hv]; rfl⟩, rfl⟩

theorem nodup_step {ks : List Tx} {i : Nat} {s : Tx} (h : ks[i]? = some s) (hn : (ks.take i).Nodup) (hs : s ∉ ks.take i) : (ks.take (i + 1)).Nodup := by
  rw [List.take_add_one, h]
  refine List.nodup_append.2 ⟨hn, by simp, fun a ha b hb e => ?_⟩
  have : b = s := by simpa using hb
  subst this
  subst e
  exact hs ha

theorem nodup_no {ks : List Tx} {i j : Nat} {s : Tx} (h : ks[i]? = some s) (h2 : ks[j]? = some s) (hj : j < i) : namedB ks = false := by
  unfold namedB
  have : ¬ ks.Nodup := fun hn => by
    have h3 : ks[j]? = ks[i]? := by rw [h, h2]
    obtain ⟨hi, hi2⟩ := List.getElem?_eq_some_iff.1 h
    have := (List.getElem?_inj (by omega) hn).1 h3
    omega
  rw [decide_eq_false this, Bool.and_false]

theorem mem_take_of {ks : List Tx} {i : Nat} {s : Tx} (h : ∀ j, j < i → ks[j]? ≠ some s) : s ∉ ks.take i := fun hm => by
  obtain ⟨j, hj, he⟩ := List.getElem_of_mem hm
  have hj' : j < i := by simp at hj; omega
  refine h j hj' ?_
  rw [List.getElem_take] at he
  rw [← he]
  exact List.getElem?_eq_getElem _

theorem keysR_ev (lim : Nat) (H : AHeap) (ks : List Tx) (hk : ks.length ≤ 100000) (hs : ∀ s ∈ ks, s.length ≤ 1000000) : Ev X 67 lim [.d (sD ks)] H (boolD (namedB ks)) H := by
  refine Fn.ev ?_
  refine Fn_of rfl (show code 67 = some c67 from rfl) rfl ?_; simp only [List.length_cons, List.length_nil, Nat.reduceAdd, Nat.reduceSub, List.reduceReplicate, List.cons_append, List.nil_append, reduceIte, Bool.false_eq_true]
  (repeat ((first | refine W_sq ?_ | refine W_bk ?_ | refine W_ret ?_ | refine W_exit ?_ | refine W_skip ?_ | (apply W_rg; focus (intro _; simp only [evalR,runOps,stepOp,wanted,aop,evx,put,unflag,z4,z5,forgetT]; (first | done | exact rfl))) | (refine W_cT ?_ ?_; focus (simp only [evx,List.contains,List.elem,z2,z3,AV.unf,reduceIte,z23,boolD]; done)) | (refine W_cF ?_ ?_; focus (simp only [evx,List.contains,List.elem,z2,z3,AV.unf,reduceIte,z23,boolD]; done))) <;> (try simp only [seqK])))
  refine W_lp (fun k st => ∃ i : Nat, i ≤ ks.length ∧ k = ks.length - i ∧ (ks.take i).all vB = true ∧ (ks.take i).Nodup ∧ ∃ x : Nat → AV, st = ⟨[.d (sD ks), x 1, x 2, x 3, x 4, boolD false, intD i, x 7, x 8, x 9], H⟩) ?_ _ _ ⟨0, Nat.zero_le _, rfl, rfl, List.nodup_nil, ex_st _ _ _ rfl⟩
  rintro k _ ⟨i, hi, rfl, ha, hnd, x, rfl⟩
  by_cases t0 : i < ks.length
  · have f1 : ((i : Int) < (ks.length : Int)) = True := eq_true (by omega)
    have w1 : IntKind.i64.wrap ((i : Int) + 1) = ((i + 1 : Nat) : Int) := wsucc (by omega)
    obtain ⟨s, hsx⟩ : ∃ s, ks[i]? = some s := ⟨_, List.getElem?_eq_getElem t0⟩
    have hc : ∀ s : Tx, (D.str s).cells = [D.str s] := fun _ => rfl
    have hst := all_cut hsx vB
    rw [ha, Bool.true_and] at hst
    obtain ⟨_, H', he, ⟨r, rfl, hr⟩, e'⟩ := fn_out (bad_ev H.length H s (hs s (List.mem_of_getElem? hsx)))
    rw [e'] at he
    by_cases h0 : r < 0
    · have f2 : (r ≥ 0) = False := eq_false (by omega)
      rw [decide_eq_true h0] at hr
      rw [← hr] at hst
      (repeat ((first | refine W_sq ?_ | refine W_bk ?_ | refine W_ret ?_ | refine W_exit ?_ | refine W_skip ?_ | (apply W_rg; focus (intro _; simp only [evalR,runOps,stepOp,wanted,aop,evx,put,unflag,binV,isShift,binStr,AV.elems,AV.unf,AV.int?,AV.mkAgg,D.cells,readCells,readD,List.contains,List.elem,z2,z3,z4,z5,z8,z9,Option.map,intD,boolD,reduceIte,z23,forgetT,z42,z52,z55,z62,b_lss, f1, List.length_map]; (first | done | exact rfl))) | (refine W_cT ?_ ?_; focus (simp only [evx,List.contains,List.elem,z2,z3,AV.unf,reduceIte,z23]; done)) | (refine W_cF ?_ ?_; focus (simp only [evx,List.contains,List.elem,z2,z3,AV.unf,reduceIte,z23,boolD]; done))) <;> (try simp only [seqK])))
      refine W_region ?_; apply WO_take 2; (focus (intro _; simp only [runOps,stepOp,wanted,aop,evx,put,unflag,AV.elems,AV.unf,AV.int?,D.cells,readD,List.contains,List.elem,z2,z3,z4,z5,z7,z10,z11,z14,z15,Option.map,reduceIte,z23,z26,z51,z52,z55,z62,hsx]; (first | done | exact rfl))); simp only [List.drop_succ_cons, List.drop_zero]; refine WO_call ?_; simp only [evx, List.map_cons, List.map_nil, List.contains, List.elem, List.getD_cons_succ, List.getD_cons_zero, reduceIte, Bool.false_eq_true, AV.unf, intD, boolD]; refine Ev.fn he ?_
      (apply WO_end; (focus (intro _; simp only [runOps,stepOp,wanted,aop,evx,put,unflag,binV,isShift,AV.unf,List.contains,List.elem,z2,z3,z4,z5,Option.map,intD,reduceIte,z23,z43,b_geq, f2]; (first | done | exact rfl)))) <;> (try simp only [seqK,forgetT,z4,z5])
      (repeat ((first | refine W_sq ?_ | refine W_bk ?_ | refine W_ret ?_ | refine W_exit ?_ | refine W_skip ?_ | (apply W_rg; focus (intro _; simp only [evalR,runOps,stepOp,wanted,aop,evx,put,unflag,z4,z5,forgetT]; (first | done | exact rfl))) | (refine W_cT ?_ ?_; focus (simp only [evx,List.contains,List.elem,z2,z3,AV.unf,reduceIte,z23]; done)) | (refine W_cF ?_ ?_; focus (simp only [evx,List.contains,List.elem,z2,z3,AV.unf,reduceIte,z23]; done))) <;> (try simp only [seqK])))
      refine W_lp (fun k st => ∃ j : Nat, j ≤ i ∧ k = i - j ∧ (∀ q, q < j → ks[q]? ≠ some s) ∧ ∃ x : Nat → AV, st = ⟨[.d (sD ks), x 1, x 2, x 3, x 4, boolD false, intD i, intD j, x 8, x 9], H⟩) ?_ _ _ ⟨0, Nat.zero_le _, rfl, fun q hq => by omega, ex_st _ _ _ rfl⟩
      rintro k _ ⟨j, hj, rfl, hno, x, rfl⟩
      by_cases t1 : j < i
      · have f3 : ((j : Int) < (i : Int)) = True := eq_true (by omega)
        have w2 : IntKind.i64.wrap ((j : Int) + 1) = ((j + 1 : Nat) : Int) := wsucc (by omega)
        obtain ⟨t, htx⟩ : ∃ t, ks[j]? = some t := ⟨_, List.getElem?_eq_getElem (by omega)⟩
        by_cases h1 : s = t
        · subst h1
          rw [nodup_no hsx htx t1]
          have f4 : (s == s) = true := by simp
          (repeat ((first | refine W_sq ?_ | refine W_bk ?_ | refine W_ret ?_ | refine W_exit ?_ | refine W_skip ?_ | (apply W_rg; focus (intro _; simp only [evalR,runOps,stepOp,wanted,aop,evx,put,unflag,binV,isShift,binStr,AV.elems,AV.unf,AV.int?,D.cells,readD,List.contains,List.elem,z2,z3,z4,z5,z7,z10,z11,z14,z15,Option.map,intD,boolD,reduceIte,z23,forgetT,z26,z29,z42,z51,z52,z55,z62,b_lss, f3, hsx, htx]; (first | done | exact rfl))) | (refine W_cT ?_ ?_; focus (simp only [evx,List.contains,List.elem,z2,z3,AV.unf,reduceIte,z23]; done)) | (refine W_cF ?_ ?_; focus (simp only [evx,List.contains,List.elem,z2,z3,AV.unf,reduceIte,z23,boolD]; done))) <;> (try simp only [seqK,blockK,loopK])))
          exact ans_cut rfl rfl ⟨rfl, rfl⟩
        · have f4 : (s == t) = false := by simpa using h1
          (repeat ((first | refine W_sq ?_ | refine W_bk ?_ | refine W_ret ?_ | refine W_exit ?_ | refine W_skip ?_ | (apply W_rg; focus (intro _; simp only [evalR,runOps,stepOp,wanted,aop,evx,put,unflag,binV,isShift,binStr,AV.elems,AV.unf,AV.int?,D.cells,readD,List.contains,List.elem,z2,z3,z4,z5,z7,z10,z11,z14,z15,Option.map,intD,boolD,reduceIte,z23,forgetT,z26,z29,z42,z51,z52,z55,z62,b_lss, b_add, f3, hsx, htx, f4, w2]; (first | done | exact rfl))) | (refine W_cT ?_ ?_; focus (simp only [evx,List.contains,List.elem,z2,z3,AV.unf,reduceIte,z23]; done)) | (refine W_cF ?_ ?_; focus (simp only [evx,List.contains,List.elem,z2,z3,AV.unf,reduceIte,z23]; done))) <;> (try simp only [seqK,blockK,loopK])))
          refine ⟨i - (j + 1), by omega, j + 1, t1, rfl, fun q hq => ?_, ex_st _ _ _ rfl⟩
          by_cases hqj : q < j
          · exact hno q hqj
          · obtain rfl : q = j := by omega
            rw [htx]; exact fun e => h1 (Option.some.inj e).symm
      · obtain rfl : j = i := by omega
        have f3 : ((j : Int) < (j : Int)) = False := eq_false (by omega)
        (repeat ((first | refine W_sq ?_ | refine W_bk ?_ | refine W_ret ?_ | refine W_exit ?_ | refine W_skip ?_ | (apply W_rg; focus (intro _; simp only [evalR,runOps,stepOp,wanted,aop,evx,put,unflag,binV,isShift,AV.unf,List.contains,List.elem,z2,z3,z4,z5,Option.map,intD,boolD,reduceIte,z23,forgetT,z29,z43,b_lss, b_add, f3, w1]; (first | done | exact rfl))) | (refine W_cT ?_ ?_; focus (simp only [evx,List.contains,List.elem,z2,z3,AV.unf,reduceIte,z23]; done)) | (refine W_cF ?_ ?_; focus (simp only [evx,List.contains,List.elem,z2,z3,AV.unf,reduceIte,z23]; done))) <;> (try simp only [seqK,blockK,loopK,reduceIte,Nat.reduceEqDiff])))
        exact ⟨ks.length - (j + 1), by omega, j + 1, t0, rfl, hst, nodup_step hsx hnd (mem_take_of hno), ex_st _ _ _ rfl⟩
    · have f2 : (r ≥ 0) = True := eq_true (by omega)
      rw [decide_eq_false h0] at hr
      have : namedB ks = false := by unfold namedB; rw [all_no hsx hr.symm]; rfl
      rw [this]
      (repeat ((first | refine W_sq ?_ | refine W_bk ?_ | refine W_ret ?_ | refine W_exit ?_ | refine W_skip ?_ | (apply W_rg; focus (intro _; simp only [evalR,runOps,stepOp,wanted,aop,evx,put,unflag,binV,isShift,binStr,AV.elems,AV.unf,AV.int?,AV.mkAgg,D.cells,readCells,readD,List.contains,List.elem,z2,z3,z4,z5,z8,z9,Option.map,intD,boolD,reduceIte,z23,forgetT,z42,z52,z55,z62,b_lss, f1, List.length_map]; (first | done | exact rfl))) | (refine W_cT ?_ ?_; focus (simp only [evx,List.contains,List.elem,z2,z3,AV.unf,reduceIte,z23]; done)) | (refine W_cF ?_ ?_; focus (simp only [evx,List.contains,List.elem,z2,z3,AV.unf,reduceIte,z23,boolD]; done))) <;> (try simp only [seqK])))
      refine W_region ?_; apply WO_take 2; (focus (intro _; simp only [runOps,stepOp,wanted,aop,evx,put,unflag,AV.elems,AV.unf,AV.int?,D.cells,readD,List.contains,List.elem,z2,z3,z4,z5,z7,z10,z11,z14,z15,Option.map,reduceIte,z23,z26,z51,z52,z55,z62,hsx]; (first | done | exact rfl))); simp only [List.drop_succ_cons, List.drop_zero]; refine WO_call ?_; simp only [evx, List.map_cons, List.map_nil, List.contains, List.elem, List.getD_cons_succ, List.getD_cons_zero, reduceIte, Bool.false_eq_true, AV.unf, intD, boolD]; refine Ev.fn he ?_
      (apply WO_end; (focus (intro _; simp only [runOps,stepOp,wanted,aop,evx,put,unflag,binV,isShift,AV.unf,List.contains,List.elem,z2,z3,z4,z5,Option.map,intD,reduceIte,z23,z42,b_geq, f2]; (first | done | exact rfl)))) <;> (try simp only [seqK,forgetT,z4,z5])
      (repeat ((first | refine W_sq ?_ | refine W_bk ?_ | refine W_ret ?_ | refine W_exit ?_ | refine W_skip ?_ | (apply W_rg; focus (intro _; simp only [evalR,runOps,stepOp,wanted,aop,evx,put,unflag,z4,z5,forgetT]; (first | done | exact rfl))) | (refine W_cT ?_ ?_; focus (simp only [evx,List.contains,List.elem,z2,z3,AV.unf,reduceIte,z23]; done)) | (refine W_cF ?_ ?_; focus (simp only [evx,List.contains,List.elem,z2,z3,AV.unf,reduceIte,z23,boolD]; done))) <;> (try simp only [seqK,blockK,loopK])))
      exact ans_cut rfl rfl ⟨rfl, rfl⟩
  · obtain rfl : i = ks.length := by omega
    have f1 : ((ks.length : Int) < (ks.length : Int)) = False := eq_false (by omega)
    rw [List.take_length] at ha hnd
    have : namedB ks = true := by unfold namedB; rw [ha, decide_eq_true hnd]; rfl
    rw [this]
    (repeat ((first | refine W_sq ?_ | refine W_bk ?_ | refine W_ret ?_ | refine W_exit ?_ | refine W_skip ?_ | (apply W_rg; focus (intro _; simp only [evalR,runOps,stepOp,wanted,aop,evx,put,unflag,binV,isShift,AV.elems,AV.unf,List.contains,List.elem,z2,z3,z4,z5,Option.map,intD,boolD,reduceIte,z23,forgetT,z43,b_lss, f1, List.length_map]; (first | done | exact rfl))) | (refine W_cT ?_ ?_; focus (simp only [evx,List.contains,List.elem,z2,z3,AV.unf,reduceIte,z23]; done)) | (refine W_cF ?_ ?_; focus (simp only [evx,List.contains,List.elem,z2,z3,AV.unf,reduceIte,z23]; done))) <;> (try simp only [seqK,blockK,loopK,reduceIte])))
    exact ans_cut rfl rfl ⟨rfl, rfl⟩

/-- What is in a value itself is short. -/
def Sh (j : J) : Prop := j.t.length ≤ 1000000 ∧ j.ks.length ≤ 100000 ∧ j.l.length ≤ 100000 ∧ ∀ s ∈ j.ks, s.length ≤ 1000000

theorem eq0 (n m : Int) : (n == m) = decide (n = m) := rfl
theorem eqT (s t : Tx) : (s == t) = decide (s = t) := by
  rw [Bool.eq_iff_iff]; simp

set_option maxHeartbeats 1000000 in
--
theorem shapeR_ev (lim : Nat) (H : AHeap) (j : J) (hj : Sh j) : Ev X 56 lim [.d j.d] H (boolD (shapedB j)) H := by
  refine Fn.ev ?_
  refine Fn_of rfl (show code 56 = some c56 from rfl) rfl ?_; simp only [List.length_cons, List.length_nil, Nat.reduceAdd, Nat.reduceSub, List.reduceReplicate, List.cons_append, List.nil_append, reduceIte, Bool.false_eq_true]
  obtain ⟨s1, s2, s3, s4⟩ := hj
  obtain ⟨K, hK⟩ : ∃ K, H ++ [AObj.cells (jC j)] = K := ⟨_, rfl⟩
  have gK : K[H.length]? = some (.cells (jC j)) := by rw [← hK]; exact get_last _ _
  have hjd := jd j
  have w0 : IntKind.i64.wrap ((j.ks.length : Int) + (j.l.length : Int)) = ((j.ks.length + j.l.length : Nat) : Int) := by rw [w64 (by omega) (by omega)]; omega
  have eE : (((j.ks.length + j.l.length : Nat) : Int) == 0) = emptyB j := by rw [eq0]; exact decide_eq_decide.2 (by omega)
  have eN := eq0 j.n 0
  have eN1 := eq0 j.n 1
  have eT := eqT j.t []
  have hr : shapedB j = if j.k = 0 then emptyB j && decide (j.n = 0) && decide (j.t = [])
    else if j.k = 1 then emptyB j && decide (j.t = []) && (decide (j.n = 0) || decide (j.n = 1))
    else if j.k = 2 then emptyB j && decide (j.t = []) && decide (-9007199254740991 ≤ j.n) && decide (j.n ≤ 9007199254740991)
    else if j.k = 3 then emptyB j && decide (j.n = 0) && vB j.t
    else if j.k = 4 then decide (j.ks.length = 0) && decide (j.n = 0) && decide (j.t = [])
    else if j.k = 5 then decide (j.ks.length = j.l.length) && decide (j.n = 0) && decide (j.t = []) && namedB j.ks
    else false := rfl
  rw [hr]
  (iterate 2 ((first | refine W_sq ?_ | refine W_bk ?_ | refine W_ret ?_ | refine W_exit ?_ | refine W_skip ?_ | (apply W_rg; focus (intro _; simp only [evalR,runOps,stepOp,wanted,aop,evx,put,unflag,AV.unf,AV.cells,D.cells,AV.isCell,D.isCell,List.contains,List.elem,z3,z4,z5,z8,z9,z18,z19,reduceIte,z23,forgetT,z34,hjd, hK]; (first | done | exact rfl))) | (refine W_cT ?_ ?_; focus (simp only [evx,List.contains,List.elem,z2,z3,AV.unf,reduceIte,z23,boolD]; done)) | (refine W_cF ?_ ?_; focus (simp only [evx,List.contains,List.elem,z2,z3,AV.unf,reduceIte,z23,boolD]; done))) <;> (try simp only [seqK])))
  (iterate 4 ((first | refine W_sq ?_ | refine W_bk ?_ | refine W_ret ?_ | refine W_exit ?_ | refine W_skip ?_ | (apply W_rg; focus (intro _; simp only [evalR,runOps,stepOp,wanted,aop,evx,put,unflag,binV,isShift,AV.elems,AV.unf,AV.mkAgg,AV.pures,readCells,List.contains,List.elem,z2,z3,z4,z5,z6,z7,z8,z9,z10,z11,z12,z13,z14,z15,Option.map,intD,reduceIte,z23,forgetT,Nat.reduceAdd,Nat.reduceLeDiff,z26,z29,z51,gK, b_add, b_eql, w0, eE, List.length_map]; (first | done | exact rfl))) | (refine W_cT ?_ ?_; focus (simp only [evx,List.contains,List.elem,z2,z3,AV.unf,reduceIte,z23,boolD]; done)) | (refine W_cF ?_ ?_; focus (simp only [evx,List.contains,List.elem,z2,z3,AV.unf,reduceIte,z23,boolD]; done))) <;> (try simp only [seqK])))
  have k0e := eq0 j.k 0
  have k1e := eq0 j.k 1
  have k2e := eq0 j.k 2
  have k3e := eq0 j.k 3
  have k4e := eq0 j.k 4
  have k5e := eq0 j.k 5
  by_cases k0 : j.k = 0
  · rw [if_pos k0]
    rw [decide_eq_true k0] at k0e
    generalize emptyB j = b1 at *
    generalize decide (j.n = 0) = b2 at *
    generalize decide (j.t = []) = b3 at *
    cases b1 <;> cases b2 <;> cases b3 <;> ((repeat ((first | refine W_sq ?_ | refine W_bk ?_ | refine W_ret ?_ | refine W_exit ?_ | refine W_skip ?_ | (apply W_rg; focus (intro _; simp only [evalR,runOps,stepOp,wanted,aop,evx,put,unflag,binV,isShift,binStr,AV.unf,AV.mkAgg,AV.pures,readCells,List.contains,List.elem,z2,z3,z4,z5,z6,z7,z8,z9,z10,z11,z12,z13,z14,z15,Option.map,reduceIte,z23,forgetT,Nat.reduceAdd,Nat.reduceLeDiff,z25,z26,z29,z32,z45,gK, b_eql, k0e, eN, eT]; (first | done | exact rfl))) | (refine W_cT ?_ ?_; focus (simp only [evx,List.contains,List.elem,z2,z3,AV.unf,reduceIte,z23]; done)) | (refine W_cF ?_ ?_; focus (simp only [evx,List.contains,List.elem,z2,z3,AV.unf,reduceIte,z23,boolD]; done))) <;> (try simp only [seqK,blockK]))); exact ans_cut rfl rfl ⟨rfl, rfl⟩)
  rw [if_neg k0]
  rw [decide_eq_false k0] at k0e
  by_cases k1 : j.k = 1
  · rw [if_pos k1]
    rw [decide_eq_true k1] at k1e
    generalize emptyB j = b1 at *
    generalize decide (j.n = 0) = b2 at *
    generalize decide (j.n = 1) = b4 at *
    generalize decide (j.t = []) = b3 at *
    cases b1 <;> cases b2 <;> cases b3 <;> cases b4 <;> ((repeat ((first | refine W_sq ?_ | refine W_bk ?_ | refine W_ret ?_ | refine W_exit ?_ | refine W_skip ?_ | (apply W_rg; focus (intro _; simp only [evalR,runOps,stepOp,wanted,aop,evx,put,unflag,binV,isShift,binStr,AV.unf,AV.mkAgg,AV.pures,readCells,List.contains,List.elem,z2,z3,z4,z5,z6,z7,z8,z9,z10,z11,z12,z13,z14,z15,Option.map,reduceIte,z23,forgetT,Nat.reduceAdd,Nat.reduceLeDiff,z25,z26,z29,z32,z44,z45,gK, b_eql, k0e, k1e, eN, eN1, eT]; (first | done | exact rfl))) | (refine W_cT ?_ ?_; focus (simp only [evx,List.contains,List.elem,z2,z3,AV.unf,reduceIte,z23]; done)) | (refine W_cF ?_ ?_; focus (simp only [evx,List.contains,List.elem,z2,z3,AV.unf,reduceIte,z23]; done))) <;> (try simp only [seqK,blockK]))); exact ans_cut rfl rfl ⟨rfl, rfl⟩)
  rw [if_neg k1]
  rw [decide_eq_false k1] at k1e
  by_cases k2 : j.k = 2
  · rw [if_pos k2]
    rw [decide_eq_true k2] at k2e
    generalize emptyB j = b1 at *
    generalize decide (j.t = []) = b3 at *
    by_cases h2 : -9007199254740991 ≤ j.n
    · have f2 : (j.n ≥ -9007199254740991) = True := eq_true h2
      rw [decide_eq_true h2]
      by_cases h4 : j.n ≤ 9007199254740991
      · have f4 : (j.n ≤ 9007199254740991) = True := eq_true h4
        rw [decide_eq_true h4]
        cases b1 <;> cases b3 <;> ((repeat ((first | refine W_sq ?_ | refine W_bk ?_ | refine W_ret ?_ | refine W_exit ?_ | refine W_skip ?_ | (apply W_rg; focus (intro _; simp only [evalR,runOps,stepOp,wanted,aop,evx,put,unflag,binV,isShift,binStr,AV.unf,AV.mkAgg,AV.pures,readCells,List.contains,List.elem,z2,z3,z4,z5,z6,z7,z8,z9,z10,z11,z12,z13,z14,z15,Option.map,reduceIte,z23,forgetT,Nat.reduceAdd,Nat.reduceLeDiff,z25,z26,z29,z32,z42,z45,gK, b_eql, b_geq, b_leq, k0e, k1e, k2e, f2, f4, eT]; (first | done | exact rfl))) | (refine W_cT ?_ ?_; focus (simp only [evx,List.contains,List.elem,z2,z3,AV.unf,reduceIte,z23]; done)) | (refine W_cF ?_ ?_; focus (simp only [evx,List.contains,List.elem,z2,z3,AV.unf,reduceIte,z23]; done))) <;> (try simp only [seqK,blockK]))); exact ans_cut rfl rfl ⟨rfl, rfl⟩)
      · have f4 : (j.n ≤ 9007199254740991) = False := eq_false h4
        rw [decide_eq_false h4]
        cases b1 <;> cases b3 <;> ((repeat ((first | refine W_sq ?_ | refine W_bk ?_ | refine W_ret ?_ | refine W_exit ?_ | refine W_skip ?_ | (apply W_rg; focus (intro _; simp only [evalR,runOps,stepOp,wanted,aop,evx,put,unflag,binV,isShift,AV.unf,AV.mkAgg,AV.pures,readCells,List.contains,List.elem,z2,z3,z4,z5,z6,z7,z8,z9,z10,z11,z12,z13,z14,z15,Option.map,reduceIte,z23,forgetT,Nat.reduceAdd,Nat.reduceLeDiff,z25,z26,z29,z32,z42,z43,z45,gK, b_eql, b_geq, b_leq, k0e, k1e, k2e, f2, f4]; (first | done | exact rfl))) | (refine W_cT ?_ ?_; focus (simp only [evx,List.contains,List.elem,z2,z3,AV.unf,reduceIte,z23]; done)) | (refine W_cF ?_ ?_; focus (simp only [evx,List.contains,List.elem,z2,z3,AV.unf,reduceIte,z23]; done))) <;> (try simp only [seqK,blockK]))); exact ans_cut rfl rfl ⟨rfl, rfl⟩)
    · have f2 : (j.n ≥ -9007199254740991) = False := eq_false h2
      rw [decide_eq_false h2]
      generalize decide (j.n ≤ 9007199254740991) = b4
      cases b1 <;> cases b3 <;> cases b4 <;> ((repeat ((first | refine W_sq ?_ | refine W_bk ?_ | refine W_ret ?_ | refine W_exit ?_ | refine W_skip ?_ | (apply W_rg; focus (intro _; simp only [evalR,runOps,stepOp,wanted,aop,evx,put,unflag,binV,isShift,AV.unf,AV.mkAgg,AV.pures,readCells,List.contains,List.elem,z2,z3,z4,z5,z6,z7,z8,z9,z10,z11,z12,z13,z14,z15,Option.map,reduceIte,z23,forgetT,Nat.reduceAdd,Nat.reduceLeDiff,z25,z26,z29,z32,z43,z45,gK, b_eql, b_geq, k0e, k1e, k2e, f2]; (first | done | exact rfl))) | (refine W_cT ?_ ?_; focus (simp only [evx,List.contains,List.elem,z2,z3,AV.unf,reduceIte,z23]; done)) | (refine W_cF ?_ ?_; focus (simp only [evx,List.contains,List.elem,z2,z3,AV.unf,reduceIte,z23]; done))) <;> (try simp only [seqK,blockK]))); exact ans_cut rfl rfl ⟨rfl, rfl⟩)
  rw [if_neg k2]
  rw [decide_eq_false k2] at k2e
  by_cases k3 : j.k = 3
  · rw [if_pos k3]
    rw [decide_eq_true k3] at k3e
    obtain ⟨_, K', he, ⟨r, rfl, hrv⟩, e'⟩ := fn_out (bad_ev H.length K j.t s1)
    rw [e'] at he
    generalize emptyB j = b1 at *
    generalize decide (j.n = 0) = b2 at *
    generalize vB j.t = b3 at *
    (iterate 15 ((first | refine W_sq ?_ | refine W_bk ?_ | refine W_ret ?_ | refine W_exit ?_ | refine W_skip ?_ | (apply W_rg; focus (intro _; simp only [evalR,runOps,stepOp,wanted,aop,evx,put,unflag,binV,isShift,AV.unf,AV.mkAgg,AV.pures,readCells,List.contains,List.elem,z2,z3,z4,z5,z7,z8,z9,z10,z11,z13,z14,z15,Option.map,reduceIte,z23,forgetT,Nat.reduceAdd,Nat.reduceLeDiff,z25,z26,z29,gK, b_eql, k0e, k1e, k2e, k3e]; (first | done | exact rfl))) | (refine W_cT ?_ ?_; focus (simp only [evx,List.contains,List.elem,z2,z3,AV.unf,reduceIte,z23]; done)) | (refine W_cF ?_ ?_; focus (simp only [evx,List.contains,List.elem,z2,z3,AV.unf,reduceIte,z23]; done))) <;> (try simp only [seqK])))
    cases b1 <;> cases b2 <;> cases b3 <;> ((apply W_drw; focus (refine Evl.call (he) (Evl.all fun k e1 => ?_); simp (maxSteps := 100000000) only [evalR,runOps,stepOp,wanted,aop,evx,put,unflag,binV,isShift,AV.unf,AV.mkAgg,AV.pures,readCells,List.contains,List.elem,z2,z3,z4,z5,z6,z7,z8,z9,z10,z11,z12,z13,z14,z15,Option.map,intD,reduceIte,z23,forgetT,Nat.reduceAdd,Nat.reduceLeDiff,z26,z29,z32,z45,gK, b_eql, b_lss, eN, hrv, e1]; (first | done | exact rfl))) <;> (try simp only [seqK]); (repeat ((first | refine W_sq ?_ | refine W_bk ?_ | refine W_ret ?_ | refine W_exit ?_ | refine W_skip ?_ | (apply W_rg; focus (intro _; simp only [z0,srcC,AV.growable,AV.owned,evalC,evalR,runOps,stepOp,wanted,aop,evx,put,unflag,binV,nilEq,isShift,binStr,unV,AV.elems,AV.unf,AV.int?,AV.toD,AV.toDs,AV.mkAgg,AV.pures,AV.cells,D.cells,AV.isCell,D.isCell,readCells,readD,optInt,fill,splice,srcOf,z1,List.contains,List.elem,z2,z3,z4,z5,z6,z7,z8,z9,z10,z11,z12,z13,z14,z15,z16,z17,z18,z19,z20,z21,z22,Option.map,intD,boolD,bD,reduceIte,z23,z24,forgetT,Nat.reduceAdd,Nat.reduceLeDiff,Nat.reduceMul,Nat.reduceSub,Nat.reduceEqDiff,Nat.reduceBEq,Nat.reduceBNe,z25,z26,z27,z28,z29,z30,z31,z32,z33,z34,z35,z36,z37,z38,z39,z40,z41,z42,z43,z44,z45,z46,z47,z48,z49,z50,z51,z52,Int.reduceToNat,z53,z54,z55,z56,z57,z58,Int.reduceBEq,Int.reduceBNe,Int.reduceLT,Int.reduceLE,Int.reduceGT,Int.reduceGE,Int.reduceEq,z59,z60,z61,z62,List.reduceReplicate,z63,z64,z65,z66,z67,chunks]; (first | done | exact rfl))) | (refine W_cT ?_ ?_; focus (simp only [evx,List.contains,List.elem,z2,z3,AV.unf,reduceIte,z23,boolD]; done)) | (refine W_cF ?_ ?_; focus (simp only [evx,List.contains,List.elem,z2,z3,AV.unf,reduceIte,z23,boolD]; done))) <;> (try simp only [seqK,blockK]))); exact ans_cut rfl rfl ⟨rfl, rfl⟩)
  rw [if_neg k3]
  rw [decide_eq_false k3] at k3e
  by_cases k4 : j.k = 4
  · rw [if_pos k4]
    rw [decide_eq_true k4] at k4e
    have eE4 : ((j.ks.length : Int) == 0) = decide (j.ks.length = 0) := by rw [eq0]; exact decide_eq_decide.2 (by omega)
    generalize decide (j.ks.length = 0) = b1 at *
    generalize decide (j.n = 0) = b2 at *
    generalize decide (j.t = []) = b3 at *
    cases b1 <;> cases b2 <;> cases b3 <;> ((repeat ((first | refine W_sq ?_ | refine W_bk ?_ | refine W_ret ?_ | refine W_exit ?_ | refine W_skip ?_ | (apply W_rg; focus (intro _; simp only [evalR,runOps,stepOp,wanted,aop,evx,put,unflag,binV,isShift,binStr,AV.elems,AV.unf,AV.mkAgg,AV.pures,readCells,List.contains,List.elem,z2,z3,z4,z5,z6,z7,z8,z9,z10,z11,z12,z13,z14,z15,Option.map,intD,reduceIte,z23,forgetT,Nat.reduceAdd,Nat.reduceLeDiff,z25,z26,z29,z32,z45,gK, b_eql, k0e, k1e, k2e, k3e, k4e, eN, eT, eE4, List.length_map]; (first | done | exact rfl))) | (refine W_cT ?_ ?_; focus (simp only [evx,List.contains,List.elem,z2,z3,AV.unf,reduceIte,z23]; done)) | (refine W_cF ?_ ?_; focus (simp only [evx,List.contains,List.elem,z2,z3,AV.unf,reduceIte,z23]; done))) <;> (try simp only [seqK,blockK]))); exact ans_cut rfl rfl ⟨rfl, rfl⟩)
  rw [if_neg k4]
  rw [decide_eq_false k4] at k4e
  by_cases k5 : j.k = 5
  · rw [if_pos k5]
    rw [decide_eq_true k5] at k5e
    have he := keysR_ev H.length K j.ks s2 s4
    have eE5 : ((j.ks.length : Int) == (j.l.length : Int)) = decide (j.ks.length = j.l.length) := by rw [eq0]; exact decide_eq_decide.2 (by omega)
    generalize decide (j.ks.length = j.l.length) = b1 at *
    generalize decide (j.n = 0) = b2 at *
    generalize decide (j.t = []) = b3 at *
    generalize namedB j.ks = b4 at *
    (iterate 21 ((first | refine W_sq ?_ | refine W_bk ?_ | refine W_ret ?_ | refine W_exit ?_ | refine W_skip ?_ | (apply W_rg; focus (intro _; simp only [evalR,runOps,stepOp,wanted,aop,evx,put,unflag,binV,isShift,AV.unf,AV.mkAgg,AV.pures,readCells,List.contains,List.elem,z2,z3,z4,z5,z7,z8,z9,z10,z11,z13,z14,z15,Option.map,reduceIte,z23,forgetT,Nat.reduceAdd,Nat.reduceLeDiff,z25,z26,z29,gK, b_eql, k0e, k1e, k2e, k3e, k4e, k5e]; (first | done | exact rfl))) | (refine W_cT ?_ ?_; focus (simp only [evx,List.contains,List.elem,z2,z3,AV.unf,reduceIte,z23]; done)) | (refine W_cF ?_ ?_; focus (simp only [evx,List.contains,List.elem,z2,z3,AV.unf,reduceIte,z23]; done))) <;> (try simp only [seqK])))
    cases b1 <;> cases b2 <;> cases b3 <;> cases b4 <;> ((apply W_drw; focus (refine Evl.call (he) (Evl.all fun k e1 => ?_); simp (maxSteps := 100000000) only [evalR,runOps,stepOp,wanted,aop,evx,put,unflag,binV,isShift,binStr,AV.elems,AV.unf,AV.mkAgg,AV.pures,readCells,List.contains,List.elem,z2,z3,z4,z5,z6,z7,z8,z9,z10,z11,z12,z13,z14,z15,Option.map,intD,boolD,reduceIte,z23,forgetT,Nat.reduceAdd,Nat.reduceLeDiff,z26,z29,z32,z45,z51,gK, b_eql, eN, eT, eE5, List.length_map, e1]; (first | done | exact rfl))) <;> (try simp only [seqK]); (repeat ((first | refine W_sq ?_ | refine W_bk ?_ | refine W_ret ?_ | refine W_exit ?_ | refine W_skip ?_ | (apply W_rg; focus (intro _; simp only [z0,srcC,AV.growable,AV.owned,evalC,evalR,runOps,stepOp,wanted,aop,evx,put,unflag,binV,nilEq,isShift,binStr,unV,AV.elems,AV.unf,AV.int?,AV.toD,AV.toDs,AV.mkAgg,AV.pures,AV.cells,D.cells,AV.isCell,D.isCell,readCells,readD,optInt,fill,splice,srcOf,z1,List.contains,List.elem,z2,z3,z4,z5,z6,z7,z8,z9,z10,z11,z12,z13,z14,z15,z16,z17,z18,z19,z20,z21,z22,Option.map,intD,boolD,bD,reduceIte,z23,z24,forgetT,Nat.reduceAdd,Nat.reduceLeDiff,Nat.reduceMul,Nat.reduceSub,Nat.reduceEqDiff,Nat.reduceBEq,Nat.reduceBNe,z25,z26,z27,z28,z29,z30,z31,z32,z33,z34,z35,z36,z37,z38,z39,z40,z41,z42,z43,z44,z45,z46,z47,z48,z49,z50,z51,z52,Int.reduceToNat,z53,z54,z55,z56,z57,z58,Int.reduceBEq,Int.reduceBNe,Int.reduceLT,Int.reduceLE,Int.reduceGT,Int.reduceGE,Int.reduceEq,z59,z60,z61,z62,List.reduceReplicate,z63,z64,z65,z66,z67,chunks]; (first | done | exact rfl))) | (refine W_cT ?_ ?_; focus (simp only [evx,List.contains,List.elem,z2,z3,AV.unf,reduceIte,z23,boolD]; done)) | (refine W_cF ?_ ?_; focus (simp only [evx,List.contains,List.elem,z2,z3,AV.unf,reduceIte,z23,boolD]; done))) <;> (try simp only [seqK,blockK]))); exact ans_cut rfl rfl ⟨rfl, rfl⟩)
  rw [if_neg k5]
  rw [decide_eq_false k5] at k5e
  (repeat ((first | refine W_sq ?_ | refine W_bk ?_ | refine W_ret ?_ | refine W_exit ?_ | refine W_skip ?_ | (apply W_rg; focus (intro _; simp only [evalR,runOps,stepOp,wanted,aop,evx,put,unflag,binV,isShift,AV.unf,AV.mkAgg,AV.pures,readCells,List.contains,List.elem,z2,z3,z4,z5,z7,z8,z9,z10,z11,z13,z14,z15,Option.map,reduceIte,z23,forgetT,Nat.reduceAdd,Nat.reduceLeDiff,z25,z26,z29,gK, b_eql, k0e, k1e, k2e, k3e, k4e, k5e]; (first | done | exact rfl))) | (refine W_cT ?_ ?_; focus (simp only [evx,List.contains,List.elem,z2,z3,AV.unf,reduceIte,z23]; done)) | (refine W_cF ?_ ?_; focus (simp only [evx,List.contains,List.elem,z2,z3,AV.unf,reduceIte,z23]; done))) <;> (try simp only [seqK,blockK])))
  exact ans_cut rfl rfl ⟨rfl, rfl⟩

end Go.Proofs.YtoimlfaiibadgaaDoor
